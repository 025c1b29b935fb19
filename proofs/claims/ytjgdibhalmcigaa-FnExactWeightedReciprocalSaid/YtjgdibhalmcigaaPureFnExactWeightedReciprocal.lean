/- Plain lemmas on the Lean functions that FnExactWeightedReciprocal reaches, and its pure statement. No condition. -/
import Derived.Test.YtjgdibhalmcigaaCWalk
namespace Go.Proofs.Ytjgdibhalmcigaa.C
open Go.RowKit Go.Proofs.YtjgdibhalmcigaaW.PrintWords Go.Proofs.YtjgdibhalmcigaaW.PrintLast Go.Proofs.YtjgdibhalmcigaaW.PrintMore
set_option linter.unusedVariables false
set_option linter.unusedSimpArgs false
theorem w64 {n : Int} (h0 : -9223372036854775808 ≤ n) (h1 : n ≤ 9223372036854775807) : wrap64 n = n := IntWalk.wrap64_in n ⟨h0, h1⟩
theorem fuel {k n : Nat} (h : n < k) : ∃ m, k = m + 1 ∧ n ≤ m := ⟨k - 1, by omega, by omega⟩
theorem rd_nat (l : List Int) (i : Nat) (h : i < l.length) : rd l (i : Int) = l[i] := by
  simp [rd, List.getD_eq_getElem?_getD, h]
theorem rdL1_nat (l : List (List Int)) (i : Nat) (h : i < l.length) : rd_L1 l (i : Int) = l[i] := by
  simp [rd_L1, List.getD_eq_getElem?_getD, h]
theorem take_set {α : Type} (x l : List α) (i : Nat) (hx : x.length = l.length) (hi : i < l.length) (h : x.take i = l.take i) : (x.set i l[i]).take (i + 1) = l.take (i + 1) := by
  apply List.ext_getElem?
  intro j
  rw [List.getElem?_take, List.getElem?_take]
  by_cases hj : j < i + 1
  · rw [if_pos hj, if_pos hj]
    by_cases hji : j = i
    · subst hji
      rw [List.getElem?_set_self (by omega), List.getElem?_eq_getElem hi]
    · rw [List.getElem?_set_ne (by omega)]
      have h2 := congrArg (fun z => z[j]?) h
      simp only [List.getElem?_take] at h2
      rwa [if_pos (by omega), if_pos (by omega)] at h2
  · rw [if_neg hj, if_neg hj]

theorem toInt64S_l0 (l : List Int) (hl : l.length ≤ 35184372088832) : ∀ (d k i : Nat) (x : List Int), l.length - i = d → d < k → i ≤ l.length → x.length = l.length → x.take i = l.take i → laws_toInt64S.l0 k l x i = some l := by
  intro d
  induction d with
  | zero =>
    intro k i x hd hk hi hx ht
    obtain ⟨m, rfl, hm⟩ := fuel hk
    simp only [laws_toInt64S.l0]
    rw [if_neg (by omega)]
    rw [List.take_of_length_le (by omega), List.take_of_length_le (by omega)] at ht
    rw [ht]
  | succ d ih =>
    intro k i x hd hk hi hx ht
    obtain ⟨m, rfl, hm⟩ := fuel hk
    have hil : i < l.length := by omega
    simp only [laws_toInt64S.l0]
    rw [if_pos (by omega), if_pos (by omega), if_pos (by omega), w64 (by omega) (by omega), rd_nat l i hil, Int.toNat_natCast]
    exact ih m (i + 1) _ (by omega) (by omega) (by omega) (by simp [hx]) (take_set x l i hx hil ht)
theorem toInt64S_ev (l : List Int) (hl : l.length ≤ 35184372088832) : Ev (fun k => laws_toInt64S.f k l) l := by
  refine Ev.of (laws_toInt64S.mono l) (k := l.length + 1) ?_
  unfold laws_toInt64S.f
  rw [if_pos (by omega), if_pos (by simpa using hl)]
  exact toInt64S_l0 l hl l.length _ 0 _ (by omega) (by omega) (by omega) (by simp) (by simp)
theorem toInt64SS_l0 (l : List (List Int)) (hl : l.length ≤ 11728124029610) (hx : ∀ x ∈ l, x.length ≤ 35184372088832) : ∀ (d i : Nat) (x : List (List Int)), l.length - i = d → i ≤ l.length → x.length = l.length → x.take i = l.take i → Ev (fun k => laws_toInt64SS.l0 k l x i) l := by
  intro d
  induction d with
  | zero =>
    intro i x hd hi hx ht
    refine Ev.step (fun k => by simp only [laws_toInt64SS.l0]; rfl) ?_
    rw [List.take_of_length_le (by omega), List.take_of_length_le (by omega)] at ht
    simp only [show ¬ ((i : Int) < (l.length : Int)) by omega, if_false, ht]
    exact Ev.now l
  | succ d ih =>
    intro i x hd hi hx' ht
    have hil : i < l.length := by omega
    refine Ev.step (fun k => by simp only [laws_toInt64SS.l0]; rfl) ?_
    simp only [show ((i : Int) < (l.length : Int)) by omega, show (0 : Int) ≤ (i : Int) by omega, show ((i : Int) < (x.length : Int)) by omega, if_true, Int.toNat_natCast, w64 (show -9223372036854775808 ≤ (i : Int) + 1 by omega) (by omega), rdL1_nat l i hil]
    refine Ev.bind (toInt64S_ev l[i] (hx _ (List.getElem_mem hil))) ?_
    exact ih (i + 1) _ (by omega) (by omega) (by simp [hx']) (take_set x l i hx' hil ht)
theorem toInt64SS_ev (l : List (List Int)) (hl : l.length ≤ 11728124029610) (hx : ∀ x ∈ l, x.length ≤ 35184372088832) : Ev (fun k => laws_toInt64SS.f k l) l := by
  unfold laws_toInt64SS.f
  simp only [show (0 : Int) ≤ (l.length : Int) by omega, if_true, Int.toNat_natCast, hl]
  exact toInt64SS_l0 l hl hx l.length 0 _ (by omega) (by omega) (by simp) (by simp)
theorem toGraph_ev (a : Int) (l : List (List Int)) (hl : l.length ≤ 11728124029610) (hx : ∀ x ∈ l, x.length ≤ 35184372088832) : Ev (fun k => laws_toGraph.f k a l) (a, l) := by
  unfold laws_toGraph.f
  exact Ev.bind (toInt64SS_ev l hl hx) (Ev.now _)

theorem szInt64SS_l0 (l : List (List Int)) (hl : l.length ≤ maxLen) (hx : ∀ x ∈ l, x.length ≤ maxLen) : ∀ (d i : Nat) (a : Int), l.length - i = d → i ≤ l.length → 0 ≤ a → a ≤ 1048576 → ∃ r, Ev (fun k => laws_szInt64SS.l0 k l a i) r ∧ r ≤ 1048576 ∧ -1 ≤ r ∧ (0 ≤ r → ∀ x ∈ l.drop i, x.length ≤ 1048576) := by
  unfold maxLen at hl hx
  intro d
  induction d with
  | zero =>
    intro i a hd hi h0 h1
    refine ⟨a, Ev.step (fun k => by simp only [laws_szInt64SS.l0]; rfl) ?_, h1, by omega, fun _ x hx => ?_⟩
    · simp only [show ¬ ((i : Int) < (l.length : Int)) by omega, if_false]
      exact Ev.now _
    · rw [List.drop_of_length_le (by omega)] at hx; simp at hx
  | succ d ih =>
    intro i a hd hi h0 h1
    have hil : i < l.length := by omega
    have hxl := hx _ (List.getElem_mem hil)
    have hs : laws_szInt64S.f l[i] a = some (if a - (l[i].length : Int) < 0 then -1 else a - (l[i].length : Int)) := by
      unfold laws_szInt64S.f
      rw [w64 (by omega) (by omega)]
      split <;> rfl
    by_cases hn : a - (l[i].length : Int) < 0
    · rw [if_pos hn] at hs
      refine ⟨-1, Ev.step (fun k => by simp only [laws_szInt64SS.l0]; rfl) ?_, by omega, by omega, fun h => by omega⟩
      simp only [show ((i : Int) < (l.length : Int)) by omega, show (0 : Int) ≤ (i : Int) by omega, if_true, rdL1_nat l i hil, hs, Option.bind_some]
      exact Ev.now _
    · rw [if_neg hn] at hs
      obtain ⟨r, hr, h2, h3, h4⟩ := ih (i + 1) (a - (l[i].length : Int)) (by omega) (by omega) (by omega) (by omega)
      refine ⟨r, Ev.step (fun k => by simp only [laws_szInt64SS.l0]; rfl) ?_, h2, h3, fun h x hx => ?_⟩
      · simp only [show ((i : Int) < (l.length : Int)) by omega, show (0 : Int) ≤ (i : Int) by omega, if_true, rdL1_nat l i hil, hs, Option.bind_some, hn, if_false, w64 (show -9223372036854775808 ≤ (i : Int) + 1 by omega) (by omega)]
        exact hr
      · rw [List.drop_eq_getElem_cons hil] at hx
        rcases List.mem_cons.1 hx with rfl | hx
        · omega
        · exact h4 h x hx
/-- The sizes that the law lets by. -/
theorem szInt64SS_ev (l : List (List Int)) (a : Int) (ha : 0 ≤ a) (ha1 : a ≤ 1048576) (hl : l.length ≤ maxLen) (hx : ∀ x ∈ l, x.length ≤ maxLen) : ∃ r, Ev (fun k => laws_szInt64SS.f k l a) r ∧ r ≤ 1048576 ∧ -1 ≤ r ∧ (0 ≤ r → l.length ≤ 1048576 ∧ ∀ x ∈ l, x.length ≤ 1048576) := by
  have hl' := hl
  unfold maxLen at hl'
  unfold laws_szInt64SS.f
  rw [w64 (by omega) (by omega)]
  by_cases hn : a - (l.length : Int) < 0
  · refine ⟨-1, ?_, by omega, by omega, fun h => by omega⟩
    simp only [hn, if_true]
    exact Ev.now _
  · obtain ⟨r, hr, h2, h3, h4⟩ := szInt64SS_l0 l hl hx l.length 0 (a - (l.length : Int)) (by omega) (by omega) (by omega) (by omega)
    refine ⟨r, ?_, h2, h3, fun h => ⟨by omega, by simpa using h4 h⟩⟩
    simp only [hn, if_false]
    exact hr
theorem szGraph_ev (s : Int) (l : List (List Int)) (a : Int) (ha : 0 ≤ a) (ha1 : a ≤ 1048576) (hl : l.length ≤ maxLen) (hx : ∀ x ∈ l, x.length ≤ maxLen) : ∃ r, Ev (fun k => laws_szGraph.f k s l a) r ∧ r ≤ 1048576 ∧ -1 ≤ r ∧ (0 ≤ r → l.length ≤ 1048576 ∧ ∀ x ∈ l, x.length ≤ 1048576) := by
  obtain ⟨r, hr, h2, h3, h4⟩ := szInt64SS_ev l a ha ha1 hl hx
  unfold laws_szGraph.f
  by_cases hn : r < 0
  · refine ⟨-1, Ev.bind hr ?_, by omega, by omega, fun h => by omega⟩
    simp only [hn, if_true]
    exact Ev.now _
  · refine ⟨r, Ev.bind hr ?_, h2, h3, h4⟩
    simp only [hn, if_false]
    exact Ev.now _
/-- Equal lists are told equal. -/
theorem eqInt64S_l0 (l : List Int) (hl : l.length ≤ maxLen) : ∀ (d i : Nat), l.length - i = d → i ≤ l.length → Ev (fun k => laws_eqInt64S.l0 k l l i) true := by
  unfold maxLen at hl
  intro d
  induction d with
  | zero =>
    intro i hd hi
    refine Ev.step (fun k => by simp only [laws_eqInt64S.l0]; rfl) ?_
    simp only [show ¬ ((i : Int) < (l.length : Int)) by omega, if_false]
    exact Ev.now _
  | succ d ih =>
    intro i hd hi
    refine Ev.step (fun k => by simp only [laws_eqInt64S.l0]; rfl) ?_
    simp only [show ((i : Int) < (l.length : Int)) by omega, show (0 : Int) ≤ (i : Int) by omega, if_true, w64 (show -9223372036854775808 ≤ (i : Int) + 1 by omega) (by omega)]
    exact ih (i + 1) (by omega) (by omega)
theorem eqInt64S_ev (l : List Int) (hl : l.length ≤ maxLen) : Ev (fun k => laws_eqInt64S.f k l l) true := by
  unfold laws_eqInt64S.f
  simp only [if_true]
  exact eqInt64S_l0 l hl l.length 0 (by omega) (by omega)
theorem eqInt64SS_l0 (l : List (List Int)) (hl : l.length ≤ maxLen) (hx : ∀ x ∈ l, x.length ≤ maxLen) : ∀ (d i : Nat), l.length - i = d → i ≤ l.length → Ev (fun k => laws_eqInt64SS.l0 k l l i) true := by
  unfold maxLen at hl
  intro d
  induction d with
  | zero =>
    intro i hd hi
    refine Ev.step (fun k => by simp only [laws_eqInt64SS.l0]; rfl) ?_
    simp only [show ¬ ((i : Int) < (l.length : Int)) by omega, if_false]
    exact Ev.now _
  | succ d ih =>
    intro i hd hi
    have hil : i < l.length := by omega
    refine Ev.step (fun k => by simp only [laws_eqInt64SS.l0]; rfl) ?_
    simp only [show ((i : Int) < (l.length : Int)) by omega, show (0 : Int) ≤ (i : Int) by omega, if_true, w64 (show -9223372036854775808 ≤ (i : Int) + 1 by omega) (by omega), rdL1_nat l i hil]
    refine Ev.bind (eqInt64S_ev l[i] (hx _ (List.getElem_mem hil))) ?_
    simp only [if_true]
    exact ih (i + 1) (by omega) (by omega)
theorem eqInt64SS_ev (l : List (List Int)) (hl : l.length ≤ maxLen) (hx : ∀ x ∈ l, x.length ≤ maxLen) : Ev (fun k => laws_eqInt64SS.f k l l) true := by
  unfold laws_eqInt64SS.f
  simp only [if_true]
  exact eqInt64SS_l0 l hl hx l.length 0 (by omega) (by omega)
theorem eqGraph_ev (a : Int) (l : List (List Int)) (hl : l.length ≤ maxLen) (hx : ∀ x ∈ l, x.length ≤ maxLen) : Ev (fun k => laws_eqGraph.f k a l a l) true := by
  unfold laws_eqGraph.f
  simp only [if_true]
  refine Ev.bind (eqInt64SS_ev l hl hx) ?_
  simp only [if_true]
  exact Ev.now _
/-! ### what a graph is -/
def endIn (a n : Int) : Bool := decide (0 ≤ n) && decide (n ≤ wrap64 (a - 1))
def edgeIn (a : Int) (e : List Int) : Bool := decide (e.length = 2) && (endIn a (rd e 0) && endIn a (rd e 1))
def isG (a : Int) (l : List (List Int)) : Bool := decide (1 ≤ a) && (decide (a ≤ 8) && (decide (l.length ≤ 10) && l.all (edgeIn a)))
theorem within_eq (a b c : Int) : impl_within.f a b c = some (decide (b ≤ a) && decide (a ≤ c)) := by
  unfold impl_within.f
  by_cases h : b ≤ a <;> simp [h]
theorem l01In_eq (a b c : Int) : spec_l01In.f a b c = some (decide (b ≤ a) && decide (a ≤ c)) := by
  unfold spec_l01In.f
  by_cases h : b ≤ a <;> simp [h]
theorem impl_IsGraph_l0 (a : Int) (l : List (List Int)) (hl : l.length ≤ maxLen) : ∀ (d i : Nat), l.length - i = d → i ≤ l.length → Ev (fun k => impl_IsGraph.l0 k l l.length i a l) ((l.drop i).all (edgeIn a) && (decide (1 ≤ a) && (decide (a ≤ 8) && decide (l.length ≤ 10)))) := by
  unfold maxLen at hl
  intro d
  induction d with
  | zero =>
    intro i hd hi
    refine Ev.step (fun k => by simp only [impl_IsGraph.l0]; rfl) ?_
    simp only [show ¬ ((i : Int) < (l.length : Int)) by omega, if_false, within_eq, Option.bind_some, List.drop_of_length_le (show l.length ≤ i by omega), List.all_nil, Bool.true_and]
    by_cases h1 : 1 ≤ a
    · by_cases h2 : a ≤ 8
      · simp only [h1, h2, decide_true, Bool.true_and, if_true]
        exact Ev.congr (fun k => by congr 1; simp; omega) (Ev.now _)
      · simp only [h1, h2, decide_true, decide_false, Bool.true_and, Bool.false_and, Bool.false_eq_true, if_false]
        exact Ev.now _
    · simp only [h1, decide_false, Bool.false_and, Bool.false_eq_true, if_false]
      exact Ev.now _
  | succ d ih =>
    intro i hd hi
    have hil : i < l.length := by omega
    refine Ev.step (fun k => by simp only [impl_IsGraph.l0]; rfl) ?_
    have hdrop : (l.drop i).all (edgeIn a) = (edgeIn a l[i] && (l.drop (i + 1)).all (edgeIn a)) := by rw [List.drop_eq_getElem_cons hil, List.all_cons]
    rw [hdrop]
    simp only [show ((i : Int) < (l.length : Int)) by omega, show (0 : Int) ≤ (i : Int) by omega, if_true, w64 (show -9223372036854775808 ≤ (i : Int) + 1 by omega) (by omega), rdL1_nat l i hil, within_eq, Option.bind_some]
    unfold edgeIn endIn
    by_cases h2 : l[i].length = 2
    · simp only [h2, decide_true, Bool.true_and, show ((2 : Nat) : Int) = 2 from rfl, if_true, show (0 : Int) < 2 by omega, show (1 : Int) < 2 by omega]
      by_cases h3 : (decide (0 ≤ rd l[i] 0) && decide (rd l[i] 0 ≤ wrap64 (a - 1))) = true
      · by_cases h4 : (decide (0 ≤ rd l[i] 1) && decide (rd l[i] 1 ≤ wrap64 (a - 1))) = true
        · simp only [h3, h4, if_true, Bool.true_and]
          exact ih (i + 1) (by omega) (by omega)
        · simp only [Bool.not_eq_true] at h4
          simp only [h3, h4, if_true, Bool.false_and, Bool.and_false, Bool.false_eq_true, if_false]
          exact Ev.now _
      · simp only [Bool.not_eq_true] at h3
        simp only [h3, Bool.false_and, Bool.false_eq_true, if_false]
        exact Ev.now _
    · simp only [show ¬ ((l[i].length : Int) = 2) by omega, h2, decide_false, Bool.false_and, if_false]
      exact Ev.now _
theorem impl_IsGraph_ev (a : Int) (l : List (List Int)) (hl : l.length ≤ maxLen) : Ev (fun k => impl_IsGraph.f k a l) (isG a l) := by
  unfold impl_IsGraph.f
  have h := impl_IsGraph_l0 a l hl l.length 0 (by omega) (by omega)
  have e : ((l.drop 0).all (edgeIn a) && (decide (1 ≤ a) && (decide (a ≤ 8) && decide (l.length ≤ 10)))) = isG a l := by
    unfold isG
    rw [List.drop_zero]
    cases l.all (edgeIn a) <;> simp
  rw [e] at h
  exact h
theorem spec_l01Is_l0 (a : Int) (l : List (List Int)) (hl : l.length ≤ maxLen) : ∀ (d i : Nat), l.length - i = d → i ≤ l.length → Ev (fun k => spec_l01Is.l0 k i a l) ((l.drop i).all (edgeIn a)) := by
  unfold maxLen at hl
  intro d
  induction d with
  | zero =>
    intro i hd hi
    refine Ev.step (fun k => by simp only [spec_l01Is.l0]; rfl) ?_
    simp only [show ¬ ((i : Int) < (l.length : Int)) by omega, if_false, List.drop_of_length_le (show l.length ≤ i by omega), List.all_nil]
    exact Ev.now _
  | succ d ih =>
    intro i hd hi
    have hil : i < l.length := by omega
    refine Ev.step (fun k => by simp only [spec_l01Is.l0]; rfl) ?_
    have hdrop : (l.drop i).all (edgeIn a) = (edgeIn a l[i] && (l.drop (i + 1)).all (edgeIn a)) := by rw [List.drop_eq_getElem_cons hil, List.all_cons]
    rw [hdrop]
    simp only [show ((i : Int) < (l.length : Int)) by omega, show (0 : Int) ≤ (i : Int) by omega, if_true, w64 (show -9223372036854775808 ≤ (i : Int) + 1 by omega) (by omega), rdL1_nat l i hil, l01In_eq, Option.bind_some]
    unfold edgeIn endIn
    by_cases h2 : l[i].length = 2
    · simp only [h2, decide_true, Bool.true_and, show ((2 : Nat) : Int) = 2 from rfl, if_true, show (0 : Int) < 2 by omega, show (1 : Int) < 2 by omega]
      by_cases h3 : (decide (0 ≤ rd l[i] 0) && decide (rd l[i] 0 ≤ wrap64 (a - 1))) = true
      · by_cases h4 : (decide (0 ≤ rd l[i] 1) && decide (rd l[i] 1 ≤ wrap64 (a - 1))) = true
        · simp only [h3, h4, if_true, Bool.true_and]
          exact ih (i + 1) (by omega) (by omega)
        · simp only [Bool.not_eq_true] at h4
          simp only [h3, h4, if_true, Bool.false_and, Bool.and_false, Bool.false_eq_true, if_false]
          exact Ev.now _
      · simp only [Bool.not_eq_true] at h3
        simp only [h3, Bool.false_and, Bool.false_eq_true, if_false]
        exact Ev.now _
    · simp only [show ¬ ((l[i].length : Int) = 2) by omega, h2, decide_false, Bool.false_and, if_false]
      exact Ev.now _
theorem spec_l01Is_ev (a : Int) (l : List (List Int)) (hl : l.length ≤ maxLen) : Ev (fun k => spec_l01Is.f k a l) (isG a l) := by
  unfold spec_l01Is.f isG
  simp only [l01In_eq, Option.bind_some]
  have hj : ∀ b, Ev (fun k => spec_l01Is.j0 k b a l) (!b && l.all (edgeIn a)) := by
    intro b
    refine Ev.step (fun k => by simp only [spec_l01Is.j0]; rfl) ?_
    cases b with
    | true => simp only [if_true, Bool.not_true, Bool.false_and]; exact Ev.now _
    | false =>
      simp only [Bool.false_eq_true, if_false, Bool.not_false, Bool.true_and]
      exact spec_l01Is_l0 a l hl l.length 0 (by omega) (by omega)
  by_cases h1 : 1 ≤ a
  · by_cases h2 : a ≤ 8
    · simp only [h1, h2, decide_true, Bool.true_and, if_true]
      have h := hj (decide ((l.length : Int) > 10))
      have e : (!decide ((l.length : Int) > 10)) = decide (l.length ≤ 10) := by
        by_cases h : l.length ≤ 10
        · simp [h]; omega
        · simp [h]; omega
      rw [e] at h
      exact h
    · simp only [h1, h2, decide_true, decide_false, Bool.true_and, Bool.false_and, Bool.false_eq_true, if_false]
      exact hj true
  · simp only [h1, decide_false, Bool.false_and, Bool.false_eq_true, if_false]
    exact hj true
def la_sm : Nat → (Nat → Int) → Int
  | 0, _ => 0
  | n+1, f => la_sm n f + f n
theorem la_sm_congr {n : Nat} {f g : Nat → Int} (h : ∀ i, i < n → f i = g i) : la_sm n f = la_sm n g := by
  induction n with
  | zero => rfl
  | succ n ih => simp only [la_sm]; rw [ih (fun i hi => h i (by omega)), h n (by omega)]
theorem la_sm_zero {n : Nat} {f : Nat → Int} (h : ∀ i, i < n → f i = 0) : la_sm n f = 0 := by
  induction n with
  | zero => rfl
  | succ n ih => simp only [la_sm]; rw [ih (fun i hi => h i (by omega)), h n (by omega)]; rfl
theorem la_sm_add (n : Nat) (f g : Nat → Int) : la_sm n (fun i => f i + g i) = la_sm n f + la_sm n g := by
  induction n with
  | zero => rfl
  | succ n ih => simp only [la_sm]; rw [ih]; omega
theorem la_sm_mul (n : Nat) (x : Int) (f : Nat → Int) : la_sm n (fun i => x * f i) = x * la_sm n f := by
  induction n with
  | zero => simp [la_sm]
  | succ n ih => simp only [la_sm]; rw [ih, Int.mul_add]
theorem la_sm_neg (n : Nat) (f : Nat → Int) : la_sm n (fun i => - f i) = - la_sm n f := by
  induction n with
  | zero => rfl
  | succ n ih => simp only [la_sm]; rw [ih]; omega
theorem la_sm_sub (n : Nat) (f g : Nat → Int) : la_sm n (fun i => f i - g i) = la_sm n f - la_sm n g := by
  induction n with
  | zero => rfl
  | succ n ih => simp only [la_sm]; rw [ih]; omega
theorem la_sm_single {n : Nat} {f : Nat → Int} (k : Nat) (hk : k < n) (h : ∀ i, i < n → i ≠ k → f i = 0) : la_sm n f = f k := by
  induction n with
  | zero => omega
  | succ n ih =>
    simp only [la_sm]
    by_cases hkn : k = n
    · subst hkn
      rw [la_sm_zero (fun i hi => h i (by omega) (by omega))]; omega
    · rw [ih (by omega) (fun i hi hne => h i (by omega) hne), h n (by omega) (by omega)]; omega
theorem la_sm_two {n : Nat} {f : Nat → Int} (k l : Nat) (hk : k < n) (hl : l < n) (hkl : k ≠ l) (h : ∀ i, i < n → i ≠ k → i ≠ l → f i = 0) : la_sm n f = f k + f l := by
  have e : la_sm n f = la_sm n (fun i => (if i = k then f k else 0) + (if i = l then f l else 0)) := by
    refine la_sm_congr (fun i hi => ?_)
    by_cases h1 : i = k
    · subst h1; simp [hkl]
    · by_cases h2 : i = l
      · subst h2; simp [h1]
      · simp [h1, h2, h i hi h1 h2]
  rw [e, la_sm_add, la_sm_single k hk (fun i _ hne => by simp [hne]), la_sm_single l hl (fun i _ hne => by simp [hne])]
  simp
theorem la_sm_succ' (n : Nat) (f : Nat → Int) : la_sm (n+1) f = f 0 + la_sm n (fun i => f (i+1)) := by
  induction n with
  | zero => simp [la_sm]
  | succ n ih =>
    rw [show la_sm (n+1+1) f = la_sm (n+1) f + f (n+1) from rfl, ih]
    simp only [la_sm]; omega
theorem la_sm_swap (n m : Nat) (f : Nat → Nat → Int) : la_sm n (fun i => la_sm m (fun j => f i j)) = la_sm m (fun j => la_sm n (fun i => f i j)) := by
  induction n with
  | zero => simp only [la_sm]; rw [la_sm_zero (fun _ _ => rfl)]
  | succ n ih => simp only [la_sm]; rw [ih, la_sm_add]
theorem la_sm_split (n m : Nat) (f : Nat → Int) : la_sm (n + m) f = la_sm n f + la_sm m (fun i => f (n + i)) := by
  induction m with
  | zero => simp [la_sm]
  | succ m ih => rw [← Nat.add_assoc]; simp only [la_sm]; rw [ih]; omega
theorem la_sm_ext {n m : Nat} {f : Nat → Int} (h : n ≤ m) (hz : ∀ i, n ≤ i → i < m → f i = 0) : la_sm m f = la_sm n f := by
  obtain ⟨d, rfl⟩ := Nat.exists_eq_add_of_le h
  rw [la_sm_split, la_sm_zero (n := d) (fun i hi => hz _ (by omega) (by omega))]; omega
theorem la_sm_pairs (n : Nat) (f : Nat → Nat → Int) :
    la_sm (n+1) (fun i => la_sm n (fun j => f i j)) = la_sm (n+1) (fun b => la_sm b (fun a => f b a + f a (b-1))) := by
  induction n with
  | zero => simp [la_sm]
  | succ n ih =>
    rw [show la_sm (n+1+1) (fun b => la_sm b (fun a => f b a + f a (b-1))) = la_sm (n+1) (fun b => la_sm b (fun a => f b a + f a (b-1))) + la_sm (n+1) (fun a => f (n+1) a + f a n) from rfl]
    rw [← ih, la_sm_add]
    rw [show la_sm (n+1+1) (fun i => la_sm (n+1) (fun j => f i j)) = la_sm (n+1) (fun i => la_sm (n+1) (fun j => f i j)) + la_sm (n+1) (fun j => f (n+1) j) from rfl]
    rw [show (fun i => la_sm (n+1) (fun j => f i j)) = (fun i => la_sm n (fun j => f i j) + f i n) from rfl, la_sm_add]
    have : la_sm (n+1) (f (n+1)) = la_sm (n+1) (fun j => f (n+1) j) := rfl
    omega
def la_sk (i a : Nat) : Nat := if a < i then a else a + 1
def la_sg (i : Nat) : Int := if i % 2 = 0 then 1 else -1
theorem la_sg_succ (i : Nat) : la_sg (i+1) = - la_sg i := by
  unfold la_sg; by_cases h : i % 2 = 0
  · rw [if_pos h, if_neg (by omega)]
  · rw [if_neg h, if_pos (by omega)]; rfl
theorem la_sk_lt {i a n : Nat} (hi : i < n + 1) (ha : a < n) : la_sk i a < n + 1 := by unfold la_sk; split <;> omega
def la_det : Nat → (Nat → Nat → Int) → Int
  | 0, _ => 1
  | n+1, M => la_sm (n+1) (fun i => la_sg i * M i 0 * la_det n (fun a b => M (la_sk i a) (b+1)))
theorem la_det_succ (n : Nat) (M : Nat → Nat → Int) : la_det (n+1) M = la_sm (n+1) (fun i => la_sg i * M i 0 * la_det n (fun a b => M (la_sk i a) (b+1))) := rfl
theorem la_det_congr {n : Nat} : ∀ {M N : Nat → Nat → Int}, (∀ a b, a < n → b < n → M a b = N a b) → la_det n M = la_det n N := by
  induction n with
  | zero => intros; rfl
  | succ n ih =>
    intro M N h
    rw [la_det_succ, la_det_succ]
    refine la_sm_congr (fun i hi => ?_)
    rw [h i 0 hi (by omega), ih (fun a b ha hb => h _ _ (la_sk_lt hi ha) (by omega))]
def la_rr (M : Nat → Nat → Int) (i : Nat) (r : Nat → Int) : Nat → Nat → Int := fun a b => if a = i then r b else M a b
def la_rc (M : Nat → Nat → Int) (j : Nat) (c : Nat → Int) : Nat → Nat → Int := fun a b => if b = j then c a else M a b
def la_un (i a : Nat) : Nat := if a < i then a else a - 1
theorem la_sk_eq_iff {i a k : Nat} (h : k ≠ i) : la_sk i a = k ↔ a = la_un i k := by unfold la_sk la_un; split <;> split <;> omega
theorem la_un_lt {i k n : Nat} (hi : i < n + 1) (hk : k < n + 1) (h : k ≠ i) : la_un i k < n := by unfold la_un; split <;> omega
theorem la_sk_ne (i a : Nat) : la_sk i a ≠ i := by unfold la_sk; split <;> omega
theorem la_minor_rr {M : Nat → Nat → Int} {i k : Nat} {r : Nat → Int} (h : k ≠ i) : (fun a b => la_rr M k r (la_sk i a) (b+1)) = la_rr (fun a b => M (la_sk i a) (b+1)) (la_un i k) (fun b => r (b+1)) := by
  funext a b
  unfold la_rr
  by_cases e : la_sk i a = k
  · rw [if_pos e, if_pos ((la_sk_eq_iff h).mp e)]
  · rw [if_neg e, if_neg (fun h' => e ((la_sk_eq_iff h).mpr h'))]
theorem la_minor_rr_self {M : Nat → Nat → Int} {k : Nat} {r : Nat → Int} : (fun a b => la_rr M k r (la_sk k a) (b+1)) = (fun a b => M (la_sk k a) (b+1)) := by
  funext a b
  unfold la_rr
  rw [if_neg (la_sk_ne k a)]
theorem la_det_row_lin {n : Nat} : ∀ (M : Nat → Nat → Int) (k : Nat), k < n → ∀ (x y : Int) (r s : Nat → Int), la_det n (la_rr M k (fun b => x * r b + y * s b)) = x * la_det n (la_rr M k r) + y * la_det n (la_rr M k s) := by
  induction n with
  | zero => intro M k hk; omega
  | succ n ih =>
    intro M k hk x y r s
    rw [la_det_succ, la_det_succ, la_det_succ, ← la_sm_mul, ← la_sm_mul, ← la_sm_add]
    refine la_sm_congr (fun i hi => ?_)
    by_cases e : k = i
    · subst e
      rw [la_minor_rr_self, la_minor_rr_self, la_minor_rr_self]
      simp only [la_rr, if_true]
      generalize la_det n _ = D
      grind
    · rw [la_minor_rr e, la_minor_rr e, la_minor_rr e, ih _ _ (la_un_lt hi hk e)]
      simp only [la_rr, if_neg (Ne.symm e)]
      generalize la_det n _ = D
      generalize la_det n _ = E
      grind
theorem la_det_row_smul {n : Nat} (M : Nat → Nat → Int) (k : Nat) (hk : k < n) (x : Int) (r : Nat → Int) : la_det n (la_rr M k (fun b => x * r b)) = x * la_det n (la_rr M k r) := by
  have := la_det_row_lin M k hk x 0 r r
  simpa using this
theorem la_det_row_add {n : Nat} (M : Nat → Nat → Int) (k : Nat) (hk : k < n) (r s : Nat → Int) : la_det n (la_rr M k (fun b => r b + s b)) = la_det n (la_rr M k r) + la_det n (la_rr M k s) := by
  have := la_det_row_lin M k hk 1 1 r s
  simpa using this
theorem la_rr_self (M : Nat → Nat → Int) (k : Nat) : la_rr M k (M k) = M := by
  funext a b; unfold la_rr; split
  · case _ h => rw [h]
  · rfl
theorem la_rr_comm (M : Nat → Nat → Int) {k l : Nat} (h : k ≠ l) (r s : Nat → Int) : la_rr (la_rr M k r) l s = la_rr (la_rr M l s) k r := by
  funext a b; unfold la_rr; by_cases e : a = l
  · subst e; simp [Ne.symm h]
  · simp [e]
theorem la_det_row_zero {n : Nat} (M : Nat → Nat → Int) (k : Nat) (hk : k < n) (h : ∀ b, b < n → M k b = 0) : la_det n M = 0 := by
  have e : la_det n M = la_det n (la_rr M k (fun b => 0 * M k b)) := by
    refine la_det_congr (fun a b _ hb => ?_)
    unfold la_rr; split
    · case _ h' => rw [h', h b hb]; simp
    · rfl
  rw [e, la_det_row_smul _ _ hk]; simp
theorem la_det_adj {n : Nat} : ∀ (M : Nat → Nat → Int) (k : Nat), k + 1 < n → (∀ b, b < n → M k b = M (k+1) b) → la_det n M = 0 := by
  induction n with
  | zero => intro M k hk; omega
  | succ n ih =>
    intro M k hk h
    rw [la_det_succ, la_sm_two k (k+1) (by omega) hk (by omega)]
    · have e : la_det n (fun a b => M (la_sk k a) (b+1)) = la_det n (fun a b => M (la_sk (k+1) a) (b+1)) := by
        refine la_det_congr (fun a b ha hb => ?_)
        by_cases h1 : a = k
        · subst h1
          have e1 : la_sk a a = a + 1 := by unfold la_sk; split <;> omega
          have e2 : la_sk (a+1) a = a := by unfold la_sk; split <;> omega
          rw [e1, e2, h _ (by omega)]
        · have : la_sk k a = la_sk (k+1) a := by unfold la_sk; split <;> split <;> omega
          rw [this]
      rw [e, la_sg_succ, h 0 (by omega)]
      generalize la_det n _ = D
      grind
    · intro i hi h1 h2
      have : la_det n (fun a b => M (la_sk i a) (b+1)) = 0 := by
        by_cases hik : i < k
        · refine ih _ (k-1) (by omega) (fun b hb => ?_)
          have e1 : la_sk i (k-1) = k := by unfold la_sk; split <;> omega
          have e2 : la_sk i (k-1+1) = k+1 := by unfold la_sk; split <;> omega
          simp only [e1, e2]; exact h _ (by omega)
        · refine ih _ k (by omega) (fun b hb => ?_)
          have e1 : la_sk i k = k := by unfold la_sk; split <;> omega
          have e2 : la_sk i (k+1) = k+1 := by unfold la_sk; split <;> omega
          simp only [e1, e2]; exact h _ (by omega)
      rw [this]; simp
theorem la_det_adj_swap {n : Nat} (M : Nat → Nat → Int) (k : Nat) (hk : k + 1 < n) (r s : Nat → Int) : la_det n (la_rr (la_rr M k r) (k+1) s) = - la_det n (la_rr (la_rr M k s) (k+1) r) := by
  have h0 : la_det n (la_rr (la_rr M k (fun b => r b + s b)) (k+1) (fun b => r b + s b)) = 0 :=
    la_det_adj _ k hk (fun b _ => by simp [la_rr])
  have hr : la_det n (la_rr (la_rr M k r) (k+1) r) = 0 := la_det_adj _ k hk (fun b _ => by simp [la_rr])
  have hs : la_det n (la_rr (la_rr M k s) (k+1) s) = 0 := la_det_adj _ k hk (fun b _ => by simp [la_rr])
  rw [la_det_row_add _ _ hk, la_rr_comm _ (show k ≠ k+1 by omega), la_rr_comm _ (show k ≠ k+1 by omega), la_det_row_add _ _ (by omega), la_det_row_add _ _ (by omega)] at h0
  rw [la_rr_comm _ (show k+1 ≠ k by omega), la_rr_comm _ (show k+1 ≠ k by omega), la_rr_comm _ (show k+1 ≠ k by omega), la_rr_comm _ (show k+1 ≠ k by omega), hr, hs] at h0
  omega
theorem la_det_alt {n : Nat} : ∀ (d : Nat) (M : Nat → Nat → Int) (k : Nat), k + 1 + d < n → (∀ b, b < n → M k b = M (k + 1 + d) b) → la_det n M = 0 := by
  intro d
  induction d with
  | zero => intro M k hk h; exact la_det_adj M k hk h
  | succ d ih =>
    intro M k hk h
    have e : M = la_rr (la_rr M (k+1+d) (M (k+1+d))) (k+1+d+1) (M (k+1+d+1)) := by
      rw [la_rr_self, la_rr_self]
    rw [e, la_det_adj_swap _ _ (by omega)]
    rw [ih _ k (by omega) (fun b hb => ?_)]
    · rfl
    · simp only [la_rr]
      rw [if_neg (by omega), if_neg (by omega), if_neg (by omega), if_pos trivial]
      exact h b hb
theorem la_det_eq_rows {n : Nat} (M : Nat → Nat → Int) (k l : Nat) (hk : k < n) (hl : l < n) (hkl : k ≠ l) (h : ∀ b, b < n → M k b = M l b) : la_det n M = 0 := by
  rcases Nat.lt_or_gt_of_ne hkl with h1 | h1
  · obtain ⟨d, rfl⟩ := Nat.exists_eq_add_of_lt h1
    exact la_det_alt d M k (by omega) (fun b hb => by rw [h b hb]; congr 1; omega)
  · obtain ⟨d, rfl⟩ := Nat.exists_eq_add_of_lt h1
    exact la_det_alt d M l (by omega) (fun b hb => by rw [← h b hb]; congr 1; omega)
theorem la_det_row_addmul {n : Nat} (M : Nat → Nat → Int) (k l : Nat) (hk : k < n) (hl : l < n) (hkl : k ≠ l) (x : Int) : la_det n (la_rr M k (fun b => M k b + x * M l b)) = la_det n M := by
  have h1 := la_det_row_lin M k hk 1 x (M k) (M l)
  have h2 : la_det n (la_rr M k (M l)) = 0 := la_det_eq_rows _ k l hk hl hkl (fun b _ => by simp [la_rr, Ne.symm hkl])
  rw [h2, la_rr_self] at h1
  simpa using h1
theorem la_det_swap {n : Nat} (M : Nat → Nat → Int) (k l : Nat) (hk : k < n) (hl : l < n) (hkl : k ≠ l) : la_det n (la_rr (la_rr M k (M l)) l (M k)) = - la_det n M := by
  have h0 : la_det n (la_rr (la_rr M k (fun b => M k b + M l b)) l (fun b => M k b + M l b)) = 0 :=
    la_det_eq_rows _ k l hk hl hkl (fun b _ => by simp [la_rr, hkl])
  have hr : la_det n (la_rr (la_rr M k (M k)) l (M k)) = 0 := la_det_eq_rows _ k l hk hl hkl (fun b _ => by simp [la_rr, hkl])
  have hs : la_det n (la_rr (la_rr M k (M l)) l (M l)) = 0 := la_det_eq_rows _ k l hk hl hkl (fun b _ => by simp [la_rr, hkl])
  rw [la_det_row_add _ _ hl, la_rr_comm _ hkl, la_rr_comm _ hkl, la_det_row_add _ _ hk, la_det_row_add _ _ hk] at h0
  rw [la_rr_comm _ (Ne.symm hkl), la_rr_comm _ (Ne.symm hkl), la_rr_comm _ (Ne.symm hkl), la_rr_comm _ (Ne.symm hkl), hr, hs, la_rr_self, la_rr_self] at h0
  omega
theorem la_minor_rc {M : Nat → Nat → Int} {i k : Nat} {c : Nat → Int} : (fun a b => la_rc M (k+1) c (la_sk i a) (b+1)) = la_rc (fun a b => M (la_sk i a) (b+1)) k (fun a => c (la_sk i a)) := by
  funext a b
  unfold la_rc
  by_cases e : b = k
  · subst e; simp
  · simp [e]
theorem la_minor_rc0 {M : Nat → Nat → Int} {i : Nat} {c : Nat → Int} : (fun a b => la_rc M 0 c (la_sk i a) (b+1)) = (fun a b => M (la_sk i a) (b+1)) := by
  funext a b; unfold la_rc; simp
theorem la_det_col_lin {n : Nat} : ∀ (M : Nat → Nat → Int) (k : Nat), k < n → ∀ (x y : Int) (r s : Nat → Int), la_det n (la_rc M k (fun b => x * r b + y * s b)) = x * la_det n (la_rc M k r) + y * la_det n (la_rc M k s) := by
  induction n with
  | zero => intro M k hk; omega
  | succ n ih =>
    intro M k hk x y r s
    rw [la_det_succ, la_det_succ, la_det_succ, ← la_sm_mul, ← la_sm_mul, ← la_sm_add]
    refine la_sm_congr (fun i hi => ?_)
    cases k with
    | zero =>
      rw [la_minor_rc0, la_minor_rc0, la_minor_rc0]
      simp only [la_rc, if_true]
      generalize la_det n _ = D
      grind
    | succ k =>
      rw [la_minor_rc, la_minor_rc, la_minor_rc, ih _ _ (by omega)]
      simp only [la_rc, if_neg (show ¬ 0 = k + 1 by omega)]
      generalize la_det n _ = D
      generalize la_det n _ = E
      grind
theorem la_det_col_smul {n : Nat} (M : Nat → Nat → Int) (k : Nat) (hk : k < n) (x : Int) (r : Nat → Int) : la_det n (la_rc M k (fun b => x * r b)) = x * la_det n (la_rc M k r) := by
  have := la_det_col_lin M k hk x 0 r r
  simpa using this
theorem la_det_col_add {n : Nat} (M : Nat → Nat → Int) (k : Nat) (hk : k < n) (r s : Nat → Int) : la_det n (la_rc M k (fun b => r b + s b)) = la_det n (la_rc M k r) + la_det n (la_rc M k s) := by
  have := la_det_col_lin M k hk 1 1 r s
  simpa using this
theorem la_rc_self (M : Nat → Nat → Int) (k : Nat) : la_rc M k (fun a => M a k) = M := by
  funext a b; unfold la_rc; split
  · case _ h => rw [h]
  · rfl
theorem la_rc_comm (M : Nat → Nat → Int) {k l : Nat} (h : k ≠ l) (r s : Nat → Int) : la_rc (la_rc M k r) l s = la_rc (la_rc M l s) k r := by
  funext a b; unfold la_rc; by_cases e : b = l
  · subst e; simp [Ne.symm h]
  · simp [e]
theorem la_det_col_zero {n : Nat} (M : Nat → Nat → Int) (k : Nat) (hk : k < n) (h : ∀ a, a < n → M a k = 0) : la_det n M = 0 := by
  have e : la_det n M = la_det n (la_rc M k (fun a => 0 * M a k)) := by
    refine la_det_congr (fun a b ha _ => ?_)
    unfold la_rc; split
    · case _ h' => rw [h', h a ha]; simp
    · rfl
  rw [e, la_det_col_smul _ _ hk]; simp
theorem la_det_col_adj {n : Nat} : ∀ (M : Nat → Nat → Int) (k : Nat), k + 1 < n → (∀ a, a < n → M a k = M a (k+1)) → la_det n M = 0 := by
  induction n with
  | zero => intro M k hk; omega
  | succ n ih =>
    intro M k hk h
    cases k with
    | succ k =>
      rw [la_det_succ]
      refine la_sm_zero (fun i hi => ?_)
      rw [ih _ k (by omega) (fun a ha => h _ (la_sk_lt hi ha))]; simp
    | zero =>
      obtain ⟨m, rfl⟩ : ∃ m, n = m + 1 := ⟨n - 1, by omega⟩
      rw [la_det_succ]
      have e : la_sm (m+1+1) (fun i => la_sg i * M i 0 * la_det (m+1) (fun a b => M (la_sk i a) (b+1))) = la_sm (m+1+1) (fun i => la_sm (m+1) (fun j => la_sg i * la_sg j * M i 0 * M (la_sk i j) 0 * la_det m (fun a b => M (la_sk i (la_sk j a)) (b+1+1)))) := by
        refine la_sm_congr (fun i hi => ?_)
        rw [la_det_succ, ← la_sm_mul]
        refine la_sm_congr (fun j hj => ?_)
        rw [h (la_sk i j) (la_sk_lt hi hj)]
        generalize la_det m _ = D
        grind
      rw [e, la_sm_pairs]
      refine la_sm_zero (fun b hb => la_sm_zero (fun a ha => ?_))
      have e1 : la_sk b a = a := by unfold la_sk; split <;> omega
      have e2 : la_sk a (b-1) = b := by unfold la_sk; split <;> omega
      have e3 : ∀ c, la_sk b (la_sk a c) = la_sk a (la_sk (b-1) c) := by intro c; unfold la_sk; (repeat' split) <;> omega
      have e4 : la_sg b = - la_sg (b-1) := by rw [← la_sg_succ]; congr 1; omega
      simp only [e1, e2, e3, e4]
      generalize la_det m _ = D
      grind
theorem la_det_col_adj_swap {n : Nat} (M : Nat → Nat → Int) (k : Nat) (hk : k + 1 < n) (r s : Nat → Int) : la_det n (la_rc (la_rc M k r) (k+1) s) = - la_det n (la_rc (la_rc M k s) (k+1) r) := by
  have h0 : la_det n (la_rc (la_rc M k (fun b => r b + s b)) (k+1) (fun b => r b + s b)) = 0 :=
    la_det_col_adj _ k hk (fun b _ => by simp [la_rc])
  have hr : la_det n (la_rc (la_rc M k r) (k+1) r) = 0 := la_det_col_adj _ k hk (fun b _ => by simp [la_rc])
  have hs : la_det n (la_rc (la_rc M k s) (k+1) s) = 0 := la_det_col_adj _ k hk (fun b _ => by simp [la_rc])
  rw [la_det_col_add _ _ hk, la_rc_comm _ (show k ≠ k+1 by omega), la_rc_comm _ (show k ≠ k+1 by omega), la_det_col_add _ _ (by omega), la_det_col_add _ _ (by omega)] at h0
  rw [la_rc_comm _ (show k+1 ≠ k by omega), la_rc_comm _ (show k+1 ≠ k by omega), la_rc_comm _ (show k+1 ≠ k by omega), la_rc_comm _ (show k+1 ≠ k by omega), hr, hs] at h0
  omega
theorem la_det_col_alt {n : Nat} : ∀ (d : Nat) (M : Nat → Nat → Int) (k : Nat), k + 1 + d < n → (∀ b, b < n → M b k = M b (k + 1 + d)) → la_det n M = 0 := by
  intro d
  induction d with
  | zero => intro M k hk h; exact la_det_col_adj M k hk h
  | succ d ih =>
    intro M k hk h
    have e : M = la_rc (la_rc M (k+1+d) (fun a => M a (k+1+d))) (k+1+d+1) (fun a => M a (k+1+d+1)) := by
      rw [la_rc_self, la_rc_self]
    rw [e, la_det_col_adj_swap _ _ (by omega)]
    rw [ih _ k (by omega) (fun b hb => ?_)]
    · rfl
    · simp only [la_rc]
      rw [if_neg (by omega), if_neg (by omega), if_neg (by omega), if_pos trivial]
      exact h b hb
theorem la_det_eq_cols {n : Nat} (M : Nat → Nat → Int) (k l : Nat) (hk : k < n) (hl : l < n) (hkl : k ≠ l) (h : ∀ b, b < n → M b k = M b l) : la_det n M = 0 := by
  rcases Nat.lt_or_gt_of_ne hkl with h1 | h1
  · obtain ⟨d, rfl⟩ := Nat.exists_eq_add_of_lt h1
    exact la_det_col_alt d M k (by omega) (fun b hb => by rw [h b hb]; congr 1; omega)
  · obtain ⟨d, rfl⟩ := Nat.exists_eq_add_of_lt h1
    exact la_det_col_alt d M l (by omega) (fun b hb => by rw [← h b hb]; congr 1; omega)
theorem la_det_col_addmul {n : Nat} (M : Nat → Nat → Int) (k l : Nat) (hk : k < n) (hl : l < n) (hkl : k ≠ l) (x : Int) : la_det n (la_rc M k (fun a => M a k + x * M a l)) = la_det n M := by
  have h1 := la_det_col_lin M k hk 1 x (fun a => M a k) (fun a => M a l)
  have h2 : la_det n (la_rc M k (fun a => M a l)) = 0 := la_det_eq_cols _ k l hk hl hkl (fun b _ => by simp [la_rc, Ne.symm hkl])
  rw [h2, la_rc_self] at h1
  simpa using h1
theorem la_det_col_swap {n : Nat} (M : Nat → Nat → Int) (k l : Nat) (hk : k < n) (hl : l < n) (hkl : k ≠ l) : la_det n (la_rc (la_rc M k (fun a => M a l)) l (fun a => M a k)) = - la_det n M := by
  have h0 : la_det n (la_rc (la_rc M k (fun b => M b k + M b l)) l (fun b => M b k + M b l)) = 0 :=
    la_det_eq_cols _ k l hk hl hkl (fun b _ => by simp [la_rc, hkl])
  have hr : la_det n (la_rc (la_rc M k (fun b => M b k)) l (fun b => M b k)) = 0 := la_det_eq_cols _ k l hk hl hkl (fun b _ => by simp [la_rc, hkl])
  have hs : la_det n (la_rc (la_rc M k (fun b => M b l)) l (fun b => M b l)) = 0 := la_det_eq_cols _ k l hk hl hkl (fun b _ => by simp [la_rc, hkl])
  rw [la_det_col_add _ _ hl, la_rc_comm _ hkl, la_rc_comm _ hkl, la_det_col_add _ _ hk, la_det_col_add _ _ hk] at h0
  rw [la_rc_comm _ (Ne.symm hkl), la_rc_comm _ (Ne.symm hkl), la_rc_comm _ (Ne.symm hkl), la_rc_comm _ (Ne.symm hkl), hr, hs, la_rc_self, la_rc_self] at h0
  omega
theorem la_det_last_row {n : Nat} : ∀ (M : Nat → Nat → Int), (∀ b, b < n → M n b = 0) → la_det (n+1) M = M n n * la_det n M := by
  induction n with
  | zero => intro M _; simp [la_det, la_sm, la_sg]
  | succ n ih =>
    intro M h
    rw [la_det_succ (n+1)]
    rw [show la_sm (n+1+1) (fun i => la_sg i * M i 0 * la_det (n+1) (fun a b => M (la_sk i a) (b+1))) = la_sm (n+1) (fun i => la_sg i * M i 0 * la_det (n+1) (fun a b => M (la_sk i a) (b+1))) + la_sg (n+1) * M (n+1) 0 * la_det (n+1) (fun a b => M (la_sk (n+1) a) (b+1)) from rfl]
    rw [h 0 (by omega)]
    simp only [Int.mul_zero, Int.zero_mul, Int.add_zero]
    rw [la_det_succ n M, ← la_sm_mul]
    refine la_sm_congr (fun i hi => ?_)
    have e : la_sk i n = n + 1 := by unfold la_sk; split <;> omega
    rw [ih _ (fun b hb => by rw [e]; exact h _ (by omega))]
    rw [e]
    generalize la_det n _ = D
    grind
theorem la_det_last_col {n : Nat} : ∀ (M : Nat → Nat → Int), (∀ a, a < n → M a n = 0) → la_det (n+1) M = M n n * la_det n M := by
  induction n with
  | zero => intro M _; simp [la_det, la_sm, la_sg]
  | succ n ih =>
    intro M h
    rw [la_det_succ (n+1)]
    rw [show la_sm (n+1+1) (fun i => la_sg i * M i 0 * la_det (n+1) (fun a b => M (la_sk i a) (b+1))) = la_sm (n+1) (fun i => la_sg i * M i 0 * la_det (n+1) (fun a b => M (la_sk i a) (b+1))) + la_sg (n+1) * M (n+1) 0 * la_det (n+1) (fun a b => M (la_sk (n+1) a) (b+1)) from rfl]
    have z : la_det (n+1) (fun a b => M (la_sk (n+1) a) (b+1)) = 0 := by
      refine la_det_col_zero _ n (by omega) (fun a ha => ?_)
      have e : la_sk (n+1) a = a := by unfold la_sk; split <;> omega
      rw [e]; exact h _ (by omega)
    rw [z]
    simp only [Int.mul_zero, Int.add_zero]
    rw [la_det_succ n M, ← la_sm_mul]
    refine la_sm_congr (fun i hi => ?_)
    have e : la_sk i n = n + 1 := by unfold la_sk; split <;> omega
    rw [ih _ (fun a ha => by exact h _ (la_sk_lt hi (by omega)))]
    rw [e]
    generalize la_det n _ = D
    grind
def la_ee (j b : Nat) : Int := if b = j then 1 else 0
theorem la_ee_self (j : Nat) : la_ee j j = 1 := by simp [la_ee]
theorem la_ee_ne {j b : Nat} (h : b ≠ j) : la_ee j b = 0 := by simp [la_ee, h]
theorem la_det_one (n : Nat) : la_det n (fun a b => la_ee a b) = 1 := by
  induction n with
  | zero => rfl
  | succ n ih => rw [la_det_last_row _ (fun b hb => la_ee_ne (by omega)), ih, la_ee_self]; rfl
theorem la_sm_ee {n : Nat} (x : Nat → Int) (b : Nat) (hb : b < n) : la_sm n (fun j => x j * la_ee j b) = x b := by
  rw [la_sm_single b hb (fun i _ hne => by rw [la_ee_ne (Ne.symm hne)]; simp), la_ee_self]; simp
theorem la_sm_ee' {n : Nat} (x : Nat → Int) (b : Nat) (hb : b < n) : la_sm n (fun j => x j * la_ee b j) = x b := by
  rw [la_sm_single b hb (fun i _ hne => by rw [la_ee_ne hne]; simp), la_ee_self]; simp
theorem la_det_row_sum {n : Nat} (M : Nat → Nat → Int) (i : Nat) (hi : i < n) (m : Nat) (x : Nat → Int) (r : Nat → Nat → Int) :
    la_det n (la_rr M i (fun b => la_sm m (fun j => x j * r j b))) = la_sm m (fun j => x j * la_det n (la_rr M i (r j))) := by
  induction m with
  | zero => exact la_det_row_zero _ i hi (fun b _ => by simp [la_rr, la_sm])
  | succ m ih =>
    simp only [la_sm]
    have := la_det_row_lin M i hi 1 (x m) (fun b => la_sm m (fun j => x j * r j b)) (r m)
    simp only [Int.one_mul] at this
    rw [this, ih]
theorem la_det_col_sum {n : Nat} (M : Nat → Nat → Int) (i : Nat) (hi : i < n) (m : Nat) (x : Nat → Int) (r : Nat → Nat → Int) :
    la_det n (la_rc M i (fun b => la_sm m (fun j => x j * r j b))) = la_sm m (fun j => x j * la_det n (la_rc M i (r j))) := by
  induction m with
  | zero => exact la_det_col_zero _ i hi (fun b _ => by simp [la_rc, la_sm])
  | succ m ih =>
    simp only [la_sm]
    have := la_det_col_lin M i hi 1 (x m) (fun b => la_sm m (fun j => x j * r j b)) (r m)
    simp only [Int.one_mul] at this
    rw [this, ih]
def la_adj (n : Nat) (M : Nat → Nat → Int) (j i : Nat) : Int := la_det n (la_rr M i (la_ee j))
theorem la_adj_right {n : Nat} (M : Nat → Nat → Int) (k i : Nat) (hi : i < n) (hk : k < n) : la_sm n (fun j => M k j * la_adj n M j i) = if k = i then la_det n M else 0 := by
  unfold la_adj
  rw [← la_det_row_sum M i hi n (M k) (fun j => la_ee j)]
  have e : la_det n (la_rr M i (fun b => la_sm n (fun j => M k j * la_ee j b))) = la_det n (la_rr M i (M k)) := by
    refine la_det_congr (fun a b _ hb => ?_)
    unfold la_rr; split
    · exact la_sm_ee (M k) b hb
    · rfl
  rw [e]
  by_cases h : k = i
  · subst h; rw [la_rr_self, if_pos rfl]
  · rw [if_neg h]
    exact la_det_eq_rows _ i k hi hk (Ne.symm h) (fun b _ => by simp [la_rr, h])
theorem la_det_border (r : Nat) (K : Nat → Nat → Int) :
    la_det (r+1) K = K r r * la_det r K - la_sm r (fun j => la_sm r (fun i => K r j * la_adj r K j i * K i r)) := by
  have hrow : la_det (r+1) K = la_sm (r+1) (fun j => K r j * la_det (r+1) (la_rr K r (la_ee j))) := by
    rw [← la_det_row_sum K r (by omega) (r+1) (K r) (fun j => la_ee j)]
    refine la_det_congr (fun a b _ hb => ?_)
    unfold la_rr; split
    · case _ h => exact (by rw [h] : K a b = K r b).trans (la_sm_ee (K r) b hb).symm
    · rfl
  rw [hrow]
  rw [show la_sm (r+1) (fun j => K r j * la_det (r+1) (la_rr K r (la_ee j))) = la_sm r (fun j => K r j * la_det (r+1) (la_rr K r (la_ee j))) + K r r * la_det (r+1) (la_rr K r (la_ee r)) from rfl]
  have hlast : la_det (r+1) (la_rr K r (la_ee r)) = la_det r K := by
    rw [la_det_last_row _ (fun b hb => by simp [la_rr, la_ee]; omega)]
    have : la_rr K r (la_ee r) r r = 1 := by simp [la_rr, la_ee]
    rw [this, Int.one_mul]
    exact la_det_congr (fun a b ha _ => by unfold la_rr; rw [if_neg (by omega)])
  have hj : ∀ j, j < r → la_det (r+1) (la_rr K r (la_ee j)) = - la_sm r (fun i => la_adj r K j i * K i r) := by
    intro j hj
    have hcol : la_det (r+1) (la_rr K r (la_ee j)) = la_sm r (fun i => K i r * la_det (r+1) (la_rc (la_rr K r (la_ee j)) r (la_ee i))) := by
      rw [← la_det_col_sum (la_rr K r (la_ee j)) r (by omega) r (fun i => K i r) (fun i => la_ee i)]
      refine la_det_congr (fun a b ha _ => ?_)
      unfold la_rc; split
      · case _ h =>
        subst h
        by_cases h2 : a = b
        · subst h2
          refine Eq.trans ?_ (la_sm_zero (f := fun i => K i a * la_ee i a) (fun i hi => by rw [la_ee_ne (show a ≠ i by omega)]; simp)).symm
          simp [la_rr, la_ee]; omega
        · refine Eq.trans ?_ (la_sm_ee (fun i => K i b) a (by omega)).symm
          simp [la_rr, h2]
      · rfl
    rw [hcol, ← la_sm_neg]
    refine la_sm_congr (fun i hi => ?_)
    have hs := la_det_swap (la_rc (la_rr K r (la_ee j)) r (la_ee i)) i r (n := r+1) (by omega) (by omega) (by omega)
    have hx : la_det (r+1) (la_rr (la_rr (la_rc (la_rr K r (la_ee j)) r (la_ee i)) i (la_rc (la_rr K r (la_ee j)) r (la_ee i) r)) r (la_rc (la_rr K r (la_ee j)) r (la_ee i) i)) = la_adj r K j i := by
      rw [la_det_last_col]
      · unfold la_adj
        have : la_rr (la_rr (la_rc (la_rr K r (la_ee j)) r (la_ee i)) i (la_rc (la_rr K r (la_ee j)) r (la_ee i) r)) r (la_rc (la_rr K r (la_ee j)) r (la_ee i) i) r r = 1 := by
          simp [la_rr, la_rc, la_ee]
        rw [this, Int.one_mul]
        refine la_det_congr (fun a b ha hb => ?_)
        unfold la_rr la_rc
        have h1 : a ≠ r := by omega
        have h2 : b ≠ r := by omega
        by_cases h3 : a = i
        · subst h3; simp [h1, h2]
        · simp [h1, h2, h3]
      · intro a ha
        have h1 : a ≠ r := by omega
        unfold la_rr la_rc
        by_cases h3 : a = i
        · subst h3; simp [h1, la_ee]; omega
        · simp [h1, h3, la_ee]
    rw [hx] at hs
    have : la_det (r+1) (la_rc (la_rr K r (la_ee j)) r (la_ee i)) = - la_adj r K j i := by omega
    rw [this]; grind
  rw [hlast]
  have e2 : la_sm r (fun j => K r j * la_det (r+1) (la_rr K r (la_ee j))) = - la_sm r (fun j => la_sm r (fun i => K r j * la_adj r K j i * K i r)) := by
    rw [← la_sm_neg]
    refine la_sm_congr (fun j hjr => ?_)
    rw [hj j hjr, Int.mul_neg, ← la_sm_mul]
    congr 1
    exact la_sm_congr (fun i _ => by grind)
  rw [e2]; omega
theorem la_sm_dvd {n : Nat} {f g : Nat → Int} {p : Int} (h : ∀ i, i < n → p ∣ f i - g i) : p ∣ la_sm n f - la_sm n g := by
  rw [← la_sm_sub]
  induction n with
  | zero => exact ⟨0, by simp [la_sm]⟩
  | succ n ih => simp only [la_sm]; exact Int.dvd_add (ih (fun i hi => h i (by omega))) (h n (by omega))
theorem la_mul_dvd_sub {a b c d p : Int} (h1 : p ∣ a - b) (h2 : p ∣ c - d) : p ∣ a * c - b * d := by
  obtain ⟨x, hx⟩ := h1
  obtain ⟨y, hy⟩ := h2
  exact ⟨x * c + b * y, by grind⟩
def la_pv (n : Nat) (c : Nat → Int) (u : Int) : Int := la_sm (n+1) (fun k => c k * u ^ k)
def la_up (c : Nat → Int) : Nat → Int
  | 0 => 0
  | k+1 => c k
theorem la_pv_head (n : Nat) (c : Nat → Int) (u : Int) : la_pv (n+1) c u = c 0 + u * la_pv n (fun k => c (k+1)) u := by
  unfold la_pv
  rw [la_sm_succ', ← la_sm_mul]
  congr 1
  · simp
  · exact la_sm_congr (fun i _ => by rw [Int.pow_succ]; grind)
theorem la_pv_up (n : Nat) (c : Nat → Int) (u : Int) : la_pv (n+1) (la_up c) u = u * la_pv n c u := by
  rw [la_pv_head]; show 0 + u * la_pv n c u = _; omega
theorem la_pv_more {n m : Nat} (c : Nat → Int) (u : Int) (h : n ≤ m) (hz : ∀ k, n < k → c k = 0) : la_pv m c u = la_pv n c u := by
  unfold la_pv
  exact la_sm_ext (by omega) (fun i hi _ => by rw [hz i (by omega)]; simp)
theorem la_pv_add (n : Nat) (c d : Nat → Int) (u : Int) : la_pv n (fun k => c k + d k) u = la_pv n c u + la_pv n d u := by
  unfold la_pv; rw [← la_sm_add]; exact la_sm_congr (fun i _ => by grind)
theorem la_pv_sub (n : Nat) (c d : Nat → Int) (u : Int) : la_pv n (fun k => c k - d k) u = la_pv n c u - la_pv n d u := by
  unfold la_pv; rw [← la_sm_sub]; exact la_sm_congr (fun i _ => by grind)
theorem la_pv_mul (n : Nat) (x : Int) (c : Nat → Int) (u : Int) : la_pv n (fun k => x * c k) u = x * la_pv n c u := by
  unfold la_pv; rw [← la_sm_mul]; exact la_sm_congr (fun i _ => by grind)
theorem la_pv_sm (n m : Nat) (x : Nat → Int) (c : Nat → Nat → Int) (u : Int) : la_pv n (fun k => la_sm m (fun i => x i * c i k)) u = la_sm m (fun i => x i * la_pv n (c i) u) := by
  induction m with
  | zero => simp only [la_sm]; unfold la_pv; exact la_sm_zero (fun _ _ => by simp)
  | succ m ih => simp only [la_sm]; rw [la_pv_add, ih, la_pv_mul]
theorem la_pv_zero {n : Nat} : ∀ {c : Nat → Int}, (∀ u : Int, 1 ≤ u → la_pv n c u = 0) → ∀ k, k ≤ n → c k = 0 := by
  induction n with
  | zero =>
    intro c h k hk
    obtain rfl : k = 0 := by omega
    have := h 1 (by omega); simpa [la_pv, la_sm] using this
  | succ n ih =>
    intro c h k hk
    have h0 : c 0 = 0 := by
      have h1 := h ((c 0).natAbs + 1) (by omega)
      rw [la_pv_head] at h1
      have hd : ((c 0).natAbs + 1 : Int) ∣ c 0 := ⟨- la_pv n (fun k => c (k+1)) ((c 0).natAbs + 1), by rw [Int.mul_neg]; omega⟩
      by_cases hc : c 0 = 0
      · exact hc
      · exfalso
        have := Int.natAbs_dvd_natAbs.mpr hd
        have := Nat.le_of_dvd (by omega) this
        omega
    cases k with
    | zero => exact h0
    | succ k =>
      refine ih (c := fun k => c (k+1)) (fun u hu => ?_) k (by omega)
      have := h u hu
      rw [la_pv_head, h0, Int.zero_add] at this
      rcases Int.mul_eq_zero.mp this with h' | h'
      · omega
      · exact h'
theorem la_pv_inj {n : Nat} {c d : Nat → Int} (h : ∀ u : Int, 1 ≤ u → la_pv n c u = la_pv n d u) (k : Nat) (hk : k ≤ n) : c k = d k := by
  have := la_pv_zero (c := fun k => c k - d k) (n := n) (fun u hu => by rw [la_pv_sub, h u hu]; omega) k hk
  omega
def la_dc : Nat → (Nat → Nat → Int) → (Nat → Nat → Int) → Nat → Int
  | 0, _, _ => fun k => if k = 0 then 1 else 0
  | n+1, P, Q => fun k => la_sm (n+1) (fun i => la_sg i * (P i 0 * la_dc n (fun a b => P (la_sk i a) (b+1)) (fun a b => Q (la_sk i a) (b+1)) k + Q i 0 * la_up (la_dc n (fun a b => P (la_sk i a) (b+1)) (fun a b => Q (la_sk i a) (b+1))) k))
theorem la_dc_succ (n : Nat) (P Q : Nat → Nat → Int) (k : Nat) : la_dc (n+1) P Q k = la_sm (n+1) (fun i => la_sg i * (P i 0 * la_dc n (fun a b => P (la_sk i a) (b+1)) (fun a b => Q (la_sk i a) (b+1)) k + Q i 0 * la_up (la_dc n (fun a b => P (la_sk i a) (b+1)) (fun a b => Q (la_sk i a) (b+1))) k)) := rfl
theorem la_dc_top {n : Nat} : ∀ (P Q : Nat → Nat → Int) (k : Nat), n < k → la_dc n P Q k = 0 := by
  induction n with
  | zero => intro P Q k hk; simp [la_dc]; omega
  | succ n ih =>
    intro P Q k hk
    rw [la_dc_succ]
    refine la_sm_zero (fun i hi => ?_)
    rw [ih _ _ k (by omega)]
    obtain ⟨l, rfl⟩ : ∃ l, k = l + 1 := ⟨k - 1, by omega⟩
    show la_sg i * (P i 0 * 0 + Q i 0 * la_dc n _ _ l) = 0
    rw [ih _ _ l (by omega)]; simp
theorem la_det_pv {n : Nat} : ∀ (P Q : Nat → Nat → Int) (u : Int), la_det n (fun a b => P a b + u * Q a b) = la_pv n (la_dc n P Q) u := by
  induction n with
  | zero => intro P Q u; simp [la_det, la_pv, la_sm, la_dc]
  | succ n ih =>
    intro P Q u
    rw [la_det_succ]
    have e : la_pv (n+1) (la_dc (n+1) P Q) u = la_sm (n+1) (fun i => la_sg i * la_pv (n+1) (fun k => P i 0 * la_dc n (fun a b => P (la_sk i a) (b+1)) (fun a b => Q (la_sk i a) (b+1)) k + Q i 0 * la_up (la_dc n (fun a b => P (la_sk i a) (b+1)) (fun a b => Q (la_sk i a) (b+1))) k) u) := by
      rw [← la_pv_sm]; rfl
    rw [e]
    refine la_sm_congr (fun i hi => ?_)
    rw [ih, la_pv_add, la_pv_mul, la_pv_mul, la_pv_up, la_pv_more _ _ (Nat.le_succ n) (fun k hk => la_dc_top _ _ k hk)]
    grind
def la_z0 : Nat → Int := fun _ => 0
def la_bc (n : Nat) (P Q : Nat → Nat → Int) (j i k : Nat) : Int := la_dc n (la_rr P i (la_ee j)) (la_rr Q i la_z0) k
theorem la_adj_pv (n : Nat) (P Q : Nat → Nat → Int) (u : Int) (j i : Nat) : la_adj n (fun a b => P a b + u * Q a b) j i = la_pv n (la_bc n P Q j i) u := by
  unfold la_adj la_bc
  show _ = la_pv n (la_dc n (la_rr P i (la_ee j)) (la_rr Q i la_z0)) u
  rw [← la_det_pv]
  refine la_det_congr (fun a b _ _ => ?_)
  unfold la_rr la_z0; split <;> simp
theorem la_bc_step (n : Nat) (P Q : Nat → Nat → Int) (k i : Nat) (hk : k < n) (hi : i < n) (m : Nat) (hm : m ≤ n + 1) :
    la_sm n (fun j => P k j * la_bc n P Q j i m) + la_up (fun m => la_sm n (fun j => Q k j * la_bc n P Q j i m)) m = if k = i then la_dc n P Q m else 0 := by
  have h : ∀ u : Int, la_pv (n+1) (fun m => la_sm n (fun j => P k j * la_bc n P Q j i m) + la_up (fun m => la_sm n (fun j => Q k j * la_bc n P Q j i m)) m) u = la_pv (n+1) (fun m => if k = i then la_dc n P Q m else 0) u := by
    intro u
    rw [la_pv_add, la_pv_up, la_pv_sm, la_pv_sm, ← la_sm_mul, ← la_sm_add]
    have h1 := la_adj_right (fun a b => P a b + u * Q a b) k i hi hk
    have h2 : la_sm n (fun j => (P k j + u * Q k j) * la_adj n (fun a b => P a b + u * Q a b) j i) = la_sm n (fun j => P k j * la_pv (n+1) (la_bc n P Q j i) u + u * (Q k j * la_pv n (la_bc n P Q j i) u)) := by
      refine la_sm_congr (fun j _ => ?_)
      rw [la_adj_pv, la_pv_more (n := n) (m := n+1) (la_bc n P Q j i) u (Nat.le_succ n) (fun k hk => la_dc_top _ _ k hk)]
      grind
    rw [← h2, h1]
    by_cases e : k = i
    · simp only [if_pos e]
      rw [la_det_pv, la_pv_more (n := n) (m := n+1) _ _ (Nat.le_succ n) (fun k hk => la_dc_top _ _ k hk)]
    · simp only [if_neg e]
      unfold la_pv; rw [la_sm_zero (fun _ _ => by simp)]
  exact la_pv_inj (fun u _ => h u) m hm
def la_ng (A : Nat → Nat → Int) : Nat → Nat → Int := fun a b => - A a b
def la_cp (n : Nat) (A : Nat → Nat → Int) : Nat → Int := la_dc n (fun a b => la_ee a b) (la_ng A)
def la_flB (n : Nat) (A : Nat → Nat → Int) (c : Nat → Int) : Nat → Nat → Nat → Int
  | 0 => fun _ _ => 0
  | m+1 => fun k i => la_sm n (fun j => A k j * la_flB n A c m j i) + (if k = i then c m else 0)
theorem la_bc_fl (n : Nat) (A : Nat → Nat → Int) (m : Nat) : m ≤ n → ∀ k i, k < n → i < n → la_bc n (fun a b => la_ee a b) (la_ng A) k i m = la_flB n A (la_cp n A) (m+1) k i := by
  induction m with
  | zero =>
    intro _ k i hk hi
    have h := la_bc_step n (fun a b => la_ee a b) (la_ng A) k i hk hi 0 (by omega)
    have e : la_sm n (fun j => la_ee k j * la_bc n (fun a b => la_ee a b) (la_ng A) j i 0) = la_bc n (fun a b => la_ee a b) (la_ng A) k i 0 := by
      rw [← la_sm_ee' (fun j => la_bc n (fun a b => la_ee a b) (la_ng A) j i 0) k hk]; exact la_sm_congr (fun j _ => by grind)
    rw [e] at h
    simp only [la_flB, la_up] at h ⊢
    rw [la_sm_zero (fun _ _ => by simp)]
    unfold la_cp; omega
  | succ m ih =>
    intro hm k i hk hi
    have h := la_bc_step n (fun a b => la_ee a b) (la_ng A) k i hk hi (m+1) (by omega)
    have e : la_sm n (fun j => la_ee k j * la_bc n (fun a b => la_ee a b) (la_ng A) j i (m+1)) = la_bc n (fun a b => la_ee a b) (la_ng A) k i (m+1) := by
      rw [← la_sm_ee' (fun j => la_bc n (fun a b => la_ee a b) (la_ng A) j i (m+1)) k hk]; exact la_sm_congr (fun j _ => by grind)
    rw [e] at h
    have e2 : la_up (fun m => la_sm n (fun j => la_ng A k j * la_bc n (fun a b => la_ee a b) (la_ng A) j i m)) (m+1) = - la_sm n (fun j => A k j * la_flB n A (la_cp n A) (m+1) j i) := by
      show la_sm n (fun j => la_ng A k j * la_bc n (fun a b => la_ee a b) (la_ng A) j i m) = _
      rw [← la_sm_neg]
      refine la_sm_congr (fun j hj => ?_)
      rw [ih (by omega) j i hj hi]; unfold la_ng; grind
    rw [e2] at h
    show _ = la_sm n (fun j => A k j * la_flB n A (la_cp n A) (m+1) j i) + (if k = i then la_cp n A (m+1) else 0)
    unfold la_cp at *; omega
theorem la_cp_zero (n : Nat) (A : Nat → Nat → Int) : la_cp n A 0 = 1 := by
  have h := la_det_pv (n := n) (fun a b => la_ee a b) (la_ng A) 0
  have e : la_det n (fun a b => la_ee a b + 0 * la_ng A a b) = la_det n (fun a b => la_ee a b) := la_det_congr (fun a b _ _ => by simp)
  rw [e, la_det_one] at h
  unfold la_pv at h
  rw [la_sm_succ', la_sm_zero (fun i _ => by rw [Int.pow_succ]; simp)] at h
  unfold la_cp; simpa using h.symm
def la_colp (r : Nat) (A : Nat → Nat → Int) (C : Nat → Int) : Nat → Nat → Int
  | 0 => C
  | k+1 => fun i => la_sm r (fun j => A i j * la_colp r A C k j)
theorem la_fl_col (r : Nat) (A : Nat → Nat → Int) (c C : Nat → Int) (m : Nat) : ∀ i, i < r → la_sm r (fun j => la_flB r A c (m+1) i j * C j) = la_sm (m+1) (fun l => c l * la_colp r A C (m-l) i) := by
  induction m with
  | zero =>
    intro i hi
    simp only [la_flB, la_sm, la_colp, Nat.sub_zero, Int.zero_add]
    rw [la_sm_congr (g := fun j => (c 0 * C j) * la_ee i j) (fun j _ => by
      rw [la_sm_zero (fun _ _ => by simp)]; unfold la_ee; by_cases h : i = j
      · simp [h]
      · simp [h, Ne.symm h])]
    rw [la_sm_ee' (fun j => c 0 * C j) i hi]
  | succ m ih =>
    intro i hi
    have e1 : la_sm r (fun j => la_flB r A c (m+1+1) i j * C j) = la_sm r (fun j => la_sm r (fun l => A i l * la_flB r A c (m+1) l j) * C j) + c (m+1) * C i := by
      rw [← la_sm_ee' (fun j => c (m+1) * C j) i hi, ← la_sm_add]
      refine la_sm_congr (fun j _ => ?_)
      show (la_sm r (fun l => A i l * la_flB r A c (m+1) l j) + (if i = j then c (m+1) else 0)) * C j = _
      unfold la_ee; by_cases h : i = j
      · simp only [if_pos h, if_pos h.symm]; grind
      · simp only [if_neg h, if_neg (Ne.symm h)]; grind
    have e2 : la_sm r (fun j => la_sm r (fun l => A i l * la_flB r A c (m+1) l j) * C j) = la_sm r (fun l => A i l * la_sm r (fun j => la_flB r A c (m+1) l j * C j)) := by
      rw [la_sm_congr (g := fun j => la_sm r (fun l => A i l * (la_flB r A c (m+1) l j * C j))) (fun j _ => by
        rw [Int.mul_comm, ← la_sm_mul]; exact la_sm_congr (fun l _ => by grind))]
      rw [la_sm_swap]
      exact la_sm_congr (fun l _ => by rw [la_sm_mul])
    rw [e1, e2]
    rw [la_sm_congr (g := fun l => A i l * la_sm (m+1) (fun t => c t * la_colp r A C (m-t) l)) (fun l hl => by rw [ih l hl])]
    show _ = la_sm (m+1) (fun l => c l * la_colp r A C (m+1-l) i) + c (m+1) * la_colp r A C (m+1-(m+1)) i
    rw [Nat.sub_self]
    have e3 : la_sm r (fun l => A i l * la_sm (m+1) (fun t => c t * la_colp r A C (m-t) l)) = la_sm (m+1) (fun l => c l * la_colp r A C (m+1-l) i) := by
      rw [la_sm_congr (g := fun l => la_sm (m+1) (fun t => c t * (A i l * la_colp r A C (m-t) l))) (fun l _ => by
        rw [← la_sm_mul]; exact la_sm_congr (fun t _ => by grind))]
      rw [la_sm_swap]
      refine la_sm_congr (fun t ht => ?_)
      rw [la_sm_mul]
      have : m + 1 - t = (m - t) + 1 := by omega
      rw [this]; rfl
    rw [e3]; rfl
def la_turnB (r : Nat) (A : Nat → Nat → Int) : Nat → Int
  | 0 => 1
  | 1 => - A r r
  | k+2 => - la_sm r (fun i => A r i * la_colp r A (fun i => A i r) k i)
theorem la_cp_berkowitz (r : Nat) (A : Nat → Nat → Int) (m : Nat) (hm : m ≤ r + 1) : la_cp (r+1) A m = la_sm (m+1) (fun l => la_turnB r A (m-l) * la_cp r A l) := by
  have h : ∀ u : Int, la_pv (r+2) (la_cp (r+1) A) u = la_pv (r+2) (fun m => la_cp r A m + (- A r r) * la_up (la_cp r A) m + (-1) * la_up (la_up (fun k => la_sm r (fun j => A r j * la_sm r (fun i => A i r * la_bc r (fun a b => la_ee a b) (la_ng A) j i k)))) m) u := by
    intro u
    rw [la_pv_add, la_pv_add, la_pv_mul, la_pv_mul, la_pv_up, la_pv_up, la_pv_up]
    rw [la_pv_more (n := r+1) (m := r+2) (la_cp (r+1) A) u (by omega) (fun k hk => la_dc_top _ _ k hk)]
    rw [la_pv_more (n := r) (m := r+2) (la_cp r A) u (by omega) (fun k hk => la_dc_top _ _ k hk)]
    rw [la_pv_more (n := r) (m := r+1) (la_cp r A) u (by omega) (fun k hk => la_dc_top _ _ k hk)]
    rw [la_pv_sm]
    rw [la_sm_congr (g := fun j => A r j * la_sm r (fun i => A i r * la_adj r (fun a b => la_ee a b + u * la_ng A a b) j i)) (fun j _ => by
      rw [la_pv_sm]; congr 1; exact la_sm_congr (fun i _ => by rw [la_adj_pv]))]
    unfold la_cp
    rw [← la_det_pv, ← la_det_pv, la_det_border]
    have e : la_sm r (fun j => la_sm r (fun i => (la_ee r j + u * la_ng A r j) * la_adj r (fun a b => la_ee a b + u * la_ng A a b) j i * (la_ee i r + u * la_ng A i r))) = u * (u * la_sm r (fun j => A r j * la_sm r (fun i => A i r * la_adj r (fun a b => la_ee a b + u * la_ng A a b) j i))) := by
      rw [← la_sm_mul, ← la_sm_mul]
      refine la_sm_congr (fun j hj => ?_)
      rw [← la_sm_mul, ← la_sm_mul, ← la_sm_mul]
      refine la_sm_congr (fun i hi => ?_)
      rw [la_ee_ne (show j ≠ r by omega), la_ee_ne (show r ≠ i by omega)]
      unfold la_ng; grind
    rw [e, la_ee_self]
    unfold la_ng
    grind
  rw [la_pv_inj (fun u _ => h u) m (by omega)]
  cases m with
  | zero => simp [la_up, la_sm, la_turnB]
  | succ m =>
    cases m with
    | zero => simp [la_up, la_sm, la_turnB]; omega
    | succ m =>
      show la_cp r A (m+2) + (- A r r) * la_cp r A (m+1) + (-1) * la_sm r (fun j => A r j * la_sm r (fun i => A i r * la_bc r (fun a b => la_ee a b) (la_ng A) j i m)) = la_sm (m+1) (fun l => la_turnB r A (m+2-l) * la_cp r A l) + la_turnB r A (m+2-(m+1)) * la_cp r A (m+1) + la_turnB r A (m+2-(m+2)) * la_cp r A (m+2)
      have e1 : m + 2 - (m+1) = 1 := by omega
      have e2 : m + 2 - (m+2) = 0 := by omega
      rw [e1, e2]
      have e3 : la_sm r (fun j => A r j * la_sm r (fun i => A i r * la_bc r (fun a b => la_ee a b) (la_ng A) j i m)) = - la_sm (m+1) (fun l => la_turnB r A (m+2-l) * la_cp r A l) := by
        rw [la_sm_congr (g := fun j => A r j * la_sm (m+1) (fun l => la_cp r A l * la_colp r A (fun i => A i r) (m-l) j)) (fun j hj => by
          rw [← la_fl_col r A (la_cp r A) (fun i => A i r) m j hj]
          congr 1
          exact la_sm_congr (fun i hi => by rw [la_bc_fl r A m (by omega) j i hj hi]; grind))]
        rw [la_sm_congr (g := fun j => la_sm (m+1) (fun l => la_cp r A l * (A r j * la_colp r A (fun i => A i r) (m-l) j))) (fun j _ => by
          rw [← la_sm_mul]; exact la_sm_congr (fun l _ => by grind))]
        rw [la_sm_swap, ← la_sm_neg]
        refine la_sm_congr (fun l hl => ?_)
        rw [la_sm_mul]
        have : m + 2 - l = (m - l) + 2 := by omega
        rw [this]
        show _ = -(- la_sm r (fun i => A r i * la_colp r A (fun i => A i r) (m-l) i) * la_cp r A l)
        grind
      rw [e3]
      show la_cp r A (m+2) + (- A r r) * la_cp r A (m+1) + (-1) * _ = _ + (- A r r) * la_cp r A (m+1) + 1 * la_cp r A (m+2)
      grind
def la_un1 (u : Int) (H : Nat → Nat → Int) : Nat → Nat → Int := fun a b => la_ee a b - u * H a b
theorem la_ee_iff (a b : Nat) : la_ee a b = if a = b then 1 else 0 := by unfold la_ee; by_cases h : a = b <;> simp [h, eq_comm]
theorem la_det_similar {n : Nat} (H : Nat → Nat → Int) (i m : Nat) (hi : i < n) (hm : m < n) (him : i ≠ m) (t u : Int) :
    la_det n (la_un1 u (fun a b => (if a = i then H a b - t * H m b else H a b) + (if b = m then t * (if a = i then H a i - t * H m i else H a i) else 0))) = la_det n (la_un1 u H) := by
  let N : Nat → Nat → Int := la_rr (la_un1 u H) i (fun b => la_un1 u H i b + (-t) * la_un1 u H m b)
  have h1 : la_det n N = la_det n (la_un1 u H) := la_det_row_addmul (la_un1 u H) i m hi hm him (-t)
  have h2 := la_det_col_addmul N m i hm hi (Ne.symm him) t
  rw [← h1, ← h2]
  refine la_det_congr (fun a b _ _ => ?_)
  show _ = (if b = m then N a m + t * N a i else N a b)
  have hN : ∀ a b, N a b = la_ee a b - u * H a b + (if a = i then (-t) * (la_ee m b - u * H m b) else 0) := by
    intro a b
    show (if a = i then (la_ee i b - u * H i b) + (-t) * (la_ee m b - u * H m b) else la_ee a b - u * H a b) = _
    by_cases h : a = i
    · subst h; simp
    · simp [h]
  rw [hN, hN, hN]
  unfold la_un1
  by_cases hb : b = m
  · subst hb
    simp only [if_true]
    by_cases ha : a = i
    · subst ha
      simp only [if_true]
      rw [la_ee_self, la_ee_self, la_ee_ne (show a ≠ b from him), la_ee_ne (show b ≠ a from Ne.symm him)]
      grind
    · simp only [if_neg ha]
      rw [la_ee_ne (show i ≠ a from Ne.symm ha)]
      grind
  · simp only [if_neg hb]
    by_cases ha : a = i
    · subst ha
      simp only [if_true]
      rw [la_ee_ne (show b ≠ m from hb)]
      grind
    · simp only [if_neg ha, Int.add_zero]
def la_sw (i m a : Nat) : Nat := if a = i then m else if a = m then i else a
theorem la_det_similar_swap {n : Nat} (H : Nat → Nat → Int) (i m : Nat) (hi : i < n) (hm : m < n) (u : Int) :
    la_det n (la_un1 u (fun a b => H (la_sw i m a) (la_sw i m b))) = la_det n (la_un1 u H) := by
  by_cases him : i = m
  · subst him
    refine la_det_congr (fun a b _ _ => ?_)
    have : ∀ a, la_sw i i a = a := by intro a; unfold la_sw; split <;> simp_all
    simp only [la_un1, this]
  · have h1 := la_det_swap (la_un1 u H) i m hi hm him
    have h2 := la_det_col_swap (la_rr (la_rr (la_un1 u H) i (la_un1 u H m)) m (la_un1 u H i)) i m hi hm him
    have h3 : la_det n (la_un1 u (fun a b => H (la_sw i m a) (la_sw i m b))) = la_det n (la_rc (la_rc (la_rr (la_rr (la_un1 u H) i (la_un1 u H m)) m (la_un1 u H i)) i (fun a => la_rr (la_rr (la_un1 u H) i (la_un1 u H m)) m (la_un1 u H i) a m)) m (fun a => la_rr (la_rr (la_un1 u H) i (la_un1 u H m)) m (la_un1 u H i) a i)) := by
      refine la_det_congr (fun a b _ _ => ?_)
      have e : ∀ a b, la_rr (la_rr (la_un1 u H) i (la_un1 u H m)) m (la_un1 u H i) a b = la_un1 u H (la_sw i m a) b := by
        intro a b
        unfold la_rr la_sw
        by_cases g1 : a = m
        · subst g1; simp [Ne.symm him]
        · by_cases g2 : a = i
          · subst g2; rw [if_neg g1, if_pos rfl, if_pos rfl]
          · simp [g1, g2]
      have e2 : ∀ a b, la_un1 u H (la_sw i m a) (la_sw i m b) = la_un1 u (fun a b => H (la_sw i m a) (la_sw i m b)) a b := by
        intro a b
        unfold la_un1
        congr 1
        rw [la_ee_iff, la_ee_iff]
        have : la_sw i m a = la_sw i m b ↔ a = b := by
          unfold la_sw
          constructor
          · intro h
            by_cases h1 : a = i <;> by_cases h2 : a = m <;> by_cases h3 : b = i <;> by_cases h4 : b = m <;> simp_all
          · rintro rfl; rfl
        simp only [this]
      unfold la_rc
      simp only [e]
      rw [← e2]
      by_cases g1 : b = m
      · subst g1
        have : la_sw i b b = i := by unfold la_sw; rw [if_neg (Ne.symm him), if_pos rfl]
        rw [this, if_pos rfl]
      · by_cases g2 : b = i
        · subst g2
          have : la_sw b m b = m := by unfold la_sw; rw [if_pos rfl]
          rw [this, if_neg g1, if_pos rfl]
        · have : la_sw i m b = b := by unfold la_sw; rw [if_neg g2, if_neg g1]
          rw [this, if_neg g1, if_neg g2]
    omega
def la_subp (M : Nat → Nat → Int) (i : Nat) : Nat → Int
  | 0 => 1
  | d+1 => la_subp M i d * (- M (i+d+1) (i+d))
theorem la_hess_adj (M : Nat → Nat → Int) (d : Nat) : ∀ i, (∀ a b, b + 1 < a → a ≤ i + d → M a b = 0) → la_det (i+d+1) (la_rr M i (la_ee (i+d))) = la_subp M i d * la_det i M := by
  induction d with
  | zero =>
    intro i _
    rw [la_det_last_row _ (fun b hb => by simp only [la_rr, if_true]; exact la_ee_ne (by omega))]
    have : la_rr M i (la_ee (i+0)) (i+0) (i+0) = 1 := by simp [la_rr, la_ee]
    show la_rr M i (la_ee (i+0)) (i+0) (i+0) * la_det i (la_rr M i (la_ee i)) = 1 * la_det i M
    rw [this]
    rw [la_det_congr (fun a b ha _ => by unfold la_rr; rw [if_neg (by omega)])]
  | succ d ih =>
    intro i hz
    have hrow : la_det (i+(d+1)+1) (la_rr M i (la_ee (i+(d+1)))) = la_det (i+(d+1)+1) (la_rr (la_rr M i (la_ee (i+(d+1)))) (i+(d+1)) (fun b => M (i+(d+1)) (i+d) * la_ee (i+d) b)) := by
      rw [← la_det_row_addmul (la_rr M i (la_ee (i+(d+1)))) (i+(d+1)) i (by omega) (by omega) (by omega) (- M (i+(d+1)) (i+(d+1)))]
      refine la_det_congr (fun a b _ hb => ?_)
      unfold la_rr
      by_cases h : a = i + (d+1)
      · subst h
        simp only [if_true, if_neg (show ¬ i + (d+1) = i by omega)]
        by_cases h1 : b = i + (d+1)
        · subst h1; rw [la_ee_self, la_ee_ne (show i+(d+1) ≠ i+d by omega)]; omega
        · rw [la_ee_ne h1]
          by_cases h2 : b = i + d
          · subst h2; rw [la_ee_self]; omega
          · rw [la_ee_ne h2, hz _ b (by omega) (by omega)]; omega
      · rw [if_neg h, if_neg h]
    rw [hrow, la_det_row_smul _ _ (by omega)]
    have hs := la_det_swap (la_rr (la_rr M i (la_ee (i+(d+1)))) (i+(d+1)) (la_ee (i+d))) i (i+(d+1)) (n := i+(d+1)+1) (by omega) (by omega) (by omega)
    have e : la_det (i+(d+1)+1) (la_rr (la_rr (la_rr (la_rr M i (la_ee (i+(d+1)))) (i+(d+1)) (la_ee (i+d))) i (la_rr (la_rr M i (la_ee (i+(d+1)))) (i+(d+1)) (la_ee (i+d)) (i+(d+1)))) (i+(d+1)) (la_rr (la_rr M i (la_ee (i+(d+1)))) (i+(d+1)) (la_ee (i+d)) i)) = la_subp M i d * la_det i M := by
      rw [la_det_last_row _ (fun b hb => by
        simp only [la_rr, if_true]; rw [if_neg (show ¬ i = i + (d+1) by omega)]; exact la_ee_ne (by omega))]
      have v : la_rr (la_rr (la_rr (la_rr M i (la_ee (i+(d+1)))) (i+(d+1)) (la_ee (i+d))) i (la_rr (la_rr M i (la_ee (i+(d+1)))) (i+(d+1)) (la_ee (i+d)) (i+(d+1)))) (i+(d+1)) (la_rr (la_rr M i (la_ee (i+(d+1)))) (i+(d+1)) (la_ee (i+d)) i) (i+(d+1)) (i+(d+1)) = 1 := by
        simp only [la_rr, if_true]; rw [if_neg (show ¬ i = i + (d+1) by omega)]; exact la_ee_self _
      rw [v, Int.one_mul]
      have := ih i (fun a b h1 h2 => hz a b h1 (by omega))
      rw [← this]
      refine la_det_congr (fun a b ha _ => ?_)
      unfold la_rr
      have h1 : a ≠ i + (d+1) := by omega
      by_cases h2 : a = i
      · subst h2; simp
      · simp [h1, h2]
    rw [e] at hs
    show _ = la_subp M i d * (- M (i+d+1) (i+d)) * la_det i M
    have hx : la_det (i+(d+1)+1) (la_rr (la_rr M i (la_ee (i+(d+1)))) (i+(d+1)) (la_ee (i+d))) = - (la_subp M i d * la_det i M) := by omega
    rw [hx]
    show M (i+d+1) (i+d) * _ = _
    grind
theorem la_hess_step (M : Nat → Nat → Int) (k : Nat) (hz : ∀ a b, b + 1 < a → a ≤ k → M a b = 0) :
    la_det (k+1) M = M k k * la_det k M + la_sm k (fun i => la_subp M i (k-i) * M i k * la_det i M) := by
  rw [la_det_border]
  cases k with
  | zero => simp [la_sm]
  | succ k =>
    have e : la_sm (k+1) (fun j => la_sm (k+1) (fun i => M (k+1) j * la_adj (k+1) M j i * M i (k+1))) = - la_sm (k+1) (fun i => la_subp M i (k+1-i) * M i (k+1) * la_det i M) := by
      rw [la_sm_single k (by omega) (fun j hj hne => la_sm_zero (fun i _ => by rw [hz (k+1) j (by omega) (by omega)]; simp)), ← la_sm_neg]
      refine la_sm_congr (fun i hi => ?_)
      obtain ⟨d, rfl⟩ : ∃ d, k = i + d := ⟨k - i, by omega⟩
      unfold la_adj
      rw [la_hess_adj M d i (fun a b h1 h2 => hz a b h1 (by omega))]
      have : i + d + 1 - i = d + 1 := by omega
      rw [this]
      show _ = - (la_subp M i d * (- M (i+d+1) (i+d)) * M i (i+d+1) * la_det i M)
      grind
    rw [e]; omega
def mkS : Nat → Int → List Int
  | 0, _ => []
  | n + 1, a => a :: mkS n (a + 1)
theorem mkS_length (n : Nat) (a : Int) : (mkS n a).length = n := by
  induction n generalizing a with
  | zero => rfl
  | succ n ih => simp [mkS, ih]
theorem markInt64S_l0 : ∀ (d i : Nat) (a : Int) (x : List Int), x.length - i = d → i ≤ x.length → x.length ≤ 1048576 → 0 ≤ a → a + d ≤ 4611686018427387904 → Ev (fun k => laws_markInt64S.l0 k x a i) (a + d, x.take i ++ mkS d a) := by
  intro d
  induction d with
  | zero =>
    intro i a x hd hi hl h0 h1
    refine Ev.step (fun k => by simp only [laws_markInt64S.l0]; rfl) ?_
    simp only [show ¬ ((i : Int) < (x.length : Int)) by omega, if_false, mkS, List.append_nil, List.take_of_length_le (show x.length ≤ i by omega), show a + ((0 : Nat) : Int) = a by omega]
    exact Ev.now _
  | succ d ih =>
    intro i a x hd hi hl h0 h1
    refine Ev.step (fun k => by simp only [laws_markInt64S.l0]; rfl) ?_
    simp only [show ((i : Int) < (x.length : Int)) by omega, show (0 : Int) ≤ (i : Int) by omega, if_true, w64 (show -9223372036854775808 ≤ (i : Int) + 1 by omega) (by omega), w64 (show -9223372036854775808 ≤ a + 1 by omega) (by omega), Int.toNat_natCast]
    have h := ih (i + 1) (a + 1) (x.set i a) (by simp; omega) (by simp; omega) (by simp; omega) (by omega) (by omega)
    have e1 : (x.set i a).take (i + 1) ++ mkS d (a + 1) = x.take i ++ mkS (d + 1) a := by
      rw [List.take_succ_eq_append_getElem (by simp; omega), List.getElem_set_self, List.take_set_of_le (Nat.le_refl _), mkS, List.append_assoc]
      rfl
    have e2 : a + 1 + (d : Int) = a + ((d + 1 : Nat) : Int) := by omega
    rw [e1, e2] at h
    exact h
theorem markInt64S_ev (x : List Int) (a : Int) (hl : x.length ≤ 1048576) (h0 : 0 ≤ a) (h1 : a + x.length ≤ 4611686018427387904) : Ev (fun k => laws_markInt64S.f k x a) (a + x.length, mkS x.length a) := by
  have h := markInt64S_l0 x.length 0 a x (by omega) (by omega) hl h0 h1
  unfold laws_markInt64S.f
  simpa using h
theorem heldInt64S_l0 (x : List Int) (hl : x.length ≤ 1048576) : ∀ (d i : Nat) (a : Int), x.length - i = d → i ≤ x.length → x.drop i = mkS d a → 0 ≤ a → a + d ≤ 4611686018427387904 → Ev (fun k => laws_heldInt64S.l0 k x a i) (a + d) := by
  intro d
  induction d with
  | zero =>
    intro i a hd hi hx h0 h1
    refine Ev.step (fun k => by simp only [laws_heldInt64S.l0]; rfl) ?_
    simp only [show ¬ ((i : Int) < (x.length : Int)) by omega, if_false, show a + ((0 : Nat) : Int) = a by omega]
    exact Ev.now _
  | succ d ih =>
    intro i a hd hi hx h0 h1
    have hil : i < x.length := by omega
    rw [List.drop_eq_getElem_cons hil, mkS] at hx
    injection hx with hx1 hx2
    refine Ev.step (fun k => by simp only [laws_heldInt64S.l0]; rfl) ?_
    simp only [show ((i : Int) < (x.length : Int)) by omega, show (0 : Int) ≤ (i : Int) by omega, if_true, rd_nat x i hil, hx1, w64 (show -9223372036854775808 ≤ (i : Int) + 1 by omega) (by omega), w64 (show -9223372036854775808 ≤ a + 1 by omega) (by omega)]
    have h := ih (i + 1) (a + 1) (by omega) (by omega) hx2 (by omega) (by omega)
    have e2 : a + 1 + (d : Int) = a + ((d + 1 : Nat) : Int) := by omega
    rw [e2] at h
    exact h
theorem heldInt64S_ev (n : Nat) (a : Int) (hl : n ≤ 1048576) (h0 : 0 ≤ a) (h1 : a + n ≤ 4611686018427387904) : Ev (fun k => laws_heldInt64S.f k (mkS n a) a) (a + n) :=
  heldInt64S_l0 (mkS n a) (by rw [mkS_length]; exact hl) n 0 a (by rw [mkS_length]; rfl) (by omega) (by simp) h0 h1
def tot : List (List Int) → Nat
  | [] => 0
  | x :: xs => x.length + tot xs
def mkSS : List (List Int) → Int → List (List Int)
  | [], _ => []
  | x :: xs, a => mkS x.length a :: mkSS xs (a + x.length)
theorem tot_le (xs : List (List Int)) (m : Nat) (h : ∀ x ∈ xs, x.length ≤ m) : tot xs ≤ xs.length * m := by
  induction xs with
  | nil => simp [tot]
  | cons x xs ih =>
    have h1 := h x List.mem_cons_self
    have h2 := ih (fun y hy => h y (List.mem_cons_of_mem _ hy))
    simp only [tot, List.length_cons, Nat.succ_mul]
    omega
theorem tot_small (xs : List (List Int)) (hl : xs.length ≤ 1048576) (h : ∀ x ∈ xs, x.length ≤ 1048576) : tot xs ≤ 1099511627776 := by
  have h1 := tot_le xs 1048576 h
  have h2 := Nat.mul_le_mul_right 1048576 hl
  omega
theorem markInt64SS_l0 : ∀ (d i : Nat) (a : Int) (x : List (List Int)), x.length - i = d → i ≤ x.length → x.length ≤ 1048576 → (∀ y ∈ x.drop i, y.length ≤ 1048576) → 0 ≤ a → a + tot (x.drop i) ≤ 4611686018427387904 → Ev (fun k => laws_markInt64SS.l0 k x a i) (a + tot (x.drop i), x.take i ++ mkSS (x.drop i) a) := by
  intro d
  induction d with
  | zero =>
    intro i a x hd hi hl hx h0 h1
    refine Ev.step (fun k => by simp only [laws_markInt64SS.l0]; rfl) ?_
    simp only [show ¬ ((i : Int) < (x.length : Int)) by omega, if_false, List.drop_of_length_le (show x.length ≤ i by omega), mkSS, tot, List.append_nil, List.take_of_length_le (show x.length ≤ i by omega), show a + ((0 : Nat) : Int) = a by omega]
    exact Ev.now _
  | succ d ih =>
    intro i a x hd hi hl hx h0 h1
    have hil : i < x.length := by omega
    rw [List.drop_eq_getElem_cons hil] at hx h1 ⊢
    simp only [tot] at h1 ⊢
    have hxi := hx _ List.mem_cons_self
    refine Ev.step (fun k => by simp only [laws_markInt64SS.l0]; rfl) ?_
    have hrd : rdL x (i : Int) = x[i] := by simp [rdL, List.getD_eq_getElem?_getD, hil]
    simp only [show ((i : Int) < (x.length : Int)) by omega, show (0 : Int) ≤ (i : Int) by omega, if_true, w64 (show -9223372036854775808 ≤ (i : Int) + 1 by omega) (by omega), Int.toNat_natCast, hrd]
    refine Ev.bind (markInt64S_ev x[i] a hxi h0 (by omega)) ?_
    have hdrop : (x.set i (mkS x[i].length a)).drop (i + 1) = x.drop (i + 1) := by rw [List.drop_set_of_lt (by omega)]
    have h := ih (i + 1) (a + x[i].length) (x.set i (mkS x[i].length a)) (by simp; omega) (by simp; omega) (by simp; omega) (by rw [hdrop]; exact fun y hy => hx y (List.mem_cons_of_mem _ hy)) (by omega) (by rw [hdrop]; omega)
    rw [hdrop] at h
    have e1 : (x.set i (mkS x[i].length a)).take (i + 1) ++ mkSS (x.drop (i + 1)) (a + x[i].length) = x.take i ++ mkSS (x[i] :: x.drop (i + 1)) a := by
      rw [List.take_succ_eq_append_getElem (by simp; omega), List.getElem_set_self, List.take_set_of_le (Nat.le_refl _), mkSS, List.append_assoc]
      rfl
    have e2 : a + (x[i].length : Int) + ((tot (x.drop (i + 1)) : Nat) : Int) = a + ((x[i].length + tot (x.drop (i + 1)) : Nat) : Int) := by omega
    rw [e1, e2] at h
    exact h
theorem markInt64SS_ev (x : List (List Int)) (a : Int) (hl : x.length ≤ 1048576) (hx : ∀ y ∈ x, y.length ≤ 1048576) (h0 : 0 ≤ a) (h1 : a + tot x ≤ 4611686018427387904) : Ev (fun k => laws_markInt64SS.f k x a) (a + tot x, mkSS x a) := by
  have h := markInt64SS_l0 x.length 0 a x (by omega) (by omega) hl (by simpa using hx) h0 (by simpa using h1)
  unfold laws_markInt64SS.f
  simpa using h
theorem tdiv2 (e : Nat) : Int.tdiv (e : Int) 2 = ((e / 2 : Nat) : Int) := rfl
theorem tmod2 (e : Nat) : Int.tmod (e : Int) 2 = ((e % 2 : Nat) : Int) := rfl
/-- Where the directed edge e begins, and where it ends. -/
def begAt (l : List (List Int)) (e : Nat) : Int := rd (rd_L1 l ((e / 2 : Nat) : Int)) ((e % 2 : Nat) : Int)
def endAt (l : List (List Int)) (e : Nat) : Int := rd (rd_L1 l ((e / 2 : Nat) : Int)) ((1 - e % 2 : Nat) : Int)
def two (l : List (List Int)) : Prop := ∀ x ∈ l, x.length = 2
theorem isG_two {a : Int} {l : List (List Int)} (h : isG a l = true) : two l := by
  intro x hx
  simp only [isG, Bool.and_eq_true, List.all_eq_true] at h
  have := h.2.2.2 x hx
  simp only [edgeIn, Bool.and_eq_true, decide_eq_true_eq] at this
  exact this.1
theorem isG_len {a : Int} {l : List (List Int)} (h : isG a l = true) : l.length ≤ 10 := by
  simp only [isG, Bool.and_eq_true, decide_eq_true_eq] at h
  exact h.2.2.1
theorem two_at {l : List (List Int)} (h2 : two l) (e : Nat) (he : e < 2 * l.length) : (rd_L1 l ((e / 2 : Nat) : Int)).length = 2 := by
  have hi : e / 2 < l.length := by omega
  rw [rdL1_nat l (e / 2) hi]
  exact h2 _ (List.getElem_mem hi)
theorem l01Ends_eq (a : Int) (l : List (List Int)) (hl : l.length ≤ 1048576) (h2 : two l) (e : Nat) (he : e < 2 * l.length) : spec_l01Ends.f a l e = some (begAt l e, endAt l e) := by
  have hx := two_at h2 e he
  unfold spec_l01Ends.f
  rw [tdiv2, tmod2, w64 (by omega) (by omega), if_pos (by omega), if_pos (by omega), hx]
  unfold begAt endAt
  rcases Nat.mod_two_eq_zero_or_one e with h | h
  · rw [h]; rfl
  · rw [h]; rfl
theorem ends_eq (a : Int) (l : List (List Int)) (hl : l.length ≤ 1048576) (h2 : two l) (e : Nat) (he : e < 2 * l.length) : impl_Graph_ends.f a l e = some (begAt l e, endAt l e) := by
  have hx := two_at h2 e he
  unfold impl_Graph_ends.f
  rw [tdiv2, tmod2, w64 (by omega) (by omega), if_pos (by omega), if_pos (by omega), hx]
  have hm : e % 2 < 2 := Nat.mod_lt _ (by omega)
  rw [w64 (by omega) (by omega), if_pos (by omega), if_pos (by omega), if_pos (by omega), if_pos (by omega)]
  unfold begAt endAt
  rw [show (1 : Int) - ((e % 2 : Nat) : Int) = ((1 - e % 2 : Nat) : Int) by omega]
/-- The other direction of e's edge. -/
def opp (e : Nat) : Nat := if e % 2 = 0 then e + 1 else e - 1
theorem xor1_all : ((List.range 20).all fun e : Nat => Go.bits .xor .i64 (e : Int) 1 == ((opp e : Nat) : Int)) = true := by kernel_rfl
theorem xor1 (e : Nat) (h : e < 20) : Go.bits .xor .i64 (e : Int) 1 = ((opp e : Nat) : Int) := by
  have := List.all_eq_true.1 xor1_all e (List.mem_range.2 h)
  exact eq_of_beq this
/-- May f come behind e. -/
def next (l : List (List Int)) (e f : Nat) : Bool := decide (endAt l e = begAt l f) && !decide (f = opp e)
def mrow (n : Nat) (g : Nat → Bool) (f : Nat) : List Int := (List.range n).map fun j => if (decide (j < f) && g j) = true then 1 else 0
theorem mrow_length (n : Nat) (g : Nat → Bool) (f : Nat) : (mrow n g f).length = n := by simp [mrow]
theorem mrow_zero (n : Nat) (g : Nat → Bool) : mrow n g 0 = List.replicate n 0 := by
  apply List.ext_getElem
  · simp [mrow]
  · intro i h1 h2; simp [mrow]
theorem mrow_hit (n : Nat) (g : Nat → Bool) (f : Nat) (hf : f < n) (h : g f = true) : (mrow n g f).set f 1 = mrow n g (f + 1) := by
  apply List.ext_getElem
  · simp [mrow]
  · intro i h1 h2
    simp only [mrow, List.length_map, List.length_range, List.length_set] at h1 h2
    rw [List.getElem_set]
    by_cases hi : f = i
    · subst hi; simp [mrow, h]
    · rw [if_neg hi]
      simp only [mrow, List.getElem_map, List.getElem_range]
      have : decide (i < f) = decide (i < f + 1) := by rw [Bool.eq_iff_iff]; simp; omega
      rw [this]
theorem mrow_miss (n : Nat) (g : Nat → Bool) (f : Nat) (h : g f = false) : mrow n g f = mrow n g (f + 1) := by
  apply List.ext_getElem
  · simp [mrow]
  · intro i h1 h2
    simp only [mrow, List.getElem_map, List.getElem_range]
    by_cases hi : i = f
    · subst hi; simp [h]
    · have : decide (i < f) = decide (i < f + 1) := by rw [Bool.eq_iff_iff]; simp; omega
      rw [this]
/-- The edge rows. -/
def edgeM (l : List (List Int)) : List (List Int) := (List.range (2 * l.length)).map fun e => mrow (2 * l.length) (next l e) (2 * l.length)
/-- The rows on the way: those above e are whole, that of e up to f. -/
def mpart (l : List (List Int)) (e f : Nat) : List (List Int) := (List.range (2 * l.length)).map fun i => mrow (2 * l.length) (next l i) (if i < e then 2 * l.length else if i = e then f else 0)
theorem mpart_length (l : List (List Int)) (e f : Nat) : (mpart l e f).length = 2 * l.length := by simp [mpart]
theorem mpart_row (l : List (List Int)) (e f : Nat) (he : e < 2 * l.length) : rd_L1 (mpart l e f) (e : Int) = mrow (2 * l.length) (next l e) f := by
  rw [rdL1_nat _ _ (by rw [mpart_length]; exact he)]
  simp [mpart]
theorem mpart_hit (l : List (List Int)) (e f : Nat) (he : e < 2 * l.length) (hf : f < 2 * l.length) (h : next l e f = true) : (mpart l e f).set e ((mrow (2 * l.length) (next l e) f).set f 1) = mpart l e (f + 1) := by
  rw [mrow_hit _ _ _ hf h]
  apply List.ext_getElem
  · simp [mpart]
  · intro i h1 h2
    rw [List.getElem_set]
    by_cases hi : e = i
    · subst hi; simp [mpart]
    · rw [if_neg hi]
      simp [mpart, Ne.symm hi]
theorem mpart_miss (l : List (List Int)) (e f : Nat) (h : next l e f = false) : mpart l e f = mpart l e (f + 1) := by
  unfold mpart
  apply List.map_congr_left
  intro i _
  by_cases hi : i < e
  · simp [hi]
  · by_cases hie : i = e
    · subst hie; simp; exact mrow_miss _ _ _ h
    · simp [hi, hie]
theorem mpart_next (l : List (List Int)) (e : Nat) : mpart l e (2 * l.length) = mpart l (e + 1) 0 := by
  unfold mpart
  apply List.map_congr_left
  intro i _
  by_cases hi : i < e
  · rw [if_pos hi, if_pos (by omega)]
  · by_cases hie : i = e
    · subst hie; simp
    · rw [if_neg hi, if_neg hie, if_neg (by omega)]; split <;> rfl
theorem mpart_all (l : List (List Int)) : mpart l (2 * l.length) 0 = edgeM l := by
  unfold mpart edgeM
  apply List.map_congr_left
  intro i hi
  rw [if_pos (List.mem_range.1 hi)]
theorem edgeMatrix_l1 (a : Int) (l : List (List Int)) (hl : l.length ≤ 10) (h2 : two l) (R : List (List Int)) (e : Nat) (he : e < 2 * l.length)
    (hR : Ev (fun k => impl_Graph_edgeMatrix.l0 k (mpart l (e + 1) 0) ((2 * l.length : Nat) : Int) ((e : Int) + 1) a l) R) :
    ∀ (d f : Nat), 2 * l.length - f = d → f ≤ 2 * l.length → Ev (fun k => impl_Graph_edgeMatrix.l1 k (mpart l e f) e (endAt l e) ((2 * l.length : Nat) : Int) e ((2 * l.length : Nat) : Int) f a l) R := by
  intro d
  induction d with
  | zero =>
    intro f hd hf
    obtain rfl : f = 2 * l.length := by omega
    refine Ev.step (fun k => by simp only [impl_Graph_edgeMatrix.l1]; rfl) ?_
    simp only [Int.lt_irrefl, if_false, mpart_next, w64 (show -9223372036854775808 ≤ (e : Int) + 1 by omega) (by omega)]
    exact hR
  | succ d ih =>
    intro f hd hf
    have hfl : f < 2 * l.length := by omega
    refine Ev.step (fun k => by simp only [impl_Graph_edgeMatrix.l1]; rfl) ?_
    have h := ih (f + 1) (by omega) (by omega)
    simp only [show ((f : Int) < ((2 * l.length : Nat) : Int)) by omega, if_true, ends_eq a l (by omega) h2 f hfl, Option.bind_some, show (0 : Int) ≤ (f : Int) by omega, show (0 : Int) ≤ (e : Int) by omega, mpart_length, mpart_row l e f he, mrow_length, show ((e : Int) < ((2 * l.length : Nat) : Int)) by omega, Int.toNat_natCast, xor1 e (by omega), w64 (show -9223372036854775808 ≤ (f : Int) + 1 by omega) (by omega)]
    have hn : next l e f = (decide (endAt l e = begAt l f) && !decide (f = opp e)) := rfl
    by_cases h3 : begAt l f = endAt l e
    · simp only [h3, if_true]
      by_cases h4 : f = opp e
      · simp only [eq_true (show (f : Int) = ((opp e : Nat) : Int) by omega), if_true]
        rw [mpart_miss l e f (by rw [hn]; simp [h3, h4.symm])]
        exact h
      · simp only [show ¬ ((f : Int) = ((opp e : Nat) : Int)) by omega, if_false]
        rw [mpart_hit l e f he hfl (by rw [hn]; simp [h3, h4])]
        exact h
    · simp only [h3, if_false]
      rw [mpart_miss l e f (by rw [hn]; simp [Ne.symm h3])]
      exact h
theorem edgeMatrix_l0 (a : Int) (l : List (List Int)) (hl : l.length ≤ 10) (h2 : two l) : ∀ (d e : Nat), 2 * l.length - e = d → e ≤ 2 * l.length → Ev (fun k => impl_Graph_edgeMatrix.l0 k (mpart l e 0) ((2 * l.length : Nat) : Int) e a l) (edgeM l) := by
  intro d
  induction d with
  | zero =>
    intro e hd he
    obtain rfl : e = 2 * l.length := by omega
    refine Ev.step (fun k => by simp only [impl_Graph_edgeMatrix.l0]; rfl) ?_
    simp only [Int.lt_irrefl, if_false, mpart_all]
    exact Ev.now _
  | succ d ih =>
    intro e hd he
    have hel : e < 2 * l.length := by omega
    refine Ev.step (fun k => by simp only [impl_Graph_edgeMatrix.l0]; rfl) ?_
    simp only [show ((e : Int) < ((2 * l.length : Nat) : Int)) by omega, if_true, ends_eq a l (by omega) h2 e hel, Option.bind_some, impl_Graph_size.f, w64 (show -9223372036854775808 ≤ 2 * (l.length : Int) by omega) (by omega)]
    rw [show 2 * (l.length : Int) = ((2 * l.length : Nat) : Int) by omega]
    exact edgeMatrix_l1 a l hl h2 _ e hel (ih (e + 1) (by omega) (by omega)) (2 * l.length) 0 (by omega) (by omega)
theorem square_l0 (n : Nat) (hn : n ≤ 1048576) : ∀ (d i : Nat), n - i = d → i ≤ n → Ev (fun k => impl_square.l0 k n (List.replicate i (List.replicate n 0)) n i) (List.replicate n (List.replicate n 0)) := by
  intro d
  induction d with
  | zero =>
    intro i hd hi
    obtain rfl : i = n := by omega
    refine Ev.step (fun k => by simp only [impl_square.l0]; rfl) ?_
    simp only [Int.lt_irrefl, if_false]
    exact Ev.now _
  | succ d ih =>
    intro i hd hi
    refine Ev.step (fun k => by simp only [impl_square.l0]; rfl) ?_
    simp only [show ((i : Int) < (n : Int)) by omega, show (0 : Int) ≤ (n : Int) by omega, Int.toNat_natCast, show n ≤ 35184372088832 by omega, List.length_replicate, show i < 5864062014805 by omega, if_true, w64 (show -9223372036854775808 ≤ (i : Int) + 1 by omega) (by omega)]
    have h := ih (i + 1) (by omega) (by omega)
    rw [List.replicate_succ'] at h
    exact h
theorem square_ev (n : Nat) (hn : n ≤ 1048576) : Ev (fun k => impl_square.f k n) (List.replicate n (List.replicate n 0)) := square_l0 n hn n 0 (by omega) (by omega)
theorem mpart_zero (l : List (List Int)) : mpart l 0 0 = List.replicate (2 * l.length) (List.replicate (2 * l.length) 0) := by
  apply List.ext_getElem
  · simp [mpart]
  · intro i h1 h2
    simp only [mpart, List.getElem_map, List.getElem_range, List.getElem_replicate]
    rw [← mrow_zero (2 * l.length) (next l i)]
    congr 1
    rw [if_neg (by omega)]
    split <;> rfl
theorem edgeMatrix_ev (a : Int) (l : List (List Int)) (hl : l.length ≤ 10) (h2 : two l) : Ev (fun k => impl_Graph_edgeMatrix.f k a l) (edgeM l) := by
  unfold impl_Graph_edgeMatrix.f
  simp only [impl_Graph_size.f, Option.bind_some, w64 (show -9223372036854775808 ≤ 2 * (l.length : Int) by omega) (by omega)]
  rw [show 2 * (l.length : Int) = ((2 * l.length : Nat) : Int) by omega]
  refine Ev.bind (square_ev (2 * l.length) (by omega)) ?_
  rw [← mpart_zero]
  exact edgeMatrix_l0 a l hl h2 (2 * l.length) 0 (by omega) (by omega)
theorem clone_ev (l : List Int) (h : l.length ≤ 1048576) : slices_Clone_int64_int64.f l = some l := by
  unfold slices_Clone_int64_int64.f
  rw [if_pos (by omega)]
/-- A row and a square of numbers, by their places. -/
def vrow (n : Nat) (g : Nat → Int) : List Int := (List.range n).map g
def vmat (n : Nat) (f : Nat → Nat → Int) : List (List Int) := (List.range n).map fun i => vrow n (f i)
theorem vrow_length (n : Nat) (g : Nat → Int) : (vrow n g).length = n := by simp [vrow]
theorem vmat_length (n : Nat) (f : Nat → Nat → Int) : (vmat n f).length = n := by simp [vmat]
theorem vrow_rd {n : Nat} {g : Nat → Int} {v : Nat} (h : v < n) : rd (vrow n g) (v : Int) = g v := by
  rw [rd_nat _ _ (by rw [vrow_length]; exact h)]
  simp [vrow]
theorem vmat_row {n : Nat} {f : Nat → Nat → Int} {u : Nat} (h : u < n) : rd_L1 (vmat n f) (u : Int) = vrow n (f u) := by
  rw [rdL1_nat _ _ (by rw [vmat_length]; exact h)]
  simp [vmat]
theorem vrow_congr {n : Nat} {g h : Nat → Int} (e : ∀ j, j < n → g j = h j) : vrow n g = vrow n h := by
  unfold vrow
  apply List.map_congr_left
  intro j hj
  exact e j (List.mem_range.mp hj)
theorem vmat_congr {n : Nat} {f h : Nat → Nat → Int} (e : ∀ i j, i < n → j < n → f i j = h i j) : vmat n f = vmat n h := by
  unfold vmat
  apply List.map_congr_left
  intro i hi
  exact vrow_congr fun j hj => e i j (List.mem_range.mp hi) hj
theorem vrow_set {n : Nat} (g : Nat → Int) (v : Nat) (x : Int) : (vrow n g).set v x = vrow n (fun j => if j = v then x else g j) := by
  apply List.ext_getElem
  · rw [List.length_set, vrow_length, vrow_length]
  intro j h1 h2
  rw [List.getElem_set]
  simp only [vrow, List.getElem_map, List.getElem_range]
  by_cases h : v = j
  · subst h; simp
  · rw [if_neg h, if_neg (fun e => h e.symm)]
theorem vmat_set {n : Nat} (f : Nat → Nat → Int) (u : Nat) (g : Nat → Int) : (vmat n f).set u (vrow n g) = vmat n (fun i j => if i = u then g j else f i j) := by
  apply List.ext_getElem
  · rw [List.length_set, vmat_length, vmat_length]
  intro i h1 h2
  rw [List.getElem_set]
  simp only [vmat, List.getElem_map, List.getElem_range]
  by_cases h : u = i
  · subst h; simp
  · rw [if_neg h]; exact vrow_congr fun j _ => by rw [if_neg (fun e => h e.symm)]
/-- One place written. -/
theorem vmat_upd {n : Nat} (f : Nat → Nat → Int) (u : Nat) (hu : u < n) (v : Nat) (x : Int) : (vmat n f).set u ((rd_L1 (vmat n f) (u : Int)).set v x) = vmat n (fun i j => if i = u ∧ j = v then x else f i j) := by
  rw [vmat_row hu, vrow_set, vmat_set]
  refine vmat_congr fun i j _ _ => ?_
  by_cases h : i = u
  · subst h; simp
  · simp [h]
/-- A list without zeros at its end. -/
def trimN (l : List Int) : Nat → List Int
  | 0 => []
  | n + 1 => if rd l n = 0 then trimN l n else l.take (n + 1)
theorem trimN_length (l : List Int) (n : Nat) : (trimN l n).length ≤ n := by
  induction n with
  | zero => simp [trimN]
  | succ n ih =>
    unfold trimN; split
    · omega
    · rw [List.length_take]; omega
theorem trimmed_l0 (l : List Int) (hl : l.length ≤ 1048576) : ∀ n, n ≤ l.length → Ev (fun q => impl_trimmed.l0 q (l.take n)) (trimN l n) := by
  intro n
  induction n with
  | zero =>
    intro _
    refine Ev.step (fun q => by simp only [impl_trimmed.l0]; rfl) ?_
    simp only [List.take_zero, List.length_nil, show ¬ (((0 : Nat) : Int) > 0) by omega, if_false, clone_ev [] (by simp), Option.bind_some, trimN]
    exact Ev.now _
  | succ n ih =>
    intro hn
    refine Ev.step (fun q => by simp only [impl_trimmed.l0]; rfl) ?_
    have hlen : ((l.take (n + 1)).length : Int) = (n : Int) + 1 := by rw [List.length_take]; omega
    have hr : rd (l.take (n + 1)) n = rd l n := by
      unfold rd
      simp only [Int.toNat_natCast, List.getD_eq_getElem?_getD, List.getElem?_take]
      rw [if_pos (by omega)]
    simp only [hlen, show (n : Int) + 1 - 1 = n by omega, w64 (show -9223372036854775808 ≤ (n : Int) by omega) (by omega), show (n : Int) + 1 > 0 by omega, show (0 : Int) ≤ (n : Int) by omega, show (n : Int) < (n : Int) + 1 by omega, show (n : Int) ≤ (n : Int) + 1 by omega, if_true, hr, Int.toNat_natCast, List.take_take, show min n (n + 1) = n by omega]
    rw [show trimN l (n + 1) = if rd l n = 0 then trimN l n else l.take (n + 1) from rfl]
    by_cases h : rd l n = 0
    · simp only [h, if_true]
      exact ih (by omega)
    · simp only [h, if_false, clone_ev (l.take (n + 1)) (by rw [List.length_take]; omega), Option.bind_some]
      exact Ev.now _
theorem trimmed_ev (l : List Int) (hl : l.length ≤ 1048576) : Ev (fun q => impl_trimmed.f q l) (trimN l l.length) := by
  unfold impl_trimmed.f
  have h := trimmed_l0 l hl l.length (Nat.le_refl _)
  rw [List.take_length] at h
  exact h
theorem vrow_snoc (n : Nat) (g : Nat → Int) : vrow n g ++ [g n] = vrow (n + 1) g := by
  unfold vrow; rw [List.range_succ, List.map_append]; rfl
theorem spec_l01Own_ev (l : List Int) (h : l.length ≤ 1048576) : spec_l01Own.f l = some l := by
  unfold spec_l01Own.f
  simp only [Option.bind_some, List.length_nil, List.nil_append, show 0 + l.length < 17592186044416 by omega, if_true]
theorem l01Trim_l0 (l : List Int) (hl : l.length ≤ 1048576) : ∀ n : Nat, n ≤ l.length → Ev (fun q => spec_l01Trim.l0 q l n) (trimN l n) := by
  intro n
  induction n with
  | zero =>
    intro _
    refine Ev.step (fun q => by simp only [spec_l01Trim.l0]; rfl) ?_
    simp only [show ¬ (((0 : Nat) : Int) > 0) by omega, if_false, show (0 : Int) ≤ ((0 : Nat) : Int) by omega, show ((0 : Nat) : Int) ≤ (l.length : Int) by omega, if_true, Int.toNat_natCast, List.take_zero, spec_l01Own_ev [] (by simp), Option.bind_some, trimN]
    exact Ev.now _
  | succ n ih =>
    intro hn
    refine Ev.step (fun q => by simp only [spec_l01Trim.l0]; rfl) ?_
    simp only [show ((n + 1 : Nat) : Int) > 0 by omega, show ((n + 1 : Nat) : Int) - 1 = n by omega, w64 (show -9223372036854775808 ≤ (n : Int) by omega) (by omega), show (0 : Int) ≤ (n : Int) by omega, show (n : Int) < (l.length : Int) by omega, show (0 : Int) ≤ ((n + 1 : Nat) : Int) by omega, show ((n + 1 : Nat) : Int) ≤ (l.length : Int) by omega, if_true, Int.toNat_natCast]
    rw [show trimN l (n + 1) = if rd l n = 0 then trimN l n else l.take (n + 1) from rfl]
    by_cases h : rd l n = 0
    · simp only [h, if_true]
      exact ih (by omega)
    · simp only [h, if_false, spec_l01Own_ev (l.take (n + 1)) (by rw [List.length_take]; omega), Option.bind_some]
      exact Ev.now _
theorem l01Trim_ev (l : List Int) (hl : l.length ≤ 1048576) : Ev (fun q => spec_l01Trim.f q l) (trimN l l.length) := l01Trim_l0 l hl l.length (Nat.le_refl _)
def btS (r : Nat) (A : Nat → Nat → Int) (m : Nat) (j : Nat) : Int := la_sm j (fun l => la_turnB r A (m - l) * la_cp r A l)
/-- The edge matrix, by its places. -/
def eA (l : List (List Int)) (e f : Nat) : Int := if next l e f = true then 1 else 0
theorem edgeM_vmat (l : List (List Int)) : edgeM l = vmat (2 * l.length) (eA l) := by
  unfold edgeM vmat
  apply List.map_congr_left
  intro e _
  unfold mrow vrow
  apply List.map_congr_left
  intro f hf
  have hf' : f < 2 * l.length := List.mem_range.mp hf
  unfold eA
  simp [hf']
theorem tmod_nn {x p : Int} (h : 0 ≤ x) : Int.tmod x p = x % p := Int.tmod_eq_emod_of_nonneg h
theorem modW {p x : Int} (hp : 0 < p) (hp2 : p ≤ 1000000) : Int.tmod (wrap64 (Int.tmod x p + p)) p = x % p := by
  have hb : -p < Int.tmod x p ∧ Int.tmod x p < p := by
    rcases Int.le_total 0 x with h | h
    · rw [tmod_nn h]
      have := Int.emod_nonneg x (show p ≠ 0 by omega)
      have := Int.emod_lt_of_pos x hp
      omega
    · have e : Int.tmod x p = -((-x) % p) := by
        rw [← tmod_nn (show 0 ≤ -x by omega), Int.neg_tmod]; omega
      have := Int.emod_nonneg (-x) (show p ≠ 0 by omega)
      have := Int.emod_lt_of_pos (-x) hp
      omega
  rw [w64 (by omega) (by omega), tmod_nn (by omega)]
  have hd : x = p * Int.tdiv x p + Int.tmod x p := (Int.mul_tdiv_add_tmod x p).symm
  have : x % p = Int.tmod x p % p := by
    conv => lhs; rw [hd]
    rw [Int.add_comm, Int.add_mul_emod_self_left]
  rw [this, Int.add_emod_right]
theorem modulo_eq {p x : Int} (hp : 0 < p) (hp2 : p ≤ 1000000) : impl_modulo.f x p = some (x % p) := by
  unfold impl_modulo.f
  rw [if_neg (by omega), modW hp hp2]
/-- Is a number a prime. -/
def prN (p : Nat) : Bool := decide (∀ e, e < p → 2 ≤ e → e * e ≤ p → p % e ≠ 0)
theorem prN_step {p d : Nat} (hd : 2 ≤ d) (h : d * d ≤ p) (h0 : p % d = 0) : prN p = false := by
  unfold prN
  rw [decide_eq_false_iff_not]
  intro hc
  have : d < p := by
    have : d * 2 ≤ d * d := Nat.mul_le_mul_left d hd
    omega
  exact hc d this hd h h0
theorem prN_done {p d : Nat} (h : p < d * d) (hl : ∀ e, 2 ≤ e → e < d → e * e ≤ p → p % e ≠ 0) : prN p = true := by
  unfold prN
  rw [decide_eq_true_iff]
  intro e _ h2 h3
  refine hl e h2 ?_ h3
  apply Classical.byContradiction
  intro hc
  have : d * d ≤ e * e := Nat.mul_le_mul (by omega) (by omega)
  omega
theorem tmod_nat (p d : Nat) : Int.tmod (p : Int) (d : Int) = ((p % d : Nat) : Int) := rfl
theorem isPrimeNumber_l0 (p : Nat) (hp : p ≤ 10007) : ∀ (m d : Nat), p + 1 - d = m → 2 ≤ d → d ≤ p + 1 → (∀ e, 2 ≤ e → e < d → e * e ≤ p → p % e ≠ 0) → Ev (fun k => impl_isPrimeNumber.l0 k p d) (prN p) := by
  intro m
  induction m with
  | zero =>
    intro d hm hd hdp hl
    have hdd : p < d * d := by
      obtain rfl : d = p + 1 := by omega
      have : (p + 1) * 1 ≤ (p + 1) * (p + 1) := Nat.mul_le_mul_left _ (by omega)
      omega
    have hs : d * d ≤ 10008 * 10008 := Nat.mul_le_mul (by omega) (by omega)
    refine Ev.step (fun q => by simp only [impl_isPrimeNumber.l0]; rfl) ?_
    rw [prN_done hdd hl]
    simp only [show ((d : Int) * (d : Int)) = ((d * d : Nat) : Int) by simp, w64 (show -9223372036854775808 ≤ ((d * d : Nat) : Int) by omega) (by omega), show ¬ (((d * d : Nat) : Int) ≤ (p : Int)) by omega, if_false]
    exact Ev.now _
  | succ m ih =>
    intro d hm hd hdp hl
    have hs : d * d ≤ 10008 * 10008 := Nat.mul_le_mul (by omega) (by omega)
    refine Ev.step (fun q => by simp only [impl_isPrimeNumber.l0]; rfl) ?_
    simp only [show ((d : Int) * (d : Int)) = ((d * d : Nat) : Int) by simp, w64 (show -9223372036854775808 ≤ ((d * d : Nat) : Int) by omega) (by omega)]
    by_cases h : d * d ≤ p
    · simp only [show (((d * d : Nat) : Int) ≤ (p : Int)) by omega, if_true, show ¬ ((d : Int) = 0) by omega, if_false, tmod_nat]
      by_cases h0 : p % d = 0
      · simp only [h0, show (((0 : Nat) : Int) = 0) by rfl, if_true, prN_step hd h h0]
        exact Ev.now _
      · simp only [show ¬ (((p % d : Nat) : Int) = 0) by omega, if_false, w64 (show -9223372036854775808 ≤ (d : Int) + 1 by omega) (by omega)]
        exact ih (d + 1) (by omega) (by omega) (by omega) (fun e h1 h2 h3 => by
          by_cases he : e = d
          · subst he; exact h0
          · exact hl e h1 (by omega) h3)
    · rw [prN_done (by omega) hl]
      simp only [show ¬ (((d * d : Nat) : Int) ≤ (p : Int)) by omega, if_false]
      exact Ev.now _
/-- Is p a prime of 2..hi. -/
def prB (hi p : Int) : Bool := decide (2 ≤ p) && decide (p ≤ hi) && prN p.toNat
theorem isPrimeNumber_ev (p : Int) : Ev (fun k => impl_isPrimeNumber.f k p) (prB 10007 p) := by
  unfold impl_isPrimeNumber.f prB
  simp only [within_eq, Option.bind_some]
  by_cases h : (decide (2 ≤ p) && decide (p ≤ 10007)) = true
  · simp only [h, if_true, Bool.true_and]
    simp only [Bool.and_eq_true, decide_eq_true_eq] at h
    obtain ⟨q, rfl⟩ : ∃ q : Nat, p = q := ⟨p.toNat, by omega⟩
    rw [Int.toNat_natCast]
    exact isPrimeNumber_l0 q (by omega) (q - 1) 2 (by omega) (by omega) (by omega) (fun e h1 h2 _ => by omega)
  · simp only [Bool.not_eq_true] at h
    simp only [h, Bool.false_eq_true, if_false, Bool.false_and]
    exact Ev.now _
theorem prB_nat {hi p : Int} (h : prB hi p = true) : ∃ q : Nat, p = q ∧ 2 ≤ q ∧ (q : Int) ≤ hi ∧ prN q = true := by
  unfold prB at h
  simp only [Bool.and_eq_true, decide_eq_true_eq] at h
  exact ⟨p.toNat, by omega, by omega, by omega, h.2⟩
theorem prN_nodiv {p : Nat} (h : prN p = true) (d : Nat) (h2 : 2 ≤ d) (hd : d < p) : p % d ≠ 0 := by
  unfold prN at h
  rw [decide_eq_true_iff] at h
  intro h0
  obtain ⟨e, he⟩ := Nat.dvd_of_mod_eq_zero h0
  by_cases hs : d * d ≤ p
  · exact h d hd h2 hs h0
  · have hed : e < d := by
      apply Classical.byContradiction
      intro hc
      have : d * d ≤ d * e := Nat.mul_le_mul_left d (by omega)
      omega
    have he2 : 2 ≤ e := by
      apply Classical.byContradiction
      intro hc
      have : e = 0 ∨ e = 1 := by omega
      rcases this with rfl | rfl
      · omega
      · omega
    have hee : e * e ≤ p := by
      have : e * e ≤ d * e := Nat.mul_le_mul_right e (by omega)
      omega
    exact h e (by omega) he2 hee (by rw [he, Nat.mul_mod_left])
/-- Numbers modulo a prime have inverses. -/
theorem inv_ex {p : Nat} (hp : prN p = true) (hp2 : 2 ≤ p) (x : Nat) : 0 < x → x < p → ∃ k : Int, (p : Int) ∣ k * x - 1 := by
  induction x using Nat.strongRecOn with
  | _ x ih =>
    intro h0 hx
    by_cases h1 : x = 1
    · subst h1; exact ⟨1, 0, by omega⟩
    · have hr := prN_nodiv hp x (by omega) hx
      have hrx : p % x < x := Nat.mod_lt _ h0
      obtain ⟨k, c, hk⟩ := ih (p % x) hrx (by omega) (by omega)
      have hd : (p : Int) = x * ((p / x : Nat) : Int) + ((p % x : Nat) : Int) := by
        have := Nat.div_add_mod p x
        exact_mod_cast this.symm
      refine ⟨-(k * ((p / x : Nat) : Int)), c - k, ?_⟩
      generalize ((p / x : Nat) : Int) = q at hd
      generalize ((p % x : Nat) : Int) = r at hd hk
      grind
/-- n rows of m numbers, by their places. -/
def vmr (n m : Nat) (f : Nat → Nat → Int) : List (List Int) := (List.range n).map fun i => vrow m (f i)
theorem vmr_length (n m : Nat) (f : Nat → Nat → Int) : (vmr n m f).length = n := by simp [vmr]
theorem vmr_congr {n m : Nat} {f h : Nat → Nat → Int} (e : ∀ i j, i < n → j < m → f i j = h i j) : vmr n m f = vmr n m h := by
  unfold vmr
  apply List.map_congr_left
  intro i hi
  exact vrow_congr fun j hj => e i j (List.mem_range.mp hi) hj
theorem vmr_set {n m : Nat} (f : Nat → Nat → Int) (u : Nat) (g : Nat → Int) : (vmr n m f).set u (vrow m g) = vmr n m (fun i j => if i = u then g j else f i j) := by
  apply List.ext_getElem
  · rw [List.length_set, vmr_length, vmr_length]
  intro i h1 h2
  rw [List.getElem_set]
  simp only [vmr, List.getElem_map, List.getElem_range]
  by_cases h : u = i
  · subst h; simp
  · rw [if_neg h]; exact vrow_congr fun j _ => by rw [if_neg (fun e => h e.symm)]
theorem vmr_snoc (n m : Nat) (f : Nat → Nat → Int) : vmr n m f ++ [vrow m (f n)] = vmr (n + 1) m f := by
  unfold vmr; rw [List.range_succ, List.map_append]; rfl
theorem vmr_vmat (n : Nat) (f : Nat → Nat → Int) : vmr n n f = vmat n f := rfl
theorem swp_vmr (n m : Nat) (f : Nat → Nat → Int) (i j : Nat) (hi : i < n) (hj : j < n) : swp (vmr n m f) i j = vmr n m (fun r => f (la_sw i j r)) := by
  have hg : ∀ u, u < n → (vmr n m f).getD u [] = vrow m (f u) := fun u hu => by
    rw [List.getD_eq_getElem?_getD, List.getElem?_eq_getElem (by rw [vmr_length]; exact hu)]
    simp [vmr]
  unfold swp
  rw [Int.toNat_natCast, Int.toNat_natCast, hg i hi, hg j hj, vmr_set, vmr_set]
  refine vmr_congr fun r c _ _ => ?_
  unfold la_sw
  by_cases h1 : r = j
  · subst h1
    by_cases h2 : r = i
    · subst h2; simp
    · simp [h2]
  · by_cases h2 : r = i
    · subst h2; simp [h1]
    · simp [h1, h2]
theorem dvd_mod (p x : Int) : p ∣ x % p - x := ⟨-(x / p), by have := Int.mul_ediv_add_emod x p; rw [Int.mul_neg]; omega⟩
theorem dvd_mod' (p x : Int) : p ∣ x - x % p := ⟨x / p, by have := Int.mul_ediv_add_emod x p; omega⟩
theorem dvd_tr {p a b c : Int} (h1 : p ∣ a - b) (h2 : p ∣ b - c) : p ∣ a - c := by
  have := Int.dvd_add h1 h2
  rwa [show a - b + (b - c) = a - c by omega] at this
theorem dvd_mulL {p a b : Int} (x : Int) (h : p ∣ a - b) : p ∣ x * a - x * b := by
  obtain ⟨q, h⟩ := h
  exact ⟨x * q, by grind⟩
theorem eq_of_dvd {p a b : Int} (h : p ∣ a - b) (ha : 0 ≤ a ∧ a < p) (hb : 0 ≤ b ∧ b < p) : a = b := by
  obtain ⟨q, h⟩ := h
  have : q = 0 := by
    rcases Int.lt_trichotomy q 0 with h1 | h1 | h1
    · have : p * q ≤ p * (-1) := Int.mul_le_mul_of_nonneg_left (by omega) (by omega)
      omega
    · exact h1
    · have : p * 1 ≤ p * q := Int.mul_le_mul_of_nonneg_left (by omega) (by omega)
      omega
  subst this; omega
/-- How many ways to choose. -/
def chs : Nat → Nat → Nat
  | _, 0 => 1
  | 0, _ + 1 => 0
  | n + 1, k + 1 => chs n k + chs n (k + 1)
theorem chs_gt : ∀ n k, n < k → chs n k = 0
  | 0, 0, h => by omega
  | 0, _ + 1, _ => rfl
  | _ + 1, 0, h => by omega
  | n + 1, k + 1, h => by
    show chs n k + chs n (k + 1) = 0
    rw [chs_gt n k (by omega), chs_gt n (k + 1) (by omega)]
theorem chs_self : ∀ n, chs n n = 1
  | 0 => rfl
  | n + 1 => by
    show chs n n + chs n (n + 1) = 1
    rw [chs_self n, chs_gt n (n + 1) (by omega)]
theorem chs_zero (n : Nat) : chs n 0 = 1 := by cases n <;> rfl
theorem chs_mul : ∀ n k, (k + 1) * chs (n + 1) (k + 1) = (n + 1) * chs n k
  | 0, 0 => rfl
  | 0, k + 1 => by
    show (k + 1 + 1) * (chs 0 (k + 1) + chs 0 (k + 1 + 1)) = _
    simp [chs]
  | n + 1, 0 => by
    have h := chs_mul n 0
    rw [chs_zero] at h
    show (0 + 1) * (chs (n + 1) 0 + chs (n + 1) (0 + 1)) = (n + 1 + 1) * chs (n + 1) 0
    rw [chs_zero]
    omega
  | n + 1, j + 1 => by
    have h1 := chs_mul n j
    have h2 := chs_mul n (j + 1)
    show (j + 1 + 1) * (chs (n + 1) (j + 1) + chs (n + 1) (j + 1 + 1)) = (n + 1 + 1) * chs (n + 1) (j + 1)
    rw [Nat.mul_add, h2, Nat.add_mul (j + 1) 1, h1, Nat.add_mul (n + 1) 1]
    have h3 : chs (n + 1) (j + 1) = chs n j + chs n (j + 1) := rfl
    have h4 : (n + 1) * chs (n + 1) (j + 1) = (n + 1) * chs n j + (n + 1) * chs n (j + 1) := by rw [h3, Nat.mul_add]
    omega
theorem binom (a : Int) : ∀ n : Nat, (a + 1) ^ n = la_sm (n + 1) (fun k => (chs n k : Int) * a ^ k)
  | 0 => by simp [la_sm, chs]
  | n + 1 => by
    have ih := binom a n
    rw [Int.pow_succ, ih, Int.mul_add, Int.mul_one, la_sm_succ' (n + 1)]
    have e1 : la_sm (n + 1) (fun i => (chs (n + 1) (i + 1) : Int) * a ^ (i + 1)) = la_sm (n + 1) (fun i => (chs n i : Int) * a ^ i) * a + la_sm (n + 1) (fun i => (chs n (i + 1) : Int) * a ^ (i + 1)) := by
      rw [Int.mul_comm _ a, ← la_sm_mul, ← la_sm_add]
      refine la_sm_congr (fun i _ => ?_)
      show ((chs n i + chs n (i + 1) : Nat) : Int) * a ^ (i + 1) = _
      rw [Int.natCast_add, Int.add_mul, Int.pow_succ]
      congr 1
      rw [Int.mul_comm (a ^ i) a, Int.mul_left_comm]
    have e2 : la_sm (n + 1) (fun k => (chs n k : Int) * a ^ k) = (chs n 0 : Int) * a ^ 0 + la_sm (n + 1) (fun i => (chs n (i + 1) : Int) * a ^ (i + 1)) := by
      have h := la_sm_succ' (n + 1) (fun k => (chs n k : Int) * a ^ k)
      have h2 : la_sm (n + 1 + 1) (fun k => (chs n k : Int) * a ^ k) = la_sm (n + 1) (fun k => (chs n k : Int) * a ^ k) + (chs n (n + 1) : Int) * a ^ (n + 1) := rfl
      rw [chs_gt n (n + 1) (by omega)] at h2
      rw [h2] at h
      simpa using h
    rw [e1]
    have e3 : ((chs (n + 1) 0 : Nat) : Int) * a ^ 0 = (chs n 0 : Int) * a ^ 0 := by rw [chs_zero, chs_zero]
    rw [e3]
    omega
theorem chs_prime {p : Nat} (hp : prN p = true) (hp2 : 2 ≤ p) (k : Nat) (h0 : 0 < k) (hk : k < p) : (p : Int) ∣ (chs p k : Int) := by
  obtain ⟨c, hc⟩ := inv_ex hp hp2 k h0 hk
  obtain ⟨q, rfl⟩ : ∃ q, p = q + 1 := ⟨p - 1, by omega⟩
  obtain ⟨j, rfl⟩ : ∃ j, k = j + 1 := ⟨k - 1, by omega⟩
  have h := chs_mul q j
  have h2 : ((j + 1 : Nat) : Int) * (chs (q + 1) (j + 1) : Int) = ((q + 1 : Nat) : Int) * (chs q j : Int) := by rw [← Int.natCast_mul, h, Int.natCast_mul]
  obtain ⟨x, hx⟩ := hc
  refine ⟨c * (chs q j : Int) - x * (chs (q + 1) (j + 1) : Int), ?_⟩
  have e : (chs (q + 1) (j + 1) : Int) = c * ((j + 1 : Nat) : Int) * (chs (q + 1) (j + 1) : Int) - ((q + 1 : Nat) : Int) * x * (chs (q + 1) (j + 1) : Int) := by
    rw [← Int.sub_mul, ← hx]
    rw [show c * ((j + 1 : Nat) : Int) - (c * ((j + 1 : Nat) : Int) - 1) = 1 by omega, Int.one_mul]
  rw [Int.mul_assoc, h2] at e
  rw [Int.mul_sub, ← Int.mul_assoc ((q + 1 : Nat) : Int) x]
  rw [Int.mul_left_comm ((q + 1 : Nat) : Int) c]
  exact e
theorem fermat {p : Nat} (hp : prN p = true) (hp2 : 2 ≤ p) : ∀ a : Nat, (p : Int) ∣ (a : Int) ^ p - a
  | 0 => by
    obtain ⟨q, rfl⟩ : ∃ q, p = q + 1 := ⟨p - 1, by omega⟩
    rw [Int.pow_succ]
    exact ⟨0, by simp⟩
  | a + 1 => by
    have ih := fermat hp hp2 a
    have h := binom (a : Int) p
    obtain ⟨q, rfl⟩ : ∃ q, p = q + 1 := ⟨p - 1, by omega⟩
    have h1 : la_sm (q + 1 + 1) (fun k => (chs (q + 1) k : Int) * (a : Int) ^ k) = la_sm (q + 1) (fun k => (chs (q + 1) k : Int) * (a : Int) ^ k) + (chs (q + 1) (q + 1) : Int) * (a : Int) ^ (q + 1) := rfl
    rw [h1, la_sm_succ', chs_self, chs_zero] at h
    have h2 : ((q + 1 : Nat) : Int) ∣ la_sm q (fun i => (chs (q + 1) (i + 1) : Int) * (a : Int) ^ (i + 1)) - la_sm q (fun _ => 0) :=
      la_sm_dvd (fun i hi => by
        rw [Int.sub_zero]
        exact Int.dvd_trans (chs_prime hp hp2 (i + 1) (by omega) (by omega)) ⟨(a : Int) ^ (i + 1), rfl⟩)
    rw [la_sm_zero (fun _ _ => rfl), Int.sub_zero] at h2
    have h3 := Int.dvd_add h2 ih
    rw [show ((a + 1 : Nat) : Int) = (a : Int) + 1 by omega, h]
    simp only [Int.pow_zero, Int.mul_one, Int.one_mul, Int.natCast_one]
    generalize la_sm q (fun i => (chs (q + 1) (i + 1) : Int) * (a : Int) ^ (i + 1)) = S at h3 ⊢
    generalize (a : Int) ^ (q + 1) = P at h3 ⊢
    rw [show 1 + S + P - ((a : Int) + 1) = S + (P - a) by omega]
    exact h3
theorem fermat_inv {p : Nat} (hp : prN p = true) (hp2 : 2 ≤ p) (a : Nat) (h0 : 0 < a) (ha : a < p) : (p : Int) ∣ (a : Int) * (a : Int) ^ (p - 2) - 1 := by
  have h := fermat hp hp2 a
  obtain ⟨k, hk⟩ := inv_ex hp hp2 a h0 ha
  obtain ⟨q, rfl⟩ : ∃ q, p = q + 2 := ⟨p - 2, by omega⟩
  rw [show q + 2 - 2 = q by omega]
  rw [Int.pow_succ, Int.pow_succ, show (a : Int) ^ q * a * a = a * ((a : Int) * (a : Int) ^ q) by rw [Int.mul_comm, Int.mul_comm ((a : Int) ^ q) a]] at h
  generalize (a : Int) * (a : Int) ^ q = X at h ⊢
  generalize ((q + 2 : Nat) : Int) = P at h hk ⊢
  have e1 : P ∣ k * (a * X - a) := Int.dvd_trans h ⟨k, by rw [Int.mul_comm]⟩
  have e2 : P ∣ (k * a - 1) * (X - 1) := Int.dvd_trans hk ⟨X - 1, rfl⟩
  have e3 := Int.dvd_sub e1 e2
  rw [show k * (a * X - a) - (k * a - 1) * (X - 1) = X - 1 by
    simp only [Int.mul_sub, Int.sub_mul, Int.one_mul, Int.mul_one, Int.mul_assoc]; omega] at e3
  exact e3
theorem pow_dvd {p a b : Int} (h : p ∣ a - b) : ∀ n : Nat, p ∣ a ^ n - b ^ n
  | 0 => ⟨0, by simp⟩
  | n + 1 => by rw [Int.pow_succ, Int.pow_succ]; exact la_mul_dvd_sub (pow_dvd h n) h
theorem inverse_l0 (p : Nat) (hp : 2 ≤ p) (hp2 : p ≤ 1000000) : ∀ (k : Nat) (x y : Int), (k : Int) ≤ 1000000 → 0 ≤ x ∧ x < p → 0 ≤ y ∧ y < p → ∃ r : Int, Ev (fun q => impl_inverse.l0 q x p y k) r ∧ (0 ≤ r ∧ r < p) ∧ (p : Int) ∣ r - y * x ^ k := by
  have hem := fun x : Int => And.intro (Int.emod_nonneg x (show (p : Int) ≠ 0 by omega)) (Int.emod_lt_of_pos x (show (0 : Int) < p by omega))
  have hb : ∀ x y : Int, 0 ≤ x ∧ x < p → 0 ≤ y ∧ y < p → Int.tmod (wrap64 (x * y)) p = (x * y) % p := fun x y hx hy => by
    have h1 : x * y ≤ 1000000 * 1000000 := Int.mul_le_mul (by omega) (by omega) (by omega) (by omega)
    have h2 : 0 ≤ x * y := Int.mul_nonneg hx.1 hy.1
    rw [w64 (by omega) (by omega), tmod_nn h2]
  intro k
  induction k using Nat.strongRecOn with
  | _ k ih =>
    intro x y hk hx hy
    by_cases h0 : k = 0
    · subst h0
      refine ⟨y, Ev.step (fun q => by simp only [impl_inverse.l0]; rfl) ?_, hy, ⟨0, by simp⟩⟩
      simp only [show ¬ (((0 : Nat) : Int) > 0) by omega, if_false]
      exact Ev.now _
    · have hx2 := hem (x * x)
      have ht : wrap64 (Int.tdiv (k : Int) 2) = ((k / 2 : Nat) : Int) := by
        rw [show Int.tdiv (k : Int) 2 = ((k / 2 : Nat) : Int) from rfl]
        exact w64 (by omega) (by omega)
      by_cases h1 : (k : Int) % 2 = 1
      · obtain ⟨r, h2, h3, h4⟩ := ih (k / 2) (by omega) ((x * x) % p) ((y * x) % p) (by omega) hx2 (hem _)
        refine ⟨r, Ev.step (fun q => by simp only [impl_inverse.l0]; rfl) ?_, h3, ?_⟩
        · simp only [show ((k : Int) > 0) by omega, if_true, show Int.tmod (k : Int) 2 = (k : Int) % 2 from tmod_nn (by omega), h1, show ¬ ((p : Int) = 0) by omega, if_false, hb x x hx hx, hb y x hy hx, ht]
          exact h2
        · have e1 := la_mul_dvd_sub (dvd_mod p (y * x)) (pow_dvd (dvd_mod p (x * x)) (k / 2))
          have e2 := dvd_tr h4 e1
          have e3 : y * x * (x * x) ^ (k / 2) = y * x ^ k := by
            rw [Int.mul_assoc]
            congr 1
            rw [show (x * x) ^ (k / 2) = x ^ (2 * (k / 2)) by rw [Int.pow_mul]; congr 1; simp [Int.pow_succ]]
            rw [Int.mul_comm, ← Int.pow_succ]
            congr 1
            omega
          rw [e3] at e2
          exact e2
      · obtain ⟨r, h2, h3, h4⟩ := ih (k / 2) (by omega) ((x * x) % p) y (by omega) hx2 hy
        refine ⟨r, Ev.step (fun q => by simp only [impl_inverse.l0]; rfl) ?_, h3, ?_⟩
        · simp only [show ((k : Int) > 0) by omega, if_true, show Int.tmod (k : Int) 2 = (k : Int) % 2 from tmod_nn (by omega), h1, show ¬ ((p : Int) = 0) by omega, if_false, hb x x hx hx, ht]
          exact h2
        · have e1 := la_mul_dvd_sub (show (p : Int) ∣ y - y from ⟨0, by omega⟩) (pow_dvd (dvd_mod p (x * x)) (k / 2))
          have e2 := dvd_tr h4 e1
          have e3 : y * (x * x) ^ (k / 2) = y * x ^ k := by
            congr 1
            rw [show (x * x) ^ (k / 2) = x ^ (2 * (k / 2)) by rw [Int.pow_mul]; congr 1; simp [Int.pow_succ]]
            congr 1
            omega
          rw [e3] at e2
          exact e2
theorem inverse_ev {p : Nat} (hp : prN p = true) (hp2 : 2 ≤ p) (hp3 : p ≤ 1000000) (x : Int) (hx : 0 < x ∧ x < p) : ∃ v : Int, Ev (fun k => impl_inverse.f k x p) v ∧ (0 ≤ v ∧ v < p) ∧ (x * v) % p = 1 := by
  obtain ⟨r, h1, h2, h3⟩ := inverse_l0 p hp2 hp3 (p - 2) x 1 (by omega) (by omega) (by omega)
  refine ⟨r, ?_, h2, ?_⟩
  · unfold impl_inverse.f
    rw [w64 (show -9223372036854775808 ≤ (p : Int) - 2 by omega) (by omega), show (p : Int) - 2 = ((p - 2 : Nat) : Int) by omega]
    exact h1
  · obtain ⟨a, rfl⟩ := Int.eq_ofNat_of_zero_le (show 0 ≤ x by omega)
    have h4 := fermat_inv hp hp2 a (by omega) (by omega)
    rw [Int.one_mul] at h3
    have h5 := dvd_tr (la_mul_dvd_sub (show (p : Int) ∣ (a : Int) - a from ⟨0, by omega⟩) h3) h4
    have h6 : ((a : Int) * r) % p = 1 % p := Int.emod_eq_emod_iff_emod_sub_eq_zero.2 (Int.emod_eq_zero_of_dvd h5)
    rw [h6]
    exact Int.emod_eq_of_lt (by omega) (by omega)
theorem emm (p S a Y : Int) : ((S % p) + a * (Y % p)) % p = (S + a * Y) % p := by
  refine Int.emod_eq_emod_iff_emod_sub_eq_zero.2 (Int.emod_eq_zero_of_dvd ?_)
  have h := Int.dvd_add (dvd_mod p S) (la_mul_dvd_sub (show p ∣ a - a from ⟨0, by omega⟩) (dvd_mod p Y))
  rw [show (S % p) + a * (Y % p) - (S + a * Y) = S % p - S + (a * (Y % p) - a * Y) by omega]
  exact h
theorem rs_step {p : Int} (hp : 0 < p) (hp2 : p ≤ 10007) {x S a b Y : Int} (hx : x = S % p) (ha : 0 ≤ a ∧ a < p) (hb : b = Y % p) : Int.tmod (wrap64 (x + wrap64 (a * b))) p = (S + a * Y) % p := by
  subst hx; subst hb
  have h1 := Int.emod_nonneg S (show p ≠ 0 by omega)
  have h2 := Int.emod_lt_of_pos S hp
  have h3 := Int.emod_nonneg Y (show p ≠ 0 by omega)
  have h4 := Int.emod_lt_of_pos Y hp
  have h5 : a * (Y % p) ≤ 10007 * 10007 := Int.mul_le_mul (by omega) (by omega) (by omega) (by omega)
  have h6 : 0 ≤ a * (Y % p) := Int.mul_nonneg ha.1 h3
  rw [w64 (n := a * (Y % p)) (by omega) (by omega), w64 (n := S % p + a * (Y % p)) (by omega) (by omega), tmod_nn (by omega), emm]
theorem l06Mod_eq {p x : Int} (hp : 0 < p) (hp2 : p ≤ 1000000) : spec_l06Mod.f p x = some (x % p) := by
  unfold spec_l06Mod.f
  rw [if_neg (by omega), modW hp hp2]
theorem ng_rs {p S : Int} (hp : 0 < p) (hp2 : p ≤ 10007) : spec_l06Mod.f p (wrap64 (-(S % p))) = some ((-S) % p) := by
  have h1 := Int.emod_nonneg S (show p ≠ 0 by omega)
  have h2 := Int.emod_lt_of_pos S hp
  rw [w64 (by omega) (by omega), l06Mod_eq hp (by omega)]
  congr 1
  have h := emm p 0 (-1) S
  rw [Int.zero_emod, Int.zero_add, Int.zero_add] at h
  rw [show -(S % p) = -1 * (S % p) by omega, show -S = -1 * S by omega]
  exact h
theorem berkp_l4 (p : Int) (hp : 0 < p) (hp2 : p ≤ 10007) (n : Nat) (hn : n ≤ 1048575) (A : Nat → Nat → Int) (hA : ∀ i j, i < n → j < n → 0 ≤ A i j ∧ A i j < p) (x5 x7 x12 : List Int) (C : Nat → Int) (x10 x11 : Int) (r i : Nat) (hr : r < n) (hi : i < r) (h12 : x12.length = i) (R : List Int)
    (next : Ev (fun k => spec_l06Determinant.l3 k p (vmat n A) x5 r x7 (vrow r (fun j => C j % p)) x10 x11 (x12 ++ [la_sm r (fun j => A i j * C j) % p]) ((i : Int) + 1)) R) :
    ∀ (d j : Nat), r - j = d → j ≤ r → Ev (fun k => spec_l06Determinant.l4 k p (vmat n A) x5 r x7 (vrow r (fun j => C j % p)) x10 x11 x12 i (la_sm j (fun j => A i j * C j) % p) j) R := by
  intro d
  induction d with
  | zero =>
    intro j hd hj
    obtain rfl : j = r := by omega
    refine Ev.step (fun q => by simp only [spec_l06Determinant.l4]; rfl) ?_
    simp only [Int.lt_irrefl, if_false, h12, show i < 17592186044416 by omega, if_true, w64 (show -9223372036854775808 ≤ (i : Int) + 1 by omega) (by omega)]
    exact next
  | succ d ih =>
    intro j hd hj
    have hjr : j < r := by omega
    refine Ev.step (fun q => by simp only [spec_l06Determinant.l4]; rfl) ?_
    simp only [show ((j : Int) < (r : Int)) by omega, show (0 : Int) ≤ (j : Int) by omega, show (0 : Int) ≤ (i : Int) by omega, vmat_length, show ((i : Int) < (n : Int)) by omega, if_true, vmat_row (show i < n by omega), vrow_length, show ((j : Int) < (n : Int)) by omega, vrow_rd (show j < n by omega), vrow_rd hjr, show ¬ (p = 0) by omega, if_false, rs_step hp hp2 rfl (hA i j (by omega) (by omega)) rfl, w64 (show -9223372036854775808 ≤ (j : Int) + 1 by omega) (by omega)]
    have h := ih (j + 1) (by omega) (by omega)
    rw [show ((j + 1 : Nat) : Int) = (j : Int) + 1 by omega] at h
    exact h
theorem berkp_l3 (p : Int) (hp : 0 < p) (hp2 : p ≤ 10007) (n : Nat) (hn : n ≤ 1048575) (A : Nat → Nat → Int) (hA : ∀ i j, i < n → j < n → 0 ≤ A i j ∧ A i j < p) (x5 x7 : List Int) (C : Nat → Int) (x10 : Int) (r : Nat) (hr : r < n) (h7 : x7.length < 17592186044416) (R : List Int)
    (next : Ev (fun k => spec_l06Determinant.l2 k p (vmat n A) x5 r (x7 ++ [(-la_sm r (fun j => A r j * C j)) % p]) (vrow r (fun i => la_sm r (fun j => A i j * C j) % p)) (wrap64 (x10 + 1))) R) :
    ∀ (d i : Nat), r - i = d → i ≤ r → Ev (fun k => spec_l06Determinant.l3 k p (vmat n A) x5 r x7 (vrow r (fun j => C j % p)) x10 (la_sm i (fun j => A r j * C j) % p) (vrow i (fun i => la_sm r (fun j => A i j * C j) % p)) i) R := by
  intro d
  induction d with
  | zero =>
    intro i hd hi
    obtain rfl : i = r := by omega
    refine Ev.step (fun q => by simp only [spec_l06Determinant.l3]; rfl) ?_
    simp only [Int.lt_irrefl, if_false, ng_rs hp hp2, Option.bind_some, h7, if_true]
    exact next
  | succ d ih =>
    intro i hd hi
    have hir : i < r := by omega
    refine Ev.step (fun q => by simp only [spec_l06Determinant.l3]; rfl) ?_
    simp only [show ((i : Int) < (r : Int)) by omega, show (0 : Int) ≤ (i : Int) by omega, show (0 : Int) ≤ (r : Int) by omega, vmat_length, show ((r : Int) < (n : Int)) by omega, if_true, vmat_row hr, vrow_length, show ((i : Int) < (n : Int)) by omega, vrow_rd (show i < n by omega), vrow_rd hir, show ¬ (p = 0) by omega, if_false, rs_step hp hp2 rfl (hA r i hr (by omega)) rfl]
    have h := ih (i + 1) (by omega) (by omega)
    rw [show ((i + 1 : Nat) : Int) = (i : Int) + 1 by omega, ← vrow_snoc] at h
    have h2 := berkp_l4 p hp hp2 n hn A hA x5 x7 (vrow i (fun i => la_sm r (fun j => A i j * C j) % p)) C x10 _ r i hr hir (vrow_length _ _) R h r 0 (by omega) (by omega)
    exact h2
theorem berkp_l2 (p : Int) (hp : 0 < p) (hp2 : p ≤ 10007) (n : Nat) (hn : n ≤ 1048575) (A : Nat → Nat → Int) (hA : ∀ i j, i < n → j < n → 0 ≤ A i j ∧ A i j < p) (x5 : List Int) (r : Nat) (hr : r < n) (R : List Int)
    (next : Ev (fun k => spec_l06Determinant.l5 k p (vmat n A) x5 r (vrow (r + 2) (fun j => la_turnB r A j % p)) (vrow (r + 2) (fun _ => 0)) 0) R) :
    ∀ (d k : Nat), r - k = d → k ≤ r → Ev (fun q => spec_l06Determinant.l2 q p (vmat n A) x5 r (vrow (k + 2) (fun j => la_turnB r A j % p)) (vrow r (fun i => la_colp r A (fun i => A i r) k i % p)) k) R := by
  intro d
  induction d with
  | zero =>
    intro k hd hk
    obtain rfl : k = r := by omega
    refine Ev.step (fun q => by simp only [spec_l06Determinant.l2]; rfl) ?_
    simp only [Int.lt_irrefl, if_false, w64 (show -9223372036854775808 ≤ (k : Int) + 2 by omega) (by omega), show (0 : Int) ≤ (k : Int) + 2 by omega, show ((k : Int) + 2).toNat = k + 2 by omega, show k + 2 ≤ 35184372088832 by omega, if_true]
    rw [show List.replicate (k + 2) (0 : Int) = vrow (k + 2) (fun _ => 0) by
      apply List.ext_getElem
      · simp [vrow]
      · intro i _ _; simp [vrow]]
    exact next
  | succ d ih =>
    intro k hd hk
    have hkr : k < r := by omega
    refine Ev.step (fun q => by simp only [spec_l06Determinant.l2]; rfl) ?_
    simp only [show ((k : Int) < (r : Int)) by omega, if_true]
    have h := ih (k + 1) (by omega) (by omega)
    rw [show k + 1 + 2 = (k + 2) + 1 by omega, ← vrow_snoc (k + 2), show ((k + 1 : Nat) : Int) = wrap64 ((k : Int) + 1) by rw [w64 (show -9223372036854775808 ≤ (k : Int) + 1 by omega) (by omega)]; omega] at h
    exact berkp_l3 p hp hp2 n hn A hA x5 (vrow (k + 2) (fun j => la_turnB r A j % p)) (la_colp r A (fun i => A i r) k) k r hr (by rw [vrow_length]; omega) R h r 0 (by omega) (by omega)
theorem berkp_l1 (p : Int) (n : Nat) (hn : n ≤ 1048575) (A : Nat → Nat → Int) (x5 x7 : List Int) (r : Nat) (hr : r < n) (R : List Int)
    (next : Ev (fun k => spec_l06Determinant.l2 k p (vmat n A) x5 r x7 (vrow r (fun i => A i r)) 0) R) :
    ∀ (d i : Nat), r - i = d → i ≤ r → Ev (fun k => spec_l06Determinant.l1 k p (vmat n A) x5 r x7 (vrow i (fun i => A i r)) i) R := by
  intro d
  induction d with
  | zero =>
    intro i hd hi
    obtain rfl : i = r := by omega
    refine Ev.step (fun q => by simp only [spec_l06Determinant.l1]; rfl) ?_
    simp only [Int.lt_irrefl, if_false]
    exact next
  | succ d ih =>
    intro i hd hi
    have hir : i < r := by omega
    refine Ev.step (fun q => by simp only [spec_l06Determinant.l1]; rfl) ?_
    simp only [show ((i : Int) < (r : Int)) by omega, show (0 : Int) ≤ (i : Int) by omega, show (0 : Int) ≤ (r : Int) by omega, vmat_length, show ((i : Int) < (n : Int)) by omega, show ((r : Int) < (n : Int)) by omega, if_true, vmat_row (show i < n by omega), vrow_length, show i < 17592186044416 by omega, vrow_rd hr, w64 (show -9223372036854775808 ≤ (i : Int) + 1 by omega) (by omega)]
    have h := ih (i + 1) (by omega) (by omega)
    rw [show ((i + 1 : Nat) : Int) = (i : Int) + 1 by omega, ← vrow_snoc] at h
    exact h
def mdP (p : Int) (r : Nat) (A : Nat → Nat → Int) (i j : Nat) : Nat → Int := fun m => if m < i then la_cp (r + 1) A m % p else if m = i then btS r A i j % p else 0
theorem berkp_l6 (p : Int) (hp : 0 < p) (hp2 : p ≤ 10007) (n : Nat) (hn : n ≤ 1048575) (A : Nat → Nat → Int) (r i : Nat) (hr : r < n) (hi : i < r + 2) (R : List Int)
    (next : Ev (fun k => spec_l06Determinant.l5 k p (vmat n A) (vrow (r + 1) (fun l => la_cp r A l % p)) r (vrow (r + 2) (fun j => la_turnB r A j % p)) (vrow (r + 2) (mdP p r A (i + 1) 0)) ((i : Int) + 1)) R) :
    ∀ (d j : Nat), r + 1 - j = d → j ≤ i + 1 → j ≤ r + 1 → Ev (fun k => spec_l06Determinant.l6 k p (vmat n A) (vrow (r + 1) (fun l => la_cp r A l % p)) r (vrow (r + 2) (fun j => la_turnB r A j % p)) (vrow (r + 2) (mdP p r A i j)) i j) R := by
  have fin : ∀ j, j ≤ i + 1 → (j = i + 1 ∨ j = r + 1) → vrow (r + 2) (mdP p r A i j) = vrow (r + 2) (mdP p r A (i + 1) 0) := by
    intro j hj1 hj
    have e : btS r A i j = la_cp (r + 1) A i := by
      rw [la_cp_berkowitz r A i (by omega)]
      rcases hj with rfl | rfl
      · rfl
      · unfold btS
        refine (la_sm_ext (by omega) (fun l h1 h2 => ?_)).symm
        rw [show la_cp r A l = 0 from la_dc_top _ _ l (by omega)]; simp
    refine vrow_congr fun m hm => ?_
    unfold mdP
    by_cases h1 : m < i
    · rw [if_pos h1, if_pos (by omega)]
    · rw [if_neg h1]
      by_cases h2 : m = i
      · subst h2; rw [if_pos rfl, if_pos (by omega), e]
      · rw [if_neg h2, if_neg (by omega)]
        by_cases h3 : m = i + 1
        · subst h3; rw [if_pos rfl]; simp [btS, la_sm]
        · rw [if_neg h3]
  intro d
  induction d with
  | zero =>
    intro j hd hj1 hj2
    obtain rfl : j = r + 1 := by omega
    refine Ev.step (fun q => by simp only [spec_l06Determinant.l6]; rfl) ?_
    simp only [vrow_length, Int.lt_irrefl, if_false, w64 (show -9223372036854775808 ≤ (i : Int) + 1 by omega) (by omega)]
    rw [fin _ hj1 (Or.inr rfl)]
    exact next
  | succ d ih =>
    intro j hd hj1 hj2
    have hjr : j < r + 1 := by omega
    refine Ev.step (fun q => by simp only [spec_l06Determinant.l6]; rfl) ?_
    by_cases hji : j ≤ i
    · have hem := And.intro (Int.emod_nonneg (la_turnB r A (i - j)) (show p ≠ 0 by omega)) (Int.emod_lt_of_pos (la_turnB r A (i - j)) hp)
      have e1 : mdP p r A i j i = btS r A i j % p := by unfold mdP; rw [if_neg (by omega), if_pos rfl]
      simp only [vrow_length, show ((j : Int) < ((r + 1 : Nat) : Int)) by omega, show ((j : Int) ≤ (i : Int)) by omega, show (0 : Int) ≤ (i : Int) by omega, show ((i : Int) < ((r + 2 : Nat) : Int)) by omega, show (0 : Int) ≤ (j : Int) by omega, if_true, show (i : Int) - (j : Int) = ((i - j : Nat) : Int) by omega, w64 (show -9223372036854775808 ≤ ((i - j : Nat) : Int) by omega) (by omega), show (0 : Int) ≤ ((i - j : Nat) : Int) by omega, show ((i - j : Nat) : Int) < ((r + 2 : Nat) : Int) by omega, vrow_rd hi, vrow_rd hjr, vrow_rd (show i - j < r + 2 by omega), show ¬ (p = 0) by omega, if_false, rs_step hp hp2 e1 hem rfl, Int.toNat_natCast, w64 (show -9223372036854775808 ≤ (j : Int) + 1 by omega) (by omega)]
      rw [vrow_set]
      have h := ih (j + 1) (by omega) (by omega) (by omega)
      rw [show ((j + 1 : Nat) : Int) = (j : Int) + 1 by omega] at h
      refine Ev.congr (fun q => ?_) h
      congr 1
      refine vrow_congr fun m hm => ?_
      unfold mdP
      by_cases h1 : m = i
      · subst h1
        rw [if_pos rfl, if_neg (by omega), if_pos rfl]
        show _ = (btS r A m j + la_turnB r A (m - j) * la_cp r A j) % p
        have h2 := emm p (btS r A m j) (la_cp r A j) (la_turnB r A (m - j))
        have h3 := emm p (btS r A m j) (la_turnB r A (m - j) % p) (la_cp r A j)
        have h4 : (btS r A m j + la_turnB r A (m - j) % p * la_cp r A j) % p = (btS r A m j + la_turnB r A (m - j) * la_cp r A j) % p := by
          refine Int.emod_eq_emod_iff_emod_sub_eq_zero.2 (Int.emod_eq_zero_of_dvd ?_)
          have := la_mul_dvd_sub (dvd_mod p (la_turnB r A (m - j))) (show p ∣ la_cp r A j - la_cp r A j from ⟨0, by omega⟩)
          rw [show btS r A m j + la_turnB r A (m - j) % p * la_cp r A j - (btS r A m j + la_turnB r A (m - j) * la_cp r A j) = la_turnB r A (m - j) % p * la_cp r A j - la_turnB r A (m - j) * la_cp r A j by omega]
          exact this
        rw [← h4]
      · simp only [if_neg h1]
    · simp only [vrow_length, show ((j : Int) < ((r + 1 : Nat) : Int)) by omega, show ¬ ((j : Int) ≤ (i : Int)) by omega, if_true, if_false, w64 (show -9223372036854775808 ≤ (i : Int) + 1 by omega) (by omega)]
      rw [fin j hj1 (Or.inl (by omega))]
      exact next
theorem berkp_l5 (p : Int) (hp : 0 < p) (hp2 : p ≤ 10007) (n : Nat) (hn : n ≤ 1048575) (A : Nat → Nat → Int) (r : Nat) (hr : r < n) (R : List Int)
    (next : Ev (fun k => spec_l06Determinant.l0 k p (vmat n A) (vrow (r + 2) (fun l => la_cp (r + 1) A l % p)) ((r : Int) + 1)) R) :
    ∀ (d i : Nat), r + 2 - i = d → i ≤ r + 2 → Ev (fun k => spec_l06Determinant.l5 k p (vmat n A) (vrow (r + 1) (fun l => la_cp r A l % p)) r (vrow (r + 2) (fun j => la_turnB r A j % p)) (vrow (r + 2) (mdP p r A i 0)) i) R := by
  intro d
  induction d with
  | zero =>
    intro i hd hi
    obtain rfl : i = r + 2 := by omega
    refine Ev.step (fun q => by simp only [spec_l06Determinant.l5]; rfl) ?_
    simp only [vrow_length, Int.lt_irrefl, if_false, w64 (show -9223372036854775808 ≤ (r : Int) + 1 by omega) (by omega)]
    refine Ev.congr (fun q => ?_) next
    congr 1
    exact vrow_congr fun m hm => by unfold mdP; rw [if_pos hm]
  | succ d ih =>
    intro i hd hi
    have hir : i < r + 2 := by omega
    refine Ev.step (fun q => by simp only [spec_l06Determinant.l5]; rfl) ?_
    simp only [vrow_length, show ((i : Int) < ((r + 2 : Nat) : Int)) by omega, if_true]
    have h := ih (i + 1) (by omega) (by omega)
    rw [show ((i + 1 : Nat) : Int) = (i : Int) + 1 by omega] at h
    exact berkp_l6 p hp hp2 n hn A r i hr hir R h (r + 1) 0 (by omega) (by omega) (by omega)
theorem berkp_l0 (p : Int) (hp : 2 ≤ p) (hp2 : p ≤ 10007) (n : Nat) (hn : n ≤ 1048574) (A : Nat → Nat → Int) (hA : ∀ i j, i < n → j < n → 0 ≤ A i j ∧ A i j < p) : ∀ (d r : Nat), n - r = d → r ≤ n →
    Ev (fun k => spec_l06Determinant.l0 k p (vmat n A) (vrow (r + 1) (fun l => la_cp r A l % p)) r) (trimN (vrow (n + 1) (fun l => la_cp n A l % p)) (n + 1)) := by
  intro d
  induction d with
  | zero =>
    intro r hd hr
    obtain rfl : r = n := by omega
    refine Ev.step (fun q => by simp only [spec_l06Determinant.l0]; rfl) ?_
    simp only [vmat_length, Int.lt_irrefl, if_false]
    refine Ev.bind (a := trimN (vrow (r + 1) (fun l => la_cp r A l % p)) (r + 1)) ?_ (Ev.now _)
    have h := l01Trim_ev (vrow (r + 1) (fun l => la_cp r A l % p)) (by rw [vrow_length]; omega)
    rw [vrow_length] at h
    exact h
  | succ d ih =>
    intro r hd hr
    have hrn : r < n := by omega
    refine Ev.step (fun q => by simp only [spec_l06Determinant.l0]; rfl) ?_
    have hrr := hA r r hrn hrn
    simp only [vmat_length, show ((r : Int) < (n : Int)) by omega, show (0 : Int) ≤ (r : Int) by omega, if_true, vmat_row hrn, vrow_length, vrow_rd hrn, w64 (show -9223372036854775808 ≤ -(A r r) by omega) (by omega), l06Mod_eq (show 0 < p by omega) (by omega), Option.bind_some]
    refine berkp_l1 p n (by omega) A _ _ r hrn _ ?_ r 0 (by omega) (by omega)
    have h0 := ih (r + 1) (by omega) (by omega)
    rw [show ((r + 1 : Nat) : Int) = (r : Int) + 1 by omega] at h0
    have h5 := berkp_l5 p (by omega) hp2 n (by omega) A r hrn _ h0 (r + 2) 0 (by omega) (by omega)
    have h5' : Ev (fun k => spec_l06Determinant.l5 k p (vmat n A) (vrow (r + 1) (fun l => la_cp r A l % p)) r (vrow (r + 2) (fun j => la_turnB r A j % p)) (vrow (r + 2) (fun _ => 0)) 0) (trimN (vrow (n + 1) (fun l => la_cp n A l % p)) (n + 1)) := by
      refine Ev.congr (fun q => ?_) h5
      congr 1
      refine vrow_congr fun m hm => ?_
      unfold mdP
      rw [if_neg (by omega)]
      by_cases h1 : m = 0
      · rw [if_pos h1]; simp [btS, la_sm]
      · rw [if_neg h1]
    have h := berkp_l2 p (by omega) hp2 n (by omega) A hA (vrow (r + 1) (fun l => la_cp r A l % p)) r hrn _ h5' r 0 (by omega) (by omega)
    refine Ev.congr (fun q => ?_) h
    have e1 : ([1, (-A r r) % p] : List Int) = vrow (0 + 2) (fun j => la_turnB r A j % p) := by
      show _ = [la_turnB r A 0 % p, la_turnB r A 1 % p]
      show _ = [(1 : Int) % p, (-A r r) % p]
      rw [Int.emod_eq_of_lt (a := 1) (by omega) (by omega)]
    have e2 : vrow r (fun i => A i r) = vrow r (fun i => la_colp r A (fun i => A i r) 0 i % p) := vrow_congr fun i hi => by
      show _ = A i r % p
      rw [Int.emod_eq_of_lt (hA i r (by omega) hrn).1 (hA i r (by omega) hrn).2]
    rw [e1, e2]
    rfl
theorem l06Determinant_ev (p : Int) (hp : 2 ≤ p) (hp2 : p ≤ 10007) (n : Nat) (hn : n ≤ 1048574) (A : Nat → Nat → Int) (hA : ∀ i j, i < n → j < n → 0 ≤ A i j ∧ A i j < p) : Ev (fun k => spec_l06Determinant.f k p (vmat n A)) (trimN (vrow (n + 1) (fun l => la_cp n A l % p)) (n + 1)) := by
  unfold spec_l06Determinant.f
  have h := berkp_l0 p hp hp2 n hn A hA n 0 (by omega) (by omega)
  refine Ev.congr (fun q => ?_) h
  have e : ([1] : List Int) = vrow (0 + 1) (fun l => la_cp 0 A l % p) := by
    show _ = [la_cp 0 A 0 % p]
    rw [la_cp_zero, Int.emod_eq_of_lt (a := 1) (by omega) (by omega)]
  rw [e]
  rfl
theorem dc_dvd {n : Nat} {p : Int} : ∀ (P : Nat → Nat → Int) {Q R : Nat → Nat → Int}, (∀ a b, a < n → b < n → p ∣ Q a b - R a b) → ∀ k, p ∣ la_dc n P Q k - la_dc n P R k := by
  induction n with
  | zero => intro P Q R _ k; exact ⟨0, by simp [la_dc]⟩
  | succ n ih =>
    intro P Q R h k
    rw [la_dc_succ, la_dc_succ]
    refine la_sm_dvd (fun i hi => ?_)
    have g := fun k => ih (fun a b => P (la_sk i a) (b + 1)) (Q := fun a b => Q (la_sk i a) (b + 1)) (R := fun a b => R (la_sk i a) (b + 1)) (fun a b ha hb => h _ _ (la_sk_lt hi ha) (by omega)) k
    have z : ∀ x : Int, p ∣ x - x := fun x => ⟨0, by omega⟩
    refine la_mul_dvd_sub (z _) ?_
    have g1 := la_mul_dvd_sub (z (P i 0)) (g k)
    have g2 : p ∣ Q i 0 * la_up (la_dc n (fun a b => P (la_sk i a) (b + 1)) (fun a b => Q (la_sk i a) (b + 1))) k - R i 0 * la_up (la_dc n (fun a b => P (la_sk i a) (b + 1)) (fun a b => R (la_sk i a) (b + 1))) k := by
      refine la_mul_dvd_sub (h i 0 hi (by omega)) ?_
      cases k with
      | zero => exact z _
      | succ k => exact g k
    have g3 := Int.dvd_add g1 g2
    generalize P i 0 * la_dc n (fun a b => P (la_sk i a) (b + 1)) (fun a b => Q (la_sk i a) (b + 1)) k = a1 at g3 ⊢
    generalize P i 0 * la_dc n (fun a b => P (la_sk i a) (b + 1)) (fun a b => R (la_sk i a) (b + 1)) k = a2 at g3 ⊢
    generalize Q i 0 * la_up (la_dc n (fun a b => P (la_sk i a) (b + 1)) (fun a b => Q (la_sk i a) (b + 1))) k = a3 at g3 ⊢
    generalize R i 0 * la_up (la_dc n (fun a b => P (la_sk i a) (b + 1)) (fun a b => R (la_sk i a) (b + 1))) k = a4 at g3 ⊢
    rw [show a1 + a3 - (a2 + a4) = a1 - a2 + (a3 - a4) by omega]
    exact g3
theorem cp_dvd {p : Int} {n : Nat} {H G : Nat → Nat → Int} (h : ∀ i j, i < n → j < n → p ∣ H i j - G i j) (k : Nat) : p ∣ la_cp n H k - la_cp n G k :=
  dc_dvd _ (fun a b ha hb => by
    obtain ⟨x, hx⟩ := h a b ha hb
    exact ⟨-x, by unfold la_ng; rw [Int.mul_neg, ← hx]; omega⟩) k
theorem un1_pv (n : Nat) (X : Nat → Nat → Int) (u : Int) : la_det n (la_un1 u X) = la_pv n (la_cp n X) u := by
  have h := la_det_pv (n := n) (fun a b => la_ee a b) (la_ng X) u
  unfold la_cp
  rw [← h]
  refine la_det_congr (fun a b _ _ => ?_)
  unfold la_un1 la_ng
  rw [Int.mul_neg]
  omega
theorem cp_sim {n : Nat} {X H : Nat → Nat → Int} (h : ∀ u : Int, la_det n (la_un1 u X) = la_det n (la_un1 u H)) (k : Nat) : la_cp n X k = la_cp n H k := by
  by_cases hk : k ≤ n
  · exact la_pv_inj (n := n) (fun u _ => by rw [← un1_pv, ← un1_pv]; exact h u) k hk
  · unfold la_cp
    rw [la_dc_top _ _ k (by omega), la_dc_top _ _ k (by omega)]
/-- Where the reduction stands: similar rows modulo p, in the rests, zeros below those next to the diagonal in the first m - 1 columns. -/
structure HI (p : Int) (n : Nat) (A : Nat → Nat → Int) (m : Nat) (H : Nat → Nat → Int) : Prop where
  rng : ∀ i j, i < n → j < n → 0 ≤ H i j ∧ H i j < p
  sim : ∀ u, p ∣ la_cp n H u - la_cp n A u
  zer : ∀ a b, a < n → b + 1 < a → b + 1 < m → H a b = 0
theorem HI.start {p : Int} (hp : 0 < p) (n : Nat) (A : Nat → Nat → Int) : HI p n A 1 (fun i j => A i j % p) :=
  ⟨fun i j _ _ => ⟨Int.emod_nonneg _ (by omega), Int.emod_lt_of_pos _ hp⟩, fun u => cp_dvd (fun i j _ _ => dvd_mod p _) u, fun a b _ h1 h2 => by omega⟩
theorem HI.skip {p : Int} {n : Nat} {A : Nat → Nat → Int} {m : Nat} {H : Nat → Nat → Int} (h : HI p n A m H) (hm : 1 ≤ m) (h0 : ∀ i, m ≤ i → i < n → H i (m - 1) = 0) : HI p n A (m + 1) H :=
  ⟨h.rng, h.sim, fun a b ha h1 h2 => by
    by_cases e : b + 1 < m
    · exact h.zer a b ha h1 e
    · obtain rfl : b = m - 1 := by omega
      exact h0 a (by omega) ha⟩
theorem HI.swap {p : Int} {n : Nat} {A : Nat → Nat → Int} {m : Nat} {H : Nat → Nat → Int} (h : HI p n A m H) (hm : 1 ≤ m) (i : Nat) (hmi : m ≤ i) (hi : i < n) : HI p n A m (fun a b => H (la_sw i m a) (la_sw i m b)) := by
  have hlt : ∀ r, r < n → la_sw i m r < n := fun r hr => by unfold la_sw; (repeat' split) <;> omega
  refine ⟨fun a b ha hb => h.rng _ _ (hlt a ha) (hlt b hb), fun u => ?_, fun a b ha h1 h2 => ?_⟩
  · rw [cp_sim (fun u => la_det_similar_swap H i m hi (by omega) u) u]; exact h.sim u
  · show H (la_sw i m a) (la_sw i m b) = 0
    rw [show la_sw i m b = b by unfold la_sw; rw [if_neg (by omega), if_neg (by omega)]]
    refine h.zer _ b (hlt a ha) ?_ h2
    unfold la_sw; (repeat' split) <;> omega
/-- The row op and the column op, with rests. -/
def rowP (p : Int) (H : Nat → Nat → Int) (i m : Nat) (t : Int) : Nat → Nat → Int := fun a b => if a = i then (H a b - t * H m b) % p else H a b
def colP (p : Int) (H : Nat → Nat → Int) (i m : Nat) (t : Int) : Nat → Nat → Int := fun a b => if b = m then (H a b + t * H a i) % p else H a b
structure HJ (p : Int) (n : Nat) (A : Nat → Nat → Int) (m i : Nat) (v : Int) (H : Nat → Nat → Int) : Prop where
  hi : HI p n A m H
  dn : ∀ a, m < a → a < i → a < n → H a (m - 1) = 0
  iv : (H m (m - 1) * v) % p = 1
theorem HJ.skip {p : Int} {n : Nat} {A : Nat → Nat → Int} {m i : Nat} {v : Int} {H : Nat → Nat → Int} (hp : 1 < p) (h : HJ p n A m i v H) (hm : 1 ≤ m) (hmi : m < i) (hi : i < n) (h0 : (H i (m - 1) * v) % p = 0) : HJ p n A m (i + 1) v H :=
  ⟨h.hi, fun a h1 h2 h3 => by
    by_cases e : a < i
    · exact h.dn a h1 e h3
    · obtain rfl : a = i := by omega
      have hr := h.hi.rng a (m - 1) hi (by omega)
      have h4 : p ∣ H a (m - 1) * v := Int.dvd_of_emod_eq_zero h0
      have h5 : p ∣ H m (m - 1) * v - 1 := by
        have := dvd_mod' p (H m (m - 1) * v); rwa [h.iv] at this
      have h6 := Int.dvd_sub (Int.dvd_trans h4 (show H a (m - 1) * v ∣ H a (m - 1) * v * H m (m - 1) from ⟨_, rfl⟩)) (dvd_mulL (H a (m - 1)) (show p ∣ H m (m - 1) * v - 1 from h5))
      rw [Int.mul_one, show H a (m - 1) * v * H m (m - 1) - (H a (m - 1) * (H m (m - 1) * v) - H a (m - 1)) = H a (m - 1) by rw [Int.mul_assoc, Int.mul_comm v]; omega] at h6
      exact eq_of_dvd (p := p) (by rw [Int.sub_zero]; exact h6) hr ⟨Int.le_refl _, by omega⟩, h.iv⟩
theorem HJ.step {p : Int} {n : Nat} {A : Nat → Nat → Int} {m i : Nat} {v : Int} {H : Nat → Nat → Int} (hp : 1 < p) (h : HJ p n A m i v H) (hm : 1 ≤ m) (hmi : m < i) (hi : i < n) :
    HJ p n A m (i + 1) v (colP p (rowP p H i m ((H i (m - 1) * v) % p)) i m ((H i (m - 1) * v) % p)) := by
  have ht : ∀ t, t = (H i (m - 1) * v) % p → HJ p n A m (i + 1) v (colP p (rowP p H i m t) i m t) := by
    intro t et
    have hem := fun x : Int => And.intro (Int.emod_nonneg x (show p ≠ 0 by omega)) (Int.emod_lt_of_pos x (show 0 < p by omega))
    have z1 : ∀ b, b ≠ m → colP p (rowP p H i m t) i m t i b = (H i b - t * H m b) % p := fun b hb => by unfold colP rowP; rw [if_neg hb, if_pos rfl]
    have z2 : ∀ a b, a ≠ i → b ≠ m → colP p (rowP p H i m t) i m t a b = H a b := fun a b ha hb => by unfold colP rowP; rw [if_neg hb, if_neg ha]
    refine ⟨⟨fun a b ha hb => ?_, fun u => ?_, fun a b ha h1 h2 => ?_⟩, fun a h1 h2 h3 => ?_, ?_⟩
    · unfold colP
      split
      · exact hem _
      · unfold rowP
        split
        · exact hem _
        · exact h.hi.rng a b ha hb
    · refine dvd_tr (cp_dvd (G := fun a b => (if a = i then H a b - t * H m b else H a b) + (if b = m then t * (if a = i then H a i - t * H m i else H a i) else 0)) (fun a b ha hb => ?_) u) (by rw [cp_sim (fun u => la_det_similar H i m hi (by omega) (by omega) t u) u]; exact h.hi.sim u)
      have g : ∀ b, p ∣ rowP p H i m t a b - (if a = i then H a b - t * H m b else H a b) := fun b => by
        unfold rowP
        by_cases e : a = i
        · rw [if_pos e, if_pos e]; exact dvd_mod p _
        · rw [if_neg e, if_neg e]; exact ⟨0, by omega⟩
      unfold colP
      by_cases e : b = m
      · subst e
        rw [if_pos rfl, if_pos rfl]
        have g1 := Int.dvd_add (g b) (dvd_mulL t (g i))
        refine dvd_tr (dvd_mod p _) ?_
        rw [show rowP p H i b t a b + t * rowP p H i b t a i - ((if a = i then H a b - t * H b b else H a b) + t * (if a = i then H a i - t * H b i else H a i)) = rowP p H i b t a b - (if a = i then H a b - t * H b b else H a b) + (t * rowP p H i b t a i - t * (if a = i then H a i - t * H b i else H a i)) by omega]
        exact g1
      · rw [if_neg e, if_neg e, Int.add_zero]; exact g b
    · by_cases e : a = i
      · subst e
        rw [z1 b (by omega), h.hi.zer a b ha h1 h2, h.hi.zer m b (by omega) (by omega) h2]
        simp
      · rw [z2 a b e (by omega)]; exact h.hi.zer a b ha h1 h2
    · by_cases e : a = i
      · subst e
        rw [z1 (m - 1) (by omega)]
        refine Int.emod_eq_zero_of_dvd ?_
        have h5 : p ∣ H m (m - 1) * v - 1 := by
          have := dvd_mod' p (H m (m - 1) * v); rwa [h.iv] at this
        have h6 : p ∣ t - H a (m - 1) * v := by rw [et]; exact dvd_mod p _
        have h7 := Int.dvd_add (la_mul_dvd_sub h6 (show p ∣ H m (m - 1) - H m (m - 1) from ⟨0, by omega⟩)) (dvd_mulL (H a (m - 1)) h5)
        rw [Int.mul_one, show t * H m (m - 1) - H a (m - 1) * v * H m (m - 1) + (H a (m - 1) * (H m (m - 1) * v) - H a (m - 1)) = -(H a (m - 1) - t * H m (m - 1)) by rw [Int.mul_assoc (H a (m - 1)) v, Int.mul_comm v]; omega] at h7
        exact Int.dvd_neg.1 h7
      · rw [z2 a (m - 1) e (by omega)]; exact h.dn a h1 (by omega) h3
    · rw [z2 m (m - 1) (by omega) (by omega)]; exact h.iv
  exact ht _ rfl
theorem HJ.done {p : Int} {n : Nat} {A : Nat → Nat → Int} {m : Nat} {v : Int} {H : Nat → Nat → Int} (h : HJ p n A m n v H) (hm : 1 ≤ m) : HI p n A (m + 1) H :=
  ⟨h.hi.rng, h.hi.sim, fun a b ha h1 h2 => by
    by_cases e : b + 1 < m
    · exact h.hi.zer a b ha h1 e
    · obtain rfl : b = m - 1 := by omega
      exact h.dn a (by omega) ha ha⟩
def HF (p : Int) (n : Nat) (A G : Nat → Nat → Int) : Prop := (∀ i j, i < n → j < n → 0 ≤ G i j ∧ G i j < p) ∧ (∀ u, p ∣ la_cp n G u - la_cp n A u) ∧ (∀ a b, a < n → b + 1 < a → G a b = 0)
theorem sm_rng {p x y z : Int} (hp2 : p ≤ 10007) (hx : 0 ≤ x ∧ x < p) (hy : 0 ≤ y ∧ y < p) (hz : 0 ≤ z ∧ z < p) : wrap64 (x - wrap64 (y * z)) = x - y * z ∧ wrap64 (x + wrap64 (y * z)) = x + y * z ∧ 0 ≤ x + y * z ∧ wrap64 (y * z) = y * z ∧ 0 ≤ y * z := by
  have h5 : y * z ≤ 10007 * 10007 := Int.mul_le_mul (by omega) (by omega) (by omega) (by omega)
  have h6 : 0 ≤ y * z := Int.mul_nonneg hy.1 hz.1
  rw [w64 (n := y * z) (by omega) (by omega)]
  exact ⟨w64 (by omega) (by omega), w64 (by omega) (by omega), by omega, rfl, h6⟩
def rowS (p : Int) (H : Nat → Nat → Int) (i m : Nat) (t : Int) (j : Nat) : Nat → Nat → Int := fun a b => if a = i ∧ b < j then (H a b - t * H m b) % p else H a b
def colS (p : Int) (G : Nat → Nat → Int) (i m : Nat) (t : Int) (r : Nat) : Nat → Nat → Int := fun a b => if b = m ∧ a < r then (G a b + t * G a i) % p else G a b
theorem red_l7 (p : Int) (hp : 0 < p) (hp2 : p ≤ 10007) (n : Nat) (hn : n ≤ 1048575) (G : Nat → Nat → Int) (hG : ∀ i j, i < n → j < n → 0 ≤ G i j ∧ G i j < p) (i m : Nat) (hi : i < n) (hm : m < n) (him : i ≠ m) (t v : Int) (ht : 0 ≤ t ∧ t < p) (R : List (List Int))
    (next : Ev (fun k => impl_reduced.l5 k p (vmat n (colP p G i m t)) n m v ((i : Int) + 1)) R) :
    ∀ (d r : Nat), n - r = d → r ≤ n → Ev (fun k => impl_reduced.l7 k p (vmat n (colS p G i m t r)) n m v i t n r) R := by
  intro d
  induction d with
  | zero =>
    intro r hd hr
    obtain rfl : r = n := by omega
    refine Ev.step (fun q => by simp only [impl_reduced.l7]; rfl) ?_
    simp only [Int.lt_irrefl, if_false, w64 (show -9223372036854775808 ≤ (i : Int) + 1 by omega) (by omega)]
    refine Ev.congr (fun q => ?_) next
    congr 1
    refine vmat_congr fun a b ha hb => ?_
    unfold colP colS
    by_cases e : b = m
    · rw [if_pos e, if_pos ⟨e, ha⟩]
    · rw [if_neg e, if_neg (fun h => e h.1)]
  | succ d ih =>
    intro r hd hr
    have hrn : r < n := by omega
    refine Ev.step (fun q => by simp only [impl_reduced.l7]; rfl) ?_
    have e1 : colS p G i m t r r m = G r m := by unfold colS; rw [if_neg (by omega)]
    have e2 : colS p G i m t r r i = G r i := by unfold colS; rw [if_neg (by omega)]
    have hs := sm_rng hp2 (hG r m hrn hm) ht (hG r i hrn hi)
    simp only [show ((r : Int) < (n : Int)) by omega, show (0 : Int) ≤ (r : Int) by omega, vmat_length, show (0 : Int) ≤ (m : Int) by omega, show ((m : Int) < (n : Int)) by omega, show (0 : Int) ≤ (i : Int) by omega, show ((i : Int) < (n : Int)) by omega, if_true, vmat_row hrn, vrow_length, vrow_rd hm, vrow_rd hi, e1, e2, show ¬ (p = 0) by omega, if_false, hs.2.1, tmod_nn hs.2.2.1, Int.toNat_natCast, vrow_set, vmat_set, w64 (show -9223372036854775808 ≤ (r : Int) + 1 by omega) (by omega)]
    have h := ih (r + 1) (by omega) (by omega)
    rw [show ((r + 1 : Nat) : Int) = (r : Int) + 1 by omega] at h
    refine Ev.congr (fun q => ?_) h
    congr 1
    refine vmat_congr fun a b ha hb => ?_
    unfold colS
    by_cases g1 : a = r
    · subst g1
      rw [if_pos rfl]
      by_cases g2 : b = m
      · subst g2; rw [if_pos rfl, if_pos ⟨rfl, by omega⟩]
      · rw [if_neg g2, if_neg (fun h => g2 h.1), if_neg (fun h => g2 h.1)]
    · rw [if_neg g1]
      by_cases g2 : b = m ∧ a < r
      · rw [if_pos g2, if_pos ⟨g2.1, by omega⟩]
      · rw [if_neg g2, if_neg (by omega)]
theorem red_l6 (p : Int) (hp : 0 < p) (hp2 : p ≤ 10007) (n : Nat) (hn : n ≤ 1048575) (H : Nat → Nat → Int) (hH : ∀ i j, i < n → j < n → 0 ≤ H i j ∧ H i j < p) (i m : Nat) (hi : i < n) (hm : m < n) (him : i ≠ m) (t v : Int) (ht : 0 ≤ t ∧ t < p) (R : List (List Int))
    (next : Ev (fun k => impl_reduced.l7 k p (vmat n (rowP p H i m t)) n m v i t n 0) R) :
    ∀ (d j : Nat), n - j = d → j ≤ n → Ev (fun k => impl_reduced.l6 k p (vmat n (rowS p H i m t j)) n m v i t n j) R := by
  intro d
  induction d with
  | zero =>
    intro j hd hj
    obtain rfl : j = n := by omega
    refine Ev.step (fun q => by simp only [impl_reduced.l6]; rfl) ?_
    simp only [Int.lt_irrefl, if_false]
    refine Ev.congr (fun q => ?_) next
    congr 1
    refine vmat_congr fun a b ha hb => ?_
    unfold rowP rowS
    by_cases e : a = i
    · rw [if_pos e, if_pos ⟨e, hb⟩]
    · rw [if_neg e, if_neg (fun h => e h.1)]
  | succ d ih =>
    intro j hd hj
    have hjn : j < n := by omega
    refine Ev.step (fun q => by simp only [impl_reduced.l6]; rfl) ?_
    have e1 : rowS p H i m t j i j = H i j := by unfold rowS; rw [if_neg (by omega)]
    have e2 : rowS p H i m t j m j = H m j := by unfold rowS; rw [if_neg (by omega)]
    have hs := sm_rng hp2 (hH i j hi hjn) ht (hH m j hm hjn)
    simp only [show ((j : Int) < (n : Int)) by omega, show (0 : Int) ≤ (j : Int) by omega, vmat_length, show (0 : Int) ≤ (m : Int) by omega, show ((m : Int) < (n : Int)) by omega, show (0 : Int) ≤ (i : Int) by omega, show ((i : Int) < (n : Int)) by omega, if_true, vmat_row hi, vmat_row hm, vrow_length, vrow_rd hjn, e1, e2, hs.1, modulo_eq hp (show p ≤ 1000000 by omega), Option.bind_some, Int.toNat_natCast, vrow_set, vmat_set, w64 (show -9223372036854775808 ≤ (j : Int) + 1 by omega) (by omega)]
    have h := ih (j + 1) (by omega) (by omega)
    rw [show ((j + 1 : Nat) : Int) = (j : Int) + 1 by omega] at h
    refine Ev.congr (fun q => ?_) h
    congr 1
    refine vmat_congr fun a b ha hb => ?_
    unfold rowS
    by_cases g1 : a = i
    · subst g1
      rw [if_pos rfl]
      by_cases g2 : b = j
      · subst g2; rw [if_pos rfl, if_pos ⟨rfl, by omega⟩]
      · rw [if_neg g2]
        by_cases g3 : b < j
        · rw [if_pos ⟨rfl, g3⟩, if_pos ⟨rfl, by omega⟩]
        · rw [if_neg (by omega), if_neg (by omega)]
    · rw [if_neg g1, if_neg (fun h => g1 h.1), if_neg (fun h => g1 h.1)]
theorem red_l5 (p : Int) (hp : 1 < p) (hp2 : p ≤ 10007) (n : Nat) (hn : n ≤ 1048575) (A : Nat → Nat → Int) (m : Nat) (hm1 : 1 ≤ m) (hm : m < n) (v : Int) (hv : 0 ≤ v ∧ v < p)
    (next : ∀ H : Nat → Nat → Int, HI p n A (m + 1) H → ∃ G, HF p n A G ∧ Ev (fun k => impl_reduced.l2 k p (vmat n H) n ((m : Int) + 1)) (vmat n G)) :
    ∀ (d i : Nat), n - i = d → i ≤ n → m < i → ∀ H : Nat → Nat → Int, HJ p n A m i v H → ∃ G, HF p n A G ∧ Ev (fun k => impl_reduced.l5 k p (vmat n H) n m v i) (vmat n G) := by
  intro d
  induction d with
  | zero =>
    intro i hd hi hmi H h
    obtain rfl : i = n := by omega
    obtain ⟨G, g1, g2⟩ := next H (HJ.done h hm1)
    refine ⟨G, g1, Ev.step (fun q => by simp only [impl_reduced.l5]; rfl) ?_⟩
    simp only [Int.lt_irrefl, if_false, w64 (show -9223372036854775808 ≤ (m : Int) + 1 by omega) (by omega)]
    exact g2
  | succ d ih =>
    intro i hd hi hmi H h
    have hin : i < n := by omega
    have hs := sm_rng hp2 hv (h.hi.rng i (m - 1) hin (by omega)) hv
    have em : (m : Int) - 1 = ((m - 1 : Nat) : Int) := by omega
    by_cases h0 : (H i (m - 1) * v) % p = 0
    · obtain ⟨G, g1, g2⟩ := ih (i + 1) (by omega) (by omega) (by omega) H (HJ.skip hp h hm1 hmi hin h0)
      rw [show ((i + 1 : Nat) : Int) = (i : Int) + 1 by omega] at g2
      refine ⟨G, g1, Ev.step (fun q => by simp only [impl_reduced.l5]; rfl) ?_⟩
      simp only [em, w64 (show -9223372036854775808 ≤ ((m - 1 : Nat) : Int) by omega) (by omega), show ((i : Int) < (n : Int)) by omega, show (0 : Int) ≤ (i : Int) by omega, vmat_length, show (0 : Int) ≤ ((m - 1 : Nat) : Int) by omega, show (((m - 1 : Nat) : Int) < (n : Int)) by omega, if_true, vmat_row hin, vrow_length, vrow_rd (show m - 1 < n by omega), hs.2.2.2.1, tmod_nn hs.2.2.2.2, h0, show ¬ (p = 0) by omega, if_false, w64 (show -9223372036854775808 ≤ (i : Int) + 1 by omega) (by omega)]
      exact g2
    · have ht := And.intro (Int.emod_nonneg (H i (m - 1) * v) (show p ≠ 0 by omega)) (Int.emod_lt_of_pos (H i (m - 1) * v) (show 0 < p by omega))
      obtain ⟨G, g1, g2⟩ := ih (i + 1) (by omega) (by omega) (by omega) _ (HJ.step hp h hm1 hmi hin)
      rw [show ((i + 1 : Nat) : Int) = (i : Int) + 1 by omega] at g2
      have hrng : ∀ a b, a < n → b < n → 0 ≤ rowP p H i m ((H i (m - 1) * v) % p) a b ∧ rowP p H i m ((H i (m - 1) * v) % p) a b < p := fun a b ha hb => by
        unfold rowP
        split
        · exact ⟨Int.emod_nonneg _ (by omega), Int.emod_lt_of_pos _ (by omega)⟩
        · exact h.hi.rng a b ha hb
      have g7 := red_l7 p (by omega) hp2 n hn _ hrng i m hin hm (by omega) _ v ht _ g2 n 0 (by omega) (by omega)
      have e7 : vmat n (colS p (rowP p H i m ((H i (m - 1) * v) % p)) i m ((H i (m - 1) * v) % p) 0) = vmat n (rowP p H i m ((H i (m - 1) * v) % p)) := vmat_congr fun a b _ _ => by unfold colS; rw [if_neg (by omega)]
      rw [e7] at g7
      have g6 := red_l6 p (by omega) hp2 n hn H h.hi.rng i m hin hm (by omega) _ v ht _ g7 n 0 (by omega) (by omega)
      have e6 : vmat n (rowS p H i m ((H i (m - 1) * v) % p) 0) = vmat n H := vmat_congr fun a b _ _ => by unfold rowS; rw [if_neg (by omega)]
      rw [e6] at g6
      refine ⟨G, g1, Ev.step (fun q => by simp only [impl_reduced.l5]; rfl) ?_⟩
      simp only [em, w64 (show -9223372036854775808 ≤ ((m - 1 : Nat) : Int) by omega) (by omega), show ((i : Int) < (n : Int)) by omega, show (0 : Int) ≤ (i : Int) by omega, vmat_length, show (0 : Int) ≤ ((m - 1 : Nat) : Int) by omega, show (((m - 1 : Nat) : Int) < (n : Int)) by omega, if_true, vmat_row hin, vrow_length, vrow_rd (show m - 1 < n by omega), hs.2.2.2.1, tmod_nn hs.2.2.2.2, h0, show ¬ (p = 0) by omega, if_false]
      exact g6
def clS (H : Nat → Nat → Int) (i m r : Nat) : Nat → Nat → Int := fun a b => if a < r then H a (la_sw i m b) else H a b
theorem red_l4 (p : Nat) (hp : prN p = true) (hp1 : 2 ≤ p) (hp2 : p ≤ 10007) (n : Nat) (hn : n ≤ 1048575) (A : Nat → Nat → Int) (m : Nat) (hm1 : 1 ≤ m) (hm : m < n) (i : Nat) (hi : i < n) (H : Nat → Nat → Int)
    (next : ∀ H : Nat → Nat → Int, HI p n A (m + 1) H → ∃ G, HF p n A G ∧ Ev (fun k => impl_reduced.l2 k p (vmat n H) n ((m : Int) + 1)) (vmat n G))
    (h : HI p n A m (fun a b => H a (la_sw i m b))) (h0 : H m (la_sw i m (m - 1)) ≠ 0) :
    ∀ (d r : Nat), n - r = d → r ≤ n → ∃ G, HF p n A G ∧ Ev (fun k => impl_reduced.l4 k p (vmat n (clS H i m r)) n m i n r) (vmat n G) := by
  have hr0 := h.rng m (m - 1) hm (by omega)
  obtain ⟨v, v1, v2, v3⟩ := inverse_ev hp hp1 (by omega) (H m (la_sw i m (m - 1))) ⟨by omega, hr0.2⟩
  obtain ⟨G, g1, g2⟩ := red_l5 p (by omega) (by omega) n hn A m hm1 hm v v2 next (n - (m + 1)) (m + 1) rfl (by omega) (by omega) _ ⟨h, fun a a1 a2 _ => by omega, v3⟩
  rw [show ((m + 1 : Nat) : Int) = (m : Int) + 1 by omega] at g2
  intro d
  induction d with
  | zero =>
    intro r hd hr
    obtain rfl : r = n := by omega
    refine ⟨G, g1, Ev.step (fun q => by simp only [impl_reduced.l4]; rfl) ?_⟩
    have e : vmat r (clS H i m r) = vmat r (fun a b => H a (la_sw i m b)) := vmat_congr fun a b ha _ => by unfold clS; rw [if_pos ha]
    have em : (m : Int) - 1 = ((m - 1 : Nat) : Int) := by omega
    simp only [e, em, w64 (show -9223372036854775808 ≤ ((m - 1 : Nat) : Int) by omega) (by omega), Int.lt_irrefl, if_false, show (0 : Int) ≤ (m : Int) by omega, vmat_length, show ((m : Int) < (r : Int)) by omega, show (0 : Int) ≤ ((m - 1 : Nat) : Int) by omega, show (((m - 1 : Nat) : Int) < (r : Int)) by omega, if_true, vmat_row hm, vrow_length, vrow_rd (show m - 1 < r by omega), w64 (show -9223372036854775808 ≤ (m : Int) + 1 by omega) (by omega)]
    exact Ev.bind v1 g2
  | succ d ih =>
    intro r hd hr
    have hrn : r < n := by omega
    obtain ⟨G', g1', g2'⟩ := ih (r + 1) (by omega) (by omega)
    rw [show ((r + 1 : Nat) : Int) = (r : Int) + 1 by omega] at g2'
    refine ⟨G', g1', Ev.step (fun q => by simp only [impl_reduced.l4]; rfl) ?_⟩
    simp only [show ((r : Int) < (n : Int)) by omega, show (0 : Int) ≤ (r : Int) by omega, vmat_length, show (0 : Int) ≤ (m : Int) by omega, show ((m : Int) < (n : Int)) by omega, show (0 : Int) ≤ (i : Int) by omega, show ((i : Int) < (n : Int)) by omega, if_true, vmat_row hrn, vrow_length, vrow_rd hm, vrow_rd hi, Option.bind_some, Int.toNat_natCast, List.set_set, vrow_set, vmat_set, w64 (show -9223372036854775808 ≤ (r : Int) + 1 by omega) (by omega)]
    refine Ev.congr (fun q => ?_) g2'
    congr 1
    refine vmat_congr fun a b ha hb => ?_
    unfold clS
    by_cases g3 : a = r
    · subst g3
      simp only [if_true, Nat.lt_irrefl, if_false, show a < a + 1 by omega]
      unfold la_sw
      by_cases g4 : b = m
      · subst g4
        rw [if_pos rfl]
        by_cases g5 : b = i
        · subst g5; simp
        · rw [if_neg g5, if_pos rfl]
      · rw [if_neg g4]
        by_cases g5 : b = i
        · rw [if_pos g5, if_pos g5]
        · rw [if_neg g5, if_neg g5, if_neg g4]
    · rw [if_neg g3]
      by_cases g4 : a < r
      · rw [if_pos g4, if_pos (by omega)]
      · rw [if_neg g4, if_neg (by omega)]
theorem red_j4 (p : Nat) (hp : prN p = true) (hp1 : 2 ≤ p) (hp2 : p ≤ 10007) (n : Nat) (hn : n ≤ 1048575) (A : Nat → Nat → Int) (m : Nat) (hm1 : 1 ≤ m) (hm : m < n) (H : Nat → Nat → Int)
    (next : ∀ H : Nat → Nat → Int, HI p n A (m + 1) H → ∃ G, HF p n A G ∧ Ev (fun k => impl_reduced.l2 k p (vmat n H) n ((m : Int) + 1)) (vmat n G))
    (h : HI p n A m H) (i : Nat) (hmi : m ≤ i) (hin : i ≤ n) (h0 : ∀ a, m ≤ a → a < i → H a (m - 1) = 0) (h1 : i < n → H i (m - 1) ≠ 0) : ∃ G, HF p n A G ∧ Ev (fun k => impl_reduced.j4 k p (vmat n H) n m i) (vmat n G) := by
  by_cases e : i = n
  · obtain ⟨G, g1, g2⟩ := next H (HI.skip h hm1 (fun a a1 a2 => h0 a a1 (by omega)))
    refine ⟨G, g1, Ev.step (fun q => by simp only [impl_reduced.j4]; rfl) ?_⟩
    simp only [show ((i : Int) = (n : Int)) by omega, if_true, w64 (show -9223372036854775808 ≤ (m : Int) + 1 by omega) (by omega)]
    exact g2
  · have hi : i < n := by omega
    have hsw := HI.swap h hm1 i hmi hi
    have es : la_sw i m (m - 1) = m - 1 := by unfold la_sw; rw [if_neg (by omega), if_neg (by omega)]
    obtain ⟨G, g1, g2⟩ := red_l4 p hp hp1 hp2 n hn A m hm1 hm i hi (fun a => H (la_sw i m a)) next hsw (by
      show H (la_sw i m m) (la_sw i m (m - 1)) ≠ 0
      rw [es, show la_sw i m m = i by unfold la_sw; split <;> simp_all]
      exact h1 hi) n 0 (by omega) (by omega)
    refine ⟨G, g1, Ev.step (fun q => by simp only [impl_reduced.j4]; rfl) ?_⟩
    simp only [show ¬ ((i : Int) = (n : Int)) by omega, if_false, show (0 : Int) ≤ (m : Int) by omega, vmat_length, show ((m : Int) < (n : Int)) by omega, show (0 : Int) ≤ (i : Int) by omega, show ((i : Int) < (n : Int)) by omega, if_true]
    rw [show swp (vmat n H) i m = vmat n (clS (fun a => H (la_sw i m a)) i m 0) by
      rw [← vmr_vmat, swp_vmr n n H i m hi hm, ← vmr_vmat]
      exact vmr_congr fun a b _ _ => by unfold clS; rw [if_neg (by omega)]]
    exact g2
theorem red_l3 (p : Nat) (hp : prN p = true) (hp1 : 2 ≤ p) (hp2 : p ≤ 10007) (n : Nat) (hn : n ≤ 1048575) (A : Nat → Nat → Int) (m : Nat) (hm1 : 1 ≤ m) (hm : m < n) (H : Nat → Nat → Int)
    (next : ∀ H : Nat → Nat → Int, HI p n A (m + 1) H → ∃ G, HF p n A G ∧ Ev (fun k => impl_reduced.l2 k p (vmat n H) n ((m : Int) + 1)) (vmat n G))
    (h : HI p n A m H) : ∀ (d i : Nat), n - i = d → m ≤ i → i ≤ n → (∀ a, m ≤ a → a < i → H a (m - 1) = 0) → ∃ G, HF p n A G ∧ Ev (fun k => impl_reduced.l3 k p (vmat n H) n m i) (vmat n G) := by
  intro d
  induction d with
  | zero =>
    intro i hd hmi hi h0
    obtain rfl : i = n := by omega
    obtain ⟨G, g1, g2⟩ := red_j4 p hp hp1 hp2 i hn A m hm1 hm H next h i hmi hi h0 (fun e => absurd e (Nat.lt_irrefl _))
    refine ⟨G, g1, Ev.step (fun q => by simp only [impl_reduced.l3]; rfl) ?_⟩
    simp only [Int.lt_irrefl, if_false]
    exact g2
  | succ d ih =>
    intro i hd hmi hi h0
    have hin : i < n := by omega
    have em : (m : Int) - 1 = ((m - 1 : Nat) : Int) := by omega
    by_cases e : H i (m - 1) = 0
    · obtain ⟨G, g1, g2⟩ := ih (i + 1) (by omega) (by omega) (by omega) (fun a a1 a2 => by
        by_cases e2 : a = i
        · rw [e2]; exact e
        · exact h0 a a1 (by omega))
      rw [show ((i + 1 : Nat) : Int) = (i : Int) + 1 by omega] at g2
      refine ⟨G, g1, Ev.step (fun q => by simp only [impl_reduced.l3]; rfl) ?_⟩
      simp only [em, w64 (show -9223372036854775808 ≤ ((m - 1 : Nat) : Int) by omega) (by omega), show ((i : Int) < (n : Int)) by omega, show (0 : Int) ≤ (i : Int) by omega, vmat_length, show (0 : Int) ≤ ((m - 1 : Nat) : Int) by omega, show (((m - 1 : Nat) : Int) < (n : Int)) by omega, if_true, vmat_row hin, vrow_length, vrow_rd (show m - 1 < n by omega), e, w64 (show -9223372036854775808 ≤ (i : Int) + 1 by omega) (by omega)]
      exact g2
    · obtain ⟨G, g1, g2⟩ := red_j4 p hp hp1 hp2 n hn A m hm1 hm H next h i hmi hi h0 (fun _ => e)
      refine ⟨G, g1, Ev.step (fun q => by simp only [impl_reduced.l3]; rfl) ?_⟩
      simp only [em, w64 (show -9223372036854775808 ≤ ((m - 1 : Nat) : Int) by omega) (by omega), show ((i : Int) < (n : Int)) by omega, show (0 : Int) ≤ (i : Int) by omega, vmat_length, show (0 : Int) ≤ ((m - 1 : Nat) : Int) by omega, show (((m - 1 : Nat) : Int) < (n : Int)) by omega, if_true, vmat_row hin, vrow_length, vrow_rd (show m - 1 < n by omega), e, if_false]
      exact g2
theorem red_l2 (p : Nat) (hp : prN p = true) (hp1 : 2 ≤ p) (hp2 : p ≤ 10007) (n : Nat) (hn : n ≤ 1048575) (A : Nat → Nat → Int) : ∀ (d m : Nat), n - m = d → 1 ≤ m → ∀ H : Nat → Nat → Int, HI p n A m H → ∃ G, HF p n A G ∧ Ev (fun k => impl_reduced.l2 k p (vmat n H) n m) (vmat n G) := by
  have fin : ∀ (m : Nat) (H : Nat → Nat → Int), 1 ≤ m → ¬ (m + 1 < n) → m ≤ 1048576 → HI p n A m H → ∃ G, HF p n A G ∧ Ev (fun k => impl_reduced.l2 k p (vmat n H) n m) (vmat n G) := by
    intro m H hm h1 h2 h
    refine ⟨H, ⟨h.rng, h.sim, fun a b ha hb => h.zer a b ha hb (by omega)⟩, Ev.step (fun q => by simp only [impl_reduced.l2]; rfl) ?_⟩
    simp only [w64 (show -9223372036854775808 ≤ (n : Int) - 1 by omega) (by omega), show ¬ ((m : Int) < (n : Int) - 1) by omega, if_false]
    exact Ev.now _
  intro d
  induction d with
  | zero =>
    intro m hd hm H h
    by_cases h2 : m ≤ 1048576
    · exact fin m H hm (by omega) h2 h
    · refine ⟨H, ⟨h.rng, h.sim, fun a b ha hb => h.zer a b ha hb (by omega)⟩, Ev.step (fun q => by simp only [impl_reduced.l2]; rfl) ?_⟩
      simp only [w64 (show -9223372036854775808 ≤ (n : Int) - 1 by omega) (by omega), show ¬ ((m : Int) < (n : Int) - 1) by omega, if_false]
      exact Ev.now _
  | succ d ih =>
    intro m hd hm H h
    by_cases h1 : m + 1 < n
    · obtain ⟨G, g1, g2⟩ := red_l3 p hp hp1 hp2 n hn A m hm (by omega) H (fun H' h' => by
        have := ih (m + 1) (by omega) (by omega) H' h'
        rwa [show ((m + 1 : Nat) : Int) = (m : Int) + 1 by omega] at this) h (n - m) m rfl (Nat.le_refl _) (by omega) (fun a a1 a2 => by omega)
      refine ⟨G, g1, Ev.step (fun q => by simp only [impl_reduced.l2]; rfl) ?_⟩
      simp only [w64 (show -9223372036854775808 ≤ (n : Int) - 1 by omega) (by omega), show ((m : Int) < (n : Int) - 1) by omega, if_true]
      exact g2
    · exact fin m H hm h1 (by omega) h
theorem red_l1 (p : Int) (hp : 0 < p) (hp2 : p ≤ 10007) (n : Nat) (hn : n ≤ 1048575) (A : Nat → Nat → Int) (r : Nat) (hr : r < n) (R : List (List Int))
    (next : Ev (fun k => impl_reduced.l0 k p (vmr (r + 1) n (fun i j => A i j % p)) n (vmat n A) n ((r : Int) + 1)) R) :
    ∀ (d j : Nat), n - j = d → j ≤ n → Ev (fun k => impl_reduced.l1 k p (vmr r n (fun i j => A i j % p)) n (vrow j (fun j => A r j % p)) (vmat n A) n r (vrow n (A r)) n j) R := by
  intro d
  induction d with
  | zero =>
    intro j hd hj
    obtain rfl : j = n := by omega
    refine Ev.step (fun q => by simp only [impl_reduced.l1]; rfl) ?_
    simp only [Int.lt_irrefl, if_false, vmr_length, show r < 5864062014805 by omega, if_true, vmr_snoc, w64 (show -9223372036854775808 ≤ (r : Int) + 1 by omega) (by omega)]
    exact next
  | succ d ih =>
    intro j hd hj
    have hjn : j < n := by omega
    refine Ev.step (fun q => by simp only [impl_reduced.l1]; rfl) ?_
    simp only [show ((j : Int) < (n : Int)) by omega, show (0 : Int) ≤ (j : Int) by omega, vrow_length, if_true, vrow_rd hjn, modulo_eq hp (show p ≤ 1000000 by omega), Option.bind_some, show j < 17592186044416 by omega, vrow_snoc, w64 (show -9223372036854775808 ≤ (j : Int) + 1 by omega) (by omega)]
    have h := ih (j + 1) (by omega) (by omega)
    rw [show ((j + 1 : Nat) : Int) = (j : Int) + 1 by omega] at h
    exact h
theorem reduced_ev (p : Nat) (hp : prN p = true) (hp1 : 2 ≤ p) (hp2 : p ≤ 10007) (n : Nat) (hn : n ≤ 1048575) (A : Nat → Nat → Int) : ∃ G, HF p n A G ∧ Ev (fun k => impl_reduced.f k (vmat n A) p) (vmat n G) := by
  obtain ⟨G, g1, g2⟩ := red_l2 p hp hp1 hp2 n hn A (n - 1) 1 rfl (by omega) _ (HI.start (by omega) n A)
  refine ⟨G, g1, ?_⟩
  have l0 : ∀ (d r : Nat), n - r = d → r ≤ n → Ev (fun k => impl_reduced.l0 k p (vmr r n (fun i j => A i j % p)) n (vmat n A) n r) (vmat n G) := by
    intro d
    induction d with
    | zero =>
      intro r hd hr
      obtain rfl : r = n := by omega
      refine Ev.step (fun q => by simp only [impl_reduced.l0]; rfl) ?_
      simp only [Int.lt_irrefl, if_false]
      exact g2
    | succ d ih =>
      intro r hd hr
      have hrn : r < n := by omega
      have h := ih (r + 1) (by omega) (by omega)
      rw [show ((r + 1 : Nat) : Int) = (r : Int) + 1 by omega] at h
      refine Ev.step (fun q => by simp only [impl_reduced.l0]; rfl) ?_
      simp only [show ((r : Int) < (n : Int)) by omega, show (0 : Int) ≤ (r : Int) by omega, vmat_length, if_true, vmat_row hrn, vrow_length]
      exact red_l1 p (by omega) (by omega) n hn A r hrn _ h n 0 (by omega) (by omega)
  unfold impl_reduced.f
  rw [vmat_length]
  exact l0 n 0 (by omega) (by omega)
def upn : Nat → (Nat → Int) → Nat → Int
  | 0, c => c
  | d + 1, c => la_up (upn d c)
theorem upn_at (c : Nat → Int) : ∀ d m : Nat, upn d c m = if d ≤ m then c (m - d) else 0
  | 0, m => by simp [upn]
  | d + 1, 0 => by simp [upn, la_up]
  | d + 1, m + 1 => by
    show upn d c m = _
    rw [upn_at c d m]
    by_cases h : d ≤ m
    · rw [if_pos h, if_pos (by omega)]; congr 1; omega
    · rw [if_neg h, if_neg (by omega)]
theorem pv_upn (n : Nat) (c : Nat → Int) (u : Int) : ∀ d : Nat, la_pv (n + d) (upn d c) u = u ^ d * la_pv n c u
  | 0 => by simp [upn]
  | d + 1 => by
    show la_pv (n + d + 1) (la_up (upn d c)) u = _
    rw [la_pv_up, pv_upn n c u d, Int.pow_succ, Int.mul_comm (u ^ d) u, Int.mul_assoc]
/-- The numbers next to the diagonal, multiplied from the column j on. -/
def fH (H : Nat → Nat → Int) (j : Nat) : Nat → Int
  | 0 => 1
  | d + 1 => fH H j d * H (j + d + 1) (j + d)
theorem fH_head (H : Nat → Nat → Int) (j : Nat) : ∀ d : Nat, fH H j (d + 1) = H (j + 1) j * fH H (j + 1) d
  | 0 => by simp [fH]
  | d + 1 => by
    show fH H j (d + 1) * H (j + (d + 1) + 1) (j + (d + 1)) = H (j + 1) j * (fH H (j + 1) d * H (j + 1 + d + 1) (j + 1 + d))
    rw [fH_head H j d, Int.mul_assoc, show j + (d + 1) = j + 1 + d by omega]
theorem subp_fH (H : Nat → Nat → Int) (u : Int) (i : Nat) : ∀ d : Nat, la_subp (la_un1 u H) i d = u ^ d * fH H i d
  | 0 => by simp [la_subp, fH]
  | d + 1 => by
    show la_subp (la_un1 u H) i d * (-(la_un1 u H (i + d + 1) (i + d))) = _
    rw [subp_fH H u i d]
    have e : -(la_un1 u H (i + d + 1) (i + d)) = u * H (i + d + 1) (i + d) := by
      unfold la_un1; rw [la_ee_ne (by omega)]; omega
    rw [e, Int.pow_succ]
    show _ = u ^ d * u * (fH H i d * H (i + d + 1) (i + d))
    ac_rfl
theorem cp_hess (H : Nat → Nat → Int) (k : Nat) (hz : ∀ a b, b + 1 < a → a ≤ k → H a b = 0) (m : Nat) (hm : m ≤ k + 1) :
    la_cp (k + 1) H m = la_cp k H m - H k k * la_up (la_cp k H) m - la_sm k (fun i => fH H i (k - i) * H i k * upn (k - i + 1) (la_cp i H) m) := by
  refine la_pv_inj (n := k + 1) (d := fun m => la_cp k H m - H k k * la_up (la_cp k H) m - la_sm k (fun i => fH H i (k - i) * H i k * upn (k - i + 1) (la_cp i H) m)) (fun u _ => ?_) m hm
  rw [← un1_pv, la_hess_step (la_un1 u H) k (fun a b h1 h2 => by unfold la_un1; rw [la_ee_ne (by omega), hz a b h1 h2]; simp)]
  rw [la_pv_sub, la_pv_sub, la_pv_mul, la_pv_sm]
  rw [la_pv_more (n := k) (m := k + 1) (la_cp k H) u (by omega) (fun j hj => la_dc_top _ _ j hj), la_pv_up, ← un1_pv]
  have e1 : la_un1 u H k k = 1 - u * H k k := by unfold la_un1; rw [la_ee_self]
  have e2 : la_sm k (fun i => la_subp (la_un1 u H) i (k - i) * la_un1 u H i k * la_det i (la_un1 u H)) = - la_sm k (fun i => fH H i (k - i) * H i k * la_pv (k + 1) (upn (k - i + 1) (la_cp i H)) u) := by
    rw [← la_sm_neg]
    refine la_sm_congr (fun i hi => ?_)
    have h1 := pv_upn i (la_cp i H) u (k - i + 1)
    rw [show i + (k - i + 1) = k + 1 by omega] at h1
    rw [h1, subp_fH, ← un1_pv, Int.pow_succ]
    have e3 : la_un1 u H i k = -(u * H i k) := by unfold la_un1; rw [la_ee_ne (by omega)]; omega
    rw [e3]
    simp only [Int.mul_neg, Int.neg_mul]
    congr 1
    ac_rfl
  rw [e1, e2, Int.sub_mul, Int.one_mul]
  have e4 : u * H k k * la_det k (la_un1 u H) = H k k * (u * la_det k (la_un1 u H)) := by ac_rfl
  rw [e4]
  omega
theorem sm_rev : ∀ (k : Nat) (f : Nat → Int), la_sm k (fun e => f (k - 1 - e)) = la_sm k f
  | 0, _ => rfl
  | k + 1, f => by
    rw [la_sm_succ']
    have h := sm_rev k f
    rw [la_sm_congr (g := fun e => f (k - 1 - e)) (fun i hi => by show f (k + 1 - 1 - (i + 1)) = _; congr 1; omega), h]
    show f (k + 1 - 1 - 0) + la_sm k f = la_sm k f + f k
    rw [show k + 1 - 1 - 0 = k by omega, Int.add_comm]
theorem emm2 (p X C Y : Int) : ((X % p) - (C % p) * (Y % p)) % p = (X - C * Y) % p := by
  refine Int.emod_eq_emod_iff_emod_sub_eq_zero.2 (Int.emod_eq_zero_of_dvd ?_)
  have h := Int.dvd_sub (dvd_mod p X) (la_mul_dvd_sub (dvd_mod p C) (dvd_mod p Y))
  rw [show (X % p) - (C % p) * (Y % p) - (X - C * Y) = X % p - X - ((C % p) * (Y % p) - C * Y) by omega]
  exact h
theorem mstep {p : Int} (hp : 0 < p) (hp2 : p ≤ 10007) (X C Y : Int) : impl_modulo.f (wrap64 (X % p - wrap64 (C % p * (Y % p)))) p = some ((X - C * Y) % p) := by
  have hem := fun x : Int => And.intro (Int.emod_nonneg x (show p ≠ 0 by omega)) (Int.emod_lt_of_pos x hp)
  rw [(sm_rng hp2 (hem X) (hem C) (hem Y)).1, modulo_eq hp (by omega), emm2]
theorem fstep {p : Int} (hp : 0 < p) (hp2 : p ≤ 10007) (F h : Int) (hh : 0 ≤ h ∧ h < p) : Int.tmod (wrap64 (F % p * h)) p = (F * h) % p := by
  have hem := And.intro (Int.emod_nonneg F (show p ≠ 0 by omega)) (Int.emod_lt_of_pos F hp)
  have hs := sm_rng hp2 hem hem hh
  rw [hs.2.2.2.1, tmod_nn hs.2.2.2.2]
  refine Int.emod_eq_emod_iff_emod_sub_eq_zero.2 (Int.emod_eq_zero_of_dvd ?_)
  exact la_mul_dvd_sub (dvd_mod p F) (show p ∣ h - h from ⟨0, by omega⟩)
def lsN (p : Int) (H : Nat → Nat → Int) (k : Nat) : List (List Int) := (List.range k).map (fun i => vrow (i + 1) (fun m => la_cp i H m % p))
theorem lsN_length (p : Int) (H : Nat → Nat → Int) (k : Nat) : (lsN p H k).length = k := by simp [lsN]
theorem lsN_row {p : Int} {H : Nat → Nat → Int} {k i : Nat} (h : i < k) : rd_L1 (lsN p H k) (i : Int) = vrow (i + 1) (fun m => la_cp i H m % p) := by
  rw [rdL1_nat _ _ (by rw [lsN_length]; exact h)]
  simp [lsN]
theorem lsN_snoc (p : Int) (H : Nat → Nat → Int) (k : Nat) : lsN p H k ++ [vrow (k + 1) (fun m => la_cp k H m % p)] = lsN p H (k + 1) := by
  unfold lsN; rw [List.range_succ, List.map_append]; rfl
def dT (H : Nat → Nat → Int) (k i m : Nat) : Int := fH H i (k - i) * H i k * upn (k - i + 1) (la_cp i H) m
def dX0 (H : Nat → Nat → Int) (k m : Nat) : Int := la_cp k H m - H k k * la_up (la_cp k H) m
def dX (H : Nat → Nat → Int) (k q m : Nat) : Int := dX0 H k m - la_sm q (fun e => dT H k (k - 1 - e) m)
theorem dX_done (H : Nat → Nat → Int) (k : Nat) (hz : ∀ a b, b + 1 < a → a ≤ k → H a b = 0) (m : Nat) (hm : m ≤ k + 1) : dX H k k m = la_cp (k + 1) H m := by
  rw [cp_hess H k hz m hm]
  unfold dX
  rw [sm_rev k (fun i => dT H k i m)]
  rfl
def dS1 (p : Int) (H : Nat → Nat → Int) (k i : Nat) : Nat → Int := fun m => if m < i + 1 then dX0 H k m % p else la_cp k H m % p
def dS3 (p : Int) (H : Nat → Nat → Int) (k q i : Nat) : Nat → Int := fun m => if m < i + q + 2 then dX H k (q + 1) m % p else dX H k q m % p
theorem dm_l3 (p : Int) (hp : 0 < p) (hp2 : p ≤ 10007) (n : Nat) (hn : n ≤ 1048574) (H : Nat → Nat → Int) (hH : ∀ i j, i < n → j < n → 0 ≤ H i j ∧ H i j < p) (k : Nat) (hk : k < n) (q j : Nat) (hq : q + 1 + j = k) (R : List Int)
    (next : Ev (fun z => impl_determinantModulo.l2 z p (vmat n H) (lsN p H (k + 1)) k (vrow (k + 2) (fun m => dX H k (q + 1) m % p)) (fH H j (k - j) % p) ((j : Int) - 1) n k) R) :
    ∀ (d i : Nat), j + 1 - i = d → i ≤ j + 1 → Ev (fun z => impl_determinantModulo.l3 z p (vmat n H) (lsN p H (k + 1)) k (vrow (k + 2) (dS3 p H k q i)) (fH H j (k - j) % p) j n k ((j + 1 : Nat) : Int) i) R := by
  intro d
  induction d with
  | zero =>
    intro i hd hi
    obtain rfl : i = j + 1 := by omega
    refine Ev.step (fun q => by simp only [impl_determinantModulo.l3]; rfl) ?_
    simp only [Int.lt_irrefl, if_false, w64 (show -9223372036854775808 ≤ (j : Int) - 1 by omega) (by omega)]
    refine Ev.congr (fun z => ?_) next
    congr 1
    refine vrow_congr fun m hm => ?_
    unfold dS3
    rw [if_pos (by omega)]
  | succ d ih =>
    intro i hd hi
    have hij : i < j + 1 := by omega
    refine Ev.step (fun q => by simp only [impl_determinantModulo.l3]; rfl) ?_
    have hx : i + q + 2 < k + 2 := by omega
    have ew : wrap64 (wrap64 (wrap64 ((i : Int) + k) - j) + 1) = ((i + q + 2 : Nat) : Int) := by
      rw [w64 (n := (i : Int) + k) (by omega) (by omega), w64 (n := (i : Int) + k - j) (by omega) (by omega), w64 (n := (i : Int) + k - j + 1) (by omega) (by omega)]; omega
    have e1 : dS3 p H k q i (i + q + 2) = dX H k q (i + q + 2) % p := by unfold dS3; rw [if_neg (by omega)]
    have hh := hH j k (by omega) hk
    simp only [ew, show ((i : Int) < ((j + 1 : Nat) : Int)) by omega, show (0 : Int) ≤ (i : Int) by omega, vrow_length, show (0 : Int) ≤ ((i + q + 2 : Nat) : Int) by omega, show ((i + q + 2 : Nat) : Int) < ((k + 2 : Nat) : Int) by omega, show (0 : Int) ≤ (j : Int) by omega, vmat_length, show ((j : Int) < (n : Int)) by omega, show (0 : Int) ≤ (k : Int) by omega, show ((k : Int) < (n : Int)) by omega, if_true, lsN_row (show j < k + 1 by omega), vmat_row (show j < n by omega), vrow_rd hk, vrow_rd hij, vrow_rd hx, show ¬ (p = 0) by omega, if_false, fstep hp hp2 (fH H j (k - j)) (H j k) hh, e1, mstep hp hp2, Option.bind_some, Int.toNat_natCast, vrow_set, w64 (show -9223372036854775808 ≤ (i : Int) + 1 by omega) (by omega)]
    have h := ih (i + 1) (by omega) (by omega)
    rw [show ((i + 1 : Nat) : Int) = (i : Int) + 1 by omega] at h
    refine Ev.congr (fun z => ?_) h
    congr 1
    refine vrow_congr fun m hm => ?_
    unfold dS3
    by_cases g : m = i + q + 2
    · subst g
      rw [if_pos rfl, if_pos (by omega)]
      congr 1
      show dX0 H k (i + q + 2) - la_sm q (fun e => dT H k (k - 1 - e) (i + q + 2)) - fH H j (k - j) * H j k * la_cp j H i = dX0 H k (i + q + 2) - (la_sm q (fun e => dT H k (k - 1 - e) (i + q + 2)) + dT H k (k - 1 - q) (i + q + 2))
      rw [show k - 1 - q = j by omega]
      have e2 : dT H k j (i + q + 2) = fH H j (k - j) * H j k * la_cp j H i := by
        unfold dT
        rw [upn_at, if_pos (by omega), show i + q + 2 - (k - j + 1) = i by omega]
      rw [e2]; omega
    · rw [if_neg g]
      by_cases g2 : m < i + q + 2
      · rw [if_pos g2, if_pos (by omega)]
      · rw [if_neg g2, if_neg (by omega)]
theorem dm_l2 (p : Int) (hp : 0 < p) (hp2 : p ≤ 10007) (n : Nat) (hn : n ≤ 1048574) (H : Nat → Nat → Int) (hH : ∀ i j, i < n → j < n → 0 ≤ H i j ∧ H i j < p) (hz : ∀ a b, a < n → b + 1 < a → H a b = 0) (k : Nat) (hk : k < n) (R : List Int)
    (next : Ev (fun z => impl_determinantModulo.l0 z p (vmat n H) (lsN p H (k + 2)) n ((k : Int) + 1)) R) :
    ∀ (d q : Nat), k - q = d → q ≤ k → Ev (fun z => impl_determinantModulo.l2 z p (vmat n H) (lsN p H (k + 1)) k (vrow (k + 2) (fun m => dX H k q m % p)) (fH H (k - q) q % p) ((k : Int) - 1 - q) n k) R := by
  intro d
  induction d with
  | zero =>
    intro q hd hq
    obtain rfl : q = k := by omega
    refine Ev.step (fun q => by simp only [impl_determinantModulo.l2]; rfl) ?_
    simp only [show ¬ ((q : Int) - 1 - q ≥ 0) by omega, if_false, lsN_length, show q + 1 < 5864062014805 by omega, if_true, w64 (show -9223372036854775808 ≤ (q : Int) + 1 by omega) (by omega)]
    refine Ev.congr (fun z => ?_) next
    rw [← lsN_snoc p H (q + 1)]
    congr 3
    exact (vrow_congr fun m hm => by rw [dX_done H q (fun a b h1 h2 => hz a b (by omega) h1) m (by omega)]).symm
  | succ d ih =>
    intro q hd hq
    obtain ⟨j, hj⟩ : ∃ j, q + 1 + j = k := ⟨k - q - 1, by omega⟩
    have h := ih (q + 1) (by omega) (by omega)
    rw [show k - (q + 1) = j by omega, show (k : Int) - 1 - ((q + 1 : Nat) : Int) = (j : Int) - 1 by omega, show q + 1 = k - j by omega] at h
    rw [show k - j = q + 1 by omega] at h
    have h' : Ev (fun z => impl_determinantModulo.l2 z p (vmat n H) (lsN p H (k + 1)) k (vrow (k + 2) (fun m => dX H k (q + 1) m % p)) (fH H j (k - j) % p) ((j : Int) - 1) n k) R := by
      rw [show k - j = q + 1 by omega]; exact h
    have h3 := dm_l3 p hp hp2 n hn H hH k hk q j hj R h' (j + 1) 0 (by omega) (by omega)
    refine Ev.step (fun q => by simp only [impl_determinantModulo.l2]; rfl) ?_
    have e0 : (k : Int) - 1 - q = (j : Int) := by omega
    have e1 : wrap64 ((j : Int) + 1) = ((j + 1 : Nat) : Int) := by rw [w64 (by omega) (by omega)]; omega
    have hh := hH (j + 1) j (by omega) (by omega)
    simp only [e0, e1, show ((j : Int) ≥ 0) by omega, show (0 : Int) ≤ ((j + 1 : Nat) : Int) by omega, vmat_length, show ((j + 1 : Nat) : Int) < (n : Int) by omega, show (0 : Int) ≤ (j : Int) by omega, if_true, vmat_row (show j + 1 < n by omega), vrow_length, show ((j : Int) < (n : Int)) by omega, vrow_rd (show j < n by omega), show ¬ (p = 0) by omega, if_false, lsN_length, show ((j : Int) < ((k + 1 : Nat) : Int)) by omega, lsN_row (show j < k + 1 by omega), fstep hp hp2 (fH H (k - q) q) _ hh]
    have e2 : fH H (k - q) q * H (j + 1) j = fH H j (k - j) := by
      rw [show k - q = j + 1 by omega, show k - j = q + 1 by omega, fH_head, Int.mul_comm]
    rw [e2]
    refine Ev.congr (fun z => ?_) h3
    congr 1
    refine vrow_congr fun m hm => ?_
    unfold dS3
    by_cases g : m < 0 + q + 2
    · rw [if_pos g]
      congr 1
      show dX0 H k m - la_sm q (fun e => dT H k (k - 1 - e) m) = dX0 H k m - (la_sm q (fun e => dT H k (k - 1 - e) m) + dT H k (k - 1 - q) m)
      have e3 : dT H k (k - 1 - q) m = 0 := by
        unfold dT
        rw [upn_at, if_neg (by omega), Int.mul_zero]
      rw [e3]; omega
    · rw [if_neg g]
theorem dm_l1 (p : Int) (hp : 0 < p) (hp2 : p ≤ 10007) (n : Nat) (hn : n ≤ 1048574) (H : Nat → Nat → Int) (hH : ∀ i j, i < n → j < n → 0 ≤ H i j ∧ H i j < p) (k : Nat) (hk : k < n) (R : List Int)
    (next : Ev (fun z => impl_determinantModulo.l2 z p (vmat n H) (lsN p H (k + 1)) k (vrow (k + 2) (fun m => dX H k 0 m % p)) 1 ((k : Int) - 1) n k) R) :
    ∀ (d i : Nat), k + 1 - i = d → i ≤ k + 1 → Ev (fun z => impl_determinantModulo.l1 z p (vmat n H) (lsN p H (k + 1)) k (vrow (k + 2) (dS1 p H k i)) n k ((k + 1 : Nat) : Int) i) R := by
  intro d
  induction d with
  | zero =>
    intro i hd hi
    obtain rfl : i = k + 1 := by omega
    refine Ev.step (fun q => by simp only [impl_determinantModulo.l1]; rfl) ?_
    simp only [Int.lt_irrefl, if_false, w64 (show -9223372036854775808 ≤ (k : Int) - 1 by omega) (by omega)]
    refine Ev.congr (fun z => ?_) next
    congr 1
    refine vrow_congr fun m hm => ?_
    unfold dS1
    rw [if_pos (by omega)]
    congr 1
    show dX0 H k m = dX0 H k m - 0
    omega
  | succ d ih =>
    intro i hd hi
    have hik : i < k + 1 := by omega
    refine Ev.step (fun q => by simp only [impl_determinantModulo.l1]; rfl) ?_
    have ew : wrap64 ((i : Int) + 1) = ((i + 1 : Nat) : Int) := by rw [w64 (by omega) (by omega)]; omega
    have e1 : dS1 p H k i (i + 1) = la_cp k H (i + 1) % p := by unfold dS1; rw [if_neg (by omega)]
    have hh := hH k k hk hk
    have e2 : H k k = H k k % p := (Int.emod_eq_of_lt hh.1 hh.2).symm
    have e3 : impl_modulo.f (wrap64 (la_cp k H (i + 1) % p - wrap64 (H k k * (la_cp k H i % p)))) p = some ((la_cp k H (i + 1) - H k k * la_cp k H i) % p) := by
      have := mstep hp hp2 (la_cp k H (i + 1)) (H k k) (la_cp k H i)
      rwa [← e2] at this
    simp only [ew, show ((i : Int) < ((k + 1 : Nat) : Int)) by omega, show (0 : Int) ≤ (i : Int) by omega, vrow_length, show (0 : Int) ≤ ((i + 1 : Nat) : Int) by omega, show ((i + 1 : Nat) : Int) < ((k + 2 : Nat) : Int) by omega, show (0 : Int) ≤ (k : Int) by omega, vmat_length, show ((k : Int) < (n : Int)) by omega, if_true, lsN_row (show k < k + 1 by omega), vmat_row hk, vrow_rd hk, vrow_rd hik, vrow_rd (show i + 1 < k + 2 by omega), e1, e3, Option.bind_some, Int.toNat_natCast, vrow_set]
    have h := ih (i + 1) (by omega) (by omega)
    refine Ev.congr (fun z => ?_) h
    congr 1
    refine vrow_congr fun m hm => ?_
    unfold dS1
    by_cases g : m = i + 1
    · subst g
      rw [if_pos rfl, if_pos (by omega)]
      rfl
    · rw [if_neg g]
      by_cases g2 : m < i + 1
      · rw [if_pos g2, if_pos (by omega)]
      · rw [if_neg g2, if_neg (by omega)]
theorem dm_l0 (p : Int) (hp : 2 ≤ p) (hp2 : p ≤ 10007) (n : Nat) (hn : n ≤ 1048574) (H : Nat → Nat → Int) (hH : ∀ i j, i < n → j < n → 0 ≤ H i j ∧ H i j < p) (hz : ∀ a b, a < n → b + 1 < a → H a b = 0) :
    ∀ (d k : Nat), n - k = d → k ≤ n → Ev (fun z => impl_determinantModulo.l0 z p (vmat n H) (lsN p H (k + 1)) n k) (trimN (vrow (n + 1) (fun m => la_cp n H m % p)) (n + 1)) := by
  intro d
  induction d with
  | zero =>
    intro k hd hk
    obtain rfl : k = n := by omega
    refine Ev.step (fun q => by simp only [impl_determinantModulo.l0]; rfl) ?_
    have h := trimmed_ev (vrow (k + 1) (fun m => la_cp k H m % p)) (by rw [vrow_length]; omega)
    rw [vrow_length] at h
    simp only [Int.lt_irrefl, if_false, vmat_length, show (0 : Int) ≤ (k : Int) by omega, lsN_length, show ((k : Int) < ((k + 1 : Nat) : Int)) by omega, if_true, lsN_row (show k < k + 1 by omega)]
    exact Ev.bind h (Ev.now _)
  | succ d ih =>
    intro k hd hk
    have hkn : k < n := by omega
    have h := ih (k + 1) (by omega) (by omega)
    rw [show ((k + 1 : Nat) : Int) = (k : Int) + 1 by omega] at h
    have h2 := dm_l2 p (by omega) hp2 n hn H hH hz k hkn _ h k 0 (by omega) (by omega)
    rw [show fH H (k - 0) 0 % p = 1 from Int.emod_eq_of_lt (a := 1) (by omega) (by omega), show (k : Int) - 1 - ((0 : Nat) : Int) = (k : Int) - 1 by omega] at h2
    have h1 := dm_l1 p (by omega) hp2 n hn H hH k hkn _ h2 (k + 1) 0 (by omega) (by omega)
    refine Ev.step (fun q => by simp only [impl_determinantModulo.l0]; rfl) ?_
    have e : vrow (k + 1) (fun m => la_cp k H m % p) ++ [0] = vrow (k + 2) (dS1 p H k 0) := by
      rw [show k + 2 = (k + 1) + 1 from rfl, ← vrow_snoc (k + 1)]
      have g0 : dS1 p H k 0 (k + 1) = 0 := by
        unfold dS1
        rw [if_neg (by omega), show la_cp k H (k + 1) = 0 from la_dc_top _ _ _ (by omega), Int.zero_emod]
      rw [g0]
      congr 1
      refine vrow_congr fun m hm => ?_
      unfold dS1
      by_cases g : m < 0 + 1
      · obtain rfl : m = 0 := by omega
        rw [if_pos g]
        congr 1
        unfold dX0
        show _ = la_cp k H 0 - H k k * 0
        rw [Int.mul_zero, Int.sub_zero]
      · rw [if_neg g]
    simp only [show ((k : Int) < (n : Int)) by omega, show (0 : Int) ≤ (k : Int) by omega, lsN_length, show ((k : Int) < ((k + 1 : Nat) : Int)) by omega, if_true, lsN_row (show k < k + 1 by omega), clone_ev (vrow (k + 1) (fun m => la_cp k H m % p)) (by rw [vrow_length]; omega), Option.bind_some, vrow_length, show k + 1 < 17592186044416 by omega, e]
    exact h1
theorem determinantModulo_ev (p : Nat) (hp : prN p = true) (hp1 : 2 ≤ p) (hp2 : p ≤ 10007) (n : Nat) (hn : n ≤ 1048574) (A : Nat → Nat → Int) : Ev (fun k => impl_determinantModulo.f k (vmat n A) p) (trimN (vrow (n + 1) (fun m => la_cp n A m % (p : Int))) (n + 1)) := by
  obtain ⟨G, ⟨g1, g2, g3⟩, g4⟩ := reduced_ev p hp hp1 hp2 n (by omega) A
  unfold impl_determinantModulo.f
  refine Ev.bind g4 ?_
  have h := dm_l0 p (by omega) (by omega) n hn G g1 g3 n 0 (by omega) (by omega)
  rw [vmat_length]
  rw [show vrow (n + 1) (fun m => la_cp n A m % (p : Int)) = vrow (n + 1) (fun m => la_cp n G m % (p : Int)) from vrow_congr fun m _ => (Int.emod_eq_emod_iff_emod_sub_eq_zero.2 (Int.emod_eq_zero_of_dvd (g2 m))).symm]
  refine Ev.congr (fun q => ?_) h
  have e : ([[1]] : List (List Int)) = lsN p G (0 + 1) := by
    show _ = [[la_cp 0 G 0 % (p : Int)]]
    rw [la_cp_zero, Int.emod_eq_of_lt (a := 1) (by omega) (by omega)]
  rw [e]
  rfl
theorem l06Prime_l0 (p : Nat) (hp : p ≤ 10007) : ∀ (m d : Nat), p + 1 - d = m → 2 ≤ d → d ≤ p + 1 → (∀ e, 2 ≤ e → e < d → e * e ≤ p → p % e ≠ 0) → Ev (fun k => spec_l06Prime.l0 k p d) (prN p) := by
  intro m
  induction m with
  | zero =>
    intro d hm hd hdp hl
    have hdd : p < d * d := by
      obtain rfl : d = p + 1 := by omega
      have : (p + 1) * 1 ≤ (p + 1) * (p + 1) := Nat.mul_le_mul_left _ (by omega)
      omega
    have hs : d * d ≤ 10008 * 10008 := Nat.mul_le_mul (by omega) (by omega)
    refine Ev.step (fun q => by simp only [spec_l06Prime.l0]; rfl) ?_
    rw [prN_done hdd hl]
    simp only [show ((d : Int) * (d : Int)) = ((d * d : Nat) : Int) by simp, w64 (show -9223372036854775808 ≤ ((d * d : Nat) : Int) by omega) (by omega), show ¬ (((d * d : Nat) : Int) ≤ (p : Int)) by omega, if_false]
    exact Ev.now _
  | succ m ih =>
    intro d hm hd hdp hl
    have hs : d * d ≤ 10008 * 10008 := Nat.mul_le_mul (by omega) (by omega)
    refine Ev.step (fun q => by simp only [spec_l06Prime.l0]; rfl) ?_
    simp only [show ((d : Int) * (d : Int)) = ((d * d : Nat) : Int) by simp, w64 (show -9223372036854775808 ≤ ((d * d : Nat) : Int) by omega) (by omega)]
    by_cases h : d * d ≤ p
    · simp only [show (((d * d : Nat) : Int) ≤ (p : Int)) by omega, if_true, show ¬ ((d : Int) = 0) by omega, if_false, tmod_nat]
      by_cases h0 : p % d = 0
      · simp only [h0, show (((0 : Nat) : Int) = 0) by rfl, if_true, prN_step hd h h0]
        exact Ev.now _
      · simp only [show ¬ (((p % d : Nat) : Int) = 0) by omega, if_false, w64 (show -9223372036854775808 ≤ (d : Int) + 1 by omega) (by omega)]
        exact ih (d + 1) (by omega) (by omega) (by omega) (fun e h1 h2 h3 => by
          by_cases he : e = d
          · subst he; exact h0
          · exact hl e h1 (by omega) h3)
    · rw [prN_done (by omega) hl]
      simp only [show ¬ (((d * d : Nat) : Int) ≤ (p : Int)) by omega, if_false]
      exact Ev.now _
theorem l06Prime_ev (p : Int) : Ev (fun k => spec_l06Prime.f k p) (prB 10007 p) := by
  unfold spec_l06Prime.f prB
  simp only [l01In_eq, Option.bind_some]
  by_cases h : (decide (2 ≤ p) && decide (p ≤ 10007)) = true
  · simp only [h, if_true, Bool.true_and]
    simp only [Bool.and_eq_true, decide_eq_true_eq] at h
    obtain ⟨q, rfl⟩ : ∃ q : Nat, p = q := ⟨p.toNat, by omega⟩
    rw [Int.toNat_natCast]
    exact l06Prime_l0 q (by omega) (q - 1) 2 (by omega) (by omega) (by omega) (fun e h1 h2 _ => by omega)
  · simp only [Bool.not_eq_true] at h
    simp only [h, Bool.false_eq_true, if_false, Bool.false_and]
    exact Ev.now _
theorem l02Matrix_l1 (a : Int) (l : List (List Int)) (hl : l.length ≤ 10) (h2 : two l) (x3 : List (List Int)) (hx : x3.length < 1048576) (R : List (List Int)) (e : Nat) (he : e < 2 * l.length)
    (hR : Ev (fun k => spec_l02Matrix.l0 k (x3 ++ [mrow (2 * l.length) (next l e) (2 * l.length)]) ((2 * l.length : Nat) : Int) ((e : Int) + 1) a l) R) :
    ∀ (d f : Nat), 2 * l.length - f = d → f ≤ 2 * l.length → Ev (fun k => spec_l02Matrix.l1 k x3 ((2 * l.length : Nat) : Int) e (mrow (2 * l.length) (next l e) f) (endAt l e) f a l) R := by
  intro d
  induction d with
  | zero =>
    intro f hd hf
    obtain rfl : f = 2 * l.length := by omega
    refine Ev.step (fun k => by simp only [spec_l02Matrix.l1]; rfl) ?_
    simp only [Int.lt_irrefl, if_false, show x3.length < 5864062014805 by omega, if_true, w64 (show -9223372036854775808 ≤ (e : Int) + 1 by omega) (by omega)]
    exact hR
  | succ d ih =>
    intro f hd hf
    have hfl : f < 2 * l.length := by omega
    refine Ev.step (fun k => by simp only [spec_l02Matrix.l1]; rfl) ?_
    have h := ih (f + 1) (by omega) (by omega)
    simp only [show ((f : Int) < ((2 * l.length : Nat) : Int)) by omega, if_true, l01Ends_eq a l (by omega) h2 f hfl, Option.bind_some, show (0 : Int) ≤ (f : Int) by omega, mrow_length, Int.toNat_natCast, xor1 e (by omega), w64 (show -9223372036854775808 ≤ (f : Int) + 1 by omega) (by omega)]
    have hn : next l e f = (decide (endAt l e = begAt l f) && !decide (f = opp e)) := rfl
    by_cases h3 : begAt l f = endAt l e
    · simp only [h3, if_true]
      by_cases h4 : f = opp e
      · simp only [eq_true (show (f : Int) = ((opp e : Nat) : Int) by omega), if_true]
        rw [mrow_miss _ _ _ (show next l e f = false by rw [hn]; simp [h3, h4.symm])]
        exact h
      · simp only [show ¬ ((f : Int) = ((opp e : Nat) : Int)) by omega, if_false]
        rw [mrow_hit _ _ _ hfl (show next l e f = true by rw [hn]; simp [h3, h4])]
        exact h
    · simp only [h3, if_false]
      rw [mrow_miss _ _ _ (show next l e f = false by rw [hn]; simp [Ne.symm h3])]
      exact h
theorem l02Matrix_l0 (a : Int) (l : List (List Int)) (hl : l.length ≤ 10) (h2 : two l) : ∀ (d e : Nat), 2 * l.length - e = d → e ≤ 2 * l.length → Ev (fun k => spec_l02Matrix.l0 k ((edgeM l).take e) ((2 * l.length : Nat) : Int) e a l) (edgeM l) := by
  have hlen : (edgeM l).length = 2 * l.length := by simp [edgeM]
  intro d
  induction d with
  | zero =>
    intro e hd he
    refine Ev.step (fun k => by simp only [spec_l02Matrix.l0]; rfl) ?_
    simp only [show ¬ ((e : Int) < ((2 * l.length : Nat) : Int)) by omega, if_false]
    rw [List.take_of_length_le (by omega)]
    exact Ev.now _
  | succ d ih =>
    intro e hd he
    have hel : e < 2 * l.length := by omega
    refine Ev.step (fun k => by simp only [spec_l02Matrix.l0]; rfl) ?_
    simp only [show ((e : Int) < ((2 * l.length : Nat) : Int)) by omega, show (0 : Int) ≤ ((2 * l.length : Nat) : Int) by omega, show 2 * l.length ≤ 35184372088832 by omega, if_true, Int.toNat_natCast, l01Ends_eq a l (by omega) h2 e hel, Option.bind_some]
    rw [← mrow_zero (2 * l.length) (next l e)]
    refine l02Matrix_l1 a l hl h2 ((edgeM l).take e) (by rw [List.length_take]; omega) (edgeM l) e hel ?_ (2 * l.length) 0 (by omega) (by omega)
    have h := ih (e + 1) (by omega) (by omega)
    have e1 : (edgeM l).take (e + 1) = (edgeM l).take e ++ [mrow (2 * l.length) (next l e) (2 * l.length)] := by
      rw [List.take_succ_eq_append_getElem (by omega)]
      simp [edgeM]
    rw [e1] at h
    exact h
theorem l02Matrix_ev (a : Int) (l : List (List Int)) (hl : l.length ≤ 10) (h2 : two l) : Ev (fun k => spec_l02Matrix.f k a l) (edgeM l) := by
  unfold spec_l02Matrix.f
  rw [w64 (by omega) (by omega), show 2 * (l.length : Int) = ((2 * l.length : Nat) : Int) by omega]
  exact l02Matrix_l0 a l hl h2 (2 * l.length) 0 (by omega) (by omega)
theorem eA_rng (l : List (List Int)) (e f : Nat) : 0 ≤ eA l e f ∧ eA l e f ≤ 1 := by unfold eA; split <;> omega
/-- The code of a prime, a graph and weights. -/
def wtC (p a : Int) (l : List (List Int)) (ws : List Int) : Int := if isG a l then (if prB 10007 p then (if (ws.length : Int) = 2 * (l.length : Int) then (if ws.all (fun u => decide (0 ≤ u) && decide (u ≤ p - 1)) = true then 0 else 2) else 2) else 2) else 1
theorem wtC_zero {p a : Int} {l : List (List Int)} {ws : List Int} (h : wtC p a l ws = 0) : isG a l = true ∧ prB 10007 p = true ∧ ws.length = 2 * l.length ∧ ws.all (fun u => decide (0 ≤ u) && decide (u ≤ p - 1)) = true := by
  unfold wtC at h
  split at h
  · split at h
    · split at h
      · split at h
        · exact ⟨by assumption, by assumption, by omega, by assumption⟩
        · omega
      · omega
    · omega
  · omega
theorem wt_rng {p : Int} {ws : List Int} (h : ws.all (fun u => decide (0 ≤ u) && decide (u ≤ p - 1)) = true) (j : Nat) (hj : j < ws.length) : 0 ≤ rd ws (j : Int) ∧ rd ws (j : Int) < p := by
  rw [rd_nat ws j hj]
  have := List.all_eq_true.1 h ws[j] (List.getElem_mem hj)
  simp only [Bool.and_eq_true, decide_eq_true_eq] at this
  omega
theorem l06Code_l0 (p : Int) (hp : 2 ≤ p ∧ p ≤ 10007) (us : List Int) (hu : us.length ≤ 1048576) : ∀ (d i : Nat), us.length - i = d → i ≤ us.length → Ev (fun k => spec_l06Code.l0 k p us i) (if (us.drop i).all (fun u => decide (0 ≤ u) && decide (u ≤ p - 1)) = true then 0 else 2) := by
  intro d
  induction d with
  | zero =>
    intro i hd hi
    obtain rfl : i = us.length := by omega
    refine Ev.step (fun q => by simp only [spec_l06Code.l0]; rfl) ?_
    rw [List.drop_length]
    simp only [Int.lt_irrefl, if_false, List.all_nil, if_true]
    exact Ev.now _
  | succ d ih =>
    intro i hd hi
    have hil : i < us.length := by omega
    refine Ev.step (fun q => by simp only [spec_l06Code.l0]; rfl) ?_
    rw [List.drop_eq_getElem_cons hil, List.all_cons]
    simp only [show ((i : Int) < (us.length : Int)) by omega, show (0 : Int) ≤ (i : Int) by omega, if_true, rd_nat us i hil, l01In_eq, Option.bind_some, w64 (show -9223372036854775808 ≤ p - 1 by omega) (by omega), w64 (show -9223372036854775808 ≤ (i : Int) + 1 by omega) (by omega)]
    cases h : (decide (0 ≤ us[i]) && decide (us[i] ≤ p - 1)) with
    | false => simp only [Bool.false_eq_true, if_false, Bool.false_and]; exact Ev.now _
    | true =>
      simp only [if_true, Bool.true_and]
      exact ih (i + 1) (by omega) (by omega)
theorem l06Code_ev (p a : Int) (l : List (List Int)) (ws : List Int) (hl : l.length ≤ maxLen) : Ev (fun k => spec_l06Code.f k p a l ws) (wtC p a l ws) := by
  unfold spec_l06Code.f wtC
  refine Ev.bind (spec_l01Is_ev a l hl) ?_
  cases h : isG a l with
  | false => simp only [Bool.false_eq_true, if_false]; exact Ev.now _
  | true =>
    have hl10 := isG_len h
    simp only [if_true]
    refine Ev.bind (l06Prime_ev p) ?_
    cases hp : prB 10007 p with
    | false => simp only [Bool.false_eq_true, if_false]; exact Ev.now _
    | true =>
      obtain ⟨q, rfl, h2, h3, _⟩ := prB_nat hp
      simp only [if_true, w64 (show -9223372036854775808 ≤ 2 * (l.length : Int) by omega) (by omega)]
      by_cases hw : (ws.length : Int) = 2 * (l.length : Int)
      · simp only [hw, if_true]
        exact l06Code_l0 q ⟨by omega, h3⟩ ws (by omega) ws.length 0 (by omega) (by omega)
      · simp only [hw, if_false]; exact Ev.now _
theorem any_wtBad (p : Int) (ws : List Int) : (!(ws.any (wtBad (p - 1)))) = ws.all (fun u => decide (0 ≤ u) && decide (u ≤ p - 1)) := by
  induction ws with
  | nil => rfl
  | cons x xs ih =>
    rw [List.any_cons, List.all_cons, Bool.not_or, ih]
    unfold wtBad
    rw [Bool.not_not]
theorem weightedCode_ev (p a : Int) (l : List (List Int)) (ws : List Int) (hl : l.length ≤ maxLen) : Ev (fun k => impl_WeightedReciprocal_1.f k a l p a l ws) (wtC p a l ws) := by
  unfold impl_WeightedReciprocal_1.f wtC
  refine Ev.bind (impl_IsGraph_ev a l hl) ?_
  cases h : isG a l with
  | false => simp only [Bool.false_eq_true, if_false]; exact Ev.now _
  | true =>
    have hl10 := isG_len h
    simp only [if_true]
    refine Ev.bind (isPrimeNumber_ev p) ?_
    cases hp : prB 10007 p with
    | false => simp only [Bool.false_eq_true, if_false]; exact Ev.now _
    | true =>
      obtain ⟨q, rfl, h2, h3, _⟩ := prB_nat hp
      simp only [if_true, impl_Graph_areWeights.f, Option.bind_some, w64 (show -9223372036854775808 ≤ 2 * (l.length : Int) by omega) (by omega), w64 (show -9223372036854775808 ≤ (q : Int) - 1 by omega) (by omega), any_wtBad]
      by_cases hw : (ws.length : Int) = 2 * (l.length : Int)
      · simp only [hw, decide_true, Bool.true_and, if_true]
        by_cases hr : (ws.all fun u => decide (0 ≤ u) && decide (u ≤ (q : Int) - 1)) = true
        · simp only [hr, if_true]; exact Ev.now _
        · simp only [hr, if_false]; exact Ev.now _
      · simp only [hw, decide_false, Bool.false_and, Bool.false_eq_true, if_false]; exact Ev.now _
/-- The edge matrix, each number times its column's weight, ahead of row e0's column f0. -/
def wM (l : List (List Int)) (ws : List Int) (e0 f0 : Nat) (i j : Nat) : Int := if i < e0 ∨ i = e0 ∧ j < f0 then eA l i j * rd ws (j : Int) else eA l i j
theorem wM_step (l : List (List Int)) (ws : List Int) (e f : Nat) (he : e < 2 * l.length) : (vmat (2 * l.length) (wM l ws e f)).set e ((rd_L1 (vmat (2 * l.length) (wM l ws e f)) (e : Int)).set f (eA l e f * rd ws (f : Int))) = vmat (2 * l.length) (wM l ws e (f + 1)) := by
  rw [vmat_upd _ _ he]
  refine vmat_congr fun i j hi hj => ?_
  unfold wM
  by_cases h1 : i = e ∧ j = f
  · rw [if_pos h1, h1.1, h1.2, if_pos (Or.inr ⟨rfl, by omega⟩)]
  · rw [if_neg h1]
    by_cases h2 : i < e ∨ i = e ∧ j < f
    · rw [if_pos h2, if_pos (by omega)]
    · rw [if_neg h2, if_neg (by omega)]
theorem wM_next (l : List (List Int)) (ws : List Int) (e : Nat) : vmat (2 * l.length) (wM l ws e (2 * l.length)) = vmat (2 * l.length) (wM l ws (e + 1) 0) := by
  refine vmat_congr fun i j hi hj => ?_
  unfold wM
  by_cases h : i < e ∨ i = e ∧ j < 2 * l.length
  · rw [if_pos h, if_pos (by omega)]
  · rw [if_neg h, if_neg (by omega)]
theorem wM_at (l : List (List Int)) (ws : List Int) (e f : Nat) (hf : f < 2 * l.length) : rd (vrow (2 * l.length) (wM l ws e f e)) (f : Int) = eA l e f := by
  rw [vrow_rd hf]
  unfold wM
  rw [if_neg (by omega)]
theorem wM_prod (l : List (List Int)) (e f : Nat) {p x : Int} (hx : 0 ≤ x ∧ x < p) : 0 ≤ eA l e f * x ∧ eA l e f * x < p := by
  unfold eA
  split
  · rw [Int.one_mul]; exact hx
  · rw [Int.zero_mul]; omega
theorem weighted_l1 (l : List (List Int)) (hl : l.length ≤ 10) (p : Int) (hp : 2 ≤ p ∧ p ≤ 10007) (ws : List Int) (hw : ws.length = 2 * l.length) (hr : ∀ j : Nat, j < ws.length → 0 ≤ rd ws (j : Int) ∧ rd ws (j : Int) < p) (R : List (List Int)) (e : Nat) (he : e < 2 * l.length)
    (next : Ev (fun k => impl_Graph_weighted.l0 k ws (vmat (2 * l.length) (wM l ws (e + 1) 0)) ((2 * l.length : Nat) : Int) ((e : Int) + 1)) R) :
    ∀ (d f : Nat), 2 * l.length - f = d → f ≤ 2 * l.length → Ev (fun k => impl_Graph_weighted.l1 k ws (vmat (2 * l.length) (wM l ws e f)) ((2 * l.length : Nat) : Int) e ((2 * l.length : Nat) : Int) f) R := by
  intro d
  induction d with
  | zero =>
    intro f hd hf
    obtain rfl : f = 2 * l.length := by omega
    refine Ev.step (fun k => by simp only [impl_Graph_weighted.l1]; rfl) ?_
    simp only [Int.lt_irrefl, if_false, wM_next, w64 (show -9223372036854775808 ≤ (e : Int) + 1 by omega) (by omega)]
    exact next
  | succ d ih =>
    intro f hd hf
    have hfl : f < 2 * l.length := by omega
    refine Ev.step (fun k => by simp only [impl_Graph_weighted.l1]; rfl) ?_
    have h := ih (f + 1) (by omega) (by omega)
    have hx := wM_prod l e f (hr f (by omega))
    rw [← wM_step l ws e f he, show ((f + 1 : Nat) : Int) = (f : Int) + 1 by omega] at h
    simp only [show ((f : Int) < ((2 * l.length : Nat) : Int)) by omega, show (0 : Int) ≤ (f : Int) by omega, vmat_row he, vrow_length, wM_at l ws e f hfl, show ((f : Int) < (ws.length : Int)) by omega, if_true, Int.toNat_natCast, w64 (show -9223372036854775808 ≤ eA l e f * rd ws (f : Int) by omega) (by omega), w64 (show -9223372036854775808 ≤ (f : Int) + 1 by omega) (by omega)] at h ⊢
    exact h
theorem weighted_l0 (l : List (List Int)) (hl : l.length ≤ 10) (p : Int) (hp : 2 ≤ p ∧ p ≤ 10007) (ws : List Int) (hw : ws.length = 2 * l.length) (hr : ∀ j : Nat, j < ws.length → 0 ≤ rd ws (j : Int) ∧ rd ws (j : Int) < p) :
    ∀ (d e : Nat), 2 * l.length - e = d → e ≤ 2 * l.length → Ev (fun k => impl_Graph_weighted.l0 k ws (vmat (2 * l.length) (wM l ws e 0)) ((2 * l.length : Nat) : Int) e) (vmat (2 * l.length) (wM l ws (2 * l.length) 0)) := by
  intro d
  induction d with
  | zero =>
    intro e hd he
    obtain rfl : e = 2 * l.length := by omega
    refine Ev.step (fun k => by simp only [impl_Graph_weighted.l0]; rfl) ?_
    simp only [Int.lt_irrefl, if_false]
    exact Ev.now _
  | succ d ih =>
    intro e hd he
    have hel : e < 2 * l.length := by omega
    have h := ih (e + 1) (by omega) (by omega)
    rw [show ((e + 1 : Nat) : Int) = (e : Int) + 1 by omega] at h
    refine Ev.step (fun k => by simp only [impl_Graph_weighted.l0]; rfl) ?_
    simp only [show ((e : Int) < ((2 * l.length : Nat) : Int)) by omega, show (0 : Int) ≤ (e : Int) by omega, vmat_length, vmat_row hel, vrow_length, if_true]
    exact weighted_l1 l hl p hp ws hw hr _ e hel h (2 * l.length) 0 (by omega) (by omega)
theorem weighted_ev (a : Int) (l : List (List Int)) (h : isG a l = true) (p : Int) (hp : 2 ≤ p ∧ p ≤ 10007) (ws : List Int) (hw : ws.length = 2 * l.length) (hr : ∀ j : Nat, j < ws.length → 0 ≤ rd ws (j : Int) ∧ rd ws (j : Int) < p) :
    Ev (fun k => impl_Graph_weighted.f k a l ws) (vmat (2 * l.length) (wM l ws (2 * l.length) 0)) := by
  have hl := isG_len h
  unfold impl_Graph_weighted.f
  refine Ev.bind (edgeMatrix_ev a l hl (isG_two h)) ?_
  rw [edgeM_vmat, vmat_length, vmat_congr (h := wM l ws 0 0) (f := eA l) (fun i j _ _ => by unfold wM; rw [if_neg (by omega)])]
  exact weighted_l0 l hl p hp ws hw hr (2 * l.length) 0 (by omega) (by omega)
theorem l06Rows_l1 (l : List (List Int)) (hl : l.length ≤ 10) (p : Int) (hp : 2 ≤ p ∧ p ≤ 10007) (ws : List Int) (hw : ws.length = 2 * l.length) (hr : ∀ j : Nat, j < ws.length → 0 ≤ rd ws (j : Int) ∧ rd ws (j : Int) < p) (R : List (List Int)) (e : Nat) (he : e < 2 * l.length)
    (next : Ev (fun k => spec_l06Rows.l0 k ws (vmat (2 * l.length) (wM l ws (e + 1) 0)) ((e : Int) + 1)) R) :
    ∀ (d f : Nat), 2 * l.length - f = d → f ≤ 2 * l.length → Ev (fun k => spec_l06Rows.l1 k ws (vmat (2 * l.length) (wM l ws e f)) e f) R := by
  intro d
  induction d with
  | zero =>
    intro f hd hf
    obtain rfl : f = 2 * l.length := by omega
    refine Ev.step (fun k => by simp only [spec_l06Rows.l1]; rfl) ?_
    simp only [vmat_row he, vrow_length, Int.lt_irrefl, if_false, wM_next, w64 (show -9223372036854775808 ≤ (e : Int) + 1 by omega) (by omega)]
    exact next
  | succ d ih =>
    intro f hd hf
    have hfl : f < 2 * l.length := by omega
    refine Ev.step (fun k => by simp only [spec_l06Rows.l1]; rfl) ?_
    have h := ih (f + 1) (by omega) (by omega)
    have hx := wM_prod l e f (hr f (by omega))
    rw [← wM_step l ws e f he, show ((f + 1 : Nat) : Int) = (f : Int) + 1 by omega] at h
    simp only [show ((f : Int) < ((2 * l.length : Nat) : Int)) by omega, show (0 : Int) ≤ (f : Int) by omega, vmat_row he, vrow_length, wM_at l ws e f hfl, show ((f : Int) < (ws.length : Int)) by omega, if_true, Int.toNat_natCast, w64 (show -9223372036854775808 ≤ eA l e f * rd ws (f : Int) by omega) (by omega), w64 (show -9223372036854775808 ≤ (f : Int) + 1 by omega) (by omega)] at h ⊢
    exact h
theorem l06Rows_l0 (l : List (List Int)) (hl : l.length ≤ 10) (p : Int) (hp : 2 ≤ p ∧ p ≤ 10007) (ws : List Int) (hw : ws.length = 2 * l.length) (hr : ∀ j : Nat, j < ws.length → 0 ≤ rd ws (j : Int) ∧ rd ws (j : Int) < p) :
    ∀ (d e : Nat), 2 * l.length - e = d → e ≤ 2 * l.length → Ev (fun k => spec_l06Rows.l0 k ws (vmat (2 * l.length) (wM l ws e 0)) e) (vmat (2 * l.length) (wM l ws (2 * l.length) 0)) := by
  intro d
  induction d with
  | zero =>
    intro e hd he
    obtain rfl : e = 2 * l.length := by omega
    refine Ev.step (fun k => by simp only [spec_l06Rows.l0]; rfl) ?_
    simp only [vmat_length, Int.lt_irrefl, if_false]
    exact Ev.now _
  | succ d ih =>
    intro e hd he
    have hel : e < 2 * l.length := by omega
    have h := ih (e + 1) (by omega) (by omega)
    rw [show ((e + 1 : Nat) : Int) = (e : Int) + 1 by omega] at h
    refine Ev.step (fun k => by simp only [spec_l06Rows.l0]; rfl) ?_
    simp only [show ((e : Int) < ((2 * l.length : Nat) : Int)) by omega, show (0 : Int) ≤ (e : Int) by omega, vmat_length, if_true]
    exact l06Rows_l1 l hl p hp ws hw hr _ e hel h (2 * l.length) 0 (by omega) (by omega)
theorem l06Rows_ev (a : Int) (l : List (List Int)) (h : isG a l = true) (p : Int) (hp : 2 ≤ p ∧ p ≤ 10007) (ws : List Int) (hw : ws.length = 2 * l.length) (hr : ∀ j : Nat, j < ws.length → 0 ≤ rd ws (j : Int) ∧ rd ws (j : Int) < p) :
    Ev (fun k => spec_l06Rows.f k a l ws) (vmat (2 * l.length) (wM l ws (2 * l.length) 0)) := by
  have hl := isG_len h
  unfold spec_l06Rows.f
  refine Ev.bind (l02Matrix_ev a l hl (isG_two h)) ?_
  rw [edgeM_vmat, vmat_congr (h := wM l ws 0 0) (f := eA l) (fun i j _ _ => by unfold wM; rw [if_neg (by omega)])]
  exact l06Rows_l0 l hl p hp ws hw hr (2 * l.length) 0 (by omega) (by omega)
def wtR (p a : Int) (l : List (List Int)) (ws : List Int) : List Int × Int := if wtC p a l ws = 0 then (trimN (vrow (2 * l.length + 1) (fun m => la_cp (2 * l.length) (wM l ws (2 * l.length) 0) m % p)) (2 * l.length + 1), 0) else ([], wtC p a l ws)
theorem impl_WeightedReciprocal_ev (p a : Int) (l : List (List Int)) (ws : List Int) (hl : l.length ≤ maxLen) : Ev (fun k => impl_WeightedReciprocal.f k p a l ws) (wtR p a l ws) := by
  unfold impl_WeightedReciprocal.f wtR
  refine Ev.bind (weightedCode_ev p a l ws hl) ?_
  by_cases h : wtC p a l ws = 0
  · obtain ⟨hg, hp, hw, hr⟩ := wtC_zero h
    obtain ⟨q, rfl, h2, h3, hq⟩ := prB_nat hp
    have hl10 := isG_len hg
    simp only [h, if_true]
    refine Ev.bind (weighted_ev a l hg q ⟨by omega, by omega⟩ ws hw (fun j hj => wt_rng hr j hj)) ?_
    refine Ev.bind (determinantModulo_ev q hq h2 (by omega) (2 * l.length) (by omega) _) ?_
    exact Ev.now _
  · simp only [h, if_false]
    exact Ev.now _
theorem spec_WeightedReciprocal_ev (p a : Int) (l : List (List Int)) (ws : List Int) (hl : l.length ≤ maxLen) : Ev (fun k => spec_WeightedReciprocal.f k p a l ws) (wtR p a l ws) := by
  unfold spec_WeightedReciprocal.f wtR
  refine Ev.bind (l06Code_ev p a l ws hl) ?_
  by_cases h : wtC p a l ws = 0
  · obtain ⟨hg, hp, hw, hr⟩ := wtC_zero h
    obtain ⟨q, rfl, h2, h3, hq⟩ := prB_nat hp
    have hl10 := isG_len hg
    simp only [h, if_true]
    refine Ev.bind (l06Rows_ev a l hg q ⟨by omega, by omega⟩ ws hw (fun j hj => wt_rng hr j hj)) ?_
    refine Ev.bind (l06Determinant_ev q (by omega) (by omega) (2 * l.length) (by omega) _ (fun i j hi hj => ?_)) ?_
    · have hx := wt_rng hr j (by omega)
      have h1 := eA_rng l i j
      unfold wM
      split
      · exact wM_prod l i j hx
      · omega
    · exact Ev.now _
  · simp only [h, if_false]
    exact Ev.now _
theorem main_FnExactWeightedReciprocal (p a : Int) (l : List (List Int)) (ws : List Int) (_ : (Lit.int .i64 p).wf = true) (_ : (Lit.int .i64 a).wf = true) (hl : l.length ≤ maxLen) (_ : ∀ x ∈ l, x.length ≤ maxLen ∧ ∀ n ∈ x, (Lit.int .i64 n).wf = true) (_ : ws.length ≤ maxLen) (_ : ∀ n ∈ ws, (Lit.int .i64 n).wf = true) :
    ∃ (r : List Int) (c : Int), Ev (fun k => spec_WeightedReciprocal.f k p a l ws) (r, c) ∧ Ev (fun k => impl_WeightedReciprocal.f k p a l ws) (r, c) ∧ r.length ≤ 1048576 := by
  refine ⟨(wtR p a l ws).1, (wtR p a l ws).2, spec_WeightedReciprocal_ev p a l ws hl, impl_WeightedReciprocal_ev p a l ws hl, ?_⟩
  unfold wtR
  by_cases h : wtC p a l ws = 0
  · obtain ⟨hg, _, _, _⟩ := wtC_zero h
    have := isG_len hg
    simp only [h, if_true]
    have := trimN_length (vrow (2 * l.length + 1) (fun m => la_cp (2 * l.length) (wM l ws (2 * l.length) 0) m % p)) (2 * l.length + 1)
    omega
  · simp only [h, if_false]
    simp


end Go.Proofs.Ytjgdibhalmcigaa.C
namespace Go.Proofs.Ytjgdibhalmcigaa.Pure
open Go.RowKit Go.Proofs.YtjgdibhalmcigaaW.PrintWords Go.Proofs.YtjgdibhalmcigaaW.PrintLast Go.Proofs.YtjgdibhalmcigaaW.PrintMore Go.Proofs.Ytjgdibhalmcigaa.C
theorem FnExactWeightedReciprocal : laws_FnExactWeightedReciprocal.Pure := by
  intro a0 a1 l1 l2 w0 w1 hm1 hx1 hm2 hx2 hl2
  have hy1 : ∀ x ∈ l1, x.length ≤ maxLen := fun x h => (hx1 x h).1
  obtain ⟨z1, ez1, z11, z12, z13⟩ := szGraph_ev a1 l1 1048576 (by omega) (by omega) hm1 hy1
  by_cases hn1 : z1 < 0
  · obtain ⟨k, hk⟩ := Ev.rounds ez1
    exact Or.inl ⟨k, z1, hn1, hk⟩
  · refine Or.inr ?_
    obtain ⟨hl1, hs1⟩ := z13 (by omega)
    obtain ⟨r0l, r1a, es, ei, br0l⟩ := main_FnExactWeightedReciprocal a0 a1 l1 l2 w0 w1 hm1 hx1 hm2 hx2
    have tt1 := tot_small l1 hl1 hs1
    obtain ⟨k0, eFG1⟩ := toGraph_ev a1 l1 (by omega) (fun x h => by have := hs1 x h; omega)
    obtain ⟨k1, eFQ1⟩ := eqGraph_ev a1 l1 hm1 hy1
    obtain ⟨k2, eFG2⟩ := toInt64S_ev l2 (by omega)
    obtain ⟨k3, eFQ2⟩ := eqInt64S_ev l2 hm2
    obtain ⟨k4, eFZ1⟩ := ez1
    obtain ⟨k5, eFS⟩ := es
    obtain ⟨k6, eFI⟩ := ei
    obtain ⟨k7, eFE0⟩ := eqInt64S_ev r0l (Nat.le_trans br0l (by unfold maxLen; omega))
    obtain ⟨k8, eFM1⟩ := markInt64SS_ev l1 (1) hl1 hs1 (by omega) (by omega)
    obtain ⟨k9, eFM2⟩ := markInt64S_ev l2 (1 + (tot l1 : Int)) hl2 (by omega) (by omega)
    obtain ⟨k10, eFN0l⟩ := markInt64S_ev r0l (1) br0l (by omega) (by omega)
    obtain ⟨k11, eFH0⟩ := heldInt64S_ev r0l.length (1) br0l (by omega) (by omega)
    exact ⟨k0 + k1 + k2 + k3 + k4 + k5 + k6 + k7 + k8 + k9 + k10 + k11, z1, r0l, r1a, 1 + (tot l1 : Int), mkSS l1 (1), 1 + (tot l1 : Int) + (l2.length : Int), mkS l2.length (1 + (tot l1 : Int)), 1 + (r0l.length : Int), mkS r0l.length (1), by omega, by omega, by omega, eFG1 _ (by omega), eFQ1 _ (by omega), eFG2 _ (by omega), eFQ2 _ (by omega), eFZ1 _ (by omega), eFS _ (by omega), eFI _ (by omega), eFE0 _ (by omega), eFM1 _ (by omega), eFM2 _ (by omega), eFN0l _ (by omega), eFH0 _ (by omega)⟩

end Go.Proofs.Ytjgdibhalmcigaa.Pure
