/- Plain lemmas on the Lean functions that FnExactTraceResolvent reaches, and its pure statement. No condition. -/
import Derived.Test.YtbfmnhgpmpnglaaBx
namespace Go.Proofs.Ytbfmnhgpmpnglaa.B
open Go.RowKit Go.Proofs.YtbfmnhgpmpnglaaW.PrintWords Go.Proofs.YtbfmnhgpmpnglaaW.PrintLast Go.Proofs.YtbfmnhgpmpnglaaW.PrintMore
set_option linter.unusedVariables false
set_option linter.unusedSimpArgs false
theorem w64 {n : Int} (h0 : -9223372036854775808 ≤ n) (h1 : n ≤ 9223372036854775807) : wrap64 n = n := IntWalk.wrap64_in n ⟨h0, h1⟩
theorem fuel {k n : Nat} (h : n < k) : ∃ m, k = m + 1 ∧ n ≤ m := ⟨k - 1, by omega, by omega⟩
theorem rd_nat (l : List Int) (i : Nat) (h : i < l.length) : rd l (i : Int) = l[i] := by
  simp [rd, List.getD_eq_getElem?_getD, h]
theorem rdL1_nat (l : List (List Int)) (i : Nat) (h : i < l.length) : rd_L1 l (i : Int) = l[i] := by
  simp [rd_L1, List.getD_eq_getElem?_getD, h]
theorem take_set {α : Type} (x l : List α) (i : Nat) (hx : x.length = l.length) (hi : i < l.length) (h : x.take i = l.take i) : (x.set i l[i]).take (i + 1) = l.take (i + 1) := by
  apply List.ext_getElem?
  intro j
  rw [List.getElem?_take, List.getElem?_take]
  by_cases hj : j < i + 1
  · rw [if_pos hj, if_pos hj]
    by_cases hji : j = i
    · subst hji
      rw [List.getElem?_set_self (by omega), List.getElem?_eq_getElem hi]
    · rw [List.getElem?_set_ne (by omega)]
      have h2 := congrArg (fun z => z[j]?) h
      simp only [List.getElem?_take] at h2
      rwa [if_pos (by omega), if_pos (by omega)] at h2
  · rw [if_neg hj, if_neg hj]

theorem toInt64S_l0 (l : List Int) (hl : l.length ≤ 35184372088832) : ∀ (d k i : Nat) (x : List Int), l.length - i = d → d < k → i ≤ l.length → x.length = l.length → x.take i = l.take i → laws_toInt64S.l0 k l x i = some l := by
  intro d
  induction d with
  | zero =>
    intro k i x hd hk hi hx ht
    obtain ⟨m, rfl, hm⟩ := fuel hk
    simp only [laws_toInt64S.l0]
    rw [if_neg (by omega)]
    rw [List.take_of_length_le (by omega), List.take_of_length_le (by omega)] at ht
    rw [ht]
  | succ d ih =>
    intro k i x hd hk hi hx ht
    obtain ⟨m, rfl, hm⟩ := fuel hk
    have hil : i < l.length := by omega
    simp only [laws_toInt64S.l0]
    rw [if_pos (by omega), if_pos (by omega), if_pos (by omega), w64 (by omega) (by omega), rd_nat l i hil, Int.toNat_natCast]
    exact ih m (i + 1) _ (by omega) (by omega) (by omega) (by simp [hx]) (take_set x l i hx hil ht)
theorem toInt64S_ev (l : List Int) (hl : l.length ≤ 35184372088832) : Ev (fun k => laws_toInt64S.f k l) l := by
  refine Ev.of (laws_toInt64S.mono l) (k := l.length + 1) ?_
  unfold laws_toInt64S.f
  rw [if_pos (by omega), if_pos (by simpa using hl)]
  exact toInt64S_l0 l hl l.length _ 0 _ (by omega) (by omega) (by omega) (by simp) (by simp)
theorem toInt64SS_l0 (l : List (List Int)) (hl : l.length ≤ 11728124029610) (hx : ∀ x ∈ l, x.length ≤ 35184372088832) : ∀ (d i : Nat) (x : List (List Int)), l.length - i = d → i ≤ l.length → x.length = l.length → x.take i = l.take i → Ev (fun k => laws_toInt64SS.l0 k l x i) l := by
  intro d
  induction d with
  | zero =>
    intro i x hd hi hx ht
    refine Ev.step (fun k => by simp only [laws_toInt64SS.l0]; rfl) ?_
    rw [List.take_of_length_le (by omega), List.take_of_length_le (by omega)] at ht
    simp only [show ¬ ((i : Int) < (l.length : Int)) by omega, if_false, ht]
    exact Ev.now l
  | succ d ih =>
    intro i x hd hi hx' ht
    have hil : i < l.length := by omega
    refine Ev.step (fun k => by simp only [laws_toInt64SS.l0]; rfl) ?_
    simp only [show ((i : Int) < (l.length : Int)) by omega, show (0 : Int) ≤ (i : Int) by omega, show ((i : Int) < (x.length : Int)) by omega, if_true, Int.toNat_natCast, w64 (show -9223372036854775808 ≤ (i : Int) + 1 by omega) (by omega), rdL1_nat l i hil]
    refine Ev.bind (toInt64S_ev l[i] (hx _ (List.getElem_mem hil))) ?_
    exact ih (i + 1) _ (by omega) (by omega) (by simp [hx']) (take_set x l i hx' hil ht)
theorem toInt64SS_ev (l : List (List Int)) (hl : l.length ≤ 11728124029610) (hx : ∀ x ∈ l, x.length ≤ 35184372088832) : Ev (fun k => laws_toInt64SS.f k l) l := by
  unfold laws_toInt64SS.f
  simp only [show (0 : Int) ≤ (l.length : Int) by omega, if_true, Int.toNat_natCast, hl]
  exact toInt64SS_l0 l hl hx l.length 0 _ (by omega) (by omega) (by simp) (by simp)
theorem toGraph_ev (a : Int) (l : List (List Int)) (hl : l.length ≤ 11728124029610) (hx : ∀ x ∈ l, x.length ≤ 35184372088832) : Ev (fun k => laws_toGraph.f k a l) (a, l) := by
  unfold laws_toGraph.f
  exact Ev.bind (toInt64SS_ev l hl hx) (Ev.now _)

theorem szInt64SS_l0 (l : List (List Int)) (hl : l.length ≤ maxLen) (hx : ∀ x ∈ l, x.length ≤ maxLen) : ∀ (d i : Nat) (a : Int), l.length - i = d → i ≤ l.length → 0 ≤ a → a ≤ 1048576 → ∃ r, Ev (fun k => laws_szInt64SS.l0 k l a i) r ∧ r ≤ 1048576 ∧ -1 ≤ r ∧ (0 ≤ r → ∀ x ∈ l.drop i, x.length ≤ 1048576) := by
  unfold maxLen at hl hx
  intro d
  induction d with
  | zero =>
    intro i a hd hi h0 h1
    refine ⟨a, Ev.step (fun k => by simp only [laws_szInt64SS.l0]; rfl) ?_, h1, by omega, fun _ x hx => ?_⟩
    · simp only [show ¬ ((i : Int) < (l.length : Int)) by omega, if_false]
      exact Ev.now _
    · rw [List.drop_of_length_le (by omega)] at hx; simp at hx
  | succ d ih =>
    intro i a hd hi h0 h1
    have hil : i < l.length := by omega
    have hxl := hx _ (List.getElem_mem hil)
    have hs : laws_szInt64S.f l[i] a = some (if a - (l[i].length : Int) < 0 then -1 else a - (l[i].length : Int)) := by
      unfold laws_szInt64S.f
      rw [w64 (by omega) (by omega)]
      split <;> rfl
    by_cases hn : a - (l[i].length : Int) < 0
    · rw [if_pos hn] at hs
      refine ⟨-1, Ev.step (fun k => by simp only [laws_szInt64SS.l0]; rfl) ?_, by omega, by omega, fun h => by omega⟩
      simp only [show ((i : Int) < (l.length : Int)) by omega, show (0 : Int) ≤ (i : Int) by omega, if_true, rdL1_nat l i hil, hs, Option.bind_some]
      exact Ev.now _
    · rw [if_neg hn] at hs
      obtain ⟨r, hr, h2, h3, h4⟩ := ih (i + 1) (a - (l[i].length : Int)) (by omega) (by omega) (by omega) (by omega)
      refine ⟨r, Ev.step (fun k => by simp only [laws_szInt64SS.l0]; rfl) ?_, h2, h3, fun h x hx => ?_⟩
      · simp only [show ((i : Int) < (l.length : Int)) by omega, show (0 : Int) ≤ (i : Int) by omega, if_true, rdL1_nat l i hil, hs, Option.bind_some, hn, if_false, w64 (show -9223372036854775808 ≤ (i : Int) + 1 by omega) (by omega)]
        exact hr
      · rw [List.drop_eq_getElem_cons hil] at hx
        rcases List.mem_cons.1 hx with rfl | hx
        · omega
        · exact h4 h x hx
/-- The sizes that the law lets by. -/
theorem szInt64SS_ev (l : List (List Int)) (a : Int) (ha : 0 ≤ a) (ha1 : a ≤ 1048576) (hl : l.length ≤ maxLen) (hx : ∀ x ∈ l, x.length ≤ maxLen) : ∃ r, Ev (fun k => laws_szInt64SS.f k l a) r ∧ r ≤ 1048576 ∧ -1 ≤ r ∧ (0 ≤ r → l.length ≤ 1048576 ∧ ∀ x ∈ l, x.length ≤ 1048576) := by
  have hl' := hl
  unfold maxLen at hl'
  unfold laws_szInt64SS.f
  rw [w64 (by omega) (by omega)]
  by_cases hn : a - (l.length : Int) < 0
  · refine ⟨-1, ?_, by omega, by omega, fun h => by omega⟩
    simp only [hn, if_true]
    exact Ev.now _
  · obtain ⟨r, hr, h2, h3, h4⟩ := szInt64SS_l0 l hl hx l.length 0 (a - (l.length : Int)) (by omega) (by omega) (by omega) (by omega)
    refine ⟨r, ?_, h2, h3, fun h => ⟨by omega, by simpa using h4 h⟩⟩
    simp only [hn, if_false]
    exact hr
theorem szGraph_ev (s : Int) (l : List (List Int)) (a : Int) (ha : 0 ≤ a) (ha1 : a ≤ 1048576) (hl : l.length ≤ maxLen) (hx : ∀ x ∈ l, x.length ≤ maxLen) : ∃ r, Ev (fun k => laws_szGraph.f k s l a) r ∧ r ≤ 1048576 ∧ -1 ≤ r ∧ (0 ≤ r → l.length ≤ 1048576 ∧ ∀ x ∈ l, x.length ≤ 1048576) := by
  obtain ⟨r, hr, h2, h3, h4⟩ := szInt64SS_ev l a ha ha1 hl hx
  unfold laws_szGraph.f
  by_cases hn : r < 0
  · refine ⟨-1, Ev.bind hr ?_, by omega, by omega, fun h => by omega⟩
    simp only [hn, if_true]
    exact Ev.now _
  · refine ⟨r, Ev.bind hr ?_, h2, h3, h4⟩
    simp only [hn, if_false]
    exact Ev.now _
/-- Equal lists are told equal. -/
theorem eqInt64S_l0 (l : List Int) (hl : l.length ≤ maxLen) : ∀ (d i : Nat), l.length - i = d → i ≤ l.length → Ev (fun k => laws_eqInt64S.l0 k l l i) true := by
  unfold maxLen at hl
  intro d
  induction d with
  | zero =>
    intro i hd hi
    refine Ev.step (fun k => by simp only [laws_eqInt64S.l0]; rfl) ?_
    simp only [show ¬ ((i : Int) < (l.length : Int)) by omega, if_false]
    exact Ev.now _
  | succ d ih =>
    intro i hd hi
    refine Ev.step (fun k => by simp only [laws_eqInt64S.l0]; rfl) ?_
    simp only [show ((i : Int) < (l.length : Int)) by omega, show (0 : Int) ≤ (i : Int) by omega, if_true, w64 (show -9223372036854775808 ≤ (i : Int) + 1 by omega) (by omega)]
    exact ih (i + 1) (by omega) (by omega)
theorem eqInt64S_ev (l : List Int) (hl : l.length ≤ maxLen) : Ev (fun k => laws_eqInt64S.f k l l) true := by
  unfold laws_eqInt64S.f
  simp only [if_true]
  exact eqInt64S_l0 l hl l.length 0 (by omega) (by omega)
theorem eqInt64SS_l0 (l : List (List Int)) (hl : l.length ≤ maxLen) (hx : ∀ x ∈ l, x.length ≤ maxLen) : ∀ (d i : Nat), l.length - i = d → i ≤ l.length → Ev (fun k => laws_eqInt64SS.l0 k l l i) true := by
  unfold maxLen at hl
  intro d
  induction d with
  | zero =>
    intro i hd hi
    refine Ev.step (fun k => by simp only [laws_eqInt64SS.l0]; rfl) ?_
    simp only [show ¬ ((i : Int) < (l.length : Int)) by omega, if_false]
    exact Ev.now _
  | succ d ih =>
    intro i hd hi
    have hil : i < l.length := by omega
    refine Ev.step (fun k => by simp only [laws_eqInt64SS.l0]; rfl) ?_
    simp only [show ((i : Int) < (l.length : Int)) by omega, show (0 : Int) ≤ (i : Int) by omega, if_true, w64 (show -9223372036854775808 ≤ (i : Int) + 1 by omega) (by omega), rdL1_nat l i hil]
    refine Ev.bind (eqInt64S_ev l[i] (hx _ (List.getElem_mem hil))) ?_
    simp only [if_true]
    exact ih (i + 1) (by omega) (by omega)
theorem eqInt64SS_ev (l : List (List Int)) (hl : l.length ≤ maxLen) (hx : ∀ x ∈ l, x.length ≤ maxLen) : Ev (fun k => laws_eqInt64SS.f k l l) true := by
  unfold laws_eqInt64SS.f
  simp only [if_true]
  exact eqInt64SS_l0 l hl hx l.length 0 (by omega) (by omega)
theorem eqGraph_ev (a : Int) (l : List (List Int)) (hl : l.length ≤ maxLen) (hx : ∀ x ∈ l, x.length ≤ maxLen) : Ev (fun k => laws_eqGraph.f k a l a l) true := by
  unfold laws_eqGraph.f
  simp only [if_true]
  refine Ev.bind (eqInt64SS_ev l hl hx) ?_
  simp only [if_true]
  exact Ev.now _
/-! ### what a graph is -/
def endIn (a n : Int) : Bool := decide (0 ≤ n) && decide (n ≤ wrap64 (a - 1))
def edgeIn (a : Int) (e : List Int) : Bool := decide (e.length = 2) && (endIn a (rd e 0) && endIn a (rd e 1))
def isG (a : Int) (l : List (List Int)) : Bool := decide (1 ≤ a) && (decide (a ≤ 8) && (decide (l.length ≤ 10) && l.all (edgeIn a)))
theorem within_eq (a b c : Int) : impl_within.f a b c = some (decide (b ≤ a) && decide (a ≤ c)) := by
  unfold impl_within.f
  by_cases h : b ≤ a <;> simp [h]
theorem l01In_eq (a b c : Int) : spec_l01In.f a b c = some (decide (b ≤ a) && decide (a ≤ c)) := by
  unfold spec_l01In.f
  by_cases h : b ≤ a <;> simp [h]
theorem impl_IsGraph_l0 (a : Int) (l : List (List Int)) (hl : l.length ≤ maxLen) : ∀ (d i : Nat), l.length - i = d → i ≤ l.length → Ev (fun k => impl_IsGraph.l0 k l l.length i a l) ((l.drop i).all (edgeIn a) && (decide (1 ≤ a) && (decide (a ≤ 8) && decide (l.length ≤ 10)))) := by
  unfold maxLen at hl
  intro d
  induction d with
  | zero =>
    intro i hd hi
    refine Ev.step (fun k => by simp only [impl_IsGraph.l0]; rfl) ?_
    simp only [show ¬ ((i : Int) < (l.length : Int)) by omega, if_false, within_eq, Option.bind_some, List.drop_of_length_le (show l.length ≤ i by omega), List.all_nil, Bool.true_and]
    by_cases h1 : 1 ≤ a
    · by_cases h2 : a ≤ 8
      · simp only [h1, h2, decide_true, Bool.true_and, if_true]
        exact Ev.congr (fun k => by congr 1; simp; omega) (Ev.now _)
      · simp only [h1, h2, decide_true, decide_false, Bool.true_and, Bool.false_and, Bool.false_eq_true, if_false]
        exact Ev.now _
    · simp only [h1, decide_false, Bool.false_and, Bool.false_eq_true, if_false]
      exact Ev.now _
  | succ d ih =>
    intro i hd hi
    have hil : i < l.length := by omega
    refine Ev.step (fun k => by simp only [impl_IsGraph.l0]; rfl) ?_
    have hdrop : (l.drop i).all (edgeIn a) = (edgeIn a l[i] && (l.drop (i + 1)).all (edgeIn a)) := by rw [List.drop_eq_getElem_cons hil, List.all_cons]
    rw [hdrop]
    simp only [show ((i : Int) < (l.length : Int)) by omega, show (0 : Int) ≤ (i : Int) by omega, if_true, w64 (show -9223372036854775808 ≤ (i : Int) + 1 by omega) (by omega), rdL1_nat l i hil, within_eq, Option.bind_some]
    unfold edgeIn endIn
    by_cases h2 : l[i].length = 2
    · simp only [h2, decide_true, Bool.true_and, show ((2 : Nat) : Int) = 2 from rfl, if_true, show (0 : Int) < 2 by omega, show (1 : Int) < 2 by omega]
      by_cases h3 : (decide (0 ≤ rd l[i] 0) && decide (rd l[i] 0 ≤ wrap64 (a - 1))) = true
      · by_cases h4 : (decide (0 ≤ rd l[i] 1) && decide (rd l[i] 1 ≤ wrap64 (a - 1))) = true
        · simp only [h3, h4, if_true, Bool.true_and]
          exact ih (i + 1) (by omega) (by omega)
        · simp only [Bool.not_eq_true] at h4
          simp only [h3, h4, if_true, Bool.false_and, Bool.and_false, Bool.false_eq_true, if_false]
          exact Ev.now _
      · simp only [Bool.not_eq_true] at h3
        simp only [h3, Bool.false_and, Bool.false_eq_true, if_false]
        exact Ev.now _
    · simp only [show ¬ ((l[i].length : Int) = 2) by omega, h2, decide_false, Bool.false_and, if_false]
      exact Ev.now _
theorem impl_IsGraph_ev (a : Int) (l : List (List Int)) (hl : l.length ≤ maxLen) : Ev (fun k => impl_IsGraph.f k a l) (isG a l) := by
  unfold impl_IsGraph.f
  have h := impl_IsGraph_l0 a l hl l.length 0 (by omega) (by omega)
  have e : ((l.drop 0).all (edgeIn a) && (decide (1 ≤ a) && (decide (a ≤ 8) && decide (l.length ≤ 10)))) = isG a l := by
    unfold isG
    rw [List.drop_zero]
    cases l.all (edgeIn a) <;> simp
  rw [e] at h
  exact h
theorem spec_l01Is_l0 (a : Int) (l : List (List Int)) (hl : l.length ≤ maxLen) : ∀ (d i : Nat), l.length - i = d → i ≤ l.length → Ev (fun k => spec_l01Is.l0 k i a l) ((l.drop i).all (edgeIn a)) := by
  unfold maxLen at hl
  intro d
  induction d with
  | zero =>
    intro i hd hi
    refine Ev.step (fun k => by simp only [spec_l01Is.l0]; rfl) ?_
    simp only [show ¬ ((i : Int) < (l.length : Int)) by omega, if_false, List.drop_of_length_le (show l.length ≤ i by omega), List.all_nil]
    exact Ev.now _
  | succ d ih =>
    intro i hd hi
    have hil : i < l.length := by omega
    refine Ev.step (fun k => by simp only [spec_l01Is.l0]; rfl) ?_
    have hdrop : (l.drop i).all (edgeIn a) = (edgeIn a l[i] && (l.drop (i + 1)).all (edgeIn a)) := by rw [List.drop_eq_getElem_cons hil, List.all_cons]
    rw [hdrop]
    simp only [show ((i : Int) < (l.length : Int)) by omega, show (0 : Int) ≤ (i : Int) by omega, if_true, w64 (show -9223372036854775808 ≤ (i : Int) + 1 by omega) (by omega), rdL1_nat l i hil, l01In_eq, Option.bind_some]
    unfold edgeIn endIn
    by_cases h2 : l[i].length = 2
    · simp only [h2, decide_true, Bool.true_and, show ((2 : Nat) : Int) = 2 from rfl, if_true, show (0 : Int) < 2 by omega, show (1 : Int) < 2 by omega]
      by_cases h3 : (decide (0 ≤ rd l[i] 0) && decide (rd l[i] 0 ≤ wrap64 (a - 1))) = true
      · by_cases h4 : (decide (0 ≤ rd l[i] 1) && decide (rd l[i] 1 ≤ wrap64 (a - 1))) = true
        · simp only [h3, h4, if_true, Bool.true_and]
          exact ih (i + 1) (by omega) (by omega)
        · simp only [Bool.not_eq_true] at h4
          simp only [h3, h4, if_true, Bool.false_and, Bool.and_false, Bool.false_eq_true, if_false]
          exact Ev.now _
      · simp only [Bool.not_eq_true] at h3
        simp only [h3, Bool.false_and, Bool.false_eq_true, if_false]
        exact Ev.now _
    · simp only [show ¬ ((l[i].length : Int) = 2) by omega, h2, decide_false, Bool.false_and, if_false]
      exact Ev.now _
theorem spec_l01Is_ev (a : Int) (l : List (List Int)) (hl : l.length ≤ maxLen) : Ev (fun k => spec_l01Is.f k a l) (isG a l) := by
  unfold spec_l01Is.f isG
  simp only [l01In_eq, Option.bind_some]
  have hj : ∀ b, Ev (fun k => spec_l01Is.j0 k b a l) (!b && l.all (edgeIn a)) := by
    intro b
    refine Ev.step (fun k => by simp only [spec_l01Is.j0]; rfl) ?_
    cases b with
    | true => simp only [if_true, Bool.not_true, Bool.false_and]; exact Ev.now _
    | false =>
      simp only [Bool.false_eq_true, if_false, Bool.not_false, Bool.true_and]
      exact spec_l01Is_l0 a l hl l.length 0 (by omega) (by omega)
  by_cases h1 : 1 ≤ a
  · by_cases h2 : a ≤ 8
    · simp only [h1, h2, decide_true, Bool.true_and, if_true]
      have h := hj (decide ((l.length : Int) > 10))
      have e : (!decide ((l.length : Int) > 10)) = decide (l.length ≤ 10) := by
        by_cases h : l.length ≤ 10
        · simp [h]; omega
        · simp [h]; omega
      rw [e] at h
      exact h
    · simp only [h1, h2, decide_true, decide_false, Bool.true_and, Bool.false_and, Bool.false_eq_true, if_false]
      exact hj true
  · simp only [h1, decide_false, Bool.false_and, Bool.false_eq_true, if_false]
    exact hj true
def la_sm : Nat → (Nat → Int) → Int
  | 0, _ => 0
  | n+1, f => la_sm n f + f n
theorem la_sm_congr {n : Nat} {f g : Nat → Int} (h : ∀ i, i < n → f i = g i) : la_sm n f = la_sm n g := by
  induction n with
  | zero => rfl
  | succ n ih => simp only [la_sm]; rw [ih (fun i hi => h i (by omega)), h n (by omega)]
theorem la_sm_zero {n : Nat} {f : Nat → Int} (h : ∀ i, i < n → f i = 0) : la_sm n f = 0 := by
  induction n with
  | zero => rfl
  | succ n ih => simp only [la_sm]; rw [ih (fun i hi => h i (by omega)), h n (by omega)]; rfl
theorem la_sm_add (n : Nat) (f g : Nat → Int) : la_sm n (fun i => f i + g i) = la_sm n f + la_sm n g := by
  induction n with
  | zero => rfl
  | succ n ih => simp only [la_sm]; rw [ih]; omega
theorem la_sm_mul (n : Nat) (x : Int) (f : Nat → Int) : la_sm n (fun i => x * f i) = x * la_sm n f := by
  induction n with
  | zero => simp [la_sm]
  | succ n ih => simp only [la_sm]; rw [ih, Int.mul_add]
theorem la_sm_sub (n : Nat) (f g : Nat → Int) : la_sm n (fun i => f i - g i) = la_sm n f - la_sm n g := by
  induction n with
  | zero => rfl
  | succ n ih => simp only [la_sm]; rw [ih]; omega
theorem la_sm_single {n : Nat} {f : Nat → Int} (k : Nat) (hk : k < n) (h : ∀ i, i < n → i ≠ k → f i = 0) : la_sm n f = f k := by
  induction n with
  | zero => omega
  | succ n ih =>
    simp only [la_sm]
    by_cases hkn : k = n
    · subst hkn
      rw [la_sm_zero (fun i hi => h i (by omega) (by omega))]; omega
    · rw [ih (by omega) (fun i hi hne => h i (by omega) hne), h n (by omega) (by omega)]; omega
theorem la_sm_two {n : Nat} {f : Nat → Int} (k l : Nat) (hk : k < n) (hl : l < n) (hkl : k ≠ l) (h : ∀ i, i < n → i ≠ k → i ≠ l → f i = 0) : la_sm n f = f k + f l := by
  have e : la_sm n f = la_sm n (fun i => (if i = k then f k else 0) + (if i = l then f l else 0)) := by
    refine la_sm_congr (fun i hi => ?_)
    by_cases h1 : i = k
    · subst h1; simp [hkl]
    · by_cases h2 : i = l
      · subst h2; simp [h1]
      · simp [h1, h2, h i hi h1 h2]
  rw [e, la_sm_add, la_sm_single k hk (fun i _ hne => by simp [hne]), la_sm_single l hl (fun i _ hne => by simp [hne])]
  simp
theorem la_sm_succ' (n : Nat) (f : Nat → Int) : la_sm (n+1) f = f 0 + la_sm n (fun i => f (i+1)) := by
  induction n with
  | zero => simp [la_sm]
  | succ n ih =>
    rw [show la_sm (n+1+1) f = la_sm (n+1) f + f (n+1) from rfl, ih]
    simp only [la_sm]; omega
theorem la_sm_swap (n m : Nat) (f : Nat → Nat → Int) : la_sm n (fun i => la_sm m (fun j => f i j)) = la_sm m (fun j => la_sm n (fun i => f i j)) := by
  induction n with
  | zero => simp only [la_sm]; rw [la_sm_zero (fun _ _ => rfl)]
  | succ n ih => simp only [la_sm]; rw [ih, la_sm_add]
def la_sk (i a : Nat) : Nat := if a < i then a else a + 1
def la_sg (i : Nat) : Int := if i % 2 = 0 then 1 else -1
theorem la_sg_succ (i : Nat) : la_sg (i+1) = - la_sg i := by
  unfold la_sg; by_cases h : i % 2 = 0
  · rw [if_pos h, if_neg (by omega)]
  · rw [if_neg h, if_pos (by omega)]; rfl
theorem la_sg_zero : la_sg 0 = 1 := rfl
theorem la_sk_lt {i a n : Nat} (hi : i < n + 1) (ha : a < n) : la_sk i a < n + 1 := by unfold la_sk; split <;> omega
def la_det : Nat → (Nat → Nat → Int) → Int
  | 0, _ => 1
  | n+1, M => la_sm (n+1) (fun i => la_sg i * M i 0 * la_det n (fun a b => M (la_sk i a) (b+1)))
theorem la_det_succ (n : Nat) (M : Nat → Nat → Int) : la_det (n+1) M = la_sm (n+1) (fun i => la_sg i * M i 0 * la_det n (fun a b => M (la_sk i a) (b+1))) := rfl
theorem la_det_congr {n : Nat} : ∀ {M N : Nat → Nat → Int}, (∀ a b, a < n → b < n → M a b = N a b) → la_det n M = la_det n N := by
  induction n with
  | zero => intros; rfl
  | succ n ih =>
    intro M N h
    rw [la_det_succ, la_det_succ]
    refine la_sm_congr (fun i hi => ?_)
    rw [h i 0 hi (by omega), ih (fun a b ha hb => h _ _ (la_sk_lt hi ha) (by omega))]
def la_rr (M : Nat → Nat → Int) (i : Nat) (r : Nat → Int) : Nat → Nat → Int := fun a b => if a = i then r b else M a b
def la_rc (M : Nat → Nat → Int) (j : Nat) (c : Nat → Int) : Nat → Nat → Int := fun a b => if b = j then c a else M a b
def la_un (i a : Nat) : Nat := if a < i then a else a - 1
theorem la_sk_eq_iff {i a k : Nat} (h : k ≠ i) : la_sk i a = k ↔ a = la_un i k := by unfold la_sk la_un; split <;> split <;> omega
theorem la_un_lt {i k n : Nat} (hi : i < n + 1) (hk : k < n + 1) (h : k ≠ i) : la_un i k < n := by unfold la_un; split <;> omega
theorem la_sk_ne (i a : Nat) : la_sk i a ≠ i := by unfold la_sk; split <;> omega
theorem la_minor_rr {M : Nat → Nat → Int} {i k : Nat} {r : Nat → Int} (h : k ≠ i) : (fun a b => la_rr M k r (la_sk i a) (b+1)) = la_rr (fun a b => M (la_sk i a) (b+1)) (la_un i k) (fun b => r (b+1)) := by
  funext a b
  unfold la_rr
  by_cases e : la_sk i a = k
  · rw [if_pos e, if_pos ((la_sk_eq_iff h).mp e)]
  · rw [if_neg e, if_neg (fun h' => e ((la_sk_eq_iff h).mpr h'))]
theorem la_minor_rr_self {M : Nat → Nat → Int} {k : Nat} {r : Nat → Int} : (fun a b => la_rr M k r (la_sk k a) (b+1)) = (fun a b => M (la_sk k a) (b+1)) := by
  funext a b
  unfold la_rr
  rw [if_neg (la_sk_ne k a)]
theorem la_det_row_lin {n : Nat} : ∀ (M : Nat → Nat → Int) (k : Nat), k < n → ∀ (x y : Int) (r s : Nat → Int), la_det n (la_rr M k (fun b => x * r b + y * s b)) = x * la_det n (la_rr M k r) + y * la_det n (la_rr M k s) := by
  induction n with
  | zero => intro M k hk; omega
  | succ n ih =>
    intro M k hk x y r s
    rw [la_det_succ, la_det_succ, la_det_succ, ← la_sm_mul, ← la_sm_mul, ← la_sm_add]
    refine la_sm_congr (fun i hi => ?_)
    by_cases e : k = i
    · subst e
      rw [la_minor_rr_self, la_minor_rr_self, la_minor_rr_self]
      simp only [la_rr, if_true]
      generalize la_det n _ = D
      grind
    · rw [la_minor_rr e, la_minor_rr e, la_minor_rr e, ih _ _ (la_un_lt hi hk e)]
      simp only [la_rr, if_neg (Ne.symm e)]
      generalize la_det n _ = D
      generalize la_det n _ = E
      grind
theorem la_det_row_smul {n : Nat} (M : Nat → Nat → Int) (k : Nat) (hk : k < n) (x : Int) (r : Nat → Int) : la_det n (la_rr M k (fun b => x * r b)) = x * la_det n (la_rr M k r) := by
  have := la_det_row_lin M k hk x 0 r r
  simpa using this
theorem la_det_row_add {n : Nat} (M : Nat → Nat → Int) (k : Nat) (hk : k < n) (r s : Nat → Int) : la_det n (la_rr M k (fun b => r b + s b)) = la_det n (la_rr M k r) + la_det n (la_rr M k s) := by
  have := la_det_row_lin M k hk 1 1 r s
  simpa using this
theorem la_rr_self (M : Nat → Nat → Int) (k : Nat) : la_rr M k (M k) = M := by
  funext a b; unfold la_rr; split
  · case _ h => rw [h]
  · rfl
theorem la_rr_comm (M : Nat → Nat → Int) {k l : Nat} (h : k ≠ l) (r s : Nat → Int) : la_rr (la_rr M k r) l s = la_rr (la_rr M l s) k r := by
  funext a b; unfold la_rr; by_cases e : a = l
  · subst e; simp [Ne.symm h]
  · simp [e]
theorem la_det_row_zero {n : Nat} (M : Nat → Nat → Int) (k : Nat) (hk : k < n) (h : ∀ b, b < n → M k b = 0) : la_det n M = 0 := by
  have e : la_det n M = la_det n (la_rr M k (fun b => 0 * M k b)) := by
    refine la_det_congr (fun a b _ hb => ?_)
    unfold la_rr; split
    · case _ h' => rw [h', h b hb]; simp
    · rfl
  rw [e, la_det_row_smul _ _ hk]; simp
theorem la_det_adj {n : Nat} : ∀ (M : Nat → Nat → Int) (k : Nat), k + 1 < n → (∀ b, b < n → M k b = M (k+1) b) → la_det n M = 0 := by
  induction n with
  | zero => intro M k hk; omega
  | succ n ih =>
    intro M k hk h
    rw [la_det_succ, la_sm_two k (k+1) (by omega) hk (by omega)]
    · have e : la_det n (fun a b => M (la_sk k a) (b+1)) = la_det n (fun a b => M (la_sk (k+1) a) (b+1)) := by
        refine la_det_congr (fun a b ha hb => ?_)
        by_cases h1 : a = k
        · subst h1
          have e1 : la_sk a a = a + 1 := by unfold la_sk; split <;> omega
          have e2 : la_sk (a+1) a = a := by unfold la_sk; split <;> omega
          rw [e1, e2, h _ (by omega)]
        · have : la_sk k a = la_sk (k+1) a := by unfold la_sk; split <;> split <;> omega
          rw [this]
      rw [e, la_sg_succ, h 0 (by omega)]
      generalize la_det n _ = D
      grind
    · intro i hi h1 h2
      have : la_det n (fun a b => M (la_sk i a) (b+1)) = 0 := by
        by_cases hik : i < k
        · refine ih _ (k-1) (by omega) (fun b hb => ?_)
          have e1 : la_sk i (k-1) = k := by unfold la_sk; split <;> omega
          have e2 : la_sk i (k-1+1) = k+1 := by unfold la_sk; split <;> omega
          simp only [e1, e2]; exact h _ (by omega)
        · refine ih _ k (by omega) (fun b hb => ?_)
          have e1 : la_sk i k = k := by unfold la_sk; split <;> omega
          have e2 : la_sk i (k+1) = k+1 := by unfold la_sk; split <;> omega
          simp only [e1, e2]; exact h _ (by omega)
      rw [this]; simp
theorem la_det_adj_swap {n : Nat} (M : Nat → Nat → Int) (k : Nat) (hk : k + 1 < n) (r s : Nat → Int) : la_det n (la_rr (la_rr M k r) (k+1) s) = - la_det n (la_rr (la_rr M k s) (k+1) r) := by
  have h0 : la_det n (la_rr (la_rr M k (fun b => r b + s b)) (k+1) (fun b => r b + s b)) = 0 :=
    la_det_adj _ k hk (fun b _ => by simp [la_rr])
  have hr : la_det n (la_rr (la_rr M k r) (k+1) r) = 0 := la_det_adj _ k hk (fun b _ => by simp [la_rr])
  have hs : la_det n (la_rr (la_rr M k s) (k+1) s) = 0 := la_det_adj _ k hk (fun b _ => by simp [la_rr])
  rw [la_det_row_add _ _ hk, la_rr_comm _ (show k ≠ k+1 by omega), la_rr_comm _ (show k ≠ k+1 by omega), la_det_row_add _ _ (by omega), la_det_row_add _ _ (by omega)] at h0
  rw [la_rr_comm _ (show k+1 ≠ k by omega), la_rr_comm _ (show k+1 ≠ k by omega), la_rr_comm _ (show k+1 ≠ k by omega), la_rr_comm _ (show k+1 ≠ k by omega), hr, hs] at h0
  omega
theorem la_det_alt {n : Nat} : ∀ (d : Nat) (M : Nat → Nat → Int) (k : Nat), k + 1 + d < n → (∀ b, b < n → M k b = M (k + 1 + d) b) → la_det n M = 0 := by
  intro d
  induction d with
  | zero => intro M k hk h; exact la_det_adj M k hk h
  | succ d ih =>
    intro M k hk h
    have e : M = la_rr (la_rr M (k+1+d) (M (k+1+d))) (k+1+d+1) (M (k+1+d+1)) := by
      rw [la_rr_self, la_rr_self]
    rw [e, la_det_adj_swap _ _ (by omega)]
    rw [ih _ k (by omega) (fun b hb => ?_)]
    · rfl
    · simp only [la_rr]
      rw [if_neg (by omega), if_neg (by omega), if_neg (by omega), if_pos trivial]
      exact h b hb
theorem la_det_eq_rows {n : Nat} (M : Nat → Nat → Int) (k l : Nat) (hk : k < n) (hl : l < n) (hkl : k ≠ l) (h : ∀ b, b < n → M k b = M l b) : la_det n M = 0 := by
  rcases Nat.lt_or_gt_of_ne hkl with h1 | h1
  · obtain ⟨d, rfl⟩ := Nat.exists_eq_add_of_lt h1
    exact la_det_alt d M k (by omega) (fun b hb => by rw [h b hb]; congr 1; omega)
  · obtain ⟨d, rfl⟩ := Nat.exists_eq_add_of_lt h1
    exact la_det_alt d M l (by omega) (fun b hb => by rw [← h b hb]; congr 1; omega)
theorem la_det_row_addmul {n : Nat} (M : Nat → Nat → Int) (k l : Nat) (hk : k < n) (hl : l < n) (hkl : k ≠ l) (x : Int) : la_det n (la_rr M k (fun b => M k b + x * M l b)) = la_det n M := by
  have h1 := la_det_row_lin M k hk 1 x (M k) (M l)
  have h2 : la_det n (la_rr M k (M l)) = 0 := la_det_eq_rows _ k l hk hl hkl (fun b _ => by simp [la_rr, Ne.symm hkl])
  rw [h2, la_rr_self] at h1
  simpa using h1
theorem la_det_rows_addmul {n : Nat} (M : Nat → Nat → Int) (l : Nat) (hl : l < n) (x : Nat → Int) (hx : x l = 0) : la_det n (fun a b => M a b + x a * M l b) = la_det n M := by
  have key : ∀ m, m ≤ n → la_det n (fun a b => if a < m then M a b + x a * M l b else M a b) = la_det n M := by
    intro m
    induction m with
    | zero => intro _; exact la_det_congr (fun a b _ _ => by simp)
    | succ m ih =>
      intro hm
      rw [← ih (by omega)]
      by_cases hml : m = l
      · subst hml
        refine la_det_congr (fun a b _ _ => ?_)
        by_cases h1 : a < m
        · rw [if_pos h1, if_pos (by omega)]
        · by_cases h2 : a = m
          · subst h2; simp [hx]
          · rw [if_neg h1, if_neg (by omega)]
      · rw [← la_det_row_addmul (fun a b => if a < m then M a b + x a * M l b else M a b) m l (by omega) hl hml (x m)]
        refine la_det_congr (fun a b _ _ => ?_)
        simp only [la_rr]
        by_cases h2 : a = m
        · subst h2
          by_cases h3 : l < a
          · simp [h3, hx]
          · simp [h3]
        · by_cases h1 : a < m
          · rw [if_pos (by omega), if_neg h2, if_pos h1]
          · rw [if_neg (by omega), if_neg h2, if_neg h1]
  rw [← key n (Nat.le_refl n)]
  exact la_det_congr (fun a b ha _ => by rw [if_pos ha])
theorem la_det_swap {n : Nat} (M : Nat → Nat → Int) (k l : Nat) (hk : k < n) (hl : l < n) (hkl : k ≠ l) : la_det n (la_rr (la_rr M k (M l)) l (M k)) = - la_det n M := by
  have h0 : la_det n (la_rr (la_rr M k (fun b => M k b + M l b)) l (fun b => M k b + M l b)) = 0 :=
    la_det_eq_rows _ k l hk hl hkl (fun b _ => by simp [la_rr, hkl])
  have hr : la_det n (la_rr (la_rr M k (M k)) l (M k)) = 0 := la_det_eq_rows _ k l hk hl hkl (fun b _ => by simp [la_rr, hkl])
  have hs : la_det n (la_rr (la_rr M k (M l)) l (M l)) = 0 := la_det_eq_rows _ k l hk hl hkl (fun b _ => by simp [la_rr, hkl])
  rw [la_det_row_add _ _ hl, la_rr_comm _ hkl, la_rr_comm _ hkl, la_det_row_add _ _ hk, la_det_row_add _ _ hk] at h0
  rw [la_rr_comm _ (Ne.symm hkl), la_rr_comm _ (Ne.symm hkl), la_rr_comm _ (Ne.symm hkl), la_rr_comm _ (Ne.symm hkl), hr, hs, la_rr_self, la_rr_self] at h0
  omega
theorem la_minor_rc {M : Nat → Nat → Int} {i k : Nat} {c : Nat → Int} : (fun a b => la_rc M (k+1) c (la_sk i a) (b+1)) = la_rc (fun a b => M (la_sk i a) (b+1)) k (fun a => c (la_sk i a)) := by
  funext a b
  unfold la_rc
  by_cases e : b = k
  · subst e; simp
  · simp [e]
theorem la_minor_rc0 {M : Nat → Nat → Int} {i : Nat} {c : Nat → Int} : (fun a b => la_rc M 0 c (la_sk i a) (b+1)) = (fun a b => M (la_sk i a) (b+1)) := by
  funext a b; unfold la_rc; simp
theorem la_det_col_lin {n : Nat} : ∀ (M : Nat → Nat → Int) (k : Nat), k < n → ∀ (x y : Int) (r s : Nat → Int), la_det n (la_rc M k (fun b => x * r b + y * s b)) = x * la_det n (la_rc M k r) + y * la_det n (la_rc M k s) := by
  induction n with
  | zero => intro M k hk; omega
  | succ n ih =>
    intro M k hk x y r s
    rw [la_det_succ, la_det_succ, la_det_succ, ← la_sm_mul, ← la_sm_mul, ← la_sm_add]
    refine la_sm_congr (fun i hi => ?_)
    cases k with
    | zero =>
      rw [la_minor_rc0, la_minor_rc0, la_minor_rc0]
      simp only [la_rc, if_true]
      generalize la_det n _ = D
      grind
    | succ k =>
      rw [la_minor_rc, la_minor_rc, la_minor_rc, ih _ _ (by omega)]
      simp only [la_rc, if_neg (show ¬ 0 = k + 1 by omega)]
      generalize la_det n _ = D
      generalize la_det n _ = E
      grind
theorem la_det_col_smul {n : Nat} (M : Nat → Nat → Int) (k : Nat) (hk : k < n) (x : Int) (r : Nat → Int) : la_det n (la_rc M k (fun b => x * r b)) = x * la_det n (la_rc M k r) := by
  have := la_det_col_lin M k hk x 0 r r
  simpa using this
theorem la_det_col_zero {n : Nat} (M : Nat → Nat → Int) (k : Nat) (hk : k < n) (h : ∀ a, a < n → M a k = 0) : la_det n M = 0 := by
  have e : la_det n M = la_det n (la_rc M k (fun a => 0 * M a k)) := by
    refine la_det_congr (fun a b ha _ => ?_)
    unfold la_rc; split
    · case _ h' => rw [h', h a ha]; simp
    · rfl
  rw [e, la_det_col_smul _ _ hk]; simp
theorem la_det_first {n : Nat} (M : Nat → Nat → Int) (h : ∀ a, 0 < a → a < n + 1 → M a 0 = 0) : la_det (n+1) M = M 0 0 * la_det n (fun a b => M (a+1) (b+1)) := by
  rw [la_det_succ, la_sm_single 0 (by omega) (fun i hi hne => by rw [h i (by omega) hi]; simp)]
  have : (fun a b => M (la_sk 0 a) (b+1)) = (fun a b => M (a+1) (b+1)) := by
    funext a b; have : la_sk 0 a = a + 1 := by unfold la_sk; split <;> omega
    rw [this]
  rw [this, la_sg_zero]; simp
theorem la_det_last_row {n : Nat} : ∀ (M : Nat → Nat → Int), (∀ b, b < n → M n b = 0) → la_det (n+1) M = M n n * la_det n M := by
  induction n with
  | zero => intro M _; simp [la_det, la_sm, la_sg]
  | succ n ih =>
    intro M h
    rw [la_det_succ (n+1)]
    rw [show la_sm (n+1+1) (fun i => la_sg i * M i 0 * la_det (n+1) (fun a b => M (la_sk i a) (b+1))) = la_sm (n+1) (fun i => la_sg i * M i 0 * la_det (n+1) (fun a b => M (la_sk i a) (b+1))) + la_sg (n+1) * M (n+1) 0 * la_det (n+1) (fun a b => M (la_sk (n+1) a) (b+1)) from rfl]
    rw [h 0 (by omega)]
    simp only [Int.mul_zero, Int.zero_mul, Int.add_zero]
    rw [la_det_succ n M, ← la_sm_mul]
    refine la_sm_congr (fun i hi => ?_)
    have e : la_sk i n = n + 1 := by unfold la_sk; split <;> omega
    rw [ih _ (fun b hb => by rw [e]; exact h _ (by omega))]
    rw [e]
    generalize la_det n _ = D
    grind
def la_ee (j b : Nat) : Int := if b = j then 1 else 0
theorem la_ee_self (j : Nat) : la_ee j j = 1 := by simp [la_ee]
theorem la_ee_ne {j b : Nat} (h : b ≠ j) : la_ee j b = 0 := by simp [la_ee, h]
theorem la_det_one (n : Nat) : la_det n (fun a b => la_ee a b) = 1 := by
  induction n with
  | zero => rfl
  | succ n ih => rw [la_det_last_row _ (fun b hb => la_ee_ne (by omega)), ih, la_ee_self]; rfl
theorem la_sm_ee {n : Nat} (x : Nat → Int) (b : Nat) (hb : b < n) : la_sm n (fun j => x j * la_ee j b) = x b := by
  rw [la_sm_single b hb (fun i _ hne => by rw [la_ee_ne (Ne.symm hne)]; simp), la_ee_self]; simp
theorem la_det_row_sum {n : Nat} (M : Nat → Nat → Int) (i : Nat) (hi : i < n) (m : Nat) (x : Nat → Int) (r : Nat → Nat → Int) :
    la_det n (la_rr M i (fun b => la_sm m (fun j => x j * r j b))) = la_sm m (fun j => x j * la_det n (la_rr M i (r j))) := by
  induction m with
  | zero => exact la_det_row_zero _ i hi (fun b _ => by simp [la_rr, la_sm])
  | succ m ih =>
    simp only [la_sm]
    have := la_det_row_lin M i hi 1 (x m) (fun b => la_sm m (fun j => x j * r j b)) (r m)
    simp only [Int.one_mul] at this
    rw [this, ih]
def la_adj (n : Nat) (M : Nat → Nat → Int) (j i : Nat) : Int := la_det n (la_rr M i (la_ee j))
theorem la_adj_right {n : Nat} (M : Nat → Nat → Int) (k i : Nat) (hi : i < n) (hk : k < n) : la_sm n (fun j => M k j * la_adj n M j i) = if k = i then la_det n M else 0 := by
  unfold la_adj
  rw [← la_det_row_sum M i hi n (M k) (fun j => la_ee j)]
  have e : la_det n (la_rr M i (fun b => la_sm n (fun j => M k j * la_ee j b))) = la_det n (la_rr M i (M k)) := by
    refine la_det_congr (fun a b _ hb => ?_)
    unfold la_rr; split
    · exact la_sm_ee (M k) b hb
    · rfl
  rw [e]
  by_cases h : k = i
  · subst h; rw [la_rr_self, if_pos rfl]
  · rw [if_neg h]
    exact la_det_eq_rows _ i k hi hk (Ne.symm h) (fun b _ => by simp [la_rr, h])
theorem la_sm_dvd {n : Nat} {f g : Nat → Int} {p : Int} (h : ∀ i, i < n → p ∣ f i - g i) : p ∣ la_sm n f - la_sm n g := by
  rw [← la_sm_sub]
  induction n with
  | zero => exact ⟨0, by simp [la_sm]⟩
  | succ n ih => simp only [la_sm]; exact Int.dvd_add (ih (fun i hi => h i (by omega))) (h n (by omega))
theorem la_mul_dvd_sub {a b c d p : Int} (h1 : p ∣ a - b) (h2 : p ∣ c - d) : p ∣ a * c - b * d := by
  obtain ⟨x, hx⟩ := h1
  obtain ⟨y, hy⟩ := h2
  exact ⟨x * c + b * y, by grind⟩
theorem la_det_dvd {n : Nat} {p : Int} : ∀ {M N : Nat → Nat → Int}, (∀ a b, a < n → b < n → p ∣ M a b - N a b) → p ∣ la_det n M - la_det n N := by
  induction n with
  | zero => intro M N _; exact ⟨0, by simp [la_det]⟩
  | succ n ih =>
    intro M N h
    rw [la_det_succ, la_det_succ]
    refine la_sm_dvd (fun i hi => ?_)
    refine la_mul_dvd_sub (la_mul_dvd_sub ⟨0, by simp⟩ (h i 0 hi (by omega))) (ih (fun a b ha hb => h _ _ (la_sk_lt hi ha) (by omega)))
def la_ng (A : Nat → Nat → Int) : Nat → Nat → Int := fun a b => - A a b
theorem la_ee_comm (a b : Nat) : la_ee a b = la_ee b a := by unfold la_ee; by_cases h : a = b <;> simp [h, eq_comm]
theorem la_ee_iff (a b : Nat) : la_ee a b = if a = b then 1 else 0 := by unfold la_ee; by_cases h : a = b <;> simp [h, eq_comm]
def la_sw (i m a : Nat) : Nat := if a = i then m else if a = m then i else a
theorem la_det_units (c : Nat) : ∀ (m : Nat) (M : Nat → Nat → Int), (∀ a b, a < c + m → b < c → M a b = la_ee a b) → la_det (c + m) M = la_det m (fun a b => M (c + a) (c + b)) := by
  induction c with
  | zero => intro m M _; rw [Nat.zero_add]; exact la_det_congr (fun a b _ _ => by simp)
  | succ c ih =>
    intro m M h
    have e : c + 1 + m = c + m + 1 := by omega
    rw [e, la_det_first M (fun a h0 ha => by rw [h a 0 (by omega) (by omega), la_ee_iff, if_neg (by omega)]), h 0 0 (by omega) (by omega), la_ee_self, Int.one_mul]
    rw [ih m _ (fun a b ha hb => by rw [h (a+1) (b+1) (by omega) (by omega), la_ee_iff, la_ee_iff]; simp)]
    refine la_det_congr (fun a b _ _ => ?_)
    rw [show c + a + 1 = c + 1 + a by omega, show c + b + 1 = c + 1 + b by omega]
theorem tdiv2 (e : Nat) : Int.tdiv (e : Int) 2 = ((e / 2 : Nat) : Int) := rfl
theorem tmod2 (e : Nat) : Int.tmod (e : Int) 2 = ((e % 2 : Nat) : Int) := rfl
/-- Where the directed edge e begins, and where it ends. -/
def begAt (l : List (List Int)) (e : Nat) : Int := rd (rd_L1 l ((e / 2 : Nat) : Int)) ((e % 2 : Nat) : Int)
def endAt (l : List (List Int)) (e : Nat) : Int := rd (rd_L1 l ((e / 2 : Nat) : Int)) ((1 - e % 2 : Nat) : Int)
def two (l : List (List Int)) : Prop := ∀ x ∈ l, x.length = 2
theorem isG_two {a : Int} {l : List (List Int)} (h : isG a l = true) : two l := by
  intro x hx
  simp only [isG, Bool.and_eq_true, List.all_eq_true] at h
  have := h.2.2.2 x hx
  simp only [edgeIn, Bool.and_eq_true, decide_eq_true_eq] at this
  exact this.1
theorem isG_len {a : Int} {l : List (List Int)} (h : isG a l = true) : l.length ≤ 10 := by
  simp only [isG, Bool.and_eq_true, decide_eq_true_eq] at h
  exact h.2.2.1
theorem two_at {l : List (List Int)} (h2 : two l) (e : Nat) (he : e < 2 * l.length) : (rd_L1 l ((e / 2 : Nat) : Int)).length = 2 := by
  have hi : e / 2 < l.length := by omega
  rw [rdL1_nat l (e / 2) hi]
  exact h2 _ (List.getElem_mem hi)
theorem l01Ends_eq (a : Int) (l : List (List Int)) (hl : l.length ≤ 1048576) (h2 : two l) (e : Nat) (he : e < 2 * l.length) : spec_l01Ends.f a l e = some (begAt l e, endAt l e) := by
  have hx := two_at h2 e he
  unfold spec_l01Ends.f
  rw [tdiv2, tmod2, w64 (by omega) (by omega), if_pos (by omega), if_pos (by omega), hx]
  unfold begAt endAt
  rcases Nat.mod_two_eq_zero_or_one e with h | h
  · rw [h]; rfl
  · rw [h]; rfl
theorem ends_eq (a : Int) (l : List (List Int)) (hl : l.length ≤ 1048576) (h2 : two l) (e : Nat) (he : e < 2 * l.length) : impl_Graph_ends.f a l e = some (begAt l e, endAt l e) := by
  have hx := two_at h2 e he
  unfold impl_Graph_ends.f
  rw [tdiv2, tmod2, w64 (by omega) (by omega), if_pos (by omega), if_pos (by omega), hx]
  have hm : e % 2 < 2 := Nat.mod_lt _ (by omega)
  rw [w64 (by omega) (by omega), if_pos (by omega), if_pos (by omega), if_pos (by omega), if_pos (by omega)]
  unfold begAt endAt
  rw [show (1 : Int) - ((e % 2 : Nat) : Int) = ((1 - e % 2 : Nat) : Int) by omega]
/-- The other direction of e's edge. -/
def opp (e : Nat) : Nat := if e % 2 = 0 then e + 1 else e - 1
theorem xor1_all : ((List.range 20).all fun e : Nat => Go.bits .xor .i64 (e : Int) 1 == ((opp e : Nat) : Int)) = true := by kernel_rfl
theorem xor1 (e : Nat) (h : e < 20) : Go.bits .xor .i64 (e : Int) 1 = ((opp e : Nat) : Int) := by
  have := List.all_eq_true.1 xor1_all e (List.mem_range.2 h)
  exact eq_of_beq this
/-- May f come behind e. -/
def next (l : List (List Int)) (e f : Nat) : Bool := decide (endAt l e = begAt l f) && !decide (f = opp e)
theorem l03Next_eq (a : Int) (l : List (List Int)) (hl : l.length ≤ 1048576) (h2 : two l) (e f : Nat) (he : e < 2 * l.length) (hf : f < 2 * l.length) : spec_l03Next.f a l e f = some (next l e f) := by
  unfold spec_l03Next.f
  rw [l01Ends_eq a l hl h2 e he, l01Ends_eq a l hl h2 f hf]
  simp only [Option.bind_some, tdiv2]
  unfold next
  by_cases h : endAt l e = begAt l f
  · have e1 : wrap64 ((e / 2 : Nat) : Int) = ((e / 2 : Nat) : Int) := w64 (by omega) (by omega)
    have e2 : wrap64 ((f / 2 : Nat) : Int) = ((f / 2 : Nat) : Int) := w64 (by omega) (by omega)
    simp only [if_pos h, e1, e2]
    simp only [h, decide_true, Bool.true_and]
    by_cases h3 : ((e / 2 : Nat) : Int) = ((f / 2 : Nat) : Int)
    · rw [if_pos h3]
      congr 1
      rw [Bool.eq_iff_iff]
      unfold opp
      rcases Nat.mod_two_eq_zero_or_one e with h5 | h5 <;> simp [h5] <;> omega
    · rw [if_neg h3]
      congr 1
      rw [Bool.eq_iff_iff]
      unfold opp
      rcases Nat.mod_two_eq_zero_or_one e with h5 | h5 <;> simp [h5] <;> omega
  · rw [if_neg h]
    simp [h]
def mrow (n : Nat) (g : Nat → Bool) (f : Nat) : List Int := (List.range n).map fun j => if (decide (j < f) && g j) = true then 1 else 0
theorem mrow_length (n : Nat) (g : Nat → Bool) (f : Nat) : (mrow n g f).length = n := by simp [mrow]
theorem mrow_zero (n : Nat) (g : Nat → Bool) : mrow n g 0 = List.replicate n 0 := by
  apply List.ext_getElem
  · simp [mrow]
  · intro i h1 h2; simp [mrow]
theorem mrow_hit (n : Nat) (g : Nat → Bool) (f : Nat) (hf : f < n) (h : g f = true) : (mrow n g f).set f 1 = mrow n g (f + 1) := by
  apply List.ext_getElem
  · simp [mrow]
  · intro i h1 h2
    simp only [mrow, List.length_map, List.length_range, List.length_set] at h1 h2
    rw [List.getElem_set]
    by_cases hi : f = i
    · subst hi; simp [mrow, h]
    · rw [if_neg hi]
      simp only [mrow, List.getElem_map, List.getElem_range]
      have : decide (i < f) = decide (i < f + 1) := by rw [Bool.eq_iff_iff]; simp; omega
      rw [this]
theorem mrow_miss (n : Nat) (g : Nat → Bool) (f : Nat) (h : g f = false) : mrow n g f = mrow n g (f + 1) := by
  apply List.ext_getElem
  · simp [mrow]
  · intro i h1 h2
    simp only [mrow, List.getElem_map, List.getElem_range]
    by_cases hi : i = f
    · subst hi; simp [h]
    · have : decide (i < f) = decide (i < f + 1) := by rw [Bool.eq_iff_iff]; simp; omega
      rw [this]
/-- The edge rows. -/
def edgeM (l : List (List Int)) : List (List Int) := (List.range (2 * l.length)).map fun e => mrow (2 * l.length) (next l e) (2 * l.length)
theorem l09Rows_l1 (a : Int) (l : List (List Int)) (hl : l.length ≤ 10) (h2 : two l) (x3 : List (List Int)) (hx : x3.length < 1048576) (R : List (List Int)) (e : Nat) (he : e < 2 * l.length)
    (hR : Ev (fun k => spec_l09Rows.l0 k (x3 ++ [mrow (2 * l.length) (next l e) (2 * l.length)]) ((2 * l.length : Nat) : Int) ((e : Int) + 1) a l) R) :
    ∀ (d f : Nat), 2 * l.length - f = d → f ≤ 2 * l.length → Ev (fun k => spec_l09Rows.l1 k x3 ((2 * l.length : Nat) : Int) e (mrow (2 * l.length) (next l e) f) f a l) R := by
  intro d
  induction d with
  | zero =>
    intro f hd hf
    obtain rfl : f = 2 * l.length := by omega
    refine Ev.step (fun k => by simp only [spec_l09Rows.l1]; rfl) ?_
    simp only [Int.lt_irrefl, if_false, show x3.length < 5864062014805 by omega, if_true, w64 (show -9223372036854775808 ≤ (e : Int) + 1 by omega) (by omega)]
    exact hR
  | succ d ih =>
    intro f hd hf
    have hfl : f < 2 * l.length := by omega
    refine Ev.step (fun k => by simp only [spec_l09Rows.l1]; rfl) ?_
    have h := ih (f + 1) (by omega) (by omega)
    simp only [show ((f : Int) < ((2 * l.length : Nat) : Int)) by omega, if_true, l03Next_eq a l (by omega) h2 e f he hfl, Option.bind_some, show (0 : Int) ≤ (f : Int) by omega, mrow_length, Int.toNat_natCast, w64 (show -9223372036854775808 ≤ (f : Int) + 1 by omega) (by omega)]
    cases hn : next l e f with
    | true => simp only [if_true]; rw [mrow_hit _ _ _ hfl hn]; exact h
    | false => simp only [Bool.false_eq_true, if_false]; rw [mrow_miss _ _ _ hn]; exact h
theorem l09Rows_l0 (a : Int) (l : List (List Int)) (hl : l.length ≤ 10) (h2 : two l) : ∀ (d e : Nat), 2 * l.length - e = d → e ≤ 2 * l.length → Ev (fun k => spec_l09Rows.l0 k ((edgeM l).take e) ((2 * l.length : Nat) : Int) e a l) (edgeM l) := by
  have hlen : (edgeM l).length = 2 * l.length := by simp [edgeM]
  intro d
  induction d with
  | zero =>
    intro e hd he
    refine Ev.step (fun k => by simp only [spec_l09Rows.l0]; rfl) ?_
    simp only [show ¬ ((e : Int) < ((2 * l.length : Nat) : Int)) by omega, if_false]
    rw [List.take_of_length_le (by omega)]
    exact Ev.now _
  | succ d ih =>
    intro e hd he
    have hel : e < 2 * l.length := by omega
    refine Ev.step (fun k => by simp only [spec_l09Rows.l0]; rfl) ?_
    simp only [show ((e : Int) < ((2 * l.length : Nat) : Int)) by omega, show (0 : Int) ≤ ((2 * l.length : Nat) : Int) by omega, show 2 * l.length ≤ 35184372088832 by omega, if_true, Int.toNat_natCast]
    rw [← mrow_zero (2 * l.length) (next l e)]
    refine l09Rows_l1 a l hl h2 ((edgeM l).take e) (by rw [List.length_take]; omega) (edgeM l) e hel ?_ (2 * l.length) 0 (by omega) (by omega)
    have h := ih (e + 1) (by omega) (by omega)
    have e1 : (edgeM l).take (e + 1) = (edgeM l).take e ++ [mrow (2 * l.length) (next l e) (2 * l.length)] := by
      rw [List.take_succ_eq_append_getElem (by omega)]
      simp [edgeM]
    rw [e1] at h
    exact h
theorem l09Rows_ev (a : Int) (l : List (List Int)) (hl : l.length ≤ 10) (h2 : two l) : Ev (fun k => spec_l09Rows.f k a l) (edgeM l) := by
  unfold spec_l09Rows.f
  rw [w64 (by omega) (by omega), show 2 * (l.length : Int) = ((2 * l.length : Nat) : Int) by omega]
  exact l09Rows_l0 a l hl h2 (2 * l.length) 0 (by omega) (by omega)
/-- The rows on the way: those above e are whole, that of e up to f. -/
def mpart (l : List (List Int)) (e f : Nat) : List (List Int) := (List.range (2 * l.length)).map fun i => mrow (2 * l.length) (next l i) (if i < e then 2 * l.length else if i = e then f else 0)
theorem mpart_length (l : List (List Int)) (e f : Nat) : (mpart l e f).length = 2 * l.length := by simp [mpart]
theorem mpart_row (l : List (List Int)) (e f : Nat) (he : e < 2 * l.length) : rd_L1 (mpart l e f) (e : Int) = mrow (2 * l.length) (next l e) f := by
  rw [rdL1_nat _ _ (by rw [mpart_length]; exact he)]
  simp [mpart]
theorem mpart_hit (l : List (List Int)) (e f : Nat) (he : e < 2 * l.length) (hf : f < 2 * l.length) (h : next l e f = true) : (mpart l e f).set e ((mrow (2 * l.length) (next l e) f).set f 1) = mpart l e (f + 1) := by
  rw [mrow_hit _ _ _ hf h]
  apply List.ext_getElem
  · simp [mpart]
  · intro i h1 h2
    rw [List.getElem_set]
    by_cases hi : e = i
    · subst hi; simp [mpart]
    · rw [if_neg hi]
      simp [mpart, Ne.symm hi]
theorem mpart_miss (l : List (List Int)) (e f : Nat) (h : next l e f = false) : mpart l e f = mpart l e (f + 1) := by
  unfold mpart
  apply List.map_congr_left
  intro i _
  by_cases hi : i < e
  · simp [hi]
  · by_cases hie : i = e
    · subst hie; simp; exact mrow_miss _ _ _ h
    · simp [hi, hie]
theorem mpart_next (l : List (List Int)) (e : Nat) : mpart l e (2 * l.length) = mpart l (e + 1) 0 := by
  unfold mpart
  apply List.map_congr_left
  intro i _
  by_cases hi : i < e
  · rw [if_pos hi, if_pos (by omega)]
  · by_cases hie : i = e
    · subst hie; simp
    · rw [if_neg hi, if_neg hie, if_neg (by omega)]; split <;> rfl
theorem mpart_all (l : List (List Int)) : mpart l (2 * l.length) 0 = edgeM l := by
  unfold mpart edgeM
  apply List.map_congr_left
  intro i hi
  rw [if_pos (List.mem_range.1 hi)]
theorem edgeMatrix_l1 (a : Int) (l : List (List Int)) (hl : l.length ≤ 10) (h2 : two l) (R : List (List Int)) (e : Nat) (he : e < 2 * l.length)
    (hR : Ev (fun k => impl_Graph_edgeMatrix.l0 k (mpart l (e + 1) 0) ((2 * l.length : Nat) : Int) ((e : Int) + 1) a l) R) :
    ∀ (d f : Nat), 2 * l.length - f = d → f ≤ 2 * l.length → Ev (fun k => impl_Graph_edgeMatrix.l1 k (mpart l e f) e (endAt l e) ((2 * l.length : Nat) : Int) e ((2 * l.length : Nat) : Int) f a l) R := by
  intro d
  induction d with
  | zero =>
    intro f hd hf
    obtain rfl : f = 2 * l.length := by omega
    refine Ev.step (fun k => by simp only [impl_Graph_edgeMatrix.l1]; rfl) ?_
    simp only [Int.lt_irrefl, if_false, mpart_next, w64 (show -9223372036854775808 ≤ (e : Int) + 1 by omega) (by omega)]
    exact hR
  | succ d ih =>
    intro f hd hf
    have hfl : f < 2 * l.length := by omega
    refine Ev.step (fun k => by simp only [impl_Graph_edgeMatrix.l1]; rfl) ?_
    have h := ih (f + 1) (by omega) (by omega)
    simp only [show ((f : Int) < ((2 * l.length : Nat) : Int)) by omega, if_true, ends_eq a l (by omega) h2 f hfl, Option.bind_some, show (0 : Int) ≤ (f : Int) by omega, show (0 : Int) ≤ (e : Int) by omega, mpart_length, mpart_row l e f he, mrow_length, show ((e : Int) < ((2 * l.length : Nat) : Int)) by omega, Int.toNat_natCast, xor1 e (by omega), w64 (show -9223372036854775808 ≤ (f : Int) + 1 by omega) (by omega)]
    have hn : next l e f = (decide (endAt l e = begAt l f) && !decide (f = opp e)) := rfl
    by_cases h3 : begAt l f = endAt l e
    · simp only [h3, if_true]
      by_cases h4 : f = opp e
      · simp only [eq_true (show (f : Int) = ((opp e : Nat) : Int) by omega), if_true]
        rw [mpart_miss l e f (by rw [hn]; simp [h3, h4.symm])]
        exact h
      · simp only [show ¬ ((f : Int) = ((opp e : Nat) : Int)) by omega, if_false]
        rw [mpart_hit l e f he hfl (by rw [hn]; simp [h3, h4])]
        exact h
    · simp only [h3, if_false]
      rw [mpart_miss l e f (by rw [hn]; simp [Ne.symm h3])]
      exact h
theorem edgeMatrix_l0 (a : Int) (l : List (List Int)) (hl : l.length ≤ 10) (h2 : two l) : ∀ (d e : Nat), 2 * l.length - e = d → e ≤ 2 * l.length → Ev (fun k => impl_Graph_edgeMatrix.l0 k (mpart l e 0) ((2 * l.length : Nat) : Int) e a l) (edgeM l) := by
  intro d
  induction d with
  | zero =>
    intro e hd he
    obtain rfl : e = 2 * l.length := by omega
    refine Ev.step (fun k => by simp only [impl_Graph_edgeMatrix.l0]; rfl) ?_
    simp only [Int.lt_irrefl, if_false, mpart_all]
    exact Ev.now _
  | succ d ih =>
    intro e hd he
    have hel : e < 2 * l.length := by omega
    refine Ev.step (fun k => by simp only [impl_Graph_edgeMatrix.l0]; rfl) ?_
    simp only [show ((e : Int) < ((2 * l.length : Nat) : Int)) by omega, if_true, ends_eq a l (by omega) h2 e hel, Option.bind_some, impl_Graph_size.f, w64 (show -9223372036854775808 ≤ 2 * (l.length : Int) by omega) (by omega)]
    rw [show 2 * (l.length : Int) = ((2 * l.length : Nat) : Int) by omega]
    exact edgeMatrix_l1 a l hl h2 _ e hel (ih (e + 1) (by omega) (by omega)) (2 * l.length) 0 (by omega) (by omega)
theorem square_l0 (n : Nat) (hn : n ≤ 1048576) : ∀ (d i : Nat), n - i = d → i ≤ n → Ev (fun k => impl_square.l0 k n (List.replicate i (List.replicate n 0)) n i) (List.replicate n (List.replicate n 0)) := by
  intro d
  induction d with
  | zero =>
    intro i hd hi
    obtain rfl : i = n := by omega
    refine Ev.step (fun k => by simp only [impl_square.l0]; rfl) ?_
    simp only [Int.lt_irrefl, if_false]
    exact Ev.now _
  | succ d ih =>
    intro i hd hi
    refine Ev.step (fun k => by simp only [impl_square.l0]; rfl) ?_
    simp only [show ((i : Int) < (n : Int)) by omega, show (0 : Int) ≤ (n : Int) by omega, Int.toNat_natCast, show n ≤ 35184372088832 by omega, List.length_replicate, show i < 5864062014805 by omega, if_true, w64 (show -9223372036854775808 ≤ (i : Int) + 1 by omega) (by omega)]
    have h := ih (i + 1) (by omega) (by omega)
    rw [List.replicate_succ'] at h
    exact h
theorem square_ev (n : Nat) (hn : n ≤ 1048576) : Ev (fun k => impl_square.f k n) (List.replicate n (List.replicate n 0)) := square_l0 n hn n 0 (by omega) (by omega)
theorem mpart_zero (l : List (List Int)) : mpart l 0 0 = List.replicate (2 * l.length) (List.replicate (2 * l.length) 0) := by
  apply List.ext_getElem
  · simp [mpart]
  · intro i h1 h2
    simp only [mpart, List.getElem_map, List.getElem_range, List.getElem_replicate]
    rw [← mrow_zero (2 * l.length) (next l i)]
    congr 1
    rw [if_neg (by omega)]
    split <;> rfl
theorem edgeMatrix_ev (a : Int) (l : List (List Int)) (hl : l.length ≤ 10) (h2 : two l) : Ev (fun k => impl_Graph_edgeMatrix.f k a l) (edgeM l) := by
  unfold impl_Graph_edgeMatrix.f
  simp only [impl_Graph_size.f, Option.bind_some, w64 (show -9223372036854775808 ≤ 2 * (l.length : Int) by omega) (by omega)]
  rw [show 2 * (l.length : Int) = ((2 * l.length : Nat) : Int) by omega]
  refine Ev.bind (square_ev (2 * l.length) (by omega)) ?_
  rw [← mpart_zero]
  exact edgeMatrix_l0 a l hl h2 (2 * l.length) 0 (by omega) (by omega)
/-- A row and a square of numbers, by their places. -/
def vrow (n : Nat) (g : Nat → Int) : List Int := (List.range n).map g
def vmat (n : Nat) (f : Nat → Nat → Int) : List (List Int) := (List.range n).map fun i => vrow n (f i)
theorem vrow_length (n : Nat) (g : Nat → Int) : (vrow n g).length = n := by simp [vrow]
theorem vmat_length (n : Nat) (f : Nat → Nat → Int) : (vmat n f).length = n := by simp [vmat]
theorem vrow_rd {n : Nat} {g : Nat → Int} {v : Nat} (h : v < n) : rd (vrow n g) (v : Int) = g v := by
  rw [rd_nat _ _ (by rw [vrow_length]; exact h)]
  simp [vrow]
theorem vmat_row {n : Nat} {f : Nat → Nat → Int} {u : Nat} (h : u < n) : rd_L1 (vmat n f) (u : Int) = vrow n (f u) := by
  rw [rdL1_nat _ _ (by rw [vmat_length]; exact h)]
  simp [vmat]
theorem vrow_congr {n : Nat} {g h : Nat → Int} (e : ∀ j, j < n → g j = h j) : vrow n g = vrow n h := by
  unfold vrow
  apply List.map_congr_left
  intro j hj
  exact e j (List.mem_range.mp hj)
theorem vrow_set {n : Nat} (g : Nat → Int) (v : Nat) (x : Int) : (vrow n g).set v x = vrow n (fun j => if j = v then x else g j) := by
  apply List.ext_getElem
  · rw [List.length_set, vrow_length, vrow_length]
  intro j h1 h2
  rw [List.getElem_set]
  simp only [vrow, List.getElem_map, List.getElem_range]
  by_cases h : v = j
  · subst h; simp
  · rw [if_neg h, if_neg (fun e => h e.symm)]
theorem spec_l01Own_ev (l : List Int) (h : l.length ≤ 1048576) : spec_l01Own.f l = some l := by
  unfold spec_l01Own.f
  simp only [Option.bind_some, List.length_nil, List.nil_append, show 0 + l.length < 17592186044416 by omega, if_true]
/-- The edge matrix, by its places. -/
def eA (l : List (List Int)) (e f : Nat) : Int := if next l e f = true then 1 else 0
theorem edgeM_vmat (l : List (List Int)) : edgeM l = vmat (2 * l.length) (eA l) := by
  unfold edgeM vmat
  apply List.map_congr_left
  intro e _
  unfold mrow vrow
  apply List.map_congr_left
  intro f hf
  have hf' : f < 2 * l.length := List.mem_range.mp hf
  unfold eA
  simp [hf']
theorem tmod_nn {x p : Int} (h : 0 ≤ x) : Int.tmod x p = x % p := Int.tmod_eq_emod_of_nonneg h
theorem modW {p x : Int} (hp : 0 < p) (hp2 : p ≤ 1000000) : Int.tmod (wrap64 (Int.tmod x p + p)) p = x % p := by
  have hb : -p < Int.tmod x p ∧ Int.tmod x p < p := by
    rcases Int.le_total 0 x with h | h
    · rw [tmod_nn h]
      have := Int.emod_nonneg x (show p ≠ 0 by omega)
      have := Int.emod_lt_of_pos x hp
      omega
    · have e : Int.tmod x p = -((-x) % p) := by
        rw [← tmod_nn (show 0 ≤ -x by omega), Int.neg_tmod]; omega
      have := Int.emod_nonneg (-x) (show p ≠ 0 by omega)
      have := Int.emod_lt_of_pos (-x) hp
      omega
  rw [w64 (by omega) (by omega), tmod_nn (by omega)]
  have hd : x = p * Int.tdiv x p + Int.tmod x p := (Int.mul_tdiv_add_tmod x p).symm
  have : x % p = Int.tmod x p % p := by
    conv => lhs; rw [hd]
    rw [Int.add_comm, Int.add_mul_emod_self_left]
  rw [this, Int.add_emod_right]
theorem l09Mod_eq {p x : Int} (hp : 0 < p) (hp2 : p ≤ 1000000) : spec_l09Mod.f p x = some (x % p) := by
  unfold spec_l09Mod.f
  rw [if_neg (by omega), modW hp hp2]
theorem modulo_eq {p x : Int} (hp : 0 < p) (hp2 : p ≤ 1000000) : impl_modulo.f x p = some (x % p) := by
  unfold impl_modulo.f
  rw [if_neg (by omega), modW hp hp2]
/-- Is a number a prime. -/
def prN (p : Nat) : Bool := decide (∀ e, e < p → 2 ≤ e → e * e ≤ p → p % e ≠ 0)
theorem prN_step {p d : Nat} (hd : 2 ≤ d) (h : d * d ≤ p) (h0 : p % d = 0) : prN p = false := by
  unfold prN
  rw [decide_eq_false_iff_not]
  intro hc
  have : d < p := by
    have : d * 2 ≤ d * d := Nat.mul_le_mul_left d hd
    omega
  exact hc d this hd h h0
theorem prN_done {p d : Nat} (h : p < d * d) (hl : ∀ e, 2 ≤ e → e < d → e * e ≤ p → p % e ≠ 0) : prN p = true := by
  unfold prN
  rw [decide_eq_true_iff]
  intro e _ h2 h3
  refine hl e h2 ?_ h3
  apply Classical.byContradiction
  intro hc
  have : d * d ≤ e * e := Nat.mul_le_mul (by omega) (by omega)
  omega
theorem tmod_nat (p d : Nat) : Int.tmod (p : Int) (d : Int) = ((p % d : Nat) : Int) := rfl
theorem l09Prime_l0 (p : Nat) (hp : p ≤ 10007) : ∀ (m d : Nat), p + 1 - d = m → 2 ≤ d → d ≤ p + 1 → (∀ e, 2 ≤ e → e < d → e * e ≤ p → p % e ≠ 0) → Ev (fun k => spec_l09Prime.l0 k p d) (prN p) := by
  intro m
  induction m with
  | zero =>
    intro d hm hd hdp hl
    have hdd : p < d * d := by
      obtain rfl : d = p + 1 := by omega
      have : (p + 1) * 1 ≤ (p + 1) * (p + 1) := Nat.mul_le_mul_left _ (by omega)
      omega
    have hs : d * d ≤ 10008 * 10008 := Nat.mul_le_mul (by omega) (by omega)
    refine Ev.step (fun q => by simp only [spec_l09Prime.l0]; rfl) ?_
    rw [prN_done hdd hl]
    simp only [show ((d : Int) * (d : Int)) = ((d * d : Nat) : Int) by simp, w64 (show -9223372036854775808 ≤ ((d * d : Nat) : Int) by omega) (by omega), show ¬ (((d * d : Nat) : Int) ≤ (p : Int)) by omega, if_false]
    exact Ev.now _
  | succ m ih =>
    intro d hm hd hdp hl
    have hs : d * d ≤ 10008 * 10008 := Nat.mul_le_mul (by omega) (by omega)
    refine Ev.step (fun q => by simp only [spec_l09Prime.l0]; rfl) ?_
    simp only [show ((d : Int) * (d : Int)) = ((d * d : Nat) : Int) by simp, w64 (show -9223372036854775808 ≤ ((d * d : Nat) : Int) by omega) (by omega)]
    by_cases h : d * d ≤ p
    · simp only [show (((d * d : Nat) : Int) ≤ (p : Int)) by omega, if_true, show ¬ ((d : Int) = 0) by omega, if_false, tmod_nat]
      by_cases h0 : p % d = 0
      · simp only [h0, show (((0 : Nat) : Int) = 0) by rfl, if_true, prN_step hd h h0]
        exact Ev.now _
      · simp only [show ¬ (((p % d : Nat) : Int) = 0) by omega, if_false, w64 (show -9223372036854775808 ≤ (d : Int) + 1 by omega) (by omega)]
        exact ih (d + 1) (by omega) (by omega) (by omega) (fun e h1 h2 h3 => by
          by_cases he : e = d
          · subst he; exact h0
          · exact hl e h1 (by omega) h3)
    · rw [prN_done (by omega) hl]
      simp only [show ¬ (((d * d : Nat) : Int) ≤ (p : Int)) by omega, if_false]
      exact Ev.now _
theorem isPrimeNumber_l0 (p : Nat) (hp : p ≤ 10007) : ∀ (m d : Nat), p + 1 - d = m → 2 ≤ d → d ≤ p + 1 → (∀ e, 2 ≤ e → e < d → e * e ≤ p → p % e ≠ 0) → Ev (fun k => impl_isPrimeNumber.l0 k p d) (prN p) := by
  intro m
  induction m with
  | zero =>
    intro d hm hd hdp hl
    have hdd : p < d * d := by
      obtain rfl : d = p + 1 := by omega
      have : (p + 1) * 1 ≤ (p + 1) * (p + 1) := Nat.mul_le_mul_left _ (by omega)
      omega
    have hs : d * d ≤ 10008 * 10008 := Nat.mul_le_mul (by omega) (by omega)
    refine Ev.step (fun q => by simp only [impl_isPrimeNumber.l0]; rfl) ?_
    rw [prN_done hdd hl]
    simp only [show ((d : Int) * (d : Int)) = ((d * d : Nat) : Int) by simp, w64 (show -9223372036854775808 ≤ ((d * d : Nat) : Int) by omega) (by omega), show ¬ (((d * d : Nat) : Int) ≤ (p : Int)) by omega, if_false]
    exact Ev.now _
  | succ m ih =>
    intro d hm hd hdp hl
    have hs : d * d ≤ 10008 * 10008 := Nat.mul_le_mul (by omega) (by omega)
    refine Ev.step (fun q => by simp only [impl_isPrimeNumber.l0]; rfl) ?_
    simp only [show ((d : Int) * (d : Int)) = ((d * d : Nat) : Int) by simp, w64 (show -9223372036854775808 ≤ ((d * d : Nat) : Int) by omega) (by omega)]
    by_cases h : d * d ≤ p
    · simp only [show (((d * d : Nat) : Int) ≤ (p : Int)) by omega, if_true, show ¬ ((d : Int) = 0) by omega, if_false, tmod_nat]
      by_cases h0 : p % d = 0
      · simp only [h0, show (((0 : Nat) : Int) = 0) by rfl, if_true, prN_step hd h h0]
        exact Ev.now _
      · simp only [show ¬ (((p % d : Nat) : Int) = 0) by omega, if_false, w64 (show -9223372036854775808 ≤ (d : Int) + 1 by omega) (by omega)]
        exact ih (d + 1) (by omega) (by omega) (by omega) (fun e h1 h2 h3 => by
          by_cases he : e = d
          · subst he; exact h0
          · exact hl e h1 (by omega) h3)
    · rw [prN_done (by omega) hl]
      simp only [show ¬ (((d * d : Nat) : Int) ≤ (p : Int)) by omega, if_false]
      exact Ev.now _
/-- Is p a prime of 2..hi. -/
def prB (hi p : Int) : Bool := decide (2 ≤ p) && decide (p ≤ hi) && prN p.toNat
theorem l09Prime_ev (p : Int) : Ev (fun k => spec_l09Prime.f k p) (prB 101 p) := by
  unfold spec_l09Prime.f prB
  simp only [l01In_eq, Option.bind_some]
  by_cases h : (decide (2 ≤ p) && decide (p ≤ 101)) = true
  · simp only [h, if_true, Bool.true_and]
    simp only [Bool.and_eq_true, decide_eq_true_eq] at h
    obtain ⟨q, rfl⟩ : ∃ q : Nat, p = q := ⟨p.toNat, by omega⟩
    rw [Int.toNat_natCast]
    exact l09Prime_l0 q (by omega) (q - 1) 2 (by omega) (by omega) (by omega) (fun e h1 h2 _ => by omega)
  · simp only [Bool.not_eq_true] at h
    simp only [h, Bool.false_eq_true, if_false, Bool.false_and]
    exact Ev.now _
theorem isPrimeNumber_ev (p : Int) : Ev (fun k => impl_isPrimeNumber.f k p) (prB 10007 p) := by
  unfold impl_isPrimeNumber.f prB
  simp only [within_eq, Option.bind_some]
  by_cases h : (decide (2 ≤ p) && decide (p ≤ 10007)) = true
  · simp only [h, if_true, Bool.true_and]
    simp only [Bool.and_eq_true, decide_eq_true_eq] at h
    obtain ⟨q, rfl⟩ : ∃ q : Nat, p = q := ⟨p.toNat, by omega⟩
    rw [Int.toNat_natCast]
    exact isPrimeNumber_l0 q (by omega) (q - 1) 2 (by omega) (by omega) (by omega) (fun e h1 h2 _ => by omega)
  · simp only [Bool.not_eq_true] at h
    simp only [h, Bool.false_eq_true, if_false, Bool.false_and]
    exact Ev.now _
theorem isSmallPrime_ev (p : Int) : Ev (fun k => impl_isSmallPrime.f k p) (prB 101 p) := by
  unfold impl_isSmallPrime.f
  by_cases h : p ≤ 101
  · simp only [h, if_true]
    refine Ev.bind (isPrimeNumber_ev p) ?_
    have : prB 10007 p = prB 101 p := by
      unfold prB; simp [h, show p ≤ 10007 by omega]
    rw [this]
    exact Ev.now _
  · simp only [h, if_false]
    have : prB 101 p = false := by unfold prB; simp [h]
    rw [this]
    exact Ev.now _
theorem prB_nat {hi p : Int} (h : prB hi p = true) : ∃ q : Nat, p = q ∧ 2 ≤ q ∧ (q : Int) ≤ hi ∧ prN q = true := by
  unfold prB at h
  simp only [Bool.and_eq_true, decide_eq_true_eq] at h
  exact ⟨p.toNat, by omega, by omega, by omega, h.2⟩
theorem prN_nodiv {p : Nat} (h : prN p = true) (d : Nat) (h2 : 2 ≤ d) (hd : d < p) : p % d ≠ 0 := by
  unfold prN at h
  rw [decide_eq_true_iff] at h
  intro h0
  obtain ⟨e, he⟩ := Nat.dvd_of_mod_eq_zero h0
  by_cases hs : d * d ≤ p
  · exact h d hd h2 hs h0
  · have hed : e < d := by
      apply Classical.byContradiction
      intro hc
      have : d * d ≤ d * e := Nat.mul_le_mul_left d (by omega)
      omega
    have he2 : 2 ≤ e := by
      apply Classical.byContradiction
      intro hc
      have : e = 0 ∨ e = 1 := by omega
      rcases this with rfl | rfl
      · omega
      · omega
    have hee : e * e ≤ p := by
      have : e * e ≤ d * e := Nat.mul_le_mul_right e (by omega)
      omega
    exact h e (by omega) he2 hee (by rw [he, Nat.mul_mod_left])
/-- Numbers modulo a prime have inverses. -/
theorem inv_ex {p : Nat} (hp : prN p = true) (hp2 : 2 ≤ p) (x : Nat) : 0 < x → x < p → ∃ k : Int, (p : Int) ∣ k * x - 1 := by
  induction x using Nat.strongRecOn with
  | _ x ih =>
    intro h0 hx
    by_cases h1 : x = 1
    · subst h1; exact ⟨1, 0, by omega⟩
    · have hr := prN_nodiv hp x (by omega) hx
      have hrx : p % x < x := Nat.mod_lt _ h0
      obtain ⟨k, c, hk⟩ := ih (p % x) hrx (by omega) (by omega)
      have hd : (p : Int) = x * ((p / x : Nat) : Int) + ((p % x : Nat) : Int) := by
        have := Nat.div_add_mod p x
        exact_mod_cast this.symm
      refine ⟨-(k * ((p / x : Nat) : Int)), c - k, ?_⟩
      generalize ((p / x : Nat) : Int) = q at hd
      generalize ((p % x : Nat) : Int) = r at hd hk
      grind
theorem inv_ex' {p : Nat} (hp : prN p = true) (hp2 : 2 ≤ p) {x : Int} (h0 : 0 < x) (hx : x < p) : ∃ k : Nat, 1 ≤ k ∧ k < p ∧ ((k : Int) * x) % p = 1 := by
  obtain ⟨y, rfl⟩ : ∃ y : Nat, x = y := ⟨x.toNat, by omega⟩
  obtain ⟨k, c, hk⟩ := inv_ex hp hp2 y (by omega) (by omega)
  have hn := Int.emod_nonneg k (show (p : Int) ≠ 0 by omega)
  have hl := Int.emod_lt_of_pos k (show (0 : Int) < p by omega)
  have hm : (k % p * (y : Int)) % p = 1 := by
    have : k * (y : Int) = 1 + p * c := by omega
    rw [Int.mul_emod, Int.emod_emod, ← Int.mul_emod, this, Int.add_mul_emod_self_left]
    exact Int.emod_eq_of_lt (by omega) (by omega)
  refine ⟨(k % p).toNat, ?_, by omega, ?_⟩
  · have : k % (p : Int) ≠ 0 := by
      intro h
      rw [h] at hm
      simp at hm
    omega
  · rw [Int.toNat_of_nonneg hn]; exact hm
theorem l09Inverse_l0 (p : Nat) (hp2 : 2 ≤ p) (hpm : p ≤ 10007) (x : Int) (h0 : 0 < x) (hx : x < p) (K : Nat) (hK : K < p) (hKx : ((K : Int) * x) % p = 1) : ∀ (m k : Nat), K - k = m → 1 ≤ k → k ≤ K → ∃ v : Int, Ev (fun q => spec_l09Inverse.l0 q p x k) v ∧ 1 ≤ v ∧ v < p ∧ (x * v) % p = 1 := by
  intro m
  induction m with
  | zero =>
    intro k hm h1 hk
    obtain rfl : k = K := by omega
    refine ⟨k, Ev.step (fun q => by simp only [spec_l09Inverse.l0]; rfl) ?_, by omega, by omega, by rw [Int.mul_comm]; exact hKx⟩
    have hb : (k : Int) * x ≤ p * p := Int.mul_le_mul (by omega) (by omega) (by omega) (by omega)
    have hpp : (p : Int) * p ≤ 10007 * 10007 := Int.mul_le_mul (by omega) (by omega) (by omega) (by omega)
    have hb0 : 0 ≤ (k : Int) * x := Int.mul_nonneg (by omega) (by omega)
    simp only [show ((k : Int) < (p : Int)) by omega, if_true, l09Mod_eq (show (0 : Int) < p by omega) (by omega), Int.emod_eq_of_lt (show 0 ≤ x by omega) hx, Option.bind_some, show ¬ ((p : Int) = 0) by omega, if_false, w64 (show -9223372036854775808 ≤ (k : Int) * x by omega) (by omega), tmod_nn hb0, hKx]
    exact Ev.now _
  | succ m ih =>
    intro k hm h1 hk
    have hb : (k : Int) * x ≤ p * p := Int.mul_le_mul (by omega) (by omega) (by omega) (by omega)
    have hpp : (p : Int) * p ≤ 10007 * 10007 := Int.mul_le_mul (by omega) (by omega) (by omega) (by omega)
    have hb0 : 0 ≤ (k : Int) * x := Int.mul_nonneg (by omega) (by omega)
    by_cases hk1 : ((k : Int) * x) % p = 1
    · refine ⟨k, Ev.step (fun q => by simp only [spec_l09Inverse.l0]; rfl) ?_, by omega, by omega, by rw [Int.mul_comm]; exact hk1⟩
      simp only [show ((k : Int) < (p : Int)) by omega, if_true, l09Mod_eq (show (0 : Int) < p by omega) (by omega), Int.emod_eq_of_lt (show 0 ≤ x by omega) hx, Option.bind_some, show ¬ ((p : Int) = 0) by omega, if_false, w64 (show -9223372036854775808 ≤ (k : Int) * x by omega) (by omega), tmod_nn hb0, hk1]
      exact Ev.now _
    · obtain ⟨v, hv, g⟩ := ih (k + 1) (by omega) (by omega) (by omega)
      refine ⟨v, Ev.step (fun q => by simp only [spec_l09Inverse.l0]; rfl) ?_, g⟩
      simp only [show ((k : Int) < (p : Int)) by omega, if_true, l09Mod_eq (show (0 : Int) < p by omega) (by omega), Int.emod_eq_of_lt (show 0 ≤ x by omega) hx, Option.bind_some, show ¬ ((p : Int) = 0) by omega, if_false, w64 (show -9223372036854775808 ≤ (k : Int) * x by omega) (by omega), tmod_nn hb0, hk1, w64 (show -9223372036854775808 ≤ (k : Int) + 1 by omega) (by omega)]
      exact hv
theorem l09Inverse_ev {p : Nat} (hp : prN p = true) (hp2 : 2 ≤ p) (hpm : p ≤ 10007) {x : Int} (h0 : 0 < x) (hx : x < p) : ∃ v : Int, Ev (fun q => spec_l09Inverse.f q p x) v ∧ 1 ≤ v ∧ v < p ∧ (x * v) % p = 1 := by
  obtain ⟨K, h1, h2, h3⟩ := inv_ex' hp hp2 h0 hx
  exact l09Inverse_l0 p hp2 hpm x h0 hx K h2 h3 (K - 1) 1 (by omega) (by omega) (by omega)
/-- n rows of m numbers, by their places. -/
def vmr (n m : Nat) (f : Nat → Nat → Int) : List (List Int) := (List.range n).map fun i => vrow m (f i)
theorem vmr_length (n m : Nat) (f : Nat → Nat → Int) : (vmr n m f).length = n := by simp [vmr]
theorem vmr_row {n m : Nat} {f : Nat → Nat → Int} {u : Nat} (h : u < n) : rd_L1 (vmr n m f) (u : Int) = vrow m (f u) := by
  rw [rdL1_nat _ _ (by rw [vmr_length]; exact h)]
  simp [vmr]
theorem vmr_congr {n m : Nat} {f h : Nat → Nat → Int} (e : ∀ i j, i < n → j < m → f i j = h i j) : vmr n m f = vmr n m h := by
  unfold vmr
  apply List.map_congr_left
  intro i hi
  exact vrow_congr fun j hj => e i j (List.mem_range.mp hi) hj
theorem vmr_set {n m : Nat} (f : Nat → Nat → Int) (u : Nat) (g : Nat → Int) : (vmr n m f).set u (vrow m g) = vmr n m (fun i j => if i = u then g j else f i j) := by
  apply List.ext_getElem
  · rw [List.length_set, vmr_length, vmr_length]
  intro i h1 h2
  rw [List.getElem_set]
  simp only [vmr, List.getElem_map, List.getElem_range]
  by_cases h : u = i
  · subst h; simp
  · rw [if_neg h]; exact vrow_congr fun j _ => by rw [if_neg (fun e => h e.symm)]
theorem vmr_snoc (n m : Nat) (f : Nat → Nat → Int) : vmr n m f ++ [vrow m (f n)] = vmr (n + 1) m f := by
  unfold vmr; rw [List.range_succ, List.map_append]; rfl
theorem vrow_drop (n m : Nat) (g : Nat → Int) : (vrow (n + m) g).drop n = vrow m (fun j => g (n + j)) := by
  apply List.ext_getElem
  · rw [List.length_drop, vrow_length, vrow_length]; omega
  intro i h1 h2
  rw [List.getElem_drop]
  simp only [vrow, List.getElem_map, List.getElem_range]
theorem swp_vmr (n m : Nat) (f : Nat → Nat → Int) (i j : Nat) (hi : i < n) (hj : j < n) : swp (vmr n m f) i j = vmr n m (fun r => f (la_sw i j r)) := by
  have hg : ∀ u, u < n → (vmr n m f).getD u [] = vrow m (f u) := fun u hu => by
    rw [List.getD_eq_getElem?_getD, List.getElem?_eq_getElem (by rw [vmr_length]; exact hu)]
    simp [vmr]
  unfold swp
  rw [Int.toNat_natCast, Int.toNat_natCast, hg i hi, hg j hj, vmr_set, vmr_set]
  refine vmr_congr fun r c _ _ => ?_
  unfold la_sw
  by_cases h1 : r = j
  · subst h1
    by_cases h2 : r = i
    · subst h2; simp
    · simp [h2]
  · by_cases h2 : r = i
    · subst h2; simp [h1]
    · simp [h1, h2]
/-- What the rows hold while they are solved: the first c columns are units, the right half times the rows M is the left half, and the number det is what the determinant has lost. -/
structure GI (p : Int) (n : Nat) (M : Nat → Nat → Int) (c : Nat) (T : Nat → Nat → Int) (det : Int) : Prop where
  rng : ∀ i j, i < n → j < n + n → 0 ≤ T i j ∧ T i j < p
  uni : ∀ i j, i < n → j < c → T i j = la_ee j i
  inv : ∀ i j, i < n → j < n → p ∣ T i j - la_sm n (fun k => T i (n + k) * M k j)
  dr : 0 < det ∧ det < p
  dt : p ∣ det * la_det n T - la_det n M
theorem dvd_mod (p x : Int) : p ∣ x % p - x := ⟨-(x / p), by have := Int.mul_ediv_add_emod x p; rw [Int.mul_neg]; omega⟩
theorem dvd_mod' (p x : Int) : p ∣ x - x % p := ⟨x / p, by have := Int.mul_ediv_add_emod x p; omega⟩
theorem dvd_tr {p a b c : Int} (h1 : p ∣ a - b) (h2 : p ∣ b - c) : p ∣ a - c := by
  have := Int.dvd_add h1 h2
  rwa [show a - b + (b - c) = a - c by omega] at this
theorem dvd_sy {p a b : Int} (h1 : p ∣ a - b) : p ∣ b - a := by
  have := Int.dvd_neg.2 h1
  rwa [show -(a - b) = b - a by omega] at this
theorem dvd_mulL {p a b : Int} (x : Int) (h : p ∣ a - b) : p ∣ x * a - x * b := by
  obtain ⟨q, h⟩ := h
  exact ⟨x * q, by grind⟩
theorem eq_of_dvd {p a b : Int} (h : p ∣ a - b) (ha : 0 ≤ a ∧ a < p) (hb : 0 ≤ b ∧ b < p) : a = b := by
  obtain ⟨q, h⟩ := h
  have : q = 0 := by
    rcases Int.lt_trichotomy q 0 with h1 | h1 | h1
    · have : p * q ≤ p * (-1) := Int.mul_le_mul_of_nonneg_left (by omega) (by omega)
      omega
    · exact h1
    · have : p * 1 ≤ p * q := Int.mul_le_mul_of_nonneg_left (by omega) (by omega)
      omega
  subst this; omega
/-- A product of two numbers, one of which has an inverse. -/
theorem mul_ne_mod {p a b v : Int} (hv : (b * v) % p = 1) (hp : 1 < p) (ha : 0 < a ∧ a < p) : 0 < (a * b) % p := by
  have h0 := Int.emod_nonneg (a * b) (show p ≠ 0 by omega)
  rcases Int.lt_or_eq_of_le h0 with h | h
  · exact h
  · exfalso
    obtain ⟨q, hq⟩ := Int.dvd_of_emod_eq_zero h.symm
    have h1 := dvd_mod' p (b * v)
    rw [hv] at h1
    obtain ⟨r, hr⟩ := h1
    have : p ∣ a - 0 := ⟨q * v - a * r, by grind⟩
    have := eq_of_dvd this ⟨by omega, by omega⟩ ⟨by omega, by omega⟩
    omega
/-- No pivot in the column c: the determinant is a multiple of p. -/
theorem GI.none {p : Int} {n : Nat} {M : Nat → Nat → Int} {c : Nat} {T : Nat → Nat → Int} {det : Int} (h : GI p n M c T det) (hc : c < n) (h0 : ∀ i, c ≤ i → i < n → T i c = 0) : p ∣ la_det n M := by
  have hz : la_det n T = 0 := by
    obtain ⟨m, rfl⟩ : ∃ m, n = c + (m + 1) := ⟨n - c - 1, by omega⟩
    rw [la_det_units c (m + 1) T (fun a b ha hb => by rw [h.uni a b ha hb, la_ee_comm])]
    exact la_det_col_zero _ 0 (by omega) (fun a ha => h0 _ (by omega) (by omega))
  have := h.dt
  rw [hz, Int.mul_zero, Int.zero_sub] at this
  exact (Int.dvd_neg.1 this)
/-- Two rows changed for each other. -/
theorem GI.swap {p : Int} (hp : 1 < p) {n : Nat} {M : Nat → Nat → Int} {c : Nat} {T : Nat → Nat → Int} {det : Int} (h : GI p n M c T det) (i : Nat) (hci : c < i) (hi : i < n) : GI p n M c (fun r => T (la_sw i c r)) ((-det) % p) := by
  have hsl : ∀ r, r < n → la_sw i c r < n := fun r hr => by unfold la_sw; (repeat' split) <;> omega
  refine ⟨fun r j hr hj => h.rng _ _ (hsl r hr) hj, fun r j hr hj => ?_, fun r j hr hj => h.inv _ _ (hsl r hr) hj, ?_, ?_⟩
  · show T (la_sw i c r) j = _
    rw [h.uni _ _ (hsl r hr) hj]
    unfold la_sw
    by_cases h1 : r = i
    · rw [if_pos h1, la_ee_ne (by omega), la_ee_ne (by omega)]
    · rw [if_neg h1]
      by_cases h2 : r = c
      · rw [if_pos h2, la_ee_ne (by omega), la_ee_ne (by omega)]
      · rw [if_neg h2]
  · have h1 := h.dr
    have h2 := Int.emod_nonneg (-det) (show p ≠ 0 by omega)
    have h3 := Int.emod_lt_of_pos (-det) (show 0 < p by omega)
    refine ⟨?_, h3⟩
    rcases Int.lt_or_eq_of_le h2 with h4 | h4
    · exact h4
    · exfalso
      obtain ⟨q, hq⟩ := Int.dvd_of_emod_eq_zero h4.symm
      have := eq_of_dvd (p := p) (a := det) (b := 0) ⟨-q, by rw [Int.mul_neg]; omega⟩ ⟨by omega, by omega⟩ ⟨by omega, by omega⟩
      omega
  · have hs := la_det_swap T i c hi (by omega) (by omega)
    have he : la_det n (fun r => T (la_sw i c r)) = - la_det n T := by
      rw [← hs]
      refine la_det_congr (fun a b _ _ => ?_)
      unfold la_sw la_rr
      by_cases h1 : a = c
      · subst h1
        by_cases h2 : a = i
        · omega
        · simp [h2]
      · by_cases h2 : a = i
        · subst h2; simp [h1]
        · simp [h1, h2]
    rw [he]
    have h1 := la_mul_dvd_sub (dvd_mod p (-det)) (show p ∣ (- la_det n T) - (- la_det n T) from ⟨0, by omega⟩)
    have h2 := h.dt
    rw [show (-det) * (- la_det n T) = det * la_det n T by rw [Int.neg_mul_neg]] at h1
    exact dvd_tr h1 h2
/-- The row c, scaled. -/
def scT (p : Int) (T : Nat → Nat → Int) (c : Nat) (v : Int) (m : Nat) : Nat → Nat → Int := fun r j => if r = c ∧ j < m then (T r j * v) % p else T r j
/-- Multiples of the row c taken from the first rows. -/
def elT (p : Int) (T : Nat → Nat → Int) (c i m : Nat) : Nat → Nat → Int := fun r j => if r ≠ c ∧ (r < i ∨ r = i ∧ j < m) then (T r j - T r c * T c j) % p else T r j
theorem GI.step {p : Int} (hp : 1 < p) {n : Nat} {M : Nat → Nat → Int} {c : Nat} {T : Nat → Nat → Int} {det : Int} (h : GI p n M c T det) (hc : c < n) (v : Int) (hv : (T c c * v) % p = 1) :
    GI p n M (c + 1) (elT p (scT p T c v (n + n)) c n 0) ((det * T c c) % p) := by
  have hem := fun x : Int => And.intro (Int.emod_nonneg x (show p ≠ 0 by omega)) (Int.emod_lt_of_pos x (show 0 < p by omega))
  -- the scaled rows
  let S : Nat → Nat → Int := scT p T c v (n + n)
  have hS : ∀ r j, j < n + n → S r j = if r = c then (T r j * v) % p else T r j := fun r j hj => by
    show (if r = c ∧ j < n + n then _ else _) = _
    by_cases h1 : r = c
    · rw [if_pos ⟨h1, hj⟩, if_pos h1]
    · rw [if_neg (fun e => h1 e.1), if_neg h1]
  have hSd : ∀ r j, j < n + n → p ∣ S r j - (if r = c then T r j * v else T r j) := fun r j hj => by
    rw [hS r j hj]
    by_cases h1 : r = c
    · rw [if_pos h1, if_pos h1]; exact dvd_mod p _
    · rw [if_neg h1, if_neg h1]; exact ⟨0, by omega⟩
  have hSr : ∀ r j, r < n → j < n + n → 0 ≤ S r j ∧ S r j < p := fun r j hr hj => by
    rw [hS r j hj]
    split
    · exact hem _
    · exact h.rng r j hr hj
  have hScc : S c c = 1 := by rw [hS c c (by omega), if_pos rfl]; exact hv
  have hScj : ∀ j, j < c → S c j = 0 := fun j hj => by
    rw [hS c j (by omega), if_pos rfl, h.uni c j hc hj, la_ee_ne (by omega)]; simp
  have hSo : ∀ r, r ≠ c → ∀ j, j < n + n → S r j = T r j := fun r hr j hj => by rw [hS r j hj, if_neg hr]
  have hSdet : p ∣ la_det n S - v * la_det n T := by
    have h1 : p ∣ la_det n S - la_det n (la_rr T c (fun b => v * T c b)) := la_det_dvd (fun a b ha hb => by
      refine dvd_tr (hSd a b (by omega)) ?_
      unfold la_rr
      by_cases h1 : a = c
      · subst h1; rw [if_pos rfl, if_pos rfl]; exact ⟨0, by show T a b * v - v * T a b = _; rw [Int.mul_comm v]; omega⟩
      · rw [if_neg h1, if_neg h1]; exact ⟨0, by omega⟩)
    rw [la_det_row_smul _ _ hc, la_rr_self] at h1
    exact h1
  have hSinv : ∀ i j, i < n → j < n → p ∣ S i j - la_sm n (fun k => S i (n + k) * M k j) := fun i j hi hj => by
    by_cases h1 : i = c
    · subst h1
      have h2 := hSd i j (by omega)
      rw [if_pos rfl] at h2
      refine dvd_tr h2 (dvd_tr (b := v * la_sm n (fun k => T i (n + k) * M k j)) ?_ ?_)
      · rw [Int.mul_comm (T i j) v]; exact dvd_mulL v (h.inv i j hi hj)
      · rw [← la_sm_mul]
        refine la_sm_dvd (fun k hk => ?_)
        have h3 := hSd i (n + k) (by omega)
        rw [if_pos rfl] at h3
        have h4 := la_mul_dvd_sub (dvd_sy h3) (show p ∣ M k j - M k j from ⟨0, by omega⟩)
        rw [show v * (T i (n + k) * M k j) = T i (n + k) * v * M k j by grind]
        exact h4
    · rw [hSo i h1 j (by omega), la_sm_congr (g := fun k => T i (n + k) * M k j) (fun k hk => by rw [hSo i h1 (n + k) (by omega)])]
      exact h.inv i j hi hj
  -- the eliminated rows
  have hE : ∀ r j, r < n → elT p S c n 0 r j = if r = c then S r j else (S r j - S r c * S c j) % p := fun r j hr => by
    unfold elT
    by_cases h1 : r = c
    · rw [if_neg (fun e => e.1 h1), if_pos h1]
    · rw [if_pos ⟨h1, Or.inl hr⟩, if_neg h1]
  have hEd : ∀ r j, r < n → p ∣ elT p S c n 0 r j - (S r j + (if r = c then 0 else - S r c) * S c j) := fun r j hr => by
    rw [hE r j hr]
    by_cases h1 : r = c
    · rw [if_pos h1, if_pos h1]; exact ⟨0, by omega⟩
    · rw [if_neg h1, if_neg h1, show S r j + - S r c * S c j = S r j - S r c * S c j by rw [Int.neg_mul]; omega]
      exact dvd_mod p _
  refine ⟨fun r j hr hj => ?_, fun r j hr hj => ?_, fun i j hi hj => ?_, ⟨?_, (hem _).2⟩, ?_⟩
  · show 0 ≤ elT p S c n 0 r j ∧ _
    rw [hE r j hr]
    split
    · exact hSr r j hr hj
    · exact hem _
  · show elT p S c n 0 r j = _
    rw [hE r j hr]
    by_cases h2 : j = c
    · subst h2
      by_cases h1 : r = j
      · subst h1; rw [if_pos rfl, hScc, la_ee_self]
      · rw [if_neg h1, hScc, Int.mul_one, Int.sub_self, la_ee_ne h1]; rfl
    · have hjc : j < c := by omega
      by_cases h1 : r = c
      · subst h1; rw [if_pos rfl, hScj j hjc, la_ee_ne (by omega)]
      · rw [if_neg h1, hScj j hjc, Int.mul_zero, Int.sub_zero, hSo r h1 j (by omega), h.uni r j hr hjc]
        unfold la_ee
        split
        · exact Int.emod_eq_of_lt (by omega) hp
        · rfl
  · show p ∣ elT p S c n 0 i j - la_sm n (fun k => elT p S c n 0 i (n + k) * M k j)
    refine dvd_tr (hEd i j hi) ?_
    have h1 : p ∣ (S i j + (if i = c then 0 else - S i c) * S c j) - (la_sm n (fun k => S i (n + k) * M k j) + (if i = c then 0 else - S i c) * la_sm n (fun k => S c (n + k) * M k j)) := by
      have a1 := hSinv i j hi hj
      have a2 := dvd_mulL (if i = c then 0 else - S i c) (hSinv c j hc hj)
      have := Int.dvd_add a1 a2
      rwa [show ∀ a b x y : Int, a - b + (x - y) = a + x - (b + y) by intros; omega] at this
    refine dvd_tr h1 ?_
    rw [← la_sm_mul, ← la_sm_add]
    refine la_sm_dvd (fun k hk => ?_)
    have h3 := la_mul_dvd_sub (dvd_sy (hEd i (n + k) hi)) (show p ∣ M k j - M k j from ⟨0, by omega⟩)
    rw [show S i (n + k) * M k j + (if i = c then 0 else - S i c) * (S c (n + k) * M k j) = (S i (n + k) + (if i = c then 0 else - S i c) * S c (n + k)) * M k j by grind]
    exact h3
  · exact mul_ne_mod hv hp h.dr
  · show p ∣ (det * T c c) % p * la_det n (elT p S c n 0) - la_det n M
    have h1 : p ∣ la_det n (elT p S c n 0) - la_det n S := by
      have a := la_det_rows_addmul S c hc (fun r => if r = c then 0 else - S r c) (by simp)
      rw [← a]
      exact la_det_dvd (fun r j hr _ => hEd r j hr)
    have h2 := dvd_tr h1 hSdet
    have h3 := la_mul_dvd_sub (dvd_mod p (det * T c c)) h2
    refine dvd_tr h3 (dvd_tr (b := det * la_det n T) ?_ h.dt)
    have h4 := dvd_mod' p (T c c * v)
    rw [hv] at h4
    obtain ⟨q, hq⟩ := h4
    exact ⟨det * la_det n T * q, by grind⟩
theorem GI.last {p : Int} {n : Nat} {M T : Nat → Nat → Int} {det : Int} (h : GI p n M n T det) : p ∣ det - la_det n M ∧ ∀ i j, i < n → j < n → p ∣ la_sm n (fun k => T i (n + k) * M k j) - la_ee j i := by
  refine ⟨?_, fun i j hi hj => ?_⟩
  · have h1 := h.dt
    have e : la_det n T = 1 := by
      rw [← la_det_one n]
      exact la_det_congr (fun a b ha hb => by rw [h.uni a b ha hb, la_ee_comm])
    rwa [e, Int.mul_one] at h1
  · have h1 := h.inv i j hi hj
    rw [h.uni i j hi hj] at h1
    exact dvd_sy h1
/-- The rows at the start: the unit rows less u times A, and the unit rows. -/
def gT (p u : Int) (n : Nat) (A : Nat → Nat → Int) : Nat → Nat → Int := fun i j => if j < n then (if j = i then ((-u * A i j) % p + 1) % p else (-u * A i j) % p) else if j = n + i then 1 else 0
def gM (u : Int) (A : Nat → Nat → Int) : Nat → Nat → Int := fun a b => la_ee a b + u * la_ng A a b
theorem GI.start {p : Int} (hp : 1 < p) (u : Int) (n : Nat) (A : Nat → Nat → Int) : GI p n (gM u A) 0 (gT p u n A) 1 := by
  have hem := fun x : Int => And.intro (Int.emod_nonneg x (show p ≠ 0 by omega)) (Int.emod_lt_of_pos x (show 0 < p by omega))
  have hd : ∀ i j, i < n → j < n → p ∣ gT p u n A i j - gM u A i j := fun i j hi hj => by
    unfold gT gM la_ng
    rw [if_pos hj]
    by_cases h1 : j = i
    · subst h1
      rw [if_pos rfl, la_ee_self]
      refine dvd_tr (dvd_mod p _) ?_
      have := dvd_mod p (-u * A j j)
      rwa [show ∀ a b : Int, (a + 1) - (1 + b) = a - b by intros; omega, show u * -A j j = -u * A j j by grind]
    · rw [if_neg h1, la_ee_ne h1, show 0 + u * -A i j = -u * A i j by grind]
      exact dvd_mod p _
  refine ⟨fun i j hi hj => ?_, fun i j _ hj => by omega, fun i j hi hj => ?_, ⟨by omega, hp⟩, ?_⟩
  · unfold gT
    split
    · split
      · exact hem _
      · exact hem _
    · split <;> omega
  · refine dvd_tr (hd i j hi hj) ?_
    have : la_sm n (fun k => gT p u n A i (n + k) * gM u A k j) = gM u A i j := by
      rw [la_sm_single i hi (fun k hk hne => by
        unfold gT; rw [if_neg (by omega), if_neg (by omega)]; simp)]
      unfold gT; rw [if_neg (by omega), if_pos rfl]; simp
    rw [this]; exact ⟨0, by omega⟩
  · rw [Int.one_mul]; exact la_det_dvd (fun a b ha hb => hd a b ha hb)
theorem em_small {p x y : Int} (hp : 0 < p) (hp2 : p ≤ 1000) (hx : 0 ≤ x ∧ x < p) (hy : 0 ≤ y ∧ y < p) : 0 ≤ x * y ∧ x * y ≤ 1000000 := by
  have h1 : x * y ≤ 1000 * 1000 := Int.mul_le_mul (by omega) (by omega) (by omega) (by omega)
  exact ⟨Int.mul_nonneg hx.1 hy.1, by omega⟩
theorem solve_l1 (p : Nat) (hp : 2 ≤ p) (hp2 : p ≤ 101) (u : Nat) (hu : u < p) (n : Nat) (hn : n ≤ 20) (A : Nat → Nat → Int) (hA : ∀ i j, A i j = 0 ∨ A i j = 1) (det : Int) (i : Nat) (hi : i < n) (R : List (List Int) × Int)
    (next : Ev (fun k => spec_l09Solve.l0 k p u (vmat n A) n det (vmr (i + 1) (n + n) (gT p u n A)) ((i : Int) + 1)) R) :
    ∀ (d j : Nat), n - j = d → j ≤ n → Ev (fun k => spec_l09Solve.l1 k p u (vmat n A) n det (vmr i (n + n) (gT p u n A)) i (vrow (n + n) (fun q => if q < j then (-(u : Int) * A i q) % p else 0)) j) R := by
  have hem := fun x : Int => And.intro (Int.emod_nonneg x (show (p : Int) ≠ 0 by omega)) (Int.emod_lt_of_pos x (show (0 : Int) < p by omega))
  intro d
  induction d with
  | zero =>
    intro j hd hj
    obtain rfl : j = n := by omega
    refine Ev.step (fun q => by simp only [spec_l09Solve.l1]; rfl) ?_
    have hg : rd (vrow (j + j) (fun q => if q < j then (-(u : Int) * A i q) % p else 0)) (i : Int) = (-(u : Int) * A i i) % p := by rw [vrow_rd (by omega), if_pos hi]
    have he := hem (-(u : Int) * A i i)
    simp only [Int.lt_irrefl, if_false, show (0 : Int) ≤ (i : Int) by omega, if_true, vrow_length, show ((i : Int) < ((j + j : Nat) : Int)) by omega, show ¬ ((p : Int) = 0) by omega, hg, show (j : Int) + (i : Int) = ((j + i : Nat) : Int) by omega, w64 (show -9223372036854775808 ≤ ((j + i : Nat) : Int) by omega) (by omega), show (0 : Int) ≤ ((j + i : Nat) : Int) by omega, show ((j + i : Nat) : Int) < ((j + j : Nat) : Int) by omega, Int.toNat_natCast, vrow_set, vmr_length, show i < 5864062014805 by omega, w64 (show -9223372036854775808 ≤ (i : Int) + 1 by omega) (by omega), w64 (show -9223372036854775808 ≤ (-(u : Int) * A i i) % p + 1 by omega) (by omega), tmod_nn (show 0 ≤ (-(u : Int) * A i i) % p + 1 by omega)]
    refine Ev.congr (fun q => ?_) next
    rw [← vmr_snoc]
    congr 2
    congr 1
    refine vrow_congr fun q hq => ?_
    unfold gT
    by_cases h1 : q < j
    · by_cases h2 : q = i
      · subst h2; simp only [h1, show q ≠ j + q by omega, if_true, if_false]
      · simp only [h1, h2, show q ≠ j + i by omega, if_true, if_false]
    · by_cases h2 : q = j + i
      · subst h2; simp only [h1, if_true, if_false]
      · simp only [h1, h2, show q ≠ i by omega, if_false]
  | succ d ih =>
    intro j hd hj
    have hjn : j < n := by omega
    refine Ev.step (fun q => by simp only [spec_l09Solve.l1]; rfl) ?_
    have ha : wrap64 (wrap64 (-(u : Int)) * A i j) = -(u : Int) * A i j := by
      rw [w64 (show -9223372036854775808 ≤ -(u : Int) by omega) (by omega)]
      rcases hA i j with h | h
      · rw [h]; simp [wrap64]
      · rw [h, Int.mul_one]; exact w64 (by omega) (by omega)
    simp only [show ((j : Int) < (n : Int)) by omega, show (0 : Int) ≤ (i : Int) by omega, show (0 : Int) ≤ (j : Int) by omega, vmat_length, show ((i : Int) < (n : Int)) by omega, if_true, vmat_row hi, vrow_length, vrow_rd hjn, ha, l09Mod_eq (show (0 : Int) < (p : Int) by omega) (by omega), Option.bind_some, show ((j : Int) < ((n + n : Nat) : Int)) by omega, Int.toNat_natCast, vrow_set, w64 (show -9223372036854775808 ≤ (j : Int) + 1 by omega) (by omega)]
    refine Ev.congr (fun q => ?_) (ih (j + 1) (by omega) (by omega))
    rw [show ((j + 1 : Nat) : Int) = (j : Int) + 1 by omega]
    congr 1
    refine vrow_congr fun q hq => ?_
    by_cases h1 : q = j
    · subst h1; rw [if_pos rfl, if_pos (by omega)]
    · rw [if_neg h1]
      by_cases h2 : q < j
      · rw [if_pos h2, if_pos (by omega)]
      · rw [if_neg h2, if_neg (by omega)]
theorem solve_l0 (p : Nat) (hp : 2 ≤ p) (hp2 : p ≤ 101) (u : Nat) (hu : u < p) (n : Nat) (hn : n ≤ 20) (A : Nat → Nat → Int) (hA : ∀ i j, A i j = 0 ∨ A i j = 1) (det : Int) (R : List (List Int) × Int)
    (next : Ev (fun k => spec_l09Solve.l2 k p n det (vmr n (n + n) (gT p u n A)) 0) R) :
    ∀ (d i : Nat), n - i = d → i ≤ n → Ev (fun k => spec_l09Solve.l0 k p u (vmat n A) n det (vmr i (n + n) (gT p u n A)) i) R := by
  intro d
  induction d with
  | zero =>
    intro i hd hi
    obtain rfl : i = n := by omega
    refine Ev.step (fun q => by simp only [spec_l09Solve.l0]; rfl) ?_
    simp only [Int.lt_irrefl, if_false]
    exact next
  | succ d ih =>
    intro i hd hi
    have hin : i < n := by omega
    refine Ev.step (fun q => by simp only [spec_l09Solve.l0]; rfl) ?_
    simp only [show ((i : Int) < (n : Int)) by omega, if_true, show (2 : Int) * (n : Int) = ((n + n : Nat) : Int) by omega, w64 (show -9223372036854775808 ≤ ((n + n : Nat) : Int) by omega) (by omega), show (0 : Int) ≤ ((n + n : Nat) : Int) by omega, Int.toNat_natCast, show n + n ≤ 35184372088832 by omega]
    have h := ih (i + 1) (by omega) (by omega)
    rw [show ((i + 1 : Nat) : Int) = (i : Int) + 1 by omega] at h
    have h2 := solve_l1 p hp hp2 u hu n hn A hA det i hin R h n 0 (by omega) (by omega)
    refine Ev.congr (fun q => ?_) h2
    congr 1
    apply List.ext_getElem
    · simp [vrow]
    · intro q _ _; simp [vrow]
theorem solve_l7 (n : Nat) (hn : n ≤ 20) (T : Nat → Nat → Int) (det : Int) : ∀ (d i : Nat), n - i = d → i ≤ n → Ev (fun k => spec_l09Solve.l7 k n det (vmr n (n + n) T) (vmr i n (fun r j => T r (n + j))) i) (vmr n n (fun r j => T r (n + j)), det) := by
  intro d
  induction d with
  | zero =>
    intro i hd hi
    obtain rfl : i = n := by omega
    refine Ev.step (fun q => by simp only [spec_l09Solve.l7]; rfl) ?_
    simp only [Int.lt_irrefl, if_false]
    exact Ev.now _
  | succ d ih =>
    intro i hd hi
    have hin : i < n := by omega
    refine Ev.step (fun q => by simp only [spec_l09Solve.l7]; rfl) ?_
    simp only [show ((i : Int) < (n : Int)) by omega, show (0 : Int) ≤ (i : Int) by omega, if_true, vmr_length, vmr_row hin, vrow_length, show (0 : Int) ≤ (n : Int) by omega, show ((n : Int) ≤ ((n + n : Nat) : Int)) by omega, Int.toNat_natCast, vrow_drop, spec_l01Own_ev (vrow n (fun j => T i (n + j))) (by rw [vrow_length]; omega), Option.bind_some, show i < 5864062014805 by omega, w64 (show -9223372036854775808 ≤ (i : Int) + 1 by omega) (by omega)]
    have h := ih (i + 1) (by omega) (by omega)
    rw [show ((i + 1 : Nat) : Int) = (i : Int) + 1 by omega, ← vmr_snoc] at h
    exact h
theorem solve_l6 (p : Nat) (hp : 2 ≤ p) (hp2 : p ≤ 101) (n : Nat) (hn : n ≤ 20) (S : Nat → Nat → Int) (hS : ∀ i j, i < n → j < n + n → 0 ≤ S i j ∧ S i j < p) (det : Int) (c : Nat) (hc : c < n) (i : Nat) (hi : i < n) (R : List (List Int) × Int)
    (next : Ev (fun k => spec_l09Solve.l5 k p n det (vmr n (n + n) (elT p S c (i + 1) 0)) c ((i : Int) + 1)) R) :
    ∀ (d j : Nat), n + n - j = d → j ≤ n + n → Ev (fun k => spec_l09Solve.l6 k p n det (vmr n (n + n) (elT p S c i j)) c i (S i c) j) R := by
  intro d
  induction d with
  | zero =>
    intro j hd hj
    obtain rfl : j = n + n := by omega
    refine Ev.step (fun q => by simp only [spec_l09Solve.l6]; rfl) ?_
    simp only [show (2 : Int) * (n : Int) = ((n + n : Nat) : Int) by omega, w64 (show -9223372036854775808 ≤ ((n + n : Nat) : Int) by omega) (by omega), Int.lt_irrefl, if_false, w64 (show -9223372036854775808 ≤ (i : Int) + 1 by omega) (by omega)]
    refine Ev.congr (fun q => ?_) next
    congr 1
    refine vmr_congr fun r q hr hq => ?_
    unfold elT
    by_cases h1 : r ≠ c ∧ (r < i ∨ r = i ∧ q < n + n)
    · rw [if_pos h1, if_pos ⟨h1.1, by omega⟩]
    · rw [if_neg h1, if_neg (by omega)]
  | succ d ih =>
    intro j hd hj
    have hj2 : j < n + n := by omega
    refine Ev.step (fun q => by simp only [spec_l09Solve.l6]; rfl) ?_
    simp only [show (2 : Int) * (n : Int) = ((n + n : Nat) : Int) by omega, w64 (show -9223372036854775808 ≤ ((n + n : Nat) : Int) by omega) (by omega), show ((j : Int) < ((n + n : Nat) : Int)) by omega, if_true]
    by_cases hic : i = c
    · subst hic
      simp only [if_true, w64 (show -9223372036854775808 ≤ (i : Int) + 1 by omega) (by omega)]
      refine Ev.congr (fun q => ?_) next
      congr 1
      refine vmr_congr fun r q hr hq => ?_
      unfold elT
      by_cases h1 : r ≠ i ∧ (r < i ∨ r = i ∧ q < j)
      · rw [if_pos h1, if_pos ⟨h1.1, by omega⟩]
      · rw [if_neg h1, if_neg (by omega)]
    · have hci : ¬ ((i : Int) = (c : Int)) := by omega
      have e1 : elT p S c i j i j = S i j := by unfold elT; rw [if_neg (by omega)]
      have e2 : elT p S c i j c j = S c j := by unfold elT; rw [if_neg (by omega)]
      have b1 := hS i j hi hj2
      have b2 := em_small (show (0 : Int) < p by omega) (by omega) (hS i c hi (by omega)) (hS c j hc hj2)
      simp only [hci, if_false, show (0 : Int) ≤ (i : Int) by omega, show (0 : Int) ≤ (j : Int) by omega, show (0 : Int) ≤ (c : Int) by omega, if_true, vmr_length, show ((i : Int) < (n : Int)) by omega, show ((c : Int) < (n : Int)) by omega, vmr_row hi, vmr_row hc, vrow_length, show ((j : Int) < ((n + n : Nat) : Int)) by omega, vrow_rd hj2, e1, e2, w64 (show -9223372036854775808 ≤ S i c * S c j by omega) (by omega), w64 (show -9223372036854775808 ≤ S i j - S i c * S c j by omega) (by omega), l09Mod_eq (show (0 : Int) < (p : Int) by omega) (by omega), Option.bind_some, Int.toNat_natCast, vrow_set, vmr_set, w64 (show -9223372036854775808 ≤ (j : Int) + 1 by omega) (by omega)]
      refine Ev.congr (fun q => ?_) (ih (j + 1) (by omega) (by omega))
      rw [show ((j + 1 : Nat) : Int) = (j : Int) + 1 by omega]
      congr 1
      refine vmr_congr fun r q hr hq => ?_
      by_cases h1 : r = i
      · subst h1
        rw [if_pos rfl]
        by_cases h2 : q = j
        · subst h2
          rw [if_pos rfl]
          unfold elT; rw [if_pos ⟨hic, by omega⟩]
        · rw [if_neg h2]
          unfold elT
          by_cases h3 : q < j
          · rw [if_pos ⟨hic, by omega⟩, if_pos ⟨hic, by omega⟩]
          · rw [if_neg (by omega), if_neg (by omega)]
      · rw [if_neg h1]
        unfold elT
        by_cases h3 : r ≠ c ∧ r < i
        · rw [if_pos ⟨h3.1, by omega⟩, if_pos ⟨h3.1, by omega⟩]
        · rw [if_neg (by omega), if_neg (by omega)]
theorem solve_l5 (p : Nat) (hp : 2 ≤ p) (hp2 : p ≤ 101) (n : Nat) (hn : n ≤ 20) (S : Nat → Nat → Int) (hS : ∀ i j, i < n → j < n + n → 0 ≤ S i j ∧ S i j < p) (det : Int) (c : Nat) (hc : c < n) (R : List (List Int) × Int)
    (next : Ev (fun k => spec_l09Solve.l2 k p n det (vmr n (n + n) (elT p S c n 0)) ((c : Int) + 1)) R) :
    ∀ (d i : Nat), n - i = d → i ≤ n → Ev (fun k => spec_l09Solve.l5 k p n det (vmr n (n + n) (elT p S c i 0)) c i) R := by
  intro d
  induction d with
  | zero =>
    intro i hd hi
    obtain rfl : i = n := by omega
    refine Ev.step (fun q => by simp only [spec_l09Solve.l5]; rfl) ?_
    simp only [Int.lt_irrefl, if_false, w64 (show -9223372036854775808 ≤ (c : Int) + 1 by omega) (by omega)]
    exact next
  | succ d ih =>
    intro i hd hi
    have hin : i < n := by omega
    refine Ev.step (fun q => by simp only [spec_l09Solve.l5]; rfl) ?_
    have e1 : elT p S c i 0 i c = S i c := by unfold elT; rw [if_neg (by omega)]
    simp only [show ((i : Int) < (n : Int)) by omega, show (0 : Int) ≤ (i : Int) by omega, show (0 : Int) ≤ (c : Int) by omega, if_true, vmr_length, vmr_row hin, vrow_length, show ((c : Int) < ((n + n : Nat) : Int)) by omega, vrow_rd (show c < n + n by omega), e1]
    have h := ih (i + 1) (by omega) (by omega)
    rw [show ((i + 1 : Nat) : Int) = (i : Int) + 1 by omega] at h
    exact solve_l6 p hp hp2 n hn S hS det c hc i hin R h (n + n) 0 (by omega) (by omega)
theorem solve_l4 (p : Nat) (hp : 2 ≤ p) (hp2 : p ≤ 101) (n : Nat) (hn : n ≤ 20) (T : Nat → Nat → Int) (hT : ∀ i j, i < n → j < n + n → 0 ≤ T i j ∧ T i j < p) (det v : Int) (hv : 1 ≤ v ∧ v < p) (c : Nat) (hc : c < n) (R : List (List Int) × Int)
    (next : Ev (fun k => spec_l09Solve.l5 k p n det (vmr n (n + n) (scT p T c v (n + n))) c 0) R) :
    ∀ (d j : Nat), n + n - j = d → j ≤ n + n → Ev (fun k => spec_l09Solve.l4 k p n det (vmr n (n + n) (scT p T c v j)) c v j) R := by
  intro d
  induction d with
  | zero =>
    intro j hd hj
    obtain rfl : j = n + n := by omega
    refine Ev.step (fun q => by simp only [spec_l09Solve.l4]; rfl) ?_
    simp only [show (2 : Int) * (n : Int) = ((n + n : Nat) : Int) by omega, w64 (show -9223372036854775808 ≤ ((n + n : Nat) : Int) by omega) (by omega), Int.lt_irrefl, if_false]
    exact next
  | succ d ih =>
    intro j hd hj
    have hj2 : j < n + n := by omega
    refine Ev.step (fun q => by simp only [spec_l09Solve.l4]; rfl) ?_
    have e1 : scT p T c v j c j = T c j := by unfold scT; rw [if_neg (by omega)]
    have b2 := em_small (show (0 : Int) < p by omega) (by omega) (hT c j hc hj2) (show 0 ≤ v ∧ v < (p : Int) by omega)
    simp only [show (2 : Int) * (n : Int) = ((n + n : Nat) : Int) by omega, w64 (show -9223372036854775808 ≤ ((n + n : Nat) : Int) by omega) (by omega), show ((j : Int) < ((n + n : Nat) : Int)) by omega, if_true, show (0 : Int) ≤ (c : Int) by omega, show (0 : Int) ≤ (j : Int) by omega, vmr_length, show ((c : Int) < (n : Int)) by omega, vmr_row hc, vrow_length, vrow_rd hj2, e1, show ¬ ((p : Int) = 0) by omega, if_false, w64 (show -9223372036854775808 ≤ T c j * v by omega) (by omega), tmod_nn b2.1, Int.toNat_natCast, vrow_set, vmr_set, w64 (show -9223372036854775808 ≤ (j : Int) + 1 by omega) (by omega)]
    refine Ev.congr (fun q => ?_) (ih (j + 1) (by omega) (by omega))
    rw [show ((j + 1 : Nat) : Int) = (j : Int) + 1 by omega]
    congr 1
    refine vmr_congr fun r q hr hq => ?_
    by_cases h1 : r = c
    · subst h1
      rw [if_pos rfl]
      by_cases h2 : q = j
      · subst h2
        rw [if_pos rfl]
        unfold scT; rw [if_pos ⟨rfl, by omega⟩]
      · rw [if_neg h2]
        unfold scT
        by_cases h3 : q < j
        · rw [if_pos ⟨rfl, h3⟩, if_pos ⟨rfl, by omega⟩]
        · rw [if_neg (by omega), if_neg (by omega)]
    · rw [if_neg h1]
      unfold scT
      rw [if_neg (by omega), if_neg (by omega)]
/-- What solving answers: D is the determinant. -/
def SolveOK (p : Int) (n : Nat) (M : Nat → Nat → Int) (R : List (List Int) × Int) : Prop :=
  (R = ([], 0) ∧ p ∣ la_det n M) ∨ ∃ (X : Nat → Nat → Int) (det : Int), R = (vmr n n X, det) ∧ 0 < det ∧ det < p ∧ p ∣ det - la_det n M ∧ (∀ i j, i < n → j < n → 0 ≤ X i j ∧ X i j < p) ∧ ∀ i j, i < n → j < n → p ∣ la_sm n (fun k => X i k * M k j) - la_ee j i
theorem solve_j5 (p : Nat) (hpr : prN p = true) (hp : 2 ≤ p) (hp2 : p ≤ 101) (n : Nat) (hn : n ≤ 20) (M T : Nat → Nat → Int) (det : Int) (c : Nat) (hc : c < n) (h : GI p n M c T det) (h0 : T c c ≠ 0)
    (next : ∀ T' det', GI p n M (c + 1) T' det' → ∃ R, SolveOK p n M R ∧ Ev (fun k => spec_l09Solve.l2 k p n det' (vmr n (n + n) T') ((c : Int) + 1)) R) :
    ∃ R, SolveOK p n M R ∧ Ev (fun k => spec_l09Solve.j5 k p n det (vmr n (n + n) T) c) R := by
  have hr := GI.rng h c c hc (by omega)
  obtain ⟨v, hv, v1, v2, v3⟩ := l09Inverse_ev hpr hp (by omega) (x := T c c) (by omega) hr.2
  obtain ⟨R, hR, hE⟩ := next _ _ (GI.step (by omega) h hc v v3)
  have b := em_small (show (0 : Int) < p by omega) (by omega) (show 0 ≤ det ∧ det < (p : Int) from ⟨by have := (GI.dr h).1; omega, (GI.dr h).2⟩) hr
  refine ⟨R, hR, Ev.step (fun q => by simp only [spec_l09Solve.j5]; rfl) ?_⟩
  simp only [show (0 : Int) ≤ (c : Int) by omega, if_true, vmr_length, show ((c : Int) < (n : Int)) by omega, vmr_row hc, vrow_length, show ((c : Int) < ((n + n : Nat) : Int)) by omega, vrow_rd (show c < n + n by omega), show ¬ ((p : Int) = 0) by omega, if_false, w64 (show -9223372036854775808 ≤ det * T c c by omega) (by omega), tmod_nn b.1]
  refine Ev.bind hv ?_
  have hSr : ∀ i j, i < n → j < n + n → 0 ≤ scT p T c v (n + n) i j ∧ scT p T c v (n + n) i j < p := fun i j hi hj => by
    unfold scT
    split
    · exact ⟨Int.emod_nonneg _ (by omega), Int.emod_lt_of_pos _ (by omega)⟩
    · exact GI.rng h i j hi hj
  have h5 := solve_l5 p hp hp2 n hn (scT p T c v (n + n)) hSr ((det * T c c) % p) c hc R hE n 0 (by omega) (by omega)
  have h4 := solve_l4 p hp hp2 n hn T (GI.rng h) ((det * T c c) % p) v ⟨v1, v2⟩ c hc R (Ev.congr (fun q => by
    congr 1
    refine vmr_congr fun r q hr hq => ?_
    unfold elT; rw [if_neg (by omega)]) h5) (n + n) 0 (by omega) (by omega)
  refine Ev.congr (fun q => ?_) h4
  congr 1
  refine vmr_congr fun r q hr hq => ?_
  unfold scT; rw [if_neg (by omega)]
theorem solve_l3 (p : Nat) (hpr : prN p = true) (hp : 2 ≤ p) (hp2 : p ≤ 101) (n : Nat) (hn : n ≤ 20) (M T : Nat → Nat → Int) (det : Int) (c : Nat) (hc : c < n) (h : GI p n M c T det)
    (next : ∀ T' det', GI p n M (c + 1) T' det' → ∃ R, SolveOK p n M R ∧ Ev (fun k => spec_l09Solve.l2 k p n det' (vmr n (n + n) T') ((c : Int) + 1)) R) :
    ∀ (d i : Nat), n - i = d → c ≤ i → i ≤ n → (∀ r, c ≤ r → r < i → T r c = 0) → ∃ R, SolveOK p n M R ∧ Ev (fun k => spec_l09Solve.l3 k p n det (vmr n (n + n) T) c i) R := by
  intro d
  induction d with
  | zero =>
    intro i hd hci hi hz
    obtain rfl : i = n := by omega
    refine ⟨([], 0), Or.inl ⟨rfl, GI.none h hc (fun r h1 h2 => hz r h1 h2)⟩, Ev.step (fun q => by simp only [spec_l09Solve.l3]; rfl) ?_⟩
    simp only [Int.lt_irrefl, if_false]
    refine Ev.step (fun q => by simp only [spec_l09Solve.j4]; rfl) ?_
    simp only [if_true]
    exact Ev.now _
  | succ d ih =>
    intro i hd hci hi hz
    have hin : i < n := by omega
    by_cases h0 : T i c = 0
    · obtain ⟨R, hR, hE⟩ := ih (i + 1) (by omega) (by omega) (by omega) (fun r h1 h2 => by
        by_cases hr : r = i
        · rw [hr]; exact h0
        · exact hz r h1 (by omega))
      refine ⟨R, hR, Ev.step (fun q => by simp only [spec_l09Solve.l3]; rfl) ?_⟩
      simp only [show ((i : Int) < (n : Int)) by omega, show (0 : Int) ≤ (i : Int) by omega, show (0 : Int) ≤ (c : Int) by omega, if_true, vmr_length, vmr_row hin, vrow_length, show ((c : Int) < ((n + n : Nat) : Int)) by omega, vrow_rd (show c < n + n by omega), h0, w64 (show -9223372036854775808 ≤ (i : Int) + 1 by omega) (by omega)]
      rw [show ((i + 1 : Nat) : Int) = (i : Int) + 1 by omega] at hE
      exact hE
    · have hj : ∃ R, SolveOK p n M R ∧ Ev (fun k => spec_l09Solve.j4 k p n det (vmr n (n + n) T) c i) R := by
        by_cases hic : i = c
        · subst hic
          obtain ⟨R, hR, hE⟩ := solve_j5 p hpr hp hp2 n hn M T det i hc h h0 next
          refine ⟨R, hR, Ev.step (fun q => by simp only [spec_l09Solve.j4]; rfl) ?_⟩
          simp only [show ¬ ((i : Int) = (n : Int)) by omega, if_false, if_true]
          exact hE
        · obtain ⟨R, hR, hE⟩ := solve_j5 p hpr hp hp2 n hn M (fun r => T (la_sw i c r)) ((-det) % p) c hc (GI.swap (by omega) h i (by omega) hin) (by
            show T (la_sw i c c) c ≠ 0
            unfold la_sw
            rw [if_neg (Ne.symm hic), if_pos rfl]; exact h0) next
          have hd := GI.dr h
          refine ⟨R, hR, Ev.step (fun q => by simp only [spec_l09Solve.j4]; rfl) ?_⟩
          simp only [show ¬ ((i : Int) = (n : Int)) by omega, show ¬ ((i : Int) = (c : Int)) by omega, if_false, show (0 : Int) ≤ (i : Int) by omega, show (0 : Int) ≤ (c : Int) by omega, if_true, vmr_length, show ((i : Int) < (n : Int)) by omega, show ((c : Int) < (n : Int)) by omega, w64 (show -9223372036854775808 ≤ -det by omega) (by omega), l09Mod_eq (show (0 : Int) < (p : Int) by omega) (by omega), Option.bind_some, swp_vmr n (n + n) T i c hin hc]
          exact hE
      obtain ⟨R, hR, hE⟩ := hj
      refine ⟨R, hR, Ev.step (fun q => by simp only [spec_l09Solve.l3]; rfl) ?_⟩
      simp only [show ((i : Int) < (n : Int)) by omega, show (0 : Int) ≤ (i : Int) by omega, show (0 : Int) ≤ (c : Int) by omega, if_true, vmr_length, vmr_row hin, vrow_length, show ((c : Int) < ((n + n : Nat) : Int)) by omega, vrow_rd (show c < n + n by omega), h0, if_false]
      exact hE
theorem solve_l2 (p : Nat) (hpr : prN p = true) (hp : 2 ≤ p) (hp2 : p ≤ 101) (n : Nat) (hn : n ≤ 20) (M : Nat → Nat → Int) : ∀ (d c : Nat), n - c = d → c ≤ n → ∀ T det, GI p n M c T det → ∃ R, SolveOK p n M R ∧ Ev (fun k => spec_l09Solve.l2 k p n det (vmr n (n + n) T) c) R := by
  intro d
  induction d with
  | zero =>
    intro c hd hc T det h
    obtain rfl : c = n := by omega
    obtain ⟨g1, g2⟩ := GI.last h
    refine ⟨(vmr c c (fun r j => T r (c + j)), det), Or.inr ⟨_, _, rfl, (GI.dr h).1, (GI.dr h).2, g1, fun i j hi hj => GI.rng h i (c + j) hi (by omega), g2⟩, Ev.step (fun q => by simp only [spec_l09Solve.l2]; rfl) ?_⟩
    simp only [Int.lt_irrefl, if_false]
    exact solve_l7 c hn T det c 0 (by omega) (by omega)
  | succ d ih =>
    intro c hd hc T det h
    have hcn : c < n := by omega
    obtain ⟨R, hR, hE⟩ := solve_l3 p hpr hp hp2 n hn M T det c hcn h (fun T' det' h' => by
      obtain ⟨R, hR, hE⟩ := ih (c + 1) (by omega) (by omega) T' det' h'
      rw [show ((c + 1 : Nat) : Int) = (c : Int) + 1 by omega] at hE
      exact ⟨R, hR, hE⟩) (n - c) c (by omega) (Nat.le_refl _) (by omega) (fun r h1 h2 => by omega)
    refine ⟨R, hR, Ev.step (fun q => by simp only [spec_l09Solve.l2]; rfl) ?_⟩
    simp only [show ((c : Int) < (n : Int)) by omega, if_true]
    exact hE
theorem eA_01 (l : List (List Int)) (e f : Nat) : eA l e f = 0 ∨ eA l e f = 1 := by unfold eA; split <;> omega
theorem l09Solve_ev {a : Int} {l : List (List Int)} (h : isG a l = true) (p : Nat) (hpr : prN p = true) (hp : 2 ≤ p) (hp2 : p ≤ 101) (u : Nat) (hu : u < p) : ∃ R, SolveOK p (2 * l.length) (gM u (eA l)) R ∧ Ev (fun k => spec_l09Solve.f k a l p u) R := by
  have hl := isG_len h
  obtain ⟨R, hR, hE⟩ := solve_l2 p hpr hp hp2 (2 * l.length) (by omega) (gM u (eA l)) (2 * l.length) 0 (by omega) (by omega) _ _ (GI.start (p := p) (by omega) u (2 * l.length) (eA l))
  refine ⟨R, hR, ?_⟩
  unfold spec_l09Solve.f
  refine Ev.bind (l09Rows_ev a l hl (isG_two h)) ?_
  simp only [show ¬ ((p : Int) = 0) by omega, if_false, w64 (show -9223372036854775808 ≤ 2 * (l.length : Int) by omega) (by omega), show 2 * (l.length : Int) = ((2 * l.length : Nat) : Int) by omega, edgeM_vmat]
  have h1 : (1 : Int) % (p : Int) = 1 := Int.emod_eq_of_lt (by omega) (by omega)
  rw [h1, w64 (show -9223372036854775808 ≤ ((2 * l.length : Nat) : Int) by omega) (by omega)]
  exact solve_l0 p hp hp2 u hu (2 * l.length) (by omega) (eA l) (eA_01 l) 1 R hE (2 * l.length) 0 (by omega) (by omega)
def valueC (a : Int) (l : List (List Int)) (p u : Int) : Int := if isG a l then (if prB 101 p then (if 0 ≤ u ∧ u ≤ p - 1 then 0 else 2) else 2) else 1
theorem valueC_zero {a : Int} {l : List (List Int)} {p u : Int} (h : valueC a l p u = 0) : isG a l = true ∧ prB 101 p = true ∧ 0 ≤ u ∧ u < p := by
  unfold valueC at h
  split at h
  · split at h
    · split at h
      · exact ⟨by assumption, by assumption, by omega, by omega⟩
      · omega
    · omega
  · omega
theorem valueCode_1_ev (a : Int) (l : List (List Int)) (p u : Int) (hl : l.length ≤ maxLen) : Ev (fun k => impl_valueCode_1.f k a l p u) (valueC a l p u) := by
  unfold impl_valueCode_1.f valueC
  refine Ev.bind (impl_IsGraph_ev a l hl) ?_
  cases h : isG a l with
  | false => simp only [Bool.false_eq_true, if_false]; exact Ev.now _
  | true =>
    simp only [if_true]
    refine Ev.bind (isSmallPrime_ev p) ?_
    cases hp : prB 101 p with
    | false => simp only [Bool.false_eq_true, if_false]; exact Ev.now _
    | true =>
      obtain ⟨q, rfl, h2, h3, _⟩ := prB_nat hp
      simp only [if_true, within_eq, Option.bind_some, w64 (show -9223372036854775808 ≤ (q : Int) - 1 by omega) (by omega)]
      by_cases h1 : 0 ≤ u ∧ u ≤ (q : Int) - 1
      · simp only [h1, decide_true, Bool.and_true, if_true, and_self]; exact Ev.now _
      · have hf : (decide (0 ≤ u) && decide (u ≤ (q : Int) - 1)) = false := by
          rw [Bool.eq_false_iff]
          intro hc
          simp only [Bool.and_eq_true, decide_eq_true_eq] at hc
          exact h1 hc
        simp only [h1, hf, Bool.false_eq_true, if_false]; exact Ev.now _
theorem valueCode_ev (a : Int) (l : List (List Int)) (p u : Int) (hl : l.length ≤ maxLen) : Ev (fun k => impl_valueCode.f k a l p u) (valueC a l p u) := by
  unfold impl_valueCode.f
  exact Ev.bind (valueCode_1_ev a l p u hl) (Ev.now _)
def valueCs (a : Int) (l : List (List Int)) (p : Int) (us : List Int) : Int := if isG a l then (if prB 101 p then (if us.all (fun u => decide (0 ≤ u) && decide (u ≤ p - 1)) = true then 0 else 2) else 2) else 1
theorem l09Code_l0 (p : Int) (hp : 2 ≤ p ∧ p ≤ 101) (us : List Int) (hu : us.length ≤ 1048576) : ∀ (d i : Nat), us.length - i = d → i ≤ us.length → Ev (fun k => spec_l09Code.l0 k p us i) (if (us.drop i).all (fun u => decide (0 ≤ u) && decide (u ≤ p - 1)) = true then 0 else 2) := by
  intro d
  induction d with
  | zero =>
    intro i hd hi
    obtain rfl : i = us.length := by omega
    refine Ev.step (fun q => by simp only [spec_l09Code.l0]; rfl) ?_
    rw [List.drop_length]
    simp only [Int.lt_irrefl, if_false, List.all_nil, if_true]
    exact Ev.now _
  | succ d ih =>
    intro i hd hi
    have hil : i < us.length := by omega
    refine Ev.step (fun q => by simp only [spec_l09Code.l0]; rfl) ?_
    rw [List.drop_eq_getElem_cons hil, List.all_cons]
    simp only [show ((i : Int) < (us.length : Int)) by omega, show (0 : Int) ≤ (i : Int) by omega, if_true, rd_nat us i hil, l01In_eq, Option.bind_some, w64 (show -9223372036854775808 ≤ p - 1 by omega) (by omega), w64 (show -9223372036854775808 ≤ (i : Int) + 1 by omega) (by omega)]
    cases h : (decide (0 ≤ us[i]) && decide (us[i] ≤ p - 1)) with
    | false => simp only [Bool.false_eq_true, if_false, Bool.false_and]; exact Ev.now _
    | true =>
      simp only [if_true, Bool.true_and]
      exact ih (i + 1) (by omega) (by omega)
theorem l09Code_ev (a : Int) (l : List (List Int)) (p : Int) (us : List Int) (hl : l.length ≤ maxLen) (hu : us.length ≤ 1048576) : Ev (fun k => spec_l09Code.f k a l p us) (valueCs a l p us) := by
  unfold spec_l09Code.f valueCs
  refine Ev.bind (spec_l01Is_ev a l hl) ?_
  cases h : isG a l with
  | false => simp only [Bool.false_eq_true, if_false]; exact Ev.now _
  | true =>
    simp only [if_true]
    refine Ev.bind (l09Prime_ev p) ?_
    cases hp : prB 101 p with
    | false => simp only [Bool.false_eq_true, if_false]; exact Ev.now _
    | true =>
      obtain ⟨q, rfl, h2, h3, _⟩ := prB_nat hp
      simp only [if_true]
      exact l09Code_l0 q ⟨by omega, h3⟩ us hu us.length 0 (by omega) (by omega)
theorem valueCs_one (a : Int) (l : List (List Int)) (p u : Int) : valueCs a l p [u] = valueC a l p u := by
  unfold valueCs valueC
  simp only [List.all_cons, List.all_nil, Bool.and_true, Bool.and_eq_true, decide_eq_true_eq]
def nzP (c : Int) (x : List Int) : Option Bool := if 0 ≤ c then (if c < (x.length : Int) then some (rd x c != 0) else none) else none
theorem nzP_row (n c : Nat) (hc : c < n) (g : Nat → Int) : nzP (c : Int) (vrow n g) = some (g c != 0) := by
  unfold nzP
  rw [if_pos (by omega), if_pos (by rw [vrow_length]; omega), vrow_rd hc]
theorem sw_comm (i c r : Nat) : la_sw i c r = la_sw c i r := by unfold la_sw; (repeat' split) <;> omega
/-- How many ways to choose. -/
def chs : Nat → Nat → Nat
  | _, 0 => 1
  | 0, _ + 1 => 0
  | n + 1, k + 1 => chs n k + chs n (k + 1)
theorem chs_gt : ∀ n k, n < k → chs n k = 0
  | 0, 0, h => by omega
  | 0, _ + 1, _ => rfl
  | _ + 1, 0, h => by omega
  | n + 1, k + 1, h => by
    show chs n k + chs n (k + 1) = 0
    rw [chs_gt n k (by omega), chs_gt n (k + 1) (by omega)]
theorem chs_self : ∀ n, chs n n = 1
  | 0 => rfl
  | n + 1 => by
    show chs n n + chs n (n + 1) = 1
    rw [chs_self n, chs_gt n (n + 1) (by omega)]
theorem chs_zero (n : Nat) : chs n 0 = 1 := by cases n <;> rfl
theorem chs_mul : ∀ n k, (k + 1) * chs (n + 1) (k + 1) = (n + 1) * chs n k
  | 0, 0 => rfl
  | 0, k + 1 => by
    show (k + 1 + 1) * (chs 0 (k + 1) + chs 0 (k + 1 + 1)) = _
    simp [chs]
  | n + 1, 0 => by
    have h := chs_mul n 0
    rw [chs_zero] at h
    show (0 + 1) * (chs (n + 1) 0 + chs (n + 1) (0 + 1)) = (n + 1 + 1) * chs (n + 1) 0
    rw [chs_zero]
    omega
  | n + 1, j + 1 => by
    have h1 := chs_mul n j
    have h2 := chs_mul n (j + 1)
    show (j + 1 + 1) * (chs (n + 1) (j + 1) + chs (n + 1) (j + 1 + 1)) = (n + 1 + 1) * chs (n + 1) (j + 1)
    rw [Nat.mul_add, h2, Nat.add_mul (j + 1) 1, h1, Nat.add_mul (n + 1) 1]
    have h3 : chs (n + 1) (j + 1) = chs n j + chs n (j + 1) := rfl
    have h4 : (n + 1) * chs (n + 1) (j + 1) = (n + 1) * chs n j + (n + 1) * chs n (j + 1) := by rw [h3, Nat.mul_add]
    omega
theorem binom (a : Int) : ∀ n : Nat, (a + 1) ^ n = la_sm (n + 1) (fun k => (chs n k : Int) * a ^ k)
  | 0 => by simp [la_sm, chs]
  | n + 1 => by
    have ih := binom a n
    rw [Int.pow_succ, ih, Int.mul_add, Int.mul_one, la_sm_succ' (n + 1)]
    have e1 : la_sm (n + 1) (fun i => (chs (n + 1) (i + 1) : Int) * a ^ (i + 1)) = la_sm (n + 1) (fun i => (chs n i : Int) * a ^ i) * a + la_sm (n + 1) (fun i => (chs n (i + 1) : Int) * a ^ (i + 1)) := by
      rw [Int.mul_comm _ a, ← la_sm_mul, ← la_sm_add]
      refine la_sm_congr (fun i _ => ?_)
      show ((chs n i + chs n (i + 1) : Nat) : Int) * a ^ (i + 1) = _
      rw [Int.natCast_add, Int.add_mul, Int.pow_succ]
      congr 1
      rw [Int.mul_comm (a ^ i) a, Int.mul_left_comm]
    have e2 : la_sm (n + 1) (fun k => (chs n k : Int) * a ^ k) = (chs n 0 : Int) * a ^ 0 + la_sm (n + 1) (fun i => (chs n (i + 1) : Int) * a ^ (i + 1)) := by
      have h := la_sm_succ' (n + 1) (fun k => (chs n k : Int) * a ^ k)
      have h2 : la_sm (n + 1 + 1) (fun k => (chs n k : Int) * a ^ k) = la_sm (n + 1) (fun k => (chs n k : Int) * a ^ k) + (chs n (n + 1) : Int) * a ^ (n + 1) := rfl
      rw [chs_gt n (n + 1) (by omega)] at h2
      rw [h2] at h
      simpa using h
    rw [e1]
    have e3 : ((chs (n + 1) 0 : Nat) : Int) * a ^ 0 = (chs n 0 : Int) * a ^ 0 := by rw [chs_zero, chs_zero]
    rw [e3]
    omega
theorem chs_prime {p : Nat} (hp : prN p = true) (hp2 : 2 ≤ p) (k : Nat) (h0 : 0 < k) (hk : k < p) : (p : Int) ∣ (chs p k : Int) := by
  obtain ⟨c, hc⟩ := inv_ex hp hp2 k h0 hk
  obtain ⟨q, rfl⟩ : ∃ q, p = q + 1 := ⟨p - 1, by omega⟩
  obtain ⟨j, rfl⟩ : ∃ j, k = j + 1 := ⟨k - 1, by omega⟩
  have h := chs_mul q j
  have h2 : ((j + 1 : Nat) : Int) * (chs (q + 1) (j + 1) : Int) = ((q + 1 : Nat) : Int) * (chs q j : Int) := by rw [← Int.natCast_mul, h, Int.natCast_mul]
  obtain ⟨x, hx⟩ := hc
  refine ⟨c * (chs q j : Int) - x * (chs (q + 1) (j + 1) : Int), ?_⟩
  have e : (chs (q + 1) (j + 1) : Int) = c * ((j + 1 : Nat) : Int) * (chs (q + 1) (j + 1) : Int) - ((q + 1 : Nat) : Int) * x * (chs (q + 1) (j + 1) : Int) := by
    rw [← Int.sub_mul, ← hx]
    rw [show c * ((j + 1 : Nat) : Int) - (c * ((j + 1 : Nat) : Int) - 1) = 1 by omega, Int.one_mul]
  rw [Int.mul_assoc, h2] at e
  rw [Int.mul_sub, ← Int.mul_assoc ((q + 1 : Nat) : Int) x]
  rw [Int.mul_left_comm ((q + 1 : Nat) : Int) c]
  exact e
theorem fermat {p : Nat} (hp : prN p = true) (hp2 : 2 ≤ p) : ∀ a : Nat, (p : Int) ∣ (a : Int) ^ p - a
  | 0 => by
    obtain ⟨q, rfl⟩ : ∃ q, p = q + 1 := ⟨p - 1, by omega⟩
    rw [Int.pow_succ]
    exact ⟨0, by simp⟩
  | a + 1 => by
    have ih := fermat hp hp2 a
    have h := binom (a : Int) p
    obtain ⟨q, rfl⟩ : ∃ q, p = q + 1 := ⟨p - 1, by omega⟩
    have h1 : la_sm (q + 1 + 1) (fun k => (chs (q + 1) k : Int) * (a : Int) ^ k) = la_sm (q + 1) (fun k => (chs (q + 1) k : Int) * (a : Int) ^ k) + (chs (q + 1) (q + 1) : Int) * (a : Int) ^ (q + 1) := rfl
    rw [h1, la_sm_succ', chs_self, chs_zero] at h
    have h2 : ((q + 1 : Nat) : Int) ∣ la_sm q (fun i => (chs (q + 1) (i + 1) : Int) * (a : Int) ^ (i + 1)) - la_sm q (fun _ => 0) :=
      la_sm_dvd (fun i hi => by
        rw [Int.sub_zero]
        exact Int.dvd_trans (chs_prime hp hp2 (i + 1) (by omega) (by omega)) ⟨(a : Int) ^ (i + 1), rfl⟩)
    rw [la_sm_zero (fun _ _ => rfl), Int.sub_zero] at h2
    have h3 := Int.dvd_add h2 ih
    rw [show ((a + 1 : Nat) : Int) = (a : Int) + 1 by omega, h]
    simp only [Int.pow_zero, Int.mul_one, Int.one_mul, Int.natCast_one]
    generalize la_sm q (fun i => (chs (q + 1) (i + 1) : Int) * (a : Int) ^ (i + 1)) = S at h3 ⊢
    generalize (a : Int) ^ (q + 1) = P at h3 ⊢
    rw [show 1 + S + P - ((a : Int) + 1) = S + (P - a) by omega]
    exact h3
theorem fermat_inv {p : Nat} (hp : prN p = true) (hp2 : 2 ≤ p) (a : Nat) (h0 : 0 < a) (ha : a < p) : (p : Int) ∣ (a : Int) * (a : Int) ^ (p - 2) - 1 := by
  have h := fermat hp hp2 a
  obtain ⟨k, hk⟩ := inv_ex hp hp2 a h0 ha
  obtain ⟨q, rfl⟩ : ∃ q, p = q + 2 := ⟨p - 2, by omega⟩
  rw [show q + 2 - 2 = q by omega]
  rw [Int.pow_succ, Int.pow_succ, show (a : Int) ^ q * a * a = a * ((a : Int) * (a : Int) ^ q) by rw [Int.mul_comm, Int.mul_comm ((a : Int) ^ q) a]] at h
  generalize (a : Int) * (a : Int) ^ q = X at h ⊢
  generalize ((q + 2 : Nat) : Int) = P at h hk ⊢
  have e1 : P ∣ k * (a * X - a) := Int.dvd_trans h ⟨k, by rw [Int.mul_comm]⟩
  have e2 : P ∣ (k * a - 1) * (X - 1) := Int.dvd_trans hk ⟨X - 1, rfl⟩
  have e3 := Int.dvd_sub e1 e2
  rw [show k * (a * X - a) - (k * a - 1) * (X - 1) = X - 1 by
    simp only [Int.mul_sub, Int.sub_mul, Int.one_mul, Int.mul_one, Int.mul_assoc]; omega] at e3
  exact e3
theorem pow_dvd {p a b : Int} (h : p ∣ a - b) : ∀ n : Nat, p ∣ a ^ n - b ^ n
  | 0 => ⟨0, by simp⟩
  | n + 1 => by rw [Int.pow_succ, Int.pow_succ]; exact la_mul_dvd_sub (pow_dvd h n) h
theorem inverse_l0 (p : Nat) (hp : 2 ≤ p) (hp2 : p ≤ 1000000) : ∀ (k : Nat) (x y : Int), (k : Int) ≤ 1000000 → 0 ≤ x ∧ x < p → 0 ≤ y ∧ y < p → ∃ r : Int, Ev (fun q => impl_inverse.l0 q x p y k) r ∧ (0 ≤ r ∧ r < p) ∧ (p : Int) ∣ r - y * x ^ k := by
  have hem := fun x : Int => And.intro (Int.emod_nonneg x (show (p : Int) ≠ 0 by omega)) (Int.emod_lt_of_pos x (show (0 : Int) < p by omega))
  have hb : ∀ x y : Int, 0 ≤ x ∧ x < p → 0 ≤ y ∧ y < p → Int.tmod (wrap64 (x * y)) p = (x * y) % p := fun x y hx hy => by
    have h1 : x * y ≤ 1000000 * 1000000 := Int.mul_le_mul (by omega) (by omega) (by omega) (by omega)
    have h2 : 0 ≤ x * y := Int.mul_nonneg hx.1 hy.1
    rw [w64 (by omega) (by omega), tmod_nn h2]
  intro k
  induction k using Nat.strongRecOn with
  | _ k ih =>
    intro x y hk hx hy
    by_cases h0 : k = 0
    · subst h0
      refine ⟨y, Ev.step (fun q => by simp only [impl_inverse.l0]; rfl) ?_, hy, ⟨0, by simp⟩⟩
      simp only [show ¬ (((0 : Nat) : Int) > 0) by omega, if_false]
      exact Ev.now _
    · have hx2 := hem (x * x)
      have ht : wrap64 (Int.tdiv (k : Int) 2) = ((k / 2 : Nat) : Int) := by
        rw [show Int.tdiv (k : Int) 2 = ((k / 2 : Nat) : Int) from rfl]
        exact w64 (by omega) (by omega)
      by_cases h1 : (k : Int) % 2 = 1
      · obtain ⟨r, h2, h3, h4⟩ := ih (k / 2) (by omega) ((x * x) % p) ((y * x) % p) (by omega) hx2 (hem _)
        refine ⟨r, Ev.step (fun q => by simp only [impl_inverse.l0]; rfl) ?_, h3, ?_⟩
        · simp only [show ((k : Int) > 0) by omega, if_true, show Int.tmod (k : Int) 2 = (k : Int) % 2 from tmod_nn (by omega), h1, show ¬ ((p : Int) = 0) by omega, if_false, hb x x hx hx, hb y x hy hx, ht]
          exact h2
        · have e1 := la_mul_dvd_sub (dvd_mod p (y * x)) (pow_dvd (dvd_mod p (x * x)) (k / 2))
          have e2 := dvd_tr h4 e1
          have e3 : y * x * (x * x) ^ (k / 2) = y * x ^ k := by
            rw [Int.mul_assoc]
            congr 1
            rw [show (x * x) ^ (k / 2) = x ^ (2 * (k / 2)) by rw [Int.pow_mul]; congr 1; simp [Int.pow_succ]]
            rw [Int.mul_comm, ← Int.pow_succ]
            congr 1
            omega
          rw [e3] at e2
          exact e2
      · obtain ⟨r, h2, h3, h4⟩ := ih (k / 2) (by omega) ((x * x) % p) y (by omega) hx2 hy
        refine ⟨r, Ev.step (fun q => by simp only [impl_inverse.l0]; rfl) ?_, h3, ?_⟩
        · simp only [show ((k : Int) > 0) by omega, if_true, show Int.tmod (k : Int) 2 = (k : Int) % 2 from tmod_nn (by omega), h1, show ¬ ((p : Int) = 0) by omega, if_false, hb x x hx hx, ht]
          exact h2
        · have e1 := la_mul_dvd_sub (show (p : Int) ∣ y - y from ⟨0, by omega⟩) (pow_dvd (dvd_mod p (x * x)) (k / 2))
          have e2 := dvd_tr h4 e1
          have e3 : y * (x * x) ^ (k / 2) = y * x ^ k := by
            congr 1
            rw [show (x * x) ^ (k / 2) = x ^ (2 * (k / 2)) by rw [Int.pow_mul]; congr 1; simp [Int.pow_succ]]
            congr 1
            omega
          rw [e3] at e2
          exact e2
theorem inverse_ev {p : Nat} (hp : prN p = true) (hp2 : 2 ≤ p) (hp3 : p ≤ 1000000) (x : Int) (hx : 0 < x ∧ x < p) : ∃ v : Int, Ev (fun k => impl_inverse.f k x p) v ∧ (0 ≤ v ∧ v < p) ∧ (x * v) % p = 1 := by
  obtain ⟨r, h1, h2, h3⟩ := inverse_l0 p hp2 hp3 (p - 2) x 1 (by omega) (by omega) (by omega)
  refine ⟨r, ?_, h2, ?_⟩
  · unfold impl_inverse.f
    rw [w64 (show -9223372036854775808 ≤ (p : Int) - 2 by omega) (by omega), show (p : Int) - 2 = ((p - 2 : Nat) : Int) by omega]
    exact h1
  · obtain ⟨a, rfl⟩ := Int.eq_ofNat_of_zero_le (show 0 ≤ x by omega)
    have h4 := fermat_inv hp hp2 a (by omega) (by omega)
    rw [Int.one_mul] at h3
    have h5 := dvd_tr (la_mul_dvd_sub (show (p : Int) ∣ (a : Int) - a from ⟨0, by omega⟩) h3) h4
    have h6 : ((a : Int) * r) % p = 1 % p := Int.emod_eq_emod_iff_emod_sub_eq_zero.2 (Int.emod_eq_zero_of_dvd h5)
    rw [h6]
    exact Int.emod_eq_of_lt (by omega) (by omega)
theorem rs_l1 (p : Nat) (hp : 2 ≤ p) (hp2 : p ≤ 101) (u : Nat) (hu : u < p) (n : Nat) (hn : n ≤ 20) (A : Nat → Nat → Int) (hA : ∀ i j, A i j = 0 ∨ A i j = 1) (i : Nat) (hi : i < n) (R : List (List Int) × Bool)
    (next : Ev (fun k => impl_Graph_resolvent.l0 k p u (vmr (i + 1) (n + n) (gT p u n A)) n (vmat n A) n ((i : Int) + 1)) R) :
    ∀ (d j : Nat), n - j = d → j ≤ n → Ev (fun k => impl_Graph_resolvent.l1 k p u (vmr i (n + n) (gT p u n A)) n i (vrow (n + n) (fun q => if q < j then (-(u : Int) * A i q) % p else 0)) (vmat n A) n i n j) R := by
  have hem := fun x : Int => And.intro (Int.emod_nonneg x (show (p : Int) ≠ 0 by omega)) (Int.emod_lt_of_pos x (show (0 : Int) < p by omega))
  intro d
  induction d with
  | zero =>
    intro j hd hj
    obtain rfl : j = n := by omega
    refine Ev.step (fun q => by simp only [impl_Graph_resolvent.l1]; rfl) ?_
    have hg : rd (vrow (j + j) (fun q => if q < j then (-(u : Int) * A i q) % p else 0)) (i : Int) = (-(u : Int) * A i i) % p := by rw [vrow_rd (by omega), if_pos hi]
    have he := hem (-(u : Int) * A i i)
    simp only [Int.lt_irrefl, if_false, show (0 : Int) ≤ (i : Int) by omega, if_true, vrow_length, show ((i : Int) < ((j + j : Nat) : Int)) by omega, show ¬ ((p : Int) = 0) by omega, hg, show (j : Int) + (i : Int) = ((j + i : Nat) : Int) by omega, w64 (show -9223372036854775808 ≤ ((j + i : Nat) : Int) by omega) (by omega), show (0 : Int) ≤ ((j + i : Nat) : Int) by omega, show ((j + i : Nat) : Int) < ((j + j : Nat) : Int) by omega, Int.toNat_natCast, vrow_set, vmr_length, show i < 5864062014805 by omega, w64 (show -9223372036854775808 ≤ (i : Int) + 1 by omega) (by omega), w64 (show -9223372036854775808 ≤ (-(u : Int) * A i i) % p + 1 by omega) (by omega), tmod_nn (show 0 ≤ (-(u : Int) * A i i) % p + 1 by omega)]
    refine Ev.congr (fun q => ?_) next
    rw [← vmr_snoc]
    congr 2
    congr 1
    refine vrow_congr fun q hq => ?_
    unfold gT
    by_cases h1 : q < j
    · by_cases h2 : q = i
      · subst h2; simp only [h1, show q ≠ j + q by omega, if_true, if_false]
      · simp only [h1, h2, show q ≠ j + i by omega, if_true, if_false]
    · by_cases h2 : q = j + i
      · subst h2; simp only [h1, if_true, if_false]
      · simp only [h1, h2, show q ≠ i by omega, if_false]
  | succ d ih =>
    intro j hd hj
    have hjn : j < n := by omega
    refine Ev.step (fun q => by simp only [impl_Graph_resolvent.l1]; rfl) ?_
    have ha : wrap64 (wrap64 (-(u : Int)) * A i j) = -(u : Int) * A i j := by
      rw [w64 (show -9223372036854775808 ≤ -(u : Int) by omega) (by omega)]
      rcases hA i j with h | h
      · rw [h]; simp [wrap64]
      · rw [h, Int.mul_one]; exact w64 (by omega) (by omega)
    simp only [show ((j : Int) < (n : Int)) by omega, show (0 : Int) ≤ (i : Int) by omega, show (0 : Int) ≤ (j : Int) by omega, vmat_length, show ((i : Int) < (n : Int)) by omega, if_true, vmat_row hi, vrow_length, vrow_rd hjn, ha, modulo_eq (show (0 : Int) < (p : Int) by omega) (by omega), Option.bind_some, show ((j : Int) < ((n + n : Nat) : Int)) by omega, Int.toNat_natCast, vrow_set, w64 (show -9223372036854775808 ≤ (j : Int) + 1 by omega) (by omega)]
    refine Ev.congr (fun q => ?_) (ih (j + 1) (by omega) (by omega))
    rw [show ((j + 1 : Nat) : Int) = (j : Int) + 1 by omega]
    congr 1
    refine vrow_congr fun q hq => ?_
    by_cases h1 : q = j
    · subst h1; rw [if_pos rfl, if_pos (by omega)]
    · rw [if_neg h1]
      by_cases h2 : q < j
      · rw [if_pos h2, if_pos (by omega)]
      · rw [if_neg h2, if_neg (by omega)]
theorem rs_l0 (p : Nat) (hp : 2 ≤ p) (hp2 : p ≤ 101) (u : Nat) (hu : u < p) (n : Nat) (hn : n ≤ 20) (A : Nat → Nat → Int) (hA : ∀ i j, A i j = 0 ∨ A i j = 1) (R : List (List Int) × Bool)
    (next : Ev (fun k => impl_Graph_resolvent.l2 k p (vmr n (n + n) (gT p u n A)) n n 0) R) :
    ∀ (d i : Nat), n - i = d → i ≤ n → Ev (fun k => impl_Graph_resolvent.l0 k p u (vmr i (n + n) (gT p u n A)) n (vmat n A) n i) R := by
  intro d
  induction d with
  | zero =>
    intro i hd hi
    obtain rfl : i = n := by omega
    refine Ev.step (fun q => by simp only [impl_Graph_resolvent.l0]; rfl) ?_
    simp only [Int.lt_irrefl, if_false]
    exact next
  | succ d ih =>
    intro i hd hi
    have hin : i < n := by omega
    refine Ev.step (fun q => by simp only [impl_Graph_resolvent.l0]; rfl) ?_
    simp only [show ((i : Int) < (n : Int)) by omega, show (0 : Int) ≤ (i : Int) by omega, vmat_length, if_true, show (2 : Int) * (n : Int) = ((n + n : Nat) : Int) by omega, w64 (show -9223372036854775808 ≤ ((n + n : Nat) : Int) by omega) (by omega), show (0 : Int) ≤ ((n + n : Nat) : Int) by omega, Int.toNat_natCast, show n + n ≤ 35184372088832 by omega, vmat_row hin, vrow_length]
    have h := ih (i + 1) (by omega) (by omega)
    rw [show ((i + 1 : Nat) : Int) = (i : Int) + 1 by omega] at h
    have h2 := rs_l1 p hp hp2 u hu n hn A hA i hin R h n 0 (by omega) (by omega)
    refine Ev.congr (fun q => ?_) h2
    congr 1
    apply List.ext_getElem
    · simp [vrow]
    · intro q _ _; simp [vrow]
theorem rs_l6 (n : Nat) (hn : n ≤ 20) (T : Nat → Nat → Int) : ∀ (d i : Nat), n - i = d → i ≤ n → Ev (fun k => impl_Graph_resolvent.l6 k (vmr n (n + n) T) n (vmr i n (fun r j => T r (n + j))) n i) (vmr n n (fun r j => T r (n + j)), true) := by
  intro d
  induction d with
  | zero =>
    intro i hd hi
    obtain rfl : i = n := by omega
    refine Ev.step (fun q => by simp only [impl_Graph_resolvent.l6]; rfl) ?_
    simp only [Int.lt_irrefl, if_false]
    exact Ev.now _
  | succ d ih =>
    intro i hd hi
    have hin : i < n := by omega
    refine Ev.step (fun q => by simp only [impl_Graph_resolvent.l6]; rfl) ?_
    simp only [show ((i : Int) < (n : Int)) by omega, show (0 : Int) ≤ (i : Int) by omega, if_true, vmr_length, vmr_row hin, vrow_length, show (0 : Int) ≤ (n : Int) by omega, show ((n : Int) ≤ ((n + n : Nat) : Int)) by omega, Int.toNat_natCast, vrow_drop, Option.bind_some, show i < 5864062014805 by omega, w64 (show -9223372036854775808 ≤ (i : Int) + 1 by omega) (by omega)]
    have h := ih (i + 1) (by omega) (by omega)
    rw [show ((i + 1 : Nat) : Int) = (i : Int) + 1 by omega, ← vmr_snoc] at h
    exact h
theorem rs_l5 (p : Nat) (hp : 2 ≤ p) (hp2 : p ≤ 101) (n : Nat) (hn : n ≤ 20) (S : Nat → Nat → Int) (hS : ∀ i j, i < n → j < n + n → 0 ≤ S i j ∧ S i j < p) (c : Nat) (hc : c < n) (i : Nat) (hi : i < n) (hic : i ≠ c) (R : List (List Int) × Bool)
    (next : Ev (fun k => impl_Graph_resolvent.l4 k p (vmr n (n + n) (elT p S c (i + 1) 0)) n n c n ((i : Int) + 1) c) R) :
    ∀ (d j : Nat), n + n - j = d → j ≤ n + n → Ev (fun k => impl_Graph_resolvent.l5 k p (vmr n (n + n) (elT p S c i j)) n i (S i c) n c n i ((n + n : Nat) : Int) j c) R := by
  intro d
  induction d with
  | zero =>
    intro j hd hj
    obtain rfl : j = n + n := by omega
    refine Ev.step (fun q => by simp only [impl_Graph_resolvent.l5]; rfl) ?_
    simp only [Int.lt_irrefl, if_false, w64 (show -9223372036854775808 ≤ (i : Int) + 1 by omega) (by omega)]
    refine Ev.congr (fun q => ?_) next
    congr 1
    refine vmr_congr fun r q hr hq => ?_
    unfold elT
    by_cases h1 : r ≠ c ∧ (r < i ∨ r = i ∧ q < n + n)
    · rw [if_pos h1, if_pos ⟨h1.1, by omega⟩]
    · rw [if_neg h1, if_neg (by omega)]
  | succ d ih =>
    intro j hd hj
    have hj2 : j < n + n := by omega
    refine Ev.step (fun q => by simp only [impl_Graph_resolvent.l5]; rfl) ?_
    have e1 : elT p S c i j i j = S i j := by unfold elT; rw [if_neg (by omega)]
    have e2 : elT p S c i j c j = S c j := by unfold elT; rw [if_neg (by omega)]
    have b1 := hS i j hi hj2
    have b2 := em_small (show (0 : Int) < p by omega) (by omega) (hS i c hi (by omega)) (hS c j hc hj2)
    simp only [show ((j : Int) < ((n + n : Nat) : Int)) by omega, show (0 : Int) ≤ (j : Int) by omega, show (0 : Int) ≤ (c : Int) by omega, if_true, vmr_length, show ((c : Int) < (n : Int)) by omega, vmr_row hi, vmr_row hc, vrow_length, vrow_rd hj2, e1, e2, w64 (show -9223372036854775808 ≤ S i c * S c j by omega) (by omega), w64 (show -9223372036854775808 ≤ S i j - S i c * S c j by omega) (by omega), modulo_eq (show (0 : Int) < (p : Int) by omega) (by omega), Option.bind_some, Int.toNat_natCast, vrow_set, vmr_set, w64 (show -9223372036854775808 ≤ (j : Int) + 1 by omega) (by omega)]
    refine Ev.congr (fun q => ?_) (ih (j + 1) (by omega) (by omega))
    rw [show ((j + 1 : Nat) : Int) = (j : Int) + 1 by omega]
    congr 1
    refine vmr_congr fun r q hr hq => ?_
    by_cases h1 : r = i
    · subst h1
      rw [if_pos rfl]
      by_cases h2 : q = j
      · subst h2
        rw [if_pos rfl]
        unfold elT; rw [if_pos ⟨hic, by omega⟩]
      · rw [if_neg h2]
        unfold elT
        by_cases h3 : q < j
        · rw [if_pos ⟨hic, by omega⟩, if_pos ⟨hic, by omega⟩]
        · rw [if_neg (by omega), if_neg (by omega)]
    · rw [if_neg h1]
      unfold elT
      by_cases h3 : r ≠ c ∧ r < i
      · rw [if_pos ⟨h3.1, by omega⟩, if_pos ⟨h3.1, by omega⟩]
      · rw [if_neg (by omega), if_neg (by omega)]
theorem rs_l4 (p : Nat) (hp : 2 ≤ p) (hp2 : p ≤ 101) (n : Nat) (hn : n ≤ 20) (S : Nat → Nat → Int) (hS : ∀ i j, i < n → j < n + n → 0 ≤ S i j ∧ S i j < p) (c : Nat) (hc : c < n) (R : List (List Int) × Bool)
    (next : Ev (fun k => impl_Graph_resolvent.l2 k p (vmr n (n + n) (elT p S c n 0)) n n ((c : Int) + 1)) R) :
    ∀ (d i : Nat), n - i = d → i ≤ n → Ev (fun k => impl_Graph_resolvent.l4 k p (vmr n (n + n) (elT p S c i 0)) n n c n i c) R := by
  intro d
  induction d with
  | zero =>
    intro i hd hi
    obtain rfl : i = n := by omega
    refine Ev.step (fun q => by simp only [impl_Graph_resolvent.l4]; rfl) ?_
    simp only [Int.lt_irrefl, if_false, w64 (show -9223372036854775808 ≤ (c : Int) + 1 by omega) (by omega)]
    exact next
  | succ d ih =>
    intro i hd hi
    have hin : i < n := by omega
    refine Ev.step (fun q => by simp only [impl_Graph_resolvent.l4]; rfl) ?_
    have e1 : elT p S c i 0 i c = S i c := by unfold elT; rw [if_neg (by omega)]
    have h := ih (i + 1) (by omega) (by omega)
    rw [show ((i + 1 : Nat) : Int) = (i : Int) + 1 by omega] at h
    simp only [show ((i : Int) < (n : Int)) by omega, show (0 : Int) ≤ (i : Int) by omega, show (0 : Int) ≤ (c : Int) by omega, if_true, vmr_length, vmr_row hin, vrow_length, show ((c : Int) < ((n + n : Nat) : Int)) by omega, vrow_rd (show c < n + n by omega), e1, w64 (show -9223372036854775808 ≤ (i : Int) + 1 by omega) (by omega)]
    by_cases hic : i = c
    · subst hic
      simp only [if_true]
      refine Ev.congr (fun q => ?_) h
      congr 1
      refine vmr_congr fun r q hr hq => ?_
      unfold elT
      by_cases h1 : r ≠ i ∧ (r < i ∨ r = i ∧ q < 0)
      · rw [if_pos h1, if_pos ⟨h1.1, by omega⟩]
      · rw [if_neg h1, if_neg (by omega)]
    · have hci : ¬ ((i : Int) = (c : Int)) := by omega
      simp only [hci, if_false]
      by_cases h0 : S i c = 0
      · simp only [h0, if_true]
        refine Ev.congr (fun q => ?_) h
        congr 1
        refine vmr_congr fun r q hr hq => ?_
        unfold elT
        by_cases h1 : r ≠ c ∧ (r < i ∨ r = i ∧ q < 0)
        · rw [if_pos h1, if_pos ⟨h1.1, by omega⟩]
        · rw [if_neg h1]
          by_cases h2 : r = i
          · subst h2
            rw [if_pos ⟨hic, by omega⟩, h0, Int.zero_mul, Int.sub_zero]
            have b := hS r q hr hq
            exact (Int.emod_eq_of_lt b.1 b.2).symm
          · rw [if_neg (by omega)]
      · simp only [h0, if_false]
        exact rs_l5 p hp hp2 n hn S hS c hc i hin hic R h (n + n) 0 (by omega) (by omega)
theorem rs_l3 (p : Nat) (hp : 2 ≤ p) (hp2 : p ≤ 101) (n : Nat) (hn : n ≤ 20) (T : Nat → Nat → Int) (hT : ∀ i j, i < n → j < n + n → 0 ≤ T i j ∧ T i j < p) (v : Int) (hv : 0 ≤ v ∧ v < p) (c : Nat) (hc : c < n) (R : List (List Int) × Bool)
    (next : Ev (fun k => impl_Graph_resolvent.l4 k p (vmr n (n + n) (scT p T c v (n + n))) n n c n 0 c) R) :
    ∀ (d j : Nat), n + n - j = d → j ≤ n + n → Ev (fun k => impl_Graph_resolvent.l3 k p (vmr n (n + n) (scT p T c v j)) n v n c ((n + n : Nat) : Int) j c) R := by
  intro d
  induction d with
  | zero =>
    intro j hd hj
    obtain rfl : j = n + n := by omega
    refine Ev.step (fun q => by simp only [impl_Graph_resolvent.l3]; rfl) ?_
    simp only [Int.lt_irrefl, if_false, vmr_length]
    exact next
  | succ d ih =>
    intro j hd hj
    have hj2 : j < n + n := by omega
    refine Ev.step (fun q => by simp only [impl_Graph_resolvent.l3]; rfl) ?_
    have e1 : scT p T c v j c j = T c j := by unfold scT; rw [if_neg (by omega)]
    have b2 := em_small (show (0 : Int) < p by omega) (by omega) (hT c j hc hj2) hv
    simp only [show ((j : Int) < ((n + n : Nat) : Int)) by omega, if_true, show (0 : Int) ≤ (c : Int) by omega, show (0 : Int) ≤ (j : Int) by omega, vmr_length, show ((c : Int) < (n : Int)) by omega, vmr_row hc, vrow_length, vrow_rd hj2, e1, show ¬ ((p : Int) = 0) by omega, if_false, w64 (show -9223372036854775808 ≤ T c j * v by omega) (by omega), tmod_nn b2.1, Int.toNat_natCast, vrow_set, vmr_set, w64 (show -9223372036854775808 ≤ (j : Int) + 1 by omega) (by omega)]
    refine Ev.congr (fun q => ?_) (ih (j + 1) (by omega) (by omega))
    rw [show ((j + 1 : Nat) : Int) = (j : Int) + 1 by omega]
    congr 1
    refine vmr_congr fun r q hr hq => ?_
    by_cases h1 : r = c
    · subst h1
      rw [if_pos rfl]
      by_cases h2 : q = j
      · subst h2
        rw [if_pos rfl]
        unfold scT; rw [if_pos ⟨rfl, by omega⟩]
      · rw [if_neg h2]
        unfold scT
        by_cases h3 : q < j
        · rw [if_pos ⟨rfl, h3⟩, if_pos ⟨rfl, by omega⟩]
        · rw [if_neg (by omega), if_neg (by omega)]
    · rw [if_neg h1]
      unfold scT
      rw [if_neg (by omega), if_neg (by omega)]
theorem rsx_eq (k : Nat) (l : List (List Int)) (c : Int) : impl_Graph_resolvent_1.f k l c = idxM (nzP c) l 0 := rfl
theorem rs_idx (n m : Nat) (T : Nat → Nat → Int) (c : Nat) (hc : c < m) : ∀ (d r z : Nat), n - r = d → r ≤ n →
    (∃ i, r ≤ i ∧ i < n ∧ T i c ≠ 0 ∧ idxM (nzP (c : Int)) ((vmr n m T).drop r) z = some ((z + (i - r) : Nat) : Int)) ∨
    ((∀ i, r ≤ i → i < n → T i c = 0) ∧ idxM (nzP (c : Int)) ((vmr n m T).drop r) z = some (-1)) := by
  intro d
  induction d with
  | zero =>
    intro r z hd hr
    refine .inr ⟨fun i h1 h2 => by omega, ?_⟩
    rw [List.drop_eq_nil_of_le (by rw [vmr_length]; omega)]
    rfl
  | succ d ih =>
    intro r z hd hr
    have hl : r < (vmr n m T).length := by rw [vmr_length]; omega
    have hg : (vmr n m T)[r] = vrow m (T r) := by simp [vmr]
    rw [List.drop_eq_getElem_cons hl, hg]
    simp only [idxM, nzP_row m c hc, Option.bind_some]
    by_cases h0 : T r c = 0
    · simp only [h0, bne_self_eq_false, Bool.false_eq_true, if_false]
      rcases ih (r + 1) (z + 1) (by omega) (by omega) with ⟨i, h1, h2, h3, h4⟩ | ⟨h1, h2⟩
      · exact .inl ⟨i, by omega, h2, h3, by rw [h4]; congr 2; omega⟩
      · refine .inr ⟨fun i h3 h4 => ?_, h2⟩
        by_cases h5 : i = r
        · rw [h5]; exact h0
        · exact h1 i (by omega) h4
    · have hb : (T r c != 0) = true := by simp [h0]
      simp only [hb, if_true]
      exact .inl ⟨r, Nat.le_refl _, by omega, h0, by congr 2; omega⟩
/-- What solving answers, whether or not there is a solution. -/
def ResOK (p : Int) (n : Nat) (M : Nat → Nat → Int) (R : List (List Int) × Bool) : Prop :=
  (R = ([], false) ∧ p ∣ la_det n M) ∨ ∃ (X : Nat → Nat → Int) (det : Int), R = (vmr n n X, true) ∧ 0 < det ∧ det < p ∧ p ∣ det - la_det n M ∧ (∀ i j, i < n → j < n → 0 ≤ X i j ∧ X i j < p) ∧ ∀ i j, i < n → j < n → p ∣ la_sm n (fun k => X i k * M k j) - la_ee j i
theorem rs_piv (p : Nat) (hpr : prN p = true) (hp : 2 ≤ p) (hp2 : p ≤ 101) (n : Nat) (hn : n ≤ 20) (M T : Nat → Nat → Int) (det : Int) (c : Nat) (hc : c < n) (h : GI p n M c T det) (h0 : T c c ≠ 0)
    (next : ∀ T' det', GI p n M (c + 1) T' det' → ∃ R, ResOK p n M R ∧ Ev (fun k => impl_Graph_resolvent.l2 k p (vmr n (n + n) T') n n ((c : Int) + 1)) R) :
    ∃ (v : Int) (R : List (List Int) × Bool), ResOK p n M R ∧ Ev (fun k => impl_inverse.f k (T c c) p) v ∧ Ev (fun k => impl_Graph_resolvent.l3 k p (vmr n (n + n) T) n v n c ((n + n : Nat) : Int) 0 c) R := by
  have hr := GI.rng h c c hc (by omega)
  obtain ⟨v, hv, v1, v2⟩ := inverse_ev hpr hp (by omega) (T c c) ⟨by omega, hr.2⟩
  obtain ⟨R, hR, hE⟩ := next _ _ (GI.step (by omega) h hc v v2)
  refine ⟨v, R, hR, hv, ?_⟩
  have hSr : ∀ i j, i < n → j < n + n → 0 ≤ scT p T c v (n + n) i j ∧ scT p T c v (n + n) i j < p := fun i j hi hj => by
    unfold scT
    split
    · exact ⟨Int.emod_nonneg _ (by omega), Int.emod_lt_of_pos _ (by omega)⟩
    · exact GI.rng h i j hi hj
  have h5 := rs_l4 p hp hp2 n hn (scT p T c v (n + n)) hSr c hc R hE n 0 (by omega) (by omega)
  have h4 := rs_l3 p hp hp2 n hn T (GI.rng h) v v1 c hc R (Ev.congr (fun q => by
    congr 1
    refine vmr_congr fun r q hr hq => ?_
    unfold elT; rw [if_neg (by omega)]) h5) (n + n) 0 (by omega) (by omega)
  refine Ev.congr (fun q => ?_) h4
  congr 1
  refine vmr_congr fun r q hr hq => ?_
  unfold scT; rw [if_neg (by omega)]
theorem rs_l2 (p : Nat) (hpr : prN p = true) (hp : 2 ≤ p) (hp2 : p ≤ 101) (n : Nat) (hn : n ≤ 20) (M : Nat → Nat → Int) : ∀ (d c : Nat), n - c = d → c ≤ n → ∀ T det, GI p n M c T det → ∃ R, ResOK p n M R ∧ Ev (fun k => impl_Graph_resolvent.l2 k p (vmr n (n + n) T) n n c) R := by
  intro d
  induction d with
  | zero =>
    intro c hd hc T det h
    obtain rfl : c = n := by omega
    obtain ⟨g1, g2⟩ := GI.last h
    refine ⟨(vmr c c (fun r j => T r (c + j)), true), Or.inr ⟨_, _, rfl, (GI.dr h).1, (GI.dr h).2, g1, fun i j hi hj => GI.rng h i (c + j) hi (by omega), g2⟩, Ev.step (fun q => by simp only [impl_Graph_resolvent.l2]; rfl) ?_⟩
    simp only [Int.lt_irrefl, if_false, vmr_length]
    exact rs_l6 c hn T c 0 (by omega) (by omega)
  | succ d ih =>
    intro c hd hc T det h
    have hcn : c < n := by omega
    have nxt : ∀ T' det', GI p n M (c + 1) T' det' → ∃ R, ResOK p n M R ∧ Ev (fun k => impl_Graph_resolvent.l2 k p (vmr n (n + n) T') n n ((c : Int) + 1)) R := fun T' det' h' => by
      obtain ⟨R, hR, hE⟩ := ih (c + 1) (by omega) (by omega) T' det' h'
      rw [show ((c + 1 : Nat) : Int) = (c : Int) + 1 by omega] at hE
      exact ⟨R, hR, hE⟩
    rcases rs_idx n (n + n) T c (by omega) (n - c) c 0 rfl hc with ⟨i, h1, h2, h3, h4⟩ | ⟨h1, h2⟩
    · have hT : ∃ (T' : Nat → Nat → Int) (det' : Int), GI p n M c T' det' ∧ T' c c ≠ 0 ∧ swp (vmr n (n + n) T) (c : Int) (i : Int) = vmr n (n + n) T' := by
        by_cases hic : i = c
        · subst hic
          refine ⟨T, det, h, h3, ?_⟩
          rw [swp_vmr n (n + n) T i i hcn hcn]
          refine vmr_congr fun r q _ _ => ?_
          unfold la_sw
          by_cases h5 : r = i
          · rw [if_pos h5, h5]
          · rw [if_neg h5, if_neg h5]
        · refine ⟨fun r => T (la_sw i c r), (-det) % p, GI.swap (by omega) h i (by omega) h2, ?_, ?_⟩
          · show T (la_sw i c c) c ≠ 0
            unfold la_sw
            rw [if_neg (Ne.symm hic), if_pos rfl]; exact h3
          · rw [swp_vmr n (n + n) T c i hcn h2]
            refine vmr_congr fun r q _ _ => ?_
            rw [sw_comm]
      obtain ⟨T', det', hg, hn0, hsw⟩ := hT
      obtain ⟨v, R, hR, hv, hE⟩ := rs_piv p hpr hp hp2 n hn M T' det' c hcn hg hn0 nxt
      simp only [Nat.zero_add] at h4
      have e1 : ¬ (((i - c : Nat) : Int) < 0) := by omega
      have e2 : wrap64 ((c : Int) + ((i - c : Nat) : Int)) = (i : Int) := by rw [w64 (by omega) (by omega)]; omega
      have e4 : (0 : Int) ≤ (i : Int) := by omega
      have e5 : (i : Int) < (n : Int) := by omega
      have e6 : (c : Int) < ((n + n : Nat) : Int) := by omega
      have e7 : (c : Int) < (n : Int) := by omega
      have e8 : (c : Int) ≤ (n : Int) := by omega
      have e9 : (0 : Int) ≤ (c : Int) := by omega
      refine ⟨R, hR, Ev.step (fun q => ?_) (Ev.bind (f := fun k x => impl_Graph_resolvent.l3 k p (vmr n (n + n) T') n x n c ((n + n : Nat) : Int) 0 c) hv hE)⟩
      simp only [impl_Graph_resolvent.l2, rsx_eq]
      rw [if_pos e7, if_pos e9, vmr_length, if_pos e8, Int.toNat_natCast, h4, Option.bind_some, if_neg e1, e2, if_pos e4, if_pos e5, if_pos e7, Option.bind_some, hsw, vmr_row hcn, vrow_length, if_pos e6, vrow_rd (show c < n + n by omega)]
    · refine ⟨([], false), Or.inl ⟨rfl, GI.none h hcn (fun r h3 h4 => h1 r h3 h4)⟩, Ev.step (fun q => by simp only [impl_Graph_resolvent.l2, rsx_eq]; rfl) ?_⟩
      simp only [show ((c : Int) < (n : Int)) by omega, if_true, show (0 : Int) ≤ (c : Int) by omega, vmr_length, show ((c : Int) ≤ (n : Int)) by omega, Int.toNat_natCast]
      rw [h2]
      simp only [Option.bind_some, show ((-1 : Int) < 0) by omega, if_true]
      exact Ev.now _
theorem resolvent_ev {a : Int} {l : List (List Int)} (h : isG a l = true) (p : Nat) (hpr : prN p = true) (hp : 2 ≤ p) (hp2 : p ≤ 101) (u : Nat) (hu : u < p) : ∃ R, ResOK p (2 * l.length) (gM u (eA l)) R ∧ Ev (fun k => impl_Graph_resolvent.f k a l p u) R := by
  have hl := isG_len h
  obtain ⟨R, hR, hE⟩ := rs_l2 p hpr hp hp2 (2 * l.length) (by omega) (gM u (eA l)) (2 * l.length) 0 (by omega) (by omega) _ _ (GI.start (p := p) (by omega) u (2 * l.length) (eA l))
  refine ⟨R, hR, ?_⟩
  unfold impl_Graph_resolvent.f
  refine Ev.bind (edgeMatrix_ev a l hl (isG_two h)) ?_
  simp only [show 2 * (l.length : Int) = ((2 * l.length : Nat) : Int) by omega, w64 (show -9223372036854775808 ≤ ((2 * l.length : Nat) : Int) by omega) (by omega), edgeM_vmat, vmat_length]
  exact rs_l0 p hp hp2 u hu (2 * l.length) (by omega) (eA l) (eA_01 l) R hE (2 * l.length) 0 (by omega) (by omega)
theorem prime_dvd_mul {p : Nat} (hpr : prN p = true) (hp : 2 ≤ p) {a b : Int} (h : (p : Int) ∣ a * b) (hb : ¬ (p : Int) ∣ b) : (p : Int) ∣ a := by
  have h0 : 0 < b % p := by
    have h1 := Int.emod_nonneg b (show (p : Int) ≠ 0 by omega)
    have h2 : b % p ≠ 0 := fun e => hb (Int.dvd_of_emod_eq_zero e)
    omega
  obtain ⟨k, _, _, hk⟩ := inv_ex' hpr hp h0 (Int.emod_lt_of_pos b (by omega))
  obtain ⟨q, hq⟩ := h
  have e1 : (p : Int) ∣ (k : Int) * (b % p) - 1 := Int.dvd_of_emod_eq_zero (by rw [Int.sub_emod, hk, Int.emod_eq_of_lt (a := 1) (by omega) (by omega)]; rfl)
  have e2 : (p : Int) ∣ (k : Int) * b - 1 := by
    have h3 : (p : Int) ∣ (k : Int) * b - (k : Int) * (b % p) := dvd_mulL _ (dvd_mod' p b)
    have := Int.dvd_add h3 e1
    rwa [show (k : Int) * b - (k : Int) * (b % p) + ((k : Int) * (b % p) - 1) = (k : Int) * b - 1 by omega] at this
  obtain ⟨r, hr⟩ := e2
  refine ⟨k * q - a * r, ?_⟩
  have : a * (k * b - 1) = a * (p * r) := by rw [hr]
  grind
/-- What is left inverse modulo p is one. -/
theorem inv_one {p : Nat} (hpr : prN p = true) (hp : 2 ≤ p) {n : Nat} {M X Y : Nat → Nat → Int} (hd : ¬ (p : Int) ∣ la_det n M) (hX : ∀ i j, i < n → j < n → (p : Int) ∣ la_sm n (fun k => X i k * M k j) - la_ee j i)
    (hY : ∀ i j, i < n → j < n → (p : Int) ∣ la_sm n (fun k => Y i k * M k j) - la_ee j i) (i j : Nat) (hi : i < n) (hj : j < n) : (p : Int) ∣ X i j - Y i j := by
  refine prime_dvd_mul hpr hp (b := la_det n M) ?_ hd
  have key : ∀ Z : Nat → Nat → Int, la_sm n (fun m => la_sm n (fun k => Z i k * M k m) * la_adj n M m j) = Z i j * la_det n M := fun Z => by
    have s1 : la_sm n (fun m => la_sm n (fun k => Z i k * M k m) * la_adj n M m j) = la_sm n (fun m => la_sm n (fun k => Z i k * (M k m * la_adj n M m j))) := la_sm_congr fun m _ => by
      rw [Int.mul_comm, ← la_sm_mul]; exact la_sm_congr fun k _ => by grind
    have s2 : la_sm n (fun k => la_sm n (fun m => Z i k * (M k m * la_adj n M m j))) = Z i j * la_det n M := by
      rw [la_sm_single j hj (fun k hk hkj => by rw [la_sm_mul, la_adj_right M k j hj hk, if_neg hkj, Int.mul_zero]), la_sm_mul, la_adj_right M j j hj hj, if_pos rfl]
    rw [s1, la_sm_swap, s2]
  have hz : (p : Int) ∣ la_sm n (fun m => la_sm n (fun k => X i k * M k m) * la_adj n M m j) - la_sm n (fun m => la_sm n (fun k => Y i k * M k m) * la_adj n M m j) := by
    refine la_sm_dvd fun m hm => ?_
    rw [← Int.sub_mul]
    exact Int.dvd_trans (dvd_tr (hX i m hi hm) (dvd_sy (hY i m hi hm))) (Int.dvd_mul_right _ _)
  rw [key X, key Y] at hz
  rwa [Int.sub_mul]
/-- Both ways to solve answer alike. -/
theorem res_both {a : Int} {l : List (List Int)} (h : isG a l = true) (p : Nat) (hpr : prN p = true) (hp : 2 ≤ p) (hp2 : p ≤ 101) (u : Nat) (hu : u < p) : ∃ (R1 : List (List Int) × Int) (R2 : List (List Int) × Bool),
    Ev (fun k => spec_l09Solve.f k a l p u) R1 ∧ Ev (fun k => impl_Graph_resolvent.f k a l p u) R2 ∧
    ((R1.2 = 0 ∧ R2.2 = false) ∨ (R1.2 ≠ 0 ∧ R2.2 = true ∧ ∃ X : Nat → Nat → Int, R1.1 = vmr (2 * l.length) (2 * l.length) X ∧ R2.1 = vmr (2 * l.length) (2 * l.length) X ∧ ∀ i j, i < 2 * l.length → j < 2 * l.length → 0 ≤ X i j ∧ X i j < p)) := by
  obtain ⟨R1, h1, e1⟩ := l09Solve_ev h p hpr hp hp2 u hu
  obtain ⟨R2, h2, e2⟩ := resolvent_ev h p hpr hp hp2 u hu
  refine ⟨R1, R2, e1, e2, ?_⟩
  have nz : ∀ det : Int, 0 < det → det < p → (p : Int) ∣ det - la_det (2 * l.length) (gM u (eA l)) → ¬ (p : Int) ∣ la_det (2 * l.length) (gM u (eA l)) := fun det d1 d2 d3 d4 => by
    have := Int.dvd_add d3 d4
    rw [Int.sub_add_cancel] at this
    have := Int.le_of_dvd d1 this
    omega
  rcases h1 with ⟨r1, z1⟩ | ⟨X, det, r1, d1, d2, d3, x1, x2⟩
  · rcases h2 with ⟨r2, z2⟩ | ⟨Y, det', r2, d1, d2, d3, y1, y2⟩
    · exact .inl ⟨by rw [r1], by rw [r2]⟩
    · exact absurd z1 (nz _ d1 d2 d3)
  · rcases h2 with ⟨r2, z2⟩ | ⟨Y, det', r2, _, _, _, y1, y2⟩
    · exact absurd z2 (nz _ d1 d2 d3)
    · refine .inr ⟨by rw [r1]; show det ≠ 0; omega, by rw [r2], X, by rw [r1], ?_, x1⟩
      rw [r2]
      exact vmr_congr fun i j hi hj => eq_of_dvd (inv_one hpr hp (nz _ d1 d2 d3) y2 x2 i j hi hj) (y1 i j hi hj) (x1 i j hi hj)
def trX (n : Nat) (X : Nat → Nat → Int) : Int := la_sm n (fun i => X i i)
theorem tr_rng {n : Nat} {X : Nat → Nat → Int} {p : Int} (hX : ∀ i j, i < n → j < n → 0 ≤ X i j ∧ X i j < p) : ∀ i, i ≤ n → 0 ≤ la_sm i (fun i => X i i) ∧ la_sm i (fun i => X i i) ≤ i * p := by
  intro i
  induction i with
  | zero => intro _; exact ⟨Int.le_refl _, by show (0 : Int) ≤ _; simp⟩
  | succ i ih =>
    intro hi
    have h := ih (by omega)
    have hx := hX i i (by omega) (by omega)
    show 0 ≤ la_sm i (fun i => X i i) + X i i ∧ la_sm i (fun i => X i i) + X i i ≤ _
    rw [show ((i + 1 : Nat) : Int) * p = i * p + p by rw [Int.natCast_add, Int.add_mul]; simp]
    omega
theorem rtrace_l0 (n : Nat) (hn : n ≤ 20) (X : Nat → Nat → Int) (p : Int) (hp : p ≤ 101) (hX : ∀ i j, i < n → j < n → 0 ≤ X i j ∧ X i j < p) : ∀ (d i : Nat), n - i = d → i ≤ n → Ev (fun k => impl_trace.l0 k (la_sm i (fun i => X i i)) (vmr n n X) n i) (trX n X) := by
  intro d
  induction d with
  | zero =>
    intro i hd hi
    obtain rfl : i = n := by omega
    refine Ev.step (fun q => by simp only [impl_trace.l0]; rfl) ?_
    simp only [Int.lt_irrefl, if_false]
    exact Ev.now _
  | succ d ih =>
    intro i hd hi
    have hin : i < n := by omega
    refine Ev.step (fun q => by simp only [impl_trace.l0]; rfl) ?_
    have h := tr_rng hX i (by omega)
    have h2 : (i : Int) * p ≤ 20 * 101 := by
      have hx := hX i i hin hin
      exact Int.mul_le_mul (by omega) hp (by omega) (by omega)
    have hx := hX i i hin hin
    have hh := ih (i + 1) (by omega) (by omega)
    rw [show ((i + 1 : Nat) : Int) = (i : Int) + 1 by omega] at hh
    simp only [show ((i : Int) < (n : Int)) by omega, show (0 : Int) ≤ (i : Int) by omega, vmr_length, vmr_row hin, vrow_length, vrow_rd hin, if_true, w64 (show -9223372036854775808 ≤ la_sm i (fun i => X i i) + X i i by omega) (by omega), w64 (show -9223372036854775808 ≤ (i : Int) + 1 by omega) (by omega)]
    exact hh
theorem specTr_l0 (n : Nat) (hn : n ≤ 20) (X : Nat → Nat → Int) (p : Int) (hp0 : 2 ≤ p) (hp : p ≤ 101) (hX : ∀ i j, i < n → j < n → 0 ≤ X i j ∧ X i j < p) : ∀ (d i : Nat), n - i = d → i ≤ n → Ev (fun k => spec_TraceResolvent.l0 k p (vmr n n X) (la_sm i (fun i => X i i)) i) (Int.tmod (trX n X) p, 0) := by
  intro d
  induction d with
  | zero =>
    intro i hd hi
    obtain rfl : i = n := by omega
    refine Ev.step (fun q => by simp only [spec_TraceResolvent.l0]; rfl) ?_
    simp only [vmr_length, Int.lt_irrefl, if_false, show ¬ (p = 0) by omega]
    exact Ev.now _
  | succ d ih =>
    intro i hd hi
    have hin : i < n := by omega
    refine Ev.step (fun q => by simp only [spec_TraceResolvent.l0]; rfl) ?_
    have h := tr_rng hX i (by omega)
    have h2 : (i : Int) * p ≤ 20 * 101 := Int.mul_le_mul (by omega) hp (by omega) (by omega)
    have hx := hX i i hin hin
    have hh := ih (i + 1) (by omega) (by omega)
    rw [show ((i + 1 : Nat) : Int) = (i : Int) + 1 by omega] at hh
    simp only [show ((i : Int) < (n : Int)) by omega, show (0 : Int) ≤ (i : Int) by omega, vmr_length, vmr_row hin, vrow_length, vrow_rd hin, if_true, w64 (show -9223372036854775808 ≤ la_sm i (fun i => X i i) + X i i by omega) (by omega), w64 (show -9223372036854775808 ≤ (i : Int) + 1 by omega) (by omega)]
    exact hh
theorem traceResolvent_both (a : Int) (l : List (List Int)) (p u : Int) (hl : l.length ≤ maxLen) : ∃ r c : Int, Ev (fun k => spec_TraceResolvent.f k a l p u) (r, c) ∧ Ev (fun k => impl_TraceResolvent.f k a l p u) (r, c) := by
  have hs := l09Code_ev a l p [u] hl (by simp)
  have hi := valueCode_ev a l p u hl
  rw [valueCs_one] at hs
  by_cases h : valueC a l p u = 0
  · obtain ⟨hg, hp, h0, h1⟩ := valueC_zero h
    obtain ⟨q, rfl, h2, h3, hq⟩ := prB_nat hp
    obtain ⟨v, rfl⟩ : ∃ v : Nat, u = v := ⟨u.toNat, by omega⟩
    have hl10 := isG_len hg
    rw [h] at hs hi
    obtain ⟨R1, R2, s1, s2, hR⟩ := res_both hg q hq h2 (by omega) v (by omega)
    rcases hR with ⟨r1, r2⟩ | ⟨r1, r2, X, x1, x2, x3⟩
    · refine ⟨0, 5, ?_, ?_⟩
      · unfold spec_TraceResolvent.f
        refine Ev.bind hs ?_
        simp only [if_true]
        refine Ev.bind s1 ?_
        simp only [r1, if_true]
        exact Ev.now _
      · unfold impl_TraceResolvent.f
        refine Ev.bind hi ?_
        simp only [if_true]
        refine Ev.bind s2 ?_
        simp only [r2, Bool.false_eq_true, if_false]
        exact Ev.now _
    · refine ⟨Int.tmod (trX (2 * l.length) X) q, 0, ?_, ?_⟩
      · unfold spec_TraceResolvent.f
        refine Ev.bind hs ?_
        simp only [if_true]
        refine Ev.bind s1 ?_
        simp only [r1, if_false, x1]
        exact specTr_l0 (2 * l.length) (by omega) X q (by omega) (by omega) x3 (2 * l.length) 0 (by omega) (by omega)
      · unfold impl_TraceResolvent.f
        refine Ev.bind hi ?_
        simp only [if_true]
        refine Ev.bind s2 ?_
        simp only [r2, x2, if_true]
        have ht : Ev (fun k => impl_trace.f k (vmr (2 * l.length) (2 * l.length) X)) (trX (2 * l.length) X) := by
          unfold impl_trace.f
          rw [vmr_length]
          exact rtrace_l0 (2 * l.length) (by omega) X q (by omega) x3 (2 * l.length) 0 (by omega) (by omega)
        refine Ev.bind ht ?_
        simp only [show ¬ ((q : Int) = 0) by omega, if_false]
        exact Ev.now _
  · refine ⟨0, valueC a l p u, ?_, ?_⟩
    · unfold spec_TraceResolvent.f
      refine Ev.bind hs ?_
      simp only [h, if_false]
      exact Ev.now _
    · unfold impl_TraceResolvent.f
      refine Ev.bind hi ?_
      simp only [h, if_false]
      exact Ev.now _

def laws_FnExactTraceResolvent.Pure : Prop := ∀ (a0_0 : Int) (l0_1 : List (List Int)) (a1 : Int) (a2 : Int), (Lit.int .i64 a0_0).wf = true → l0_1.length ≤ maxLen → (∀ x ∈ l0_1, x.length ≤ maxLen ∧ ∀ n ∈ x, (Lit.int .i64 n).wf = true) → (Lit.int .i64 a1).wf = true → (Lit.int .i64 a2).wf = true → ∃ k, laws_FnExactTraceResolvent.f k a0_0 l0_1 a1 a2 = some true
end Go.Proofs.Ytbfmnhgpmpnglaa.B
namespace Go.Proofs.Ytbfmnhgpmpnglaa.Pure
open Go.RowKit Go.Proofs.YtbfmnhgpmpnglaaW.PrintWords Go.Proofs.YtbfmnhgpmpnglaaW.PrintLast Go.Proofs.YtbfmnhgpmpnglaaW.PrintMore Go.Proofs.Ytbfmnhgpmpnglaa.B
theorem FnExactTraceResolvent : laws_FnExactTraceResolvent.Pure := by
  intro a l p u _ hl hx _ _ 
  have hx' : ∀ x ∈ l, x.length ≤ maxLen := fun x h => (hx x h).1
  obtain ⟨rv, rc, es, ei⟩ := traceResolvent_both a l p u hl
  refine Ev.rounds (r := true) ?_
  unfold laws_FnExactTraceResolvent.f
  obtain ⟨r, hr, _, _, h4⟩ := szGraph_ev a l 1048576 (by omega) (by omega) hl hx'
  refine Ev.bind hr ?_
  by_cases hn : r < 0
  · simp only [hn, if_true]; exact Ev.now _
  · simp only [hn, if_false]
    obtain ⟨s1, s2⟩ := h4 (by omega)
    have g := toGraph_ev a l (by omega) (fun x h => by have := s2 x h; omega)
    refine Ev.bind g (Ev.bind es (Ev.bind g (Ev.bind ei ?_)))
    simp only [bne_self_eq_false, if_true]
    refine Ev.step (fun k => by simp only [laws_FnExactTraceResolvent.j0]; rfl) ?_
    simp only [Bool.false_eq_true, if_false]
    refine Ev.bind g (Ev.bind (eqGraph_ev a l hl hx') ?_)
    simp only [if_true]
    exact Ev.now _

end Go.Proofs.Ytbfmnhgpmpnglaa.Pure
