/- Plain lemmas on the Lean functions that FnExactIsDesk reaches, and its pure statement. No condition. -/
import Derived.Test.YtdnlimmdhnaegaaBx
namespace Go.Proofs.Ytdnlimmdhnaegaa.B
open Go.RowKit Go.Proofs.YtdnlimmdhnaegaaW.PrintWords Go.Proofs.YtdnlimmdhnaegaaW.PrintLast Go.Proofs.YtdnlimmdhnaegaaW.PrintMore
set_option linter.unusedVariables false
set_option linter.unusedSimpArgs false
theorem w64 {n : Int} (h0 : -9223372036854775808 ≤ n) (h1 : n ≤ 9223372036854775807) : wrap64 n = n := IntWalk.wrap64_in n ⟨h0, h1⟩
theorem fuel {k n : Nat} (h : n < k) : ∃ m, k = m + 1 ∧ n ≤ m := ⟨k - 1, by omega, by omega⟩
theorem rd_nat (l : List Int) (i : Nat) (h : i < l.length) : rd l (i : Int) = l[i] := by
  simp [rd, List.getD_eq_getElem?_getD, h]
theorem rdL1_nat (l : List (List Int)) (i : Nat) (h : i < l.length) : rd_L1 l (i : Int) = l[i] := by
  simp [rd_L1, List.getD_eq_getElem?_getD, h]
theorem take_set {α : Type} (x l : List α) (i : Nat) (hx : x.length = l.length) (hi : i < l.length) (h : x.take i = l.take i) : (x.set i l[i]).take (i + 1) = l.take (i + 1) := by
  apply List.ext_getElem?
  intro j
  rw [List.getElem?_take, List.getElem?_take]
  by_cases hj : j < i + 1
  · rw [if_pos hj, if_pos hj]
    by_cases hji : j = i
    · subst hji
      rw [List.getElem?_set_self (by omega), List.getElem?_eq_getElem hi]
    · rw [List.getElem?_set_ne (by omega)]
      have h2 := congrArg (fun z => z[j]?) h
      simp only [List.getElem?_take] at h2
      rwa [if_pos (by omega), if_pos (by omega)] at h2
  · rw [if_neg hj, if_neg hj]

theorem toInt64S_l0 (l : List Int) (hl : l.length ≤ 35184372088832) : ∀ (d k i : Nat) (x : List Int), l.length - i = d → d < k → i ≤ l.length → x.length = l.length → x.take i = l.take i → laws_toInt64S.l0 k l x i = some l := by
  intro d
  induction d with
  | zero =>
    intro k i x hd hk hi hx ht
    obtain ⟨m, rfl, hm⟩ := fuel hk
    simp only [laws_toInt64S.l0]
    rw [if_neg (by omega)]
    rw [List.take_of_length_le (by omega), List.take_of_length_le (by omega)] at ht
    rw [ht]
  | succ d ih =>
    intro k i x hd hk hi hx ht
    obtain ⟨m, rfl, hm⟩ := fuel hk
    have hil : i < l.length := by omega
    simp only [laws_toInt64S.l0]
    rw [if_pos (by omega), if_pos (by omega), if_pos (by omega), w64 (by omega) (by omega), rd_nat l i hil, Int.toNat_natCast]
    exact ih m (i + 1) _ (by omega) (by omega) (by omega) (by simp [hx]) (take_set x l i hx hil ht)
theorem toInt64S_ev (l : List Int) (hl : l.length ≤ 35184372088832) : Ev (fun k => laws_toInt64S.f k l) l := by
  refine Ev.of (laws_toInt64S.mono l) (k := l.length + 1) ?_
  unfold laws_toInt64S.f
  rw [if_pos (by omega), if_pos (by simpa using hl)]
  exact toInt64S_l0 l hl l.length _ 0 _ (by omega) (by omega) (by omega) (by simp) (by simp)
theorem toInt64SS_l0 (l : List (List Int)) (hl : l.length ≤ 11728124029610) (hx : ∀ x ∈ l, x.length ≤ 35184372088832) : ∀ (d i : Nat) (x : List (List Int)), l.length - i = d → i ≤ l.length → x.length = l.length → x.take i = l.take i → Ev (fun k => laws_toInt64SS.l0 k l x i) l := by
  intro d
  induction d with
  | zero =>
    intro i x hd hi hx ht
    refine Ev.step (fun k => by simp only [laws_toInt64SS.l0]; rfl) ?_
    rw [List.take_of_length_le (by omega), List.take_of_length_le (by omega)] at ht
    simp only [show ¬ ((i : Int) < (l.length : Int)) by omega, if_false, ht]
    exact Ev.now l
  | succ d ih =>
    intro i x hd hi hx' ht
    have hil : i < l.length := by omega
    refine Ev.step (fun k => by simp only [laws_toInt64SS.l0]; rfl) ?_
    simp only [show ((i : Int) < (l.length : Int)) by omega, show (0 : Int) ≤ (i : Int) by omega, show ((i : Int) < (x.length : Int)) by omega, if_true, Int.toNat_natCast, w64 (show -9223372036854775808 ≤ (i : Int) + 1 by omega) (by omega), rdL1_nat l i hil]
    refine Ev.bind (toInt64S_ev l[i] (hx _ (List.getElem_mem hil))) ?_
    exact ih (i + 1) _ (by omega) (by omega) (by simp [hx']) (take_set x l i hx' hil ht)
theorem toInt64SS_ev (l : List (List Int)) (hl : l.length ≤ 11728124029610) (hx : ∀ x ∈ l, x.length ≤ 35184372088832) : Ev (fun k => laws_toInt64SS.f k l) l := by
  unfold laws_toInt64SS.f
  simp only [show (0 : Int) ≤ (l.length : Int) by omega, if_true, Int.toNat_natCast, hl]
  exact toInt64SS_l0 l hl hx l.length 0 _ (by omega) (by omega) (by simp) (by simp)
theorem toGraph_ev (a : Int) (l : List (List Int)) (hl : l.length ≤ 11728124029610) (hx : ∀ x ∈ l, x.length ≤ 35184372088832) : Ev (fun k => laws_toGraph.f k a l) (a, l) := by
  unfold laws_toGraph.f
  exact Ev.bind (toInt64SS_ev l hl hx) (Ev.now _)

theorem szInt64SS_l0 (l : List (List Int)) (hl : l.length ≤ maxLen) (hx : ∀ x ∈ l, x.length ≤ maxLen) : ∀ (d i : Nat) (a : Int), l.length - i = d → i ≤ l.length → 0 ≤ a → a ≤ 1048576 → ∃ r, Ev (fun k => laws_szInt64SS.l0 k l a i) r ∧ r ≤ 1048576 ∧ -1 ≤ r ∧ (0 ≤ r → ∀ x ∈ l.drop i, x.length ≤ 1048576) := by
  unfold maxLen at hl hx
  intro d
  induction d with
  | zero =>
    intro i a hd hi h0 h1
    refine ⟨a, Ev.step (fun k => by simp only [laws_szInt64SS.l0]; rfl) ?_, h1, by omega, fun _ x hx => ?_⟩
    · simp only [show ¬ ((i : Int) < (l.length : Int)) by omega, if_false]
      exact Ev.now _
    · rw [List.drop_of_length_le (by omega)] at hx; simp at hx
  | succ d ih =>
    intro i a hd hi h0 h1
    have hil : i < l.length := by omega
    have hxl := hx _ (List.getElem_mem hil)
    have hs : laws_szInt64S.f l[i] a = some (if a - (l[i].length : Int) < 0 then -1 else a - (l[i].length : Int)) := by
      unfold laws_szInt64S.f
      rw [w64 (by omega) (by omega)]
      split <;> rfl
    by_cases hn : a - (l[i].length : Int) < 0
    · rw [if_pos hn] at hs
      refine ⟨-1, Ev.step (fun k => by simp only [laws_szInt64SS.l0]; rfl) ?_, by omega, by omega, fun h => by omega⟩
      simp only [show ((i : Int) < (l.length : Int)) by omega, show (0 : Int) ≤ (i : Int) by omega, if_true, rdL1_nat l i hil, hs, Option.bind_some]
      exact Ev.now _
    · rw [if_neg hn] at hs
      obtain ⟨r, hr, h2, h3, h4⟩ := ih (i + 1) (a - (l[i].length : Int)) (by omega) (by omega) (by omega) (by omega)
      refine ⟨r, Ev.step (fun k => by simp only [laws_szInt64SS.l0]; rfl) ?_, h2, h3, fun h x hx => ?_⟩
      · simp only [show ((i : Int) < (l.length : Int)) by omega, show (0 : Int) ≤ (i : Int) by omega, if_true, rdL1_nat l i hil, hs, Option.bind_some, hn, if_false, w64 (show -9223372036854775808 ≤ (i : Int) + 1 by omega) (by omega)]
        exact hr
      · rw [List.drop_eq_getElem_cons hil] at hx
        rcases List.mem_cons.1 hx with rfl | hx
        · omega
        · exact h4 h x hx
/-- The sizes that the law lets by. -/
theorem szInt64SS_ev (l : List (List Int)) (a : Int) (ha : 0 ≤ a) (ha1 : a ≤ 1048576) (hl : l.length ≤ maxLen) (hx : ∀ x ∈ l, x.length ≤ maxLen) : ∃ r, Ev (fun k => laws_szInt64SS.f k l a) r ∧ r ≤ 1048576 ∧ -1 ≤ r ∧ (0 ≤ r → l.length ≤ 1048576 ∧ ∀ x ∈ l, x.length ≤ 1048576) := by
  have hl' := hl
  unfold maxLen at hl'
  unfold laws_szInt64SS.f
  rw [w64 (by omega) (by omega)]
  by_cases hn : a - (l.length : Int) < 0
  · refine ⟨-1, ?_, by omega, by omega, fun h => by omega⟩
    simp only [hn, if_true]
    exact Ev.now _
  · obtain ⟨r, hr, h2, h3, h4⟩ := szInt64SS_l0 l hl hx l.length 0 (a - (l.length : Int)) (by omega) (by omega) (by omega) (by omega)
    refine ⟨r, ?_, h2, h3, fun h => ⟨by omega, by simpa using h4 h⟩⟩
    simp only [hn, if_false]
    exact hr
theorem szGraph_ev (s : Int) (l : List (List Int)) (a : Int) (ha : 0 ≤ a) (ha1 : a ≤ 1048576) (hl : l.length ≤ maxLen) (hx : ∀ x ∈ l, x.length ≤ maxLen) : ∃ r, Ev (fun k => laws_szGraph.f k s l a) r ∧ r ≤ 1048576 ∧ -1 ≤ r ∧ (0 ≤ r → l.length ≤ 1048576 ∧ ∀ x ∈ l, x.length ≤ 1048576) := by
  obtain ⟨r, hr, h2, h3, h4⟩ := szInt64SS_ev l a ha ha1 hl hx
  unfold laws_szGraph.f
  by_cases hn : r < 0
  · refine ⟨-1, Ev.bind hr ?_, by omega, by omega, fun h => by omega⟩
    simp only [hn, if_true]
    exact Ev.now _
  · refine ⟨r, Ev.bind hr ?_, h2, h3, h4⟩
    simp only [hn, if_false]
    exact Ev.now _
/-- Equal lists are told equal. -/
theorem eqInt64S_l0 (l : List Int) (hl : l.length ≤ maxLen) : ∀ (d i : Nat), l.length - i = d → i ≤ l.length → Ev (fun k => laws_eqInt64S.l0 k l l i) true := by
  unfold maxLen at hl
  intro d
  induction d with
  | zero =>
    intro i hd hi
    refine Ev.step (fun k => by simp only [laws_eqInt64S.l0]; rfl) ?_
    simp only [show ¬ ((i : Int) < (l.length : Int)) by omega, if_false]
    exact Ev.now _
  | succ d ih =>
    intro i hd hi
    refine Ev.step (fun k => by simp only [laws_eqInt64S.l0]; rfl) ?_
    simp only [show ((i : Int) < (l.length : Int)) by omega, show (0 : Int) ≤ (i : Int) by omega, if_true, w64 (show -9223372036854775808 ≤ (i : Int) + 1 by omega) (by omega)]
    exact ih (i + 1) (by omega) (by omega)
theorem eqInt64S_ev (l : List Int) (hl : l.length ≤ maxLen) : Ev (fun k => laws_eqInt64S.f k l l) true := by
  unfold laws_eqInt64S.f
  simp only [if_true]
  exact eqInt64S_l0 l hl l.length 0 (by omega) (by omega)
theorem eqInt64SS_l0 (l : List (List Int)) (hl : l.length ≤ maxLen) (hx : ∀ x ∈ l, x.length ≤ maxLen) : ∀ (d i : Nat), l.length - i = d → i ≤ l.length → Ev (fun k => laws_eqInt64SS.l0 k l l i) true := by
  unfold maxLen at hl
  intro d
  induction d with
  | zero =>
    intro i hd hi
    refine Ev.step (fun k => by simp only [laws_eqInt64SS.l0]; rfl) ?_
    simp only [show ¬ ((i : Int) < (l.length : Int)) by omega, if_false]
    exact Ev.now _
  | succ d ih =>
    intro i hd hi
    have hil : i < l.length := by omega
    refine Ev.step (fun k => by simp only [laws_eqInt64SS.l0]; rfl) ?_
    simp only [show ((i : Int) < (l.length : Int)) by omega, show (0 : Int) ≤ (i : Int) by omega, if_true, w64 (show -9223372036854775808 ≤ (i : Int) + 1 by omega) (by omega), rdL1_nat l i hil]
    refine Ev.bind (eqInt64S_ev l[i] (hx _ (List.getElem_mem hil))) ?_
    simp only [if_true]
    exact ih (i + 1) (by omega) (by omega)
theorem eqInt64SS_ev (l : List (List Int)) (hl : l.length ≤ maxLen) (hx : ∀ x ∈ l, x.length ≤ maxLen) : Ev (fun k => laws_eqInt64SS.f k l l) true := by
  unfold laws_eqInt64SS.f
  simp only [if_true]
  exact eqInt64SS_l0 l hl hx l.length 0 (by omega) (by omega)
theorem eqGraph_ev (a : Int) (l : List (List Int)) (hl : l.length ≤ maxLen) (hx : ∀ x ∈ l, x.length ≤ maxLen) : Ev (fun k => laws_eqGraph.f k a l a l) true := by
  unfold laws_eqGraph.f
  simp only [if_true]
  refine Ev.bind (eqInt64SS_ev l hl hx) ?_
  simp only [if_true]
  exact Ev.now _
/-! ### what a graph is -/
def endIn (a n : Int) : Bool := decide (0 ≤ n) && decide (n ≤ wrap64 (a - 1))
def edgeIn (a : Int) (e : List Int) : Bool := decide (e.length = 2) && (endIn a (rd e 0) && endIn a (rd e 1))
def isG (a : Int) (l : List (List Int)) : Bool := decide (1 ≤ a) && (decide (a ≤ 8) && (decide (l.length ≤ 10) && l.all (edgeIn a)))
theorem within_eq (a b c : Int) : impl_within.f a b c = some (decide (b ≤ a) && decide (a ≤ c)) := by
  unfold impl_within.f
  by_cases h : b ≤ a <;> simp [h]
theorem l01In_eq (a b c : Int) : spec_l01In.f a b c = some (decide (b ≤ a) && decide (a ≤ c)) := by
  unfold spec_l01In.f
  by_cases h : b ≤ a <;> simp [h]
theorem impl_IsGraph_l0 (a : Int) (l : List (List Int)) (hl : l.length ≤ maxLen) : ∀ (d i : Nat), l.length - i = d → i ≤ l.length → Ev (fun k => impl_IsGraph.l0 k l l.length i a l) ((l.drop i).all (edgeIn a) && (decide (1 ≤ a) && (decide (a ≤ 8) && decide (l.length ≤ 10)))) := by
  unfold maxLen at hl
  intro d
  induction d with
  | zero =>
    intro i hd hi
    refine Ev.step (fun k => by simp only [impl_IsGraph.l0]; rfl) ?_
    simp only [show ¬ ((i : Int) < (l.length : Int)) by omega, if_false, within_eq, Option.bind_some, List.drop_of_length_le (show l.length ≤ i by omega), List.all_nil, Bool.true_and]
    by_cases h1 : 1 ≤ a
    · by_cases h2 : a ≤ 8
      · simp only [h1, h2, decide_true, Bool.true_and, if_true]
        exact Ev.congr (fun k => by congr 1; simp; omega) (Ev.now _)
      · simp only [h1, h2, decide_true, decide_false, Bool.true_and, Bool.false_and, Bool.false_eq_true, if_false]
        exact Ev.now _
    · simp only [h1, decide_false, Bool.false_and, Bool.false_eq_true, if_false]
      exact Ev.now _
  | succ d ih =>
    intro i hd hi
    have hil : i < l.length := by omega
    refine Ev.step (fun k => by simp only [impl_IsGraph.l0]; rfl) ?_
    have hdrop : (l.drop i).all (edgeIn a) = (edgeIn a l[i] && (l.drop (i + 1)).all (edgeIn a)) := by rw [List.drop_eq_getElem_cons hil, List.all_cons]
    rw [hdrop]
    simp only [show ((i : Int) < (l.length : Int)) by omega, show (0 : Int) ≤ (i : Int) by omega, if_true, w64 (show -9223372036854775808 ≤ (i : Int) + 1 by omega) (by omega), rdL1_nat l i hil, within_eq, Option.bind_some]
    unfold edgeIn endIn
    by_cases h2 : l[i].length = 2
    · simp only [h2, decide_true, Bool.true_and, show ((2 : Nat) : Int) = 2 from rfl, if_true, show (0 : Int) < 2 by omega, show (1 : Int) < 2 by omega]
      by_cases h3 : (decide (0 ≤ rd l[i] 0) && decide (rd l[i] 0 ≤ wrap64 (a - 1))) = true
      · by_cases h4 : (decide (0 ≤ rd l[i] 1) && decide (rd l[i] 1 ≤ wrap64 (a - 1))) = true
        · simp only [h3, h4, if_true, Bool.true_and]
          exact ih (i + 1) (by omega) (by omega)
        · simp only [Bool.not_eq_true] at h4
          simp only [h3, h4, if_true, Bool.false_and, Bool.and_false, Bool.false_eq_true, if_false]
          exact Ev.now _
      · simp only [Bool.not_eq_true] at h3
        simp only [h3, Bool.false_and, Bool.false_eq_true, if_false]
        exact Ev.now _
    · simp only [show ¬ ((l[i].length : Int) = 2) by omega, h2, decide_false, Bool.false_and, if_false]
      exact Ev.now _
theorem impl_IsGraph_ev (a : Int) (l : List (List Int)) (hl : l.length ≤ maxLen) : Ev (fun k => impl_IsGraph.f k a l) (isG a l) := by
  unfold impl_IsGraph.f
  have h := impl_IsGraph_l0 a l hl l.length 0 (by omega) (by omega)
  have e : ((l.drop 0).all (edgeIn a) && (decide (1 ≤ a) && (decide (a ≤ 8) && decide (l.length ≤ 10)))) = isG a l := by
    unfold isG
    rw [List.drop_zero]
    cases l.all (edgeIn a) <;> simp
  rw [e] at h
  exact h
theorem spec_l01Is_l0 (a : Int) (l : List (List Int)) (hl : l.length ≤ maxLen) : ∀ (d i : Nat), l.length - i = d → i ≤ l.length → Ev (fun k => spec_l01Is.l0 k i a l) ((l.drop i).all (edgeIn a)) := by
  unfold maxLen at hl
  intro d
  induction d with
  | zero =>
    intro i hd hi
    refine Ev.step (fun k => by simp only [spec_l01Is.l0]; rfl) ?_
    simp only [show ¬ ((i : Int) < (l.length : Int)) by omega, if_false, List.drop_of_length_le (show l.length ≤ i by omega), List.all_nil]
    exact Ev.now _
  | succ d ih =>
    intro i hd hi
    have hil : i < l.length := by omega
    refine Ev.step (fun k => by simp only [spec_l01Is.l0]; rfl) ?_
    have hdrop : (l.drop i).all (edgeIn a) = (edgeIn a l[i] && (l.drop (i + 1)).all (edgeIn a)) := by rw [List.drop_eq_getElem_cons hil, List.all_cons]
    rw [hdrop]
    simp only [show ((i : Int) < (l.length : Int)) by omega, show (0 : Int) ≤ (i : Int) by omega, if_true, w64 (show -9223372036854775808 ≤ (i : Int) + 1 by omega) (by omega), rdL1_nat l i hil, l01In_eq, Option.bind_some]
    unfold edgeIn endIn
    by_cases h2 : l[i].length = 2
    · simp only [h2, decide_true, Bool.true_and, show ((2 : Nat) : Int) = 2 from rfl, if_true, show (0 : Int) < 2 by omega, show (1 : Int) < 2 by omega]
      by_cases h3 : (decide (0 ≤ rd l[i] 0) && decide (rd l[i] 0 ≤ wrap64 (a - 1))) = true
      · by_cases h4 : (decide (0 ≤ rd l[i] 1) && decide (rd l[i] 1 ≤ wrap64 (a - 1))) = true
        · simp only [h3, h4, if_true, Bool.true_and]
          exact ih (i + 1) (by omega) (by omega)
        · simp only [Bool.not_eq_true] at h4
          simp only [h3, h4, if_true, Bool.false_and, Bool.and_false, Bool.false_eq_true, if_false]
          exact Ev.now _
      · simp only [Bool.not_eq_true] at h3
        simp only [h3, Bool.false_and, Bool.false_eq_true, if_false]
        exact Ev.now _
    · simp only [show ¬ ((l[i].length : Int) = 2) by omega, h2, decide_false, Bool.false_and, if_false]
      exact Ev.now _
theorem spec_l01Is_ev (a : Int) (l : List (List Int)) (hl : l.length ≤ maxLen) : Ev (fun k => spec_l01Is.f k a l) (isG a l) := by
  unfold spec_l01Is.f isG
  simp only [l01In_eq, Option.bind_some]
  have hj : ∀ b, Ev (fun k => spec_l01Is.j0 k b a l) (!b && l.all (edgeIn a)) := by
    intro b
    refine Ev.step (fun k => by simp only [spec_l01Is.j0]; rfl) ?_
    cases b with
    | true => simp only [if_true, Bool.not_true, Bool.false_and]; exact Ev.now _
    | false =>
      simp only [Bool.false_eq_true, if_false, Bool.not_false, Bool.true_and]
      exact spec_l01Is_l0 a l hl l.length 0 (by omega) (by omega)
  by_cases h1 : 1 ≤ a
  · by_cases h2 : a ≤ 8
    · simp only [h1, h2, decide_true, Bool.true_and, if_true]
      have h := hj (decide ((l.length : Int) > 10))
      have e : (!decide ((l.length : Int) > 10)) = decide (l.length ≤ 10) := by
        by_cases h : l.length ≤ 10
        · simp [h]; omega
        · simp [h]; omega
      rw [e] at h
      exact h
    · simp only [h1, h2, decide_true, decide_false, Bool.true_and, Bool.false_and, Bool.false_eq_true, if_false]
      exact hj true
  · simp only [h1, decide_false, Bool.false_and, Bool.false_eq_true, if_false]
    exact hj true
def chipsOK (a : Int) (c : List Int) : Bool := decide ((c.length : Int) = a) && !(c.any badChip)
theorem badChip_eq (x : Int) : (decide (-200 ≤ x) && decide (x ≤ 200)) = !badChip x := by unfold badChip; simp
theorem l10Chips_l1 (a : Int) (l : List (List Int)) (c : List Int) (hc : c.length ≤ maxLen) : ∀ (d i : Nat), c.length - i = d → i ≤ c.length → Ev (fun k => spec_l10Chips.l1 k [c] 0 i a l) (if (c.drop i).any badChip then 2 else 0) := by
  unfold maxLen at hc
  intro d
  induction d with
  | zero =>
    intro i hd hi
    refine Ev.step (fun k => by simp only [spec_l10Chips.l1]; rfl) ?_
    simp only [show (0 : Int) ≤ 0 by omega, show ((0 : Int) < (([c] : List (List Int)).length : Int)) by simp, if_true, show rd_L1 [c] 0 = c from rfl, show ¬ ((i : Int) < (c.length : Int)) by omega, if_false, List.drop_of_length_le (show c.length ≤ i by omega), List.any_nil, Bool.false_eq_true]
    refine Ev.step (fun k => by simp only [spec_l10Chips.l0]; rfl) ?_
    simp only [w64 (show -9223372036854775808 ≤ (0 : Int) + 1 by omega) (by omega), show ¬ ((0 : Int) + 1 < (([c] : List (List Int)).length : Int)) by simp, if_false]
    exact Ev.now _
  | succ d ih =>
    intro i hd hi
    have hil : i < c.length := by omega
    refine Ev.step (fun k => by simp only [spec_l10Chips.l1]; rfl) ?_
    simp only [show (0 : Int) ≤ 0 by omega, show ((0 : Int) < (([c] : List (List Int)).length : Int)) by simp, if_true, show rd_L1 [c] 0 = c from rfl, show ((i : Int) < (c.length : Int)) by omega, show (0 : Int) ≤ (i : Int) by omega, l01In_eq, Option.bind_some, rd_nat c i hil, w64 (show -9223372036854775808 ≤ (i : Int) + 1 by omega) (by omega), badChip_eq]
    rw [List.drop_eq_getElem_cons hil, List.any_cons]
    cases hb : badChip c[i] with
    | true => simp only [Bool.not_true, Bool.false_eq_true, if_false, Bool.true_or, if_true]; exact Ev.now _
    | false => simp only [Bool.not_false, if_true, Bool.false_or]; exact ih (i + 1) (by omega) (by omega)
theorem l10Chips_ev (a : Int) (l : List (List Int)) (c : List Int) (hl : l.length ≤ maxLen) (hc : c.length ≤ maxLen) : Ev (fun k => spec_l10Chips.f k a l [c]) (if isG a l then if chipsOK a c then 0 else 2 else 1) := by
  unfold spec_l10Chips.f
  refine Ev.bind (spec_l01Is_ev a l hl) ?_
  cases isG a l with
  | false => simp only [Bool.false_eq_true, if_false]; exact Ev.now _
  | true =>
    simp only [if_true]
    refine Ev.step (fun k => by simp only [spec_l10Chips.l0]; rfl) ?_
    simp only [show ((0 : Int) < (([c] : List (List Int)).length : Int)) by simp, show (0 : Int) ≤ 0 by omega, if_true, show rd_L1 [c] 0 = c from rfl]
    unfold chipsOK
    by_cases h : (c.length : Int) = a
    · simp only [h, if_true, decide_true, Bool.true_and]
      have := l10Chips_l1 a l c hc c.length 0 (by omega) (by omega)
      rw [List.drop_zero] at this
      cases hb : c.any badChip with
      | true => simp only [hb, if_true] at this; simp only [Bool.not_true, Bool.false_eq_true, if_false]; exact this
      | false => simp only [hb, Bool.false_eq_true, if_false] at this; simp only [Bool.not_false, if_true]; exact this
    · simp only [h, if_false, decide_false, Bool.false_and, Bool.false_eq_true]
      exact Ev.now _
def listOK (m : Int) (c : List Int) : Bool := c.all fun x => decide (-m ≤ x) && decide (x ≤ m)
theorem l04List_l0 (m : Int) (hm : 0 ≤ m) (hm1 : m ≤ 1048576) (a : Int) (l : List (List Int)) (c : List Int) (hc : c.length ≤ maxLen) : ∀ (d i : Nat), c.length - i = d → i ≤ c.length → Ev (fun k => spec_l04List.l0 k c m i a l) (listOK m (c.drop i) && ((c.length : Int) == (l.length : Int))) := by
  unfold maxLen at hc
  intro d
  induction d with
  | zero =>
    intro i hd hi
    refine Ev.step (fun k => by simp only [spec_l04List.l0]; rfl) ?_
    simp only [show ¬ ((i : Int) < (c.length : Int)) by omega, if_false, List.drop_of_length_le (show c.length ≤ i by omega), listOK, List.all_nil, Bool.true_and]
    exact Ev.now _
  | succ d ih =>
    intro i hd hi
    have hil : i < c.length := by omega
    refine Ev.step (fun k => by simp only [spec_l04List.l0]; rfl) ?_
    have hdrop : listOK m (c.drop i) = ((decide (-m ≤ c[i]) && decide (c[i] ≤ m)) && listOK m (c.drop (i + 1))) := by unfold listOK; rw [List.drop_eq_getElem_cons hil, List.all_cons]
    rw [hdrop]
    simp only [show ((i : Int) < (c.length : Int)) by omega, show (0 : Int) ≤ (i : Int) by omega, if_true, l01In_eq, Option.bind_some, rd_nat c i hil, w64 (show -9223372036854775808 ≤ (i : Int) + 1 by omega) (by omega), w64 (show -9223372036854775808 ≤ -m by omega) (by omega)]
    cases hb : (decide (-m ≤ c[i]) && decide (c[i] ≤ m)) with
    | true => simp only [if_true, Bool.true_and]; exact ih (i + 1) (by omega) (by omega)
    | false => simp only [Bool.false_eq_true, if_false, Bool.false_and]; exact Ev.now _
theorem l04List_ev (m : Int) (hm : 0 ≤ m) (hm1 : m ≤ 1048576) (a : Int) (l : List (List Int)) (c : List Int) (hc : c.length ≤ maxLen) : Ev (fun k => spec_l04List.f k a l c m) (listOK m c && ((c.length : Int) == (l.length : Int))) := by
  have h := l04List_l0 m hm hm1 a l c hc c.length 0 (by omega) (by omega)
  rw [List.drop_zero] at h
  exact h
theorem l04Signs_l0 (c : List Int) (hc : c.length ≤ maxLen) : ∀ (d i : Nat), c.length - i = d → i ≤ c.length → Ev (fun k => spec_l04Signs.l0 k c i) (if (c.drop i).all (fun x => x != 0) then 0 else 2) := by
  unfold maxLen at hc
  intro d
  induction d with
  | zero =>
    intro i hd hi
    refine Ev.step (fun k => by simp only [spec_l04Signs.l0]; rfl) ?_
    simp only [show ¬ ((i : Int) < (c.length : Int)) by omega, if_false, List.drop_of_length_le (show c.length ≤ i by omega), List.all_nil, if_true]
    exact Ev.now _
  | succ d ih =>
    intro i hd hi
    have hil : i < c.length := by omega
    refine Ev.step (fun k => by simp only [spec_l04Signs.l0]; rfl) ?_
    rw [List.drop_eq_getElem_cons hil, List.all_cons]
    simp only [show ((i : Int) < (c.length : Int)) by omega, show (0 : Int) ≤ (i : Int) by omega, if_true, rd_nat c i hil, w64 (show -9223372036854775808 ≤ (i : Int) + 1 by omega) (by omega)]
    by_cases h0 : c[i] = 0
    · simp only [h0, if_true, bne_self_eq_false, Bool.false_and, Bool.false_eq_true, if_false]; exact Ev.now _
    · simp only [h0, if_false, show (c[i] != 0) = true by simpa using h0, Bool.true_and]; exact ih (i + 1) (by omega) (by omega)
def signsOK (l : List (List Int)) (c : List Int) : Bool := decide ((c.length : Int) = (l.length : Int)) && !(c.any badSign)
theorem signsOK_eq (l : List (List Int)) (c : List Int) : signsOK l c = ((listOK 1 c && ((c.length : Int) == (l.length : Int))) && c.all (fun x => x != 0)) := by
  have h : (!(c.any badSign)) = (listOK 1 c && c.all (fun x => x != 0)) := by
    induction c with
    | nil => rfl
    | cons x xs ih =>
      rw [List.any_cons, Bool.not_or, ih]
      unfold listOK
      rw [List.all_cons, List.all_cons]
      have hx : (!badSign x) = ((decide (-1 ≤ x) && decide (x ≤ 1)) && (x != 0)) := by
        rw [Bool.eq_iff_iff]
        simp [badSign]
        omega
      rw [hx]
      generalize (decide (-1 ≤ x) && decide (x ≤ 1)) = b1
      generalize (x != 0) = b2
      generalize (xs.all fun x => decide (-1 ≤ x) && decide (x ≤ 1)) = b3
      generalize (xs.all fun x => x != 0) = b4
      cases b1 <;> cases b2 <;> cases b3 <;> cases b4 <;> rfl
  unfold signsOK
  rw [h]
  have e : ((c.length : Int) == (l.length : Int)) = decide ((c.length : Int) = (l.length : Int)) := rfl
  rw [e]
  generalize decide ((c.length : Int) = (l.length : Int)) = b1
  generalize listOK 1 c = b2
  generalize (c.all fun x => x != 0) = b3
  cases b1 <;> cases b2 <;> cases b3 <;> rfl
theorem l04Signs_ev (a : Int) (l : List (List Int)) (c : List Int) (hl : l.length ≤ maxLen) (hc : c.length ≤ maxLen) : Ev (fun k => spec_l04Signs.f k a l c) (if isG a l then if signsOK l c then 0 else 2 else 1) := by
  unfold spec_l04Signs.f
  refine Ev.bind (spec_l01Is_ev a l hl) ?_
  cases isG a l with
  | false => simp only [Bool.false_eq_true, if_false]; exact Ev.now _
  | true =>
    simp only [if_true]
    refine Ev.bind (l04List_ev 1 (by omega) (by omega) a l c hc) ?_
    rw [signsOK_eq]
    cases (listOK 1 c && ((c.length : Int) == (l.length : Int))) with
    | false => simp only [Bool.false_and, Bool.false_eq_true, if_false]; exact Ev.now _
    | true =>
      simp only [if_true, Bool.true_and]
      have h := l04Signs_l0 c hc c.length 0 (by omega) (by omega)
      rw [List.drop_zero] at h
      exact h
theorem szInt64S_eq (l : List Int) (a : Int) (hl : l.length ≤ maxLen) (h0 : 0 ≤ a) (h1 : a ≤ 1048576) : laws_szInt64S.f l a = some (if a - (l.length : Int) < 0 then -1 else a - (l.length : Int)) := by
  unfold maxLen at hl
  unfold laws_szInt64S.f
  rw [w64 (by omega) (by omega)]
  split <;> rfl
theorem szDesk_ev (s : Int) (l : List (List Int)) (b c : List Int) (hl : l.length ≤ maxLen) (hx : ∀ x ∈ l, x.length ≤ maxLen) (hb : b.length ≤ maxLen) (hc : c.length ≤ maxLen) : ∃ r, Ev (fun k => laws_szDesk.f k s l b c 1048576) r ∧ (0 ≤ r → (l.length ≤ 1048576 ∧ ∀ x ∈ l, x.length ≤ 1048576) ∧ b.length ≤ 1048576 ∧ c.length ≤ 1048576) := by
  obtain ⟨r, hr, h2, h3, h4⟩ := szGraph_ev s l 1048576 (by omega) (by omega) hl hx
  unfold laws_szDesk.f
  by_cases hn : r < 0
  · exact ⟨-1, Ev.bind hr (by simp only [hn, if_true]; exact Ev.now _), fun h => by omega⟩
  · have e1 := szInt64S_eq b r hb (by omega) h2
    by_cases hn1 : r - (b.length : Int) < 0
    · rw [if_pos hn1] at e1
      exact ⟨-1, Ev.bind hr (by simp only [hn, if_false, e1, Option.bind_some, show ((-1 : Int) < 0) by omega, if_true]; exact Ev.now _), fun h => by omega⟩
    · rw [if_neg hn1] at e1
      have e2 := szInt64S_eq c (r - (b.length : Int)) hc (by omega) (by omega)
      by_cases hn2 : r - (b.length : Int) - (c.length : Int) < 0
      · rw [if_pos hn2] at e2
        exact ⟨-1, Ev.bind hr (by simp only [hn, if_false, e1, Option.bind_some, hn1, e2, show ((-1 : Int) < 0) by omega, if_true]; exact Ev.now _), fun h => by omega⟩
      · rw [if_neg hn2] at e2
        exact ⟨_, Ev.bind hr (by simp only [hn, if_false, e1, Option.bind_some, hn1, e2, hn2]; exact Ev.now _), fun h => ⟨h4 (by omega), by omega, by omega⟩⟩
theorem toDesk_ev (s : Int) (l : List (List Int)) (b c : List Int) (hl : l.length ≤ 1048576) (hx : ∀ x ∈ l, x.length ≤ 1048576) (hb : b.length ≤ 1048576) (hc : c.length ≤ 1048576) : Ev (fun k => laws_toDesk.f k s l b c) (s, l, b, c) := by
  unfold laws_toDesk.f
  refine Ev.bind (toGraph_ev s l (by omega) (fun x h => by have := hx x h; omega)) ?_
  refine Ev.bind (toInt64S_ev b (by omega)) (Ev.bind (toInt64S_ev c (by omega)) (Ev.now _))
theorem eqDesk_ev (s : Int) (l : List (List Int)) (b c : List Int) (hl : l.length ≤ maxLen) (hx : ∀ x ∈ l, x.length ≤ maxLen) (hb : b.length ≤ maxLen) (hc : c.length ≤ maxLen) : Ev (fun k => laws_eqDesk.f k s l b c s l b c) true := by
  unfold laws_eqDesk.f
  refine Ev.bind (eqGraph_ev s l hl hx) ?_
  simp only [if_true]
  refine Ev.bind (eqInt64S_ev b hb) ?_
  simp only [if_true]
  refine Ev.bind (eqInt64S_ev c hc) ?_
  simp only [if_true]
  exact Ev.now _
def deskOK (a : Int) (l : List (List Int)) (b c : List Int) : Bool := isG a l && (signsOK l b && chipsOK a c)
theorem spec_IsDesk_ev (a : Int) (l : List (List Int)) (b c : List Int) (hl : l.length ≤ maxLen) (hb : b.length ≤ maxLen) (hc : c.length ≤ maxLen) : Ev (fun k => spec_IsDesk.f k a l b c) (deskOK a l b c) := by
  unfold spec_IsDesk.f deskOK
  refine Ev.bind (l04Signs_ev a l b hl hb) ?_
  have h := l10Chips_ev a l c hl hc
  cases hG : isG a l with
  | false => simp only [Bool.false_eq_true, if_false, show ¬ ((1 : Int) = 0) by omega, Bool.false_and]; exact Ev.now _
  | true =>
    rw [hG] at h
    cases signsOK l b with
    | false => simp only [Bool.false_eq_true, if_false, if_true, show ¬ ((2 : Int) = 0) by omega, Bool.false_and, Bool.true_and]; exact Ev.now _
    | true =>
      simp only [if_true, Bool.true_and]
      refine Ev.bind h ?_
      cases chipsOK a c with
      | false => exact Ev.now _
      | true => exact Ev.now _
theorem impl_IsDesk_ev (a : Int) (l : List (List Int)) (b c : List Int) (hl : l.length ≤ maxLen) : Ev (fun k => impl_IsDesk.f k a l b c) (deskOK a l b c) := by
  unfold impl_IsDesk.f deskOK
  refine Ev.bind (impl_IsGraph_ev a l hl) ?_
  cases isG a l with
  | false => simp only [Bool.false_eq_true, if_false, Bool.false_and]; exact Ev.now _
  | true =>
    simp only [impl_Graph_areSigns.f, impl_Graph_areChips.f, if_true, Option.bind_some, Bool.true_and]
    rw [show (decide ((b.length : Int) = (l.length : Int)) && !b.any badSign) = signsOK l b from rfl, show (decide ((c.length : Int) = a) && !c.any badChip) = chipsOK a c from rfl]
    cases signsOK l b with
    | false => simp only [Bool.false_eq_true, if_false, Bool.false_and]; exact Ev.now _
    | true => simp only [if_true, Bool.true_and]; exact Ev.now _

def laws_FnExactIsDesk.Pure : Prop := ∀ (a0_0 : Int) (l0_1 : List (List Int)) (l0_2 : List Int) (l0_3 : List Int), (Lit.int .i64 a0_0).wf = true → l0_1.length ≤ maxLen → (∀ x ∈ l0_1, x.length ≤ maxLen ∧ ∀ n ∈ x, (Lit.int .i64 n).wf = true) → l0_2.length ≤ maxLen → (∀ n ∈ l0_2, (Lit.int .i64 n).wf = true) → l0_3.length ≤ maxLen → (∀ n ∈ l0_3, (Lit.int .i64 n).wf = true) → ∃ k, laws_FnExactIsDesk.f k a0_0 l0_1 l0_2 l0_3 = some true
end Go.Proofs.Ytdnlimmdhnaegaa.B
namespace Go.Proofs.Ytdnlimmdhnaegaa.Pure
open Go.RowKit Go.Proofs.YtdnlimmdhnaegaaW.PrintWords Go.Proofs.YtdnlimmdhnaegaaW.PrintLast Go.Proofs.YtdnlimmdhnaegaaW.PrintMore Go.Proofs.Ytdnlimmdhnaegaa.B
theorem FnExactIsDesk : laws_FnExactIsDesk.Pure := by
  intro a l b c _ hl hx hb _ hc _
  have hx' : ∀ x ∈ l, x.length ≤ maxLen := fun x h => (hx x h).1
  refine Ev.rounds (r := true) ?_
  unfold laws_FnExactIsDesk.f
  obtain ⟨r, hr, h4⟩ := szDesk_ev a l b c hl hx' hb hc
  refine Ev.bind hr ?_
  by_cases hn : r < 0
  · simp only [hn, if_true]; exact Ev.now _
  · simp only [hn, if_false]
    obtain ⟨⟨s1, s2⟩, s3, s4⟩ := h4 (by omega)
    have g := toDesk_ev a l b c s1 s2 s3 s4
    refine Ev.bind g (Ev.bind (spec_IsDesk_ev a l b c hl hb hc) (Ev.bind g (Ev.bind (impl_IsDesk_ev a l b c hl) ?_)))
    simp only [bne_self_eq_false, Bool.false_eq_true, if_false]
    refine Ev.bind g (Ev.bind (eqDesk_ev a l b c hl hx' hb hc) ?_)
    simp only [if_true]
    exact Ev.now _

end Go.Proofs.Ytdnlimmdhnaegaa.Pure
