/- Plain lemmas on the Lean functions that FnExactIsConnectedCover reaches, and its pure statement. No condition. -/
import Derived.Test.YtdnlimmdhnaegaaIx
namespace Go.Proofs.Ytdnlimmdhnaegaa.I
open Go.RowKit Go.Proofs.YtdnlimmdhnaegaaW.PrintWords Go.Proofs.YtdnlimmdhnaegaaW.PrintLast Go.Proofs.YtdnlimmdhnaegaaW.PrintMore
set_option linter.unusedVariables false
set_option linter.unusedSimpArgs false
theorem w64 {n : Int} (h0 : -9223372036854775808 ≤ n) (h1 : n ≤ 9223372036854775807) : wrap64 n = n := IntWalk.wrap64_in n ⟨h0, h1⟩
theorem fuel {k n : Nat} (h : n < k) : ∃ m, k = m + 1 ∧ n ≤ m := ⟨k - 1, by omega, by omega⟩
theorem rd_nat (l : List Int) (i : Nat) (h : i < l.length) : rd l (i : Int) = l[i] := by
  simp [rd, List.getD_eq_getElem?_getD, h]
theorem rdL1_nat (l : List (List Int)) (i : Nat) (h : i < l.length) : rd_L1 l (i : Int) = l[i] := by
  simp [rd_L1, List.getD_eq_getElem?_getD, h]
theorem take_set {α : Type} (x l : List α) (i : Nat) (hx : x.length = l.length) (hi : i < l.length) (h : x.take i = l.take i) : (x.set i l[i]).take (i + 1) = l.take (i + 1) := by
  apply List.ext_getElem?
  intro j
  rw [List.getElem?_take, List.getElem?_take]
  by_cases hj : j < i + 1
  · rw [if_pos hj, if_pos hj]
    by_cases hji : j = i
    · subst hji
      rw [List.getElem?_set_self (by omega), List.getElem?_eq_getElem hi]
    · rw [List.getElem?_set_ne (by omega)]
      have h2 := congrArg (fun z => z[j]?) h
      simp only [List.getElem?_take] at h2
      rwa [if_pos (by omega), if_pos (by omega)] at h2
  · rw [if_neg hj, if_neg hj]

theorem toInt64S_l0 (l : List Int) (hl : l.length ≤ 35184372088832) : ∀ (d k i : Nat) (x : List Int), l.length - i = d → d < k → i ≤ l.length → x.length = l.length → x.take i = l.take i → laws_toInt64S.l0 k l x i = some l := by
  intro d
  induction d with
  | zero =>
    intro k i x hd hk hi hx ht
    obtain ⟨m, rfl, hm⟩ := fuel hk
    simp only [laws_toInt64S.l0]
    rw [if_neg (by omega)]
    rw [List.take_of_length_le (by omega), List.take_of_length_le (by omega)] at ht
    rw [ht]
  | succ d ih =>
    intro k i x hd hk hi hx ht
    obtain ⟨m, rfl, hm⟩ := fuel hk
    have hil : i < l.length := by omega
    simp only [laws_toInt64S.l0]
    rw [if_pos (by omega), if_pos (by omega), if_pos (by omega), w64 (by omega) (by omega), rd_nat l i hil, Int.toNat_natCast]
    exact ih m (i + 1) _ (by omega) (by omega) (by omega) (by simp [hx]) (take_set x l i hx hil ht)
theorem toInt64S_ev (l : List Int) (hl : l.length ≤ 35184372088832) : Ev (fun k => laws_toInt64S.f k l) l := by
  refine Ev.of (laws_toInt64S.mono l) (k := l.length + 1) ?_
  unfold laws_toInt64S.f
  rw [if_pos (by omega), if_pos (by simpa using hl)]
  exact toInt64S_l0 l hl l.length _ 0 _ (by omega) (by omega) (by omega) (by simp) (by simp)
theorem toInt64SS_l0 (l : List (List Int)) (hl : l.length ≤ 11728124029610) (hx : ∀ x ∈ l, x.length ≤ 35184372088832) : ∀ (d i : Nat) (x : List (List Int)), l.length - i = d → i ≤ l.length → x.length = l.length → x.take i = l.take i → Ev (fun k => laws_toInt64SS.l0 k l x i) l := by
  intro d
  induction d with
  | zero =>
    intro i x hd hi hx ht
    refine Ev.step (fun k => by simp only [laws_toInt64SS.l0]; rfl) ?_
    rw [List.take_of_length_le (by omega), List.take_of_length_le (by omega)] at ht
    simp only [show ¬ ((i : Int) < (l.length : Int)) by omega, if_false, ht]
    exact Ev.now l
  | succ d ih =>
    intro i x hd hi hx' ht
    have hil : i < l.length := by omega
    refine Ev.step (fun k => by simp only [laws_toInt64SS.l0]; rfl) ?_
    simp only [show ((i : Int) < (l.length : Int)) by omega, show (0 : Int) ≤ (i : Int) by omega, show ((i : Int) < (x.length : Int)) by omega, if_true, Int.toNat_natCast, w64 (show -9223372036854775808 ≤ (i : Int) + 1 by omega) (by omega), rdL1_nat l i hil]
    refine Ev.bind (toInt64S_ev l[i] (hx _ (List.getElem_mem hil))) ?_
    exact ih (i + 1) _ (by omega) (by omega) (by simp [hx']) (take_set x l i hx' hil ht)
theorem toInt64SS_ev (l : List (List Int)) (hl : l.length ≤ 11728124029610) (hx : ∀ x ∈ l, x.length ≤ 35184372088832) : Ev (fun k => laws_toInt64SS.f k l) l := by
  unfold laws_toInt64SS.f
  simp only [show (0 : Int) ≤ (l.length : Int) by omega, if_true, Int.toNat_natCast, hl]
  exact toInt64SS_l0 l hl hx l.length 0 _ (by omega) (by omega) (by simp) (by simp)
theorem toGraph_ev (a : Int) (l : List (List Int)) (hl : l.length ≤ 11728124029610) (hx : ∀ x ∈ l, x.length ≤ 35184372088832) : Ev (fun k => laws_toGraph.f k a l) (a, l) := by
  unfold laws_toGraph.f
  exact Ev.bind (toInt64SS_ev l hl hx) (Ev.now _)

theorem szInt64SS_l0 (l : List (List Int)) (hl : l.length ≤ maxLen) (hx : ∀ x ∈ l, x.length ≤ maxLen) : ∀ (d i : Nat) (a : Int), l.length - i = d → i ≤ l.length → 0 ≤ a → a ≤ 1048576 → ∃ r, Ev (fun k => laws_szInt64SS.l0 k l a i) r ∧ r ≤ 1048576 ∧ -1 ≤ r ∧ (0 ≤ r → ∀ x ∈ l.drop i, x.length ≤ 1048576) := by
  unfold maxLen at hl hx
  intro d
  induction d with
  | zero =>
    intro i a hd hi h0 h1
    refine ⟨a, Ev.step (fun k => by simp only [laws_szInt64SS.l0]; rfl) ?_, h1, by omega, fun _ x hx => ?_⟩
    · simp only [show ¬ ((i : Int) < (l.length : Int)) by omega, if_false]
      exact Ev.now _
    · rw [List.drop_of_length_le (by omega)] at hx; simp at hx
  | succ d ih =>
    intro i a hd hi h0 h1
    have hil : i < l.length := by omega
    have hxl := hx _ (List.getElem_mem hil)
    have hs : laws_szInt64S.f l[i] a = some (if a - (l[i].length : Int) < 0 then -1 else a - (l[i].length : Int)) := by
      unfold laws_szInt64S.f
      rw [w64 (by omega) (by omega)]
      split <;> rfl
    by_cases hn : a - (l[i].length : Int) < 0
    · rw [if_pos hn] at hs
      refine ⟨-1, Ev.step (fun k => by simp only [laws_szInt64SS.l0]; rfl) ?_, by omega, by omega, fun h => by omega⟩
      simp only [show ((i : Int) < (l.length : Int)) by omega, show (0 : Int) ≤ (i : Int) by omega, if_true, rdL1_nat l i hil, hs, Option.bind_some]
      exact Ev.now _
    · rw [if_neg hn] at hs
      obtain ⟨r, hr, h2, h3, h4⟩ := ih (i + 1) (a - (l[i].length : Int)) (by omega) (by omega) (by omega) (by omega)
      refine ⟨r, Ev.step (fun k => by simp only [laws_szInt64SS.l0]; rfl) ?_, h2, h3, fun h x hx => ?_⟩
      · simp only [show ((i : Int) < (l.length : Int)) by omega, show (0 : Int) ≤ (i : Int) by omega, if_true, rdL1_nat l i hil, hs, Option.bind_some, hn, if_false, w64 (show -9223372036854775808 ≤ (i : Int) + 1 by omega) (by omega)]
        exact hr
      · rw [List.drop_eq_getElem_cons hil] at hx
        rcases List.mem_cons.1 hx with rfl | hx
        · omega
        · exact h4 h x hx
/-- The sizes that the law lets by. -/
theorem szInt64SS_ev (l : List (List Int)) (a : Int) (ha : 0 ≤ a) (ha1 : a ≤ 1048576) (hl : l.length ≤ maxLen) (hx : ∀ x ∈ l, x.length ≤ maxLen) : ∃ r, Ev (fun k => laws_szInt64SS.f k l a) r ∧ r ≤ 1048576 ∧ -1 ≤ r ∧ (0 ≤ r → l.length ≤ 1048576 ∧ ∀ x ∈ l, x.length ≤ 1048576) := by
  have hl' := hl
  unfold maxLen at hl'
  unfold laws_szInt64SS.f
  rw [w64 (by omega) (by omega)]
  by_cases hn : a - (l.length : Int) < 0
  · refine ⟨-1, ?_, by omega, by omega, fun h => by omega⟩
    simp only [hn, if_true]
    exact Ev.now _
  · obtain ⟨r, hr, h2, h3, h4⟩ := szInt64SS_l0 l hl hx l.length 0 (a - (l.length : Int)) (by omega) (by omega) (by omega) (by omega)
    refine ⟨r, ?_, h2, h3, fun h => ⟨by omega, by simpa using h4 h⟩⟩
    simp only [hn, if_false]
    exact hr
theorem szGraph_ev (s : Int) (l : List (List Int)) (a : Int) (ha : 0 ≤ a) (ha1 : a ≤ 1048576) (hl : l.length ≤ maxLen) (hx : ∀ x ∈ l, x.length ≤ maxLen) : ∃ r, Ev (fun k => laws_szGraph.f k s l a) r ∧ r ≤ 1048576 ∧ -1 ≤ r ∧ (0 ≤ r → l.length ≤ 1048576 ∧ ∀ x ∈ l, x.length ≤ 1048576) := by
  obtain ⟨r, hr, h2, h3, h4⟩ := szInt64SS_ev l a ha ha1 hl hx
  unfold laws_szGraph.f
  by_cases hn : r < 0
  · refine ⟨-1, Ev.bind hr ?_, by omega, by omega, fun h => by omega⟩
    simp only [hn, if_true]
    exact Ev.now _
  · refine ⟨r, Ev.bind hr ?_, h2, h3, h4⟩
    simp only [hn, if_false]
    exact Ev.now _
/-- Equal lists are told equal. -/
theorem eqInt64S_l0 (l : List Int) (hl : l.length ≤ maxLen) : ∀ (d i : Nat), l.length - i = d → i ≤ l.length → Ev (fun k => laws_eqInt64S.l0 k l l i) true := by
  unfold maxLen at hl
  intro d
  induction d with
  | zero =>
    intro i hd hi
    refine Ev.step (fun k => by simp only [laws_eqInt64S.l0]; rfl) ?_
    simp only [show ¬ ((i : Int) < (l.length : Int)) by omega, if_false]
    exact Ev.now _
  | succ d ih =>
    intro i hd hi
    refine Ev.step (fun k => by simp only [laws_eqInt64S.l0]; rfl) ?_
    simp only [show ((i : Int) < (l.length : Int)) by omega, show (0 : Int) ≤ (i : Int) by omega, if_true, w64 (show -9223372036854775808 ≤ (i : Int) + 1 by omega) (by omega)]
    exact ih (i + 1) (by omega) (by omega)
theorem eqInt64S_ev (l : List Int) (hl : l.length ≤ maxLen) : Ev (fun k => laws_eqInt64S.f k l l) true := by
  unfold laws_eqInt64S.f
  simp only [if_true]
  exact eqInt64S_l0 l hl l.length 0 (by omega) (by omega)
theorem eqInt64SS_l0 (l : List (List Int)) (hl : l.length ≤ maxLen) (hx : ∀ x ∈ l, x.length ≤ maxLen) : ∀ (d i : Nat), l.length - i = d → i ≤ l.length → Ev (fun k => laws_eqInt64SS.l0 k l l i) true := by
  unfold maxLen at hl
  intro d
  induction d with
  | zero =>
    intro i hd hi
    refine Ev.step (fun k => by simp only [laws_eqInt64SS.l0]; rfl) ?_
    simp only [show ¬ ((i : Int) < (l.length : Int)) by omega, if_false]
    exact Ev.now _
  | succ d ih =>
    intro i hd hi
    have hil : i < l.length := by omega
    refine Ev.step (fun k => by simp only [laws_eqInt64SS.l0]; rfl) ?_
    simp only [show ((i : Int) < (l.length : Int)) by omega, show (0 : Int) ≤ (i : Int) by omega, if_true, w64 (show -9223372036854775808 ≤ (i : Int) + 1 by omega) (by omega), rdL1_nat l i hil]
    refine Ev.bind (eqInt64S_ev l[i] (hx _ (List.getElem_mem hil))) ?_
    simp only [if_true]
    exact ih (i + 1) (by omega) (by omega)
theorem eqInt64SS_ev (l : List (List Int)) (hl : l.length ≤ maxLen) (hx : ∀ x ∈ l, x.length ≤ maxLen) : Ev (fun k => laws_eqInt64SS.f k l l) true := by
  unfold laws_eqInt64SS.f
  simp only [if_true]
  exact eqInt64SS_l0 l hl hx l.length 0 (by omega) (by omega)
theorem eqGraph_ev (a : Int) (l : List (List Int)) (hl : l.length ≤ maxLen) (hx : ∀ x ∈ l, x.length ≤ maxLen) : Ev (fun k => laws_eqGraph.f k a l a l) true := by
  unfold laws_eqGraph.f
  simp only [if_true]
  refine Ev.bind (eqInt64SS_ev l hl hx) ?_
  simp only [if_true]
  exact Ev.now _
/-! ### what a graph is -/
def endIn (a n : Int) : Bool := decide (0 ≤ n) && decide (n ≤ wrap64 (a - 1))
def edgeIn (a : Int) (e : List Int) : Bool := decide (e.length = 2) && (endIn a (rd e 0) && endIn a (rd e 1))
def isG (a : Int) (l : List (List Int)) : Bool := decide (1 ≤ a) && (decide (a ≤ 8) && (decide (l.length ≤ 10) && l.all (edgeIn a)))
theorem within_eq (a b c : Int) : impl_within.f a b c = some (decide (b ≤ a) && decide (a ≤ c)) := by
  unfold impl_within.f
  by_cases h : b ≤ a <;> simp [h]
theorem l01In_eq (a b c : Int) : spec_l01In.f a b c = some (decide (b ≤ a) && decide (a ≤ c)) := by
  unfold spec_l01In.f
  by_cases h : b ≤ a <;> simp [h]
theorem impl_IsGraph_l0 (a : Int) (l : List (List Int)) (hl : l.length ≤ maxLen) : ∀ (d i : Nat), l.length - i = d → i ≤ l.length → Ev (fun k => impl_IsGraph.l0 k l l.length i a l) ((l.drop i).all (edgeIn a) && (decide (1 ≤ a) && (decide (a ≤ 8) && decide (l.length ≤ 10)))) := by
  unfold maxLen at hl
  intro d
  induction d with
  | zero =>
    intro i hd hi
    refine Ev.step (fun k => by simp only [impl_IsGraph.l0]; rfl) ?_
    simp only [show ¬ ((i : Int) < (l.length : Int)) by omega, if_false, within_eq, Option.bind_some, List.drop_of_length_le (show l.length ≤ i by omega), List.all_nil, Bool.true_and]
    by_cases h1 : 1 ≤ a
    · by_cases h2 : a ≤ 8
      · simp only [h1, h2, decide_true, Bool.true_and, if_true]
        exact Ev.congr (fun k => by congr 1; simp; omega) (Ev.now _)
      · simp only [h1, h2, decide_true, decide_false, Bool.true_and, Bool.false_and, Bool.false_eq_true, if_false]
        exact Ev.now _
    · simp only [h1, decide_false, Bool.false_and, Bool.false_eq_true, if_false]
      exact Ev.now _
  | succ d ih =>
    intro i hd hi
    have hil : i < l.length := by omega
    refine Ev.step (fun k => by simp only [impl_IsGraph.l0]; rfl) ?_
    have hdrop : (l.drop i).all (edgeIn a) = (edgeIn a l[i] && (l.drop (i + 1)).all (edgeIn a)) := by rw [List.drop_eq_getElem_cons hil, List.all_cons]
    rw [hdrop]
    simp only [show ((i : Int) < (l.length : Int)) by omega, show (0 : Int) ≤ (i : Int) by omega, if_true, w64 (show -9223372036854775808 ≤ (i : Int) + 1 by omega) (by omega), rdL1_nat l i hil, within_eq, Option.bind_some]
    unfold edgeIn endIn
    by_cases h2 : l[i].length = 2
    · simp only [h2, decide_true, Bool.true_and, show ((2 : Nat) : Int) = 2 from rfl, if_true, show (0 : Int) < 2 by omega, show (1 : Int) < 2 by omega]
      by_cases h3 : (decide (0 ≤ rd l[i] 0) && decide (rd l[i] 0 ≤ wrap64 (a - 1))) = true
      · by_cases h4 : (decide (0 ≤ rd l[i] 1) && decide (rd l[i] 1 ≤ wrap64 (a - 1))) = true
        · simp only [h3, h4, if_true, Bool.true_and]
          exact ih (i + 1) (by omega) (by omega)
        · simp only [Bool.not_eq_true] at h4
          simp only [h3, h4, if_true, Bool.false_and, Bool.and_false, Bool.false_eq_true, if_false]
          exact Ev.now _
      · simp only [Bool.not_eq_true] at h3
        simp only [h3, Bool.false_and, Bool.false_eq_true, if_false]
        exact Ev.now _
    · simp only [show ¬ ((l[i].length : Int) = 2) by omega, h2, decide_false, Bool.false_and, if_false]
      exact Ev.now _
theorem impl_IsGraph_ev (a : Int) (l : List (List Int)) (hl : l.length ≤ maxLen) : Ev (fun k => impl_IsGraph.f k a l) (isG a l) := by
  unfold impl_IsGraph.f
  have h := impl_IsGraph_l0 a l hl l.length 0 (by omega) (by omega)
  have e : ((l.drop 0).all (edgeIn a) && (decide (1 ≤ a) && (decide (a ≤ 8) && decide (l.length ≤ 10)))) = isG a l := by
    unfold isG
    rw [List.drop_zero]
    cases l.all (edgeIn a) <;> simp
  rw [e] at h
  exact h
theorem spec_l01Is_l0 (a : Int) (l : List (List Int)) (hl : l.length ≤ maxLen) : ∀ (d i : Nat), l.length - i = d → i ≤ l.length → Ev (fun k => spec_l01Is.l0 k i a l) ((l.drop i).all (edgeIn a)) := by
  unfold maxLen at hl
  intro d
  induction d with
  | zero =>
    intro i hd hi
    refine Ev.step (fun k => by simp only [spec_l01Is.l0]; rfl) ?_
    simp only [show ¬ ((i : Int) < (l.length : Int)) by omega, if_false, List.drop_of_length_le (show l.length ≤ i by omega), List.all_nil]
    exact Ev.now _
  | succ d ih =>
    intro i hd hi
    have hil : i < l.length := by omega
    refine Ev.step (fun k => by simp only [spec_l01Is.l0]; rfl) ?_
    have hdrop : (l.drop i).all (edgeIn a) = (edgeIn a l[i] && (l.drop (i + 1)).all (edgeIn a)) := by rw [List.drop_eq_getElem_cons hil, List.all_cons]
    rw [hdrop]
    simp only [show ((i : Int) < (l.length : Int)) by omega, show (0 : Int) ≤ (i : Int) by omega, if_true, w64 (show -9223372036854775808 ≤ (i : Int) + 1 by omega) (by omega), rdL1_nat l i hil, l01In_eq, Option.bind_some]
    unfold edgeIn endIn
    by_cases h2 : l[i].length = 2
    · simp only [h2, decide_true, Bool.true_and, show ((2 : Nat) : Int) = 2 from rfl, if_true, show (0 : Int) < 2 by omega, show (1 : Int) < 2 by omega]
      by_cases h3 : (decide (0 ≤ rd l[i] 0) && decide (rd l[i] 0 ≤ wrap64 (a - 1))) = true
      · by_cases h4 : (decide (0 ≤ rd l[i] 1) && decide (rd l[i] 1 ≤ wrap64 (a - 1))) = true
        · simp only [h3, h4, if_true, Bool.true_and]
          exact ih (i + 1) (by omega) (by omega)
        · simp only [Bool.not_eq_true] at h4
          simp only [h3, h4, if_true, Bool.false_and, Bool.and_false, Bool.false_eq_true, if_false]
          exact Ev.now _
      · simp only [Bool.not_eq_true] at h3
        simp only [h3, Bool.false_and, Bool.false_eq_true, if_false]
        exact Ev.now _
    · simp only [show ¬ ((l[i].length : Int) = 2) by omega, h2, decide_false, Bool.false_and, if_false]
      exact Ev.now _
theorem spec_l01Is_ev (a : Int) (l : List (List Int)) (hl : l.length ≤ maxLen) : Ev (fun k => spec_l01Is.f k a l) (isG a l) := by
  unfold spec_l01Is.f isG
  simp only [l01In_eq, Option.bind_some]
  have hj : ∀ b, Ev (fun k => spec_l01Is.j0 k b a l) (!b && l.all (edgeIn a)) := by
    intro b
    refine Ev.step (fun k => by simp only [spec_l01Is.j0]; rfl) ?_
    cases b with
    | true => simp only [if_true, Bool.not_true, Bool.false_and]; exact Ev.now _
    | false =>
      simp only [Bool.false_eq_true, if_false, Bool.not_false, Bool.true_and]
      exact spec_l01Is_l0 a l hl l.length 0 (by omega) (by omega)
  by_cases h1 : 1 ≤ a
  · by_cases h2 : a ≤ 8
    · simp only [h1, h2, decide_true, Bool.true_and, if_true]
      have h := hj (decide ((l.length : Int) > 10))
      have e : (!decide ((l.length : Int) > 10)) = decide (l.length ≤ 10) := by
        by_cases h : l.length ≤ 10
        · simp [h]; omega
        · simp [h]; omega
      rw [e] at h
      exact h
    · simp only [h1, h2, decide_true, decide_false, Bool.true_and, Bool.false_and, Bool.false_eq_true, if_false]
      exact hj true
  · simp only [h1, decide_false, Bool.false_and, Bool.false_eq_true, if_false]
    exact hj true
def two (l : List (List Int)) : Prop := ∀ x ∈ l, x.length = 2
theorem isG_two {a : Int} {l : List (List Int)} (h : isG a l = true) : two l := by
  intro x hx
  simp only [isG, Bool.and_eq_true, List.all_eq_true] at h
  have := h.2.2.2 x hx
  simp only [edgeIn, Bool.and_eq_true, decide_eq_true_eq] at this
  exact this.1
theorem isG_len {a : Int} {l : List (List Int)} (h : isG a l = true) : l.length ≤ 10 := by
  simp only [isG, Bool.and_eq_true, decide_eq_true_eq] at h
  exact h.2.2.1
theorem isG_size {a : Int} {l : List (List Int)} (h : isG a l = true) : 1 ≤ a ∧ a ≤ 8 := by
  simp only [isG, Bool.and_eq_true, decide_eq_true_eq] at h
  exact ⟨h.1, h.2.1⟩
theorem isG_edge {a : Int} {l : List (List Int)} (h : isG a l = true) {x : List Int} (hx : x ∈ l) : (0 ≤ rd x 0 ∧ rd x 0 ≤ a - 1) ∧ (0 ≤ rd x 1 ∧ rd x 1 ≤ a - 1) := by
  have hs := isG_size h
  simp only [isG, Bool.and_eq_true, List.all_eq_true] at h
  have := h.2.2.2 x hx
  simp only [edgeIn, endIn, Bool.and_eq_true, decide_eq_true_eq] at this
  rw [w64 (by omega) (by omega)] at this
  exact this.2
/-- The two ends of edge i of a graph, as numbers below n. -/
def endsIn (n : Nat) (l : List (List Int)) : Prop := ∀ i, i < l.length → (rd_L1 l (i : Int)).length = 2 ∧ ∃ u v : Nat, rd (rd_L1 l (i : Int)) 0 = u ∧ rd (rd_L1 l (i : Int)) 1 = v ∧ u < n ∧ v < n
theorem isG_ends {a : Int} {l : List (List Int)} (h : isG a l = true) : ∃ n : Nat, a = n ∧ 1 ≤ n ∧ n ≤ 8 ∧ endsIn n l := by
  have hs := isG_size h
  refine ⟨a.toNat, by omega, by omega, by omega, fun i hi => ?_⟩
  have hm : l[i] ∈ l := List.getElem_mem hi
  rw [rdL1_nat l i hi]
  have he := isG_edge h hm
  exact ⟨isG_two h _ hm, (rd l[i] 0).toNat, (rd l[i] 1).toNat, by omega, by omega, by omega, by omega⟩
theorem sub_of_all {n : Nat} {l : List Int} (hl : l.length = n) (h : ∀ x : Nat, x < n → (x : Int) ∈ l) : l.Nodup ∧ ∀ y ∈ l, 0 ≤ y ∧ y < n := by
  have hr : ((List.range n).map Int.ofNat).Nodup := by
    rw [List.Nodup, List.pairwise_map]
    exact List.nodup_range.imp (fun h e => h (Int.ofNat.inj e))
  have key : ∀ y ∈ l, (∀ x : Nat, x < n → (x : Int) = y → (x : Int) ∈ l.erase y) → False := by
    intro y hy hx
    have hs : ((List.range n).map Int.ofNat) ⊆ l.erase y := by
      intro z hz
      obtain ⟨x, hxn, rfl⟩ := List.mem_map.1 hz
      rw [List.mem_range] at hxn
      by_cases e : (x : Int) = y
      · exact hx x hxn e
      · exact (List.mem_erase_of_ne e).2 (h x hxn)
    have h1 := hr.length_le_of_subset hs
    rw [List.length_map, List.length_range, List.length_erase_of_mem hy] at h1
    have : 0 < l.length := List.length_pos_of_mem hy
    omega
  refine ⟨?_, fun y hy => ?_⟩
  · rw [List.nodup_iff_count]
    intro y
    by_cases hy : y ∈ l
    · by_cases hc : List.count y l ≤ 1
      · exact hc
      · exact (key y hy (fun x hx e => by
          rw [e]
          have : 0 < List.count y (l.erase y) := by rw [List.count_erase_self]; omega
          exact List.count_pos_iff.1 this)).elim
    · rw [List.count_eq_zero_of_not_mem hy]; omega
  · by_cases hb : 0 ≤ y ∧ y < n
    · exact hb
    · exact (key y hy (fun x hx e => by omega)).elim
theorem all_of_sub {n : Nat} {l : List Int} (hl : l.length = n) (hd : l.Nodup) (h : ∀ y ∈ l, 0 ≤ y ∧ y < n) (x : Nat) (hx : x < n) : (x : Int) ∈ l := by
  by_cases hm : (x : Int) ∈ l
  · exact hm
  · have hs : ((x : Int) :: l) ⊆ (List.range n).map Int.ofNat := by
      intro z hz
      rcases List.mem_cons.1 hz with rfl | hz
      · exact List.mem_map.2 ⟨x, List.mem_range.2 hx, rfl⟩
      · have := h z hz
        exact List.mem_map.2 ⟨z.toNat, List.mem_range.2 (by omega), by show ((z.toNat : Nat) : Int) = z; omega⟩
    have h1 := (List.nodup_cons.2 ⟨hm, hd⟩).length_le_of_subset hs
    rw [List.length_cons, List.length_map, List.length_range] at h1
    omega
/-- A list of n numbers that has each number less than n. -/
def isOrd (n : Nat) (l : List Int) : Bool := decide (l.length = n) && (List.range n).all fun x => decide ((x : Int) ∈ l)
theorem isOrd_iff (n : Nat) (l : List Int) : isOrd n l = true ↔ l.length = n ∧ l.Nodup ∧ ∀ y ∈ l, 0 ≤ y ∧ y < n := by
  unfold isOrd
  simp only [Bool.and_eq_true, decide_eq_true_eq, List.all_eq_true, List.mem_range]
  constructor
  · rintro ⟨h1, h2⟩
    obtain ⟨h3, h4⟩ := sub_of_all h1 h2
    exact ⟨h1, h3, h4⟩
  · rintro ⟨h1, h2, h3⟩
    exact ⟨h1, fun x hx => all_of_sub h1 h2 h3 x hx⟩
theorem index_l0 (l : List Int) (hl : l.length ≤ maxLen) (x : Int) : ∀ (d i : Nat), l.length - i = d → i ≤ l.length → ∃ r, Ev (fun k => slices_Index_int64_int64.l0 k l x (l.length : Int) i) r ∧ (0 ≤ r ↔ x ∈ l.drop i) := by
  unfold maxLen at hl
  intro d
  induction d with
  | zero =>
    intro i hd hi
    obtain rfl : i = l.length := by omega
    refine ⟨-1, Ev.step (fun k => by simp only [slices_Index_int64_int64.l0]; rfl) ?_, by simp⟩
    simp only [Int.lt_irrefl, if_false]
    exact Ev.now _
  | succ d ih =>
    intro i hd hi
    have hil : i < l.length := by omega
    rw [List.drop_eq_getElem_cons hil]
    by_cases hx : x = l[i]
    · refine ⟨(i : Int), Ev.step (fun k => by simp only [slices_Index_int64_int64.l0]; rfl) ?_, ⟨fun _ => List.mem_cons.2 (.inl hx), fun _ => by omega⟩⟩
      simp only [show ((i : Int) < (l.length : Int)) by omega, show (0 : Int) ≤ (i : Int) by omega, if_true, rd_nat l i hil, hx]
      exact Ev.now _
    · obtain ⟨r, h1, h2⟩ := ih (i + 1) (by omega) (by omega)
      refine ⟨r, Ev.step (fun k => by simp only [slices_Index_int64_int64.l0]; rfl) ?_, ⟨fun h => List.mem_cons.2 (.inr (h2.1 h)), fun h => h2.2 ((List.mem_cons.1 h).resolve_left hx)⟩⟩
      simp only [show ((i : Int) < (l.length : Int)) by omega, show (0 : Int) ≤ (i : Int) by omega, if_true, rd_nat l i hil, hx, if_false, w64 (show -9223372036854775808 ≤ (i : Int) + 1 by omega) (by omega)]
      exact h1
theorem contains_ev (l : List Int) (hl : l.length ≤ maxLen) (x : Int) : Ev (fun k => slices_Contains_int64_int64.f k l x) (decide (x ∈ l)) := by
  obtain ⟨r, h1, h2⟩ := index_l0 l hl x l.length 0 (by omega) (by omega)
  unfold slices_Contains_int64_int64.f
  refine Ev.bind h1 ?_
  rw [List.drop_zero] at h2
  rw [show decide (x ∈ l) = decide (r ≥ 0) from decide_eq_decide.2 h2.symm]
  exact Ev.now _
theorem isOrder_l0 (n : Nat) (hn : n ≤ 1048576) (l : List Int) (hl : l.length ≤ maxLen) : ∀ (d i : Nat), n - i = d → i ≤ n → (∀ x : Nat, x < i → (x : Int) ∈ l) → Ev (fun k => impl_isOrder.l0 k l n n i) (isOrd n l) := by
  intro d
  induction d with
  | zero =>
    intro i hd hi hx
    obtain rfl : i = n := by omega
    refine Ev.step (fun k => by simp only [impl_isOrder.l0]; rfl) ?_
    simp only [Int.lt_irrefl, if_false]
    have : isOrd i l = ((l.length : Int) == (i : Int)) := by
      have ha : ((List.range i).all fun x => decide ((x : Int) ∈ l)) = true := by
        simp only [List.all_eq_true, List.mem_range, decide_eq_true_eq]
        exact hx
      unfold isOrd
      rw [ha, Bool.and_true, Bool.eq_iff_iff]
      simp
      omega
    rw [this]
    exact Ev.now _
  | succ d ih =>
    intro i hd hi hx
    refine Ev.step (fun k => by simp only [impl_isOrder.l0]; rfl) ?_
    simp only [show ((i : Int) < (n : Int)) by omega, if_true]
    refine Ev.bind (contains_ev l hl (i : Int)) ?_
    by_cases hm : (i : Int) ∈ l
    · simp only [hm, decide_true, if_true, w64 (show -9223372036854775808 ≤ (i : Int) + 1 by omega) (by omega)]
      exact ih (i + 1) (by omega) (by omega) (fun x hxi => by
        by_cases e : x = i
        · subst e; exact hm
        · exact hx x (by omega))
    · simp only [hm, decide_false, Bool.false_eq_true, if_false]
      have : isOrd n l = false := by
        rw [Bool.eq_false_iff]
        intro h
        unfold isOrd at h
        simp only [Bool.and_eq_true, List.all_eq_true, List.mem_range, decide_eq_true_eq] at h
        exact hm (h.2 i (by omega))
      rw [this]
      exact Ev.now _
theorem isOrder_ev (n : Nat) (hn : n ≤ 1048576) (l : List Int) (hl : l.length ≤ maxLen) : Ev (fun k => impl_isOrder.f k l n) (isOrd n l) :=
  isOrder_l0 n hn l hl n 0 (by omega) (by omega) (fun x h => by omega)
/-- All in their place, none twice, none met. -/
def freshL (n : Nat) (l r : List Int) : Prop := (∀ y ∈ r, 0 ≤ y ∧ y < n) ∧ r.Nodup ∧ ∀ y ∈ r, y ∉ l
instance (n : Nat) (l r : List Int) : Decidable (freshL n l r) := by unfold freshL; exact inferInstance
theorem freshL_step (n : Nat) (l r : List Int) (x : Int) : freshL n l (x :: r) ↔ (0 ≤ x ∧ x < n) ∧ x ∉ l ∧ freshL n (l ++ [x]) r := by
  unfold freshL
  simp only [List.nodup_cons, List.mem_cons, List.mem_append, List.not_mem_nil, or_false, forall_eq_or_imp]
  constructor
  · rintro ⟨⟨h1, h2⟩, ⟨h3, h4⟩, h5, h6⟩
    exact ⟨h1, h5, h2, h4, fun y hy => by
      rintro (h | rfl)
      · exact h6 y hy h
      · exact h3 hy⟩
  · rintro ⟨h1, h2, h3, h4, h5⟩
    exact ⟨⟨h1, h3⟩, ⟨fun h => h5 x h (.inr rfl), h4⟩, h2, fun y hy h => h5 y hy (.inl h)⟩
theorem perm_l0 (n : Nat) (hn : n ≤ 4) (l : List Int) (hl : l.length ≤ 1048576) : ∀ (d i : Nat) (m : List Bool), l.length - i = d → i ≤ l.length → m.length = 4 → (∀ j : Nat, j < 4 → (m.getD j false = true ↔ (j : Int) ∈ l.take i)) → Ev (fun k => spec_l04Permutation.l0 k l n m i) (decide (freshL n (l.take i) (l.drop i))) := by
  intro d
  induction d with
  | zero =>
    intro i m hd hi hm hj
    obtain rfl : i = l.length := by omega
    refine Ev.step (fun k => by simp only [spec_l04Permutation.l0]; rfl) ?_
    simp only [Int.lt_irrefl, if_false]
    rw [show decide (freshL n (l.take l.length) (l.drop l.length)) = true from decide_eq_true (by simp [freshL])]
    exact Ev.now _
  | succ d ih =>
    intro i m hd hi hm hj
    have hil : i < l.length := by omega
    have e1 := freshL_step n (l.take i) (l.drop (i + 1)) l[i]
    rw [← List.drop_eq_getElem_cons hil] at e1
    refine Ev.step (fun k => by simp only [spec_l04Permutation.l0]; rfl) ?_
    simp only [show ((i : Int) < (l.length : Int)) by omega, show (0 : Int) ≤ (i : Int) by omega, if_true, rd_nat l i hil, l01In_eq, Option.bind_some, w64 (show -9223372036854775808 ≤ (n : Int) - 1 by omega) (by omega)]
    by_cases hb : 0 ≤ l[i] ∧ l[i] < n
    · have hx4 : l[i] < 4 := by omega
      obtain ⟨x, hx⟩ : ∃ x : Nat, l[i] = (x : Int) := ⟨l[i].toNat, by omega⟩
      have hb2 : (decide (0 ≤ l[i]) && decide (l[i] ≤ (n : Int) - 1)) = true := by
        simp only [Bool.and_eq_true, decide_eq_true_eq]; omega
      simp only [hb2, if_true]
      simp only [hb.1, hx4, if_true]
      have hjx := hj x (by omega)
      by_cases hmx : m.getD x false = true
      · rw [hx, Int.toNat_natCast]
        simp only [hmx, if_true]
        rw [show decide (freshL n (l.take i) (l.drop i)) = false from decide_eq_false (fun h => (e1.1 h).2.1 (by rw [hx]; exact hjx.1 hmx))]
        exact Ev.now _
      · have hmf : m.getD x false = false := by simpa using hmx
        have h := ih (i + 1) (m.set x true) (by omega) (by omega) (by rw [List.length_set]; exact hm) (fun j hj4 => by
          rw [List.take_succ_eq_append_getElem hil, List.mem_append, List.mem_singleton, hx]
          by_cases e : j = x
          · subst e; simp [hm, hj4]
          · rw [List.getD_eq_getElem?_getD, List.getElem?_set_ne (by omega), ← List.getD_eq_getElem?_getD, hj j hj4]
            simp [show ¬ ((j : Int) = (x : Int)) by omega])
        rw [List.take_succ_eq_append_getElem hil] at h
        rw [hx, Int.toNat_natCast]
        simp only [hmf, Bool.false_eq_true, if_false, w64 (show -9223372036854775808 ≤ (i : Int) + 1 by omega) (by omega)]
        rw [show decide (freshL n (l.take i) (l.drop i)) = decide (freshL n (l.take i ++ [l[i]]) (l.drop (i + 1))) from decide_eq_decide.2 (e1.trans ⟨fun h => h.2.2, fun h => ⟨hb, fun hc => hmx (hjx.2 (by rw [← hx]; exact hc)), h⟩⟩)]
        exact h
    · have hb2 : (decide (0 ≤ l[i]) && decide (l[i] ≤ (n : Int) - 1)) = false := by
        rw [Bool.and_eq_false_iff]
        by_cases h0 : 0 ≤ l[i]
        · right; rw [decide_eq_false_iff_not]; omega
        · left; rw [decide_eq_false_iff_not]; exact h0
      simp only [hb2, Bool.false_eq_true, if_false]
      rw [show decide (freshL n (l.take i) (l.drop i)) = false from decide_eq_false (fun h => hb (e1.1 h).1)]
      exact Ev.now _
theorem l04Permutation_ev (n : Nat) (hn : n ≤ 4) (l : List Int) : Ev (fun k => spec_l04Permutation.f k l n) (isOrd n l) := by
  unfold spec_l04Permutation.f
  by_cases h : (l.length : Int) = (n : Int)
  · simp only [h, if_true]
    have h1 := perm_l0 n hn l (by omega) l.length 0 (List.replicate 4 false) (by omega) (by omega) rfl (fun j hj => by
      rw [List.getD_eq_getElem?_getD, List.getElem?_replicate, if_pos hj]
      simp)
    rw [List.take_zero, List.drop_zero] at h1
    have e : isOrd n l = decide (freshL n [] l) := by
      rw [Bool.eq_iff_iff, isOrd_iff, decide_eq_true_eq]
      unfold freshL
      constructor
      · rintro ⟨_, h2, h3⟩; exact ⟨h3, h2, by simp⟩
      · rintro ⟨h2, h3, _⟩; exact ⟨by omega, h3, h2⟩
    rw [e]
    exact h1
  · simp only [h, if_false]
    rw [show isOrd n l = false from by
      rw [Bool.eq_false_iff]
      intro hc
      exact h (by have := ((isOrd_iff n l).1 hc).1; omega)]
    exact Ev.now _
def isCov (a : Int) (l : List (List Int)) (s : Int) (t : List (List Int)) : Bool := isG a l && ((decide (1 ≤ s) && decide (s ≤ 4)) && (decide ((t.length : Int) = (l.length : Int)) && t.all (isOrd s.toNat)))
theorem l04Is_l0 (n : Nat) (hn : n ≤ 4) (a : Int) (l t : List (List Int)) (ht : t.length ≤ maxLen) : ∀ (d i : Nat), t.length - i = d → i ≤ t.length → Ev (fun k => spec_l04Is.l0 k i a l n t) ((t.drop i).all (isOrd n)) := by
  unfold maxLen at ht
  intro d
  induction d with
  | zero =>
    intro i hd hi
    obtain rfl : i = t.length := by omega
    refine Ev.step (fun k => by simp only [spec_l04Is.l0]; rfl) ?_
    simp only [Int.lt_irrefl, if_false, List.drop_length, List.all_nil]
    exact Ev.now _
  | succ d ih =>
    intro i hd hi
    have hil : i < t.length := by omega
    refine Ev.step (fun k => by simp only [spec_l04Is.l0]; rfl) ?_
    simp only [show ((i : Int) < (t.length : Int)) by omega, show (0 : Int) ≤ (i : Int) by omega, if_true, rdL1_nat t i hil]
    refine Ev.bind (l04Permutation_ev n hn t[i]) ?_
    rw [List.drop_eq_getElem_cons hil, List.all_cons]
    cases isOrd n t[i] with
    | false => simp only [Bool.false_eq_true, if_false, Bool.false_and]; exact Ev.now _
    | true =>
      simp only [if_true, Bool.true_and, w64 (show -9223372036854775808 ≤ (i : Int) + 1 by omega) (by omega)]
      exact ih (i + 1) (by omega) (by omega)
theorem l04Is_ev (a : Int) (l : List (List Int)) (s : Int) (t : List (List Int)) (hl : l.length ≤ maxLen) (ht : t.length ≤ maxLen) : Ev (fun k => spec_l04Is.f k a l s t) (isCov a l s t) := by
  unfold spec_l04Is.f isCov
  refine Ev.bind (spec_l01Is_ev a l hl) ?_
  have hj : Ev (fun k => spec_l04Is.j0 k true a l s t) false := by
    refine Ev.step (fun k => by simp only [spec_l04Is.j0]; rfl) ?_
    simp only [if_true]
    exact Ev.now _
  cases isG a l with
  | false => simp only [Bool.false_eq_true, if_false, Bool.false_and]; exact hj
  | true =>
    simp only [if_true, Bool.true_and, l01In_eq, Option.bind_some]
    cases hb : (decide (1 ≤ s) && decide (s ≤ 4)) with
    | false => simp only [Bool.false_eq_true, if_false, Bool.false_and]; exact hj
    | true =>
      simp only [Bool.and_eq_true, decide_eq_true_eq] at hb
      obtain ⟨n, rfl⟩ : ∃ n : Nat, s = n := ⟨s.toNat, by omega⟩
      simp only [if_true, Bool.true_and, Int.toNat_natCast]
      refine Ev.step (fun k => by simp only [spec_l04Is.j0]; rfl) ?_
      by_cases h : (t.length : Int) = (l.length : Int)
      · simp only [h, decide_true, Bool.true_and, bne_self_eq_false, Bool.false_eq_true, if_false]
        have := l04Is_l0 n (by omega) a l t ht t.length 0 (by omega) (by omega)
        rwa [List.drop_zero] at this
      · simp only [h, decide_false, Bool.false_and, show ((t.length : Int) != (l.length : Int)) = true from bne_iff_ne.2 h, if_true]
        exact Ev.now _
theorem idxM_ev (p : List Int → Bool) (f : Nat → List Int → Option Bool) (t : List (List Int)) (h : ∀ x ∈ t, Ev (fun k => f k x) (p x)) : ∀ k0 : Nat, ∃ r, Ev (fun k => idxM (f k) t k0) r ∧ decide (0 ≤ r) = t.any p := by
  induction t with
  | nil => exact fun k0 => ⟨-1, Ev.now _, rfl⟩
  | cons x xs ih =>
    intro k0
    cases hx : p x with
    | true =>
      refine ⟨(k0 : Int), ?_, by rw [List.any_cons, hx]; simp⟩
      have h1 := h x (List.mem_cons_self)
      rw [hx] at h1
      refine Ev.bind h1 ?_
      simp only [if_true]
      exact Ev.now _
    | false =>
      obtain ⟨r, h2, h3⟩ := ih (fun y hy => h y (List.mem_cons_of_mem _ hy)) (k0 + 1)
      refine ⟨r, ?_, by rw [List.any_cons, hx, Bool.false_or]; exact h3⟩
      have h1 := h x (List.mem_cons_self)
      rw [hx] at h1
      refine Ev.bind h1 ?_
      simp only [Bool.false_eq_true, if_false]
      exact h2
theorem isCover_ev (a : Int) (l : List (List Int)) (s : Int) (t : List (List Int)) (hl : l.length ≤ maxLen) (ht : t.length ≤ maxLen) (hx : ∀ x ∈ t, x.length ≤ maxLen) : Ev (fun k => impl_IsCover.f k a l s t) (isCov a l s t) := by
  unfold impl_IsCover.f isCov
  refine Ev.bind (impl_IsGraph_ev a l hl) ?_
  cases isG a l with
  | false => simp only [Bool.false_eq_true, if_false, Bool.false_and]; exact Ev.now _
  | true =>
    simp only [if_true, Bool.true_and, within_eq, Option.bind_some, impl_Graph_size.f]
    cases hb : (decide (1 ≤ s) && decide (s ≤ 4)) with
    | false => simp only [Bool.false_eq_true, if_false, Bool.false_and]; exact Ev.now _
    | true =>
      simp only [Bool.and_eq_true, decide_eq_true_eq] at hb
      obtain ⟨n, rfl⟩ : ∃ n : Nat, s = n := ⟨s.toNat, by omega⟩
      simp only [if_true, Bool.true_and, Int.toNat_natCast]
      by_cases h : (t.length : Int) = (l.length : Int)
      · simp only [h, decide_true, Bool.true_and, if_true]
        obtain ⟨r, h1, h2⟩ := idxM_ev (fun x => !(isOrd n x)) (fun k x => (impl_isOrder.f k x n).map not) t (fun x hxm => by
          have h3 := isOrder_ev n (by omega) x (hx x hxm)
          obtain ⟨k, hk⟩ := h3
          exact ⟨k, fun m hm => by
            have e := hk m hm
            simp only at e ⊢
            rw [e]; rfl⟩) 0
        have h4 : Ev (fun k => impl_IsCover_1.f k t a l n t) (t.any fun x => !(isOrd n x)) := by
          unfold impl_IsCover_1.f
          refine Ev.bind h1 ?_
          rw [h2]
          exact Ev.now _
        refine Ev.bind h4 ?_
        rw [show t.all (isOrd n) = !(t.any fun x => !(isOrd n x)) from by rw [List.any_eq_not_all_not]; simp]
        exact Ev.now _
      · simp only [h, decide_false, Bool.false_and, if_false]
        exact Ev.now _
theorem szCover_ev (a : Int) (l : List (List Int)) (s : Int) (t : List (List Int)) (hl : l.length ≤ maxLen) (hx : ∀ x ∈ l, x.length ≤ maxLen) (ht : t.length ≤ maxLen) (hy : ∀ x ∈ t, x.length ≤ maxLen) : ∃ r, Ev (fun k => laws_szCover.f k a l s t 1048576) r ∧ (0 ≤ r → (l.length ≤ 1048576 ∧ ∀ x ∈ l, x.length ≤ 1048576) ∧ (t.length ≤ 1048576 ∧ ∀ x ∈ t, x.length ≤ 1048576)) := by
  obtain ⟨r, hr, h2, h3, h4⟩ := szGraph_ev a l 1048576 (by omega) (by omega) hl hx
  unfold laws_szCover.f
  by_cases hn : r < 0
  · exact ⟨-1, Ev.bind hr (by simp only [hn, if_true]; exact Ev.now _), fun h => by omega⟩
  · obtain ⟨q, hq, g2, g3, g4⟩ := szInt64SS_ev t r (by omega) h2 ht hy
    by_cases hm : q < 0
    · exact ⟨-1, Ev.bind hr (by simp only [hn, if_false]; exact Ev.bind hq (by simp only [hm, if_true]; exact Ev.now _)), fun h => by omega⟩
    · exact ⟨q, Ev.bind hr (by simp only [hn, if_false]; exact Ev.bind hq (by simp only [hm, if_false]; exact Ev.now _)), fun h => ⟨h4 (by omega), g4 (by omega)⟩⟩
theorem toCover_ev (a : Int) (l : List (List Int)) (s : Int) (t : List (List Int)) (hl : l.length ≤ 1048576) (hx : ∀ x ∈ l, x.length ≤ 1048576) (ht : t.length ≤ 1048576) (hy : ∀ x ∈ t, x.length ≤ 1048576) : Ev (fun k => laws_toCover.f k a l s t) (a, l, s, t) := by
  unfold laws_toCover.f
  refine Ev.bind (toGraph_ev a l (by omega) (fun x h => by have := hx x h; omega)) ?_
  exact Ev.bind (toInt64SS_ev t (by omega) (fun x h => by have := hy x h; omega)) (Ev.now _)
theorem eqCover_ev (a : Int) (l : List (List Int)) (s : Int) (t : List (List Int)) (hl : l.length ≤ maxLen) (hx : ∀ x ∈ l, x.length ≤ maxLen) (ht : t.length ≤ maxLen) (hy : ∀ x ∈ t, x.length ≤ maxLen) : Ev (fun k => laws_eqCover.f k a l s t a l s t) true := by
  unfold laws_eqCover.f
  refine Ev.bind (eqGraph_ev a l hl hx) ?_
  simp only [if_true]
  refine Ev.bind (eqInt64SS_ev t ht hy) ?_
  simp only [if_true]
  exact Ev.now _
/-- Edge i of those above edge k, in the derived graph of n sheets. -/
def derE (n : Nat) (l t : List (List Int)) (k i : Nat) : List Int := [wrap64 (wrap64 (rd (rd_L1 l (k : Int)) 0 * (n : Int)) + (i : Int)), wrap64 (wrap64 (rd (rd_L1 l (k : Int)) 1 * (n : Int)) + rd (rd_L1 t (k : Int)) (i : Int))]
def derL (n : Nat) (l t : List (List Int)) : Nat → List (List Int)
  | 0 => []
  | k + 1 => derL n l t k ++ (List.range n).map (derE n l t k)
theorem derL_length (n : Nat) (l t : List (List Int)) (k : Nat) : (derL n l t k).length = k * n := by
  induction k with
  | zero => simp [derL]
  | succ k ih => simp [derL, ih, Nat.succ_mul]
theorem derP_succ (n : Nat) (l t : List (List Int)) (k i : Nat) : derL n l t k ++ (List.range (i + 1)).map (derE n l t k) = (derL n l t k ++ (List.range i).map (derE n l t k)) ++ [derE n l t k i] := by
  rw [List.range_succ, List.map_append, List.append_assoc]
  rfl
theorem spec_der_l1 (n : Nat) (hn : n ≤ 4) (a b : Int) (l t : List (List Int)) (hl : l.length ≤ 1048576) (k : Nat) (hk : k < l.length) (hkt : k < t.length) (h2 : (rd_L1 l (k : Int)).length = 2) (ht : (rd_L1 t (k : Int)).length = n) (R : Int × List (List Int))
    (hR : Ev (fun j => spec_l04Derived.l0 j ((k : Int) + 1) a l n t b (derL n l t (k + 1))) R) :
    ∀ (d i : Nat), n - i = d → i ≤ n → Ev (fun j => spec_l04Derived.l1 j k i a l n t b (derL n l t k ++ (List.range i).map (derE n l t k))) R := by
  intro d
  induction d with
  | zero =>
    intro i hd hi
    obtain rfl : i = n := by omega
    refine Ev.step (fun k => by simp only [spec_l04Derived.l1]; rfl) ?_
    simp only [Int.lt_irrefl, if_false, w64 (show -9223372036854775808 ≤ (k : Int) + 1 by omega) (by omega)]
    exact hR
  | succ d ih =>
    intro i hd hi
    have h := ih (i + 1) (by omega) (by omega)
    rw [derP_succ] at h
    have hlen : (derL n l t k ++ (List.range i).map (derE n l t k)).length < 5864062014805 := by
      rw [List.length_append, derL_length, List.length_map, List.length_range]
      have : k * n ≤ 1048576 * 4 := Nat.mul_le_mul (by omega) hn
      omega
    refine Ev.step (fun k => by simp only [spec_l04Derived.l1]; rfl) ?_
    simp only [show ((i : Int) < (n : Int)) by omega, show (0 : Int) ≤ (k : Int) by omega, show ((k : Int) < (l.length : Int)) by omega, show ((k : Int) < (t.length : Int)) by omega, h2, ht, show ((0 : Int) < ((2 : Nat) : Int)) by omega, show ((1 : Int) < ((2 : Nat) : Int)) by omega, show (0 : Int) ≤ (i : Int) by omega, hlen, if_true, w64 (show -9223372036854775808 ≤ (i : Int) + 1 by omega) (by omega)]
    exact h
theorem spec_der_l0 (n : Nat) (hn : n ≤ 4) (a b : Int) (l t : List (List Int)) (hl : l.length ≤ 1048576) (hlt : t.length = l.length) (h2 : two l) (ht : ∀ x ∈ t, x.length = n) : ∀ (d k : Nat), l.length - k = d → k ≤ l.length → Ev (fun j => spec_l04Derived.l0 j k a l n t b (derL n l t k)) (b, derL n l t l.length) := by
  intro d
  induction d with
  | zero =>
    intro k hd hi
    obtain rfl : k = l.length := by omega
    refine Ev.step (fun k => by simp only [spec_l04Derived.l0]; rfl) ?_
    simp only [hlt, Int.lt_irrefl, if_false]
    exact Ev.now _
  | succ d ih =>
    intro k hd hi
    have hk : k < l.length := by omega
    refine Ev.step (fun k => by simp only [spec_l04Derived.l0]; rfl) ?_
    simp only [show ((k : Int) < (t.length : Int)) by omega, if_true]
    have h := spec_der_l1 n hn a b l t hl k hk (by omega) (by rw [rdL1_nat l k hk]; exact h2 _ (List.getElem_mem hk)) (by rw [rdL1_nat t k (by omega)]; exact ht _ (List.getElem_mem _)) _ (ih (k + 1) (by omega) (by omega)) n 0 (by omega) (by omega)
    simpa using h
theorem spec_der_ev (n : Nat) (hn : n ≤ 4) (a : Int) (l t : List (List Int)) (hl : l.length ≤ 1048576) (hlt : t.length = l.length) (h2 : two l) (ht : ∀ x ∈ t, x.length = n) : Ev (fun j => spec_l04Derived.f j a l n t) (wrap64 (a * (n : Int)), derL n l t l.length) :=
  spec_der_l0 n hn a _ l t hl hlt h2 ht l.length 0 (by omega) (by omega)
theorem impl_der_l1 (n : Nat) (hn : n ≤ 4) (a b : Int) (l t : List (List Int)) (hl : l.length ≤ 1048576) (k : Nat) (hk : k < l.length) (hkt : k < t.length) (h2 : (rd_L1 l (k : Int)).length = 2) (ht : (rd_L1 t (k : Int)).length = n) (R : Int × List (List Int))
    (hR : Ev (fun j => impl_Cover_derived.l0 j l (l.length : Int) ((k : Int) + 1) a l n t b (derL n l t (k + 1))) R) :
    ∀ (d i : Nat), n - i = d → i ≤ n → Ev (fun j => impl_Cover_derived.l1 j k (rd_L1 l (k : Int)) l (l.length : Int) k n i a l n t b (derL n l t k ++ (List.range i).map (derE n l t k))) R := by
  intro d
  induction d with
  | zero =>
    intro i hd hi
    obtain rfl : i = n := by omega
    refine Ev.step (fun k => by simp only [impl_Cover_derived.l1]; rfl) ?_
    simp only [Int.lt_irrefl, if_false, w64 (show -9223372036854775808 ≤ (k : Int) + 1 by omega) (by omega)]
    exact hR
  | succ d ih =>
    intro i hd hi
    have h := ih (i + 1) (by omega) (by omega)
    rw [derP_succ] at h
    have hlen : (derL n l t k ++ (List.range i).map (derE n l t k)).length < 5864062014805 := by
      rw [List.length_append, derL_length, List.length_map, List.length_range]
      have : k * n ≤ 1048576 * 4 := Nat.mul_le_mul (by omega) hn
      omega
    refine Ev.step (fun k => by simp only [impl_Cover_derived.l1]; rfl) ?_
    simp only [show ((i : Int) < (n : Int)) by omega, show (0 : Int) ≤ (k : Int) by omega, show ((k : Int) < (t.length : Int)) by omega, h2, ht, show ((0 : Int) < ((2 : Nat) : Int)) by omega, show ((1 : Int) < ((2 : Nat) : Int)) by omega, show (0 : Int) ≤ (i : Int) by omega, hlen, if_true, w64 (show -9223372036854775808 ≤ (i : Int) + 1 by omega) (by omega)]
    exact h
theorem impl_der_l0 (n : Nat) (hn : n ≤ 4) (a b : Int) (l t : List (List Int)) (hl : l.length ≤ 1048576) (hlt : t.length = l.length) (h2 : two l) (ht : ∀ x ∈ t, x.length = n) : ∀ (d k : Nat), l.length - k = d → k ≤ l.length → Ev (fun j => impl_Cover_derived.l0 j l (l.length : Int) k a l n t b (derL n l t k)) (b, derL n l t l.length) := by
  intro d
  induction d with
  | zero =>
    intro k hd hi
    obtain rfl : k = l.length := by omega
    refine Ev.step (fun k => by simp only [impl_Cover_derived.l0]; rfl) ?_
    simp only [Int.lt_irrefl, if_false]
    exact Ev.now _
  | succ d ih =>
    intro k hd hi
    have hk : k < l.length := by omega
    refine Ev.step (fun k => by simp only [impl_Cover_derived.l0]; rfl) ?_
    simp only [show ((k : Int) < (l.length : Int)) by omega, show (0 : Int) ≤ (k : Int) by omega, if_true]
    have h := impl_der_l1 n hn a b l t hl k hk (by omega) (by rw [rdL1_nat l k hk]; exact h2 _ (List.getElem_mem hk)) (by rw [rdL1_nat t k (by omega)]; exact ht _ (List.getElem_mem _)) _ (ih (k + 1) (by omega) (by omega)) n 0 (by omega) (by omega)
    simpa using h
theorem impl_der_ev (n : Nat) (hn : n ≤ 4) (a : Int) (l t : List (List Int)) (hl : l.length ≤ 1048576) (hlt : t.length = l.length) (h2 : two l) (ht : ∀ x ∈ t, x.length = n) : Ev (fun j => impl_Cover_derived.f j a l n t) (wrap64 (a * (n : Int)), derL n l t l.length) :=
  impl_der_l0 n hn a _ l t hl hlt h2 ht l.length 0 (by omega) (by omega)
def clsF (a b z : Int) : Int := if z = mx a b then mn a b else z
def mapTake (f : Int → Int) (i : Nat) (c : List Int) : List Int := (c.take i).map f ++ c.drop i
theorem mapTake_length (f : Int → Int) (i : Nat) (c : List Int) : (mapTake f i c).length = c.length := by
  unfold mapTake
  rw [List.length_append, List.length_map, List.length_take, List.length_drop]
  omega
theorem mapTake_rd (f : Int → Int) (i : Nat) (c : List Int) (h : i < c.length) : rd (mapTake f i c) (i : Int) = c[i] := by
  rw [rd_nat _ _ (by rw [mapTake_length]; exact h)]
  unfold mapTake
  rw [List.getElem_append_right (by rw [List.length_map, List.length_take]; omega)]
  simp [List.length_take, Nat.min_eq_left (Nat.le_of_lt h)]
theorem mapTake_succ (f : Int → Int) (i : Nat) (c : List Int) (h : i < c.length) : mapTake f (i + 1) c = (mapTake f i c).set i (f c[i]) := by
  have hl : ((c.take i).map f).length = i := by rw [List.length_map, List.length_take]; omega
  unfold mapTake
  apply List.ext_getElem?
  intro j
  rw [List.getElem?_set]
  by_cases hj : i = j
  · subst hj
    rw [if_pos rfl, if_pos (by rw [List.length_append, hl, List.length_drop]; omega)]
    rw [List.getElem?_append_left (by rw [List.length_map, List.length_take]; omega), List.getElem?_map, List.getElem?_take, if_pos (by omega), List.getElem?_eq_getElem h]
    rfl
  · rw [if_neg hj]
    by_cases hlt : j < i
    · rw [List.getElem?_append_left (by rw [List.length_map, List.length_take]; omega), List.getElem?_append_left (by omega)]
      simp only [List.getElem?_map, List.getElem?_take]
      rw [if_pos (by omega), if_pos hlt]
    · rw [List.getElem?_append_right (by rw [List.length_map, List.length_take]; omega), List.getElem?_append_right (by omega), hl]
      simp only [List.length_map, List.length_take, List.getElem?_drop]
      congr 1
      omega
theorem mapTake_same (f : Int → Int) (i : Nat) (c : List Int) (h : i < c.length) (e : f c[i] = c[i]) : mapTake f (i + 1) c = mapTake f i c := by
  rw [mapTake_succ f i c h, e]
  apply List.ext_getElem
  · simp
  · intro j h1 h2
    rw [List.getElem_set]
    by_cases hj : i = j
    · subst hj
      rw [if_pos rfl]
      have := mapTake_rd f i c h
      rw [rd_nat _ _ (by rw [mapTake_length]; exact h)] at this
      exact this.symm
    · rw [if_neg hj]
def clsW (l : List (List Int)) : Nat → Nat → List Int → List Int
  | 0, _, c => c
  | d + 1, i, c => clsW l d (i + 1) (c.map (clsF (rd c (rd (rd_L1 l (i : Int)) 0)) (rd c (rd (rd_L1 l (i : Int)) 1))))
theorem spec_parts_l2 (a : Int) (l : List (List Int)) (hl : l.length ≤ 1048576) (i : Nat) (hi : i < l.length) (x y : Int) (c : List Int) (hc : c.length ≤ 1048576) (R : List Int)
    (hR : Ev (fun k => spec_l01Parts.l1 k (c.map (clsF x y)) ((i : Int) + 1) a l) R) :
    ∀ (d v : Nat), c.length - v = d → v ≤ c.length → Ev (fun k => spec_l01Parts.l2 k (mapTake (clsF x y) v c) i x y v a l) R := by
  intro d
  induction d with
  | zero =>
    intro v hd hv
    obtain rfl : v = c.length := by omega
    refine Ev.step (fun k => by simp only [spec_l01Parts.l2]; rfl) ?_
    simp only [mapTake_length, Int.lt_irrefl, if_false, w64 (show -9223372036854775808 ≤ (i : Int) + 1 by omega) (by omega)]
    rw [show mapTake (clsF x y) c.length c = c.map (clsF x y) from by simp [mapTake]]
    exact hR
  | succ d ih =>
    intro v hd hv
    have hvc : v < c.length := by omega
    have h := ih (v + 1) (by omega) (by omega)
    refine Ev.step (fun k => by simp only [spec_l01Parts.l2]; rfl) ?_
    simp only [mapTake_length, show ((v : Int) < (c.length : Int)) by omega, show (0 : Int) ≤ (v : Int) by omega, if_true, mapTake_rd _ v c hvc, Int.toNat_natCast, w64 (show -9223372036854775808 ≤ (v : Int) + 1 by omega) (by omega)]
    by_cases hz : c[v] = mx x y
    · rw [mapTake_succ _ v c hvc, show clsF x y c[v] = mn x y from by unfold clsF; exact if_pos hz] at h
      simp only [hz, if_true]
      exact h
    · rw [mapTake_same (clsF x y) v c hvc (by unfold clsF; exact if_neg hz)] at h
      simp only [hz, if_false]
      exact h
theorem impl_classes_l2 (l : List (List Int)) (hl : l.length ≤ 1048576) (i : Nat) (hi : i < l.length) (x y : Int) (c : List Int) (hc : c.length ≤ 1048576) (R : List Int)
    (hR : Ev (fun k => impl_Graph_classes.l1 k (c.map (clsF x y)) l (l.length : Int) ((i : Int) + 1)) R) :
    ∀ (d v : Nat), c.length - v = d → v ≤ c.length → Ev (fun k => impl_Graph_classes.l2 k (mapTake (clsF x y) v c) x y l (l.length : Int) i (c.length : Int) v) R := by
  intro d
  induction d with
  | zero =>
    intro v hd hv
    obtain rfl : v = c.length := by omega
    refine Ev.step (fun k => by simp only [impl_Graph_classes.l2]; rfl) ?_
    simp only [Int.lt_irrefl, if_false, w64 (show -9223372036854775808 ≤ (i : Int) + 1 by omega) (by omega)]
    rw [show mapTake (clsF x y) c.length c = c.map (clsF x y) from by simp [mapTake]]
    exact hR
  | succ d ih =>
    intro v hd hv
    have hvc : v < c.length := by omega
    have h := ih (v + 1) (by omega) (by omega)
    refine Ev.step (fun k => by simp only [impl_Graph_classes.l2]; rfl) ?_
    simp only [mapTake_length, show ((v : Int) < (c.length : Int)) by omega, show (0 : Int) ≤ (v : Int) by omega, if_true, mapTake_rd _ v c hvc, Int.toNat_natCast, w64 (show -9223372036854775808 ≤ (v : Int) + 1 by omega) (by omega)]
    by_cases hz : c[v] = mx x y
    · rw [mapTake_succ _ v c hvc, show clsF x y c[v] = mn x y from by unfold clsF; exact if_pos hz] at h
      simp only [hz, if_true]
      exact h
    · rw [mapTake_same (clsF x y) v c hvc (by unfold clsF; exact if_neg hz)] at h
      simp only [hz, if_false]
      exact h
theorem spec_parts_l1 (n : Nat) (hn : n ≤ 1048576) (a : Int) (l : List (List Int)) (hl : l.length ≤ 1048576) (hE : endsIn n l) : ∀ (d i : Nat) (c : List Int), l.length - i = d → i ≤ l.length → c.length = n → Ev (fun k => spec_l01Parts.l1 k c i a l) (clsW l d i c) := by
  intro d
  induction d with
  | zero =>
    intro i c hd hi hc
    obtain rfl : i = l.length := by omega
    refine Ev.step (fun k => by simp only [spec_l01Parts.l1]; rfl) ?_
    simp only [Int.lt_irrefl, if_false]
    exact Ev.now _
  | succ d ih =>
    intro i c hd hi hc
    have hil : i < l.length := by omega
    obtain ⟨hx, u, v, hu, hv, hun, hvn⟩ := hE i hil
    have h := spec_parts_l2 a l hl i hil (rd c u) (rd c v) c (by omega) _ (ih (i + 1) (c.map (clsF (rd c u) (rd c v))) (by omega) (by omega) (by rw [List.length_map]; exact hc)) c.length 0 (by omega) (by omega)
    rw [show mapTake (clsF (rd c u) (rd c v)) 0 c = c from by simp [mapTake]] at h
    rw [show clsW l (d + 1) i c = clsW l d (i + 1) (c.map (clsF (rd c (rd (rd_L1 l (i : Int)) 0)) (rd c (rd (rd_L1 l (i : Int)) 1)))) from rfl, hu, hv]
    refine Ev.step (fun k => by simp only [spec_l01Parts.l1]; rfl) ?_
    simp only [show ((i : Int) < (l.length : Int)) by omega, show (0 : Int) ≤ (i : Int) by omega, hx, hu, hv, hc, show ((0 : Int) < ((2 : Nat) : Int)) by omega, show ((1 : Int) < ((2 : Nat) : Int)) by omega, show (0 : Int) ≤ (u : Int) by omega, show (0 : Int) ≤ (v : Int) by omega, show ((u : Int) < (n : Int)) by omega, show ((v : Int) < (n : Int)) by omega, if_true]
    exact h
theorem impl_classes_l1 (n : Nat) (hn : n ≤ 1048576) (l : List (List Int)) (hl : l.length ≤ 1048576) (hE : endsIn n l) : ∀ (d i : Nat) (c : List Int), l.length - i = d → i ≤ l.length → c.length = n → Ev (fun k => impl_Graph_classes.l1 k c l (l.length : Int) i) (clsW l d i c) := by
  intro d
  induction d with
  | zero =>
    intro i c hd hi hc
    obtain rfl : i = l.length := by omega
    refine Ev.step (fun k => by simp only [impl_Graph_classes.l1]; rfl) ?_
    simp only [Int.lt_irrefl, if_false]
    exact Ev.now _
  | succ d ih =>
    intro i c hd hi hc
    have hil : i < l.length := by omega
    obtain ⟨hx, u, v, hu, hv, hun, hvn⟩ := hE i hil
    have h := impl_classes_l2 l hl i hil (rd c u) (rd c v) c (by omega) _ (ih (i + 1) (c.map (clsF (rd c u) (rd c v))) (by omega) (by omega) (by rw [List.length_map]; exact hc)) c.length 0 (by omega) (by omega)
    rw [show mapTake (clsF (rd c u) (rd c v)) 0 c = c from by simp [mapTake], hc] at h
    rw [show clsW l (d + 1) i c = clsW l d (i + 1) (c.map (clsF (rd c (rd (rd_L1 l (i : Int)) 0)) (rd c (rd (rd_L1 l (i : Int)) 1)))) from rfl, hu, hv]
    refine Ev.step (fun k => by simp only [impl_Graph_classes.l1]; rfl) ?_
    simp only [show ((i : Int) < (l.length : Int)) by omega, show (0 : Int) ≤ (i : Int) by omega, hx, hu, hv, hc, impl_every.f, Option.bind_some, show ((0 : Int) < ((2 : Nat) : Int)) by omega, show ((1 : Int) < ((2 : Nat) : Int)) by omega, show (0 : Int) ≤ (u : Int) by omega, show (0 : Int) ≤ (v : Int) by omega, show ((u : Int) < (n : Int)) by omega, show ((v : Int) < (n : Int)) by omega, if_true]
    exact h
def upto (i : Nat) : List Int := (List.range i).map Int.ofNat
theorem upto_length (i : Nat) : (upto i).length = i := by simp [upto]
theorem upto_succ (i : Nat) : upto (i + 1) = upto i ++ [(i : Int)] := by
  unfold upto
  rw [List.range_succ, List.map_append]
  rfl
def clsOf (n : Nat) (l : List (List Int)) : List Int := clsW l l.length 0 (upto n)
theorem spec_parts_l0 (n : Nat) (hn : n ≤ 1048576) (l : List (List Int)) (hl : l.length ≤ 1048576) (hE : endsIn n l) : ∀ (d v : Nat), n - v = d → v ≤ n → Ev (fun k => spec_l01Parts.l0 k (upto v) v n l) (clsOf n l) := by
  intro d
  induction d with
  | zero =>
    intro v hd hv
    obtain rfl : v = n := by omega
    refine Ev.step (fun k => by simp only [spec_l01Parts.l0]; rfl) ?_
    simp only [Int.lt_irrefl, if_false]
    exact spec_parts_l1 v hn v l hl hE l.length 0 (upto v) (by omega) (by omega) (upto_length v)
  | succ d ih =>
    intro v hd hv
    have h := ih (v + 1) (by omega) (by omega)
    rw [upto_succ] at h
    refine Ev.step (fun k => by simp only [spec_l01Parts.l0]; rfl) ?_
    simp only [show ((v : Int) < (n : Int)) by omega, if_true, upto_length, show v < 17592186044416 by omega, w64 (show -9223372036854775808 ≤ (v : Int) + 1 by omega) (by omega)]
    exact h
theorem spec_parts_ev (n : Nat) (hn : n ≤ 1048576) (l : List (List Int)) (hl : l.length ≤ 1048576) (hE : endsIn n l) : Ev (fun k => spec_l01Parts.f k n l) (clsOf n l) := spec_parts_l0 n hn l hl hE n 0 (by omega) (by omega)
theorem impl_classes_l0 (n : Nat) (hn : n ≤ 1048576) (l : List (List Int)) (hl : l.length ≤ 1048576) (hE : endsIn n l) : ∀ (d v : Nat), n - v = d → v ≤ n → Ev (fun k => impl_Graph_classes.l0 k (upto v) n v n l) (clsOf n l) := by
  intro d
  induction d with
  | zero =>
    intro v hd hv
    obtain rfl : v = n := by omega
    refine Ev.step (fun k => by simp only [impl_Graph_classes.l0]; rfl) ?_
    simp only [Int.lt_irrefl, if_false]
    exact impl_classes_l1 v hn l hl hE l.length 0 (upto v) (by omega) (by omega) (upto_length v)
  | succ d ih =>
    intro v hd hv
    have h := ih (v + 1) (by omega) (by omega)
    rw [upto_succ] at h
    refine Ev.step (fun k => by simp only [impl_Graph_classes.l0]; rfl) ?_
    simp only [show ((v : Int) < (n : Int)) by omega, if_true, upto_length, show v < 17592186044416 by omega, w64 (show -9223372036854775808 ≤ (v : Int) + 1 by omega) (by omega)]
    exact h
theorem impl_classes_ev (n : Nat) (hn : n ≤ 1048576) (l : List (List Int)) (hl : l.length ≤ 1048576) (hE : endsIn n l) : Ev (fun k => impl_Graph_classes.f k n l) (clsOf n l) := impl_classes_l0 n hn l hl hE n 0 (by omega) (by omega)
/-- Each class has its least vertex as its name. -/
def clsGood (n : Nat) (c : List Int) : Prop := c.length = n ∧ ∀ v : Nat, v < n → 0 ≤ rd c v ∧ rd c v ≤ v ∧ rd c (rd c v) = rd c v
theorem rd_map (f : Int → Int) (c : List Int) (v : Nat) (h : v < c.length) : rd (c.map f) (v : Int) = f (rd c (v : Int)) := by
  rw [rd_nat _ _ (by rw [List.length_map]; exact h), rd_nat _ _ h, List.getElem_map]
theorem clsGood_upto (n : Nat) : clsGood n (upto n) := by
  refine ⟨upto_length n, fun v hv => ?_⟩
  have h : ∀ w : Nat, w < n → rd (upto n) (w : Int) = (w : Int) := fun w hw => by
    rw [rd_nat _ _ (by rw [upto_length]; exact hw)]
    simp [upto]
  rw [h v hv, h v hv]
  omega
theorem clsGood_step {n : Nat} {c : List Int} (h : clsGood n c) (u v : Nat) (hu : u < n) (hv : v < n) : clsGood n (c.map (clsF (rd c u) (rd c v))) := by
  refine ⟨by rw [List.length_map]; exact h.1, fun w hw => ?_⟩
  have hU := h.2 u hu
  have hV := h.2 v hv
  have hW := h.2 w hw
  rw [rd_map _ _ w (by rw [h.1]; exact hw)]
  generalize hp : rd c (u : Int) = p at *
  generalize hq : rd c (v : Int) = q at *
  generalize hz : rd c (w : Int) = z at *
  have hfix : ∀ y : Int, 0 ≤ y → y < n → rd c y = y → rd (c.map (clsF p q)) y = clsF p q y := by
    intro y h0 h1 h2
    obtain ⟨k, rfl⟩ : ∃ k : Nat, y = k := ⟨y.toNat, by omega⟩
    rw [rd_map _ _ k (by rw [h.1]; omega), h2]
  have hmm : clsF p q (mn p q) = mn p q := by unfold clsF; split <;> rfl
  by_cases e : z = mx p q
  · have hm : mn p q ≤ mx p q := by unfold mn mx; split <;> split <;> omega
    have hmf : 0 ≤ mn p q ∧ rd c (mn p q) = mn p q := by
      unfold mn
      split
      · first | exact ⟨by omega, hU.2.2⟩ | exact ⟨by omega, hV.2.2⟩
      · first | exact ⟨by omega, hV.2.2⟩ | exact ⟨by omega, hU.2.2⟩
    rw [show clsF p q z = mn p q from by unfold clsF; exact if_pos e]
    rw [hfix _ hmf.1 (by omega) hmf.2, hmm]
    omega
  · rw [show clsF p q z = z from by unfold clsF; exact if_neg e]
    rw [hfix z hW.1 (by omega) hW.2.2, show clsF p q z = z from by unfold clsF; exact if_neg e]
    omega
theorem clsGood_walk {n : Nat} {l : List (List Int)} (hE : endsIn n l) : ∀ (d i : Nat) (c : List Int), i + d ≤ l.length → clsGood n c → clsGood n (clsW l d i c) := by
  intro d
  induction d with
  | zero => intro i c _ h; exact h
  | succ d ih =>
    intro i c hi h
    obtain ⟨hx, u, v, hu, hv, hun, hvn⟩ := hE i (by omega)
    rw [show clsW l (d + 1) i c = clsW l d (i + 1) (c.map (clsF (rd c (rd (rd_L1 l (i : Int)) 0)) (rd c (rd (rd_L1 l (i : Int)) 1)))) from rfl, hu, hv]
    exact ih (i + 1) _ (by omega) (clsGood_step h u v hun hvn)
theorem clsOf_good (n : Nat) (l : List (List Int)) (hE : endsIn n l) : clsGood n (clsOf n l) := clsGood_walk hE l.length 0 _ (by omega) (clsGood_upto n)
/-- How many of the vertices v ≥ i bear their class's name. -/
def cntF (c : List Int) : Nat → Nat → Nat
  | 0, _ => 0
  | d + 1, i => (if rd c (i : Int) = (i : Int) then 1 else 0) + cntF c d (i + 1)
theorem cntF_succ (c : List Int) (d i : Nat) : cntF c (d + 1) i = (if rd c (i : Int) = (i : Int) then 1 else 0) + cntF c d (i + 1) := rfl
theorem countParts_l0 (c : List Int) (hc : c.length ≤ 1048576) : ∀ (d i z : Nat), c.length - i = d → i ≤ c.length → z ≤ i → Ev (fun k => impl_countParts.l0 k z c (c.length : Int) i) ((z + cntF c d i : Nat) : Int) := by
  intro d
  induction d with
  | zero =>
    intro i z hd hi hz
    obtain rfl : i = c.length := by omega
    refine Ev.step (fun k => by simp only [impl_countParts.l0]; rfl) ?_
    simp only [Int.lt_irrefl, if_false]
    exact Ev.now _
  | succ d ih =>
    intro i z hd hi hz
    refine Ev.step (fun k => by simp only [impl_countParts.l0]; rfl) ?_
    simp only [show ((i : Int) < (c.length : Int)) by omega, show (0 : Int) ≤ (i : Int) by omega, if_true, w64 (show -9223372036854775808 ≤ (i : Int) + 1 by omega) (by omega), w64 (show -9223372036854775808 ≤ (z : Int) + 1 by omega) (by omega)]
    by_cases h : rd c (i : Int) = (i : Int)
    · have h1 := ih (i + 1) (z + 1) (by omega) (by omega) (by omega)
      rw [show cntF c (d + 1) i = 1 + cntF c d (i + 1) from by rw [cntF_succ, if_pos h], show z + (1 + cntF c d (i + 1)) = z + 1 + cntF c d (i + 1) by omega]
      simp only [h, if_true]
      exact h1
    · have h1 := ih (i + 1) z (by omega) (by omega) (by omega)
      rw [show cntF c (d + 1) i = cntF c d (i + 1) from by rw [cntF_succ, if_neg h, Nat.zero_add]]
      simp only [Ne.symm h, if_false]
      exact h1
theorem countParts_ev (c : List Int) (hc : c.length ≤ 1048576) : Ev (fun k => impl_countParts.f k c) ((cntF c c.length 0 : Nat) : Int) := by
  have h := countParts_l0 c hc c.length 0 0 (by omega) (by omega) (by omega)
  rw [Nat.zero_add] at h
  exact h
theorem cntF_zero (c : List Int) : ∀ (d i : Nat), cntF c d i = 0 ↔ ∀ v : Nat, i ≤ v → v < i + d → rd c (v : Int) ≠ (v : Int) := by
  intro d
  induction d with
  | zero => intro i; simp [cntF]; omega
  | succ d ih =>
    intro i
    rw [show cntF c (d + 1) i = (if rd c (i : Int) = (i : Int) then 1 else 0) + cntF c d (i + 1) from rfl]
    by_cases h : rd c (i : Int) = (i : Int)
    · rw [if_pos h]
      exact ⟨fun e => by omega, fun e => (e i (by omega) (by omega) h).elim⟩
    · rw [if_neg h, Nat.zero_add, ih]
      exact ⟨fun e v h1 h2 => by
        by_cases hv : v = i
        · subst hv; exact h
        · exact e v (by omega) (by omega), fun e v h1 h2 => e v (by omega) (by omega)⟩
/-- Is all one part. -/
def onePart (c : List Int) : Bool := decide (∀ v, v < c.length → rd c ((v : Nat) : Int) = rd c 0)
theorem cnt_one {n : Nat} {c : List Int} (hn : 1 ≤ n) (h : clsGood n c) : ((((cntF c c.length 0 : Nat) : Int)) == 1) = onePart c := by
  have h0 : rd c 0 = 0 := by
    have := h.2 0 (by omega)
    have e : ((0 : Nat) : Int) = 0 := rfl
    rw [e] at this
    omega
  obtain ⟨m, hm⟩ : ∃ m, c.length = m + 1 := ⟨c.length - 1, by have := h.1; omega⟩
  rw [Bool.eq_iff_iff, beq_iff_eq]
  unfold onePart
  rw [decide_eq_true_eq, hm]
  rw [show cntF c (m + 1) 0 = 1 + cntF c m 1 from by rw [cntF_succ, if_pos (show rd c ((0 : Nat) : Int) = ((0 : Nat) : Int) from h0)]]
  have hz := cntF_zero c m 1
  constructor
  · intro e v hv
    rw [h0]
    have h1 := hz.1 (by omega)
    have h2 := h.2 v (by have := h.1; omega)
    by_cases hp : rd c (v : Int) = 0
    · exact hp
    · exfalso
      refine h1 (rd c (v : Int)).toNat (by omega) (by omega) ?_
      rw [show (((rd c (v : Int)).toNat : Nat) : Int) = rd c (v : Int) by omega]
      exact h2.2.2
  · intro e
    have : cntF c m 1 = 0 := hz.2 (fun v h1 h2 hc => by
      have := e v (by omega)
      rw [h0] at this
      omega)
    omega
theorem connected_l0 (c : List Int) (hc : c.length ≤ 1048576) : ∀ (d i : Nat), c.length - i = d → i ≤ c.length → Ev (fun k => spec_IsConnectedCover.l0 k c i) (decide (∀ v, v < c.length → i ≤ v → rd c ((v : Nat) : Int) = rd c 0), 0) := by
  intro d
  induction d with
  | zero =>
    intro i hd hi
    obtain rfl : i = c.length := by omega
    refine Ev.step (fun k => by simp only [spec_IsConnectedCover.l0]; rfl) ?_
    simp only [Int.lt_irrefl, if_false]
    rw [show decide (∀ v, v < c.length → c.length ≤ v → rd c ((v : Nat) : Int) = rd c 0) = true from decide_eq_true (fun v h1 h2 => by omega)]
    exact Ev.now _
  | succ d ih =>
    intro i hd hi
    have h1 := ih (i + 1) (by omega) (by omega)
    refine Ev.step (fun k => by simp only [spec_IsConnectedCover.l0]; rfl) ?_
    simp only [show ((i : Int) < (c.length : Int)) by omega, show (0 : Int) ≤ (i : Int) by omega, show ((0 : Int) < (c.length : Int)) by omega, if_true, w64 (show -9223372036854775808 ≤ (i : Int) + 1 by omega) (by omega)]
    by_cases h : rd c (i : Int) = rd c 0
    · simp only [h, if_true]
      rw [show decide (∀ v, v < c.length → i ≤ v → rd c ((v : Nat) : Int) = rd c 0) = decide (∀ v, v < c.length → i + 1 ≤ v → rd c ((v : Nat) : Int) = rd c 0) from decide_eq_decide.2 ⟨fun e v h1 h2 => e v h1 (by omega), fun e v h1 h2 => by
        by_cases hv : v = i
        · subst hv; exact h
        · exact e v h1 (by omega)⟩]
      exact h1
    · simp only [h, if_false]
      rw [show decide (∀ v, v < c.length → i ≤ v → rd c ((v : Nat) : Int) = rd c 0) = false from decide_eq_false (fun e => h (e i (by omega) (by omega)))]
      exact Ev.now _
theorem derL_mem {n : Nat} {l t : List (List Int)} {K : Nat} {x : List Int} (h : x ∈ derL n l t K) : ∃ k i, k < K ∧ i < n ∧ x = derE n l t k i := by
  induction K with
  | zero => cases h
  | succ K ih =>
    rcases List.mem_append.1 h with h | h
    · obtain ⟨k, i, h1, h2, h3⟩ := ih h
      exact ⟨k, i, by omega, h2, h3⟩
    · obtain ⟨i, hi, rfl⟩ := List.mem_map.1 h
      exact ⟨K, i, by omega, List.mem_range.1 hi, rfl⟩
theorem derE_ends {a n : Nat} (ha : a ≤ 8) (hn : n ≤ 4) {l t : List (List Int)} (hE : endsIn a l) (hlt : t.length = l.length) (ht : ∀ x ∈ t, isOrd n x = true) (k i : Nat) (hk : k < l.length) (hi : i < n) : ∃ u v : Nat, derE n l t k i = [(u : Int), (v : Int)] ∧ u < a * n ∧ v < a * n := by
  obtain ⟨hx, u, v, hu, hv, hua, hva⟩ := hE k hk
  have hm : t[k]'(by omega) ∈ t := List.getElem_mem _
  obtain ⟨h1, h2, h3⟩ := (isOrd_iff n _).1 (ht _ hm)
  have hki : i < (t[k]'(by omega)).length := by omega
  have h4 := h3 _ (List.getElem_mem hki)
  obtain ⟨j, hj⟩ : ∃ j : Nat, rd (rd_L1 t (k : Int)) (i : Int) = (j : Int) ∧ j < n := by
    rw [rdL1_nat t k (by omega), rd_nat _ i hki]
    exact ⟨((t[k]'(by omega))[i]'hki).toNat, by omega, by omega⟩
  have b1 : u * n ≤ 7 * 4 := Nat.mul_le_mul (by omega) hn
  have b2 : v * n ≤ 7 * 4 := Nat.mul_le_mul (by omega) hn
  have b3 : (u + 1) * n ≤ a * n := Nat.mul_le_mul_right n hua
  have b4 : (v + 1) * n ≤ a * n := Nat.mul_le_mul_right n hva
  rw [Nat.succ_mul] at b3 b4
  refine ⟨u * n + i, v * n + j, ?_, by omega, by omega⟩
  have c1 : (u : Int) * (n : Int) = ((u * n : Nat) : Int) := by simp
  have c2 : (v : Int) * (n : Int) = ((v * n : Nat) : Int) := by simp
  unfold derE
  rw [hu, hv, hj.1, c1, c2]
  rw [w64 (show -9223372036854775808 ≤ ((u * n : Nat) : Int) by omega) (by omega), w64 (show -9223372036854775808 ≤ ((v * n : Nat) : Int) by omega) (by omega)]
  rw [w64 (by omega) (by omega), w64 (by omega) (by omega)]
  simp
theorem derL_ends {a n : Nat} (ha : a ≤ 8) (hn : n ≤ 4) {l t : List (List Int)} (hE : endsIn a l) (hlt : t.length = l.length) (ht : ∀ x ∈ t, isOrd n x = true) : endsIn (a * n) (derL n l t l.length) := by
  intro e he
  rw [rdL1_nat _ e he]
  obtain ⟨k, i, hk, hi, hx⟩ := derL_mem (List.getElem_mem he)
  obtain ⟨u, v, h1, h2, h3⟩ := derE_ends ha hn hE hlt ht k i hk hi
  rw [hx, h1]
  exact ⟨rfl, u, v, rfl, rfl, h2, h3⟩
theorem isCov_open {a s : Int} {l t : List (List Int)} (h : isCov a l s t = true) : ∃ n m : Nat, a = n ∧ s = m ∧ 1 ≤ n ∧ n ≤ 8 ∧ 1 ≤ m ∧ m ≤ 4 ∧ isG a l = true ∧ t.length = l.length ∧ endsIn n l ∧ ∀ x ∈ t, isOrd m x = true := by
  unfold isCov at h
  simp only [Bool.and_eq_true, decide_eq_true_eq, List.all_eq_true] at h
  obtain ⟨hg, ⟨h1, h2⟩, h3, h4⟩ := h
  obtain ⟨n, hn, hn1, hn8, hE⟩ := isG_ends hg
  exact ⟨n, s.toNat, hn, by omega, hn1, hn8, by omega, by omega, hg, by omega, hE, h4⟩
/-- What both answer. -/
def connR (a : Int) (l : List (List Int)) (s : Int) (t : List (List Int)) : Bool × Int := if isCov a l s t = true then (onePart (clsOf (a.toNat * s.toNat) (derL s.toNat l t l.length)), 0) else (false, 1)
theorem spec_IsConnectedCover_ev (a : Int) (l : List (List Int)) (s : Int) (t : List (List Int)) (hl : l.length ≤ maxLen) (ht : t.length ≤ maxLen) : Ev (fun k => spec_IsConnectedCover.f k a l s t) (connR a l s t) := by
  unfold spec_IsConnectedCover.f connR
  refine Ev.bind (l04Is_ev a l s t hl ht) ?_
  cases h : isCov a l s t with
  | false => simp only [Bool.false_eq_true, if_false]; exact Ev.now _
  | true =>
    obtain ⟨n, m, rfl, rfl, hn1, hn8, hm1, hm4, hg, hlt, hE, ho⟩ := isCov_open h
    have hl10 := isG_len hg
    have b : n * m ≤ 8 * 4 := Nat.mul_le_mul hn8 hm4
    have hD := derL_ends hn8 hm4 hE hlt ho
    have hlen : (derL m l t l.length).length ≤ 1048576 := by
      rw [derL_length]
      have : l.length * m ≤ 10 * 4 := Nat.mul_le_mul hl10 hm4
      omega
    simp only [if_true, Int.toNat_natCast]
    refine Ev.bind (spec_der_ev m hm4 n l t (by omega) hlt (isG_two hg) (fun x hx => ((isOrd_iff m x).1 (ho x hx)).1)) ?_
    have e1 : wrap64 ((n : Int) * (m : Int)) = ((n * m : Nat) : Int) := by
      rw [show (n : Int) * (m : Int) = ((n * m : Nat) : Int) by simp]
      exact w64 (by omega) (by omega)
    rw [e1]
    refine Ev.bind (spec_parts_ev (n * m) (by omega) _ hlen hD) ?_
    have hc := (clsOf_good (n * m) _ hD).1
    have h1 := connected_l0 (clsOf (n * m) (derL m l t l.length)) (by omega) _ 0 rfl (by omega)
    rw [show onePart (clsOf (n * m) (derL m l t l.length)) = decide (∀ v, v < (clsOf (n * m) (derL m l t l.length)).length → 0 ≤ v → rd (clsOf (n * m) (derL m l t l.length)) ((v : Nat) : Int) = rd (clsOf (n * m) (derL m l t l.length)) 0) from by
      unfold onePart
      exact decide_eq_decide.2 ⟨fun e v h1 _ => e v h1, fun e v h1 => e v h1 (by omega)⟩]
    exact h1
theorem impl_IsConnectedCover_ev (a : Int) (l : List (List Int)) (s : Int) (t : List (List Int)) (hl : l.length ≤ maxLen) (ht : t.length ≤ maxLen) (hx : ∀ x ∈ t, x.length ≤ maxLen) : Ev (fun k => impl_IsConnectedCover.f k a l s t) (connR a l s t) := by
  unfold impl_IsConnectedCover.f connR
  refine Ev.bind (isCover_ev a l s t hl ht hx) ?_
  cases h : isCov a l s t with
  | false => simp only [Bool.false_eq_true, if_false]; exact Ev.now _
  | true =>
    obtain ⟨n, m, rfl, rfl, hn1, hn8, hm1, hm4, hg, hlt, hE, ho⟩ := isCov_open h
    have hl10 := isG_len hg
    have b : n * m ≤ 8 * 4 := Nat.mul_le_mul hn8 hm4
    have b1 : 1 * 1 ≤ n * m := Nat.mul_le_mul hn1 hm1
    have hD := derL_ends hn8 hm4 hE hlt ho
    have hlen : (derL m l t l.length).length ≤ 1048576 := by
      rw [derL_length]
      have : l.length * m ≤ 10 * 4 := Nat.mul_le_mul hl10 hm4
      omega
    simp only [if_true, Int.toNat_natCast]
    refine Ev.bind (impl_der_ev m hm4 n l t (by omega) hlt (isG_two hg) (fun x hx => ((isOrd_iff m x).1 (ho x hx)).1)) ?_
    have e1 : wrap64 ((n : Int) * (m : Int)) = ((n * m : Nat) : Int) := by
      rw [show (n : Int) * (m : Int) = ((n * m : Nat) : Int) by simp]
      exact w64 (by omega) (by omega)
    rw [e1]
    have hgood := clsOf_good (n * m) _ hD
    have hp : Ev (fun k => impl_Graph_parts.f k ((n * m : Nat) : Int) (derL m l t l.length)) ((cntF (clsOf (n * m) (derL m l t l.length)) (clsOf (n * m) (derL m l t l.length)).length 0 : Nat) : Int) := by
      unfold impl_Graph_parts.f
      refine Ev.bind (impl_classes_ev (n * m) (by omega) _ hlen hD) ?_
      exact Ev.bind (countParts_ev _ (by have := hgood.1; omega)) (Ev.now _)
    refine Ev.bind hp ?_
    rw [cnt_one (by omega) hgood]
    exact Ev.now _

def laws_FnExactIsConnectedCover.Pure : Prop := ∀ (a0_0 : Int) (l0_1 : List (List Int)) (a0_2 : Int) (l0_3 : List (List Int)), (Lit.int .i64 a0_0).wf = true → l0_1.length ≤ maxLen → (∀ x ∈ l0_1, x.length ≤ maxLen ∧ ∀ n ∈ x, (Lit.int .i64 n).wf = true) → (Lit.int .i64 a0_2).wf = true → l0_3.length ≤ maxLen → (∀ x ∈ l0_3, x.length ≤ maxLen ∧ ∀ n ∈ x, (Lit.int .i64 n).wf = true) → ∃ k, laws_FnExactIsConnectedCover.f k a0_0 l0_1 a0_2 l0_3 = some true
end Go.Proofs.Ytdnlimmdhnaegaa.I
namespace Go.Proofs.Ytdnlimmdhnaegaa.Pure
open Go.RowKit Go.Proofs.YtdnlimmdhnaegaaW.PrintWords Go.Proofs.YtdnlimmdhnaegaaW.PrintLast Go.Proofs.YtdnlimmdhnaegaaW.PrintMore Go.Proofs.Ytdnlimmdhnaegaa.I
theorem FnExactIsConnectedCover : laws_FnExactIsConnectedCover.Pure := by
  intro a l s t _ hl hx _ ht hy
  have hx' : ∀ x ∈ l, x.length ≤ maxLen := fun x h => (hx x h).1
  have hy' : ∀ x ∈ t, x.length ≤ maxLen := fun x h => (hy x h).1
  refine Ev.rounds (r := true) ?_
  unfold laws_FnExactIsConnectedCover.f
  obtain ⟨r, hr, h4⟩ := szCover_ev a l s t hl hx' ht hy'
  refine Ev.bind hr ?_
  by_cases hn : r < 0
  · simp only [hn, if_true]; exact Ev.now _
  · simp only [hn, if_false]
    obtain ⟨⟨s1, s2⟩, s3, s4⟩ := h4 (by omega)
    have g := toCover_ev a l s t s1 s2 s3 s4
    refine Ev.bind g (Ev.bind (spec_IsConnectedCover_ev a l s t hl ht) (Ev.bind g (Ev.bind (impl_IsConnectedCover_ev a l s t hl ht hy') ?_)))
    simp only [bne_self_eq_false, Bool.false_eq_true, if_false]
    refine Ev.step (fun k => by simp only [laws_FnExactIsConnectedCover.j0]; rfl) ?_
    simp only [Bool.false_eq_true, if_false]
    refine Ev.bind g (Ev.bind (eqCover_ev a l s t hl hx' ht hy') ?_)
    simp only [if_true]
    exact Ev.now _

end Go.Proofs.Ytdnlimmdhnaegaa.Pure
