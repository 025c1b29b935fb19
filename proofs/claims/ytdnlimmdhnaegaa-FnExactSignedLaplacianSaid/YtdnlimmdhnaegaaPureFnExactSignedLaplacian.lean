/- Plain lemmas on the Lean functions that FnExactSignedLaplacian reaches, and its pure statement. No condition. -/
import Derived.Test.YtdnlimmdhnaegaaHWalk
namespace Go.Proofs.Ytdnlimmdhnaegaa.H
open Go.RowKit Go.Proofs.YtdnlimmdhnaegaaW.PrintWords Go.Proofs.YtdnlimmdhnaegaaW.PrintLast Go.Proofs.YtdnlimmdhnaegaaW.PrintMore
set_option linter.unusedVariables false
set_option linter.unusedSimpArgs false
theorem w64 {n : Int} (h0 : -9223372036854775808 ≤ n) (h1 : n ≤ 9223372036854775807) : wrap64 n = n := IntWalk.wrap64_in n ⟨h0, h1⟩
theorem fuel {k n : Nat} (h : n < k) : ∃ m, k = m + 1 ∧ n ≤ m := ⟨k - 1, by omega, by omega⟩
theorem rd_nat (l : List Int) (i : Nat) (h : i < l.length) : rd l (i : Int) = l[i] := by
  simp [rd, List.getD_eq_getElem?_getD, h]
theorem rdL1_nat (l : List (List Int)) (i : Nat) (h : i < l.length) : rd_L1 l (i : Int) = l[i] := by
  simp [rd_L1, List.getD_eq_getElem?_getD, h]
theorem take_set {α : Type} (x l : List α) (i : Nat) (hx : x.length = l.length) (hi : i < l.length) (h : x.take i = l.take i) : (x.set i l[i]).take (i + 1) = l.take (i + 1) := by
  apply List.ext_getElem?
  intro j
  rw [List.getElem?_take, List.getElem?_take]
  by_cases hj : j < i + 1
  · rw [if_pos hj, if_pos hj]
    by_cases hji : j = i
    · subst hji
      rw [List.getElem?_set_self (by omega), List.getElem?_eq_getElem hi]
    · rw [List.getElem?_set_ne (by omega)]
      have h2 := congrArg (fun z => z[j]?) h
      simp only [List.getElem?_take] at h2
      rwa [if_pos (by omega), if_pos (by omega)] at h2
  · rw [if_neg hj, if_neg hj]

theorem toInt64S_l0 (l : List Int) (hl : l.length ≤ 35184372088832) : ∀ (d k i : Nat) (x : List Int), l.length - i = d → d < k → i ≤ l.length → x.length = l.length → x.take i = l.take i → laws_toInt64S.l0 k l x i = some l := by
  intro d
  induction d with
  | zero =>
    intro k i x hd hk hi hx ht
    obtain ⟨m, rfl, hm⟩ := fuel hk
    simp only [laws_toInt64S.l0]
    rw [if_neg (by omega)]
    rw [List.take_of_length_le (by omega), List.take_of_length_le (by omega)] at ht
    rw [ht]
  | succ d ih =>
    intro k i x hd hk hi hx ht
    obtain ⟨m, rfl, hm⟩ := fuel hk
    have hil : i < l.length := by omega
    simp only [laws_toInt64S.l0]
    rw [if_pos (by omega), if_pos (by omega), if_pos (by omega), w64 (by omega) (by omega), rd_nat l i hil, Int.toNat_natCast]
    exact ih m (i + 1) _ (by omega) (by omega) (by omega) (by simp [hx]) (take_set x l i hx hil ht)
theorem toInt64S_ev (l : List Int) (hl : l.length ≤ 35184372088832) : Ev (fun k => laws_toInt64S.f k l) l := by
  refine Ev.of (laws_toInt64S.mono l) (k := l.length + 1) ?_
  unfold laws_toInt64S.f
  rw [if_pos (by omega), if_pos (by simpa using hl)]
  exact toInt64S_l0 l hl l.length _ 0 _ (by omega) (by omega) (by omega) (by simp) (by simp)
theorem toInt64SS_l0 (l : List (List Int)) (hl : l.length ≤ 11728124029610) (hx : ∀ x ∈ l, x.length ≤ 35184372088832) : ∀ (d i : Nat) (x : List (List Int)), l.length - i = d → i ≤ l.length → x.length = l.length → x.take i = l.take i → Ev (fun k => laws_toInt64SS.l0 k l x i) l := by
  intro d
  induction d with
  | zero =>
    intro i x hd hi hx ht
    refine Ev.step (fun k => by simp only [laws_toInt64SS.l0]; rfl) ?_
    rw [List.take_of_length_le (by omega), List.take_of_length_le (by omega)] at ht
    simp only [show ¬ ((i : Int) < (l.length : Int)) by omega, if_false, ht]
    exact Ev.now l
  | succ d ih =>
    intro i x hd hi hx' ht
    have hil : i < l.length := by omega
    refine Ev.step (fun k => by simp only [laws_toInt64SS.l0]; rfl) ?_
    simp only [show ((i : Int) < (l.length : Int)) by omega, show (0 : Int) ≤ (i : Int) by omega, show ((i : Int) < (x.length : Int)) by omega, if_true, Int.toNat_natCast, w64 (show -9223372036854775808 ≤ (i : Int) + 1 by omega) (by omega), rdL1_nat l i hil]
    refine Ev.bind (toInt64S_ev l[i] (hx _ (List.getElem_mem hil))) ?_
    exact ih (i + 1) _ (by omega) (by omega) (by simp [hx']) (take_set x l i hx' hil ht)
theorem toInt64SS_ev (l : List (List Int)) (hl : l.length ≤ 11728124029610) (hx : ∀ x ∈ l, x.length ≤ 35184372088832) : Ev (fun k => laws_toInt64SS.f k l) l := by
  unfold laws_toInt64SS.f
  simp only [show (0 : Int) ≤ (l.length : Int) by omega, if_true, Int.toNat_natCast, hl]
  exact toInt64SS_l0 l hl hx l.length 0 _ (by omega) (by omega) (by simp) (by simp)
theorem toGraph_ev (a : Int) (l : List (List Int)) (hl : l.length ≤ 11728124029610) (hx : ∀ x ∈ l, x.length ≤ 35184372088832) : Ev (fun k => laws_toGraph.f k a l) (a, l) := by
  unfold laws_toGraph.f
  exact Ev.bind (toInt64SS_ev l hl hx) (Ev.now _)

theorem szInt64SS_l0 (l : List (List Int)) (hl : l.length ≤ maxLen) (hx : ∀ x ∈ l, x.length ≤ maxLen) : ∀ (d i : Nat) (a : Int), l.length - i = d → i ≤ l.length → 0 ≤ a → a ≤ 1048576 → ∃ r, Ev (fun k => laws_szInt64SS.l0 k l a i) r ∧ r ≤ 1048576 ∧ -1 ≤ r ∧ (0 ≤ r → ∀ x ∈ l.drop i, x.length ≤ 1048576) := by
  unfold maxLen at hl hx
  intro d
  induction d with
  | zero =>
    intro i a hd hi h0 h1
    refine ⟨a, Ev.step (fun k => by simp only [laws_szInt64SS.l0]; rfl) ?_, h1, by omega, fun _ x hx => ?_⟩
    · simp only [show ¬ ((i : Int) < (l.length : Int)) by omega, if_false]
      exact Ev.now _
    · rw [List.drop_of_length_le (by omega)] at hx; simp at hx
  | succ d ih =>
    intro i a hd hi h0 h1
    have hil : i < l.length := by omega
    have hxl := hx _ (List.getElem_mem hil)
    have hs : laws_szInt64S.f l[i] a = some (if a - (l[i].length : Int) < 0 then -1 else a - (l[i].length : Int)) := by
      unfold laws_szInt64S.f
      rw [w64 (by omega) (by omega)]
      split <;> rfl
    by_cases hn : a - (l[i].length : Int) < 0
    · rw [if_pos hn] at hs
      refine ⟨-1, Ev.step (fun k => by simp only [laws_szInt64SS.l0]; rfl) ?_, by omega, by omega, fun h => by omega⟩
      simp only [show ((i : Int) < (l.length : Int)) by omega, show (0 : Int) ≤ (i : Int) by omega, if_true, rdL1_nat l i hil, hs, Option.bind_some]
      exact Ev.now _
    · rw [if_neg hn] at hs
      obtain ⟨r, hr, h2, h3, h4⟩ := ih (i + 1) (a - (l[i].length : Int)) (by omega) (by omega) (by omega) (by omega)
      refine ⟨r, Ev.step (fun k => by simp only [laws_szInt64SS.l0]; rfl) ?_, h2, h3, fun h x hx => ?_⟩
      · simp only [show ((i : Int) < (l.length : Int)) by omega, show (0 : Int) ≤ (i : Int) by omega, if_true, rdL1_nat l i hil, hs, Option.bind_some, hn, if_false, w64 (show -9223372036854775808 ≤ (i : Int) + 1 by omega) (by omega)]
        exact hr
      · rw [List.drop_eq_getElem_cons hil] at hx
        rcases List.mem_cons.1 hx with rfl | hx
        · omega
        · exact h4 h x hx
/-- The sizes that the law lets by. -/
theorem szInt64SS_ev (l : List (List Int)) (a : Int) (ha : 0 ≤ a) (ha1 : a ≤ 1048576) (hl : l.length ≤ maxLen) (hx : ∀ x ∈ l, x.length ≤ maxLen) : ∃ r, Ev (fun k => laws_szInt64SS.f k l a) r ∧ r ≤ 1048576 ∧ -1 ≤ r ∧ (0 ≤ r → l.length ≤ 1048576 ∧ ∀ x ∈ l, x.length ≤ 1048576) := by
  have hl' := hl
  unfold maxLen at hl'
  unfold laws_szInt64SS.f
  rw [w64 (by omega) (by omega)]
  by_cases hn : a - (l.length : Int) < 0
  · refine ⟨-1, ?_, by omega, by omega, fun h => by omega⟩
    simp only [hn, if_true]
    exact Ev.now _
  · obtain ⟨r, hr, h2, h3, h4⟩ := szInt64SS_l0 l hl hx l.length 0 (a - (l.length : Int)) (by omega) (by omega) (by omega) (by omega)
    refine ⟨r, ?_, h2, h3, fun h => ⟨by omega, by simpa using h4 h⟩⟩
    simp only [hn, if_false]
    exact hr
theorem szGraph_ev (s : Int) (l : List (List Int)) (a : Int) (ha : 0 ≤ a) (ha1 : a ≤ 1048576) (hl : l.length ≤ maxLen) (hx : ∀ x ∈ l, x.length ≤ maxLen) : ∃ r, Ev (fun k => laws_szGraph.f k s l a) r ∧ r ≤ 1048576 ∧ -1 ≤ r ∧ (0 ≤ r → l.length ≤ 1048576 ∧ ∀ x ∈ l, x.length ≤ 1048576) := by
  obtain ⟨r, hr, h2, h3, h4⟩ := szInt64SS_ev l a ha ha1 hl hx
  unfold laws_szGraph.f
  by_cases hn : r < 0
  · refine ⟨-1, Ev.bind hr ?_, by omega, by omega, fun h => by omega⟩
    simp only [hn, if_true]
    exact Ev.now _
  · refine ⟨r, Ev.bind hr ?_, h2, h3, h4⟩
    simp only [hn, if_false]
    exact Ev.now _
/-- Equal lists are told equal. -/
theorem eqInt64S_l0 (l : List Int) (hl : l.length ≤ maxLen) : ∀ (d i : Nat), l.length - i = d → i ≤ l.length → Ev (fun k => laws_eqInt64S.l0 k l l i) true := by
  unfold maxLen at hl
  intro d
  induction d with
  | zero =>
    intro i hd hi
    refine Ev.step (fun k => by simp only [laws_eqInt64S.l0]; rfl) ?_
    simp only [show ¬ ((i : Int) < (l.length : Int)) by omega, if_false]
    exact Ev.now _
  | succ d ih =>
    intro i hd hi
    refine Ev.step (fun k => by simp only [laws_eqInt64S.l0]; rfl) ?_
    simp only [show ((i : Int) < (l.length : Int)) by omega, show (0 : Int) ≤ (i : Int) by omega, if_true, w64 (show -9223372036854775808 ≤ (i : Int) + 1 by omega) (by omega)]
    exact ih (i + 1) (by omega) (by omega)
theorem eqInt64S_ev (l : List Int) (hl : l.length ≤ maxLen) : Ev (fun k => laws_eqInt64S.f k l l) true := by
  unfold laws_eqInt64S.f
  simp only [if_true]
  exact eqInt64S_l0 l hl l.length 0 (by omega) (by omega)
theorem eqInt64SS_l0 (l : List (List Int)) (hl : l.length ≤ maxLen) (hx : ∀ x ∈ l, x.length ≤ maxLen) : ∀ (d i : Nat), l.length - i = d → i ≤ l.length → Ev (fun k => laws_eqInt64SS.l0 k l l i) true := by
  unfold maxLen at hl
  intro d
  induction d with
  | zero =>
    intro i hd hi
    refine Ev.step (fun k => by simp only [laws_eqInt64SS.l0]; rfl) ?_
    simp only [show ¬ ((i : Int) < (l.length : Int)) by omega, if_false]
    exact Ev.now _
  | succ d ih =>
    intro i hd hi
    have hil : i < l.length := by omega
    refine Ev.step (fun k => by simp only [laws_eqInt64SS.l0]; rfl) ?_
    simp only [show ((i : Int) < (l.length : Int)) by omega, show (0 : Int) ≤ (i : Int) by omega, if_true, w64 (show -9223372036854775808 ≤ (i : Int) + 1 by omega) (by omega), rdL1_nat l i hil]
    refine Ev.bind (eqInt64S_ev l[i] (hx _ (List.getElem_mem hil))) ?_
    simp only [if_true]
    exact ih (i + 1) (by omega) (by omega)
theorem eqInt64SS_ev (l : List (List Int)) (hl : l.length ≤ maxLen) (hx : ∀ x ∈ l, x.length ≤ maxLen) : Ev (fun k => laws_eqInt64SS.f k l l) true := by
  unfold laws_eqInt64SS.f
  simp only [if_true]
  exact eqInt64SS_l0 l hl hx l.length 0 (by omega) (by omega)
theorem eqGraph_ev (a : Int) (l : List (List Int)) (hl : l.length ≤ maxLen) (hx : ∀ x ∈ l, x.length ≤ maxLen) : Ev (fun k => laws_eqGraph.f k a l a l) true := by
  unfold laws_eqGraph.f
  simp only [if_true]
  refine Ev.bind (eqInt64SS_ev l hl hx) ?_
  simp only [if_true]
  exact Ev.now _
/-! ### what a graph is -/
def endIn (a n : Int) : Bool := decide (0 ≤ n) && decide (n ≤ wrap64 (a - 1))
def edgeIn (a : Int) (e : List Int) : Bool := decide (e.length = 2) && (endIn a (rd e 0) && endIn a (rd e 1))
def isG (a : Int) (l : List (List Int)) : Bool := decide (1 ≤ a) && (decide (a ≤ 8) && (decide (l.length ≤ 10) && l.all (edgeIn a)))
theorem within_eq (a b c : Int) : impl_within.f a b c = some (decide (b ≤ a) && decide (a ≤ c)) := by
  unfold impl_within.f
  by_cases h : b ≤ a <;> simp [h]
theorem l01In_eq (a b c : Int) : spec_l01In.f a b c = some (decide (b ≤ a) && decide (a ≤ c)) := by
  unfold spec_l01In.f
  by_cases h : b ≤ a <;> simp [h]
theorem impl_IsGraph_l0 (a : Int) (l : List (List Int)) (hl : l.length ≤ maxLen) : ∀ (d i : Nat), l.length - i = d → i ≤ l.length → Ev (fun k => impl_IsGraph.l0 k l l.length i a l) ((l.drop i).all (edgeIn a) && (decide (1 ≤ a) && (decide (a ≤ 8) && decide (l.length ≤ 10)))) := by
  unfold maxLen at hl
  intro d
  induction d with
  | zero =>
    intro i hd hi
    refine Ev.step (fun k => by simp only [impl_IsGraph.l0]; rfl) ?_
    simp only [show ¬ ((i : Int) < (l.length : Int)) by omega, if_false, within_eq, Option.bind_some, List.drop_of_length_le (show l.length ≤ i by omega), List.all_nil, Bool.true_and]
    by_cases h1 : 1 ≤ a
    · by_cases h2 : a ≤ 8
      · simp only [h1, h2, decide_true, Bool.true_and, if_true]
        exact Ev.congr (fun k => by congr 1; simp; omega) (Ev.now _)
      · simp only [h1, h2, decide_true, decide_false, Bool.true_and, Bool.false_and, Bool.false_eq_true, if_false]
        exact Ev.now _
    · simp only [h1, decide_false, Bool.false_and, Bool.false_eq_true, if_false]
      exact Ev.now _
  | succ d ih =>
    intro i hd hi
    have hil : i < l.length := by omega
    refine Ev.step (fun k => by simp only [impl_IsGraph.l0]; rfl) ?_
    have hdrop : (l.drop i).all (edgeIn a) = (edgeIn a l[i] && (l.drop (i + 1)).all (edgeIn a)) := by rw [List.drop_eq_getElem_cons hil, List.all_cons]
    rw [hdrop]
    simp only [show ((i : Int) < (l.length : Int)) by omega, show (0 : Int) ≤ (i : Int) by omega, if_true, w64 (show -9223372036854775808 ≤ (i : Int) + 1 by omega) (by omega), rdL1_nat l i hil, within_eq, Option.bind_some]
    unfold edgeIn endIn
    by_cases h2 : l[i].length = 2
    · simp only [h2, decide_true, Bool.true_and, show ((2 : Nat) : Int) = 2 from rfl, if_true, show (0 : Int) < 2 by omega, show (1 : Int) < 2 by omega]
      by_cases h3 : (decide (0 ≤ rd l[i] 0) && decide (rd l[i] 0 ≤ wrap64 (a - 1))) = true
      · by_cases h4 : (decide (0 ≤ rd l[i] 1) && decide (rd l[i] 1 ≤ wrap64 (a - 1))) = true
        · simp only [h3, h4, if_true, Bool.true_and]
          exact ih (i + 1) (by omega) (by omega)
        · simp only [Bool.not_eq_true] at h4
          simp only [h3, h4, if_true, Bool.false_and, Bool.and_false, Bool.false_eq_true, if_false]
          exact Ev.now _
      · simp only [Bool.not_eq_true] at h3
        simp only [h3, Bool.false_and, Bool.false_eq_true, if_false]
        exact Ev.now _
    · simp only [show ¬ ((l[i].length : Int) = 2) by omega, h2, decide_false, Bool.false_and, if_false]
      exact Ev.now _
theorem impl_IsGraph_ev (a : Int) (l : List (List Int)) (hl : l.length ≤ maxLen) : Ev (fun k => impl_IsGraph.f k a l) (isG a l) := by
  unfold impl_IsGraph.f
  have h := impl_IsGraph_l0 a l hl l.length 0 (by omega) (by omega)
  have e : ((l.drop 0).all (edgeIn a) && (decide (1 ≤ a) && (decide (a ≤ 8) && decide (l.length ≤ 10)))) = isG a l := by
    unfold isG
    rw [List.drop_zero]
    cases l.all (edgeIn a) <;> simp
  rw [e] at h
  exact h
theorem spec_l01Is_l0 (a : Int) (l : List (List Int)) (hl : l.length ≤ maxLen) : ∀ (d i : Nat), l.length - i = d → i ≤ l.length → Ev (fun k => spec_l01Is.l0 k i a l) ((l.drop i).all (edgeIn a)) := by
  unfold maxLen at hl
  intro d
  induction d with
  | zero =>
    intro i hd hi
    refine Ev.step (fun k => by simp only [spec_l01Is.l0]; rfl) ?_
    simp only [show ¬ ((i : Int) < (l.length : Int)) by omega, if_false, List.drop_of_length_le (show l.length ≤ i by omega), List.all_nil]
    exact Ev.now _
  | succ d ih =>
    intro i hd hi
    have hil : i < l.length := by omega
    refine Ev.step (fun k => by simp only [spec_l01Is.l0]; rfl) ?_
    have hdrop : (l.drop i).all (edgeIn a) = (edgeIn a l[i] && (l.drop (i + 1)).all (edgeIn a)) := by rw [List.drop_eq_getElem_cons hil, List.all_cons]
    rw [hdrop]
    simp only [show ((i : Int) < (l.length : Int)) by omega, show (0 : Int) ≤ (i : Int) by omega, if_true, w64 (show -9223372036854775808 ≤ (i : Int) + 1 by omega) (by omega), rdL1_nat l i hil, l01In_eq, Option.bind_some]
    unfold edgeIn endIn
    by_cases h2 : l[i].length = 2
    · simp only [h2, decide_true, Bool.true_and, show ((2 : Nat) : Int) = 2 from rfl, if_true, show (0 : Int) < 2 by omega, show (1 : Int) < 2 by omega]
      by_cases h3 : (decide (0 ≤ rd l[i] 0) && decide (rd l[i] 0 ≤ wrap64 (a - 1))) = true
      · by_cases h4 : (decide (0 ≤ rd l[i] 1) && decide (rd l[i] 1 ≤ wrap64 (a - 1))) = true
        · simp only [h3, h4, if_true, Bool.true_and]
          exact ih (i + 1) (by omega) (by omega)
        · simp only [Bool.not_eq_true] at h4
          simp only [h3, h4, if_true, Bool.false_and, Bool.and_false, Bool.false_eq_true, if_false]
          exact Ev.now _
      · simp only [Bool.not_eq_true] at h3
        simp only [h3, Bool.false_and, Bool.false_eq_true, if_false]
        exact Ev.now _
    · simp only [show ¬ ((l[i].length : Int) = 2) by omega, h2, decide_false, Bool.false_and, if_false]
      exact Ev.now _
theorem spec_l01Is_ev (a : Int) (l : List (List Int)) (hl : l.length ≤ maxLen) : Ev (fun k => spec_l01Is.f k a l) (isG a l) := by
  unfold spec_l01Is.f isG
  simp only [l01In_eq, Option.bind_some]
  have hj : ∀ b, Ev (fun k => spec_l01Is.j0 k b a l) (!b && l.all (edgeIn a)) := by
    intro b
    refine Ev.step (fun k => by simp only [spec_l01Is.j0]; rfl) ?_
    cases b with
    | true => simp only [if_true, Bool.not_true, Bool.false_and]; exact Ev.now _
    | false =>
      simp only [Bool.false_eq_true, if_false, Bool.not_false, Bool.true_and]
      exact spec_l01Is_l0 a l hl l.length 0 (by omega) (by omega)
  by_cases h1 : 1 ≤ a
  · by_cases h2 : a ≤ 8
    · simp only [h1, h2, decide_true, Bool.true_and, if_true]
      have h := hj (decide ((l.length : Int) > 10))
      have e : (!decide ((l.length : Int) > 10)) = decide (l.length ≤ 10) := by
        by_cases h : l.length ≤ 10
        · simp [h]; omega
        · simp [h]; omega
      rw [e] at h
      exact h
    · simp only [h1, h2, decide_true, decide_false, Bool.true_and, Bool.false_and, Bool.false_eq_true, if_false]
      exact hj true
  · simp only [h1, decide_false, Bool.false_and, Bool.false_eq_true, if_false]
    exact hj true
def listOK (m : Int) (c : List Int) : Bool := c.all fun x => decide (-m ≤ x) && decide (x ≤ m)
theorem l04List_l0 (m : Int) (hm : 0 ≤ m) (hm1 : m ≤ 1048576) (a : Int) (l : List (List Int)) (c : List Int) (hc : c.length ≤ maxLen) : ∀ (d i : Nat), c.length - i = d → i ≤ c.length → Ev (fun k => spec_l04List.l0 k c m i a l) (listOK m (c.drop i) && ((c.length : Int) == (l.length : Int))) := by
  unfold maxLen at hc
  intro d
  induction d with
  | zero =>
    intro i hd hi
    refine Ev.step (fun k => by simp only [spec_l04List.l0]; rfl) ?_
    simp only [show ¬ ((i : Int) < (c.length : Int)) by omega, if_false, List.drop_of_length_le (show c.length ≤ i by omega), listOK, List.all_nil, Bool.true_and]
    exact Ev.now _
  | succ d ih =>
    intro i hd hi
    have hil : i < c.length := by omega
    refine Ev.step (fun k => by simp only [spec_l04List.l0]; rfl) ?_
    have hdrop : listOK m (c.drop i) = ((decide (-m ≤ c[i]) && decide (c[i] ≤ m)) && listOK m (c.drop (i + 1))) := by unfold listOK; rw [List.drop_eq_getElem_cons hil, List.all_cons]
    rw [hdrop]
    simp only [show ((i : Int) < (c.length : Int)) by omega, show (0 : Int) ≤ (i : Int) by omega, if_true, l01In_eq, Option.bind_some, rd_nat c i hil, w64 (show -9223372036854775808 ≤ (i : Int) + 1 by omega) (by omega), w64 (show -9223372036854775808 ≤ -m by omega) (by omega)]
    cases hb : (decide (-m ≤ c[i]) && decide (c[i] ≤ m)) with
    | true => simp only [if_true, Bool.true_and]; exact ih (i + 1) (by omega) (by omega)
    | false => simp only [Bool.false_eq_true, if_false, Bool.false_and]; exact Ev.now _
theorem l04List_ev (m : Int) (hm : 0 ≤ m) (hm1 : m ≤ 1048576) (a : Int) (l : List (List Int)) (c : List Int) (hc : c.length ≤ maxLen) : Ev (fun k => spec_l04List.f k a l c m) (listOK m c && ((c.length : Int) == (l.length : Int))) := by
  have h := l04List_l0 m hm hm1 a l c hc c.length 0 (by omega) (by omega)
  rw [List.drop_zero] at h
  exact h
theorem l04Signs_l0 (c : List Int) (hc : c.length ≤ maxLen) : ∀ (d i : Nat), c.length - i = d → i ≤ c.length → Ev (fun k => spec_l04Signs.l0 k c i) (if (c.drop i).all (fun x => x != 0) then 0 else 2) := by
  unfold maxLen at hc
  intro d
  induction d with
  | zero =>
    intro i hd hi
    refine Ev.step (fun k => by simp only [spec_l04Signs.l0]; rfl) ?_
    simp only [show ¬ ((i : Int) < (c.length : Int)) by omega, if_false, List.drop_of_length_le (show c.length ≤ i by omega), List.all_nil, if_true]
    exact Ev.now _
  | succ d ih =>
    intro i hd hi
    have hil : i < c.length := by omega
    refine Ev.step (fun k => by simp only [spec_l04Signs.l0]; rfl) ?_
    rw [List.drop_eq_getElem_cons hil, List.all_cons]
    simp only [show ((i : Int) < (c.length : Int)) by omega, show (0 : Int) ≤ (i : Int) by omega, if_true, rd_nat c i hil, w64 (show -9223372036854775808 ≤ (i : Int) + 1 by omega) (by omega)]
    by_cases h0 : c[i] = 0
    · simp only [h0, if_true, bne_self_eq_false, Bool.false_and, Bool.false_eq_true, if_false]; exact Ev.now _
    · simp only [h0, if_false, show (c[i] != 0) = true by simpa using h0, Bool.true_and]; exact ih (i + 1) (by omega) (by omega)
def signsOK (l : List (List Int)) (c : List Int) : Bool := decide ((c.length : Int) = (l.length : Int)) && !(c.any badSign)
theorem signsOK_eq (l : List (List Int)) (c : List Int) : signsOK l c = ((listOK 1 c && ((c.length : Int) == (l.length : Int))) && c.all (fun x => x != 0)) := by
  have h : (!(c.any badSign)) = (listOK 1 c && c.all (fun x => x != 0)) := by
    induction c with
    | nil => rfl
    | cons x xs ih =>
      rw [List.any_cons, Bool.not_or, ih]
      unfold listOK
      rw [List.all_cons, List.all_cons]
      have hx : (!badSign x) = ((decide (-1 ≤ x) && decide (x ≤ 1)) && (x != 0)) := by
        rw [Bool.eq_iff_iff]
        simp [badSign]
        omega
      rw [hx]
      generalize (decide (-1 ≤ x) && decide (x ≤ 1)) = b1
      generalize (x != 0) = b2
      generalize (xs.all fun x => decide (-1 ≤ x) && decide (x ≤ 1)) = b3
      generalize (xs.all fun x => x != 0) = b4
      cases b1 <;> cases b2 <;> cases b3 <;> cases b4 <;> rfl
  unfold signsOK
  rw [h]
  have e : ((c.length : Int) == (l.length : Int)) = decide ((c.length : Int) = (l.length : Int)) := rfl
  rw [e]
  generalize decide ((c.length : Int) = (l.length : Int)) = b1
  generalize listOK 1 c = b2
  generalize (c.all fun x => x != 0) = b3
  cases b1 <;> cases b2 <;> cases b3 <;> rfl
theorem l04Signs_ev (a : Int) (l : List (List Int)) (c : List Int) (hl : l.length ≤ maxLen) (hc : c.length ≤ maxLen) : Ev (fun k => spec_l04Signs.f k a l c) (if isG a l then if signsOK l c then 0 else 2 else 1) := by
  unfold spec_l04Signs.f
  refine Ev.bind (spec_l01Is_ev a l hl) ?_
  cases isG a l with
  | false => simp only [Bool.false_eq_true, if_false]; exact Ev.now _
  | true =>
    simp only [if_true]
    refine Ev.bind (l04List_ev 1 (by omega) (by omega) a l c hc) ?_
    rw [signsOK_eq]
    cases (listOK 1 c && ((c.length : Int) == (l.length : Int))) with
    | false => simp only [Bool.false_and, Bool.false_eq_true, if_false]; exact Ev.now _
    | true =>
      simp only [if_true, Bool.true_and]
      have h := l04Signs_l0 c hc c.length 0 (by omega) (by omega)
      rw [List.drop_zero] at h
      exact h
def mkS : Nat → Int → List Int
  | 0, _ => []
  | n + 1, a => a :: mkS n (a + 1)
theorem mkS_length (n : Nat) (a : Int) : (mkS n a).length = n := by
  induction n generalizing a with
  | zero => rfl
  | succ n ih => simp [mkS, ih]
theorem markInt64S_l0 : ∀ (d i : Nat) (a : Int) (x : List Int), x.length - i = d → i ≤ x.length → x.length ≤ 1048576 → 0 ≤ a → a + d ≤ 4611686018427387904 → Ev (fun k => laws_markInt64S.l0 k x a i) (a + d, x.take i ++ mkS d a) := by
  intro d
  induction d with
  | zero =>
    intro i a x hd hi hl h0 h1
    refine Ev.step (fun k => by simp only [laws_markInt64S.l0]; rfl) ?_
    simp only [show ¬ ((i : Int) < (x.length : Int)) by omega, if_false, mkS, List.append_nil, List.take_of_length_le (show x.length ≤ i by omega), show a + ((0 : Nat) : Int) = a by omega]
    exact Ev.now _
  | succ d ih =>
    intro i a x hd hi hl h0 h1
    refine Ev.step (fun k => by simp only [laws_markInt64S.l0]; rfl) ?_
    simp only [show ((i : Int) < (x.length : Int)) by omega, show (0 : Int) ≤ (i : Int) by omega, if_true, w64 (show -9223372036854775808 ≤ (i : Int) + 1 by omega) (by omega), w64 (show -9223372036854775808 ≤ a + 1 by omega) (by omega), Int.toNat_natCast]
    have h := ih (i + 1) (a + 1) (x.set i a) (by simp; omega) (by simp; omega) (by simp; omega) (by omega) (by omega)
    have e1 : (x.set i a).take (i + 1) ++ mkS d (a + 1) = x.take i ++ mkS (d + 1) a := by
      rw [List.take_succ_eq_append_getElem (by simp; omega), List.getElem_set_self, List.take_set_of_le (Nat.le_refl _), mkS, List.append_assoc]
      rfl
    have e2 : a + 1 + (d : Int) = a + ((d + 1 : Nat) : Int) := by omega
    rw [e1, e2] at h
    exact h
theorem markInt64S_ev (x : List Int) (a : Int) (hl : x.length ≤ 1048576) (h0 : 0 ≤ a) (h1 : a + x.length ≤ 4611686018427387904) : Ev (fun k => laws_markInt64S.f k x a) (a + x.length, mkS x.length a) := by
  have h := markInt64S_l0 x.length 0 a x (by omega) (by omega) hl h0 h1
  unfold laws_markInt64S.f
  simpa using h
theorem heldInt64S_l0 (x : List Int) (hl : x.length ≤ 1048576) : ∀ (d i : Nat) (a : Int), x.length - i = d → i ≤ x.length → x.drop i = mkS d a → 0 ≤ a → a + d ≤ 4611686018427387904 → Ev (fun k => laws_heldInt64S.l0 k x a i) (a + d) := by
  intro d
  induction d with
  | zero =>
    intro i a hd hi hx h0 h1
    refine Ev.step (fun k => by simp only [laws_heldInt64S.l0]; rfl) ?_
    simp only [show ¬ ((i : Int) < (x.length : Int)) by omega, if_false, show a + ((0 : Nat) : Int) = a by omega]
    exact Ev.now _
  | succ d ih =>
    intro i a hd hi hx h0 h1
    have hil : i < x.length := by omega
    rw [List.drop_eq_getElem_cons hil, mkS] at hx
    injection hx with hx1 hx2
    refine Ev.step (fun k => by simp only [laws_heldInt64S.l0]; rfl) ?_
    simp only [show ((i : Int) < (x.length : Int)) by omega, show (0 : Int) ≤ (i : Int) by omega, if_true, rd_nat x i hil, hx1, w64 (show -9223372036854775808 ≤ (i : Int) + 1 by omega) (by omega), w64 (show -9223372036854775808 ≤ a + 1 by omega) (by omega)]
    have h := ih (i + 1) (a + 1) (by omega) (by omega) hx2 (by omega) (by omega)
    have e2 : a + 1 + (d : Int) = a + ((d + 1 : Nat) : Int) := by omega
    rw [e2] at h
    exact h
theorem heldInt64S_ev (n : Nat) (a : Int) (hl : n ≤ 1048576) (h0 : 0 ≤ a) (h1 : a + n ≤ 4611686018427387904) : Ev (fun k => laws_heldInt64S.f k (mkS n a) a) (a + n) :=
  heldInt64S_l0 (mkS n a) (by rw [mkS_length]; exact hl) n 0 a (by rw [mkS_length]; rfl) (by omega) (by simp) h0 h1
def tot : List (List Int) → Nat
  | [] => 0
  | x :: xs => x.length + tot xs
def mkSS : List (List Int) → Int → List (List Int)
  | [], _ => []
  | x :: xs, a => mkS x.length a :: mkSS xs (a + x.length)
theorem mkSS_length (xs : List (List Int)) (a : Int) : (mkSS xs a).length = xs.length := by
  induction xs generalizing a with
  | nil => rfl
  | cons x xs ih => simp [mkSS, ih]
theorem tot_le (xs : List (List Int)) (m : Nat) (h : ∀ x ∈ xs, x.length ≤ m) : tot xs ≤ xs.length * m := by
  induction xs with
  | nil => simp [tot]
  | cons x xs ih =>
    have h1 := h x List.mem_cons_self
    have h2 := ih (fun y hy => h y (List.mem_cons_of_mem _ hy))
    simp only [tot, List.length_cons, Nat.succ_mul]
    omega
theorem tot_small (xs : List (List Int)) (hl : xs.length ≤ 1048576) (h : ∀ x ∈ xs, x.length ≤ 1048576) : tot xs ≤ 1099511627776 := by
  have h1 := tot_le xs 1048576 h
  have h2 := Nat.mul_le_mul_right 1048576 hl
  omega
theorem markInt64SS_l0 : ∀ (d i : Nat) (a : Int) (x : List (List Int)), x.length - i = d → i ≤ x.length → x.length ≤ 1048576 → (∀ y ∈ x.drop i, y.length ≤ 1048576) → 0 ≤ a → a + tot (x.drop i) ≤ 4611686018427387904 → Ev (fun k => laws_markInt64SS.l0 k x a i) (a + tot (x.drop i), x.take i ++ mkSS (x.drop i) a) := by
  intro d
  induction d with
  | zero =>
    intro i a x hd hi hl hx h0 h1
    refine Ev.step (fun k => by simp only [laws_markInt64SS.l0]; rfl) ?_
    simp only [show ¬ ((i : Int) < (x.length : Int)) by omega, if_false, List.drop_of_length_le (show x.length ≤ i by omega), mkSS, tot, List.append_nil, List.take_of_length_le (show x.length ≤ i by omega), show a + ((0 : Nat) : Int) = a by omega]
    exact Ev.now _
  | succ d ih =>
    intro i a x hd hi hl hx h0 h1
    have hil : i < x.length := by omega
    rw [List.drop_eq_getElem_cons hil] at hx h1 ⊢
    simp only [tot] at h1 ⊢
    have hxi := hx _ List.mem_cons_self
    refine Ev.step (fun k => by simp only [laws_markInt64SS.l0]; rfl) ?_
    have hrd : rdL x (i : Int) = x[i] := by simp [rdL, List.getD_eq_getElem?_getD, hil]
    simp only [show ((i : Int) < (x.length : Int)) by omega, show (0 : Int) ≤ (i : Int) by omega, if_true, w64 (show -9223372036854775808 ≤ (i : Int) + 1 by omega) (by omega), Int.toNat_natCast, hrd]
    refine Ev.bind (markInt64S_ev x[i] a hxi h0 (by omega)) ?_
    have hdrop : (x.set i (mkS x[i].length a)).drop (i + 1) = x.drop (i + 1) := by rw [List.drop_set_of_lt (by omega)]
    have h := ih (i + 1) (a + x[i].length) (x.set i (mkS x[i].length a)) (by simp; omega) (by simp; omega) (by simp; omega) (by rw [hdrop]; exact fun y hy => hx y (List.mem_cons_of_mem _ hy)) (by omega) (by rw [hdrop]; omega)
    rw [hdrop] at h
    have e1 : (x.set i (mkS x[i].length a)).take (i + 1) ++ mkSS (x.drop (i + 1)) (a + x[i].length) = x.take i ++ mkSS (x[i] :: x.drop (i + 1)) a := by
      rw [List.take_succ_eq_append_getElem (by simp; omega), List.getElem_set_self, List.take_set_of_le (Nat.le_refl _), mkSS, List.append_assoc]
      rfl
    have e2 : a + (x[i].length : Int) + ((tot (x.drop (i + 1)) : Nat) : Int) = a + ((x[i].length + tot (x.drop (i + 1)) : Nat) : Int) := by omega
    rw [e1, e2] at h
    exact h
theorem markInt64SS_ev (x : List (List Int)) (a : Int) (hl : x.length ≤ 1048576) (hx : ∀ y ∈ x, y.length ≤ 1048576) (h0 : 0 ≤ a) (h1 : a + tot x ≤ 4611686018427387904) : Ev (fun k => laws_markInt64SS.f k x a) (a + tot x, mkSS x a) := by
  have h := markInt64SS_l0 x.length 0 a x (by omega) (by omega) hl (by simpa using hx) h0 (by simpa using h1)
  unfold laws_markInt64SS.f
  simpa using h
theorem heldInt64SS_l0 (X : List (List Int)) (hl : X.length ≤ 1048576) : ∀ (ys : List (List Int)) (i : Nat) (a : Int), X.length - i = ys.length → i ≤ X.length → X.drop i = mkSS ys a → (∀ y ∈ ys, y.length ≤ 1048576) → 0 ≤ a → a + tot ys ≤ 4611686018427387904 → Ev (fun k => laws_heldInt64SS.l0 k X a i) (a + tot ys) := by
  intro ys
  induction ys with
  | nil =>
    intro i a hd hi hx hy h0 h1
    refine Ev.step (fun k => by simp only [laws_heldInt64SS.l0]; rfl) ?_
    simp only [List.length_nil] at hd
    simp only [show ¬ ((i : Int) < (X.length : Int)) by omega, if_false, tot, show a + ((0 : Nat) : Int) = a by omega]
    exact Ev.now _
  | cons y ys ih =>
    intro i a hd hi hx hy h0 h1
    simp only [List.length_cons] at hd
    have hil : i < X.length := by omega
    rw [List.drop_eq_getElem_cons hil, mkSS] at hx
    injection hx with hx1 hx2
    simp only [tot] at h1 ⊢
    have hyl := hy _ List.mem_cons_self
    refine Ev.step (fun k => by simp only [laws_heldInt64SS.l0]; rfl) ?_
    simp only [show ((i : Int) < (X.length : Int)) by omega, show (0 : Int) ≤ (i : Int) by omega, if_true, rdL1_nat X i hil, hx1, w64 (show -9223372036854775808 ≤ (i : Int) + 1 by omega) (by omega)]
    refine Ev.bind (heldInt64S_ev y.length a hyl h0 (by omega)) ?_
    simp only [show ¬ (a + (y.length : Int) < 0) by omega, if_false]
    have h := ih (i + 1) (a + y.length) (by omega) (by omega) hx2 (fun z hz => hy z (List.mem_cons_of_mem _ hz)) (by omega) (by omega)
    have e2 : a + (y.length : Int) + ((tot ys : Nat) : Int) = a + ((y.length + tot ys : Nat) : Int) := by omega
    rw [e2] at h
    exact h
theorem heldInt64SS_ev (x : List (List Int)) (a : Int) (hl : x.length ≤ 1048576) (hx : ∀ y ∈ x, y.length ≤ 1048576) (h0 : 0 ≤ a) (h1 : a + tot x ≤ 4611686018427387904) : Ev (fun k => laws_heldInt64SS.f k (mkSS x a) a) (a + tot x) :=
  heldInt64SS_l0 (mkSS x a) (by rw [mkSS_length]; exact hl) x 0 a (by rw [mkSS_length]; rfl) (by omega) (by simp) hx h0 h1
def two (l : List (List Int)) : Prop := ∀ x ∈ l, x.length = 2
theorem isG_two {a : Int} {l : List (List Int)} (h : isG a l = true) : two l := by
  intro x hx
  simp only [isG, Bool.and_eq_true, List.all_eq_true] at h
  have := h.2.2.2 x hx
  simp only [edgeIn, Bool.and_eq_true, decide_eq_true_eq] at this
  exact this.1
theorem isG_len {a : Int} {l : List (List Int)} (h : isG a l = true) : l.length ≤ 10 := by
  simp only [isG, Bool.and_eq_true, decide_eq_true_eq] at h
  exact h.2.2.1
theorem isG_size {a : Int} {l : List (List Int)} (h : isG a l = true) : 1 ≤ a ∧ a ≤ 8 := by
  simp only [isG, Bool.and_eq_true, decide_eq_true_eq] at h
  exact ⟨h.1, h.2.1⟩
theorem isG_edge {a : Int} {l : List (List Int)} (h : isG a l = true) {x : List Int} (hx : x ∈ l) : (0 ≤ rd x 0 ∧ rd x 0 ≤ a - 1) ∧ (0 ≤ rd x 1 ∧ rd x 1 ≤ a - 1) := by
  have hs := isG_size h
  simp only [isG, Bool.and_eq_true, List.all_eq_true] at h
  have := h.2.2.2 x hx
  simp only [edgeIn, endIn, Bool.and_eq_true, decide_eq_true_eq] at this
  rw [w64 (by omega) (by omega)] at this
  exact this.2
theorem square_l0 (n : Nat) (hn : n ≤ 1048576) : ∀ (d i : Nat), n - i = d → i ≤ n → Ev (fun k => impl_square.l0 k n (List.replicate i (List.replicate n 0)) n i) (List.replicate n (List.replicate n 0)) := by
  intro d
  induction d with
  | zero =>
    intro i hd hi
    obtain rfl : i = n := by omega
    refine Ev.step (fun k => by simp only [impl_square.l0]; rfl) ?_
    simp only [Int.lt_irrefl, if_false]
    exact Ev.now _
  | succ d ih =>
    intro i hd hi
    refine Ev.step (fun k => by simp only [impl_square.l0]; rfl) ?_
    simp only [show ((i : Int) < (n : Int)) by omega, show (0 : Int) ≤ (n : Int) by omega, Int.toNat_natCast, show n ≤ 35184372088832 by omega, List.length_replicate, show i < 5864062014805 by omega, if_true, w64 (show -9223372036854775808 ≤ (i : Int) + 1 by omega) (by omega)]
    have h := ih (i + 1) (by omega) (by omega)
    rw [List.replicate_succ'] at h
    exact h
theorem square_ev (n : Nat) (hn : n ≤ 1048576) : Ev (fun k => impl_square.f k n) (List.replicate n (List.replicate n 0)) := square_l0 n hn n 0 (by omega) (by omega)
theorem isG_small {a : Int} {l : List (List Int)} (h : isG a l = true) : l.length ≤ 1048576 ∧ ∀ x ∈ l, x.length ≤ 1048576 :=
  ⟨by have := isG_len h; omega, fun x hx => by have := isG_two h x hx; omega⟩
/-- The two ends of edge i of a graph, as numbers below n. -/
def endsIn (n : Nat) (l : List (List Int)) : Prop := ∀ i, i < l.length → (rd_L1 l (i : Int)).length = 2 ∧ ∃ u v : Nat, rd (rd_L1 l (i : Int)) 0 = u ∧ rd (rd_L1 l (i : Int)) 1 = v ∧ u < n ∧ v < n
theorem isG_ends {a : Int} {l : List (List Int)} (h : isG a l = true) : ∃ n : Nat, a = n ∧ 1 ≤ n ∧ n ≤ 8 ∧ endsIn n l := by
  have hs := isG_size h
  refine ⟨a.toNat, by omega, by omega, by omega, fun i hi => ?_⟩
  have hm : l[i] ∈ l := List.getElem_mem hi
  rw [rdL1_nat l i hi]
  have he := isG_edge h hm
  exact ⟨isG_two h _ hm, (rd l[i] 0).toNat, (rd l[i] 1).toNat, by omega, by omega, by omega, by omega⟩
/-- How often v is an end of the first i edges. -/
def degN (l : List (List Int)) : Nat → Nat → Nat
  | 0, _ => 0
  | i + 1, v => degN l i v + (if rd (rd_L1 l (i : Int)) 0 = (v : Int) then 1 else 0) + (if rd (rd_L1 l (i : Int)) 1 = (v : Int) then 1 else 0)
theorem degN_le (l : List (List Int)) (i v : Nat) : degN l i v ≤ 2 * i := by
  induction i with
  | zero => simp [degN]
  | succ i ih =>
    unfold degN
    have h1 : (if rd (rd_L1 l (i : Int)) 0 = (v : Int) then 1 else 0) ≤ 1 := by split <;> omega
    have h2 : (if rd (rd_L1 l (i : Int)) 1 = (v : Int) then 1 else 0) ≤ 1 := by split <;> omega
    omega
theorem l01Degree_l0 (a : Int) (l : List (List Int)) (hl : l.length ≤ 1048576) (h2 : two l) (v : Nat) : ∀ (d i : Nat), l.length - i = d → i ≤ l.length → Ev (fun k => spec_l01Degree.l0 k v (degN l i v : Int) i a l) (degN l l.length v : Int) := by
  intro d
  induction d with
  | zero =>
    intro i hd hi
    obtain rfl : i = l.length := by omega
    refine Ev.step (fun k => by simp only [spec_l01Degree.l0]; rfl) ?_
    simp only [Int.lt_irrefl, if_false]
    exact Ev.now _
  | succ d ih =>
    intro i hd hi
    have hil : i < l.length := by omega
    have hx : (rd_L1 l (i : Int)).length = 2 := by rw [rdL1_nat l i hil]; exact h2 _ (List.getElem_mem hil)
    have hdn := degN_le l i v
    have h := ih (i + 1) (by omega) (by omega)
    have hend : ∀ z : Nat, z ≤ 2 * i + 2 → z = degN l (i + 1) v → Ev (fun k => spec_l01Degree.l1 k v (z : Int) i 2 a l) (degN l l.length v : Int) := by
      intro z hz1 hz
      refine Ev.step (fun k => by simp only [spec_l01Degree.l1]; rfl) ?_
      simp only [Int.lt_irrefl, if_false, w64 (show -9223372036854775808 ≤ (i : Int) + 1 by omega) (by omega)]
      rw [hz]
      exact h
    have hone : ∀ z : Nat, z ≤ 2 * i + 1 → z = degN l i v + (if rd (rd_L1 l (i : Int)) 0 = (v : Int) then 1 else 0) → Ev (fun k => spec_l01Degree.l1 k v (z : Int) i 1 a l) (degN l l.length v : Int) := by
      intro z hz1 hz
      refine Ev.step (fun k => by simp only [spec_l01Degree.l1]; rfl) ?_
      simp only [show ((1 : Int) < 2) by omega, show ((0 : Int) ≤ 1) by omega, show (0 : Int) ≤ (i : Int) by omega, show ((i : Int) < (l.length : Int)) by omega, hx, show ((1 : Int) < ((2 : Nat) : Int)) by omega, if_true, w64 (show -9223372036854775808 ≤ (1 : Int) + 1 by omega) (by omega)]
      by_cases hc : rd (rd_L1 l (i : Int)) 1 = (v : Int)
      · simp only [hc, if_true, w64 (show -9223372036854775808 ≤ (z : Int) + 1 by omega) (by omega)]
        have := hend (z + 1) (by omega) (by unfold degN; rw [if_pos hc, ← hz])
        simpa using this
      · simp only [hc, if_false]
        have := hend z (by omega) (by unfold degN; rw [if_neg hc, ← hz]; rfl)
        simpa using this
    refine Ev.step (fun k => by simp only [spec_l01Degree.l0]; rfl) ?_
    simp only [show ((i : Int) < (l.length : Int)) by omega, if_true]
    refine Ev.step (fun k => by simp only [spec_l01Degree.l1]; rfl) ?_
    simp only [show ((0 : Int) < 2) by omega, show (0 : Int) ≤ (i : Int) by omega, show ((i : Int) < (l.length : Int)) by omega, hx, show ((0 : Int) ≤ 0) by omega, show ((0 : Int) < ((2 : Nat) : Int)) by omega, if_true, w64 (show -9223372036854775808 ≤ (0 : Int) + 1 by omega) (by omega)]
    by_cases hc : rd (rd_L1 l (i : Int)) 0 = (v : Int)
    · simp only [hc, if_true, w64 (show -9223372036854775808 ≤ ((degN l i v : Nat) : Int) + 1 by omega) (by omega)]
      have := hone (degN l i v + 1) (by omega) (by rw [if_pos hc])
      simpa using this
    · simp only [hc, if_false]
      have := hone (degN l i v) (by omega) (by rw [if_neg hc]; rfl)
      simpa using this
theorem l01Degree_ev (a : Int) (l : List (List Int)) (hl : l.length ≤ 1048576) (h2 : two l) (v : Nat) : Ev (fun k => spec_l01Degree.f k a l v) (degN l l.length v : Int) :=
  l01Degree_l0 a l hl h2 v l.length 0 (by omega) (by omega)
/-- The list of the degrees, of the first i edges. -/
def degL (n : Nat) (l : List (List Int)) (i : Nat) : List Int := (List.range n).map fun v => (degN l i v : Int)
theorem degL_length (n : Nat) (l : List (List Int)) (i : Nat) : (degL n l i).length = n := by simp [degL]
theorem degL_rd (n : Nat) (l : List (List Int)) (i v : Nat) (h : v < n) : rd (degL n l i) (v : Int) = (degN l i v : Int) := by
  rw [rd_nat _ _ (by rw [degL_length]; exact h)]
  simp [degL]
/-- One more at u. -/
theorem bump_rd (x : List Int) (u w : Nat) (hw : w < x.length) (y : Int) : rd (x.set u y) (w : Int) = if u = w then y else rd x (w : Int) := by
  rw [rd_nat _ _ (by rw [List.length_set]; exact hw), rd_nat _ _ hw, List.getElem_set]
theorem degL_step (n : Nat) (l : List (List Int)) (hl : l.length ≤ 1048576) (i u v : Nat) (hi : i < l.length) (hu : rd (rd_L1 l (i : Int)) 0 = u) (hv : rd (rd_L1 l (i : Int)) 1 = v) (hun : u < n) (hvn : v < n) :
    ((degL n l i).set u (wrap64 (rd (degL n l i) u + 1))).set v (wrap64 (rd ((degL n l i).set u (wrap64 (rd (degL n l i) u + 1))) v + 1)) = degL n l (i + 1) := by
  have hd := fun w => degN_le l i w
  rw [bump_rd _ _ _ (by rw [degL_length]; exact hvn), degL_rd n l i u hun, degL_rd n l i v hvn]
  have e1 : wrap64 ((degN l i u : Nat) + 1 : Int) = (degN l i u : Int) + 1 := w64 (by omega) (by have := hd u; omega)
  rw [e1]
  apply List.ext_getElem
  · simp [degL]
  · intro w h1 h2
    have hwn : w < n := by simpa [degL] using h2
    rw [List.getElem_set, List.getElem_set]
    have e2 : (degL n l i)[w]'(by rw [degL_length]; exact hwn) = (degN l i w : Int) := by simp [degL]
    have e3 : (degL n l (i + 1))[w]'h2 = (degN l (i + 1) w : Int) := by simp [degL]
    rw [e3, show degN l (i + 1) w = degN l i w + (if rd (rd_L1 l (i : Int)) 0 = (w : Int) then 1 else 0) + (if rd (rd_L1 l (i : Int)) 1 = (w : Int) then 1 else 0) from rfl, hu, hv]
    by_cases h3 : v = w
    · subst h3
      rw [if_pos rfl, if_pos rfl]
      by_cases h4 : u = v
      · subst h4
        simp only [if_true]
        rw [w64 (by omega) (by have := hd u; omega)]
        omega
      · simp only [h4, if_false, show ¬ ((u : Int) = (v : Int)) by omega]
        rw [w64 (by omega) (by have := hd v; omega)]
        omega
    · rw [if_neg h3, if_neg (show ¬ ((v : Int) = (w : Int)) by omega)]
      by_cases h4 : u = w
      · subst h4
        simp only [if_true]
        omega
      · simp only [h4, if_false, show ¬ ((u : Int) = (w : Int)) by omega, e2]
        omega
theorem degrees_l0 (n : Nat) (l : List (List Int)) (hl : l.length ≤ 1048576) (hE : endsIn n l) : ∀ (d i : Nat), l.length - i = d → i ≤ l.length → Ev (fun k => impl_Graph_degrees.l0 k (degL n l i) l (l.length : Int) i) (degL n l l.length) := by
  intro d
  induction d with
  | zero =>
    intro i hd hi
    obtain rfl : i = l.length := by omega
    refine Ev.step (fun k => by simp only [impl_Graph_degrees.l0]; rfl) ?_
    simp only [Int.lt_irrefl, if_false]
    exact Ev.now _
  | succ d ih =>
    intro i hd hi
    have hil : i < l.length := by omega
    obtain ⟨hx, u, v, hu, hv, hun, hvn⟩ := hE i hil
    have h := ih (i + 1) (by omega) (by omega)
    rw [← degL_step n l hl i u v hil hu hv hun hvn] at h
    refine Ev.step (fun k => by simp only [impl_Graph_degrees.l0]; rfl) ?_
    simp only [show ((i : Int) < (l.length : Int)) by omega, show (0 : Int) ≤ (i : Int) by omega, hx, hu, hv, degL_length, show ((0 : Int) < ((2 : Nat) : Int)) by omega, show ((1 : Int) < ((2 : Nat) : Int)) by omega, show (0 : Int) ≤ (u : Int) by omega, show (0 : Int) ≤ (v : Int) by omega, show ((u : Int) < (n : Int)) by omega, show ((v : Int) < (n : Int)) by omega, if_true, Option.bind_some, Int.toNat_natCast, w64 (show -9223372036854775808 ≤ (i : Int) + 1 by omega) (by omega)]
    exact h
theorem degrees_ev (n : Nat) (hn : n ≤ 1048576) (l : List (List Int)) (hl : l.length ≤ 1048576) (hE : endsIn n l) : Ev (fun k => impl_Graph_degrees.f k n l) (degL n l l.length) := by
  unfold impl_Graph_degrees.f
  simp only [show (0 : Int) ≤ (n : Int) by omega, Int.toNat_natCast, show n ≤ 35184372088832 by omega, if_true]
  have h := degrees_l0 n l hl hE l.length 0 (by omega) (by omega)
  have e : degL n l 0 = List.replicate n 0 := by
    apply List.ext_getElem
    · simp [degL]
    · intro w h1 h2; simp [degL, degN]
  rw [e] at h
  exact h
def sq (n : Nat) (M : List (List Int)) : Prop := M.length = n ∧ ∀ y ∈ M, y.length = n
theorem sq_row {n : Nat} {M : List (List Int)} (h : sq n M) (u : Nat) (hu : u < n) : (rd_L1 M (u : Int)).length = n := by
  rw [rdL1_nat _ _ (by rw [h.1]; exact hu)]
  exact h.2 _ (List.getElem_mem _)
def subAt (M : List (List Int)) (u v : Int) (x : Int) : List (List Int) := M.set u.toNat ((rd_L1 M u).set v.toNat (wrap64 (rd (rd_L1 M u) v - x)))
theorem sq_subAt {n : Nat} {M : List (List Int)} (h : sq n M) (u : Nat) (hu : u < n) (v x : Int) : sq n (subAt M u v x) := by
  refine ⟨by simp [subAt, h.1], fun y hy => ?_⟩
  rcases List.mem_or_eq_of_mem_set hy with hy | rfl
  · exact h.2 y hy
  · rw [List.length_set]; exact sq_row h u hu
/-- Edge i, of the sign s[i], off both places. -/
def stp (l : List (List Int)) (s : List Int) (M : List (List Int)) (i : Nat) : List (List Int) :=
  subAt (subAt M (rd (rd_L1 l (i : Int)) 0) (rd (rd_L1 l (i : Int)) 1) (rd s (i : Int))) (rd (rd_L1 l (i : Int)) 1) (rd (rd_L1 l (i : Int)) 0) (rd s (i : Int))
def walkM (l : List (List Int)) (s : List Int) : Nat → Nat → List (List Int) → List (List Int)
  | 0, _, M => M
  | d + 1, i, M => walkM l s d (i + 1) (stp l s M i)
theorem sq_stp {n : Nat} {l : List (List Int)} (hE : endsIn n l) (s : List Int) {M : List (List Int)} (h : sq n M) (i : Nat) (hi : i < l.length) : sq n (stp l s M i) := by
  obtain ⟨hx, u, v, hu, hv, hun, hvn⟩ := hE i hi
  unfold stp
  rw [hu, hv]
  exact sq_subAt (sq_subAt h u hun _ _) v hvn _ _
theorem sq_walk {n : Nat} {l : List (List Int)} (hE : endsIn n l) (s : List Int) : ∀ (d i : Nat) (M : List (List Int)), i + d ≤ l.length → sq n M → sq n (walkM l s d i M) := by
  intro d
  induction d with
  | zero => intro i M _ h; exact h
  | succ d ih => intro i M hi h; exact ih (i + 1) _ (by omega) (sq_stp hE s h i (by omega))
theorem spec_signed_l1 (n : Nat) (a : Int) (l : List (List Int)) (hl : l.length ≤ 1048576) (hE : endsIn n l) (s : List Int) (hs : s.length = l.length) : ∀ (d i : Nat) (M : List (List Int)), l.length - i = d → i ≤ l.length → sq n M → Ev (fun k => spec_l10Signed.l1 k s M i a l) (walkM l s d i M) := by
  intro d
  induction d with
  | zero =>
    intro i M hd hi hM
    obtain rfl : i = l.length := by omega
    refine Ev.step (fun k => by simp only [spec_l10Signed.l1]; rfl) ?_
    simp only [Int.lt_irrefl, if_false]
    exact Ev.now _
  | succ d ih =>
    intro i M hd hi hM
    have hil : i < l.length := by omega
    obtain ⟨hx, u, v, hu, hv, hun, hvn⟩ := hE i hil
    have h := ih (i + 1) (stp l s M i) (by omega) (by omega) (sq_stp hE s hM i hil)
    have h1 := sq_subAt hM u hun v (rd s (i : Int))
    have e1 : (rd_L1 M (u : Int)).length = n := sq_row hM u hun
    have e2 : (rd_L1 (M.set u ((rd_L1 M (u : Int)).set v (wrap64 (rd (rd_L1 M (u : Int)) (v : Int) - rd s (i : Int))))) (v : Int)).length = n := sq_row h1 v hvn
    have hst : stp l s M i = subAt (subAt M (u : Int) (v : Int) (rd s (i : Int))) (v : Int) (u : Int) (rd s (i : Int)) := by unfold stp; rw [hu, hv]
    rw [hst] at h
    rw [show walkM l s (d + 1) i M = walkM l s d (i + 1) (stp l s M i) from rfl, hst]
    refine Ev.step (fun k => by simp only [spec_l10Signed.l1]; rfl) ?_
    simp only [show ((i : Int) < (l.length : Int)) by omega, show (0 : Int) ≤ (i : Int) by omega, hx, hu, hv, hM.1, e1, hs, show ((0 : Int) < ((2 : Nat) : Int)) by omega, show ((1 : Int) < ((2 : Nat) : Int)) by omega, show (0 : Int) ≤ (u : Int) by omega, show (0 : Int) ≤ (v : Int) by omega, show ((u : Int) < (n : Int)) by omega, show ((v : Int) < (n : Int)) by omega, if_true, Option.bind_some, Int.toNat_natCast, e2, w64 (show -9223372036854775808 ≤ (i : Int) + 1 by omega) (by omega)]
    exact h
theorem impl_signed_l1 (n : Nat) (l : List (List Int)) (hl : l.length ≤ 1048576) (hE : endsIn n l) (s : List Int) (hs : s.length = l.length) : ∀ (d i : Nat) (M : List (List Int)), l.length - i = d → i ≤ l.length → sq n M → Ev (fun k => impl_Graph_signedLaplacian.l1 k s M l (l.length : Int) i) (walkM l s d i M) := by
  intro d
  induction d with
  | zero =>
    intro i M hd hi hM
    obtain rfl : i = l.length := by omega
    refine Ev.step (fun k => by simp only [impl_Graph_signedLaplacian.l1]; rfl) ?_
    simp only [Int.lt_irrefl, if_false]
    exact Ev.now _
  | succ d ih =>
    intro i M hd hi hM
    have hil : i < l.length := by omega
    obtain ⟨hx, u, v, hu, hv, hun, hvn⟩ := hE i hil
    have h := ih (i + 1) (stp l s M i) (by omega) (by omega) (sq_stp hE s hM i hil)
    have h1 := sq_subAt hM u hun v (rd s (i : Int))
    have e1 : (rd_L1 M (u : Int)).length = n := sq_row hM u hun
    have e2 : (rd_L1 (M.set u ((rd_L1 M (u : Int)).set v (wrap64 (rd (rd_L1 M (u : Int)) (v : Int) - rd s (i : Int))))) (v : Int)).length = n := sq_row h1 v hvn
    have hst : stp l s M i = subAt (subAt M (u : Int) (v : Int) (rd s (i : Int))) (v : Int) (u : Int) (rd s (i : Int)) := by unfold stp; rw [hu, hv]
    rw [hst] at h
    rw [show walkM l s (d + 1) i M = walkM l s d (i + 1) (stp l s M i) from rfl, hst]
    refine Ev.step (fun k => by simp only [impl_Graph_signedLaplacian.l1]; rfl) ?_
    simp only [show ((i : Int) < (l.length : Int)) by omega, show (0 : Int) ≤ (i : Int) by omega, hx, hu, hv, hM.1, e1, hs, show ((0 : Int) < ((2 : Nat) : Int)) by omega, show ((1 : Int) < ((2 : Nat) : Int)) by omega, show (0 : Int) ≤ (u : Int) by omega, show (0 : Int) ≤ (v : Int) by omega, show ((u : Int) < (n : Int)) by omega, show ((v : Int) < (n : Int)) by omega, if_true, Option.bind_some, Int.toNat_natCast, e2, w64 (show -9223372036854775808 ≤ (i : Int) + 1 by omega) (by omega)]
    exact h
/-- The degrees on the diagonal of the first v rows; zeros else. -/
def diagM (n : Nat) (l : List (List Int)) (v : Nat) : List (List Int) := (List.range n).map fun i => if i < v then (List.replicate n 0).set i (degN l l.length i : Int) else List.replicate n 0
theorem diagM_length (n : Nat) (l : List (List Int)) (v : Nat) : (diagM n l v).length = n := by simp [diagM]
theorem diagM_sq (n : Nat) (l : List (List Int)) (v : Nat) : sq n (diagM n l v) := by
  refine ⟨diagM_length n l v, fun y hy => ?_⟩
  obtain ⟨i, _, rfl⟩ := List.mem_map.1 hy
  split <;> simp
theorem diagM_row (n : Nat) (l : List (List Int)) (v : Nat) (hv : v < n) : rd_L1 (diagM n l v) (v : Int) = List.replicate n 0 := by
  rw [rdL1_nat _ _ (by rw [diagM_length]; exact hv)]
  simp [diagM]
theorem diagM_step (n : Nat) (l : List (List Int)) (v : Nat) (hv : v < n) : (diagM n l v).set v ((List.replicate n 0).set v (degN l l.length v : Int)) = diagM n l (v + 1) := by
  apply List.ext_getElem
  · simp [diagM]
  · intro i h1 h2
    rw [List.getElem_set]
    simp only [diagM, List.getElem_map, List.getElem_range]
    by_cases h3 : v = i
    · subst h3; rw [if_pos rfl, if_pos (by omega)]
    · rw [if_neg h3]
      by_cases h4 : i < v
      · rw [if_pos h4, if_pos (by omega)]
      · rw [if_neg h4, if_neg (by omega)]
theorem diagM_take (n : Nat) (l : List (List Int)) (v : Nat) (hv : v < n) : (diagM n l n).take (v + 1) = (diagM n l n).take v ++ [(List.replicate n 0).set v (degN l l.length v : Int)] := by
  rw [List.take_succ_eq_append_getElem (by rw [diagM_length]; exact hv)]
  simp [diagM, hv]
def signedM (n : Nat) (l : List (List Int)) (s : List Int) : List (List Int) := walkM l s l.length 0 (diagM n l n)
theorem spec_signed_l0 (n : Nat) (hn : n ≤ 8) (l : List (List Int)) (hl : l.length ≤ 1048576) (h2 : two l) (hE : endsIn n l) (s : List Int) (hs : s.length = l.length) : ∀ (d v : Nat), n - v = d → v ≤ n → Ev (fun k => spec_l10Signed.l0 k s ((diagM n l n).take v) v n l) (signedM n l s) := by
  intro d
  induction d with
  | zero =>
    intro v hd hv
    obtain rfl : v = n := by omega
    refine Ev.step (fun k => by simp only [spec_l10Signed.l0]; rfl) ?_
    simp only [Int.lt_irrefl, if_false]
    rw [List.take_of_length_le (by rw [diagM_length]; omega)]
    exact spec_signed_l1 v v l hl hE s hs l.length 0 _ (by omega) (by omega) (diagM_sq v l v)
  | succ d ih =>
    intro v hd hv
    have hvn : v < n := by omega
    have h := ih (v + 1) (by omega) (by omega)
    rw [diagM_take n l v hvn] at h
    refine Ev.step (fun k => by simp only [spec_l10Signed.l0]; rfl) ?_
    simp only [show ((v : Int) < (n : Int)) by omega, show (0 : Int) ≤ (n : Int) by omega, Int.toNat_natCast, show n ≤ 35184372088832 by omega, if_true, Option.bind_some]
    refine Ev.bind (l01Degree_ev n l hl h2 v) ?_
    simp only [show (0 : Int) ≤ (v : Int) by omega, List.length_replicate, show ((v : Int) < (n : Int)) by omega, if_true, Int.toNat_natCast, show ((diagM n l n).take v).length < 5864062014805 by (rw [List.length_take]; omega), w64 (show -9223372036854775808 ≤ (v : Int) + 1 by omega) (by omega)]
    exact h
theorem l10Signed_ev (n : Nat) (hn : n ≤ 8) (l : List (List Int)) (hl : l.length ≤ 1048576) (h2 : two l) (hE : endsIn n l) (s : List Int) (hs : s.length = l.length) : Ev (fun k => spec_l10Signed.f k n l s) (signedM n l s) :=
  spec_signed_l0 n hn l hl h2 hE s hs n 0 (by omega) (by omega)
theorem impl_signed_l0 (n : Nat) (hn : n ≤ 8) (a : Int) (l : List (List Int)) (hl : l.length ≤ 1048576) (hE : endsIn n l) (s : List Int) (hs : s.length = l.length) : ∀ (d v : Nat), n - v = d → v ≤ n → Ev (fun k => impl_Graph_signedLaplacian.l0 k s (diagM n l v) (degL n l l.length) (n : Int) v a l) (signedM n l s) := by
  intro d
  induction d with
  | zero =>
    intro v hd hv
    obtain rfl : v = n := by omega
    refine Ev.step (fun k => by simp only [impl_Graph_signedLaplacian.l0]; rfl) ?_
    simp only [Int.lt_irrefl, if_false]
    exact impl_signed_l1 v l hl hE s hs l.length 0 _ (by omega) (by omega) (diagM_sq v l v)
  | succ d ih =>
    intro v hd hv
    have hvn : v < n := by omega
    have h := ih (v + 1) (by omega) (by omega)
    rw [← diagM_step n l v hvn] at h
    refine Ev.step (fun k => by simp only [impl_Graph_signedLaplacian.l0]; rfl) ?_
    simp only [show ((v : Int) < (n : Int)) by omega, show (0 : Int) ≤ (v : Int) by omega, degL_length, diagM_length, diagM_row n l v hvn, List.length_replicate, degL_rd n l _ v hvn, Int.toNat_natCast, if_true, w64 (show -9223372036854775808 ≤ (v : Int) + 1 by omega) (by omega)]
    exact h
theorem signedLaplacian_ev (n : Nat) (hn : n ≤ 8) (l : List (List Int)) (hl : l.length ≤ 1048576) (hE : endsIn n l) (s : List Int) (hs : s.length = l.length) : Ev (fun k => impl_Graph_signedLaplacian.f k n l s) (signedM n l s) := by
  unfold impl_Graph_signedLaplacian.f
  refine Ev.bind (square_ev n (by omega)) ?_
  refine Ev.bind (degrees_ev n (by omega) l hl hE) ?_
  have h := impl_signed_l0 n hn n l hl hE s hs n 0 (by omega) (by omega)
  have e : diagM n l 0 = List.replicate n (List.replicate n 0) := by
    apply List.ext_getElem
    · simp [diagM]
    · intro i h1 h2; simp [diagM]
  rw [e] at h
  simp only [degL_length]
  exact h
theorem signedM_small (n : Nat) (hn : n ≤ 8) (l : List (List Int)) (hE : endsIn n l) (s : List Int) : (signedM n l s).length ≤ 1048576 ∧ ∀ y ∈ signedM n l s, y.length ≤ 1048576 := by
  have h := sq_walk hE s l.length 0 _ (by omega) (diagM_sq n l n)
  exact ⟨by rw [show (signedM n l s).length = n from h.1]; omega, fun y hy => by rw [h.2 y hy]; omega⟩
theorem signsOK_len {l : List (List Int)} {s : List Int} (h : signsOK l s = true) : s.length = l.length := by
  simp only [signsOK, Bool.and_eq_true, decide_eq_true_eq] at h
  omega
/-- Of a graph and signs: the code. -/
def signCode (a : Int) (l : List (List Int)) (s : List Int) : Int := if isG a l then if signsOK l s then 0 else 2 else 1
theorem signCode_zero {a : Int} {l : List (List Int)} {s : List Int} (h : signCode a l s = 0) : isG a l = true ∧ signsOK l s = true := by
  unfold signCode at h
  cases h1 : isG a l <;> cases h2 : signsOK l s <;> simp [h1, h2] at h ⊢
theorem SignedLaplacian_1_ev (a : Int) (l : List (List Int)) (s : List Int) (hl : l.length ≤ maxLen) : Ev (fun k => impl_SignedLaplacian_1.f k a l a l s) (signCode a l s) := by
  unfold impl_SignedLaplacian_1.f signCode
  refine Ev.bind (impl_IsGraph_ev a l hl) ?_
  cases h : isG a l with
  | false => simp only [Bool.false_eq_true, if_false]; exact Ev.now _
  | true =>
    simp only [if_true, impl_Graph_areSigns.f, Option.bind_some]
    rw [show (decide ((s.length : Int) = (l.length : Int)) && !s.any badSign) = signsOK l s from rfl]
    cases signsOK l s with
    | false => simp only [Bool.false_eq_true, if_false]; exact Ev.now _
    | true => exact Ev.now _
def signedR (a : Int) (l : List (List Int)) (s : List Int) : List (List Int) × Int := if signCode a l s = 0 then (signedM a.toNat l s, 0) else ([], signCode a l s)
theorem spec_SignedLaplacian_ev (a : Int) (l : List (List Int)) (s : List Int) (hl : l.length ≤ maxLen) (hs : s.length ≤ maxLen) : Ev (fun k => spec_SignedLaplacian.f k a l s) (signedR a l s) := by
  unfold spec_SignedLaplacian.f signedR
  refine Ev.bind (l04Signs_ev a l s hl hs) ?_
  rw [show (if isG a l = true then if signsOK l s = true then (0 : Int) else 2 else 1) = signCode a l s from rfl]
  by_cases h : signCode a l s = 0
  · obtain ⟨hg, hk⟩ := signCode_zero h
    obtain ⟨n, rfl, hn1, hn8, hE⟩ := isG_ends hg
    simp only [h, if_true, Int.toNat_natCast]
    exact Ev.bind (l10Signed_ev n hn8 l (isG_small hg).1 (isG_two hg) hE s (signsOK_len hk)) (Ev.now _)
  · simp only [h, if_false]; exact Ev.now _
theorem impl_SignedLaplacian_ev (a : Int) (l : List (List Int)) (s : List Int) (hl : l.length ≤ maxLen) : Ev (fun k => impl_SignedLaplacian.f k a l s) (signedR a l s) := by
  unfold impl_SignedLaplacian.f signedR
  refine Ev.bind (SignedLaplacian_1_ev a l s hl) ?_
  by_cases h : signCode a l s = 0
  · obtain ⟨hg, hk⟩ := signCode_zero h
    obtain ⟨n, rfl, hn1, hn8, hE⟩ := isG_ends hg
    simp only [h, if_true, Int.toNat_natCast]
    exact Ev.bind (signedLaplacian_ev n hn8 l (isG_small hg).1 hE s (signsOK_len hk)) (Ev.now _)
  · simp only [h, if_false]; exact Ev.now _
theorem main_FnExactSignedLaplacian (a : Int) (l : List (List Int)) (s : List Int) (_ : (Lit.int .i64 a).wf = true) (hl : l.length ≤ maxLen) (_ : ∀ x ∈ l, x.length ≤ maxLen ∧ ∀ n ∈ x, (Lit.int .i64 n).wf = true) (hs : s.length ≤ maxLen) (_ : ∀ n ∈ s, (Lit.int .i64 n).wf = true) :
    ∃ (r : List (List Int)) (c : Int), Ev (fun k => spec_SignedLaplacian.f k a l s) (r, c) ∧ Ev (fun k => impl_SignedLaplacian.f k a l s) (r, c) ∧ (r.length ≤ 1048576 ∧ ∀ y ∈ r, y.length ≤ 1048576) := by
  refine ⟨(signedR a l s).1, (signedR a l s).2, spec_SignedLaplacian_ev a l s hl hs, impl_SignedLaplacian_ev a l s hl, ?_⟩
  unfold signedR
  by_cases h : signCode a l s = 0
  · obtain ⟨hg, hk⟩ := signCode_zero h
    obtain ⟨n, rfl, hn1, hn8, hE⟩ := isG_ends hg
    simp only [h, if_true, Int.toNat_natCast]
    exact signedM_small n hn8 l hE s
  · simp only [h, if_false]
    simp


end Go.Proofs.Ytdnlimmdhnaegaa.H
namespace Go.Proofs.Ytdnlimmdhnaegaa.Pure
open Go.RowKit Go.Proofs.YtdnlimmdhnaegaaW.PrintWords Go.Proofs.YtdnlimmdhnaegaaW.PrintLast Go.Proofs.YtdnlimmdhnaegaaW.PrintMore Go.Proofs.Ytdnlimmdhnaegaa.H
theorem FnExactSignedLaplacian : laws_FnExactSignedLaplacian.Pure := by
  intro a0 l0 l1 w0 hm0 hx0 hm1 hx1 hl1
  have hy0 : ∀ x ∈ l0, x.length ≤ maxLen := fun x h => (hx0 x h).1
  obtain ⟨z0, ez0, z01, z02, z03⟩ := szGraph_ev a0 l0 1048576 (by omega) (by omega) hm0 hy0
  by_cases hn0 : z0 < 0
  · obtain ⟨k, hk⟩ := Ev.rounds ez0
    exact Or.inl ⟨k, z0, hn0, hk⟩
  · refine Or.inr ?_
    obtain ⟨hl0, hs0⟩ := z03 (by omega)
    obtain ⟨r0l, r1a, es, ei, br0l⟩ := main_FnExactSignedLaplacian a0 l0 l1 w0 hm0 hx0 hm1 hx1
    have tr0l := tot_small r0l br0l.1 br0l.2
    have t0 := tot_small l0 hl0 hs0
    obtain ⟨k0, eFG0⟩ := toGraph_ev a0 l0 (by omega) (fun x h => by have := hs0 x h; omega)
    obtain ⟨k1, eFQ0⟩ := eqGraph_ev a0 l0 hm0 hy0
    obtain ⟨k2, eFG1⟩ := toInt64S_ev l1 (by omega)
    obtain ⟨k3, eFQ1⟩ := eqInt64S_ev l1 hm1
    obtain ⟨k4, eFZ0⟩ := ez0
    obtain ⟨k5, eFS⟩ := es
    obtain ⟨k6, eFI⟩ := ei
    obtain ⟨k7, eFE0⟩ := eqInt64SS_ev r0l (Nat.le_trans br0l.1 (by unfold maxLen; omega)) (fun y h => Nat.le_trans (br0l.2 y h) (by unfold maxLen; omega))
    obtain ⟨k8, eFM0⟩ := markInt64SS_ev l0 (1) hl0 hs0 (by omega) (by omega)
    obtain ⟨k9, eFM1⟩ := markInt64S_ev l1 (1 + (tot l0 : Int)) hl1 (by omega) (by omega)
    obtain ⟨k10, eFN0l⟩ := markInt64SS_ev r0l (1) br0l.1 br0l.2 (by omega) (by omega)
    obtain ⟨k11, eFH0⟩ := heldInt64SS_ev r0l (1) br0l.1 br0l.2 (by omega) (by omega)
    exact ⟨k0 + k1 + k2 + k3 + k4 + k5 + k6 + k7 + k8 + k9 + k10 + k11, z0, r0l, r1a, 1 + (tot l0 : Int), mkSS l0 (1), 1 + (tot l0 : Int) + (l1.length : Int), mkS l1.length (1 + (tot l0 : Int)), 1 + (tot r0l : Int), mkSS r0l (1), by omega, by omega, by omega, eFG0 _ (by omega), eFQ0 _ (by omega), eFG1 _ (by omega), eFQ1 _ (by omega), eFZ0 _ (by omega), eFS _ (by omega), eFI _ (by omega), eFE0 _ (by omega), eFM0 _ (by omega), eFM1 _ (by omega), eFN0l _ (by omega), eFH0 _ (by omega)⟩

end Go.Proofs.Ytdnlimmdhnaegaa.Pure
