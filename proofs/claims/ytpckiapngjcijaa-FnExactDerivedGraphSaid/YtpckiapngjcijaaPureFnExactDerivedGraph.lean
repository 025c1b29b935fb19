/- Plain lemmas on the Lean functions that FnExactDerivedGraph reaches, and its pure statement. No condition. -/
import Derived.Test.YtpckiapngjcijaaCWalk
namespace Go.Proofs.Ytpckiapngjcijaa.C
open Go.RowKit Go.Proofs.YtpckiapngjcijaaW.PrintWords Go.Proofs.YtpckiapngjcijaaW.PrintLast Go.Proofs.YtpckiapngjcijaaW.PrintMore
set_option linter.unusedVariables false
set_option linter.unusedSimpArgs false
theorem w64 {n : Int} (h0 : -9223372036854775808 ≤ n) (h1 : n ≤ 9223372036854775807) : wrap64 n = n := IntWalk.wrap64_in n ⟨h0, h1⟩
theorem fuel {k n : Nat} (h : n < k) : ∃ m, k = m + 1 ∧ n ≤ m := ⟨k - 1, by omega, by omega⟩
theorem rd_nat (l : List Int) (i : Nat) (h : i < l.length) : rd l (i : Int) = l[i] := by
  simp [rd, List.getD_eq_getElem?_getD, h]
theorem rdL1_nat (l : List (List Int)) (i : Nat) (h : i < l.length) : rd_L1 l (i : Int) = l[i] := by
  simp [rd_L1, List.getD_eq_getElem?_getD, h]
theorem take_set {α : Type} (x l : List α) (i : Nat) (hx : x.length = l.length) (hi : i < l.length) (h : x.take i = l.take i) : (x.set i l[i]).take (i + 1) = l.take (i + 1) := by
  apply List.ext_getElem?
  intro j
  rw [List.getElem?_take, List.getElem?_take]
  by_cases hj : j < i + 1
  · rw [if_pos hj, if_pos hj]
    by_cases hji : j = i
    · subst hji
      rw [List.getElem?_set_self (by omega), List.getElem?_eq_getElem hi]
    · rw [List.getElem?_set_ne (by omega)]
      have h2 := congrArg (fun z => z[j]?) h
      simp only [List.getElem?_take] at h2
      rwa [if_pos (by omega), if_pos (by omega)] at h2
  · rw [if_neg hj, if_neg hj]

theorem toInt64S_l0 (l : List Int) (hl : l.length ≤ 35184372088832) : ∀ (d k i : Nat) (x : List Int), l.length - i = d → d < k → i ≤ l.length → x.length = l.length → x.take i = l.take i → laws_toInt64S.l0 k l x i = some l := by
  intro d
  induction d with
  | zero =>
    intro k i x hd hk hi hx ht
    obtain ⟨m, rfl, hm⟩ := fuel hk
    simp only [laws_toInt64S.l0]
    rw [if_neg (by omega)]
    rw [List.take_of_length_le (by omega), List.take_of_length_le (by omega)] at ht
    rw [ht]
  | succ d ih =>
    intro k i x hd hk hi hx ht
    obtain ⟨m, rfl, hm⟩ := fuel hk
    have hil : i < l.length := by omega
    simp only [laws_toInt64S.l0]
    rw [if_pos (by omega), if_pos (by omega), if_pos (by omega), w64 (by omega) (by omega), rd_nat l i hil, Int.toNat_natCast]
    exact ih m (i + 1) _ (by omega) (by omega) (by omega) (by simp [hx]) (take_set x l i hx hil ht)
theorem toInt64S_ev (l : List Int) (hl : l.length ≤ 35184372088832) : Ev (fun k => laws_toInt64S.f k l) l := by
  refine Ev.of (laws_toInt64S.mono l) (k := l.length + 1) ?_
  unfold laws_toInt64S.f
  rw [if_pos (by omega), if_pos (by simpa using hl)]
  exact toInt64S_l0 l hl l.length _ 0 _ (by omega) (by omega) (by omega) (by simp) (by simp)
theorem toInt64SS_l0 (l : List (List Int)) (hl : l.length ≤ 11728124029610) (hx : ∀ x ∈ l, x.length ≤ 35184372088832) : ∀ (d i : Nat) (x : List (List Int)), l.length - i = d → i ≤ l.length → x.length = l.length → x.take i = l.take i → Ev (fun k => laws_toInt64SS.l0 k l x i) l := by
  intro d
  induction d with
  | zero =>
    intro i x hd hi hx ht
    refine Ev.step (fun k => by simp only [laws_toInt64SS.l0]; rfl) ?_
    rw [List.take_of_length_le (by omega), List.take_of_length_le (by omega)] at ht
    simp only [show ¬ ((i : Int) < (l.length : Int)) by omega, if_false, ht]
    exact Ev.now l
  | succ d ih =>
    intro i x hd hi hx' ht
    have hil : i < l.length := by omega
    refine Ev.step (fun k => by simp only [laws_toInt64SS.l0]; rfl) ?_
    simp only [show ((i : Int) < (l.length : Int)) by omega, show (0 : Int) ≤ (i : Int) by omega, show ((i : Int) < (x.length : Int)) by omega, if_true, Int.toNat_natCast, w64 (show -9223372036854775808 ≤ (i : Int) + 1 by omega) (by omega), rdL1_nat l i hil]
    refine Ev.bind (toInt64S_ev l[i] (hx _ (List.getElem_mem hil))) ?_
    exact ih (i + 1) _ (by omega) (by omega) (by simp [hx']) (take_set x l i hx' hil ht)
theorem toInt64SS_ev (l : List (List Int)) (hl : l.length ≤ 11728124029610) (hx : ∀ x ∈ l, x.length ≤ 35184372088832) : Ev (fun k => laws_toInt64SS.f k l) l := by
  unfold laws_toInt64SS.f
  simp only [show (0 : Int) ≤ (l.length : Int) by omega, if_true, Int.toNat_natCast, hl]
  exact toInt64SS_l0 l hl hx l.length 0 _ (by omega) (by omega) (by simp) (by simp)
theorem toGraph_ev (a : Int) (l : List (List Int)) (hl : l.length ≤ 11728124029610) (hx : ∀ x ∈ l, x.length ≤ 35184372088832) : Ev (fun k => laws_toGraph.f k a l) (a, l) := by
  unfold laws_toGraph.f
  exact Ev.bind (toInt64SS_ev l hl hx) (Ev.now _)

theorem szInt64SS_l0 (l : List (List Int)) (hl : l.length ≤ maxLen) (hx : ∀ x ∈ l, x.length ≤ maxLen) : ∀ (d i : Nat) (a : Int), l.length - i = d → i ≤ l.length → 0 ≤ a → a ≤ 1048576 → ∃ r, Ev (fun k => laws_szInt64SS.l0 k l a i) r ∧ r ≤ 1048576 ∧ -1 ≤ r ∧ (0 ≤ r → ∀ x ∈ l.drop i, x.length ≤ 1048576) := by
  unfold maxLen at hl hx
  intro d
  induction d with
  | zero =>
    intro i a hd hi h0 h1
    refine ⟨a, Ev.step (fun k => by simp only [laws_szInt64SS.l0]; rfl) ?_, h1, by omega, fun _ x hx => ?_⟩
    · simp only [show ¬ ((i : Int) < (l.length : Int)) by omega, if_false]
      exact Ev.now _
    · rw [List.drop_of_length_le (by omega)] at hx; simp at hx
  | succ d ih =>
    intro i a hd hi h0 h1
    have hil : i < l.length := by omega
    have hxl := hx _ (List.getElem_mem hil)
    have hs : laws_szInt64S.f l[i] a = some (if a - (l[i].length : Int) < 0 then -1 else a - (l[i].length : Int)) := by
      unfold laws_szInt64S.f
      rw [w64 (by omega) (by omega)]
      split <;> rfl
    by_cases hn : a - (l[i].length : Int) < 0
    · rw [if_pos hn] at hs
      refine ⟨-1, Ev.step (fun k => by simp only [laws_szInt64SS.l0]; rfl) ?_, by omega, by omega, fun h => by omega⟩
      simp only [show ((i : Int) < (l.length : Int)) by omega, show (0 : Int) ≤ (i : Int) by omega, if_true, rdL1_nat l i hil, hs, Option.bind_some]
      exact Ev.now _
    · rw [if_neg hn] at hs
      obtain ⟨r, hr, h2, h3, h4⟩ := ih (i + 1) (a - (l[i].length : Int)) (by omega) (by omega) (by omega) (by omega)
      refine ⟨r, Ev.step (fun k => by simp only [laws_szInt64SS.l0]; rfl) ?_, h2, h3, fun h x hx => ?_⟩
      · simp only [show ((i : Int) < (l.length : Int)) by omega, show (0 : Int) ≤ (i : Int) by omega, if_true, rdL1_nat l i hil, hs, Option.bind_some, hn, if_false, w64 (show -9223372036854775808 ≤ (i : Int) + 1 by omega) (by omega)]
        exact hr
      · rw [List.drop_eq_getElem_cons hil] at hx
        rcases List.mem_cons.1 hx with rfl | hx
        · omega
        · exact h4 h x hx
/-- The sizes that the law lets by. -/
theorem szInt64SS_ev (l : List (List Int)) (a : Int) (ha : 0 ≤ a) (ha1 : a ≤ 1048576) (hl : l.length ≤ maxLen) (hx : ∀ x ∈ l, x.length ≤ maxLen) : ∃ r, Ev (fun k => laws_szInt64SS.f k l a) r ∧ r ≤ 1048576 ∧ -1 ≤ r ∧ (0 ≤ r → l.length ≤ 1048576 ∧ ∀ x ∈ l, x.length ≤ 1048576) := by
  have hl' := hl
  unfold maxLen at hl'
  unfold laws_szInt64SS.f
  rw [w64 (by omega) (by omega)]
  by_cases hn : a - (l.length : Int) < 0
  · refine ⟨-1, ?_, by omega, by omega, fun h => by omega⟩
    simp only [hn, if_true]
    exact Ev.now _
  · obtain ⟨r, hr, h2, h3, h4⟩ := szInt64SS_l0 l hl hx l.length 0 (a - (l.length : Int)) (by omega) (by omega) (by omega) (by omega)
    refine ⟨r, ?_, h2, h3, fun h => ⟨by omega, by simpa using h4 h⟩⟩
    simp only [hn, if_false]
    exact hr
theorem szGraph_ev (s : Int) (l : List (List Int)) (a : Int) (ha : 0 ≤ a) (ha1 : a ≤ 1048576) (hl : l.length ≤ maxLen) (hx : ∀ x ∈ l, x.length ≤ maxLen) : ∃ r, Ev (fun k => laws_szGraph.f k s l a) r ∧ r ≤ 1048576 ∧ -1 ≤ r ∧ (0 ≤ r → l.length ≤ 1048576 ∧ ∀ x ∈ l, x.length ≤ 1048576) := by
  obtain ⟨r, hr, h2, h3, h4⟩ := szInt64SS_ev l a ha ha1 hl hx
  unfold laws_szGraph.f
  by_cases hn : r < 0
  · refine ⟨-1, Ev.bind hr ?_, by omega, by omega, fun h => by omega⟩
    simp only [hn, if_true]
    exact Ev.now _
  · refine ⟨r, Ev.bind hr ?_, h2, h3, h4⟩
    simp only [hn, if_false]
    exact Ev.now _
/-- Equal lists are told equal. -/
theorem eqInt64S_l0 (l : List Int) (hl : l.length ≤ maxLen) : ∀ (d i : Nat), l.length - i = d → i ≤ l.length → Ev (fun k => laws_eqInt64S.l0 k l l i) true := by
  unfold maxLen at hl
  intro d
  induction d with
  | zero =>
    intro i hd hi
    refine Ev.step (fun k => by simp only [laws_eqInt64S.l0]; rfl) ?_
    simp only [show ¬ ((i : Int) < (l.length : Int)) by omega, if_false]
    exact Ev.now _
  | succ d ih =>
    intro i hd hi
    refine Ev.step (fun k => by simp only [laws_eqInt64S.l0]; rfl) ?_
    simp only [show ((i : Int) < (l.length : Int)) by omega, show (0 : Int) ≤ (i : Int) by omega, if_true, w64 (show -9223372036854775808 ≤ (i : Int) + 1 by omega) (by omega)]
    exact ih (i + 1) (by omega) (by omega)
theorem eqInt64S_ev (l : List Int) (hl : l.length ≤ maxLen) : Ev (fun k => laws_eqInt64S.f k l l) true := by
  unfold laws_eqInt64S.f
  simp only [if_true]
  exact eqInt64S_l0 l hl l.length 0 (by omega) (by omega)
theorem eqInt64SS_l0 (l : List (List Int)) (hl : l.length ≤ maxLen) (hx : ∀ x ∈ l, x.length ≤ maxLen) : ∀ (d i : Nat), l.length - i = d → i ≤ l.length → Ev (fun k => laws_eqInt64SS.l0 k l l i) true := by
  unfold maxLen at hl
  intro d
  induction d with
  | zero =>
    intro i hd hi
    refine Ev.step (fun k => by simp only [laws_eqInt64SS.l0]; rfl) ?_
    simp only [show ¬ ((i : Int) < (l.length : Int)) by omega, if_false]
    exact Ev.now _
  | succ d ih =>
    intro i hd hi
    have hil : i < l.length := by omega
    refine Ev.step (fun k => by simp only [laws_eqInt64SS.l0]; rfl) ?_
    simp only [show ((i : Int) < (l.length : Int)) by omega, show (0 : Int) ≤ (i : Int) by omega, if_true, w64 (show -9223372036854775808 ≤ (i : Int) + 1 by omega) (by omega), rdL1_nat l i hil]
    refine Ev.bind (eqInt64S_ev l[i] (hx _ (List.getElem_mem hil))) ?_
    simp only [if_true]
    exact ih (i + 1) (by omega) (by omega)
theorem eqInt64SS_ev (l : List (List Int)) (hl : l.length ≤ maxLen) (hx : ∀ x ∈ l, x.length ≤ maxLen) : Ev (fun k => laws_eqInt64SS.f k l l) true := by
  unfold laws_eqInt64SS.f
  simp only [if_true]
  exact eqInt64SS_l0 l hl hx l.length 0 (by omega) (by omega)
theorem eqGraph_ev (a : Int) (l : List (List Int)) (hl : l.length ≤ maxLen) (hx : ∀ x ∈ l, x.length ≤ maxLen) : Ev (fun k => laws_eqGraph.f k a l a l) true := by
  unfold laws_eqGraph.f
  simp only [if_true]
  refine Ev.bind (eqInt64SS_ev l hl hx) ?_
  simp only [if_true]
  exact Ev.now _
/-! ### what a graph is -/
def endIn (a n : Int) : Bool := decide (0 ≤ n) && decide (n ≤ wrap64 (a - 1))
def edgeIn (a : Int) (e : List Int) : Bool := decide (e.length = 2) && (endIn a (rd e 0) && endIn a (rd e 1))
def isG (a : Int) (l : List (List Int)) : Bool := decide (1 ≤ a) && (decide (a ≤ 8) && (decide (l.length ≤ 10) && l.all (edgeIn a)))
theorem within_eq (a b c : Int) : impl_within.f a b c = some (decide (b ≤ a) && decide (a ≤ c)) := by
  unfold impl_within.f
  by_cases h : b ≤ a <;> simp [h]
theorem l01In_eq (a b c : Int) : spec_l01In.f a b c = some (decide (b ≤ a) && decide (a ≤ c)) := by
  unfold spec_l01In.f
  by_cases h : b ≤ a <;> simp [h]
theorem impl_IsGraph_l0 (a : Int) (l : List (List Int)) (hl : l.length ≤ maxLen) : ∀ (d i : Nat), l.length - i = d → i ≤ l.length → Ev (fun k => impl_IsGraph.l0 k l l.length i a l) ((l.drop i).all (edgeIn a) && (decide (1 ≤ a) && (decide (a ≤ 8) && decide (l.length ≤ 10)))) := by
  unfold maxLen at hl
  intro d
  induction d with
  | zero =>
    intro i hd hi
    refine Ev.step (fun k => by simp only [impl_IsGraph.l0]; rfl) ?_
    simp only [show ¬ ((i : Int) < (l.length : Int)) by omega, if_false, within_eq, Option.bind_some, List.drop_of_length_le (show l.length ≤ i by omega), List.all_nil, Bool.true_and]
    by_cases h1 : 1 ≤ a
    · by_cases h2 : a ≤ 8
      · simp only [h1, h2, decide_true, Bool.true_and, if_true]
        exact Ev.congr (fun k => by congr 1; simp; omega) (Ev.now _)
      · simp only [h1, h2, decide_true, decide_false, Bool.true_and, Bool.false_and, Bool.false_eq_true, if_false]
        exact Ev.now _
    · simp only [h1, decide_false, Bool.false_and, Bool.false_eq_true, if_false]
      exact Ev.now _
  | succ d ih =>
    intro i hd hi
    have hil : i < l.length := by omega
    refine Ev.step (fun k => by simp only [impl_IsGraph.l0]; rfl) ?_
    have hdrop : (l.drop i).all (edgeIn a) = (edgeIn a l[i] && (l.drop (i + 1)).all (edgeIn a)) := by rw [List.drop_eq_getElem_cons hil, List.all_cons]
    rw [hdrop]
    simp only [show ((i : Int) < (l.length : Int)) by omega, show (0 : Int) ≤ (i : Int) by omega, if_true, w64 (show -9223372036854775808 ≤ (i : Int) + 1 by omega) (by omega), rdL1_nat l i hil, within_eq, Option.bind_some]
    unfold edgeIn endIn
    by_cases h2 : l[i].length = 2
    · simp only [h2, decide_true, Bool.true_and, show ((2 : Nat) : Int) = 2 from rfl, if_true, show (0 : Int) < 2 by omega, show (1 : Int) < 2 by omega]
      by_cases h3 : (decide (0 ≤ rd l[i] 0) && decide (rd l[i] 0 ≤ wrap64 (a - 1))) = true
      · by_cases h4 : (decide (0 ≤ rd l[i] 1) && decide (rd l[i] 1 ≤ wrap64 (a - 1))) = true
        · simp only [h3, h4, if_true, Bool.true_and]
          exact ih (i + 1) (by omega) (by omega)
        · simp only [Bool.not_eq_true] at h4
          simp only [h3, h4, if_true, Bool.false_and, Bool.and_false, Bool.false_eq_true, if_false]
          exact Ev.now _
      · simp only [Bool.not_eq_true] at h3
        simp only [h3, Bool.false_and, Bool.false_eq_true, if_false]
        exact Ev.now _
    · simp only [show ¬ ((l[i].length : Int) = 2) by omega, h2, decide_false, Bool.false_and, if_false]
      exact Ev.now _
theorem impl_IsGraph_ev (a : Int) (l : List (List Int)) (hl : l.length ≤ maxLen) : Ev (fun k => impl_IsGraph.f k a l) (isG a l) := by
  unfold impl_IsGraph.f
  have h := impl_IsGraph_l0 a l hl l.length 0 (by omega) (by omega)
  have e : ((l.drop 0).all (edgeIn a) && (decide (1 ≤ a) && (decide (a ≤ 8) && decide (l.length ≤ 10)))) = isG a l := by
    unfold isG
    rw [List.drop_zero]
    cases l.all (edgeIn a) <;> simp
  rw [e] at h
  exact h
theorem spec_l01Is_l0 (a : Int) (l : List (List Int)) (hl : l.length ≤ maxLen) : ∀ (d i : Nat), l.length - i = d → i ≤ l.length → Ev (fun k => spec_l01Is.l0 k i a l) ((l.drop i).all (edgeIn a)) := by
  unfold maxLen at hl
  intro d
  induction d with
  | zero =>
    intro i hd hi
    refine Ev.step (fun k => by simp only [spec_l01Is.l0]; rfl) ?_
    simp only [show ¬ ((i : Int) < (l.length : Int)) by omega, if_false, List.drop_of_length_le (show l.length ≤ i by omega), List.all_nil]
    exact Ev.now _
  | succ d ih =>
    intro i hd hi
    have hil : i < l.length := by omega
    refine Ev.step (fun k => by simp only [spec_l01Is.l0]; rfl) ?_
    have hdrop : (l.drop i).all (edgeIn a) = (edgeIn a l[i] && (l.drop (i + 1)).all (edgeIn a)) := by rw [List.drop_eq_getElem_cons hil, List.all_cons]
    rw [hdrop]
    simp only [show ((i : Int) < (l.length : Int)) by omega, show (0 : Int) ≤ (i : Int) by omega, if_true, w64 (show -9223372036854775808 ≤ (i : Int) + 1 by omega) (by omega), rdL1_nat l i hil, l01In_eq, Option.bind_some]
    unfold edgeIn endIn
    by_cases h2 : l[i].length = 2
    · simp only [h2, decide_true, Bool.true_and, show ((2 : Nat) : Int) = 2 from rfl, if_true, show (0 : Int) < 2 by omega, show (1 : Int) < 2 by omega]
      by_cases h3 : (decide (0 ≤ rd l[i] 0) && decide (rd l[i] 0 ≤ wrap64 (a - 1))) = true
      · by_cases h4 : (decide (0 ≤ rd l[i] 1) && decide (rd l[i] 1 ≤ wrap64 (a - 1))) = true
        · simp only [h3, h4, if_true, Bool.true_and]
          exact ih (i + 1) (by omega) (by omega)
        · simp only [Bool.not_eq_true] at h4
          simp only [h3, h4, if_true, Bool.false_and, Bool.and_false, Bool.false_eq_true, if_false]
          exact Ev.now _
      · simp only [Bool.not_eq_true] at h3
        simp only [h3, Bool.false_and, Bool.false_eq_true, if_false]
        exact Ev.now _
    · simp only [show ¬ ((l[i].length : Int) = 2) by omega, h2, decide_false, Bool.false_and, if_false]
      exact Ev.now _
theorem spec_l01Is_ev (a : Int) (l : List (List Int)) (hl : l.length ≤ maxLen) : Ev (fun k => spec_l01Is.f k a l) (isG a l) := by
  unfold spec_l01Is.f isG
  simp only [l01In_eq, Option.bind_some]
  have hj : ∀ b, Ev (fun k => spec_l01Is.j0 k b a l) (!b && l.all (edgeIn a)) := by
    intro b
    refine Ev.step (fun k => by simp only [spec_l01Is.j0]; rfl) ?_
    cases b with
    | true => simp only [if_true, Bool.not_true, Bool.false_and]; exact Ev.now _
    | false =>
      simp only [Bool.false_eq_true, if_false, Bool.not_false, Bool.true_and]
      exact spec_l01Is_l0 a l hl l.length 0 (by omega) (by omega)
  by_cases h1 : 1 ≤ a
  · by_cases h2 : a ≤ 8
    · simp only [h1, h2, decide_true, Bool.true_and, if_true]
      have h := hj (decide ((l.length : Int) > 10))
      have e : (!decide ((l.length : Int) > 10)) = decide (l.length ≤ 10) := by
        by_cases h : l.length ≤ 10
        · simp [h]; omega
        · simp [h]; omega
      rw [e] at h
      exact h
    · simp only [h1, h2, decide_true, decide_false, Bool.true_and, Bool.false_and, Bool.false_eq_true, if_false]
      exact hj true
  · simp only [h1, decide_false, Bool.false_and, Bool.false_eq_true, if_false]
    exact hj true
def mkS : Nat → Int → List Int
  | 0, _ => []
  | n + 1, a => a :: mkS n (a + 1)
theorem mkS_length (n : Nat) (a : Int) : (mkS n a).length = n := by
  induction n generalizing a with
  | zero => rfl
  | succ n ih => simp [mkS, ih]
theorem markInt64S_l0 : ∀ (d i : Nat) (a : Int) (x : List Int), x.length - i = d → i ≤ x.length → x.length ≤ 1048576 → 0 ≤ a → a + d ≤ 4611686018427387904 → Ev (fun k => laws_markInt64S.l0 k x a i) (a + d, x.take i ++ mkS d a) := by
  intro d
  induction d with
  | zero =>
    intro i a x hd hi hl h0 h1
    refine Ev.step (fun k => by simp only [laws_markInt64S.l0]; rfl) ?_
    simp only [show ¬ ((i : Int) < (x.length : Int)) by omega, if_false, mkS, List.append_nil, List.take_of_length_le (show x.length ≤ i by omega), show a + ((0 : Nat) : Int) = a by omega]
    exact Ev.now _
  | succ d ih =>
    intro i a x hd hi hl h0 h1
    refine Ev.step (fun k => by simp only [laws_markInt64S.l0]; rfl) ?_
    simp only [show ((i : Int) < (x.length : Int)) by omega, show (0 : Int) ≤ (i : Int) by omega, if_true, w64 (show -9223372036854775808 ≤ (i : Int) + 1 by omega) (by omega), w64 (show -9223372036854775808 ≤ a + 1 by omega) (by omega), Int.toNat_natCast]
    have h := ih (i + 1) (a + 1) (x.set i a) (by simp; omega) (by simp; omega) (by simp; omega) (by omega) (by omega)
    have e1 : (x.set i a).take (i + 1) ++ mkS d (a + 1) = x.take i ++ mkS (d + 1) a := by
      rw [List.take_succ_eq_append_getElem (by simp; omega), List.getElem_set_self, List.take_set_of_le (Nat.le_refl _), mkS, List.append_assoc]
      rfl
    have e2 : a + 1 + (d : Int) = a + ((d + 1 : Nat) : Int) := by omega
    rw [e1, e2] at h
    exact h
theorem markInt64S_ev (x : List Int) (a : Int) (hl : x.length ≤ 1048576) (h0 : 0 ≤ a) (h1 : a + x.length ≤ 4611686018427387904) : Ev (fun k => laws_markInt64S.f k x a) (a + x.length, mkS x.length a) := by
  have h := markInt64S_l0 x.length 0 a x (by omega) (by omega) hl h0 h1
  unfold laws_markInt64S.f
  simpa using h
theorem heldInt64S_l0 (x : List Int) (hl : x.length ≤ 1048576) : ∀ (d i : Nat) (a : Int), x.length - i = d → i ≤ x.length → x.drop i = mkS d a → 0 ≤ a → a + d ≤ 4611686018427387904 → Ev (fun k => laws_heldInt64S.l0 k x a i) (a + d) := by
  intro d
  induction d with
  | zero =>
    intro i a hd hi hx h0 h1
    refine Ev.step (fun k => by simp only [laws_heldInt64S.l0]; rfl) ?_
    simp only [show ¬ ((i : Int) < (x.length : Int)) by omega, if_false, show a + ((0 : Nat) : Int) = a by omega]
    exact Ev.now _
  | succ d ih =>
    intro i a hd hi hx h0 h1
    have hil : i < x.length := by omega
    rw [List.drop_eq_getElem_cons hil, mkS] at hx
    injection hx with hx1 hx2
    refine Ev.step (fun k => by simp only [laws_heldInt64S.l0]; rfl) ?_
    simp only [show ((i : Int) < (x.length : Int)) by omega, show (0 : Int) ≤ (i : Int) by omega, if_true, rd_nat x i hil, hx1, w64 (show -9223372036854775808 ≤ (i : Int) + 1 by omega) (by omega), w64 (show -9223372036854775808 ≤ a + 1 by omega) (by omega)]
    have h := ih (i + 1) (a + 1) (by omega) (by omega) hx2 (by omega) (by omega)
    have e2 : a + 1 + (d : Int) = a + ((d + 1 : Nat) : Int) := by omega
    rw [e2] at h
    exact h
theorem heldInt64S_ev (n : Nat) (a : Int) (hl : n ≤ 1048576) (h0 : 0 ≤ a) (h1 : a + n ≤ 4611686018427387904) : Ev (fun k => laws_heldInt64S.f k (mkS n a) a) (a + n) :=
  heldInt64S_l0 (mkS n a) (by rw [mkS_length]; exact hl) n 0 a (by rw [mkS_length]; rfl) (by omega) (by simp) h0 h1
def tot : List (List Int) → Nat
  | [] => 0
  | x :: xs => x.length + tot xs
def mkSS : List (List Int) → Int → List (List Int)
  | [], _ => []
  | x :: xs, a => mkS x.length a :: mkSS xs (a + x.length)
theorem mkSS_length (xs : List (List Int)) (a : Int) : (mkSS xs a).length = xs.length := by
  induction xs generalizing a with
  | nil => rfl
  | cons x xs ih => simp [mkSS, ih]
theorem tot_le (xs : List (List Int)) (m : Nat) (h : ∀ x ∈ xs, x.length ≤ m) : tot xs ≤ xs.length * m := by
  induction xs with
  | nil => simp [tot]
  | cons x xs ih =>
    have h1 := h x List.mem_cons_self
    have h2 := ih (fun y hy => h y (List.mem_cons_of_mem _ hy))
    simp only [tot, List.length_cons, Nat.succ_mul]
    omega
theorem tot_small (xs : List (List Int)) (hl : xs.length ≤ 1048576) (h : ∀ x ∈ xs, x.length ≤ 1048576) : tot xs ≤ 1099511627776 := by
  have h1 := tot_le xs 1048576 h
  have h2 := Nat.mul_le_mul_right 1048576 hl
  omega
theorem markInt64SS_l0 : ∀ (d i : Nat) (a : Int) (x : List (List Int)), x.length - i = d → i ≤ x.length → x.length ≤ 1048576 → (∀ y ∈ x.drop i, y.length ≤ 1048576) → 0 ≤ a → a + tot (x.drop i) ≤ 4611686018427387904 → Ev (fun k => laws_markInt64SS.l0 k x a i) (a + tot (x.drop i), x.take i ++ mkSS (x.drop i) a) := by
  intro d
  induction d with
  | zero =>
    intro i a x hd hi hl hx h0 h1
    refine Ev.step (fun k => by simp only [laws_markInt64SS.l0]; rfl) ?_
    simp only [show ¬ ((i : Int) < (x.length : Int)) by omega, if_false, List.drop_of_length_le (show x.length ≤ i by omega), mkSS, tot, List.append_nil, List.take_of_length_le (show x.length ≤ i by omega), show a + ((0 : Nat) : Int) = a by omega]
    exact Ev.now _
  | succ d ih =>
    intro i a x hd hi hl hx h0 h1
    have hil : i < x.length := by omega
    rw [List.drop_eq_getElem_cons hil] at hx h1 ⊢
    simp only [tot] at h1 ⊢
    have hxi := hx _ List.mem_cons_self
    refine Ev.step (fun k => by simp only [laws_markInt64SS.l0]; rfl) ?_
    have hrd : rdL x (i : Int) = x[i] := by simp [rdL, List.getD_eq_getElem?_getD, hil]
    simp only [show ((i : Int) < (x.length : Int)) by omega, show (0 : Int) ≤ (i : Int) by omega, if_true, w64 (show -9223372036854775808 ≤ (i : Int) + 1 by omega) (by omega), Int.toNat_natCast, hrd]
    refine Ev.bind (markInt64S_ev x[i] a hxi h0 (by omega)) ?_
    have hdrop : (x.set i (mkS x[i].length a)).drop (i + 1) = x.drop (i + 1) := by rw [List.drop_set_of_lt (by omega)]
    have h := ih (i + 1) (a + x[i].length) (x.set i (mkS x[i].length a)) (by simp; omega) (by simp; omega) (by simp; omega) (by rw [hdrop]; exact fun y hy => hx y (List.mem_cons_of_mem _ hy)) (by omega) (by rw [hdrop]; omega)
    rw [hdrop] at h
    have e1 : (x.set i (mkS x[i].length a)).take (i + 1) ++ mkSS (x.drop (i + 1)) (a + x[i].length) = x.take i ++ mkSS (x[i] :: x.drop (i + 1)) a := by
      rw [List.take_succ_eq_append_getElem (by simp; omega), List.getElem_set_self, List.take_set_of_le (Nat.le_refl _), mkSS, List.append_assoc]
      rfl
    have e2 : a + (x[i].length : Int) + ((tot (x.drop (i + 1)) : Nat) : Int) = a + ((x[i].length + tot (x.drop (i + 1)) : Nat) : Int) := by omega
    rw [e1, e2] at h
    exact h
theorem markInt64SS_ev (x : List (List Int)) (a : Int) (hl : x.length ≤ 1048576) (hx : ∀ y ∈ x, y.length ≤ 1048576) (h0 : 0 ≤ a) (h1 : a + tot x ≤ 4611686018427387904) : Ev (fun k => laws_markInt64SS.f k x a) (a + tot x, mkSS x a) := by
  have h := markInt64SS_l0 x.length 0 a x (by omega) (by omega) hl (by simpa using hx) h0 (by simpa using h1)
  unfold laws_markInt64SS.f
  simpa using h
theorem heldInt64SS_l0 (X : List (List Int)) (hl : X.length ≤ 1048576) : ∀ (ys : List (List Int)) (i : Nat) (a : Int), X.length - i = ys.length → i ≤ X.length → X.drop i = mkSS ys a → (∀ y ∈ ys, y.length ≤ 1048576) → 0 ≤ a → a + tot ys ≤ 4611686018427387904 → Ev (fun k => laws_heldInt64SS.l0 k X a i) (a + tot ys) := by
  intro ys
  induction ys with
  | nil =>
    intro i a hd hi hx hy h0 h1
    refine Ev.step (fun k => by simp only [laws_heldInt64SS.l0]; rfl) ?_
    simp only [List.length_nil] at hd
    simp only [show ¬ ((i : Int) < (X.length : Int)) by omega, if_false, tot, show a + ((0 : Nat) : Int) = a by omega]
    exact Ev.now _
  | cons y ys ih =>
    intro i a hd hi hx hy h0 h1
    simp only [List.length_cons] at hd
    have hil : i < X.length := by omega
    rw [List.drop_eq_getElem_cons hil, mkSS] at hx
    injection hx with hx1 hx2
    simp only [tot] at h1 ⊢
    have hyl := hy _ List.mem_cons_self
    refine Ev.step (fun k => by simp only [laws_heldInt64SS.l0]; rfl) ?_
    simp only [show ((i : Int) < (X.length : Int)) by omega, show (0 : Int) ≤ (i : Int) by omega, if_true, rdL1_nat X i hil, hx1, w64 (show -9223372036854775808 ≤ (i : Int) + 1 by omega) (by omega)]
    refine Ev.bind (heldInt64S_ev y.length a hyl h0 (by omega)) ?_
    simp only [show ¬ (a + (y.length : Int) < 0) by omega, if_false]
    have h := ih (i + 1) (a + y.length) (by omega) (by omega) hx2 (fun z hz => hy z (List.mem_cons_of_mem _ hz)) (by omega) (by omega)
    have e2 : a + (y.length : Int) + ((tot ys : Nat) : Int) = a + ((y.length + tot ys : Nat) : Int) := by omega
    rw [e2] at h
    exact h
theorem heldInt64SS_ev (x : List (List Int)) (a : Int) (hl : x.length ≤ 1048576) (hx : ∀ y ∈ x, y.length ≤ 1048576) (h0 : 0 ≤ a) (h1 : a + tot x ≤ 4611686018427387904) : Ev (fun k => laws_heldInt64SS.f k (mkSS x a) a) (a + tot x) :=
  heldInt64SS_l0 (mkSS x a) (by rw [mkSS_length]; exact hl) x 0 a (by rw [mkSS_length]; rfl) (by omega) (by simp) hx h0 h1
theorem heldGraph_ev (s : Int) (x : List (List Int)) (a : Int) (hl : x.length ≤ 1048576) (hx : ∀ y ∈ x, y.length ≤ 1048576) (h0 : 0 ≤ a) (h1 : a + tot x ≤ 4611686018427387904) : Ev (fun k => laws_heldGraph.f k s (mkSS x a) a) (a + tot x) := by
  unfold laws_heldGraph.f
  refine Ev.bind (heldInt64SS_ev x a hl hx h0 h1) ?_
  simp only [show ¬ (a + (tot x : Int) < 0) by omega, if_false]
  exact Ev.now _
def two (l : List (List Int)) : Prop := ∀ x ∈ l, x.length = 2
theorem isG_two {a : Int} {l : List (List Int)} (h : isG a l = true) : two l := by
  intro x hx
  simp only [isG, Bool.and_eq_true, List.all_eq_true] at h
  have := h.2.2.2 x hx
  simp only [edgeIn, Bool.and_eq_true, decide_eq_true_eq] at this
  exact this.1
theorem isG_len {a : Int} {l : List (List Int)} (h : isG a l = true) : l.length ≤ 10 := by
  simp only [isG, Bool.and_eq_true, decide_eq_true_eq] at h
  exact h.2.2.1
theorem isG_size {a : Int} {l : List (List Int)} (h : isG a l = true) : 1 ≤ a ∧ a ≤ 8 := by
  simp only [isG, Bool.and_eq_true, decide_eq_true_eq] at h
  exact ⟨h.1, h.2.1⟩
theorem isG_edge {a : Int} {l : List (List Int)} (h : isG a l = true) {x : List Int} (hx : x ∈ l) : (0 ≤ rd x 0 ∧ rd x 0 ≤ a - 1) ∧ (0 ≤ rd x 1 ∧ rd x 1 ≤ a - 1) := by
  have hs := isG_size h
  simp only [isG, Bool.and_eq_true, List.all_eq_true] at h
  have := h.2.2.2 x hx
  simp only [edgeIn, endIn, Bool.and_eq_true, decide_eq_true_eq] at this
  rw [w64 (by omega) (by omega)] at this
  exact this.2
/-- The two ends of edge i of a graph, as numbers below n. -/
def endsIn (n : Nat) (l : List (List Int)) : Prop := ∀ i, i < l.length → (rd_L1 l (i : Int)).length = 2 ∧ ∃ u v : Nat, rd (rd_L1 l (i : Int)) 0 = u ∧ rd (rd_L1 l (i : Int)) 1 = v ∧ u < n ∧ v < n
theorem isG_ends {a : Int} {l : List (List Int)} (h : isG a l = true) : ∃ n : Nat, a = n ∧ 1 ≤ n ∧ n ≤ 8 ∧ endsIn n l := by
  have hs := isG_size h
  refine ⟨a.toNat, by omega, by omega, by omega, fun i hi => ?_⟩
  have hm : l[i] ∈ l := List.getElem_mem hi
  rw [rdL1_nat l i hi]
  have he := isG_edge h hm
  exact ⟨isG_two h _ hm, (rd l[i] 0).toNat, (rd l[i] 1).toNat, by omega, by omega, by omega, by omega⟩
theorem sub_of_all {n : Nat} {l : List Int} (hl : l.length = n) (h : ∀ x : Nat, x < n → (x : Int) ∈ l) : l.Nodup ∧ ∀ y ∈ l, 0 ≤ y ∧ y < n := by
  have hr : ((List.range n).map Int.ofNat).Nodup := by
    rw [List.Nodup, List.pairwise_map]
    exact List.nodup_range.imp (fun h e => h (Int.ofNat.inj e))
  have key : ∀ y ∈ l, (∀ x : Nat, x < n → (x : Int) = y → (x : Int) ∈ l.erase y) → False := by
    intro y hy hx
    have hs : ((List.range n).map Int.ofNat) ⊆ l.erase y := by
      intro z hz
      obtain ⟨x, hxn, rfl⟩ := List.mem_map.1 hz
      rw [List.mem_range] at hxn
      by_cases e : (x : Int) = y
      · exact hx x hxn e
      · exact (List.mem_erase_of_ne e).2 (h x hxn)
    have h1 := hr.length_le_of_subset hs
    rw [List.length_map, List.length_range, List.length_erase_of_mem hy] at h1
    have : 0 < l.length := List.length_pos_of_mem hy
    omega
  refine ⟨?_, fun y hy => ?_⟩
  · rw [List.nodup_iff_count]
    intro y
    by_cases hy : y ∈ l
    · by_cases hc : List.count y l ≤ 1
      · exact hc
      · exact (key y hy (fun x hx e => by
          rw [e]
          have : 0 < List.count y (l.erase y) := by rw [List.count_erase_self]; omega
          exact List.count_pos_iff.1 this)).elim
    · rw [List.count_eq_zero_of_not_mem hy]; omega
  · by_cases hb : 0 ≤ y ∧ y < n
    · exact hb
    · exact (key y hy (fun x hx e => by omega)).elim
theorem all_of_sub {n : Nat} {l : List Int} (hl : l.length = n) (hd : l.Nodup) (h : ∀ y ∈ l, 0 ≤ y ∧ y < n) (x : Nat) (hx : x < n) : (x : Int) ∈ l := by
  by_cases hm : (x : Int) ∈ l
  · exact hm
  · have hs : ((x : Int) :: l) ⊆ (List.range n).map Int.ofNat := by
      intro z hz
      rcases List.mem_cons.1 hz with rfl | hz
      · exact List.mem_map.2 ⟨x, List.mem_range.2 hx, rfl⟩
      · have := h z hz
        exact List.mem_map.2 ⟨z.toNat, List.mem_range.2 (by omega), by show ((z.toNat : Nat) : Int) = z; omega⟩
    have h1 := (List.nodup_cons.2 ⟨hm, hd⟩).length_le_of_subset hs
    rw [List.length_cons, List.length_map, List.length_range] at h1
    omega
/-- A list of n numbers that has each number less than n. -/
def isOrd (n : Nat) (l : List Int) : Bool := decide (l.length = n) && (List.range n).all fun x => decide ((x : Int) ∈ l)
theorem isOrd_iff (n : Nat) (l : List Int) : isOrd n l = true ↔ l.length = n ∧ l.Nodup ∧ ∀ y ∈ l, 0 ≤ y ∧ y < n := by
  unfold isOrd
  simp only [Bool.and_eq_true, decide_eq_true_eq, List.all_eq_true, List.mem_range]
  constructor
  · rintro ⟨h1, h2⟩
    obtain ⟨h3, h4⟩ := sub_of_all h1 h2
    exact ⟨h1, h3, h4⟩
  · rintro ⟨h1, h2, h3⟩
    exact ⟨h1, fun x hx => all_of_sub h1 h2 h3 x hx⟩
theorem index_l0 (l : List Int) (hl : l.length ≤ maxLen) (x : Int) : ∀ (d i : Nat), l.length - i = d → i ≤ l.length → ∃ r, Ev (fun k => slices_Index_int64_int64.l0 k l x (l.length : Int) i) r ∧ (0 ≤ r ↔ x ∈ l.drop i) := by
  unfold maxLen at hl
  intro d
  induction d with
  | zero =>
    intro i hd hi
    obtain rfl : i = l.length := by omega
    refine ⟨-1, Ev.step (fun k => by simp only [slices_Index_int64_int64.l0]; rfl) ?_, by simp⟩
    simp only [Int.lt_irrefl, if_false]
    exact Ev.now _
  | succ d ih =>
    intro i hd hi
    have hil : i < l.length := by omega
    rw [List.drop_eq_getElem_cons hil]
    by_cases hx : x = l[i]
    · refine ⟨(i : Int), Ev.step (fun k => by simp only [slices_Index_int64_int64.l0]; rfl) ?_, ⟨fun _ => List.mem_cons.2 (.inl hx), fun _ => by omega⟩⟩
      simp only [show ((i : Int) < (l.length : Int)) by omega, show (0 : Int) ≤ (i : Int) by omega, if_true, rd_nat l i hil, hx]
      exact Ev.now _
    · obtain ⟨r, h1, h2⟩ := ih (i + 1) (by omega) (by omega)
      refine ⟨r, Ev.step (fun k => by simp only [slices_Index_int64_int64.l0]; rfl) ?_, ⟨fun h => List.mem_cons.2 (.inr (h2.1 h)), fun h => h2.2 ((List.mem_cons.1 h).resolve_left hx)⟩⟩
      simp only [show ((i : Int) < (l.length : Int)) by omega, show (0 : Int) ≤ (i : Int) by omega, if_true, rd_nat l i hil, hx, if_false, w64 (show -9223372036854775808 ≤ (i : Int) + 1 by omega) (by omega)]
      exact h1
theorem contains_ev (l : List Int) (hl : l.length ≤ maxLen) (x : Int) : Ev (fun k => slices_Contains_int64_int64.f k l x) (decide (x ∈ l)) := by
  obtain ⟨r, h1, h2⟩ := index_l0 l hl x l.length 0 (by omega) (by omega)
  unfold slices_Contains_int64_int64.f
  refine Ev.bind h1 ?_
  rw [List.drop_zero] at h2
  rw [show decide (x ∈ l) = decide (r ≥ 0) from decide_eq_decide.2 h2.symm]
  exact Ev.now _
theorem isOrder_l0 (n : Nat) (hn : n ≤ 1048576) (l : List Int) (hl : l.length ≤ maxLen) : ∀ (d i : Nat), n - i = d → i ≤ n → (∀ x : Nat, x < i → (x : Int) ∈ l) → Ev (fun k => impl_isOrder.l0 k l n n i) (isOrd n l) := by
  intro d
  induction d with
  | zero =>
    intro i hd hi hx
    obtain rfl : i = n := by omega
    refine Ev.step (fun k => by simp only [impl_isOrder.l0]; rfl) ?_
    simp only [Int.lt_irrefl, if_false]
    have : isOrd i l = ((l.length : Int) == (i : Int)) := by
      have ha : ((List.range i).all fun x => decide ((x : Int) ∈ l)) = true := by
        simp only [List.all_eq_true, List.mem_range, decide_eq_true_eq]
        exact hx
      unfold isOrd
      rw [ha, Bool.and_true, Bool.eq_iff_iff]
      simp
      omega
    rw [this]
    exact Ev.now _
  | succ d ih =>
    intro i hd hi hx
    refine Ev.step (fun k => by simp only [impl_isOrder.l0]; rfl) ?_
    simp only [show ((i : Int) < (n : Int)) by omega, if_true]
    refine Ev.bind (contains_ev l hl (i : Int)) ?_
    by_cases hm : (i : Int) ∈ l
    · simp only [hm, decide_true, if_true, w64 (show -9223372036854775808 ≤ (i : Int) + 1 by omega) (by omega)]
      exact ih (i + 1) (by omega) (by omega) (fun x hxi => by
        by_cases e : x = i
        · subst e; exact hm
        · exact hx x (by omega))
    · simp only [hm, decide_false, Bool.false_eq_true, if_false]
      have : isOrd n l = false := by
        rw [Bool.eq_false_iff]
        intro h
        unfold isOrd at h
        simp only [Bool.and_eq_true, List.all_eq_true, List.mem_range, decide_eq_true_eq] at h
        exact hm (h.2 i (by omega))
      rw [this]
      exact Ev.now _
theorem isOrder_ev (n : Nat) (hn : n ≤ 1048576) (l : List Int) (hl : l.length ≤ maxLen) : Ev (fun k => impl_isOrder.f k l n) (isOrd n l) :=
  isOrder_l0 n hn l hl n 0 (by omega) (by omega) (fun x h => by omega)
/-- All in their place, none twice, none met. -/
def freshL (n : Nat) (l r : List Int) : Prop := (∀ y ∈ r, 0 ≤ y ∧ y < n) ∧ r.Nodup ∧ ∀ y ∈ r, y ∉ l
instance (n : Nat) (l r : List Int) : Decidable (freshL n l r) := by unfold freshL; exact inferInstance
theorem freshL_step (n : Nat) (l r : List Int) (x : Int) : freshL n l (x :: r) ↔ (0 ≤ x ∧ x < n) ∧ x ∉ l ∧ freshL n (l ++ [x]) r := by
  unfold freshL
  simp only [List.nodup_cons, List.mem_cons, List.mem_append, List.not_mem_nil, or_false, forall_eq_or_imp]
  constructor
  · rintro ⟨⟨h1, h2⟩, ⟨h3, h4⟩, h5, h6⟩
    exact ⟨h1, h5, h2, h4, fun y hy => by
      rintro (h | rfl)
      · exact h6 y hy h
      · exact h3 hy⟩
  · rintro ⟨h1, h2, h3, h4, h5⟩
    exact ⟨⟨h1, h3⟩, ⟨fun h => h5 x h (.inr rfl), h4⟩, h2, fun y hy h => h5 y hy (.inl h)⟩
theorem perm_l0 (n : Nat) (hn : n ≤ 4) (l : List Int) (hl : l.length ≤ 1048576) : ∀ (d i : Nat) (m : List Bool), l.length - i = d → i ≤ l.length → m.length = 4 → (∀ j : Nat, j < 4 → (m.getD j false = true ↔ (j : Int) ∈ l.take i)) → Ev (fun k => spec_l04Permutation.l0 k l n m i) (decide (freshL n (l.take i) (l.drop i))) := by
  intro d
  induction d with
  | zero =>
    intro i m hd hi hm hj
    obtain rfl : i = l.length := by omega
    refine Ev.step (fun k => by simp only [spec_l04Permutation.l0]; rfl) ?_
    simp only [Int.lt_irrefl, if_false]
    rw [show decide (freshL n (l.take l.length) (l.drop l.length)) = true from decide_eq_true (by simp [freshL])]
    exact Ev.now _
  | succ d ih =>
    intro i m hd hi hm hj
    have hil : i < l.length := by omega
    have e1 := freshL_step n (l.take i) (l.drop (i + 1)) l[i]
    rw [← List.drop_eq_getElem_cons hil] at e1
    refine Ev.step (fun k => by simp only [spec_l04Permutation.l0]; rfl) ?_
    simp only [show ((i : Int) < (l.length : Int)) by omega, show (0 : Int) ≤ (i : Int) by omega, if_true, rd_nat l i hil, l01In_eq, Option.bind_some, w64 (show -9223372036854775808 ≤ (n : Int) - 1 by omega) (by omega)]
    by_cases hb : 0 ≤ l[i] ∧ l[i] < n
    · have hx4 : l[i] < 4 := by omega
      obtain ⟨x, hx⟩ : ∃ x : Nat, l[i] = (x : Int) := ⟨l[i].toNat, by omega⟩
      have hb2 : (decide (0 ≤ l[i]) && decide (l[i] ≤ (n : Int) - 1)) = true := by
        simp only [Bool.and_eq_true, decide_eq_true_eq]; omega
      simp only [hb2, if_true]
      simp only [hb.1, hx4, if_true]
      have hjx := hj x (by omega)
      by_cases hmx : m.getD x false = true
      · rw [hx, Int.toNat_natCast]
        simp only [hmx, if_true]
        rw [show decide (freshL n (l.take i) (l.drop i)) = false from decide_eq_false (fun h => (e1.1 h).2.1 (by rw [hx]; exact hjx.1 hmx))]
        exact Ev.now _
      · have hmf : m.getD x false = false := by simpa using hmx
        have h := ih (i + 1) (m.set x true) (by omega) (by omega) (by rw [List.length_set]; exact hm) (fun j hj4 => by
          rw [List.take_succ_eq_append_getElem hil, List.mem_append, List.mem_singleton, hx]
          by_cases e : j = x
          · subst e; simp [hm, hj4]
          · rw [List.getD_eq_getElem?_getD, List.getElem?_set_ne (by omega), ← List.getD_eq_getElem?_getD, hj j hj4]
            simp [show ¬ ((j : Int) = (x : Int)) by omega])
        rw [List.take_succ_eq_append_getElem hil] at h
        rw [hx, Int.toNat_natCast]
        simp only [hmf, Bool.false_eq_true, if_false, w64 (show -9223372036854775808 ≤ (i : Int) + 1 by omega) (by omega)]
        rw [show decide (freshL n (l.take i) (l.drop i)) = decide (freshL n (l.take i ++ [l[i]]) (l.drop (i + 1))) from decide_eq_decide.2 (e1.trans ⟨fun h => h.2.2, fun h => ⟨hb, fun hc => hmx (hjx.2 (by rw [← hx]; exact hc)), h⟩⟩)]
        exact h
    · have hb2 : (decide (0 ≤ l[i]) && decide (l[i] ≤ (n : Int) - 1)) = false := by
        rw [Bool.and_eq_false_iff]
        by_cases h0 : 0 ≤ l[i]
        · right; rw [decide_eq_false_iff_not]; omega
        · left; rw [decide_eq_false_iff_not]; exact h0
      simp only [hb2, Bool.false_eq_true, if_false]
      rw [show decide (freshL n (l.take i) (l.drop i)) = false from decide_eq_false (fun h => hb (e1.1 h).1)]
      exact Ev.now _
theorem l04Permutation_ev (n : Nat) (hn : n ≤ 4) (l : List Int) : Ev (fun k => spec_l04Permutation.f k l n) (isOrd n l) := by
  unfold spec_l04Permutation.f
  by_cases h : (l.length : Int) = (n : Int)
  · simp only [h, if_true]
    have h1 := perm_l0 n hn l (by omega) l.length 0 (List.replicate 4 false) (by omega) (by omega) rfl (fun j hj => by
      rw [List.getD_eq_getElem?_getD, List.getElem?_replicate, if_pos hj]
      simp)
    rw [List.take_zero, List.drop_zero] at h1
    have e : isOrd n l = decide (freshL n [] l) := by
      rw [Bool.eq_iff_iff, isOrd_iff, decide_eq_true_eq]
      unfold freshL
      constructor
      · rintro ⟨_, h2, h3⟩; exact ⟨h3, h2, by simp⟩
      · rintro ⟨h2, h3, _⟩; exact ⟨by omega, h3, h2⟩
    rw [e]
    exact h1
  · simp only [h, if_false]
    rw [show isOrd n l = false from by
      rw [Bool.eq_false_iff]
      intro hc
      exact h (by have := ((isOrd_iff n l).1 hc).1; omega)]
    exact Ev.now _
def isCov (a : Int) (l : List (List Int)) (s : Int) (t : List (List Int)) : Bool := isG a l && ((decide (1 ≤ s) && decide (s ≤ 4)) && (decide ((t.length : Int) = (l.length : Int)) && t.all (isOrd s.toNat)))
theorem l04Is_l0 (n : Nat) (hn : n ≤ 4) (a : Int) (l t : List (List Int)) (ht : t.length ≤ maxLen) : ∀ (d i : Nat), t.length - i = d → i ≤ t.length → Ev (fun k => spec_l04Is.l0 k i a l n t) ((t.drop i).all (isOrd n)) := by
  unfold maxLen at ht
  intro d
  induction d with
  | zero =>
    intro i hd hi
    obtain rfl : i = t.length := by omega
    refine Ev.step (fun k => by simp only [spec_l04Is.l0]; rfl) ?_
    simp only [Int.lt_irrefl, if_false, List.drop_length, List.all_nil]
    exact Ev.now _
  | succ d ih =>
    intro i hd hi
    have hil : i < t.length := by omega
    refine Ev.step (fun k => by simp only [spec_l04Is.l0]; rfl) ?_
    simp only [show ((i : Int) < (t.length : Int)) by omega, show (0 : Int) ≤ (i : Int) by omega, if_true, rdL1_nat t i hil]
    refine Ev.bind (l04Permutation_ev n hn t[i]) ?_
    rw [List.drop_eq_getElem_cons hil, List.all_cons]
    cases isOrd n t[i] with
    | false => simp only [Bool.false_eq_true, if_false, Bool.false_and]; exact Ev.now _
    | true =>
      simp only [if_true, Bool.true_and, w64 (show -9223372036854775808 ≤ (i : Int) + 1 by omega) (by omega)]
      exact ih (i + 1) (by omega) (by omega)
theorem l04Is_ev (a : Int) (l : List (List Int)) (s : Int) (t : List (List Int)) (hl : l.length ≤ maxLen) (ht : t.length ≤ maxLen) : Ev (fun k => spec_l04Is.f k a l s t) (isCov a l s t) := by
  unfold spec_l04Is.f isCov
  refine Ev.bind (spec_l01Is_ev a l hl) ?_
  have hj : Ev (fun k => spec_l04Is.j0 k true a l s t) false := by
    refine Ev.step (fun k => by simp only [spec_l04Is.j0]; rfl) ?_
    simp only [if_true]
    exact Ev.now _
  cases isG a l with
  | false => simp only [Bool.false_eq_true, if_false, Bool.false_and]; exact hj
  | true =>
    simp only [if_true, Bool.true_and, l01In_eq, Option.bind_some]
    cases hb : (decide (1 ≤ s) && decide (s ≤ 4)) with
    | false => simp only [Bool.false_eq_true, if_false, Bool.false_and]; exact hj
    | true =>
      simp only [Bool.and_eq_true, decide_eq_true_eq] at hb
      obtain ⟨n, rfl⟩ : ∃ n : Nat, s = n := ⟨s.toNat, by omega⟩
      simp only [if_true, Bool.true_and, Int.toNat_natCast]
      refine Ev.step (fun k => by simp only [spec_l04Is.j0]; rfl) ?_
      by_cases h : (t.length : Int) = (l.length : Int)
      · simp only [h, decide_true, Bool.true_and, bne_self_eq_false, Bool.false_eq_true, if_false]
        have := l04Is_l0 n (by omega) a l t ht t.length 0 (by omega) (by omega)
        rwa [List.drop_zero] at this
      · simp only [h, decide_false, Bool.false_and, show ((t.length : Int) != (l.length : Int)) = true from bne_iff_ne.2 h, if_true]
        exact Ev.now _
theorem idxM_ev (p : List Int → Bool) (f : Nat → List Int → Option Bool) (t : List (List Int)) (h : ∀ x ∈ t, Ev (fun k => f k x) (p x)) : ∀ k0 : Nat, ∃ r, Ev (fun k => idxM (f k) t k0) r ∧ decide (0 ≤ r) = t.any p := by
  induction t with
  | nil => exact fun k0 => ⟨-1, Ev.now _, rfl⟩
  | cons x xs ih =>
    intro k0
    cases hx : p x with
    | true =>
      refine ⟨(k0 : Int), ?_, by rw [List.any_cons, hx]; simp⟩
      have h1 := h x (List.mem_cons_self)
      rw [hx] at h1
      refine Ev.bind h1 ?_
      simp only [if_true]
      exact Ev.now _
    | false =>
      obtain ⟨r, h2, h3⟩ := ih (fun y hy => h y (List.mem_cons_of_mem _ hy)) (k0 + 1)
      refine ⟨r, ?_, by rw [List.any_cons, hx, Bool.false_or]; exact h3⟩
      have h1 := h x (List.mem_cons_self)
      rw [hx] at h1
      refine Ev.bind h1 ?_
      simp only [Bool.false_eq_true, if_false]
      exact h2
theorem isCover_ev (a : Int) (l : List (List Int)) (s : Int) (t : List (List Int)) (hl : l.length ≤ maxLen) (ht : t.length ≤ maxLen) (hx : ∀ x ∈ t, x.length ≤ maxLen) : Ev (fun k => impl_IsCover.f k a l s t) (isCov a l s t) := by
  unfold impl_IsCover.f isCov
  refine Ev.bind (impl_IsGraph_ev a l hl) ?_
  cases isG a l with
  | false => simp only [Bool.false_eq_true, if_false, Bool.false_and]; exact Ev.now _
  | true =>
    simp only [if_true, Bool.true_and, within_eq, Option.bind_some, impl_Graph_size.f]
    cases hb : (decide (1 ≤ s) && decide (s ≤ 4)) with
    | false => simp only [Bool.false_eq_true, if_false, Bool.false_and]; exact Ev.now _
    | true =>
      simp only [Bool.and_eq_true, decide_eq_true_eq] at hb
      obtain ⟨n, rfl⟩ : ∃ n : Nat, s = n := ⟨s.toNat, by omega⟩
      simp only [if_true, Bool.true_and, Int.toNat_natCast]
      by_cases h : (t.length : Int) = (l.length : Int)
      · simp only [h, decide_true, Bool.true_and, if_true]
        obtain ⟨r, h1, h2⟩ := idxM_ev (fun x => !(isOrd n x)) (fun k x => (impl_isOrder.f k x n).map not) t (fun x hxm => by
          have h3 := isOrder_ev n (by omega) x (hx x hxm)
          obtain ⟨k, hk⟩ := h3
          exact ⟨k, fun m hm => by
            have e := hk m hm
            simp only at e ⊢
            rw [e]; rfl⟩) 0
        have h4 : Ev (fun k => impl_IsCover_1.f k t a l n t) (t.any fun x => !(isOrd n x)) := by
          unfold impl_IsCover_1.f
          refine Ev.bind h1 ?_
          rw [h2]
          exact Ev.now _
        refine Ev.bind h4 ?_
        rw [show t.all (isOrd n) = !(t.any fun x => !(isOrd n x)) from by rw [List.any_eq_not_all_not]; simp]
        exact Ev.now _
      · simp only [h, decide_false, Bool.false_and, if_false]
        exact Ev.now _
theorem szCover_ev (a : Int) (l : List (List Int)) (s : Int) (t : List (List Int)) (hl : l.length ≤ maxLen) (hx : ∀ x ∈ l, x.length ≤ maxLen) (ht : t.length ≤ maxLen) (hy : ∀ x ∈ t, x.length ≤ maxLen) : ∃ r, Ev (fun k => laws_szCover.f k a l s t 1048576) r ∧ (0 ≤ r → (l.length ≤ 1048576 ∧ ∀ x ∈ l, x.length ≤ 1048576) ∧ (t.length ≤ 1048576 ∧ ∀ x ∈ t, x.length ≤ 1048576)) := by
  obtain ⟨r, hr, h2, h3, h4⟩ := szGraph_ev a l 1048576 (by omega) (by omega) hl hx
  unfold laws_szCover.f
  by_cases hn : r < 0
  · exact ⟨-1, Ev.bind hr (by simp only [hn, if_true]; exact Ev.now _), fun h => by omega⟩
  · obtain ⟨q, hq, g2, g3, g4⟩ := szInt64SS_ev t r (by omega) h2 ht hy
    by_cases hm : q < 0
    · exact ⟨-1, Ev.bind hr (by simp only [hn, if_false]; exact Ev.bind hq (by simp only [hm, if_true]; exact Ev.now _)), fun h => by omega⟩
    · exact ⟨q, Ev.bind hr (by simp only [hn, if_false]; exact Ev.bind hq (by simp only [hm, if_false]; exact Ev.now _)), fun h => ⟨h4 (by omega), g4 (by omega)⟩⟩
theorem toCover_ev (a : Int) (l : List (List Int)) (s : Int) (t : List (List Int)) (hl : l.length ≤ 1048576) (hx : ∀ x ∈ l, x.length ≤ 1048576) (ht : t.length ≤ 1048576) (hy : ∀ x ∈ t, x.length ≤ 1048576) : Ev (fun k => laws_toCover.f k a l s t) (a, l, s, t) := by
  unfold laws_toCover.f
  refine Ev.bind (toGraph_ev a l (by omega) (fun x h => by have := hx x h; omega)) ?_
  exact Ev.bind (toInt64SS_ev t (by omega) (fun x h => by have := hy x h; omega)) (Ev.now _)
theorem eqCover_ev (a : Int) (l : List (List Int)) (s : Int) (t : List (List Int)) (hl : l.length ≤ maxLen) (hx : ∀ x ∈ l, x.length ≤ maxLen) (ht : t.length ≤ maxLen) (hy : ∀ x ∈ t, x.length ≤ maxLen) : Ev (fun k => laws_eqCover.f k a l s t a l s t) true := by
  unfold laws_eqCover.f
  refine Ev.bind (eqGraph_ev a l hl hx) ?_
  simp only [if_true]
  refine Ev.bind (eqInt64SS_ev t ht hy) ?_
  simp only [if_true]
  exact Ev.now _
/-- Edge i of those above edge k, in the derived graph of n sheets. -/
def derE (n : Nat) (l t : List (List Int)) (k i : Nat) : List Int := [wrap64 (wrap64 (rd (rd_L1 l (k : Int)) 0 * (n : Int)) + (i : Int)), wrap64 (wrap64 (rd (rd_L1 l (k : Int)) 1 * (n : Int)) + rd (rd_L1 t (k : Int)) (i : Int))]
def derL (n : Nat) (l t : List (List Int)) : Nat → List (List Int)
  | 0 => []
  | k + 1 => derL n l t k ++ (List.range n).map (derE n l t k)
theorem derL_length (n : Nat) (l t : List (List Int)) (k : Nat) : (derL n l t k).length = k * n := by
  induction k with
  | zero => simp [derL]
  | succ k ih => simp [derL, ih, Nat.succ_mul]
theorem derP_succ (n : Nat) (l t : List (List Int)) (k i : Nat) : derL n l t k ++ (List.range (i + 1)).map (derE n l t k) = (derL n l t k ++ (List.range i).map (derE n l t k)) ++ [derE n l t k i] := by
  rw [List.range_succ, List.map_append, List.append_assoc]
  rfl
theorem spec_der_l1 (n : Nat) (hn : n ≤ 4) (a b : Int) (l t : List (List Int)) (hl : l.length ≤ 1048576) (k : Nat) (hk : k < l.length) (hkt : k < t.length) (h2 : (rd_L1 l (k : Int)).length = 2) (ht : (rd_L1 t (k : Int)).length = n) (R : Int × List (List Int))
    (hR : Ev (fun j => spec_l04Derived.l0 j ((k : Int) + 1) a l n t b (derL n l t (k + 1))) R) :
    ∀ (d i : Nat), n - i = d → i ≤ n → Ev (fun j => spec_l04Derived.l1 j k i a l n t b (derL n l t k ++ (List.range i).map (derE n l t k))) R := by
  intro d
  induction d with
  | zero =>
    intro i hd hi
    obtain rfl : i = n := by omega
    refine Ev.step (fun k => by simp only [spec_l04Derived.l1]; rfl) ?_
    simp only [Int.lt_irrefl, if_false, w64 (show -9223372036854775808 ≤ (k : Int) + 1 by omega) (by omega)]
    exact hR
  | succ d ih =>
    intro i hd hi
    have h := ih (i + 1) (by omega) (by omega)
    rw [derP_succ] at h
    have hlen : (derL n l t k ++ (List.range i).map (derE n l t k)).length < 5864062014805 := by
      rw [List.length_append, derL_length, List.length_map, List.length_range]
      have : k * n ≤ 1048576 * 4 := Nat.mul_le_mul (by omega) hn
      omega
    refine Ev.step (fun k => by simp only [spec_l04Derived.l1]; rfl) ?_
    simp only [show ((i : Int) < (n : Int)) by omega, show (0 : Int) ≤ (k : Int) by omega, show ((k : Int) < (l.length : Int)) by omega, show ((k : Int) < (t.length : Int)) by omega, h2, ht, show ((0 : Int) < ((2 : Nat) : Int)) by omega, show ((1 : Int) < ((2 : Nat) : Int)) by omega, show (0 : Int) ≤ (i : Int) by omega, hlen, if_true, w64 (show -9223372036854775808 ≤ (i : Int) + 1 by omega) (by omega)]
    exact h
theorem spec_der_l0 (n : Nat) (hn : n ≤ 4) (a b : Int) (l t : List (List Int)) (hl : l.length ≤ 1048576) (hlt : t.length = l.length) (h2 : two l) (ht : ∀ x ∈ t, x.length = n) : ∀ (d k : Nat), l.length - k = d → k ≤ l.length → Ev (fun j => spec_l04Derived.l0 j k a l n t b (derL n l t k)) (b, derL n l t l.length) := by
  intro d
  induction d with
  | zero =>
    intro k hd hi
    obtain rfl : k = l.length := by omega
    refine Ev.step (fun k => by simp only [spec_l04Derived.l0]; rfl) ?_
    simp only [hlt, Int.lt_irrefl, if_false]
    exact Ev.now _
  | succ d ih =>
    intro k hd hi
    have hk : k < l.length := by omega
    refine Ev.step (fun k => by simp only [spec_l04Derived.l0]; rfl) ?_
    simp only [show ((k : Int) < (t.length : Int)) by omega, if_true]
    have h := spec_der_l1 n hn a b l t hl k hk (by omega) (by rw [rdL1_nat l k hk]; exact h2 _ (List.getElem_mem hk)) (by rw [rdL1_nat t k (by omega)]; exact ht _ (List.getElem_mem _)) _ (ih (k + 1) (by omega) (by omega)) n 0 (by omega) (by omega)
    simpa using h
theorem spec_der_ev (n : Nat) (hn : n ≤ 4) (a : Int) (l t : List (List Int)) (hl : l.length ≤ 1048576) (hlt : t.length = l.length) (h2 : two l) (ht : ∀ x ∈ t, x.length = n) : Ev (fun j => spec_l04Derived.f j a l n t) (wrap64 (a * (n : Int)), derL n l t l.length) :=
  spec_der_l0 n hn a _ l t hl hlt h2 ht l.length 0 (by omega) (by omega)
theorem impl_der_l1 (n : Nat) (hn : n ≤ 4) (a b : Int) (l t : List (List Int)) (hl : l.length ≤ 1048576) (k : Nat) (hk : k < l.length) (hkt : k < t.length) (h2 : (rd_L1 l (k : Int)).length = 2) (ht : (rd_L1 t (k : Int)).length = n) (R : Int × List (List Int))
    (hR : Ev (fun j => impl_Cover_derived.l0 j l (l.length : Int) ((k : Int) + 1) a l n t b (derL n l t (k + 1))) R) :
    ∀ (d i : Nat), n - i = d → i ≤ n → Ev (fun j => impl_Cover_derived.l1 j k (rd_L1 l (k : Int)) l (l.length : Int) k n i a l n t b (derL n l t k ++ (List.range i).map (derE n l t k))) R := by
  intro d
  induction d with
  | zero =>
    intro i hd hi
    obtain rfl : i = n := by omega
    refine Ev.step (fun k => by simp only [impl_Cover_derived.l1]; rfl) ?_
    simp only [Int.lt_irrefl, if_false, w64 (show -9223372036854775808 ≤ (k : Int) + 1 by omega) (by omega)]
    exact hR
  | succ d ih =>
    intro i hd hi
    have h := ih (i + 1) (by omega) (by omega)
    rw [derP_succ] at h
    have hlen : (derL n l t k ++ (List.range i).map (derE n l t k)).length < 5864062014805 := by
      rw [List.length_append, derL_length, List.length_map, List.length_range]
      have : k * n ≤ 1048576 * 4 := Nat.mul_le_mul (by omega) hn
      omega
    refine Ev.step (fun k => by simp only [impl_Cover_derived.l1]; rfl) ?_
    simp only [show ((i : Int) < (n : Int)) by omega, show (0 : Int) ≤ (k : Int) by omega, show ((k : Int) < (t.length : Int)) by omega, h2, ht, show ((0 : Int) < ((2 : Nat) : Int)) by omega, show ((1 : Int) < ((2 : Nat) : Int)) by omega, show (0 : Int) ≤ (i : Int) by omega, hlen, if_true, w64 (show -9223372036854775808 ≤ (i : Int) + 1 by omega) (by omega)]
    exact h
theorem impl_der_l0 (n : Nat) (hn : n ≤ 4) (a b : Int) (l t : List (List Int)) (hl : l.length ≤ 1048576) (hlt : t.length = l.length) (h2 : two l) (ht : ∀ x ∈ t, x.length = n) : ∀ (d k : Nat), l.length - k = d → k ≤ l.length → Ev (fun j => impl_Cover_derived.l0 j l (l.length : Int) k a l n t b (derL n l t k)) (b, derL n l t l.length) := by
  intro d
  induction d with
  | zero =>
    intro k hd hi
    obtain rfl : k = l.length := by omega
    refine Ev.step (fun k => by simp only [impl_Cover_derived.l0]; rfl) ?_
    simp only [Int.lt_irrefl, if_false]
    exact Ev.now _
  | succ d ih =>
    intro k hd hi
    have hk : k < l.length := by omega
    refine Ev.step (fun k => by simp only [impl_Cover_derived.l0]; rfl) ?_
    simp only [show ((k : Int) < (l.length : Int)) by omega, show (0 : Int) ≤ (k : Int) by omega, if_true]
    have h := impl_der_l1 n hn a b l t hl k hk (by omega) (by rw [rdL1_nat l k hk]; exact h2 _ (List.getElem_mem hk)) (by rw [rdL1_nat t k (by omega)]; exact ht _ (List.getElem_mem _)) _ (ih (k + 1) (by omega) (by omega)) n 0 (by omega) (by omega)
    simpa using h
theorem impl_der_ev (n : Nat) (hn : n ≤ 4) (a : Int) (l t : List (List Int)) (hl : l.length ≤ 1048576) (hlt : t.length = l.length) (h2 : two l) (ht : ∀ x ∈ t, x.length = n) : Ev (fun j => impl_Cover_derived.f j a l n t) (wrap64 (a * (n : Int)), derL n l t l.length) :=
  impl_der_l0 n hn a _ l t hl hlt h2 ht l.length 0 (by omega) (by omega)
theorem derL_mem {n : Nat} {l t : List (List Int)} {K : Nat} {x : List Int} (h : x ∈ derL n l t K) : ∃ k i, k < K ∧ i < n ∧ x = derE n l t k i := by
  induction K with
  | zero => cases h
  | succ K ih =>
    rcases List.mem_append.1 h with h | h
    · obtain ⟨k, i, h1, h2, h3⟩ := ih h
      exact ⟨k, i, by omega, h2, h3⟩
    · obtain ⟨i, hi, rfl⟩ := List.mem_map.1 h
      exact ⟨K, i, by omega, List.mem_range.1 hi, rfl⟩
theorem derE_ends {a n : Nat} (ha : a ≤ 8) (hn : n ≤ 4) {l t : List (List Int)} (hE : endsIn a l) (hlt : t.length = l.length) (ht : ∀ x ∈ t, isOrd n x = true) (k i : Nat) (hk : k < l.length) (hi : i < n) : ∃ u v : Nat, derE n l t k i = [(u : Int), (v : Int)] ∧ u < a * n ∧ v < a * n := by
  obtain ⟨hx, u, v, hu, hv, hua, hva⟩ := hE k hk
  have hm : t[k]'(by omega) ∈ t := List.getElem_mem _
  obtain ⟨h1, h2, h3⟩ := (isOrd_iff n _).1 (ht _ hm)
  have hki : i < (t[k]'(by omega)).length := by omega
  have h4 := h3 _ (List.getElem_mem hki)
  obtain ⟨j, hj⟩ : ∃ j : Nat, rd (rd_L1 t (k : Int)) (i : Int) = (j : Int) ∧ j < n := by
    rw [rdL1_nat t k (by omega), rd_nat _ i hki]
    exact ⟨((t[k]'(by omega))[i]'hki).toNat, by omega, by omega⟩
  have b1 : u * n ≤ 7 * 4 := Nat.mul_le_mul (by omega) hn
  have b2 : v * n ≤ 7 * 4 := Nat.mul_le_mul (by omega) hn
  have b3 : (u + 1) * n ≤ a * n := Nat.mul_le_mul_right n hua
  have b4 : (v + 1) * n ≤ a * n := Nat.mul_le_mul_right n hva
  rw [Nat.succ_mul] at b3 b4
  refine ⟨u * n + i, v * n + j, ?_, by omega, by omega⟩
  have c1 : (u : Int) * (n : Int) = ((u * n : Nat) : Int) := by simp
  have c2 : (v : Int) * (n : Int) = ((v * n : Nat) : Int) := by simp
  unfold derE
  rw [hu, hv, hj.1, c1, c2]
  rw [w64 (show -9223372036854775808 ≤ ((u * n : Nat) : Int) by omega) (by omega), w64 (show -9223372036854775808 ≤ ((v * n : Nat) : Int) by omega) (by omega)]
  rw [w64 (by omega) (by omega), w64 (by omega) (by omega)]
  simp
theorem derL_ends {a n : Nat} (ha : a ≤ 8) (hn : n ≤ 4) {l t : List (List Int)} (hE : endsIn a l) (hlt : t.length = l.length) (ht : ∀ x ∈ t, isOrd n x = true) : endsIn (a * n) (derL n l t l.length) := by
  intro e he
  rw [rdL1_nat _ e he]
  obtain ⟨k, i, hk, hi, hx⟩ := derL_mem (List.getElem_mem he)
  obtain ⟨u, v, h1, h2, h3⟩ := derE_ends ha hn hE hlt ht k i hk hi
  rw [hx, h1]
  exact ⟨rfl, u, v, rfl, rfl, h2, h3⟩
theorem isCov_open {a s : Int} {l t : List (List Int)} (h : isCov a l s t = true) : ∃ n m : Nat, a = n ∧ s = m ∧ 1 ≤ n ∧ n ≤ 8 ∧ 1 ≤ m ∧ m ≤ 4 ∧ isG a l = true ∧ t.length = l.length ∧ endsIn n l ∧ ∀ x ∈ t, isOrd m x = true := by
  unfold isCov at h
  simp only [Bool.and_eq_true, decide_eq_true_eq, List.all_eq_true] at h
  obtain ⟨hg, ⟨h1, h2⟩, h3, h4⟩ := h
  obtain ⟨n, hn, hn1, hn8, hE⟩ := isG_ends hg
  exact ⟨n, s.toNat, hn, by omega, hn1, hn8, by omega, by omega, hg, by omega, hE, h4⟩
theorem main_FnExactDerivedGraph (a : Int) (l : List (List Int)) (s : Int) (t : List (List Int)) (_ : (Lit.int .i64 a).wf = true) (hl : l.length ≤ maxLen) (_ : ∀ x ∈ l, x.length ≤ maxLen ∧ ∀ n ∈ x, (Lit.int .i64 n).wf = true) (_ : (Lit.int .i64 s).wf = true) (ht : t.length ≤ maxLen) (hty : ∀ x ∈ t, x.length ≤ maxLen ∧ ∀ n ∈ x, (Lit.int .i64 n).wf = true) :
    ∃ (ra : Int) (rl : List (List Int)) (c : Int), Ev (fun k => spec_DerivedGraph.f k a l s t) (ra, rl, c) ∧ Ev (fun k => impl_DerivedGraph.f k a l s t) (ra, rl, c) ∧ (rl.length ≤ 1048576 ∧ ∀ y ∈ rl, y.length ≤ 1048576) := by
  have hx : ∀ x ∈ t, x.length ≤ maxLen := fun x h => (hty x h).1
  cases h : isCov a l s t with
  | false =>
    refine ⟨0, [], 1, ?_, ?_, by simp, by simp⟩
    · unfold spec_DerivedGraph.f
      refine Ev.bind (show Ev (fun k => spec_l04Told.f k a l s t) (0, [], 1) from ?_) (Ev.now _)
      unfold spec_l04Told.f
      refine Ev.bind (l04Is_ev a l s t hl ht) ?_
      rw [h]
      simp only [Bool.false_eq_true, if_false]
      exact Ev.now _
    · unfold impl_DerivedGraph.f
      refine Ev.bind (show Ev (fun k => impl_derivedCode.f k a l s t) (0, [], 1) from ?_) (Ev.now _)
      unfold impl_derivedCode.f
      refine Ev.bind (isCover_ev a l s t hl ht hx) ?_
      rw [h]
      simp only [Bool.false_eq_true, if_false]
      exact Ev.now _
  | true =>
    obtain ⟨n, m, rfl, rfl, hn1, hn8, hm1, hm4, hg, hlt, hE, ho⟩ := isCov_open h
    have hl10 := isG_len hg
    have hs := spec_der_ev m hm4 n l t (by omega) hlt (isG_two hg) (fun x hx => ((isOrd_iff m x).1 (ho x hx)).1)
    have hi := impl_der_ev m hm4 n l t (by omega) hlt (isG_two hg) (fun x hx => ((isOrd_iff m x).1 (ho x hx)).1)
    have hD := derL_ends hn8 hm4 hE hlt ho
    generalize hA : wrap64 ((n : Int) * (m : Int)) = A at hs hi
    have hsmall : (derL m l t l.length).length ≤ 1048576 ∧ ∀ y ∈ derL m l t l.length, y.length ≤ 1048576 := by
      refine ⟨?_, fun y hy => ?_⟩
      · rw [derL_length]
        have : l.length * m ≤ 10 * 4 := Nat.mul_le_mul hl10 hm4
        omega
      · obtain ⟨k, i, _, _, rfl⟩ := derL_mem hy
        show 2 ≤ 1048576
        omega
    generalize derL m l t l.length = D at hs hi hsmall hD
    have hspec : ∀ R : Int × List (List Int) × Int, Ev (fun _ => if A > 8 then some (0, [], 3) else if (D.length : Int) > 10 then some (0, [], 3) else some (A, D, 0)) R → Ev (fun k => spec_DerivedGraph.f k n l m t) R := by
      intro R hR
      unfold spec_DerivedGraph.f
      refine Ev.bind (show Ev (fun k => spec_l04Told.f k n l m t) R from ?_) (Ev.now _)
      unfold spec_l04Told.f
      refine Ev.bind (l04Is_ev n l m t hl ht) ?_
      rw [h]
      simp only [if_true]
      exact Ev.bind hs hR
    have himpl : ∀ R : Int × List (List Int) × Int, Ev (fun _ => if A > 8 then some (0, [], 3) else if (D.length : Int) > 10 then some (0, [], 3) else some (A, D, 0)) R → Ev (fun k => impl_DerivedGraph.f k n l m t) R := by
      intro R hR
      unfold impl_DerivedGraph.f
      refine Ev.bind (show Ev (fun k => impl_derivedCode.f k n l m t) R from ?_) (Ev.now _)
      unfold impl_derivedCode.f
      refine Ev.bind (isCover_ev n l m t hl ht hx) ?_
      rw [h]
      simp only [if_true]
      exact Ev.bind hi hR
    by_cases h8 : A > 8
    · exact ⟨0, [], 3, hspec _ (by simp only [h8, if_true]; exact Ev.now _), himpl _ (by simp only [h8, if_true]; exact Ev.now _), by simp, by simp⟩
    · by_cases h10 : (D.length : Int) > 10
      · exact ⟨0, [], 3, hspec _ (by simp only [h8, h10, if_false, if_true]; exact Ev.now _), himpl _ (by simp only [h8, h10, if_false, if_true]; exact Ev.now _), by simp, by simp⟩
      · exact ⟨A, D, 0, hspec _ (by simp only [h8, h10, if_false]; exact Ev.now _), himpl _ (by simp only [h8, h10, if_false]; exact Ev.now _), hsmall⟩


end Go.Proofs.Ytpckiapngjcijaa.C
namespace Go.Proofs.Ytpckiapngjcijaa.Pure
open Go.RowKit Go.Proofs.YtpckiapngjcijaaW.PrintWords Go.Proofs.YtpckiapngjcijaaW.PrintLast Go.Proofs.YtpckiapngjcijaaW.PrintMore Go.Proofs.Ytpckiapngjcijaa.C
theorem FnExactDerivedGraph : laws_FnExactDerivedGraph.Pure := by
  intro a0 l0 s0 t0 w0 hm0 hx0 ws0 hmt0 hxt0 
  have hy0 : ∀ x ∈ l0, x.length ≤ maxLen := fun x h => (hx0 x h).1
  have hyt0 : ∀ x ∈ t0, x.length ≤ maxLen := fun x h => (hxt0 x h).1
  obtain ⟨z0, ez0, z03⟩ := szCover_ev a0 l0 s0 t0 hm0 hy0 hmt0 hyt0
  by_cases hn0 : z0 < 0
  · obtain ⟨k, hk⟩ := Ev.rounds ez0
    exact Or.inl ⟨k, z0, hn0, hk⟩
  · refine Or.inr ?_
    obtain ⟨⟨hl0, hs0⟩, hlt0, hst0⟩ := z03 (by omega)
    obtain ⟨r0a, r0l, r1a, es, ei, br0l⟩ := main_FnExactDerivedGraph a0 l0 s0 t0 w0 hm0 hx0 ws0 hmt0 hxt0
    have tr0l := tot_small r0l br0l.1 br0l.2
    have tt0 := tot_small l0 hl0 hs0
    have ttt0 := tot_small t0 hlt0 hst0
    obtain ⟨k0, eFG0⟩ := toCover_ev a0 l0 s0 t0 hl0 hs0 hlt0 hst0
    obtain ⟨k1, eFQ0⟩ := eqCover_ev a0 l0 s0 t0 hm0 hy0 hmt0 hyt0
    obtain ⟨k2, eFZ0⟩ := ez0
    obtain ⟨k3, eFS⟩ := es
    obtain ⟨k4, eFI⟩ := ei
    obtain ⟨k5, eFE0⟩ := eqGraph_ev r0a r0l (Nat.le_trans br0l.1 (by unfold maxLen; omega)) (fun y h => Nat.le_trans (br0l.2 y h) (by unfold maxLen; omega))
    obtain ⟨k6, eFM0l⟩ := markInt64SS_ev l0 (1) hl0 hs0 (by omega) (by omega)
    obtain ⟨k7, eFM0t⟩ := markInt64SS_ev t0 (1 + (tot l0 : Int)) hlt0 hst0 (by omega) (by omega)
    obtain ⟨k8, eFN0l⟩ := markInt64SS_ev r0l (1) br0l.1 br0l.2 (by omega) (by omega)
    obtain ⟨k9, eFH0⟩ := heldGraph_ev r0a r0l (1) br0l.1 br0l.2 (by omega) (by omega)
    exact ⟨k0 + k1 + k2 + k3 + k4 + k5 + k6 + k7 + k8 + k9, z0, r0a, r0l, r1a, 1 + (tot l0 : Int), mkSS l0 (1), 1 + (tot l0 : Int) + (tot t0 : Int), mkSS t0 (1 + (tot l0 : Int)), 1 + (tot r0l : Int), mkSS r0l (1), by omega, by omega, by omega, eFG0 _ (by omega), eFQ0 _ (by omega), eFZ0 _ (by omega), eFS _ (by omega), eFI _ (by omega), eFE0 _ (by omega), eFM0l _ (by omega), eFM0t _ (by omega), eFN0l _ (by omega), eFH0 _ (by omega)⟩

end Go.Proofs.Ytpckiapngjcijaa.Pure
