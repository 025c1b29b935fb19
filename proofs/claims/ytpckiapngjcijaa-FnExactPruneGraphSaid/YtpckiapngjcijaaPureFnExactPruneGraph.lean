/- Plain lemmas on the Lean functions that FnExactPruneGraph reaches, and its pure statement. No condition. -/
import Derived.Test.YtpckiapngjcijaaAWalk
namespace Go.Proofs.Ytpckiapngjcijaa.A
open Go.RowKit Go.Proofs.YtpckiapngjcijaaW.PrintWords Go.Proofs.YtpckiapngjcijaaW.PrintLast Go.Proofs.YtpckiapngjcijaaW.PrintMore
set_option linter.unusedVariables false
set_option linter.unusedSimpArgs false
theorem w64 {n : Int} (h0 : -9223372036854775808 ≤ n) (h1 : n ≤ 9223372036854775807) : wrap64 n = n := IntWalk.wrap64_in n ⟨h0, h1⟩
theorem fuel {k n : Nat} (h : n < k) : ∃ m, k = m + 1 ∧ n ≤ m := ⟨k - 1, by omega, by omega⟩
theorem rd_nat (l : List Int) (i : Nat) (h : i < l.length) : rd l (i : Int) = l[i] := by
  simp [rd, List.getD_eq_getElem?_getD, h]
theorem rdL1_nat (l : List (List Int)) (i : Nat) (h : i < l.length) : rd_L1 l (i : Int) = l[i] := by
  simp [rd_L1, List.getD_eq_getElem?_getD, h]
theorem take_set {α : Type} (x l : List α) (i : Nat) (hx : x.length = l.length) (hi : i < l.length) (h : x.take i = l.take i) : (x.set i l[i]).take (i + 1) = l.take (i + 1) := by
  apply List.ext_getElem?
  intro j
  rw [List.getElem?_take, List.getElem?_take]
  by_cases hj : j < i + 1
  · rw [if_pos hj, if_pos hj]
    by_cases hji : j = i
    · subst hji
      rw [List.getElem?_set_self (by omega), List.getElem?_eq_getElem hi]
    · rw [List.getElem?_set_ne (by omega)]
      have h2 := congrArg (fun z => z[j]?) h
      simp only [List.getElem?_take] at h2
      rwa [if_pos (by omega), if_pos (by omega)] at h2
  · rw [if_neg hj, if_neg hj]

theorem toInt64S_l0 (l : List Int) (hl : l.length ≤ 35184372088832) : ∀ (d k i : Nat) (x : List Int), l.length - i = d → d < k → i ≤ l.length → x.length = l.length → x.take i = l.take i → laws_toInt64S.l0 k l x i = some l := by
  intro d
  induction d with
  | zero =>
    intro k i x hd hk hi hx ht
    obtain ⟨m, rfl, hm⟩ := fuel hk
    simp only [laws_toInt64S.l0]
    rw [if_neg (by omega)]
    rw [List.take_of_length_le (by omega), List.take_of_length_le (by omega)] at ht
    rw [ht]
  | succ d ih =>
    intro k i x hd hk hi hx ht
    obtain ⟨m, rfl, hm⟩ := fuel hk
    have hil : i < l.length := by omega
    simp only [laws_toInt64S.l0]
    rw [if_pos (by omega), if_pos (by omega), if_pos (by omega), w64 (by omega) (by omega), rd_nat l i hil, Int.toNat_natCast]
    exact ih m (i + 1) _ (by omega) (by omega) (by omega) (by simp [hx]) (take_set x l i hx hil ht)
theorem toInt64S_ev (l : List Int) (hl : l.length ≤ 35184372088832) : Ev (fun k => laws_toInt64S.f k l) l := by
  refine Ev.of (laws_toInt64S.mono l) (k := l.length + 1) ?_
  unfold laws_toInt64S.f
  rw [if_pos (by omega), if_pos (by simpa using hl)]
  exact toInt64S_l0 l hl l.length _ 0 _ (by omega) (by omega) (by omega) (by simp) (by simp)
theorem toInt64SS_l0 (l : List (List Int)) (hl : l.length ≤ 11728124029610) (hx : ∀ x ∈ l, x.length ≤ 35184372088832) : ∀ (d i : Nat) (x : List (List Int)), l.length - i = d → i ≤ l.length → x.length = l.length → x.take i = l.take i → Ev (fun k => laws_toInt64SS.l0 k l x i) l := by
  intro d
  induction d with
  | zero =>
    intro i x hd hi hx ht
    refine Ev.step (fun k => by simp only [laws_toInt64SS.l0]; rfl) ?_
    rw [List.take_of_length_le (by omega), List.take_of_length_le (by omega)] at ht
    simp only [show ¬ ((i : Int) < (l.length : Int)) by omega, if_false, ht]
    exact Ev.now l
  | succ d ih =>
    intro i x hd hi hx' ht
    have hil : i < l.length := by omega
    refine Ev.step (fun k => by simp only [laws_toInt64SS.l0]; rfl) ?_
    simp only [show ((i : Int) < (l.length : Int)) by omega, show (0 : Int) ≤ (i : Int) by omega, show ((i : Int) < (x.length : Int)) by omega, if_true, Int.toNat_natCast, w64 (show -9223372036854775808 ≤ (i : Int) + 1 by omega) (by omega), rdL1_nat l i hil]
    refine Ev.bind (toInt64S_ev l[i] (hx _ (List.getElem_mem hil))) ?_
    exact ih (i + 1) _ (by omega) (by omega) (by simp [hx']) (take_set x l i hx' hil ht)
theorem toInt64SS_ev (l : List (List Int)) (hl : l.length ≤ 11728124029610) (hx : ∀ x ∈ l, x.length ≤ 35184372088832) : Ev (fun k => laws_toInt64SS.f k l) l := by
  unfold laws_toInt64SS.f
  simp only [show (0 : Int) ≤ (l.length : Int) by omega, if_true, Int.toNat_natCast, hl]
  exact toInt64SS_l0 l hl hx l.length 0 _ (by omega) (by omega) (by simp) (by simp)
theorem toGraph_ev (a : Int) (l : List (List Int)) (hl : l.length ≤ 11728124029610) (hx : ∀ x ∈ l, x.length ≤ 35184372088832) : Ev (fun k => laws_toGraph.f k a l) (a, l) := by
  unfold laws_toGraph.f
  exact Ev.bind (toInt64SS_ev l hl hx) (Ev.now _)

theorem szInt64SS_l0 (l : List (List Int)) (hl : l.length ≤ maxLen) (hx : ∀ x ∈ l, x.length ≤ maxLen) : ∀ (d i : Nat) (a : Int), l.length - i = d → i ≤ l.length → 0 ≤ a → a ≤ 1048576 → ∃ r, Ev (fun k => laws_szInt64SS.l0 k l a i) r ∧ r ≤ 1048576 ∧ -1 ≤ r ∧ (0 ≤ r → ∀ x ∈ l.drop i, x.length ≤ 1048576) := by
  unfold maxLen at hl hx
  intro d
  induction d with
  | zero =>
    intro i a hd hi h0 h1
    refine ⟨a, Ev.step (fun k => by simp only [laws_szInt64SS.l0]; rfl) ?_, h1, by omega, fun _ x hx => ?_⟩
    · simp only [show ¬ ((i : Int) < (l.length : Int)) by omega, if_false]
      exact Ev.now _
    · rw [List.drop_of_length_le (by omega)] at hx; simp at hx
  | succ d ih =>
    intro i a hd hi h0 h1
    have hil : i < l.length := by omega
    have hxl := hx _ (List.getElem_mem hil)
    have hs : laws_szInt64S.f l[i] a = some (if a - (l[i].length : Int) < 0 then -1 else a - (l[i].length : Int)) := by
      unfold laws_szInt64S.f
      rw [w64 (by omega) (by omega)]
      split <;> rfl
    by_cases hn : a - (l[i].length : Int) < 0
    · rw [if_pos hn] at hs
      refine ⟨-1, Ev.step (fun k => by simp only [laws_szInt64SS.l0]; rfl) ?_, by omega, by omega, fun h => by omega⟩
      simp only [show ((i : Int) < (l.length : Int)) by omega, show (0 : Int) ≤ (i : Int) by omega, if_true, rdL1_nat l i hil, hs, Option.bind_some]
      exact Ev.now _
    · rw [if_neg hn] at hs
      obtain ⟨r, hr, h2, h3, h4⟩ := ih (i + 1) (a - (l[i].length : Int)) (by omega) (by omega) (by omega) (by omega)
      refine ⟨r, Ev.step (fun k => by simp only [laws_szInt64SS.l0]; rfl) ?_, h2, h3, fun h x hx => ?_⟩
      · simp only [show ((i : Int) < (l.length : Int)) by omega, show (0 : Int) ≤ (i : Int) by omega, if_true, rdL1_nat l i hil, hs, Option.bind_some, hn, if_false, w64 (show -9223372036854775808 ≤ (i : Int) + 1 by omega) (by omega)]
        exact hr
      · rw [List.drop_eq_getElem_cons hil] at hx
        rcases List.mem_cons.1 hx with rfl | hx
        · omega
        · exact h4 h x hx
/-- The sizes that the law lets by. -/
theorem szInt64SS_ev (l : List (List Int)) (a : Int) (ha : 0 ≤ a) (ha1 : a ≤ 1048576) (hl : l.length ≤ maxLen) (hx : ∀ x ∈ l, x.length ≤ maxLen) : ∃ r, Ev (fun k => laws_szInt64SS.f k l a) r ∧ r ≤ 1048576 ∧ -1 ≤ r ∧ (0 ≤ r → l.length ≤ 1048576 ∧ ∀ x ∈ l, x.length ≤ 1048576) := by
  have hl' := hl
  unfold maxLen at hl'
  unfold laws_szInt64SS.f
  rw [w64 (by omega) (by omega)]
  by_cases hn : a - (l.length : Int) < 0
  · refine ⟨-1, ?_, by omega, by omega, fun h => by omega⟩
    simp only [hn, if_true]
    exact Ev.now _
  · obtain ⟨r, hr, h2, h3, h4⟩ := szInt64SS_l0 l hl hx l.length 0 (a - (l.length : Int)) (by omega) (by omega) (by omega) (by omega)
    refine ⟨r, ?_, h2, h3, fun h => ⟨by omega, by simpa using h4 h⟩⟩
    simp only [hn, if_false]
    exact hr
theorem szGraph_ev (s : Int) (l : List (List Int)) (a : Int) (ha : 0 ≤ a) (ha1 : a ≤ 1048576) (hl : l.length ≤ maxLen) (hx : ∀ x ∈ l, x.length ≤ maxLen) : ∃ r, Ev (fun k => laws_szGraph.f k s l a) r ∧ r ≤ 1048576 ∧ -1 ≤ r ∧ (0 ≤ r → l.length ≤ 1048576 ∧ ∀ x ∈ l, x.length ≤ 1048576) := by
  obtain ⟨r, hr, h2, h3, h4⟩ := szInt64SS_ev l a ha ha1 hl hx
  unfold laws_szGraph.f
  by_cases hn : r < 0
  · refine ⟨-1, Ev.bind hr ?_, by omega, by omega, fun h => by omega⟩
    simp only [hn, if_true]
    exact Ev.now _
  · refine ⟨r, Ev.bind hr ?_, h2, h3, h4⟩
    simp only [hn, if_false]
    exact Ev.now _
/-- Equal lists are told equal. -/
theorem eqInt64S_l0 (l : List Int) (hl : l.length ≤ maxLen) : ∀ (d i : Nat), l.length - i = d → i ≤ l.length → Ev (fun k => laws_eqInt64S.l0 k l l i) true := by
  unfold maxLen at hl
  intro d
  induction d with
  | zero =>
    intro i hd hi
    refine Ev.step (fun k => by simp only [laws_eqInt64S.l0]; rfl) ?_
    simp only [show ¬ ((i : Int) < (l.length : Int)) by omega, if_false]
    exact Ev.now _
  | succ d ih =>
    intro i hd hi
    refine Ev.step (fun k => by simp only [laws_eqInt64S.l0]; rfl) ?_
    simp only [show ((i : Int) < (l.length : Int)) by omega, show (0 : Int) ≤ (i : Int) by omega, if_true, w64 (show -9223372036854775808 ≤ (i : Int) + 1 by omega) (by omega)]
    exact ih (i + 1) (by omega) (by omega)
theorem eqInt64S_ev (l : List Int) (hl : l.length ≤ maxLen) : Ev (fun k => laws_eqInt64S.f k l l) true := by
  unfold laws_eqInt64S.f
  simp only [if_true]
  exact eqInt64S_l0 l hl l.length 0 (by omega) (by omega)
theorem eqInt64SS_l0 (l : List (List Int)) (hl : l.length ≤ maxLen) (hx : ∀ x ∈ l, x.length ≤ maxLen) : ∀ (d i : Nat), l.length - i = d → i ≤ l.length → Ev (fun k => laws_eqInt64SS.l0 k l l i) true := by
  unfold maxLen at hl
  intro d
  induction d with
  | zero =>
    intro i hd hi
    refine Ev.step (fun k => by simp only [laws_eqInt64SS.l0]; rfl) ?_
    simp only [show ¬ ((i : Int) < (l.length : Int)) by omega, if_false]
    exact Ev.now _
  | succ d ih =>
    intro i hd hi
    have hil : i < l.length := by omega
    refine Ev.step (fun k => by simp only [laws_eqInt64SS.l0]; rfl) ?_
    simp only [show ((i : Int) < (l.length : Int)) by omega, show (0 : Int) ≤ (i : Int) by omega, if_true, w64 (show -9223372036854775808 ≤ (i : Int) + 1 by omega) (by omega), rdL1_nat l i hil]
    refine Ev.bind (eqInt64S_ev l[i] (hx _ (List.getElem_mem hil))) ?_
    simp only [if_true]
    exact ih (i + 1) (by omega) (by omega)
theorem eqInt64SS_ev (l : List (List Int)) (hl : l.length ≤ maxLen) (hx : ∀ x ∈ l, x.length ≤ maxLen) : Ev (fun k => laws_eqInt64SS.f k l l) true := by
  unfold laws_eqInt64SS.f
  simp only [if_true]
  exact eqInt64SS_l0 l hl hx l.length 0 (by omega) (by omega)
theorem eqGraph_ev (a : Int) (l : List (List Int)) (hl : l.length ≤ maxLen) (hx : ∀ x ∈ l, x.length ≤ maxLen) : Ev (fun k => laws_eqGraph.f k a l a l) true := by
  unfold laws_eqGraph.f
  simp only [if_true]
  refine Ev.bind (eqInt64SS_ev l hl hx) ?_
  simp only [if_true]
  exact Ev.now _
/-! ### what a graph is -/
def endIn (a n : Int) : Bool := decide (0 ≤ n) && decide (n ≤ wrap64 (a - 1))
def edgeIn (a : Int) (e : List Int) : Bool := decide (e.length = 2) && (endIn a (rd e 0) && endIn a (rd e 1))
def isG (a : Int) (l : List (List Int)) : Bool := decide (1 ≤ a) && (decide (a ≤ 8) && (decide (l.length ≤ 10) && l.all (edgeIn a)))
theorem within_eq (a b c : Int) : impl_within.f a b c = some (decide (b ≤ a) && decide (a ≤ c)) := by
  unfold impl_within.f
  by_cases h : b ≤ a <;> simp [h]
theorem l01In_eq (a b c : Int) : spec_l01In.f a b c = some (decide (b ≤ a) && decide (a ≤ c)) := by
  unfold spec_l01In.f
  by_cases h : b ≤ a <;> simp [h]
theorem impl_IsGraph_l0 (a : Int) (l : List (List Int)) (hl : l.length ≤ maxLen) : ∀ (d i : Nat), l.length - i = d → i ≤ l.length → Ev (fun k => impl_IsGraph.l0 k l l.length i a l) ((l.drop i).all (edgeIn a) && (decide (1 ≤ a) && (decide (a ≤ 8) && decide (l.length ≤ 10)))) := by
  unfold maxLen at hl
  intro d
  induction d with
  | zero =>
    intro i hd hi
    refine Ev.step (fun k => by simp only [impl_IsGraph.l0]; rfl) ?_
    simp only [show ¬ ((i : Int) < (l.length : Int)) by omega, if_false, within_eq, Option.bind_some, List.drop_of_length_le (show l.length ≤ i by omega), List.all_nil, Bool.true_and]
    by_cases h1 : 1 ≤ a
    · by_cases h2 : a ≤ 8
      · simp only [h1, h2, decide_true, Bool.true_and, if_true]
        exact Ev.congr (fun k => by congr 1; simp; omega) (Ev.now _)
      · simp only [h1, h2, decide_true, decide_false, Bool.true_and, Bool.false_and, Bool.false_eq_true, if_false]
        exact Ev.now _
    · simp only [h1, decide_false, Bool.false_and, Bool.false_eq_true, if_false]
      exact Ev.now _
  | succ d ih =>
    intro i hd hi
    have hil : i < l.length := by omega
    refine Ev.step (fun k => by simp only [impl_IsGraph.l0]; rfl) ?_
    have hdrop : (l.drop i).all (edgeIn a) = (edgeIn a l[i] && (l.drop (i + 1)).all (edgeIn a)) := by rw [List.drop_eq_getElem_cons hil, List.all_cons]
    rw [hdrop]
    simp only [show ((i : Int) < (l.length : Int)) by omega, show (0 : Int) ≤ (i : Int) by omega, if_true, w64 (show -9223372036854775808 ≤ (i : Int) + 1 by omega) (by omega), rdL1_nat l i hil, within_eq, Option.bind_some]
    unfold edgeIn endIn
    by_cases h2 : l[i].length = 2
    · simp only [h2, decide_true, Bool.true_and, show ((2 : Nat) : Int) = 2 from rfl, if_true, show (0 : Int) < 2 by omega, show (1 : Int) < 2 by omega]
      by_cases h3 : (decide (0 ≤ rd l[i] 0) && decide (rd l[i] 0 ≤ wrap64 (a - 1))) = true
      · by_cases h4 : (decide (0 ≤ rd l[i] 1) && decide (rd l[i] 1 ≤ wrap64 (a - 1))) = true
        · simp only [h3, h4, if_true, Bool.true_and]
          exact ih (i + 1) (by omega) (by omega)
        · simp only [Bool.not_eq_true] at h4
          simp only [h3, h4, if_true, Bool.false_and, Bool.and_false, Bool.false_eq_true, if_false]
          exact Ev.now _
      · simp only [Bool.not_eq_true] at h3
        simp only [h3, Bool.false_and, Bool.false_eq_true, if_false]
        exact Ev.now _
    · simp only [show ¬ ((l[i].length : Int) = 2) by omega, h2, decide_false, Bool.false_and, if_false]
      exact Ev.now _
theorem impl_IsGraph_ev (a : Int) (l : List (List Int)) (hl : l.length ≤ maxLen) : Ev (fun k => impl_IsGraph.f k a l) (isG a l) := by
  unfold impl_IsGraph.f
  have h := impl_IsGraph_l0 a l hl l.length 0 (by omega) (by omega)
  have e : ((l.drop 0).all (edgeIn a) && (decide (1 ≤ a) && (decide (a ≤ 8) && decide (l.length ≤ 10)))) = isG a l := by
    unfold isG
    rw [List.drop_zero]
    cases l.all (edgeIn a) <;> simp
  rw [e] at h
  exact h
theorem spec_l01Is_l0 (a : Int) (l : List (List Int)) (hl : l.length ≤ maxLen) : ∀ (d i : Nat), l.length - i = d → i ≤ l.length → Ev (fun k => spec_l01Is.l0 k i a l) ((l.drop i).all (edgeIn a)) := by
  unfold maxLen at hl
  intro d
  induction d with
  | zero =>
    intro i hd hi
    refine Ev.step (fun k => by simp only [spec_l01Is.l0]; rfl) ?_
    simp only [show ¬ ((i : Int) < (l.length : Int)) by omega, if_false, List.drop_of_length_le (show l.length ≤ i by omega), List.all_nil]
    exact Ev.now _
  | succ d ih =>
    intro i hd hi
    have hil : i < l.length := by omega
    refine Ev.step (fun k => by simp only [spec_l01Is.l0]; rfl) ?_
    have hdrop : (l.drop i).all (edgeIn a) = (edgeIn a l[i] && (l.drop (i + 1)).all (edgeIn a)) := by rw [List.drop_eq_getElem_cons hil, List.all_cons]
    rw [hdrop]
    simp only [show ((i : Int) < (l.length : Int)) by omega, show (0 : Int) ≤ (i : Int) by omega, if_true, w64 (show -9223372036854775808 ≤ (i : Int) + 1 by omega) (by omega), rdL1_nat l i hil, l01In_eq, Option.bind_some]
    unfold edgeIn endIn
    by_cases h2 : l[i].length = 2
    · simp only [h2, decide_true, Bool.true_and, show ((2 : Nat) : Int) = 2 from rfl, if_true, show (0 : Int) < 2 by omega, show (1 : Int) < 2 by omega]
      by_cases h3 : (decide (0 ≤ rd l[i] 0) && decide (rd l[i] 0 ≤ wrap64 (a - 1))) = true
      · by_cases h4 : (decide (0 ≤ rd l[i] 1) && decide (rd l[i] 1 ≤ wrap64 (a - 1))) = true
        · simp only [h3, h4, if_true, Bool.true_and]
          exact ih (i + 1) (by omega) (by omega)
        · simp only [Bool.not_eq_true] at h4
          simp only [h3, h4, if_true, Bool.false_and, Bool.and_false, Bool.false_eq_true, if_false]
          exact Ev.now _
      · simp only [Bool.not_eq_true] at h3
        simp only [h3, Bool.false_and, Bool.false_eq_true, if_false]
        exact Ev.now _
    · simp only [show ¬ ((l[i].length : Int) = 2) by omega, h2, decide_false, Bool.false_and, if_false]
      exact Ev.now _
theorem spec_l01Is_ev (a : Int) (l : List (List Int)) (hl : l.length ≤ maxLen) : Ev (fun k => spec_l01Is.f k a l) (isG a l) := by
  unfold spec_l01Is.f isG
  simp only [l01In_eq, Option.bind_some]
  have hj : ∀ b, Ev (fun k => spec_l01Is.j0 k b a l) (!b && l.all (edgeIn a)) := by
    intro b
    refine Ev.step (fun k => by simp only [spec_l01Is.j0]; rfl) ?_
    cases b with
    | true => simp only [if_true, Bool.not_true, Bool.false_and]; exact Ev.now _
    | false =>
      simp only [Bool.false_eq_true, if_false, Bool.not_false, Bool.true_and]
      exact spec_l01Is_l0 a l hl l.length 0 (by omega) (by omega)
  by_cases h1 : 1 ≤ a
  · by_cases h2 : a ≤ 8
    · simp only [h1, h2, decide_true, Bool.true_and, if_true]
      have h := hj (decide ((l.length : Int) > 10))
      have e : (!decide ((l.length : Int) > 10)) = decide (l.length ≤ 10) := by
        by_cases h : l.length ≤ 10
        · simp [h]; omega
        · simp [h]; omega
      rw [e] at h
      exact h
    · simp only [h1, h2, decide_true, decide_false, Bool.true_and, Bool.false_and, Bool.false_eq_true, if_false]
      exact hj true
  · simp only [h1, decide_false, Bool.false_and, Bool.false_eq_true, if_false]
    exact hj true
def mkS : Nat → Int → List Int
  | 0, _ => []
  | n + 1, a => a :: mkS n (a + 1)
theorem mkS_length (n : Nat) (a : Int) : (mkS n a).length = n := by
  induction n generalizing a with
  | zero => rfl
  | succ n ih => simp [mkS, ih]
theorem markInt64S_l0 : ∀ (d i : Nat) (a : Int) (x : List Int), x.length - i = d → i ≤ x.length → x.length ≤ 1048576 → 0 ≤ a → a + d ≤ 4611686018427387904 → Ev (fun k => laws_markInt64S.l0 k x a i) (a + d, x.take i ++ mkS d a) := by
  intro d
  induction d with
  | zero =>
    intro i a x hd hi hl h0 h1
    refine Ev.step (fun k => by simp only [laws_markInt64S.l0]; rfl) ?_
    simp only [show ¬ ((i : Int) < (x.length : Int)) by omega, if_false, mkS, List.append_nil, List.take_of_length_le (show x.length ≤ i by omega), show a + ((0 : Nat) : Int) = a by omega]
    exact Ev.now _
  | succ d ih =>
    intro i a x hd hi hl h0 h1
    refine Ev.step (fun k => by simp only [laws_markInt64S.l0]; rfl) ?_
    simp only [show ((i : Int) < (x.length : Int)) by omega, show (0 : Int) ≤ (i : Int) by omega, if_true, w64 (show -9223372036854775808 ≤ (i : Int) + 1 by omega) (by omega), w64 (show -9223372036854775808 ≤ a + 1 by omega) (by omega), Int.toNat_natCast]
    have h := ih (i + 1) (a + 1) (x.set i a) (by simp; omega) (by simp; omega) (by simp; omega) (by omega) (by omega)
    have e1 : (x.set i a).take (i + 1) ++ mkS d (a + 1) = x.take i ++ mkS (d + 1) a := by
      rw [List.take_succ_eq_append_getElem (by simp; omega), List.getElem_set_self, List.take_set_of_le (Nat.le_refl _), mkS, List.append_assoc]
      rfl
    have e2 : a + 1 + (d : Int) = a + ((d + 1 : Nat) : Int) := by omega
    rw [e1, e2] at h
    exact h
theorem markInt64S_ev (x : List Int) (a : Int) (hl : x.length ≤ 1048576) (h0 : 0 ≤ a) (h1 : a + x.length ≤ 4611686018427387904) : Ev (fun k => laws_markInt64S.f k x a) (a + x.length, mkS x.length a) := by
  have h := markInt64S_l0 x.length 0 a x (by omega) (by omega) hl h0 h1
  unfold laws_markInt64S.f
  simpa using h
theorem heldInt64S_l0 (x : List Int) (hl : x.length ≤ 1048576) : ∀ (d i : Nat) (a : Int), x.length - i = d → i ≤ x.length → x.drop i = mkS d a → 0 ≤ a → a + d ≤ 4611686018427387904 → Ev (fun k => laws_heldInt64S.l0 k x a i) (a + d) := by
  intro d
  induction d with
  | zero =>
    intro i a hd hi hx h0 h1
    refine Ev.step (fun k => by simp only [laws_heldInt64S.l0]; rfl) ?_
    simp only [show ¬ ((i : Int) < (x.length : Int)) by omega, if_false, show a + ((0 : Nat) : Int) = a by omega]
    exact Ev.now _
  | succ d ih =>
    intro i a hd hi hx h0 h1
    have hil : i < x.length := by omega
    rw [List.drop_eq_getElem_cons hil, mkS] at hx
    injection hx with hx1 hx2
    refine Ev.step (fun k => by simp only [laws_heldInt64S.l0]; rfl) ?_
    simp only [show ((i : Int) < (x.length : Int)) by omega, show (0 : Int) ≤ (i : Int) by omega, if_true, rd_nat x i hil, hx1, w64 (show -9223372036854775808 ≤ (i : Int) + 1 by omega) (by omega), w64 (show -9223372036854775808 ≤ a + 1 by omega) (by omega)]
    have h := ih (i + 1) (a + 1) (by omega) (by omega) hx2 (by omega) (by omega)
    have e2 : a + 1 + (d : Int) = a + ((d + 1 : Nat) : Int) := by omega
    rw [e2] at h
    exact h
theorem heldInt64S_ev (n : Nat) (a : Int) (hl : n ≤ 1048576) (h0 : 0 ≤ a) (h1 : a + n ≤ 4611686018427387904) : Ev (fun k => laws_heldInt64S.f k (mkS n a) a) (a + n) :=
  heldInt64S_l0 (mkS n a) (by rw [mkS_length]; exact hl) n 0 a (by rw [mkS_length]; rfl) (by omega) (by simp) h0 h1
def tot : List (List Int) → Nat
  | [] => 0
  | x :: xs => x.length + tot xs
def mkSS : List (List Int) → Int → List (List Int)
  | [], _ => []
  | x :: xs, a => mkS x.length a :: mkSS xs (a + x.length)
theorem mkSS_length (xs : List (List Int)) (a : Int) : (mkSS xs a).length = xs.length := by
  induction xs generalizing a with
  | nil => rfl
  | cons x xs ih => simp [mkSS, ih]
theorem tot_le (xs : List (List Int)) (m : Nat) (h : ∀ x ∈ xs, x.length ≤ m) : tot xs ≤ xs.length * m := by
  induction xs with
  | nil => simp [tot]
  | cons x xs ih =>
    have h1 := h x List.mem_cons_self
    have h2 := ih (fun y hy => h y (List.mem_cons_of_mem _ hy))
    simp only [tot, List.length_cons, Nat.succ_mul]
    omega
theorem tot_small (xs : List (List Int)) (hl : xs.length ≤ 1048576) (h : ∀ x ∈ xs, x.length ≤ 1048576) : tot xs ≤ 1099511627776 := by
  have h1 := tot_le xs 1048576 h
  have h2 := Nat.mul_le_mul_right 1048576 hl
  omega
theorem markInt64SS_l0 : ∀ (d i : Nat) (a : Int) (x : List (List Int)), x.length - i = d → i ≤ x.length → x.length ≤ 1048576 → (∀ y ∈ x.drop i, y.length ≤ 1048576) → 0 ≤ a → a + tot (x.drop i) ≤ 4611686018427387904 → Ev (fun k => laws_markInt64SS.l0 k x a i) (a + tot (x.drop i), x.take i ++ mkSS (x.drop i) a) := by
  intro d
  induction d with
  | zero =>
    intro i a x hd hi hl hx h0 h1
    refine Ev.step (fun k => by simp only [laws_markInt64SS.l0]; rfl) ?_
    simp only [show ¬ ((i : Int) < (x.length : Int)) by omega, if_false, List.drop_of_length_le (show x.length ≤ i by omega), mkSS, tot, List.append_nil, List.take_of_length_le (show x.length ≤ i by omega), show a + ((0 : Nat) : Int) = a by omega]
    exact Ev.now _
  | succ d ih =>
    intro i a x hd hi hl hx h0 h1
    have hil : i < x.length := by omega
    rw [List.drop_eq_getElem_cons hil] at hx h1 ⊢
    simp only [tot] at h1 ⊢
    have hxi := hx _ List.mem_cons_self
    refine Ev.step (fun k => by simp only [laws_markInt64SS.l0]; rfl) ?_
    have hrd : rdL x (i : Int) = x[i] := by simp [rdL, List.getD_eq_getElem?_getD, hil]
    simp only [show ((i : Int) < (x.length : Int)) by omega, show (0 : Int) ≤ (i : Int) by omega, if_true, w64 (show -9223372036854775808 ≤ (i : Int) + 1 by omega) (by omega), Int.toNat_natCast, hrd]
    refine Ev.bind (markInt64S_ev x[i] a hxi h0 (by omega)) ?_
    have hdrop : (x.set i (mkS x[i].length a)).drop (i + 1) = x.drop (i + 1) := by rw [List.drop_set_of_lt (by omega)]
    have h := ih (i + 1) (a + x[i].length) (x.set i (mkS x[i].length a)) (by simp; omega) (by simp; omega) (by simp; omega) (by rw [hdrop]; exact fun y hy => hx y (List.mem_cons_of_mem _ hy)) (by omega) (by rw [hdrop]; omega)
    rw [hdrop] at h
    have e1 : (x.set i (mkS x[i].length a)).take (i + 1) ++ mkSS (x.drop (i + 1)) (a + x[i].length) = x.take i ++ mkSS (x[i] :: x.drop (i + 1)) a := by
      rw [List.take_succ_eq_append_getElem (by simp; omega), List.getElem_set_self, List.take_set_of_le (Nat.le_refl _), mkSS, List.append_assoc]
      rfl
    have e2 : a + (x[i].length : Int) + ((tot (x.drop (i + 1)) : Nat) : Int) = a + ((x[i].length + tot (x.drop (i + 1)) : Nat) : Int) := by omega
    rw [e1, e2] at h
    exact h
theorem markInt64SS_ev (x : List (List Int)) (a : Int) (hl : x.length ≤ 1048576) (hx : ∀ y ∈ x, y.length ≤ 1048576) (h0 : 0 ≤ a) (h1 : a + tot x ≤ 4611686018427387904) : Ev (fun k => laws_markInt64SS.f k x a) (a + tot x, mkSS x a) := by
  have h := markInt64SS_l0 x.length 0 a x (by omega) (by omega) hl (by simpa using hx) h0 (by simpa using h1)
  unfold laws_markInt64SS.f
  simpa using h
theorem heldInt64SS_l0 (X : List (List Int)) (hl : X.length ≤ 1048576) : ∀ (ys : List (List Int)) (i : Nat) (a : Int), X.length - i = ys.length → i ≤ X.length → X.drop i = mkSS ys a → (∀ y ∈ ys, y.length ≤ 1048576) → 0 ≤ a → a + tot ys ≤ 4611686018427387904 → Ev (fun k => laws_heldInt64SS.l0 k X a i) (a + tot ys) := by
  intro ys
  induction ys with
  | nil =>
    intro i a hd hi hx hy h0 h1
    refine Ev.step (fun k => by simp only [laws_heldInt64SS.l0]; rfl) ?_
    simp only [List.length_nil] at hd
    simp only [show ¬ ((i : Int) < (X.length : Int)) by omega, if_false, tot, show a + ((0 : Nat) : Int) = a by omega]
    exact Ev.now _
  | cons y ys ih =>
    intro i a hd hi hx hy h0 h1
    simp only [List.length_cons] at hd
    have hil : i < X.length := by omega
    rw [List.drop_eq_getElem_cons hil, mkSS] at hx
    injection hx with hx1 hx2
    simp only [tot] at h1 ⊢
    have hyl := hy _ List.mem_cons_self
    refine Ev.step (fun k => by simp only [laws_heldInt64SS.l0]; rfl) ?_
    simp only [show ((i : Int) < (X.length : Int)) by omega, show (0 : Int) ≤ (i : Int) by omega, if_true, rdL1_nat X i hil, hx1, w64 (show -9223372036854775808 ≤ (i : Int) + 1 by omega) (by omega)]
    refine Ev.bind (heldInt64S_ev y.length a hyl h0 (by omega)) ?_
    simp only [show ¬ (a + (y.length : Int) < 0) by omega, if_false]
    have h := ih (i + 1) (a + y.length) (by omega) (by omega) hx2 (fun z hz => hy z (List.mem_cons_of_mem _ hz)) (by omega) (by omega)
    have e2 : a + (y.length : Int) + ((tot ys : Nat) : Int) = a + ((y.length + tot ys : Nat) : Int) := by omega
    rw [e2] at h
    exact h
theorem heldInt64SS_ev (x : List (List Int)) (a : Int) (hl : x.length ≤ 1048576) (hx : ∀ y ∈ x, y.length ≤ 1048576) (h0 : 0 ≤ a) (h1 : a + tot x ≤ 4611686018427387904) : Ev (fun k => laws_heldInt64SS.f k (mkSS x a) a) (a + tot x) :=
  heldInt64SS_l0 (mkSS x a) (by rw [mkSS_length]; exact hl) x 0 a (by rw [mkSS_length]; rfl) (by omega) (by simp) hx h0 h1
theorem heldGraph_ev (s : Int) (x : List (List Int)) (a : Int) (hl : x.length ≤ 1048576) (hx : ∀ y ∈ x, y.length ≤ 1048576) (h0 : 0 ≤ a) (h1 : a + tot x ≤ 4611686018427387904) : Ev (fun k => laws_heldGraph.f k s (mkSS x a) a) (a + tot x) := by
  unfold laws_heldGraph.f
  refine Ev.bind (heldInt64SS_ev x a hl hx h0 h1) ?_
  simp only [show ¬ (a + (tot x : Int) < 0) by omega, if_false]
  exact Ev.now _
def two (l : List (List Int)) : Prop := ∀ x ∈ l, x.length = 2
theorem isG_two {a : Int} {l : List (List Int)} (h : isG a l = true) : two l := by
  intro x hx
  simp only [isG, Bool.and_eq_true, List.all_eq_true] at h
  have := h.2.2.2 x hx
  simp only [edgeIn, Bool.and_eq_true, decide_eq_true_eq] at this
  exact this.1
theorem isG_len {a : Int} {l : List (List Int)} (h : isG a l = true) : l.length ≤ 10 := by
  simp only [isG, Bool.and_eq_true, decide_eq_true_eq] at h
  exact h.2.2.1
theorem isG_size {a : Int} {l : List (List Int)} (h : isG a l = true) : 1 ≤ a ∧ a ≤ 8 := by
  simp only [isG, Bool.and_eq_true, decide_eq_true_eq] at h
  exact ⟨h.1, h.2.1⟩
theorem isG_edge {a : Int} {l : List (List Int)} (h : isG a l = true) {x : List Int} (hx : x ∈ l) : (0 ≤ rd x 0 ∧ rd x 0 ≤ a - 1) ∧ (0 ≤ rd x 1 ∧ rd x 1 ≤ a - 1) := by
  have hs := isG_size h
  simp only [isG, Bool.and_eq_true, List.all_eq_true] at h
  have := h.2.2.2 x hx
  simp only [edgeIn, endIn, Bool.and_eq_true, decide_eq_true_eq] at this
  rw [w64 (by omega) (by omega)] at this
  exact this.2
theorem clone_ev (l : List Int) (h : l.length ≤ 1048576) : slices_Clone_int64_int64.f l = some l := by
  unfold slices_Clone_int64_int64.f
  rw [if_pos (by omega)]
theorem l01Own_eq (l : List Int) (h : l.length ≤ 1048576) : spec_l01Own.f l = some l := by
  unfold spec_l01Own.f
  simp only [Option.bind_some, List.length_nil, List.nil_append]
  rw [if_pos (by omega)]
theorem two_len {l : List (List Int)} (h2 : two l) (i : Nat) (h : i < l.length) : l[i].length = 2 := h2 _ (List.getElem_mem h)
theorem own_l0 (a : Int) (l : List (List Int)) (hl : l.length ≤ 1048576) (hx : ∀ x ∈ l, x.length ≤ 1048576) : ∀ (d i : Nat), l.length - i = d → i ≤ l.length → Ev (fun k => impl_Graph_own.l0 k l (l.length : Int) i a (l.take i)) (a, l) := by
  intro d
  induction d with
  | zero =>
    intro i hd hi
    obtain rfl : i = l.length := by omega
    refine Ev.step (fun k => by simp only [impl_Graph_own.l0]; rfl) ?_
    simp only [Int.lt_irrefl, if_false, List.take_length]
    exact Ev.now _
  | succ d ih =>
    intro i hd hi
    have hil : i < l.length := by omega
    refine Ev.step (fun k => by simp only [impl_Graph_own.l0]; rfl) ?_
    have h := ih (i + 1) (by omega) (by omega)
    rw [List.take_succ_eq_append_getElem hil] at h
    simp only [show ((i : Int) < (l.length : Int)) by omega, show (0 : Int) ≤ (i : Int) by omega, if_true, rdL1_nat l i hil, clone_ev _ (hx _ (List.getElem_mem hil)), Option.bind_some, show (l.take i).length < 5864062014805 by (rw [List.length_take]; omega), w64 (show -9223372036854775808 ≤ (i : Int) + 1 by omega) (by omega)]
    exact h
theorem own_ev (a : Int) (l : List (List Int)) (hl : l.length ≤ 1048576) (hx : ∀ x ∈ l, x.length ≤ 1048576) : Ev (fun k => impl_Graph_own.f k a l) (a, l) := own_l0 a l hl hx l.length 0 (by omega) (by omega)
theorem deleted_ev (a : Int) (l : List (List Int)) (hl : l.length ≤ 1048576) (hx : ∀ x ∈ l, x.length ≤ 1048576) (e : Nat) (he : e < l.length) : Ev (fun k => impl_Graph_deleted.f k a l e) (a, l.eraseIdx e) := by
  unfold impl_Graph_deleted.f
  refine Ev.bind (own_ev a l hl hx) ?_
  simp only [show (0 : Int) ≤ (e : Int) by omega, show ((e : Int) < (l.length : Int)) by omega, if_true, Int.toNat_natCast]
  exact Ev.now _
theorem isG_small {a : Int} {l : List (List Int)} (h : isG a l = true) : l.length ≤ 1048576 ∧ ∀ x ∈ l, x.length ≤ 1048576 :=
  ⟨by have := isG_len h; omega, fun x hx => by have := isG_two h x hx; omega⟩
/-- The two ends of edge i of a graph, as numbers below n. -/
def endsIn (n : Nat) (l : List (List Int)) : Prop := ∀ i, i < l.length → (rd_L1 l (i : Int)).length = 2 ∧ ∃ u v : Nat, rd (rd_L1 l (i : Int)) 0 = u ∧ rd (rd_L1 l (i : Int)) 1 = v ∧ u < n ∧ v < n
theorem isG_ends {a : Int} {l : List (List Int)} (h : isG a l = true) : ∃ n : Nat, a = n ∧ 1 ≤ n ∧ n ≤ 8 ∧ endsIn n l := by
  have hs := isG_size h
  refine ⟨a.toNat, by omega, by omega, by omega, fun i hi => ?_⟩
  have hm : l[i] ∈ l := List.getElem_mem hi
  rw [rdL1_nat l i hi]
  have he := isG_edge h hm
  exact ⟨isG_two h _ hm, (rd l[i] 0).toNat, (rd l[i] 1).toNat, by omega, by omega, by omega, by omega⟩
/-- How often v is an end of the first i edges. -/
def degN (l : List (List Int)) : Nat → Nat → Nat
  | 0, _ => 0
  | i + 1, v => degN l i v + (if rd (rd_L1 l (i : Int)) 0 = (v : Int) then 1 else 0) + (if rd (rd_L1 l (i : Int)) 1 = (v : Int) then 1 else 0)
theorem degN_le (l : List (List Int)) (i v : Nat) : degN l i v ≤ 2 * i := by
  induction i with
  | zero => simp [degN]
  | succ i ih =>
    unfold degN
    have h1 : (if rd (rd_L1 l (i : Int)) 0 = (v : Int) then 1 else 0) ≤ 1 := by split <;> omega
    have h2 : (if rd (rd_L1 l (i : Int)) 1 = (v : Int) then 1 else 0) ≤ 1 := by split <;> omega
    omega
theorem l01Degree_l0 (a : Int) (l : List (List Int)) (hl : l.length ≤ 1048576) (h2 : two l) (v : Nat) : ∀ (d i : Nat), l.length - i = d → i ≤ l.length → Ev (fun k => spec_l01Degree.l0 k v (degN l i v : Int) i a l) (degN l l.length v : Int) := by
  intro d
  induction d with
  | zero =>
    intro i hd hi
    obtain rfl : i = l.length := by omega
    refine Ev.step (fun k => by simp only [spec_l01Degree.l0]; rfl) ?_
    simp only [Int.lt_irrefl, if_false]
    exact Ev.now _
  | succ d ih =>
    intro i hd hi
    have hil : i < l.length := by omega
    have hx : (rd_L1 l (i : Int)).length = 2 := by rw [rdL1_nat l i hil]; exact h2 _ (List.getElem_mem hil)
    have hdn := degN_le l i v
    have h := ih (i + 1) (by omega) (by omega)
    have hend : ∀ z : Nat, z ≤ 2 * i + 2 → z = degN l (i + 1) v → Ev (fun k => spec_l01Degree.l1 k v (z : Int) i 2 a l) (degN l l.length v : Int) := by
      intro z hz1 hz
      refine Ev.step (fun k => by simp only [spec_l01Degree.l1]; rfl) ?_
      simp only [Int.lt_irrefl, if_false, w64 (show -9223372036854775808 ≤ (i : Int) + 1 by omega) (by omega)]
      rw [hz]
      exact h
    have hone : ∀ z : Nat, z ≤ 2 * i + 1 → z = degN l i v + (if rd (rd_L1 l (i : Int)) 0 = (v : Int) then 1 else 0) → Ev (fun k => spec_l01Degree.l1 k v (z : Int) i 1 a l) (degN l l.length v : Int) := by
      intro z hz1 hz
      refine Ev.step (fun k => by simp only [spec_l01Degree.l1]; rfl) ?_
      simp only [show ((1 : Int) < 2) by omega, show ((0 : Int) ≤ 1) by omega, show (0 : Int) ≤ (i : Int) by omega, show ((i : Int) < (l.length : Int)) by omega, hx, show ((1 : Int) < ((2 : Nat) : Int)) by omega, if_true, w64 (show -9223372036854775808 ≤ (1 : Int) + 1 by omega) (by omega)]
      by_cases hc : rd (rd_L1 l (i : Int)) 1 = (v : Int)
      · simp only [hc, if_true, w64 (show -9223372036854775808 ≤ (z : Int) + 1 by omega) (by omega)]
        have := hend (z + 1) (by omega) (by unfold degN; rw [if_pos hc, ← hz])
        simpa using this
      · simp only [hc, if_false]
        have := hend z (by omega) (by unfold degN; rw [if_neg hc, ← hz]; rfl)
        simpa using this
    refine Ev.step (fun k => by simp only [spec_l01Degree.l0]; rfl) ?_
    simp only [show ((i : Int) < (l.length : Int)) by omega, if_true]
    refine Ev.step (fun k => by simp only [spec_l01Degree.l1]; rfl) ?_
    simp only [show ((0 : Int) < 2) by omega, show (0 : Int) ≤ (i : Int) by omega, show ((i : Int) < (l.length : Int)) by omega, hx, show ((0 : Int) ≤ 0) by omega, show ((0 : Int) < ((2 : Nat) : Int)) by omega, if_true, w64 (show -9223372036854775808 ≤ (0 : Int) + 1 by omega) (by omega)]
    by_cases hc : rd (rd_L1 l (i : Int)) 0 = (v : Int)
    · simp only [hc, if_true, w64 (show -9223372036854775808 ≤ ((degN l i v : Nat) : Int) + 1 by omega) (by omega)]
      have := hone (degN l i v + 1) (by omega) (by rw [if_pos hc])
      simpa using this
    · simp only [hc, if_false]
      have := hone (degN l i v) (by omega) (by rw [if_neg hc]; rfl)
      simpa using this
theorem l01Degree_ev (a : Int) (l : List (List Int)) (hl : l.length ≤ 1048576) (h2 : two l) (v : Nat) : Ev (fun k => spec_l01Degree.f k a l v) (degN l l.length v : Int) :=
  l01Degree_l0 a l hl h2 v l.length 0 (by omega) (by omega)
/-- The list of the degrees, of the first i edges. -/
def degL (n : Nat) (l : List (List Int)) (i : Nat) : List Int := (List.range n).map fun v => (degN l i v : Int)
theorem degL_length (n : Nat) (l : List (List Int)) (i : Nat) : (degL n l i).length = n := by simp [degL]
theorem degL_rd (n : Nat) (l : List (List Int)) (i v : Nat) (h : v < n) : rd (degL n l i) (v : Int) = (degN l i v : Int) := by
  rw [rd_nat _ _ (by rw [degL_length]; exact h)]
  simp [degL]
/-- One more at u. -/
theorem bump_rd (x : List Int) (u w : Nat) (hw : w < x.length) (y : Int) : rd (x.set u y) (w : Int) = if u = w then y else rd x (w : Int) := by
  rw [rd_nat _ _ (by rw [List.length_set]; exact hw), rd_nat _ _ hw, List.getElem_set]
theorem degL_step (n : Nat) (l : List (List Int)) (hl : l.length ≤ 1048576) (i u v : Nat) (hi : i < l.length) (hu : rd (rd_L1 l (i : Int)) 0 = u) (hv : rd (rd_L1 l (i : Int)) 1 = v) (hun : u < n) (hvn : v < n) :
    ((degL n l i).set u (wrap64 (rd (degL n l i) u + 1))).set v (wrap64 (rd ((degL n l i).set u (wrap64 (rd (degL n l i) u + 1))) v + 1)) = degL n l (i + 1) := by
  have hd := fun w => degN_le l i w
  rw [bump_rd _ _ _ (by rw [degL_length]; exact hvn), degL_rd n l i u hun, degL_rd n l i v hvn]
  have e1 : wrap64 ((degN l i u : Nat) + 1 : Int) = (degN l i u : Int) + 1 := w64 (by omega) (by have := hd u; omega)
  rw [e1]
  apply List.ext_getElem
  · simp [degL]
  · intro w h1 h2
    have hwn : w < n := by simpa [degL] using h2
    rw [List.getElem_set, List.getElem_set]
    have e2 : (degL n l i)[w]'(by rw [degL_length]; exact hwn) = (degN l i w : Int) := by simp [degL]
    have e3 : (degL n l (i + 1))[w]'h2 = (degN l (i + 1) w : Int) := by simp [degL]
    rw [e3, show degN l (i + 1) w = degN l i w + (if rd (rd_L1 l (i : Int)) 0 = (w : Int) then 1 else 0) + (if rd (rd_L1 l (i : Int)) 1 = (w : Int) then 1 else 0) from rfl, hu, hv]
    by_cases h3 : v = w
    · subst h3
      rw [if_pos rfl, if_pos rfl]
      by_cases h4 : u = v
      · subst h4
        simp only [if_true]
        rw [w64 (by omega) (by have := hd u; omega)]
        omega
      · simp only [h4, if_false, show ¬ ((u : Int) = (v : Int)) by omega]
        rw [w64 (by omega) (by have := hd v; omega)]
        omega
    · rw [if_neg h3, if_neg (show ¬ ((v : Int) = (w : Int)) by omega)]
      by_cases h4 : u = w
      · subst h4
        simp only [if_true]
        omega
      · simp only [h4, if_false, show ¬ ((u : Int) = (w : Int)) by omega, e2]
        omega
theorem degrees_l0 (n : Nat) (l : List (List Int)) (hl : l.length ≤ 1048576) (hE : endsIn n l) : ∀ (d i : Nat), l.length - i = d → i ≤ l.length → Ev (fun k => impl_Graph_degrees.l0 k (degL n l i) l (l.length : Int) i) (degL n l l.length) := by
  intro d
  induction d with
  | zero =>
    intro i hd hi
    obtain rfl : i = l.length := by omega
    refine Ev.step (fun k => by simp only [impl_Graph_degrees.l0]; rfl) ?_
    simp only [Int.lt_irrefl, if_false]
    exact Ev.now _
  | succ d ih =>
    intro i hd hi
    have hil : i < l.length := by omega
    obtain ⟨hx, u, v, hu, hv, hun, hvn⟩ := hE i hil
    have h := ih (i + 1) (by omega) (by omega)
    rw [← degL_step n l hl i u v hil hu hv hun hvn] at h
    refine Ev.step (fun k => by simp only [impl_Graph_degrees.l0]; rfl) ?_
    simp only [show ((i : Int) < (l.length : Int)) by omega, show (0 : Int) ≤ (i : Int) by omega, hx, hu, hv, degL_length, show ((0 : Int) < ((2 : Nat) : Int)) by omega, show ((1 : Int) < ((2 : Nat) : Int)) by omega, show (0 : Int) ≤ (u : Int) by omega, show (0 : Int) ≤ (v : Int) by omega, show ((u : Int) < (n : Int)) by omega, show ((v : Int) < (n : Int)) by omega, if_true, Option.bind_some, Int.toNat_natCast, w64 (show -9223372036854775808 ≤ (i : Int) + 1 by omega) (by omega)]
    exact h
theorem degrees_ev (n : Nat) (hn : n ≤ 1048576) (l : List (List Int)) (hl : l.length ≤ 1048576) (hE : endsIn n l) : Ev (fun k => impl_Graph_degrees.f k n l) (degL n l l.length) := by
  unfold impl_Graph_degrees.f
  simp only [show (0 : Int) ≤ (n : Int) by omega, Int.toNat_natCast, show n ≤ 35184372088832 by omega, if_true]
  have h := degrees_l0 n l hl hE l.length 0 (by omega) (by omega)
  have e : degL n l 0 = List.replicate n 0 := by
    apply List.ext_getElem
    · simp [degL]
    · intro w h1 h2; simp [degL, degN]
  rw [e] at h
  exact h
theorem index_l0 (l : List Int) (hl : l.length ≤ maxLen) (x : Int) : ∀ (d i : Nat), l.length - i = d → i ≤ l.length → ∃ r, Ev (fun k => slices_Index_int64_int64.l0 k l x (l.length : Int) i) r ∧ (0 ≤ r ↔ x ∈ l.drop i) := by
  unfold maxLen at hl
  intro d
  induction d with
  | zero =>
    intro i hd hi
    obtain rfl : i = l.length := by omega
    refine ⟨-1, Ev.step (fun k => by simp only [slices_Index_int64_int64.l0]; rfl) ?_, by simp⟩
    simp only [Int.lt_irrefl, if_false]
    exact Ev.now _
  | succ d ih =>
    intro i hd hi
    have hil : i < l.length := by omega
    rw [List.drop_eq_getElem_cons hil]
    by_cases hx : x = l[i]
    · refine ⟨(i : Int), Ev.step (fun k => by simp only [slices_Index_int64_int64.l0]; rfl) ?_, ⟨fun _ => List.mem_cons.2 (.inl hx), fun _ => by omega⟩⟩
      simp only [show ((i : Int) < (l.length : Int)) by omega, show (0 : Int) ≤ (i : Int) by omega, if_true, rd_nat l i hil, hx]
      exact Ev.now _
    · obtain ⟨r, h1, h2⟩ := ih (i + 1) (by omega) (by omega)
      refine ⟨r, Ev.step (fun k => by simp only [slices_Index_int64_int64.l0]; rfl) ?_, ⟨fun h => List.mem_cons.2 (.inr (h2.1 h)), fun h => h2.2 ((List.mem_cons.1 h).resolve_left hx)⟩⟩
      simp only [show ((i : Int) < (l.length : Int)) by omega, show (0 : Int) ≤ (i : Int) by omega, if_true, rd_nat l i hil, hx, if_false, w64 (show -9223372036854775808 ≤ (i : Int) + 1 by omega) (by omega)]
      exact h1
theorem contains_ev (l : List Int) (hl : l.length ≤ maxLen) (x : Int) : Ev (fun k => slices_Contains_int64_int64.f k l x) (decide (x ∈ l)) := by
  obtain ⟨r, h1, h2⟩ := index_l0 l hl x l.length 0 (by omega) (by omega)
  unfold slices_Contains_int64_int64.f
  refine Ev.bind h1 ?_
  rw [List.drop_zero] at h2
  rw [show decide (x ∈ l) = decide (r ≥ 0) from decide_eq_decide.2 h2.symm]
  exact Ev.now _
theorem l01Copy_l0 (a : Int) (l : List (List Int)) (hl : l.length ≤ 1048576) (hx : ∀ x ∈ l, x.length ≤ 1048576) : ∀ (d i : Nat), l.length - i = d → i ≤ l.length → Ev (fun k => spec_l01Copy.l0 k i a l a (l.take i)) (a, l) := by
  intro d
  induction d with
  | zero =>
    intro i hd hi
    obtain rfl : i = l.length := by omega
    refine Ev.step (fun k => by simp only [spec_l01Copy.l0]; rfl) ?_
    simp only [Int.lt_irrefl, if_false, List.take_length]
    exact Ev.now _
  | succ d ih =>
    intro i hd hi
    have hil : i < l.length := by omega
    refine Ev.step (fun k => by simp only [spec_l01Copy.l0]; rfl) ?_
    have h := ih (i + 1) (by omega) (by omega)
    rw [List.take_succ_eq_append_getElem hil] at h
    simp only [show ((i : Int) < (l.length : Int)) by omega, show (0 : Int) ≤ (i : Int) by omega, if_true, rdL1_nat l i hil, l01Own_eq _ (hx _ (List.getElem_mem hil)), Option.bind_some, show (l.take i).length < 5864062014805 by (rw [List.length_take]; omega), w64 (show -9223372036854775808 ≤ (i : Int) + 1 by omega) (by omega)]
    exact h
theorem l01Copy_ev (a : Int) (l : List (List Int)) (hl : l.length ≤ 1048576) (hx : ∀ x ∈ l, x.length ≤ 1048576) : Ev (fun k => spec_l01Copy.f k a l) (a, l) := l01Copy_l0 a l hl hx l.length 0 (by omega) (by omega)
/-- A list, each element of which is turned in place: the first j have been. -/
def mp {α : Type} (f : α → α) (l : List α) (j : Nat) : List α := (l.take j).map f ++ l.drop j
theorem mp_zero {α : Type} (f : α → α) (l : List α) : mp f l 0 = l := by simp [mp]
theorem mp_length {α : Type} (f : α → α) (l : List α) (j : Nat) : (mp f l j).length = l.length := by
  simp only [mp, List.length_append, List.length_map, List.length_take, List.length_drop]
  omega
theorem mp_full {α : Type} (f : α → α) (l : List α) {j : Nat} (h : l.length ≤ j) : mp f l j = l.map f := by
  simp [mp, List.take_of_length_le h, List.drop_of_length_le h]
theorem mp_at {α : Type} (f : α → α) (l : List α) {j : Nat} (h : j < l.length) : (mp f l j)[j]'(by rw [mp_length]; exact h) = l[j] := by
  have hl : ((l.take j).map f).length = j := by rw [List.length_map, List.length_take]; omega
  have e : (mp f l j)[j]? = some l[j] := by
    rw [mp, List.getElem?_append_right (by omega), hl, Nat.sub_self, List.getElem?_drop, Nat.add_zero, List.getElem?_eq_getElem h]
  rw [List.getElem?_eq_getElem (by rw [mp_length]; exact h)] at e
  exact Option.some.inj e
theorem mp_succ {α : Type} (f : α → α) (l : List α) {j : Nat} (h : j < l.length) : mp f l (j + 1) = (mp f l j).set j (f l[j]) := by
  have hl : ((l.take j).map f).length = j := by rw [List.length_map, List.length_take]; omega
  rw [mp, mp, List.set_append_right _ _ (by omega), hl, Nat.sub_self, List.drop_eq_getElem_cons h, List.set_cons_zero, List.take_succ_eq_append_getElem h, List.map_append, List.append_assoc]
  rfl
theorem mp_same {α : Type} (f : α → α) (l : List α) {j : Nat} (h : j < l.length) (e : f l[j] = l[j]) : mp f l (j + 1) = mp f l j := by
  rw [mp_succ f l h, e]
  have := mp_at f l h
  rw [← this]
  exact List.set_getElem_self _
theorem rd_mp (f : Int → Int) (r : List Int) {j : Nat} (h : j < r.length) : rd (mp f r j) (j : Int) = r[j] := by
  rw [rd_nat _ j (by rw [mp_length]; exact h), mp_at f r h]
theorem rdL1_mp (f : List Int → List Int) (l : List (List Int)) {i : Nat} (h : i < l.length) : rd_L1 (mp f l i) (i : Int) = l[i] := by
  rw [rdL1_nat _ i (by rw [mp_length]; exact h), mp_at f l h]
theorem rdL1_set (x : List (List Int)) (i : Nat) (y : List Int) (h : i < x.length) : rd_L1 (x.set i y) (i : Int) = y := by
  rw [rdL1_nat _ i (by rw [List.length_set]; exact h), List.getElem_set_self]
theorem set_own (x : List (List Int)) (i : Nat) (h : i < x.length) : x.set i x[i] = x := List.set_getElem_self _
theorem two_erase {l : List (List Int)} (h : two l) (e : Nat) : two (l.eraseIdx e) := fun x hx => h x (List.mem_of_mem_eraseIdx hx)
/-- A vertex behind the vertex v is gone. -/
def sh (v x : Int) : Int := if x > v then wrap64 (x - 1) else x
def hasV (v : Int) (e : List Int) : Bool := decide (rd e 0 = v) || decide (rd e 1 = v)
/-- The edges of a graph without a vertex. -/
def prL (v : Int) (l : List (List Int)) : List (List Int) := (l.filter fun e => !(hasV v e)).map (List.map (sh v))
theorem withoutV_l1 (v s : Int) (X : List (List Int)) (N : Int) (i : Nat) (hi : i < X.length) (hX : X.length ≤ 1048576) (r : List Int) (hr : r.length = 2) (R : Int × List (List Int)) (h : Ev (fun k => impl_Graph_withoutVertex.l0 k v (X.set i (r.map (sh v))) N ((i + 1 : Nat) : Int) s) R) : ∀ (d j : Nat), 2 - j = d → j ≤ 2 → Ev (fun k => impl_Graph_withoutVertex.l1 k v (X.set i (mp (sh v) r j)) N i 2 j s) R := by
  intro d
  induction d with
  | zero =>
    intro j hd hj
    obtain rfl : j = 2 := by omega
    refine Ev.step (fun k => by simp only [impl_Graph_withoutVertex.l1]; rfl) ?_
    simp only [show ¬ (((2 : Nat) : Int) < 2) by omega, if_false, w64 (show -9223372036854775808 ≤ (i : Int) + 1 by omega) (by omega), mp_full (sh v) r (show r.length ≤ 2 by omega)]
    exact h
  | succ d ih =>
    intro j hd hj
    have hjr : j < r.length := by omega
    have hj2 := ih (j + 1) (by omega) (by omega)
    refine Ev.step (fun k => by simp only [impl_Graph_withoutVertex.l1]; rfl) ?_
    have e1 : rd_L1 (X.set i (mp (sh v) r j)) (i : Int) = mp (sh v) r j := rdL1_set X i _ hi
    simp only [show ((j : Int) < 2) by omega, show (0 : Int) ≤ (j : Int) by omega, if_true, e1, mp_length, show ((j : Int) < (r.length : Int)) by omega, rd_mp _ r hjr, w64 (show -9223372036854775808 ≤ (j : Int) + 1 by omega) (by omega), Int.toNat_natCast, List.set_set]
    by_cases c2 : r[j] > v
    · simp only [c2, if_true]
      rw [mp_succ _ r hjr, show sh v r[j] = wrap64 (r[j] - 1) by simp [sh, c2]] at hj2
      exact hj2
    · simp only [c2, if_false]
      rw [mp_same _ r hjr (by simp [sh, c2])] at hj2
      exact hj2
theorem withoutV_l0 (v s : Int) (l : List (List Int)) (hl : l.length ≤ 1048576) (h2 : two l) : ∀ (d i : Nat), l.length - i = d → i ≤ l.length → Ev (fun k => impl_Graph_withoutVertex.l0 k v (mp (List.map (sh v)) l i) l.length i s) (s, l.map (List.map (sh v))) := by
  intro d
  induction d with
  | zero =>
    intro i hd hi
    obtain rfl : i = l.length := by omega
    refine Ev.step (fun k => by simp only [impl_Graph_withoutVertex.l0]; rfl) ?_
    simp only [Int.lt_irrefl, if_false, mp_full _ l (Nat.le_refl _)]
    exact Ev.now _
  | succ d ih =>
    intro i hd hi
    have hil : i < l.length := by omega
    have h := ih (i + 1) (by omega) (by omega)
    rw [mp_succ _ l hil] at h
    refine Ev.step (fun k => by simp only [impl_Graph_withoutVertex.l0]; rfl) ?_
    simp only [mp_length, show ((i : Int) < (l.length : Int)) by omega, show (0 : Int) ≤ (i : Int) by omega, if_true, rdL1_mp _ l hil, two_len h2 i hil]
    have h1 := withoutV_l1 v s (mp (List.map (sh v)) l i) l.length i (by rw [mp_length]; exact hil) (by rw [mp_length]; exact hl) l[i] (two_len h2 i hil) _ h 2 0 (by omega) (by omega)
    rw [mp_zero] at h1
    have e := set_own (mp (List.map (sh v)) l i) i (by rw [mp_length]; exact hil)
    rw [mp_at _ l hil] at e
    rw [e] at h1
    exact h1
theorem withoutV_ev (a v : Int) (l : List (List Int)) (hl : l.length ≤ 1048576) (hx : ∀ x ∈ l, x.length ≤ 1048576) (h2 : two l) : Ev (fun k => impl_Graph_withoutVertex.f k a l v) (wrap64 (a - 1), l.map (List.map (sh v))) := by
  unfold impl_Graph_withoutVertex.f
  refine Ev.bind (own_ev a l hl hx) ?_
  have h := withoutV_l0 v (wrap64 (a - 1)) l hl h2 _ 0 rfl (by omega)
  rw [mp_zero] at h
  exact h
/-- The first place of a number in a list. -/
theorem index_first (l : List Int) (hl : l.length ≤ maxLen) (x : Int) (w : Nat) (hw : w < l.length) (hx : l[w] = x) (hf : ∀ j (h : j < w), l[j] ≠ x) : ∀ (d i : Nat), w - i = d → i ≤ w → Ev (fun k => slices_Index_int64_int64.l0 k l x (l.length : Int) i) (w : Int) := by
  unfold maxLen at hl
  intro d
  induction d with
  | zero =>
    intro i hd hi
    obtain rfl : i = w := by omega
    refine Ev.step (fun k => by simp only [slices_Index_int64_int64.l0]; rfl) ?_
    simp only [show ((i : Int) < (l.length : Int)) by omega, show (0 : Int) ≤ (i : Int) by omega, if_true, rd_nat l i hw, hx]
    exact Ev.now _
  | succ d ih =>
    intro i hd hi
    have hiw : i < w := by omega
    have hne := hf i hiw
    refine Ev.step (fun k => by simp only [slices_Index_int64_int64.l0]; rfl) ?_
    simp only [show ((i : Int) < (l.length : Int)) by omega, show (0 : Int) ≤ (i : Int) by omega, if_true, rd_nat l i (show i < l.length by omega), show ¬ (x = l[i]) from fun e => hne e.symm, if_false, w64 (show -9223372036854775808 ≤ (i : Int) + 1 by omega) (by omega)]
    exact ih (i + 1) (by omega) (by omega)
theorem index_none (l : List Int) (hl : l.length ≤ maxLen) (x : Int) (hf : ∀ j (h : j < l.length), l[j] ≠ x) : ∀ (d i : Nat), l.length - i = d → i ≤ l.length → Ev (fun k => slices_Index_int64_int64.l0 k l x (l.length : Int) i) (-1) := by
  unfold maxLen at hl
  intro d
  induction d with
  | zero =>
    intro i hd hi
    obtain rfl : i = l.length := by omega
    refine Ev.step (fun k => by simp only [slices_Index_int64_int64.l0]; rfl) ?_
    simp only [Int.lt_irrefl, if_false]
    exact Ev.now _
  | succ d ih =>
    intro i hd hi
    have hiw : i < l.length := by omega
    have hne := hf i hiw
    refine Ev.step (fun k => by simp only [slices_Index_int64_int64.l0]; rfl) ?_
    simp only [show ((i : Int) < (l.length : Int)) by omega, show (0 : Int) ≤ (i : Int) by omega, if_true, rd_nat l i hiw, show ¬ (x = l[i]) from fun e => hne e.symm, if_false, w64 (show -9223372036854775808 ≤ (i : Int) + 1 by omega) (by omega)]
    exact ih (i + 1) (by omega) (by omega)
theorem idxM_first (p : List Int → Bool) (f : Nat → List Int → Option Bool) : ∀ (t : List (List Int)) (w : Nat) (hw : w < t.length), (∀ x ∈ t, Ev (fun k => f k x) (p x)) → p t[w] = true → (∀ j (h : j < w), p t[j] = false) → ∀ k0 : Nat, Ev (fun k => idxM (f k) t k0) ((k0 + w : Nat) : Int)
  | [], w, hw, _, _, _, _ => absurd hw (by simp)
  | x :: xs, 0, hw, he, hp, hf, k0 => by
    have h1 := he x List.mem_cons_self
    rw [show p x = true from hp] at h1
    refine Ev.bind h1 ?_
    simp only [if_true]
    exact Ev.now _
  | x :: xs, w + 1, hw, he, hp, hf, k0 => by
    have h1 := he x List.mem_cons_self
    rw [show p x = false from hf 0 (by omega)] at h1
    refine Ev.bind h1 ?_
    simp only [Bool.false_eq_true, if_false]
    have h2 := idxM_first p f xs w (by simpa using hw) (fun y hy => he y (List.mem_cons_of_mem _ hy)) hp (fun j hj => hf (j + 1) (by omega)) (k0 + 1)
    rw [show k0 + (w + 1) = k0 + 1 + w by omega]
    exact h2
theorem two_form {e : List Int} (h : e.length = 2) : e = [rd e 0, rd e 1] := by
  match e, h with
  | [x, y], _ => rfl
theorem mem_hasV {e : List Int} (h : e.length = 2) (v : Int) : decide (v ∈ e) = hasV v e := by
  unfold hasV
  rw [two_form h]
  show decide (v ∈ [rd e 0, rd e 1]) = (decide (rd e 0 = v) || decide (rd e 1 = v))
  rw [← Bool.decide_or]
  refine decide_eq_decide.2 ?_
  simp only [List.mem_cons, List.not_mem_nil, or_false]
  exact ⟨fun h => h.imp Eq.symm Eq.symm, fun h => h.imp Eq.symm Eq.symm⟩
theorem degN_zero {l : List (List Int)} {v : Nat} : ∀ {i : Nat}, degN l i v = 0 → ∀ j, j < i → hasV v (rd_L1 l (j : Int)) = false
  | 0, _, j, hj => absurd hj (by omega)
  | i + 1, h, j, hj => by
    unfold degN at h
    by_cases e : j = i
    · subst e
      unfold hasV
      by_cases c1 : rd (rd_L1 l (j : Int)) 0 = (v : Int)
      · rw [if_pos c1] at h; omega
      · by_cases c2 : rd (rd_L1 l (j : Int)) 1 = (v : Int)
        · rw [if_pos c2] at h; omega
        · simp [c1, c2]
    · exact degN_zero (Nat.add_eq_zero_iff.1 (Nat.add_eq_zero_iff.1 h).1).1 j (by omega)
theorem degN_one {l : List (List Int)} {v : Nat} : ∀ {i : Nat}, degN l i v = 1 → ∃ k, k < i ∧ hasV v (rd_L1 l (k : Int)) = true ∧ ∀ j, j < i → j ≠ k → hasV v (rd_L1 l (j : Int)) = false
  | 0, h => absurd h (by simp [degN])
  | i + 1, h => by
    unfold degN at h
    by_cases c : hasV v (rd_L1 l (i : Int)) = true
    · have h0 : degN l i v = 0 := by
        unfold hasV at c
        rw [Bool.or_eq_true, decide_eq_true_eq, decide_eq_true_eq] at c
        rcases c with c | c <;> rw [if_pos c] at h <;> omega
      exact ⟨i, by omega, c, fun j hj hne => degN_zero h0 j (by omega)⟩
    · have c' : hasV v (rd_L1 l (i : Int)) = false := by simpa using c
      have h1 : degN l i v = 1 := by
        unfold hasV at c'
        rw [Bool.or_eq_false_iff, decide_eq_false_iff_not, decide_eq_false_iff_not] at c'
        rw [if_neg c'.1, if_neg c'.2] at h
        omega
      obtain ⟨k, hk, hk1, hk2⟩ := degN_one h1
      refine ⟨k, by omega, hk1, fun j hj hne => ?_⟩
      by_cases e : j = i
      · rw [e]; exact c'
      · exact hk2 j (by omega) hne
theorem filter_erase {α : Type} (p : α → Bool) : ∀ (l : List α) (k : Nat) (hk : k < l.length), p l[k] = false → (∀ j (h : j < l.length), j ≠ k → p l[j] = true) → l.filter p = l.eraseIdx k
  | [], k, hk, _, _ => absurd hk (by simp)
  | x :: xs, 0, hk, h0, h1 => by
    rw [List.filter_cons_of_neg (by rw [show p x = false from h0]; simp), List.eraseIdx_cons_zero, List.filter_eq_self]
    intro y hy
    obtain ⟨j, hj, rfl⟩ := List.getElem_of_mem hy
    exact h1 (j + 1) (by simpa using hj) (by omega)
  | x :: xs, k + 1, hk, h0, h1 => by
    rw [List.filter_cons_of_pos (show p x = true from h1 0 (by simp) (by omega)), List.eraseIdx_cons_succ]
    congr 1
    exact filter_erase p xs k (by simpa using hk) h0 (fun j hj hne => h1 (j + 1) (by simpa using hj) (by omega))
theorem first_or_none (n : Nat) (p : Nat → Bool) : (∃ w, w < n ∧ p w = true ∧ ∀ u, u < w → p u = false) ∨ ∀ w, w < n → p w = false := by
  induction n with
  | zero => exact Or.inr (fun w hw => absurd hw (by omega))
  | succ n ih =>
    rcases ih with ⟨w, h1, h2, h3⟩ | h
    · exact Or.inl ⟨w, by omega, h2, h3⟩
    · cases hp : p n with
      | true => exact Or.inl ⟨n, by omega, hp, h⟩
      | false =>
        refine Or.inr (fun w hw => ?_)
        by_cases e : w = n
        · rw [e]; exact hp
        · exact h w (by omega)
theorem prL_snoc (v : Int) (l : List (List Int)) (e : List Int) (h : e.length = 2) : prL v (l ++ [e]) = if hasV v e = true then prL v l else prL v l ++ [[sh v (rd e 0), sh v (rd e 1)]] := by
  unfold prL
  rw [List.filter_append]
  by_cases c : hasV v e = true
  · simp [c]
  · have c' : hasV v e = false := by simpa using c
    simp only [c', List.filter_cons_of_pos, Bool.not_false, List.filter_nil, List.map_append, List.map_cons, List.map_nil, Bool.false_eq_true, if_false]
    congr 2
    conv => lhs; rw [two_form h]
    rfl
theorem l02Prune_l1 (v n : Int) (l : List (List Int)) (hl : l.length ≤ 1048576) (h2 : two l) (R : Int × List (List Int)) (h : Ev (fun k => spec_l02Prune.l0 k 0 (wrap64 (n - 1)) (prL v l)) R) : ∀ (d i : Nat), l.length - i = d → i ≤ l.length → Ev (fun k => spec_l02Prune.l1 k v (prL v (l.take i)) i n l) R := by
  intro d
  induction d with
  | zero =>
    intro i hd hi
    obtain rfl : i = l.length := by omega
    refine Ev.step (fun k => by simp only [spec_l02Prune.l1]; rfl) ?_
    simp only [Int.lt_irrefl, if_false, List.take_length]
    exact h
  | succ d ih =>
    intro i hd hi
    have hil : i < l.length := by omega
    have hn := ih (i + 1) (by omega) (by omega)
    have h3 := two_len h2 i hil
    rw [List.take_succ_eq_append_getElem hil, prL_snoc v _ _ h3] at hn
    have hlen : (prL v (l.take i)).length < 5864062014805 := by
      unfold prL
      rw [List.length_map]
      have h1 := List.length_filter_le (fun e => !(hasV v e)) (l.take i)
      rw [List.length_take] at h1
      omega
    refine Ev.step (fun k => by simp only [spec_l02Prune.l1]; rfl) ?_
    simp only [show ((i : Int) < (l.length : Int)) by omega, show (0 : Int) ≤ (i : Int) by omega, if_true, rdL1_nat l i hil, h3, show (0 : Int) < ((2 : Nat) : Int) by omega, show (1 : Int) < ((2 : Nat) : Int) by omega]
    have hw : wrap64 ((i : Int) + 1) = ((i + 1 : Nat) : Int) := w64 (by omega) (by omega)
    have hj1 : hasV v l[i] = true → ∀ a b : Int, Ev (fun k => spec_l02Prune.j2 k v (prL v (l.take i)) i a b true n l) R := by
      intro c a b
      rw [if_pos c] at hn
      refine Ev.step (fun k => by simp only [spec_l02Prune.j2]; rfl) ?_
      simp only [if_true, hw]
      exact hn
    by_cases c0 : rd l[i] 0 = v
    · simp only [c0, if_true]
      have := hj1 (by unfold hasV; simp [c0]) (rd l[i] 0) (rd l[i] 1)
      rw [c0] at this
      exact this
    · simp only [c0, if_false]
      by_cases c1 : rd l[i] 1 = v
      · have := hj1 (by unfold hasV; simp [c1]) (rd l[i] 0) (rd l[i] 1)
        rw [c1] at this ⊢
        simp only [beq_self_eq_true]
        exact this
      · rw [if_neg (by unfold hasV; simp [c0, c1])] at hn
        simp only [show (rd l[i] 1 == v) = false from beq_eq_false_iff_ne.2 c1]
        refine Ev.step (fun k => by simp only [spec_l02Prune.j2]; rfl) ?_
        simp only [Bool.false_eq_true, if_false, hlen, if_true, hw]
        by_cases g0 : rd l[i] 0 > v <;> by_cases g1 : rd l[i] 1 > v <;> simp only [g0, g1, if_true, if_false] <;> simp only [sh, g0, g1, if_true, if_false] at hn <;> exact hn
theorem sh_nat {n v x : Nat} (hn : n ≤ 8) (hv : v < n) (hx : x < n) (hne : x ≠ v) : ∃ y : Nat, sh (v : Int) (x : Int) = y ∧ y < n - 1 := by
  unfold sh
  by_cases c : (x : Int) > (v : Int)
  · rw [if_pos c, w64 (by omega) (by omega)]
    exact ⟨x - 1, by omega, by omega⟩
  · rw [if_neg c]
    exact ⟨x, rfl, by omega⟩
theorem prL_mem {v : Int} {l : List (List Int)} {y : List Int} (h : y ∈ prL v l) : ∃ x, x ∈ l ∧ hasV v x = false ∧ y = x.map (sh v) := by
  unfold prL at h
  obtain ⟨x, hx, rfl⟩ := List.mem_map.1 h
  obtain ⟨h1, h2⟩ := List.mem_filter.1 hx
  exact ⟨x, h1, by simpa using h2, rfl⟩
theorem prL_ends {n v : Nat} (hn : n ≤ 8) (hv : v < n) {l : List (List Int)} (hE : endsIn n l) : endsIn (n - 1) (prL v l) := by
  intro i hi
  rw [rdL1_nat _ i hi]
  obtain ⟨x, hx, hs, he⟩ := prL_mem (List.getElem_mem hi)
  obtain ⟨j, hj, hjx⟩ := List.getElem_of_mem hx
  obtain ⟨h1, a, b, ha, hb, han, hbn⟩ := hE j hj
  rw [rdL1_nat l j hj, hjx] at h1 ha hb
  unfold hasV at hs
  rw [Bool.or_eq_false_iff, decide_eq_false_iff_not, decide_eq_false_iff_not, ha, hb] at hs
  obtain ⟨a', ha', ha1⟩ := sh_nat hn hv han (by omega)
  obtain ⟨b', hb', hb1⟩ := sh_nat hn hv hbn (by omega)
  rw [he, two_form h1, ha, hb]
  exact ⟨rfl, a', b', ha', hb', ha1, hb1⟩
theorem ends_two {n : Nat} {l : List (List Int)} (hE : endsIn n l) : two l := by
  intro x hx
  obtain ⟨j, hj, rfl⟩ := List.getElem_of_mem hx
  have := (hE j hj).1
  rwa [rdL1_nat l j hj] at this
theorem prL_len (v : Int) (l : List (List Int)) : (prL v l).length ≤ l.length := by
  unfold prL
  rw [List.length_map]
  exact List.length_filter_le _ _
theorem prune_both : ∀ (n : Nat), n ≤ 8 → ∀ (l : List (List Int)), l.length ≤ 10 → endsIn n l → ∃ R : Int × List (List Int), Ev (fun k => spec_l02Prune.l0 k 0 n l) R ∧ Ev (fun k => impl_PruneGraph.l0 k n l) (R.1, R.2, 0) ∧ R.2.length ≤ 10 ∧ two R.2 := by
  intro n
  induction n with
  | zero =>
    intro _ l hl hE
    have h2 := ends_two hE
    refine ⟨(0, l), ?_, ?_, hl, h2⟩
    · refine Ev.step (fun k => by simp only [spec_l02Prune.l0]; rfl) ?_
      simp only [show ¬ ((0 : Int) < ((0 : Nat) : Int)) by omega, if_false]
      exact Ev.now _
    · refine Ev.step (fun k => by simp only [impl_PruneGraph.l0]; rfl) ?_
      refine Ev.bind (degrees_ev 0 (by omega) l (by omega) hE) ?_
      have hi := index_none (degL 0 l l.length) (by rw [degL_length]; unfold maxLen; omega) 1 (fun j h => absurd h (by rw [degL_length]; omega)) _ 0 rfl (by omega)
      refine Ev.bind (show Ev (fun k => slices_Index_int64_int64.f k (degL 0 l l.length) 1) (-1) from hi) ?_
      simp only [show (-1 : Int) < 0 by omega, if_true]
      exact Ev.now _
  | succ n ih =>
    intro hn l hl hE
    have h2 := ends_two hE
    have hx : ∀ x ∈ l, x.length ≤ 1048576 := fun x hx => by have := h2 x hx; omega
    have hdl : (degL (n + 1) l l.length).length = n + 1 := degL_length _ _ _
    have hat : ∀ w (h : w < n + 1), (degL (n + 1) l l.length)[w]'(by rw [hdl]; exact h) = (degN l l.length w : Int) := by
      intro w h
      rw [← rd_nat _ w (by rw [hdl]; exact h)]
      exact degL_rd _ _ _ _ h
    rcases first_or_none (n + 1) (fun w => decide (degN l l.length w = 1)) with ⟨w, hw, hp, hf⟩ | hno
    · have hp' : degN l l.length w = 1 := by simpa using hp
      have hf' : ∀ u, u < w → degN l l.length u ≠ 1 := fun u hu => by simpa using hf u hu
      obtain ⟨R, hs, him, hR1, hR2⟩ := ih (by omega) (prL w l) (Nat.le_trans (prL_len _ _) hl) (by have := prL_ends hn hw hE; simpa using this)
      have hwn : wrap64 (((n + 1 : Nat) : Int) - 1) = (n : Int) := by rw [w64 (by omega) (by omega)]; omega
      refine ⟨R, ?_, ?_, hR1, hR2⟩
      · have hscan : ∀ (d u : Nat), w - u = d → u ≤ w → Ev (fun k => spec_l02Prune.l0 k u ((n + 1 : Nat) : Int) l) R := by
          intro d
          induction d with
          | zero =>
            intro u hd hu
            obtain rfl : u = w := by omega
            refine Ev.step (fun k => by simp only [spec_l02Prune.l0]; rfl) ?_
            simp only [show ((u : Int) < ((n + 1 : Nat) : Int)) by omega, if_true]
            refine Ev.bind (l01Degree_ev _ l (by omega) h2 u) ?_
            simp only [hp', show ((1 : Nat) : Int) = 1 from rfl, if_true]
            have h1 := l02Prune_l1 (u : Int) ((n + 1 : Nat) : Int) l (by omega) h2 R (by rw [hwn]; exact hs) _ 0 rfl (by omega)
            exact h1
          | succ d ih2 =>
            intro u hd hu
            have hne := hf' u (by omega)
            refine Ev.step (fun k => by simp only [spec_l02Prune.l0]; rfl) ?_
            simp only [show ((u : Int) < ((n + 1 : Nat) : Int)) by omega, if_true]
            refine Ev.bind (l01Degree_ev _ l (by omega) h2 u) ?_
            simp only [show ¬ ((degN l l.length u : Int) = 1) by omega, if_false, w64 (show -9223372036854775808 ≤ (u : Int) + 1 by omega) (by omega)]
            exact ih2 (u + 1) (by omega) (by omega)
        exact hscan w 0 rfl (by omega)
      · refine Ev.step (fun k => by simp only [impl_PruneGraph.l0]; rfl) ?_
        refine Ev.bind (degrees_ev (n + 1) (by omega) l (by omega) hE) ?_
        have hi := index_first (degL (n + 1) l l.length) (by rw [hdl]; unfold maxLen; omega) 1 w (by rw [hdl]; exact hw) (by rw [hat w hw, hp']; rfl) (fun j hj => by rw [hat j (by omega)]; have := hf' j hj; omega) _ 0 rfl (by omega)
        refine Ev.bind (show Ev (fun k => slices_Index_int64_int64.f k (degL (n + 1) l l.length) 1) (w : Int) from hi) ?_
        simp only [show ¬ ((w : Int) < 0) by omega, if_false]
        obtain ⟨q, hq, hq1, hq2⟩ := degN_one hp'
        have hix : Ev (fun k => impl_PruneGraph_1.f k l (w : Int)) (q : Int) := by
          have h3 := idxM_first (hasV w) (fun k x => slices_Contains_int64_int64.f k x (w : Int)) l q hq (fun x hxm => by
            have h4 := contains_ev x (by have := h2 x hxm; unfold maxLen; omega) (w : Int)
            rw [mem_hasV (h2 x hxm)] at h4
            exact h4) (by rw [← rdL1_nat l q hq]; exact hq1) (fun j hj => by rw [← rdL1_nat l j (by omega)]; exact hq2 j (by omega) (by omega)) 0
          rw [Nat.zero_add] at h3
          exact h3
        refine Ev.bind hix ?_
        refine Ev.bind (deleted_ev _ l (by omega) hx q hq) ?_
        refine Ev.bind (withoutV_ev _ (w : Int) (l.eraseIdx q) (by have := List.length_eraseIdx_le l q; omega) (fun x hxm => hx x (List.mem_of_mem_eraseIdx hxm)) (two_erase h2 q)) ?_
        have e : (l.eraseIdx q).map (List.map (sh w)) = prL w l := by
          unfold prL
          rw [filter_erase (fun e => !(hasV w e)) l q hq (by rw [← rdL1_nat l q hq, hq1]; rfl) (fun j hj hne => by rw [← rdL1_nat l j hj, hq2 j hj hne]; rfl)]
        rw [e]
        simp only [hwn]
        exact him
    · have hno' : ∀ w, w < n + 1 → degN l l.length w ≠ 1 := fun w hw => by simpa using hno w hw
      refine ⟨(((n + 1 : Nat) : Int), l), ?_, ?_, hl, h2⟩
      · have hscan : ∀ (d u : Nat), n + 1 - u = d → u ≤ n + 1 → Ev (fun k => spec_l02Prune.l0 k u ((n + 1 : Nat) : Int) l) (((n + 1 : Nat) : Int), l) := by
          intro d
          induction d with
          | zero =>
            intro u hd hu
            obtain rfl : u = n + 1 := by omega
            refine Ev.step (fun k => by simp only [spec_l02Prune.l0]; rfl) ?_
            simp only [Int.lt_irrefl, if_false]
            exact Ev.now _
          | succ d ih2 =>
            intro u hd hu
            have hne := hno' u (by omega)
            refine Ev.step (fun k => by simp only [spec_l02Prune.l0]; rfl) ?_
            simp only [show ((u : Int) < ((n + 1 : Nat) : Int)) by omega, if_true]
            refine Ev.bind (l01Degree_ev _ l (by omega) h2 u) ?_
            simp only [show ¬ ((degN l l.length u : Int) = 1) by omega, if_false, w64 (show -9223372036854775808 ≤ (u : Int) + 1 by omega) (by omega)]
            exact ih2 (u + 1) (by omega) (by omega)
        exact hscan (n + 1) 0 rfl (by omega)
      · refine Ev.step (fun k => by simp only [impl_PruneGraph.l0]; rfl) ?_
        refine Ev.bind (degrees_ev (n + 1) (by omega) l (by omega) hE) ?_
        have hi := index_none (degL (n + 1) l l.length) (by rw [hdl]; unfold maxLen; omega) 1 (fun j h => by rw [hat j (by rw [← hdl]; exact h)]; have := hno' j (by rw [← hdl]; exact h); omega) _ 0 rfl (by omega)
        refine Ev.bind (show Ev (fun k => slices_Index_int64_int64.f k (degL (n + 1) l l.length) 1) (-1) from hi) ?_
        simp only [show (-1 : Int) < 0 by omega, if_true]
        exact Ev.now _
theorem main_FnExactPruneGraph (a : Int) (l : List (List Int)) (_ : (Lit.int .i64 a).wf = true) (hl : l.length ≤ maxLen) (_ : ∀ x ∈ l, x.length ≤ maxLen ∧ ∀ n ∈ x, (Lit.int .i64 n).wf = true) :
    ∃ (ra : Int) (rl : List (List Int)) (c : Int), Ev (fun k => spec_PruneGraph.f k a l) (ra, rl, c) ∧ Ev (fun k => impl_PruneGraph.f k a l) (ra, rl, c) ∧ (rl.length ≤ 1048576 ∧ ∀ y ∈ rl, y.length ≤ 1048576) := by
  cases hg : isG a l with
  | false =>
    refine ⟨0, [], 1, ?_, ?_, by simp, by simp⟩
    · unfold spec_PruneGraph.f
      refine Ev.bind (spec_l01Is_ev a l hl) ?_
      rw [hg]
      simp only [Bool.false_eq_true, if_false]
      exact Ev.now _
    · unfold impl_PruneGraph.f
      refine Ev.bind (impl_IsGraph_ev a l hl) ?_
      rw [hg]
      simp only [Bool.false_eq_true, if_false]
      exact Ev.now _
  | true =>
    obtain ⟨n, rfl, h1, h8, hE⟩ := isG_ends hg
    have hs := isG_small hg
    obtain ⟨R, hsp, him, hR1, hR2⟩ := prune_both n h8 l (isG_len hg) hE
    refine ⟨R.1, R.2, 0, ?_, ?_, by omega, fun y hy => by have := hR2 y hy; omega⟩
    · unfold spec_PruneGraph.f
      refine Ev.bind (spec_l01Is_ev n l hl) ?_
      rw [hg]
      simp only [if_true]
      refine Ev.bind (show Ev (fun k => spec_l02Prune.f k n l) R from ?_) (Ev.now _)
      unfold spec_l02Prune.f
      exact Ev.bind (l01Copy_ev n l hs.1 hs.2) hsp
    · unfold impl_PruneGraph.f
      refine Ev.bind (impl_IsGraph_ev n l hl) ?_
      rw [hg]
      simp only [if_true]
      exact Ev.bind (own_ev n l hs.1 hs.2) him


end Go.Proofs.Ytpckiapngjcijaa.A
namespace Go.Proofs.Ytpckiapngjcijaa.Pure
open Go.RowKit Go.Proofs.YtpckiapngjcijaaW.PrintWords Go.Proofs.YtpckiapngjcijaaW.PrintLast Go.Proofs.YtpckiapngjcijaaW.PrintMore Go.Proofs.Ytpckiapngjcijaa.A
theorem FnExactPruneGraph : laws_FnExactPruneGraph.Pure := by
  intro a0 l0 w0 hm0 hx0 
  have hy0 : ∀ x ∈ l0, x.length ≤ maxLen := fun x h => (hx0 x h).1
  obtain ⟨z0, ez0, z01, z02, z03⟩ := szGraph_ev a0 l0 1048576 (by omega) (by omega) hm0 hy0
  by_cases hn0 : z0 < 0
  · obtain ⟨k, hk⟩ := Ev.rounds ez0
    exact Or.inl ⟨k, z0, hn0, hk⟩
  · refine Or.inr ?_
    obtain ⟨hl0, hs0⟩ := z03 (by omega)
    obtain ⟨r0a, r0l, r1a, es, ei, br0l⟩ := main_FnExactPruneGraph a0 l0 w0 hm0 hx0
    have tr0l := tot_small r0l br0l.1 br0l.2
    have t0 := tot_small l0 hl0 hs0
    obtain ⟨k0, eFG0⟩ := toGraph_ev a0 l0 (by omega) (fun x h => by have := hs0 x h; omega)
    obtain ⟨k1, eFQ0⟩ := eqGraph_ev a0 l0 hm0 hy0
    obtain ⟨k2, eFZ0⟩ := ez0
    obtain ⟨k3, eFS⟩ := es
    obtain ⟨k4, eFI⟩ := ei
    obtain ⟨k5, eFE0⟩ := eqGraph_ev r0a r0l (Nat.le_trans br0l.1 (by unfold maxLen; omega)) (fun y h => Nat.le_trans (br0l.2 y h) (by unfold maxLen; omega))
    obtain ⟨k6, eFM0⟩ := markInt64SS_ev l0 (1) hl0 hs0 (by omega) (by omega)
    obtain ⟨k7, eFN0l⟩ := markInt64SS_ev r0l (1) br0l.1 br0l.2 (by omega) (by omega)
    obtain ⟨k8, eFH0⟩ := heldGraph_ev r0a r0l (1) br0l.1 br0l.2 (by omega) (by omega)
    exact ⟨k0 + k1 + k2 + k3 + k4 + k5 + k6 + k7 + k8, z0, r0a, r0l, r1a, 1 + (tot l0 : Int), mkSS l0 (1), 1 + (tot r0l : Int), mkSS r0l (1), by omega, by omega, by omega, eFG0 _ (by omega), eFQ0 _ (by omega), eFZ0 _ (by omega), eFS _ (by omega), eFI _ (by omega), eFE0 _ (by omega), eFM0 _ (by omega), eFN0l _ (by omega), eFH0 _ (by omega)⟩

end Go.Proofs.Ytpckiapngjcijaa.Pure
