/- Plain lemmas on the Lean functions that FnExactFireVertex reaches, and its pure statement. No condition. -/
import Derived.Test.YtpckiapngjcijaaDWalk
namespace Go.Proofs.Ytpckiapngjcijaa.D
open Go.RowKit Go.Proofs.YtpckiapngjcijaaW.PrintWords Go.Proofs.YtpckiapngjcijaaW.PrintLast Go.Proofs.YtpckiapngjcijaaW.PrintMore
set_option linter.unusedVariables false
set_option linter.unusedSimpArgs false
theorem w64 {n : Int} (h0 : -9223372036854775808 ≤ n) (h1 : n ≤ 9223372036854775807) : wrap64 n = n := IntWalk.wrap64_in n ⟨h0, h1⟩
theorem fuel {k n : Nat} (h : n < k) : ∃ m, k = m + 1 ∧ n ≤ m := ⟨k - 1, by omega, by omega⟩
theorem rd_nat (l : List Int) (i : Nat) (h : i < l.length) : rd l (i : Int) = l[i] := by
  simp [rd, List.getD_eq_getElem?_getD, h]
theorem rdL1_nat (l : List (List Int)) (i : Nat) (h : i < l.length) : rd_L1 l (i : Int) = l[i] := by
  simp [rd_L1, List.getD_eq_getElem?_getD, h]
theorem take_set {α : Type} (x l : List α) (i : Nat) (hx : x.length = l.length) (hi : i < l.length) (h : x.take i = l.take i) : (x.set i l[i]).take (i + 1) = l.take (i + 1) := by
  apply List.ext_getElem?
  intro j
  rw [List.getElem?_take, List.getElem?_take]
  by_cases hj : j < i + 1
  · rw [if_pos hj, if_pos hj]
    by_cases hji : j = i
    · subst hji
      rw [List.getElem?_set_self (by omega), List.getElem?_eq_getElem hi]
    · rw [List.getElem?_set_ne (by omega)]
      have h2 := congrArg (fun z => z[j]?) h
      simp only [List.getElem?_take] at h2
      rwa [if_pos (by omega), if_pos (by omega)] at h2
  · rw [if_neg hj, if_neg hj]

theorem toInt64S_l0 (l : List Int) (hl : l.length ≤ 35184372088832) : ∀ (d k i : Nat) (x : List Int), l.length - i = d → d < k → i ≤ l.length → x.length = l.length → x.take i = l.take i → laws_toInt64S.l0 k l x i = some l := by
  intro d
  induction d with
  | zero =>
    intro k i x hd hk hi hx ht
    obtain ⟨m, rfl, hm⟩ := fuel hk
    simp only [laws_toInt64S.l0]
    rw [if_neg (by omega)]
    rw [List.take_of_length_le (by omega), List.take_of_length_le (by omega)] at ht
    rw [ht]
  | succ d ih =>
    intro k i x hd hk hi hx ht
    obtain ⟨m, rfl, hm⟩ := fuel hk
    have hil : i < l.length := by omega
    simp only [laws_toInt64S.l0]
    rw [if_pos (by omega), if_pos (by omega), if_pos (by omega), w64 (by omega) (by omega), rd_nat l i hil, Int.toNat_natCast]
    exact ih m (i + 1) _ (by omega) (by omega) (by omega) (by simp [hx]) (take_set x l i hx hil ht)
theorem toInt64S_ev (l : List Int) (hl : l.length ≤ 35184372088832) : Ev (fun k => laws_toInt64S.f k l) l := by
  refine Ev.of (laws_toInt64S.mono l) (k := l.length + 1) ?_
  unfold laws_toInt64S.f
  rw [if_pos (by omega), if_pos (by simpa using hl)]
  exact toInt64S_l0 l hl l.length _ 0 _ (by omega) (by omega) (by omega) (by simp) (by simp)
theorem toInt64SS_l0 (l : List (List Int)) (hl : l.length ≤ 11728124029610) (hx : ∀ x ∈ l, x.length ≤ 35184372088832) : ∀ (d i : Nat) (x : List (List Int)), l.length - i = d → i ≤ l.length → x.length = l.length → x.take i = l.take i → Ev (fun k => laws_toInt64SS.l0 k l x i) l := by
  intro d
  induction d with
  | zero =>
    intro i x hd hi hx ht
    refine Ev.step (fun k => by simp only [laws_toInt64SS.l0]; rfl) ?_
    rw [List.take_of_length_le (by omega), List.take_of_length_le (by omega)] at ht
    simp only [show ¬ ((i : Int) < (l.length : Int)) by omega, if_false, ht]
    exact Ev.now l
  | succ d ih =>
    intro i x hd hi hx' ht
    have hil : i < l.length := by omega
    refine Ev.step (fun k => by simp only [laws_toInt64SS.l0]; rfl) ?_
    simp only [show ((i : Int) < (l.length : Int)) by omega, show (0 : Int) ≤ (i : Int) by omega, show ((i : Int) < (x.length : Int)) by omega, if_true, Int.toNat_natCast, w64 (show -9223372036854775808 ≤ (i : Int) + 1 by omega) (by omega), rdL1_nat l i hil]
    refine Ev.bind (toInt64S_ev l[i] (hx _ (List.getElem_mem hil))) ?_
    exact ih (i + 1) _ (by omega) (by omega) (by simp [hx']) (take_set x l i hx' hil ht)
theorem toInt64SS_ev (l : List (List Int)) (hl : l.length ≤ 11728124029610) (hx : ∀ x ∈ l, x.length ≤ 35184372088832) : Ev (fun k => laws_toInt64SS.f k l) l := by
  unfold laws_toInt64SS.f
  simp only [show (0 : Int) ≤ (l.length : Int) by omega, if_true, Int.toNat_natCast, hl]
  exact toInt64SS_l0 l hl hx l.length 0 _ (by omega) (by omega) (by simp) (by simp)
theorem toGraph_ev (a : Int) (l : List (List Int)) (hl : l.length ≤ 11728124029610) (hx : ∀ x ∈ l, x.length ≤ 35184372088832) : Ev (fun k => laws_toGraph.f k a l) (a, l) := by
  unfold laws_toGraph.f
  exact Ev.bind (toInt64SS_ev l hl hx) (Ev.now _)

theorem szInt64SS_l0 (l : List (List Int)) (hl : l.length ≤ maxLen) (hx : ∀ x ∈ l, x.length ≤ maxLen) : ∀ (d i : Nat) (a : Int), l.length - i = d → i ≤ l.length → 0 ≤ a → a ≤ 1048576 → ∃ r, Ev (fun k => laws_szInt64SS.l0 k l a i) r ∧ r ≤ 1048576 ∧ -1 ≤ r ∧ (0 ≤ r → ∀ x ∈ l.drop i, x.length ≤ 1048576) := by
  unfold maxLen at hl hx
  intro d
  induction d with
  | zero =>
    intro i a hd hi h0 h1
    refine ⟨a, Ev.step (fun k => by simp only [laws_szInt64SS.l0]; rfl) ?_, h1, by omega, fun _ x hx => ?_⟩
    · simp only [show ¬ ((i : Int) < (l.length : Int)) by omega, if_false]
      exact Ev.now _
    · rw [List.drop_of_length_le (by omega)] at hx; simp at hx
  | succ d ih =>
    intro i a hd hi h0 h1
    have hil : i < l.length := by omega
    have hxl := hx _ (List.getElem_mem hil)
    have hs : laws_szInt64S.f l[i] a = some (if a - (l[i].length : Int) < 0 then -1 else a - (l[i].length : Int)) := by
      unfold laws_szInt64S.f
      rw [w64 (by omega) (by omega)]
      split <;> rfl
    by_cases hn : a - (l[i].length : Int) < 0
    · rw [if_pos hn] at hs
      refine ⟨-1, Ev.step (fun k => by simp only [laws_szInt64SS.l0]; rfl) ?_, by omega, by omega, fun h => by omega⟩
      simp only [show ((i : Int) < (l.length : Int)) by omega, show (0 : Int) ≤ (i : Int) by omega, if_true, rdL1_nat l i hil, hs, Option.bind_some]
      exact Ev.now _
    · rw [if_neg hn] at hs
      obtain ⟨r, hr, h2, h3, h4⟩ := ih (i + 1) (a - (l[i].length : Int)) (by omega) (by omega) (by omega) (by omega)
      refine ⟨r, Ev.step (fun k => by simp only [laws_szInt64SS.l0]; rfl) ?_, h2, h3, fun h x hx => ?_⟩
      · simp only [show ((i : Int) < (l.length : Int)) by omega, show (0 : Int) ≤ (i : Int) by omega, if_true, rdL1_nat l i hil, hs, Option.bind_some, hn, if_false, w64 (show -9223372036854775808 ≤ (i : Int) + 1 by omega) (by omega)]
        exact hr
      · rw [List.drop_eq_getElem_cons hil] at hx
        rcases List.mem_cons.1 hx with rfl | hx
        · omega
        · exact h4 h x hx
/-- The sizes that the law lets by. -/
theorem szInt64SS_ev (l : List (List Int)) (a : Int) (ha : 0 ≤ a) (ha1 : a ≤ 1048576) (hl : l.length ≤ maxLen) (hx : ∀ x ∈ l, x.length ≤ maxLen) : ∃ r, Ev (fun k => laws_szInt64SS.f k l a) r ∧ r ≤ 1048576 ∧ -1 ≤ r ∧ (0 ≤ r → l.length ≤ 1048576 ∧ ∀ x ∈ l, x.length ≤ 1048576) := by
  have hl' := hl
  unfold maxLen at hl'
  unfold laws_szInt64SS.f
  rw [w64 (by omega) (by omega)]
  by_cases hn : a - (l.length : Int) < 0
  · refine ⟨-1, ?_, by omega, by omega, fun h => by omega⟩
    simp only [hn, if_true]
    exact Ev.now _
  · obtain ⟨r, hr, h2, h3, h4⟩ := szInt64SS_l0 l hl hx l.length 0 (a - (l.length : Int)) (by omega) (by omega) (by omega) (by omega)
    refine ⟨r, ?_, h2, h3, fun h => ⟨by omega, by simpa using h4 h⟩⟩
    simp only [hn, if_false]
    exact hr
theorem szGraph_ev (s : Int) (l : List (List Int)) (a : Int) (ha : 0 ≤ a) (ha1 : a ≤ 1048576) (hl : l.length ≤ maxLen) (hx : ∀ x ∈ l, x.length ≤ maxLen) : ∃ r, Ev (fun k => laws_szGraph.f k s l a) r ∧ r ≤ 1048576 ∧ -1 ≤ r ∧ (0 ≤ r → l.length ≤ 1048576 ∧ ∀ x ∈ l, x.length ≤ 1048576) := by
  obtain ⟨r, hr, h2, h3, h4⟩ := szInt64SS_ev l a ha ha1 hl hx
  unfold laws_szGraph.f
  by_cases hn : r < 0
  · refine ⟨-1, Ev.bind hr ?_, by omega, by omega, fun h => by omega⟩
    simp only [hn, if_true]
    exact Ev.now _
  · refine ⟨r, Ev.bind hr ?_, h2, h3, h4⟩
    simp only [hn, if_false]
    exact Ev.now _
/-- Equal lists are told equal. -/
theorem eqInt64S_l0 (l : List Int) (hl : l.length ≤ maxLen) : ∀ (d i : Nat), l.length - i = d → i ≤ l.length → Ev (fun k => laws_eqInt64S.l0 k l l i) true := by
  unfold maxLen at hl
  intro d
  induction d with
  | zero =>
    intro i hd hi
    refine Ev.step (fun k => by simp only [laws_eqInt64S.l0]; rfl) ?_
    simp only [show ¬ ((i : Int) < (l.length : Int)) by omega, if_false]
    exact Ev.now _
  | succ d ih =>
    intro i hd hi
    refine Ev.step (fun k => by simp only [laws_eqInt64S.l0]; rfl) ?_
    simp only [show ((i : Int) < (l.length : Int)) by omega, show (0 : Int) ≤ (i : Int) by omega, if_true, w64 (show -9223372036854775808 ≤ (i : Int) + 1 by omega) (by omega)]
    exact ih (i + 1) (by omega) (by omega)
theorem eqInt64S_ev (l : List Int) (hl : l.length ≤ maxLen) : Ev (fun k => laws_eqInt64S.f k l l) true := by
  unfold laws_eqInt64S.f
  simp only [if_true]
  exact eqInt64S_l0 l hl l.length 0 (by omega) (by omega)
theorem eqInt64SS_l0 (l : List (List Int)) (hl : l.length ≤ maxLen) (hx : ∀ x ∈ l, x.length ≤ maxLen) : ∀ (d i : Nat), l.length - i = d → i ≤ l.length → Ev (fun k => laws_eqInt64SS.l0 k l l i) true := by
  unfold maxLen at hl
  intro d
  induction d with
  | zero =>
    intro i hd hi
    refine Ev.step (fun k => by simp only [laws_eqInt64SS.l0]; rfl) ?_
    simp only [show ¬ ((i : Int) < (l.length : Int)) by omega, if_false]
    exact Ev.now _
  | succ d ih =>
    intro i hd hi
    have hil : i < l.length := by omega
    refine Ev.step (fun k => by simp only [laws_eqInt64SS.l0]; rfl) ?_
    simp only [show ((i : Int) < (l.length : Int)) by omega, show (0 : Int) ≤ (i : Int) by omega, if_true, w64 (show -9223372036854775808 ≤ (i : Int) + 1 by omega) (by omega), rdL1_nat l i hil]
    refine Ev.bind (eqInt64S_ev l[i] (hx _ (List.getElem_mem hil))) ?_
    simp only [if_true]
    exact ih (i + 1) (by omega) (by omega)
theorem eqInt64SS_ev (l : List (List Int)) (hl : l.length ≤ maxLen) (hx : ∀ x ∈ l, x.length ≤ maxLen) : Ev (fun k => laws_eqInt64SS.f k l l) true := by
  unfold laws_eqInt64SS.f
  simp only [if_true]
  exact eqInt64SS_l0 l hl hx l.length 0 (by omega) (by omega)
theorem eqGraph_ev (a : Int) (l : List (List Int)) (hl : l.length ≤ maxLen) (hx : ∀ x ∈ l, x.length ≤ maxLen) : Ev (fun k => laws_eqGraph.f k a l a l) true := by
  unfold laws_eqGraph.f
  simp only [if_true]
  refine Ev.bind (eqInt64SS_ev l hl hx) ?_
  simp only [if_true]
  exact Ev.now _
/-! ### what a graph is -/
def endIn (a n : Int) : Bool := decide (0 ≤ n) && decide (n ≤ wrap64 (a - 1))
def edgeIn (a : Int) (e : List Int) : Bool := decide (e.length = 2) && (endIn a (rd e 0) && endIn a (rd e 1))
def isG (a : Int) (l : List (List Int)) : Bool := decide (1 ≤ a) && (decide (a ≤ 8) && (decide (l.length ≤ 10) && l.all (edgeIn a)))
theorem within_eq (a b c : Int) : impl_within.f a b c = some (decide (b ≤ a) && decide (a ≤ c)) := by
  unfold impl_within.f
  by_cases h : b ≤ a <;> simp [h]
theorem l01In_eq (a b c : Int) : spec_l01In.f a b c = some (decide (b ≤ a) && decide (a ≤ c)) := by
  unfold spec_l01In.f
  by_cases h : b ≤ a <;> simp [h]
theorem impl_IsGraph_l0 (a : Int) (l : List (List Int)) (hl : l.length ≤ maxLen) : ∀ (d i : Nat), l.length - i = d → i ≤ l.length → Ev (fun k => impl_IsGraph.l0 k l l.length i a l) ((l.drop i).all (edgeIn a) && (decide (1 ≤ a) && (decide (a ≤ 8) && decide (l.length ≤ 10)))) := by
  unfold maxLen at hl
  intro d
  induction d with
  | zero =>
    intro i hd hi
    refine Ev.step (fun k => by simp only [impl_IsGraph.l0]; rfl) ?_
    simp only [show ¬ ((i : Int) < (l.length : Int)) by omega, if_false, within_eq, Option.bind_some, List.drop_of_length_le (show l.length ≤ i by omega), List.all_nil, Bool.true_and]
    by_cases h1 : 1 ≤ a
    · by_cases h2 : a ≤ 8
      · simp only [h1, h2, decide_true, Bool.true_and, if_true]
        exact Ev.congr (fun k => by congr 1; simp; omega) (Ev.now _)
      · simp only [h1, h2, decide_true, decide_false, Bool.true_and, Bool.false_and, Bool.false_eq_true, if_false]
        exact Ev.now _
    · simp only [h1, decide_false, Bool.false_and, Bool.false_eq_true, if_false]
      exact Ev.now _
  | succ d ih =>
    intro i hd hi
    have hil : i < l.length := by omega
    refine Ev.step (fun k => by simp only [impl_IsGraph.l0]; rfl) ?_
    have hdrop : (l.drop i).all (edgeIn a) = (edgeIn a l[i] && (l.drop (i + 1)).all (edgeIn a)) := by rw [List.drop_eq_getElem_cons hil, List.all_cons]
    rw [hdrop]
    simp only [show ((i : Int) < (l.length : Int)) by omega, show (0 : Int) ≤ (i : Int) by omega, if_true, w64 (show -9223372036854775808 ≤ (i : Int) + 1 by omega) (by omega), rdL1_nat l i hil, within_eq, Option.bind_some]
    unfold edgeIn endIn
    by_cases h2 : l[i].length = 2
    · simp only [h2, decide_true, Bool.true_and, show ((2 : Nat) : Int) = 2 from rfl, if_true, show (0 : Int) < 2 by omega, show (1 : Int) < 2 by omega]
      by_cases h3 : (decide (0 ≤ rd l[i] 0) && decide (rd l[i] 0 ≤ wrap64 (a - 1))) = true
      · by_cases h4 : (decide (0 ≤ rd l[i] 1) && decide (rd l[i] 1 ≤ wrap64 (a - 1))) = true
        · simp only [h3, h4, if_true, Bool.true_and]
          exact ih (i + 1) (by omega) (by omega)
        · simp only [Bool.not_eq_true] at h4
          simp only [h3, h4, if_true, Bool.false_and, Bool.and_false, Bool.false_eq_true, if_false]
          exact Ev.now _
      · simp only [Bool.not_eq_true] at h3
        simp only [h3, Bool.false_and, Bool.false_eq_true, if_false]
        exact Ev.now _
    · simp only [show ¬ ((l[i].length : Int) = 2) by omega, h2, decide_false, Bool.false_and, if_false]
      exact Ev.now _
theorem impl_IsGraph_ev (a : Int) (l : List (List Int)) (hl : l.length ≤ maxLen) : Ev (fun k => impl_IsGraph.f k a l) (isG a l) := by
  unfold impl_IsGraph.f
  have h := impl_IsGraph_l0 a l hl l.length 0 (by omega) (by omega)
  have e : ((l.drop 0).all (edgeIn a) && (decide (1 ≤ a) && (decide (a ≤ 8) && decide (l.length ≤ 10)))) = isG a l := by
    unfold isG
    rw [List.drop_zero]
    cases l.all (edgeIn a) <;> simp
  rw [e] at h
  exact h
theorem spec_l01Is_l0 (a : Int) (l : List (List Int)) (hl : l.length ≤ maxLen) : ∀ (d i : Nat), l.length - i = d → i ≤ l.length → Ev (fun k => spec_l01Is.l0 k i a l) ((l.drop i).all (edgeIn a)) := by
  unfold maxLen at hl
  intro d
  induction d with
  | zero =>
    intro i hd hi
    refine Ev.step (fun k => by simp only [spec_l01Is.l0]; rfl) ?_
    simp only [show ¬ ((i : Int) < (l.length : Int)) by omega, if_false, List.drop_of_length_le (show l.length ≤ i by omega), List.all_nil]
    exact Ev.now _
  | succ d ih =>
    intro i hd hi
    have hil : i < l.length := by omega
    refine Ev.step (fun k => by simp only [spec_l01Is.l0]; rfl) ?_
    have hdrop : (l.drop i).all (edgeIn a) = (edgeIn a l[i] && (l.drop (i + 1)).all (edgeIn a)) := by rw [List.drop_eq_getElem_cons hil, List.all_cons]
    rw [hdrop]
    simp only [show ((i : Int) < (l.length : Int)) by omega, show (0 : Int) ≤ (i : Int) by omega, if_true, w64 (show -9223372036854775808 ≤ (i : Int) + 1 by omega) (by omega), rdL1_nat l i hil, l01In_eq, Option.bind_some]
    unfold edgeIn endIn
    by_cases h2 : l[i].length = 2
    · simp only [h2, decide_true, Bool.true_and, show ((2 : Nat) : Int) = 2 from rfl, if_true, show (0 : Int) < 2 by omega, show (1 : Int) < 2 by omega]
      by_cases h3 : (decide (0 ≤ rd l[i] 0) && decide (rd l[i] 0 ≤ wrap64 (a - 1))) = true
      · by_cases h4 : (decide (0 ≤ rd l[i] 1) && decide (rd l[i] 1 ≤ wrap64 (a - 1))) = true
        · simp only [h3, h4, if_true, Bool.true_and]
          exact ih (i + 1) (by omega) (by omega)
        · simp only [Bool.not_eq_true] at h4
          simp only [h3, h4, if_true, Bool.false_and, Bool.and_false, Bool.false_eq_true, if_false]
          exact Ev.now _
      · simp only [Bool.not_eq_true] at h3
        simp only [h3, Bool.false_and, Bool.false_eq_true, if_false]
        exact Ev.now _
    · simp only [show ¬ ((l[i].length : Int) = 2) by omega, h2, decide_false, Bool.false_and, if_false]
      exact Ev.now _
theorem spec_l01Is_ev (a : Int) (l : List (List Int)) (hl : l.length ≤ maxLen) : Ev (fun k => spec_l01Is.f k a l) (isG a l) := by
  unfold spec_l01Is.f isG
  simp only [l01In_eq, Option.bind_some]
  have hj : ∀ b, Ev (fun k => spec_l01Is.j0 k b a l) (!b && l.all (edgeIn a)) := by
    intro b
    refine Ev.step (fun k => by simp only [spec_l01Is.j0]; rfl) ?_
    cases b with
    | true => simp only [if_true, Bool.not_true, Bool.false_and]; exact Ev.now _
    | false =>
      simp only [Bool.false_eq_true, if_false, Bool.not_false, Bool.true_and]
      exact spec_l01Is_l0 a l hl l.length 0 (by omega) (by omega)
  by_cases h1 : 1 ≤ a
  · by_cases h2 : a ≤ 8
    · simp only [h1, h2, decide_true, Bool.true_and, if_true]
      have h := hj (decide ((l.length : Int) > 10))
      have e : (!decide ((l.length : Int) > 10)) = decide (l.length ≤ 10) := by
        by_cases h : l.length ≤ 10
        · simp [h]; omega
        · simp [h]; omega
      rw [e] at h
      exact h
    · simp only [h1, h2, decide_true, decide_false, Bool.true_and, Bool.false_and, Bool.false_eq_true, if_false]
      exact hj true
  · simp only [h1, decide_false, Bool.false_and, Bool.false_eq_true, if_false]
    exact hj true
def chipsOK (a : Int) (c : List Int) : Bool := decide ((c.length : Int) = a) && !(c.any badChip)
theorem badChip_eq (x : Int) : (decide (-200 ≤ x) && decide (x ≤ 200)) = !badChip x := by unfold badChip; simp
theorem l10Chips_l1 (a : Int) (l : List (List Int)) (c : List Int) (hc : c.length ≤ maxLen) : ∀ (d i : Nat), c.length - i = d → i ≤ c.length → Ev (fun k => spec_l10Chips.l1 k [c] 0 i a l) (if (c.drop i).any badChip then 2 else 0) := by
  unfold maxLen at hc
  intro d
  induction d with
  | zero =>
    intro i hd hi
    refine Ev.step (fun k => by simp only [spec_l10Chips.l1]; rfl) ?_
    simp only [show (0 : Int) ≤ 0 by omega, show ((0 : Int) < (([c] : List (List Int)).length : Int)) by simp, if_true, show rd_L1 [c] 0 = c from rfl, show ¬ ((i : Int) < (c.length : Int)) by omega, if_false, List.drop_of_length_le (show c.length ≤ i by omega), List.any_nil, Bool.false_eq_true]
    refine Ev.step (fun k => by simp only [spec_l10Chips.l0]; rfl) ?_
    simp only [w64 (show -9223372036854775808 ≤ (0 : Int) + 1 by omega) (by omega), show ¬ ((0 : Int) + 1 < (([c] : List (List Int)).length : Int)) by simp, if_false]
    exact Ev.now _
  | succ d ih =>
    intro i hd hi
    have hil : i < c.length := by omega
    refine Ev.step (fun k => by simp only [spec_l10Chips.l1]; rfl) ?_
    simp only [show (0 : Int) ≤ 0 by omega, show ((0 : Int) < (([c] : List (List Int)).length : Int)) by simp, if_true, show rd_L1 [c] 0 = c from rfl, show ((i : Int) < (c.length : Int)) by omega, show (0 : Int) ≤ (i : Int) by omega, l01In_eq, Option.bind_some, rd_nat c i hil, w64 (show -9223372036854775808 ≤ (i : Int) + 1 by omega) (by omega), badChip_eq]
    rw [List.drop_eq_getElem_cons hil, List.any_cons]
    cases hb : badChip c[i] with
    | true => simp only [Bool.not_true, Bool.false_eq_true, if_false, Bool.true_or, if_true]; exact Ev.now _
    | false => simp only [Bool.not_false, if_true, Bool.false_or]; exact ih (i + 1) (by omega) (by omega)
theorem l10Chips_ev (a : Int) (l : List (List Int)) (c : List Int) (hl : l.length ≤ maxLen) (hc : c.length ≤ maxLen) : Ev (fun k => spec_l10Chips.f k a l [c]) (if isG a l then if chipsOK a c then 0 else 2 else 1) := by
  unfold spec_l10Chips.f
  refine Ev.bind (spec_l01Is_ev a l hl) ?_
  cases isG a l with
  | false => simp only [Bool.false_eq_true, if_false]; exact Ev.now _
  | true =>
    simp only [if_true]
    refine Ev.step (fun k => by simp only [spec_l10Chips.l0]; rfl) ?_
    simp only [show ((0 : Int) < (([c] : List (List Int)).length : Int)) by simp, show (0 : Int) ≤ 0 by omega, if_true, show rd_L1 [c] 0 = c from rfl]
    unfold chipsOK
    by_cases h : (c.length : Int) = a
    · simp only [h, if_true, decide_true, Bool.true_and]
      have := l10Chips_l1 a l c hc c.length 0 (by omega) (by omega)
      rw [List.drop_zero] at this
      cases hb : c.any badChip with
      | true => simp only [hb, if_true] at this; simp only [Bool.not_true, Bool.false_eq_true, if_false]; exact this
      | false => simp only [hb, Bool.false_eq_true, if_false] at this; simp only [Bool.not_false, if_true]; exact this
    · simp only [h, if_false, decide_false, Bool.false_and, Bool.false_eq_true]
      exact Ev.now _
def mkS : Nat → Int → List Int
  | 0, _ => []
  | n + 1, a => a :: mkS n (a + 1)
theorem mkS_length (n : Nat) (a : Int) : (mkS n a).length = n := by
  induction n generalizing a with
  | zero => rfl
  | succ n ih => simp [mkS, ih]
theorem markInt64S_l0 : ∀ (d i : Nat) (a : Int) (x : List Int), x.length - i = d → i ≤ x.length → x.length ≤ 1048576 → 0 ≤ a → a + d ≤ 4611686018427387904 → Ev (fun k => laws_markInt64S.l0 k x a i) (a + d, x.take i ++ mkS d a) := by
  intro d
  induction d with
  | zero =>
    intro i a x hd hi hl h0 h1
    refine Ev.step (fun k => by simp only [laws_markInt64S.l0]; rfl) ?_
    simp only [show ¬ ((i : Int) < (x.length : Int)) by omega, if_false, mkS, List.append_nil, List.take_of_length_le (show x.length ≤ i by omega), show a + ((0 : Nat) : Int) = a by omega]
    exact Ev.now _
  | succ d ih =>
    intro i a x hd hi hl h0 h1
    refine Ev.step (fun k => by simp only [laws_markInt64S.l0]; rfl) ?_
    simp only [show ((i : Int) < (x.length : Int)) by omega, show (0 : Int) ≤ (i : Int) by omega, if_true, w64 (show -9223372036854775808 ≤ (i : Int) + 1 by omega) (by omega), w64 (show -9223372036854775808 ≤ a + 1 by omega) (by omega), Int.toNat_natCast]
    have h := ih (i + 1) (a + 1) (x.set i a) (by simp; omega) (by simp; omega) (by simp; omega) (by omega) (by omega)
    have e1 : (x.set i a).take (i + 1) ++ mkS d (a + 1) = x.take i ++ mkS (d + 1) a := by
      rw [List.take_succ_eq_append_getElem (by simp; omega), List.getElem_set_self, List.take_set_of_le (Nat.le_refl _), mkS, List.append_assoc]
      rfl
    have e2 : a + 1 + (d : Int) = a + ((d + 1 : Nat) : Int) := by omega
    rw [e1, e2] at h
    exact h
theorem markInt64S_ev (x : List Int) (a : Int) (hl : x.length ≤ 1048576) (h0 : 0 ≤ a) (h1 : a + x.length ≤ 4611686018427387904) : Ev (fun k => laws_markInt64S.f k x a) (a + x.length, mkS x.length a) := by
  have h := markInt64S_l0 x.length 0 a x (by omega) (by omega) hl h0 h1
  unfold laws_markInt64S.f
  simpa using h
theorem heldInt64S_l0 (x : List Int) (hl : x.length ≤ 1048576) : ∀ (d i : Nat) (a : Int), x.length - i = d → i ≤ x.length → x.drop i = mkS d a → 0 ≤ a → a + d ≤ 4611686018427387904 → Ev (fun k => laws_heldInt64S.l0 k x a i) (a + d) := by
  intro d
  induction d with
  | zero =>
    intro i a hd hi hx h0 h1
    refine Ev.step (fun k => by simp only [laws_heldInt64S.l0]; rfl) ?_
    simp only [show ¬ ((i : Int) < (x.length : Int)) by omega, if_false, show a + ((0 : Nat) : Int) = a by omega]
    exact Ev.now _
  | succ d ih =>
    intro i a hd hi hx h0 h1
    have hil : i < x.length := by omega
    rw [List.drop_eq_getElem_cons hil, mkS] at hx
    injection hx with hx1 hx2
    refine Ev.step (fun k => by simp only [laws_heldInt64S.l0]; rfl) ?_
    simp only [show ((i : Int) < (x.length : Int)) by omega, show (0 : Int) ≤ (i : Int) by omega, if_true, rd_nat x i hil, hx1, w64 (show -9223372036854775808 ≤ (i : Int) + 1 by omega) (by omega), w64 (show -9223372036854775808 ≤ a + 1 by omega) (by omega)]
    have h := ih (i + 1) (a + 1) (by omega) (by omega) hx2 (by omega) (by omega)
    have e2 : a + 1 + (d : Int) = a + ((d + 1 : Nat) : Int) := by omega
    rw [e2] at h
    exact h
theorem heldInt64S_ev (n : Nat) (a : Int) (hl : n ≤ 1048576) (h0 : 0 ≤ a) (h1 : a + n ≤ 4611686018427387904) : Ev (fun k => laws_heldInt64S.f k (mkS n a) a) (a + n) :=
  heldInt64S_l0 (mkS n a) (by rw [mkS_length]; exact hl) n 0 a (by rw [mkS_length]; rfl) (by omega) (by simp) h0 h1
def tot : List (List Int) → Nat
  | [] => 0
  | x :: xs => x.length + tot xs
def mkSS : List (List Int) → Int → List (List Int)
  | [], _ => []
  | x :: xs, a => mkS x.length a :: mkSS xs (a + x.length)
theorem tot_le (xs : List (List Int)) (m : Nat) (h : ∀ x ∈ xs, x.length ≤ m) : tot xs ≤ xs.length * m := by
  induction xs with
  | nil => simp [tot]
  | cons x xs ih =>
    have h1 := h x List.mem_cons_self
    have h2 := ih (fun y hy => h y (List.mem_cons_of_mem _ hy))
    simp only [tot, List.length_cons, Nat.succ_mul]
    omega
theorem tot_small (xs : List (List Int)) (hl : xs.length ≤ 1048576) (h : ∀ x ∈ xs, x.length ≤ 1048576) : tot xs ≤ 1099511627776 := by
  have h1 := tot_le xs 1048576 h
  have h2 := Nat.mul_le_mul_right 1048576 hl
  omega
theorem markInt64SS_l0 : ∀ (d i : Nat) (a : Int) (x : List (List Int)), x.length - i = d → i ≤ x.length → x.length ≤ 1048576 → (∀ y ∈ x.drop i, y.length ≤ 1048576) → 0 ≤ a → a + tot (x.drop i) ≤ 4611686018427387904 → Ev (fun k => laws_markInt64SS.l0 k x a i) (a + tot (x.drop i), x.take i ++ mkSS (x.drop i) a) := by
  intro d
  induction d with
  | zero =>
    intro i a x hd hi hl hx h0 h1
    refine Ev.step (fun k => by simp only [laws_markInt64SS.l0]; rfl) ?_
    simp only [show ¬ ((i : Int) < (x.length : Int)) by omega, if_false, List.drop_of_length_le (show x.length ≤ i by omega), mkSS, tot, List.append_nil, List.take_of_length_le (show x.length ≤ i by omega), show a + ((0 : Nat) : Int) = a by omega]
    exact Ev.now _
  | succ d ih =>
    intro i a x hd hi hl hx h0 h1
    have hil : i < x.length := by omega
    rw [List.drop_eq_getElem_cons hil] at hx h1 ⊢
    simp only [tot] at h1 ⊢
    have hxi := hx _ List.mem_cons_self
    refine Ev.step (fun k => by simp only [laws_markInt64SS.l0]; rfl) ?_
    have hrd : rdL x (i : Int) = x[i] := by simp [rdL, List.getD_eq_getElem?_getD, hil]
    simp only [show ((i : Int) < (x.length : Int)) by omega, show (0 : Int) ≤ (i : Int) by omega, if_true, w64 (show -9223372036854775808 ≤ (i : Int) + 1 by omega) (by omega), Int.toNat_natCast, hrd]
    refine Ev.bind (markInt64S_ev x[i] a hxi h0 (by omega)) ?_
    have hdrop : (x.set i (mkS x[i].length a)).drop (i + 1) = x.drop (i + 1) := by rw [List.drop_set_of_lt (by omega)]
    have h := ih (i + 1) (a + x[i].length) (x.set i (mkS x[i].length a)) (by simp; omega) (by simp; omega) (by simp; omega) (by rw [hdrop]; exact fun y hy => hx y (List.mem_cons_of_mem _ hy)) (by omega) (by rw [hdrop]; omega)
    rw [hdrop] at h
    have e1 : (x.set i (mkS x[i].length a)).take (i + 1) ++ mkSS (x.drop (i + 1)) (a + x[i].length) = x.take i ++ mkSS (x[i] :: x.drop (i + 1)) a := by
      rw [List.take_succ_eq_append_getElem (by simp; omega), List.getElem_set_self, List.take_set_of_le (Nat.le_refl _), mkSS, List.append_assoc]
      rfl
    have e2 : a + (x[i].length : Int) + ((tot (x.drop (i + 1)) : Nat) : Int) = a + ((x[i].length + tot (x.drop (i + 1)) : Nat) : Int) := by omega
    rw [e1, e2] at h
    exact h
theorem markInt64SS_ev (x : List (List Int)) (a : Int) (hl : x.length ≤ 1048576) (hx : ∀ y ∈ x, y.length ≤ 1048576) (h0 : 0 ≤ a) (h1 : a + tot x ≤ 4611686018427387904) : Ev (fun k => laws_markInt64SS.f k x a) (a + tot x, mkSS x a) := by
  have h := markInt64SS_l0 x.length 0 a x (by omega) (by omega) hl (by simpa using hx) h0 (by simpa using h1)
  unfold laws_markInt64SS.f
  simpa using h
theorem tdiv2 (e : Nat) : Int.tdiv (e : Int) 2 = ((e / 2 : Nat) : Int) := rfl
theorem tmod2 (e : Nat) : Int.tmod (e : Int) 2 = ((e % 2 : Nat) : Int) := rfl
/-- Where the directed edge e begins, and where it ends. -/
def begAt (l : List (List Int)) (e : Nat) : Int := rd (rd_L1 l ((e / 2 : Nat) : Int)) ((e % 2 : Nat) : Int)
def endAt (l : List (List Int)) (e : Nat) : Int := rd (rd_L1 l ((e / 2 : Nat) : Int)) ((1 - e % 2 : Nat) : Int)
def two (l : List (List Int)) : Prop := ∀ x ∈ l, x.length = 2
theorem isG_two {a : Int} {l : List (List Int)} (h : isG a l = true) : two l := by
  intro x hx
  simp only [isG, Bool.and_eq_true, List.all_eq_true] at h
  have := h.2.2.2 x hx
  simp only [edgeIn, Bool.and_eq_true, decide_eq_true_eq] at this
  exact this.1
theorem isG_len {a : Int} {l : List (List Int)} (h : isG a l = true) : l.length ≤ 10 := by
  simp only [isG, Bool.and_eq_true, decide_eq_true_eq] at h
  exact h.2.2.1
theorem isG_size {a : Int} {l : List (List Int)} (h : isG a l = true) : 1 ≤ a ∧ a ≤ 8 := by
  simp only [isG, Bool.and_eq_true, decide_eq_true_eq] at h
  exact ⟨h.1, h.2.1⟩
theorem isG_edge {a : Int} {l : List (List Int)} (h : isG a l = true) {x : List Int} (hx : x ∈ l) : (0 ≤ rd x 0 ∧ rd x 0 ≤ a - 1) ∧ (0 ≤ rd x 1 ∧ rd x 1 ≤ a - 1) := by
  have hs := isG_size h
  simp only [isG, Bool.and_eq_true, List.all_eq_true] at h
  have := h.2.2.2 x hx
  simp only [edgeIn, endIn, Bool.and_eq_true, decide_eq_true_eq] at this
  rw [w64 (by omega) (by omega)] at this
  exact this.2
theorem two_at {l : List (List Int)} (h2 : two l) (e : Nat) (he : e < 2 * l.length) : (rd_L1 l ((e / 2 : Nat) : Int)).length = 2 := by
  have hi : e / 2 < l.length := by omega
  rw [rdL1_nat l (e / 2) hi]
  exact h2 _ (List.getElem_mem hi)
theorem l01Ends_eq (a : Int) (l : List (List Int)) (hl : l.length ≤ 1048576) (h2 : two l) (e : Nat) (he : e < 2 * l.length) : spec_l01Ends.f a l e = some (begAt l e, endAt l e) := by
  have hx := two_at h2 e he
  unfold spec_l01Ends.f
  rw [tdiv2, tmod2, w64 (by omega) (by omega), if_pos (by omega), if_pos (by omega), hx]
  unfold begAt endAt
  rcases Nat.mod_two_eq_zero_or_one e with h | h
  · rw [h]; rfl
  · rw [h]; rfl
/-- The other direction of e's edge. -/
def opp (e : Nat) : Nat := if e % 2 = 0 then e + 1 else e - 1
/-- May f come behind e. -/
def next (l : List (List Int)) (e f : Nat) : Bool := decide (endAt l e = begAt l f) && !decide (f = opp e)
theorem square_l0 (n : Nat) (hn : n ≤ 1048576) : ∀ (d i : Nat), n - i = d → i ≤ n → Ev (fun k => impl_square.l0 k n (List.replicate i (List.replicate n 0)) n i) (List.replicate n (List.replicate n 0)) := by
  intro d
  induction d with
  | zero =>
    intro i hd hi
    obtain rfl : i = n := by omega
    refine Ev.step (fun k => by simp only [impl_square.l0]; rfl) ?_
    simp only [Int.lt_irrefl, if_false]
    exact Ev.now _
  | succ d ih =>
    intro i hd hi
    refine Ev.step (fun k => by simp only [impl_square.l0]; rfl) ?_
    simp only [show ((i : Int) < (n : Int)) by omega, show (0 : Int) ≤ (n : Int) by omega, Int.toNat_natCast, show n ≤ 35184372088832 by omega, List.length_replicate, show i < 5864062014805 by omega, if_true, w64 (show -9223372036854775808 ≤ (i : Int) + 1 by omega) (by omega)]
    have h := ih (i + 1) (by omega) (by omega)
    rw [List.replicate_succ'] at h
    exact h
theorem square_ev (n : Nat) (hn : n ≤ 1048576) : Ev (fun k => impl_square.f k n) (List.replicate n (List.replicate n 0)) := square_l0 n hn n 0 (by omega) (by omega)
/-- The two ends of edge i of a graph, as numbers below n. -/
def endsIn (n : Nat) (l : List (List Int)) : Prop := ∀ i, i < l.length → (rd_L1 l (i : Int)).length = 2 ∧ ∃ u v : Nat, rd (rd_L1 l (i : Int)) 0 = u ∧ rd (rd_L1 l (i : Int)) 1 = v ∧ u < n ∧ v < n
theorem isG_ends {a : Int} {l : List (List Int)} (h : isG a l = true) : ∃ n : Nat, a = n ∧ 1 ≤ n ∧ n ≤ 8 ∧ endsIn n l := by
  have hs := isG_size h
  refine ⟨a.toNat, by omega, by omega, by omega, fun i hi => ?_⟩
  have hm : l[i] ∈ l := List.getElem_mem hi
  rw [rdL1_nat l i hi]
  have he := isG_edge h hm
  exact ⟨isG_two h _ hm, (rd l[i] 0).toNat, (rd l[i] 1).toNat, by omega, by omega, by omega, by omega⟩
/-- How often v is an end of the first i edges. -/
def degN (l : List (List Int)) : Nat → Nat → Nat
  | 0, _ => 0
  | i + 1, v => degN l i v + (if rd (rd_L1 l (i : Int)) 0 = (v : Int) then 1 else 0) + (if rd (rd_L1 l (i : Int)) 1 = (v : Int) then 1 else 0)
theorem degN_le (l : List (List Int)) (i v : Nat) : degN l i v ≤ 2 * i := by
  induction i with
  | zero => simp [degN]
  | succ i ih =>
    unfold degN
    have h1 : (if rd (rd_L1 l (i : Int)) 0 = (v : Int) then 1 else 0) ≤ 1 := by split <;> omega
    have h2 : (if rd (rd_L1 l (i : Int)) 1 = (v : Int) then 1 else 0) ≤ 1 := by split <;> omega
    omega
theorem l01Degree_l0 (a : Int) (l : List (List Int)) (hl : l.length ≤ 1048576) (h2 : two l) (v : Nat) : ∀ (d i : Nat), l.length - i = d → i ≤ l.length → Ev (fun k => spec_l01Degree.l0 k v (degN l i v : Int) i a l) (degN l l.length v : Int) := by
  intro d
  induction d with
  | zero =>
    intro i hd hi
    obtain rfl : i = l.length := by omega
    refine Ev.step (fun k => by simp only [spec_l01Degree.l0]; rfl) ?_
    simp only [Int.lt_irrefl, if_false]
    exact Ev.now _
  | succ d ih =>
    intro i hd hi
    have hil : i < l.length := by omega
    have hx : (rd_L1 l (i : Int)).length = 2 := by rw [rdL1_nat l i hil]; exact h2 _ (List.getElem_mem hil)
    have hdn := degN_le l i v
    have h := ih (i + 1) (by omega) (by omega)
    have hend : ∀ z : Nat, z ≤ 2 * i + 2 → z = degN l (i + 1) v → Ev (fun k => spec_l01Degree.l1 k v (z : Int) i 2 a l) (degN l l.length v : Int) := by
      intro z hz1 hz
      refine Ev.step (fun k => by simp only [spec_l01Degree.l1]; rfl) ?_
      simp only [Int.lt_irrefl, if_false, w64 (show -9223372036854775808 ≤ (i : Int) + 1 by omega) (by omega)]
      rw [hz]
      exact h
    have hone : ∀ z : Nat, z ≤ 2 * i + 1 → z = degN l i v + (if rd (rd_L1 l (i : Int)) 0 = (v : Int) then 1 else 0) → Ev (fun k => spec_l01Degree.l1 k v (z : Int) i 1 a l) (degN l l.length v : Int) := by
      intro z hz1 hz
      refine Ev.step (fun k => by simp only [spec_l01Degree.l1]; rfl) ?_
      simp only [show ((1 : Int) < 2) by omega, show ((0 : Int) ≤ 1) by omega, show (0 : Int) ≤ (i : Int) by omega, show ((i : Int) < (l.length : Int)) by omega, hx, show ((1 : Int) < ((2 : Nat) : Int)) by omega, if_true, w64 (show -9223372036854775808 ≤ (1 : Int) + 1 by omega) (by omega)]
      by_cases hc : rd (rd_L1 l (i : Int)) 1 = (v : Int)
      · simp only [hc, if_true, w64 (show -9223372036854775808 ≤ (z : Int) + 1 by omega) (by omega)]
        have := hend (z + 1) (by omega) (by unfold degN; rw [if_pos hc, ← hz])
        simpa using this
      · simp only [hc, if_false]
        have := hend z (by omega) (by unfold degN; rw [if_neg hc, ← hz]; rfl)
        simpa using this
    refine Ev.step (fun k => by simp only [spec_l01Degree.l0]; rfl) ?_
    simp only [show ((i : Int) < (l.length : Int)) by omega, if_true]
    refine Ev.step (fun k => by simp only [spec_l01Degree.l1]; rfl) ?_
    simp only [show ((0 : Int) < 2) by omega, show (0 : Int) ≤ (i : Int) by omega, show ((i : Int) < (l.length : Int)) by omega, hx, show ((0 : Int) ≤ 0) by omega, show ((0 : Int) < ((2 : Nat) : Int)) by omega, if_true, w64 (show -9223372036854775808 ≤ (0 : Int) + 1 by omega) (by omega)]
    by_cases hc : rd (rd_L1 l (i : Int)) 0 = (v : Int)
    · simp only [hc, if_true, w64 (show -9223372036854775808 ≤ ((degN l i v : Nat) : Int) + 1 by omega) (by omega)]
      have := hone (degN l i v + 1) (by omega) (by rw [if_pos hc])
      simpa using this
    · simp only [hc, if_false]
      have := hone (degN l i v) (by omega) (by rw [if_neg hc]; rfl)
      simpa using this
theorem l01Degree_ev (a : Int) (l : List (List Int)) (hl : l.length ≤ 1048576) (h2 : two l) (v : Nat) : Ev (fun k => spec_l01Degree.f k a l v) (degN l l.length v : Int) :=
  l01Degree_l0 a l hl h2 v l.length 0 (by omega) (by omega)
/-- A row and a square of numbers, by their places. -/
def vrow (n : Nat) (g : Nat → Int) : List Int := (List.range n).map g
def vmat (n : Nat) (f : Nat → Nat → Int) : List (List Int) := (List.range n).map fun i => vrow n (f i)
theorem vrow_length (n : Nat) (g : Nat → Int) : (vrow n g).length = n := by simp [vrow]
theorem vmat_length (n : Nat) (f : Nat → Nat → Int) : (vmat n f).length = n := by simp [vmat]
theorem vrow_rd {n : Nat} {g : Nat → Int} {v : Nat} (h : v < n) : rd (vrow n g) (v : Int) = g v := by
  rw [rd_nat _ _ (by rw [vrow_length]; exact h)]
  simp [vrow]
theorem vmat_row {n : Nat} {f : Nat → Nat → Int} {u : Nat} (h : u < n) : rd_L1 (vmat n f) (u : Int) = vrow n (f u) := by
  rw [rdL1_nat _ _ (by rw [vmat_length]; exact h)]
  simp [vmat]
theorem vrow_congr {n : Nat} {g h : Nat → Int} (e : ∀ j, j < n → g j = h j) : vrow n g = vrow n h := by
  unfold vrow
  apply List.map_congr_left
  intro j hj
  exact e j (List.mem_range.mp hj)
theorem vmat_congr {n : Nat} {f h : Nat → Nat → Int} (e : ∀ i j, i < n → j < n → f i j = h i j) : vmat n f = vmat n h := by
  unfold vmat
  apply List.map_congr_left
  intro i hi
  exact vrow_congr fun j hj => e i j (List.mem_range.mp hi) hj
theorem vrow_set {n : Nat} (g : Nat → Int) (v : Nat) (x : Int) : (vrow n g).set v x = vrow n (fun j => if j = v then x else g j) := by
  apply List.ext_getElem
  · rw [List.length_set, vrow_length, vrow_length]
  intro j h1 h2
  rw [List.getElem_set]
  simp only [vrow, List.getElem_map, List.getElem_range]
  by_cases h : v = j
  · subst h; simp
  · rw [if_neg h, if_neg (fun e => h e.symm)]
theorem vmat_set {n : Nat} (f : Nat → Nat → Int) (u : Nat) (g : Nat → Int) : (vmat n f).set u (vrow n g) = vmat n (fun i j => if i = u then g j else f i j) := by
  apply List.ext_getElem
  · rw [List.length_set, vmat_length, vmat_length]
  intro i h1 h2
  rw [List.getElem_set]
  simp only [vmat, List.getElem_map, List.getElem_range]
  by_cases h : u = i
  · subst h; simp
  · rw [if_neg h]; exact vrow_congr fun j _ => by rw [if_neg (fun e => h e.symm)]
/-- One place written. -/
theorem vmat_upd {n : Nat} (f : Nat → Nat → Int) (u : Nat) (hu : u < n) (v : Nat) (x : Int) : (vmat n f).set u ((rd_L1 (vmat n f) (u : Int)).set v x) = vmat n (fun i j => if i = u ∧ j = v then x else f i j) := by
  rw [vmat_row hu, vrow_set, vmat_set]
  refine vmat_congr fun i j _ _ => ?_
  by_cases h : i = u
  · subst h; simp
  · simp [h]
theorem vmat_zero (n : Nat) : List.replicate n (List.replicate n (0 : Int)) = vmat n (fun _ _ => 0) := by
  have h0 : ∀ m : Nat, vrow m (fun _ => 0) = List.replicate m 0 := fun m => by
    apply List.ext_getElem
    · simp [vrow]
    · intro i _ _; simp [vrow]
  apply List.ext_getElem
  · simp [vmat]
  · intro i _ _; simp [vmat, h0]
theorem vrow_of {n : Nat} {c : List Int} (h : c.length = n) : c = vrow n (fun w => rd c (w : Int)) := by
  apply List.ext_getElem
  · rw [vrow_length]; exact h
  · intro i h1 h2
    simp only [vrow, List.getElem_map, List.getElem_range]
    rw [rd_nat _ _ h1]
/-- How many of the first d directed edges lead from u to v. -/
def adjN (l : List (List Int)) : Nat → Nat → Nat → Int
  | 0, _, _ => 0
  | d + 1, u, v => adjN l d u v + (if begAt l d = (u : Int) ∧ endAt l d = (v : Int) then 1 else 0)
theorem adjN_le (l : List (List Int)) (d u v : Nat) : 0 ≤ adjN l d u v ∧ adjN l d u v ≤ d := by
  induction d with
  | zero => simp [adjN]
  | succ d ih =>
    unfold adjN
    have h1 : (0 : Int) ≤ (if begAt l d = (u : Int) ∧ endAt l d = (v : Int) then 1 else 0) ∧ (if begAt l d = (u : Int) ∧ endAt l d = (v : Int) then 1 else 0 : Int) ≤ 1 := by split <;> omega
    omega
theorem dart_ends {n : Nat} {l : List (List Int)} (hE : endsIn n l) (d : Nat) (hd : d < 2 * l.length) : ∃ u v : Nat, begAt l d = u ∧ endAt l d = v ∧ u < n ∧ v < n := by
  obtain ⟨_, u, v, hu, hv, hun, hvn⟩ := hE (d / 2) (by omega)
  unfold begAt endAt
  rcases Nat.mod_two_eq_zero_or_one d with h | h
  · rw [h]; exact ⟨u, v, hu, hv, hun, hvn⟩
  · rw [h]; exact ⟨v, u, hv, hu, hvn, hun⟩
theorem endsIn_two {n : Nat} {l : List (List Int)} (hE : endsIn n l) : two l := by
  intro x hx
  obtain ⟨i, hi, rfl⟩ := List.mem_iff_getElem.mp hx
  have h := (hE i hi).1
  rwa [rdL1_nat l i hi] at h
theorem adjacency_l1 (n : Nat) (hn : n ≤ 8) (a : Int) (l : List (List Int)) (hl : l.length ≤ 10) (hE : endsIn n l) : ∀ (q d : Nat), 2 * l.length - d = q → d ≤ 2 * l.length → Ev (fun k => spec_l01Adjacency.l1 k (vmat n (adjN l d)) d a l) (vmat n (adjN l (2 * l.length))) := by
  intro q
  induction q with
  | zero =>
    intro d hq hd
    obtain rfl : d = 2 * l.length := by omega
    refine Ev.step (fun k => by simp only [spec_l01Adjacency.l1]; rfl) ?_
    rw [w64 (show -9223372036854775808 ≤ 2 * (l.length : Int) by omega) (by omega)]
    simp only [show ¬ (((2 * l.length : Nat) : Int) < 2 * (l.length : Int)) by omega, if_false]
    exact Ev.now _
  | succ q ih =>
    intro d hq hd
    have hdl : d < 2 * l.length := by omega
    obtain ⟨u, v, hu, hv, hun, hvn⟩ := dart_ends hE d hdl
    have hb := adjN_le l d u v
    refine Ev.step (fun k => by simp only [spec_l01Adjacency.l1]; rfl) ?_
    rw [w64 (show -9223372036854775808 ≤ 2 * (l.length : Int) by omega) (by omega)]
    simp only [show ((d : Int) < 2 * (l.length : Int)) by omega, if_true, l01Ends_eq a l (by omega) (endsIn_two hE) d hdl, Option.bind_some, hu, hv, show (0 : Int) ≤ (u : Int) by omega, show (0 : Int) ≤ (v : Int) by omega, vmat_length, show ((u : Int) < (n : Int)) by omega, vmat_row hun, vrow_length, show ((v : Int) < (n : Int)) by omega, vrow_rd hvn, Int.toNat_natCast]
    rw [w64 (show -9223372036854775808 ≤ adjN l d u v + 1 by omega) (by omega), w64 (show -9223372036854775808 ≤ (d : Int) + 1 by omega) (by omega)]
    have e := vmat_upd (adjN l d) u hun v (adjN l d u v + 1)
    rw [vmat_row hun] at e
    rw [e, show vmat n (fun i j => if i = u ∧ j = v then adjN l d u v + 1 else adjN l d i j) = vmat n (adjN l (d + 1)) from vmat_congr fun i j _ _ => by
      rw [adjN, hu, hv]
      by_cases h : i = u ∧ j = v
      · obtain ⟨rfl, rfl⟩ := h; simp
      · rw [if_neg h, if_neg (by omega)]; omega]
    exact ih (d + 1) (by omega) (by omega)
theorem adjacency_l0 (n : Nat) (hn : n ≤ 8) (l : List (List Int)) (hl : l.length ≤ 10) (hE : endsIn n l) : ∀ (q i : Nat), n - i = q → i ≤ n → Ev (fun k => spec_l01Adjacency.l0 k (List.replicate i (List.replicate n 0)) i n l) (vmat n (adjN l (2 * l.length))) := by
  intro q
  induction q with
  | zero =>
    intro i hq hi
    obtain rfl : i = n := by omega
    refine Ev.step (fun k => by simp only [spec_l01Adjacency.l0]; rfl) ?_
    simp only [Int.lt_irrefl, if_false]
    rw [vmat_zero]
    exact adjacency_l1 i hn i l hl hE (2 * l.length) 0 (by omega) (by omega)
  | succ q ih =>
    intro i hq hi
    refine Ev.step (fun k => by simp only [spec_l01Adjacency.l0]; rfl) ?_
    simp only [show ((i : Int) < (n : Int)) by omega, if_true, show (0 : Int) ≤ (n : Int) by omega, Int.toNat_natCast, show n ≤ 35184372088832 by omega, List.length_replicate, show i < 5864062014805 by omega, w64 (show -9223372036854775808 ≤ (i : Int) + 1 by omega) (by omega)]
    rw [show List.replicate i (List.replicate n (0 : Int)) ++ [List.replicate n 0] = List.replicate (i + 1) (List.replicate n 0) from by rw [List.replicate_succ']]
    exact ih (i + 1) (by omega) (by omega)
theorem l01Adjacency_ev (n : Nat) (hn : n ≤ 8) (l : List (List Int)) (hl : l.length ≤ 10) (hE : endsIn n l) : Ev (fun k => spec_l01Adjacency.f k n l) (vmat n (adjN l (2 * l.length))) := adjacency_l0 n hn l hl hE n 0 (by omega) (by omega)
/-- The Laplacian behind the first i edges. -/
def lapF (l : List (List Int)) (i u v : Nat) : Int := -(adjN l (2 * i) u v) + (if u = v then (degN l i u : Int) else 0)
theorem lapF_le (l : List (List Int)) (i u v : Nat) : -(2 * (i : Int)) ≤ lapF l i u v ∧ lapF l i u v ≤ 2 * i := by
  have h1 := adjN_le l (2 * i) u v
  have h2 := degN_le l i u
  unfold lapF
  split <;> omega
theorem l10Laplacian_l1 (n : Nat) (hn : n ≤ 8) (l : List (List Int)) (hl : l.length ≤ 10) (hE : endsIn n l) (v : Nat) (hv : v < n) (R : List (List Int))
    (next : Ev (fun k => spec_l10Laplacian.l0 k (vmat n (fun r j => if r ≤ v then lapF l l.length r j else adjN l (2 * l.length) r j)) ((v + 1 : Nat) : Int) n l) R) :
    ∀ (q i : Nat), n - i = q → i ≤ n → Ev (fun k => spec_l10Laplacian.l1 k (vmat n (fun r j => if r < v then lapF l l.length r j else if r = v ∧ j < i then -(adjN l (2 * l.length) r j) else adjN l (2 * l.length) r j)) v i n l) R := by
  intro q
  induction q with
  | zero =>
    intro i hq hi
    obtain rfl : i = n := by omega
    have hd := degN_le l l.length v
    have ha := adjN_le l (2 * l.length) v v
    refine Ev.step (fun k => by simp only [spec_l10Laplacian.l1]; rfl) ?_
    simp only [Int.lt_irrefl, if_false, show (0 : Int) ≤ (v : Int) by omega, if_true, vmat_row hv, vrow_length, show ((v : Int) < (i : Int)) by omega, vrow_rd hv, Int.toNat_natCast]
    refine Ev.bind (l01Degree_ev i l (by omega) (endsIn_two hE) v) ?_
    simp only [Nat.lt_irrefl, if_false, true_and, hv, if_true]
    rw [w64 (show -9223372036854775808 ≤ -adjN l (2 * l.length) v v + (degN l l.length v : Int) by omega) (by omega), w64 (show -9223372036854775808 ≤ (v : Int) + 1 by omega) (by omega), vrow_set, vmat_set]
    refine Ev.congr (fun k => ?_) next
    rw [show ((v + 1 : Nat) : Int) = (v : Int) + 1 by omega]
    congr 1
    refine vmat_congr fun r j hr hj => ?_
    rcases Nat.lt_trichotomy r v with h | h | h
    · simp only [show r ≠ v by omega, show r < v by omega, show r ≤ v by omega, if_true, if_false]
    · subst h
      simp only [Nat.lt_irrefl, Nat.le_refl, true_and, hj, if_true, if_false]
      unfold lapF
      by_cases e : j = r
      · subst e; simp
      · rw [if_neg e, if_neg (fun e2 => e e2.symm)]; omega
    · simp only [show r ≠ v by omega, show ¬ r < v by omega, show ¬ r ≤ v by omega, if_false, false_and]
  | succ q ih =>
    intro i hq hi
    have hin : i < n := by omega
    have ha := adjN_le l (2 * l.length) v i
    refine Ev.step (fun k => by simp only [spec_l10Laplacian.l1]; rfl) ?_
    simp only [show ((i : Int) < (n : Int)) by omega, if_true, show (0 : Int) ≤ (i : Int) by omega, vmat_row hv, vrow_length, vrow_rd hin, Nat.lt_irrefl, if_false, and_false, Int.toNat_natCast]
    rw [w64 (show -9223372036854775808 ≤ -adjN l (2 * l.length) v i by omega) (by omega), w64 (show -9223372036854775808 ≤ (i : Int) + 1 by omega) (by omega), vrow_set, vmat_set]
    refine Ev.congr (fun k => ?_) (ih (i + 1) (by omega) (by omega))
    rw [show ((i + 1 : Nat) : Int) = (i : Int) + 1 by omega]
    congr 1
    refine vmat_congr fun r j hr hj => ?_
    by_cases h : r = v
    · subst h
      simp only [Nat.lt_irrefl, if_false, if_true, true_and]
      by_cases e : j = i
      · subst e; simp
      · rw [if_neg e]
        by_cases e2 : j < i
        · rw [if_pos e2, if_pos (by omega)]
        · rw [if_neg e2, if_neg (by omega)]
    · simp only [h, if_false, false_and]
theorem l10Laplacian_l0 (n : Nat) (hn : n ≤ 8) (l : List (List Int)) (hl : l.length ≤ 10) (hE : endsIn n l) : ∀ (q v : Nat), n - v = q → v ≤ n → Ev (fun k => spec_l10Laplacian.l0 k (vmat n (fun r j => if r < v then lapF l l.length r j else adjN l (2 * l.length) r j)) v n l) (vmat n (lapF l l.length)) := by
  intro q
  induction q with
  | zero =>
    intro v hq hv
    obtain rfl : v = n := by omega
    refine Ev.step (fun k => by simp only [spec_l10Laplacian.l0]; rfl) ?_
    simp only [Int.lt_irrefl, if_false]
    rw [show vmat v (fun r j => if r < v then lapF l l.length r j else adjN l (2 * l.length) r j) = vmat v (lapF l l.length) from vmat_congr fun r j hr _ => by rw [if_pos hr]]
    exact Ev.now _
  | succ q ih =>
    intro v hq hv
    have hvn : v < n := by omega
    refine Ev.step (fun k => by simp only [spec_l10Laplacian.l0]; rfl) ?_
    simp only [show ((v : Int) < (n : Int)) by omega, if_true, show (0 : Int) ≤ (v : Int) by omega, vmat_length]
    have nx := ih (v + 1) (by omega) (by omega)
    have h := l10Laplacian_l1 n hn l hl hE v hvn _ (by simpa only [Nat.lt_succ_iff] using nx) n 0 (by omega) (by omega)
    simp only [Nat.not_lt_zero, and_false, if_false] at h
    exact h
theorem l10Laplacian_ev (n : Nat) (hn : n ≤ 8) (l : List (List Int)) (hl : l.length ≤ 10) (hE : endsIn n l) : Ev (fun k => spec_l10Laplacian.f k n l) (vmat n (lapF l l.length)) := by
  unfold spec_l10Laplacian.f
  refine Ev.bind (l01Adjacency_ev n hn l hl hE) ?_
  have h := l10Laplacian_l0 n hn l hl hE n 0 (by omega) (by omega)
  simp only [Nat.not_lt_zero, if_false] at h
  exact h
/-- One edge more, laid upon the Laplacian: both ends' own places up, the places between them down. -/
theorem lap_step (n : Nat) (l : List (List Int)) (i u v : Nat) (hu : rd (rd_L1 l (i : Int)) 0 = u) (hv : rd (rd_L1 l (i : Int)) 1 = v) (r j : Nat) :
    lapF l (i + 1) r j = lapF l i r j + (if u = v then 0 else (if r = u ∧ j = u then 1 else 0) - (if r = u ∧ j = v then 1 else 0) + (if r = v ∧ j = v then 1 else 0) - (if r = v ∧ j = u then 1 else 0)) := by
  have b0 : begAt l (2 * i) = u := by unfold begAt; rw [show 2 * i / 2 = i by omega, show 2 * i % 2 = 0 by omega]; exact hu
  have b1 : endAt l (2 * i) = v := by unfold endAt; rw [show 2 * i / 2 = i by omega, show 2 * i % 2 = 0 by omega]; exact hv
  have b2 : begAt l (2 * i + 1) = v := by unfold begAt; rw [show (2 * i + 1) / 2 = i by omega, show (2 * i + 1) % 2 = 1 by omega]; exact hv
  have b3 : endAt l (2 * i + 1) = u := by unfold endAt; rw [show (2 * i + 1) / 2 = i by omega, show (2 * i + 1) % 2 = 1 by omega]; exact hu
  unfold lapF
  rw [show 2 * (i + 1) = 2 * i + 1 + 1 by omega, adjN, adjN, degN, b0, b1, b2, b3, hu, hv]
  clear b0 b1 b2 b3
  have c1 : ((u : Int) = (r : Int)) = (r = u) := propext ⟨by omega, by omega⟩
  have c2 : ((u : Int) = (j : Int)) = (j = u) := propext ⟨by omega, by omega⟩
  have c3 : ((v : Int) = (r : Int)) = (r = v) := propext ⟨by omega, by omega⟩
  have c4 : ((v : Int) = (j : Int)) = (j = v) := propext ⟨by omega, by omega⟩
  simp only [c1, c2, c3, c4]
  clear c1 c2 c3 c4
  rcases Classical.propComplete (r = u) with h1 | h1 <;> rcases Classical.propComplete (j = u) with h2 | h2 <;> rcases Classical.propComplete (r = v) with h3 | h3 <;> rcases Classical.propComplete (j = v) with h4 | h4 <;> rcases Classical.propComplete (r = j) with h5 | h5 <;> rcases Classical.propComplete (u = v) with h6 | h6 <;>
    first
    | (exfalso; simp only [eq_iff_iff, iff_true, iff_false] at h1 h2 h3 h4 h5 h6; omega)
    | (simp only [h1, h2, h3, h4, h5, h6, if_true, if_false, and_true, and_false, and_self]; omega)
theorem laplacian_l0 (n : Nat) (hn : n ≤ 8) (l : List (List Int)) (hl : l.length ≤ 10) (hE : endsIn n l) : ∀ (q i : Nat), l.length - i = q → i ≤ l.length → Ev (fun k => impl_Graph_laplacian.l0 k (vmat n (lapF l i)) l l.length i) (vmat n (lapF l l.length)) := by
  intro q
  induction q with
  | zero =>
    intro i hq hi
    obtain rfl : i = l.length := by omega
    refine Ev.step (fun k => by simp only [impl_Graph_laplacian.l0]; rfl) ?_
    simp only [Int.lt_irrefl, if_false]
    exact Ev.now _
  | succ q ih =>
    intro i hq hi
    have hil : i < l.length := by omega
    obtain ⟨h2, u, v, hu, hv, hun, hvn⟩ := hE i hil
    have hlap := fun r j => lapF_le l i r j
    refine Ev.step (fun k => by simp only [impl_Graph_laplacian.l0]; rfl) ?_
    simp only [show ((i : Int) < (l.length : Int)) by omega, if_true, show (0 : Int) ≤ (i : Int) by omega, h2, show ((0 : Int) < ((2 : Nat) : Int)) by omega, show ((1 : Int) < ((2 : Nat) : Int)) by omega, hu, hv, Int.natCast_inj, w64 (show -9223372036854775808 ≤ (i : Int) + 1 by omega) (by omega)]
    by_cases e : u = v
    · simp only [e, if_true]
      have nx := ih (i + 1) (by omega) (by omega)
      rw [show vmat n (lapF l (i + 1)) = vmat n (lapF l i) from vmat_congr fun r j _ _ => by rw [lap_step n l i u v hu hv r j, if_pos e]; omega] at nx
      exact nx
    · have e' : ¬ v = u := fun h => e h.symm
      simp only [e, if_false]
      refine Ev.step (fun k => by simp only [impl_Graph_laplacian.l1]; rfl) ?_
      simp only [show ((0 : Int) < ((2 : Nat) : Int)) by omega, if_true, Int.le_refl, h2, hu, vmat_length, show (0 : Int) ≤ (u : Int) by omega, show ((u : Int) < (n : Int)) by omega, vmat_row hun, vrow_length, vrow_rd hun, Option.bind_some, show wrap64 (1 - 0) = 1 from w64 (by omega) (by omega), show (0 : Int) ≤ 1 by omega, show ((1 : Int) < ((2 : Nat) : Int)) by omega, hv, show (0 : Int) ≤ (v : Int) by omega, show ((v : Int) < (n : Int)) by omega, Int.toNat_natCast, vrow_set, vmat_set, vrow_rd hvn, show wrap64 (0 + 1) = 1 from w64 (by omega) (by omega), e', if_false]
      rw [w64 (show -9223372036854775808 ≤ lapF l i u u + 1 by have := hlap u u; omega) (by have := hlap u u; omega), w64 (show -9223372036854775808 ≤ lapF l i u v - 1 by have := hlap u v; omega) (by have := hlap u v; omega)]
      refine Ev.step (fun k => by simp only [impl_Graph_laplacian.l1]; rfl) ?_
      simp only [show ((1 : Int) < ((2 : Nat) : Int)) by omega, if_true, show (0 : Int) ≤ 1 by omega, h2, hv, vmat_length, show (0 : Int) ≤ (v : Int) by omega, show ((v : Int) < (n : Int)) by omega, vmat_row hvn, vrow_length, vrow_rd hvn, Option.bind_some, show wrap64 (1 - 1) = 0 from w64 (by omega) (by omega), Int.le_refl, show ((0 : Int) < ((2 : Nat) : Int)) by omega, hu, show (0 : Int) ≤ (u : Int) by omega, show ((u : Int) < (n : Int)) by omega, Int.toNat_natCast, vrow_set, vmat_set, vrow_rd hun, show wrap64 (1 + 1) = 2 from w64 (by omega) (by omega), e', e, if_false]
      rw [w64 (show -9223372036854775808 ≤ lapF l i v v + 1 by have := hlap v v; omega) (by have := hlap v v; omega), w64 (show -9223372036854775808 ≤ lapF l i v u - 1 by have := hlap v u; omega) (by have := hlap v u; omega)]
      refine Ev.step (fun k => by simp only [impl_Graph_laplacian.l1]; rfl) ?_
      simp only [show ¬ ((2 : Int) < ((2 : Nat) : Int)) by omega, if_false, w64 (show -9223372036854775808 ≤ (i : Int) + 1 by omega) (by omega)]
      refine Ev.congr (fun k => ?_) (ih (i + 1) (by omega) (by omega))
      rw [show ((i + 1 : Nat) : Int) = (i : Int) + 1 by omega]
      congr 1
      refine vmat_congr fun r j _ _ => ?_
      rw [lap_step n l i u v hu hv r j, if_neg e]
      by_cases h1 : r = v
      · subst h1
        by_cases h2 : j = u
        · subst h2; first | (simp [e, fun h : r = j => e h.symm]; done) | (simp [e, fun h : r = j => e h.symm]; omega)
        · by_cases h3 : j = r
          · subst h3; first | (simp [h2]; done) | (simp [h2]; omega)
          · simp [h2, h3, fun h : r = u => e h.symm]
      · by_cases h4 : r = u
        · subst h4
          by_cases h2 : j = v
          · subst h2; first | (simp [h1, fun h : j = r => h1 h.symm]; done) | (simp [h1, fun h : j = r => h1 h.symm]; omega)
          · by_cases h3 : j = r
            · subst h3; first | (simp [h1]; done) | (simp [h1, h2]; done) | (simp [h1]; omega)
            · simp [h1, h2, h3]
        · simp [h1, h4]
theorem laplacian_ev (n : Nat) (hn : n ≤ 8) (l : List (List Int)) (hl : l.length ≤ 10) (hE : endsIn n l) : Ev (fun k => impl_Graph_laplacian.f k n l) (vmat n (lapF l l.length)) := by
  unfold impl_Graph_laplacian.f
  refine Ev.bind (square_ev n (by omega)) ?_
  rw [vmat_zero, show vmat n (fun _ _ => (0 : Int)) = vmat n (lapF l 0) from vmat_congr fun i j _ _ => by simp [lapF, adjN, degN]]
  exact laplacian_l0 n hn l hl hE l.length 0 (by omega) (by omega)
/-- The chips with vertex v fired. -/
def fireL (n : Nat) (l : List (List Int)) (c : List Int) (v : Nat) : List Int := vrow n (fun w => rd c (w : Int) - lapF l l.length v w)
theorem chip_in {c : List Int} (h : c.any badChip = false) (w : Nat) (hw : w < c.length) : -200 ≤ rd c (w : Int) ∧ rd c (w : Int) ≤ 200 := by
  rw [rd_nat c w hw]
  have := List.any_eq_false.mp h _ (List.getElem_mem hw)
  unfold badChip at this
  simp at this
  exact this
theorem set_rd (v i : Nat) (hv : v < 8) : rdOf false ((List.replicate 8 false).set v true) (i : Int) = decide (i = v) := by
  unfold rdOf
  rw [List.getD_eq_getElem?_getD, Int.toNat_natCast, List.getElem?_set]
  by_cases h : v = i
  · subst h; simp [hv]
  · rw [if_neg h, List.getElem?_replicate]
    by_cases h8 : i < 8
    · simp [h8]; omega
    · simp [h8]; omega
theorem l10Fire_l1 (n : Nat) (hn : n ≤ 8) (l : List (List Int)) (hl : l.length ≤ 10) (c : List Int) (hc : c.length = n) (hb : c.any badChip = false) (v : Nat) (hv : v < n) (R : List Int)
    (next : Ev (fun k => spec_l10Fire.l0 k (vmat n (lapF l l.length)) ((List.replicate 8 false).set v true) 1 (fireL n l c v) ((v + 1 : Nat) : Int)) R) :
    ∀ (q j : Nat), n - j = q → j ≤ n → Ev (fun k => spec_l10Fire.l1 k (vmat n (lapF l l.length)) ((List.replicate 8 false).set v true) 1 (vrow n (fun w => if w < j then rd c (w : Int) - lapF l l.length v w else rd c (w : Int))) v j) R := by
  intro q
  induction q with
  | zero =>
    intro j hq hj
    obtain rfl : j = n := by omega
    refine Ev.step (fun k => by simp only [spec_l10Fire.l1]; rfl) ?_
    simp only [vmat_length, Int.lt_irrefl, if_false, w64 (show -9223372036854775808 ≤ (v : Int) + 1 by omega) (by omega)]
    refine Ev.congr (fun k => ?_) next
    rw [show ((v + 1 : Nat) : Int) = (v : Int) + 1 by omega]
    congr 1
    exact vrow_congr fun w hw => by rw [if_pos hw]
  | succ q ih =>
    intro j hq hj
    have hjn : j < n := by omega
    have h1 := lapF_le l l.length v j
    have h2 := chip_in hb j (by omega)
    refine Ev.step (fun k => by simp only [spec_l10Fire.l1]; rfl) ?_
    simp only [vmat_length, show ((j : Int) < (n : Int)) by omega, if_true, show (0 : Int) ≤ (v : Int) by omega, show ((v : Int) < 8) by omega, set_rd v v (by omega), decide_true, show (0 : Int) ≤ (j : Int) by omega, vrow_length, show ((v : Int) < (n : Int)) by omega, vmat_row hv, vrow_rd hjn, Nat.lt_irrefl, if_false, Int.toNat_natCast, Int.one_mul, w64 (show -9223372036854775808 ≤ lapF l l.length v j by omega) (by omega), w64 (show -9223372036854775808 ≤ rd c (j : Int) - lapF l l.length v j by omega) (by omega), w64 (show -9223372036854775808 ≤ (j : Int) + 1 by omega) (by omega), vrow_set]
    refine Ev.congr (fun k => ?_) (ih (j + 1) (by omega) (by omega))
    rw [show ((j + 1 : Nat) : Int) = (j : Int) + 1 by omega]
    congr 1
    refine vrow_congr fun w hw => ?_
    by_cases e : w = j
    · subst e; simp
    · rw [if_neg e]
      by_cases e2 : w < j
      · rw [if_pos e2, if_pos (by omega)]
      · rw [if_neg e2, if_neg (by omega)]
theorem l10Fire_l0 (n : Nat) (hn : n ≤ 8) (l : List (List Int)) (hl : l.length ≤ 10) (c : List Int) (hc : c.length = n) (hb : c.any badChip = false) (v : Nat) (hv : v < n) : ∀ (q i : Nat), n - i = q → i ≤ n →
    Ev (fun k => spec_l10Fire.l0 k (vmat n (lapF l l.length)) ((List.replicate 8 false).set v true) 1 (if v < i then fireL n l c v else c) i) (fireL n l c v) := by
  intro q
  induction q with
  | zero =>
    intro i hq hi
    obtain rfl : i = n := by omega
    refine Ev.step (fun k => by simp only [spec_l10Fire.l0]; rfl) ?_
    simp only [vmat_length, Int.lt_irrefl, if_false, hv, if_true]
    exact Ev.now _
  | succ q ih =>
    intro i hq hi
    have hin : i < n := by omega
    have nx := ih (i + 1) (by omega) (by omega)
    refine Ev.step (fun k => by simp only [spec_l10Fire.l0]; rfl) ?_
    simp only [vmat_length, show ((i : Int) < (n : Int)) by omega, if_true]
    by_cases e : i = v
    · subst e
      rw [if_pos (by omega)] at nx
      rw [if_neg (by omega)]
      have h := l10Fire_l1 n hn l hl c hc hb i hv _ nx n 0 (by omega) (by omega)
      simp only [Nat.not_lt_zero, if_false] at h
      rw [← vrow_of hc] at h
      exact h
    · refine Ev.step (fun k => by simp only [spec_l10Fire.l1]; rfl) ?_
      simp only [vmat_length, show ((0 : Int) < (n : Int)) by omega, if_true, show (0 : Int) ≤ (i : Int) by omega, show ((i : Int) < 8) by omega, set_rd v i (by omega), show decide (i = v) = false from decide_eq_false e, Bool.false_eq_true, if_false, w64 (show -9223372036854775808 ≤ (i : Int) + 1 by omega) (by omega)]
      rw [show (if v < i + 1 then fireL n l c v else c) = (if v < i then fireL n l c v else c) by
        by_cases e2 : v < i
        · rw [if_pos e2, if_pos (by omega)]
        · rw [if_neg e2, if_neg (by omega)]] at nx
      exact nx
theorem l10Fire_ev (n : Nat) (hn : n ≤ 8) (l : List (List Int)) (hl : l.length ≤ 10) (c : List Int) (hc : c.length = n) (hb : c.any badChip = false) (v : Nat) (hv : v < n) : Ev (fun k => spec_l10Fire.f k (vmat n (lapF l l.length)) c v 1) (fireL n l c v) := by
  unfold spec_l10Fire.f spec_l10Fire.fA spec_l01Own.f
  simp only [List.length_nil, Nat.zero_add, show c.length < 17592186044416 by omega, if_true, List.nil_append, Option.bind_some, Int.toNat_natCast]
  have h := l10Fire_l0 n hn l hl c hc hb v hv n 0 (by omega) (by omega)
  simp only [Nat.not_lt_zero, if_false] at h
  exact h
def fireW (n : Nat) (l : List (List Int)) (c : List Int) (v i j : Nat) : List Int := vrow n (fun w => rd c (w : Int) - if v < i ∨ v = i ∧ w < j then lapF l l.length v w else 0)
theorem times_rd (n v i : Nat) (hv : v < n) (hi : i < n) : rd ((List.replicate n (0 : Int)).set v 1) (i : Int) = if i = v then 1 else 0 := by
  rw [rd_nat _ _ (by simp; exact hi), List.getElem_set]
  by_cases h : v = i
  · subst h; simp
  · rw [if_neg h, if_neg (fun e => h e.symm)]; simp
theorem fired_l1 (n : Nat) (hn : n ≤ 8) (l : List (List Int)) (hl : l.length ≤ 10) (c : List Int) (hc : c.length = n) (hb : c.any badChip = false) (v : Nat) (hv : v < n) (i : Nat) (hi : i < n) (R : List Int)
    (next : Ev (fun k => impl_Graph_fired.l0 k ((List.replicate n 0).set v 1) (fireW n l c v (i + 1) 0) (vmat n (lapF l l.length)) n ((i + 1 : Nat) : Int)) R) :
    ∀ (q j : Nat), n - j = q → j ≤ n → Ev (fun k => impl_Graph_fired.l1 k ((List.replicate n 0).set v 1) (fireW n l c v i j) i (vmat n (lapF l l.length)) n i n j) R := by
  intro q
  induction q with
  | zero =>
    intro j hq hj
    obtain rfl : j = n := by omega
    refine Ev.step (fun k => by simp only [impl_Graph_fired.l1]; rfl) ?_
    simp only [Int.lt_irrefl, if_false, w64 (show -9223372036854775808 ≤ (i : Int) + 1 by omega) (by omega)]
    refine Ev.congr (fun k => ?_) next
    rw [show ((i + 1 : Nat) : Int) = (i : Int) + 1 by omega]
    congr 1
    unfold fireW
    refine vrow_congr fun w hw => ?_
    by_cases e : v < i ∨ v = i
    · rw [if_pos (by omega), if_pos (by omega)]
    · rw [if_neg (by omega), if_neg (by omega)]
  | succ q ih =>
    intro j hq hj
    have hjn : j < n := by omega
    have h1 := lapF_le l l.length i j
    have h3 := lapF_le l l.length v j
    have h2 := chip_in hb j (by omega)
    refine Ev.step (fun k => by simp only [impl_Graph_fired.l1]; rfl) ?_
    have hrd : rd (fireW n l c v i j) (j : Int) = rd c (j : Int) - (if v < i then lapF l l.length v j else 0) := by
      unfold fireW
      rw [vrow_rd hjn]
      by_cases e : v < i
      · rw [if_pos (Or.inl e), if_pos e]
      · rw [if_neg (by omega), if_neg e]
    have hlen : (fireW n l c v i j).length = n := vrow_length _ _
    simp only [show ((j : Int) < (n : Int)) by omega, if_true, show (0 : Int) ≤ (j : Int) by omega, vmat_row hi, vrow_length, hlen, show (0 : Int) ≤ (i : Int) by omega, List.length_set, List.length_replicate, show ((i : Int) < (n : Int)) by omega, vrow_rd hjn, times_rd n v i hv hi, hrd, Int.toNat_natCast, w64 (show -9223372036854775808 ≤ (j : Int) + 1 by omega) (by omega)]
    refine Ev.congr (fun k => ?_) (ih (j + 1) (by omega) (by omega))
    rw [show ((j + 1 : Nat) : Int) = (j : Int) + 1 by omega]
    congr 1
    unfold fireW
    rw [vrow_set]
    by_cases e : i = v
    · subst e
      rw [if_pos rfl, Int.mul_one, if_neg (Nat.lt_irrefl _), w64 (show -9223372036854775808 ≤ lapF l l.length i j by omega) (by omega), w64 (show -9223372036854775808 ≤ rd c (j : Int) - 0 - lapF l l.length i j by omega) (by omega)]
      refine vrow_congr fun w hw => ?_
      by_cases e2 : w = j
      · subst e2; rw [if_pos rfl, if_pos (by omega)]; omega
      · rw [if_neg e2]
        by_cases e3 : w < j
        · rw [if_pos (by omega), if_pos (by omega)]
        · rw [if_neg (by omega), if_neg (by omega)]
    · rw [if_neg e, Int.mul_zero, w64 (show -9223372036854775808 ≤ (0 : Int) by omega) (by omega), w64 (by split <;> omega) (by split <;> omega)]
      refine vrow_congr fun w hw => ?_
      by_cases e2 : w = j
      · subst e2
        rw [if_pos rfl]
        by_cases e3 : v < i
        · rw [if_pos e3, if_pos (by omega)]; omega
        · rw [if_neg e3, if_neg (by omega)]; omega
      · rw [if_neg e2]
        by_cases e3 : v < i
        · rw [if_pos (by omega), if_pos (by omega)]
        · rw [if_neg (by omega), if_neg (by omega)]
theorem fired_l0 (n : Nat) (hn : n ≤ 8) (l : List (List Int)) (hl : l.length ≤ 10) (c : List Int) (hc : c.length = n) (hb : c.any badChip = false) (v : Nat) (hv : v < n) : ∀ (q i : Nat), n - i = q → i ≤ n →
    Ev (fun k => impl_Graph_fired.l0 k ((List.replicate n 0).set v 1) (fireW n l c v i 0) (vmat n (lapF l l.length)) n i) (fireL n l c v) := by
  intro q
  induction q with
  | zero =>
    intro i hq hi
    obtain rfl : i = n := by omega
    refine Ev.step (fun k => by simp only [impl_Graph_fired.l0]; rfl) ?_
    simp only [Int.lt_irrefl, if_false]
    rw [show fireW i l c v i 0 = fireL i l c v from vrow_congr fun w _ => by rw [if_pos (Or.inl hv)]]
    exact Ev.now _
  | succ q ih =>
    intro i hq hi
    have hin : i < n := by omega
    refine Ev.step (fun k => by simp only [impl_Graph_fired.l0]; rfl) ?_
    simp only [vmat_length, show ((i : Int) < (n : Int)) by omega, if_true, show (0 : Int) ≤ (i : Int) by omega, vmat_row hin, vrow_length]
    exact fired_l1 n hn l hl c hc hb v hv i hin _ (ih (i + 1) (by omega) (by omega)) n 0 (by omega) (by omega)
theorem fired_ev (n : Nat) (hn : n ≤ 8) (l : List (List Int)) (hl : l.length ≤ 10) (hE : endsIn n l) (c : List Int) (hc : c.length = n) (hb : c.any badChip = false) (v : Nat) (hv : v < n) : Ev (fun k => impl_Graph_fired.f k n l c ((List.replicate n 0).set v 1)) (fireL n l c v) := by
  unfold impl_Graph_fired.f slices_Clone_int64_int64.f
  simp only [show c.length < 17592186044416 by omega, if_true, Option.bind_some]
  refine Ev.bind (laplacian_ev n hn l hl hE) ?_
  have h := fired_l0 n hn l hl c hc hb v hv n 0 (by omega) (by omega)
  rw [show fireW n l c v 0 0 = c from by
    rw [vrow_of hc]
    unfold fireW
    refine vrow_congr fun w hw => ?_
    rw [if_neg (by omega), vrow_rd hw]
    omega] at h
  simp only [vmat_length]
  exact h
def fireR (a : Int) (l : List (List Int)) (c : List Int) (v : Int) : List Int × Int :=
  if isG a l then if chipsOK a c && endIn a v then (if chipsOK a (fireL a.toNat l c v.toNat) then (fireL a.toNat l c v.toNat, 0) else ([], 3)) else ([], 2) else ([], 1)
theorem chipsOK_n {a : Int} {c : List Int} (h : chipsOK a c = true) : (c.length : Int) = a ∧ c.any badChip = false := by
  unfold chipsOK at h
  simpa using h
theorem spec_FireVertex_ev (a : Int) (l : List (List Int)) (c : List Int) (v : Int) (hl : l.length ≤ maxLen) (hc : c.length ≤ maxLen) : Ev (fun k => spec_FireVertex.f k a l c v) (fireR a l c v) := by
  unfold spec_FireVertex.f fireR
  refine Ev.bind (l10Chips_ev a l c hl hc) ?_
  cases hg : isG a l with
  | false =>
    simp only [Bool.false_eq_true, if_false, show ¬ ((1 : Int) = 0) by omega]
    refine Ev.step (fun k => by simp only [spec_FireVertex.j0]; rfl) ?_
    simp only [Bool.false_eq_true, if_false]
    refine Ev.step (fun k => by simp only [spec_FireVertex.j1]; rfl) ?_
    simp only [show ¬ ((1 : Int) = 0) by omega, if_false]
    exact Ev.now _
  | true =>
    cases hk : chipsOK a c with
    | false =>
      simp only [Bool.false_eq_true, if_false, if_true, show ¬ ((2 : Int) = 0) by omega, Bool.false_and]
      refine Ev.step (fun k => by simp only [spec_FireVertex.j0]; rfl) ?_
      simp only [Bool.false_eq_true, if_false]
      refine Ev.step (fun k => by simp only [spec_FireVertex.j1]; rfl) ?_
      simp only [show ¬ ((2 : Int) = 0) by omega, if_false]
      exact Ev.now _
    | true =>
      simp only [if_true, l01In_eq, Option.bind_some, Bool.true_and]
      refine Ev.step (fun k => by simp only [spec_FireVertex.j0]; rfl) ?_
      rw [show (decide (0 ≤ v) && decide (v ≤ wrap64 (a - 1))) = endIn a v from rfl]
      cases hv : endIn a v with
      | false =>
        simp only [Bool.not_false, if_true, Bool.false_eq_true, if_false]
        refine Ev.step (fun k => by simp only [spec_FireVertex.j1]; rfl) ?_
        simp only [show ¬ ((2 : Int) = 0) by omega, if_false]
        exact Ev.now _
      | true =>
        simp only [Bool.not_true, Bool.false_eq_true, if_false, if_true]
        obtain ⟨n, rfl, hn1, hn8, hE⟩ := isG_ends hg
        have hl10 := isG_len hg
        obtain ⟨hcl, hcb⟩ := chipsOK_n hk
        have hvb : 0 ≤ v ∧ v ≤ (n : Int) - 1 := by
          unfold endIn at hv
          rw [w64 (show -9223372036854775808 ≤ (n : Int) - 1 by omega) (by omega)] at hv
          simpa using hv
        obtain ⟨u, rfl⟩ : ∃ u : Nat, v = u := ⟨v.toNat, by omega⟩
        refine Ev.step (fun k => by simp only [spec_FireVertex.j1]; rfl) ?_
        simp only [if_true, hvb.1, show ((u : Int) < 8) by omega, Int.toNat_natCast]
        refine Ev.bind (l10Laplacian_ev n hn8 l hl10 hE) ?_
        refine Ev.bind (l10Fire_ev n hn8 l hl10 c (by omega) hcb u (by omega)) ?_
        refine Ev.bind (l10Chips_ev n l _ hl (by unfold fireL; rw [vrow_length]; unfold maxLen; omega)) ?_
        simp only [hg, if_true]
        cases hf : chipsOK n (fireL n l c u) with
        | false => simp only [Bool.false_eq_true, if_false, show ¬ ((2 : Int) = 0) by omega]; exact Ev.now _
        | true => simp only [if_true]; exact Ev.now _
theorem impl_FireVertex_ev (a : Int) (l : List (List Int)) (c : List Int) (v : Int) (hl : l.length ≤ maxLen) (hc : c.length ≤ maxLen) : Ev (fun k => impl_FireVertex.f k a l c v) (fireR a l c v) := by
  unfold impl_FireVertex.f fireR
  have h1 : Ev (fun k => impl_FireVertex_1.f k a l a l c v) (if isG a l then if chipsOK a c && endIn a v then 0 else 2 else 1) := by
    unfold impl_FireVertex_1.f
    refine Ev.bind (impl_IsGraph_ev a l hl) ?_
    cases hg : isG a l with
    | false => simp only [Bool.false_eq_true, if_false]; exact Ev.now _
    | true =>
      simp only [if_true, impl_Graph_areChips.f, Option.bind_some, impl_Graph_isVertex.f, within_eq]
      rw [show (decide ((c.length : Int) = a) && !c.any badChip) = chipsOK a c from rfl, show (decide (0 ≤ v) && decide (v ≤ wrap64 (a - 1))) = endIn a v from rfl]
      cases chipsOK a c with
      | false => simp only [Bool.false_eq_true, if_false, Bool.false_and]; exact Ev.now _
      | true =>
        cases endIn a v with
        | false => simp only [Bool.false_eq_true, if_false, if_true, Bool.and_false]; exact Ev.now _
        | true => simp only [if_true, Bool.and_self]; exact Ev.now _
  refine Ev.bind h1 ?_
  cases hg : isG a l with
  | false => simp only [Bool.false_eq_true, if_false, show ¬ ((1 : Int) = 0) by omega]; exact Ev.now _
  | true =>
    cases hk : (chipsOK a c && endIn a v) with
    | false => simp only [Bool.false_eq_true, if_false, if_true, show ¬ ((2 : Int) = 0) by omega]; exact Ev.now _
    | true =>
      rw [Bool.and_eq_true] at hk
      obtain ⟨hk, hv⟩ := hk
      simp only [if_true]
      obtain ⟨n, rfl, hn1, hn8, hE⟩ := isG_ends hg
      have hl10 := isG_len hg
      obtain ⟨hcl, hcb⟩ := chipsOK_n hk
      have hvb : 0 ≤ v ∧ v ≤ (n : Int) - 1 := by
        unfold endIn at hv
        rw [w64 (show -9223372036854775808 ≤ (n : Int) - 1 by omega) (by omega)] at hv
        simpa using hv
      obtain ⟨u, rfl⟩ : ∃ u : Nat, v = u := ⟨v.toNat, by omega⟩
      simp only [show (0 : Int) ≤ (n : Int) by omega, if_true, Int.toNat_natCast, show n ≤ 35184372088832 by omega, Option.bind_some, hvb.1, List.length_replicate, show ((u : Int) < (n : Int)) by omega]
      refine Ev.bind (fired_ev n hn8 l hl10 hE c (by omega) hcb u (by omega)) ?_
      simp only [impl_Graph_areChips.f, Option.bind_some]
      rw [show (decide (((fireL n l c u).length : Int) = (n : Int)) && !(fireL n l c u).any badChip) = chipsOK n (fireL n l c u) from rfl]
      cases hf : chipsOK n (fireL n l c u) with
      | false => simp only [Bool.false_eq_true, if_false]; exact Ev.now _
      | true => simp only [if_true]; exact Ev.now _
theorem main_FnExactFireVertex (a : Int) (l : List (List Int)) (c : List Int) (v : Int) (_ : (Lit.int .i64 a).wf = true) (hl : l.length ≤ maxLen) (_ : ∀ x ∈ l, x.length ≤ maxLen ∧ ∀ n ∈ x, (Lit.int .i64 n).wf = true) (hc : c.length ≤ maxLen) (_ : ∀ n ∈ c, (Lit.int .i64 n).wf = true) (_ : (Lit.int .i64 v).wf = true) :
    ∃ (r : List Int) (e : Int), Ev (fun k => spec_FireVertex.f k a l c v) (r, e) ∧ Ev (fun k => impl_FireVertex.f k a l c v) (r, e) ∧ r.length ≤ 1048576 := by
  refine ⟨(fireR a l c v).1, (fireR a l c v).2, spec_FireVertex_ev a l c v hl hc, impl_FireVertex_ev a l c v hl hc, ?_⟩
  unfold fireR
  cases h : isG a l with
  | false => simp
  | true =>
    have h1 := isG_size h
    simp only [if_true]
    split
    · split
      · simp only [fireL, vrow_length]; omega
      · simp
    · simp


end Go.Proofs.Ytpckiapngjcijaa.D
namespace Go.Proofs.Ytpckiapngjcijaa.Pure
open Go.RowKit Go.Proofs.YtpckiapngjcijaaW.PrintWords Go.Proofs.YtpckiapngjcijaaW.PrintLast Go.Proofs.YtpckiapngjcijaaW.PrintMore Go.Proofs.Ytpckiapngjcijaa.D
theorem FnExactFireVertex : laws_FnExactFireVertex.Pure := by
  intro a0 l0 l1 a2 w0 hm0 hx0 hm1 hx1 w2 hl1
  have hy0 : ∀ x ∈ l0, x.length ≤ maxLen := fun x h => (hx0 x h).1
  obtain ⟨z0, ez0, z01, z02, z03⟩ := szGraph_ev a0 l0 1048576 (by omega) (by omega) hm0 hy0
  by_cases hn0 : z0 < 0
  · obtain ⟨k, hk⟩ := Ev.rounds ez0
    exact Or.inl ⟨k, z0, hn0, hk⟩
  · refine Or.inr ?_
    obtain ⟨hl0, hs0⟩ := z03 (by omega)
    obtain ⟨r0l, r1a, es, ei, br0l⟩ := main_FnExactFireVertex a0 l0 l1 a2 w0 hm0 hx0 hm1 hx1 w2
    have tt0 := tot_small l0 hl0 hs0
    obtain ⟨k0, eFG0⟩ := toGraph_ev a0 l0 (by omega) (fun x h => by have := hs0 x h; omega)
    obtain ⟨k1, eFQ0⟩ := eqGraph_ev a0 l0 hm0 hy0
    obtain ⟨k2, eFG1⟩ := toInt64S_ev l1 (by omega)
    obtain ⟨k3, eFQ1⟩ := eqInt64S_ev l1 hm1
    obtain ⟨k4, eFZ0⟩ := ez0
    obtain ⟨k5, eFS⟩ := es
    obtain ⟨k6, eFI⟩ := ei
    obtain ⟨k7, eFE0⟩ := eqInt64S_ev r0l (Nat.le_trans br0l (by unfold maxLen; omega))
    obtain ⟨k8, eFM0⟩ := markInt64SS_ev l0 (1) hl0 hs0 (by omega) (by omega)
    obtain ⟨k9, eFM1⟩ := markInt64S_ev l1 (1 + (tot l0 : Int)) hl1 (by omega) (by omega)
    obtain ⟨k10, eFN0l⟩ := markInt64S_ev r0l (1) br0l (by omega) (by omega)
    obtain ⟨k11, eFH0⟩ := heldInt64S_ev r0l.length (1) br0l (by omega) (by omega)
    exact ⟨k0 + k1 + k2 + k3 + k4 + k5 + k6 + k7 + k8 + k9 + k10 + k11, z0, r0l, r1a, 1 + (tot l0 : Int), mkSS l0 (1), 1 + (tot l0 : Int) + (l1.length : Int), mkS l1.length (1 + (tot l0 : Int)), 1 + (r0l.length : Int), mkS r0l.length (1), by omega, by omega, by omega, eFG0 _ (by omega), eFQ0 _ (by omega), eFG1 _ (by omega), eFQ1 _ (by omega), eFZ0 _ (by omega), eFS _ (by omega), eFI _ (by omega), eFE0 _ (by omega), eFM0 _ (by omega), eFM1 _ (by omega), eFN0l _ (by omega), eFH0 _ (by omega)⟩

end Go.Proofs.Ytpckiapngjcijaa.Pure
