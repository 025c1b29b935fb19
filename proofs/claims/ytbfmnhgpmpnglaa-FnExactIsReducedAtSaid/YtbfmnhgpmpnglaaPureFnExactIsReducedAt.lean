/- Plain lemmas on the Lean functions that FnExactIsReducedAt reaches, and its pure statement. No condition. -/
import Derived.Test.YtbfmnhgpmpnglaaCx
namespace Go.Proofs.Ytbfmnhgpmpnglaa.C
open Go.RowKit Go.Proofs.YtbfmnhgpmpnglaaW.PrintWords Go.Proofs.YtbfmnhgpmpnglaaW.PrintLast Go.Proofs.YtbfmnhgpmpnglaaW.PrintMore
set_option linter.unusedVariables false
set_option linter.unusedSimpArgs false
theorem w64 {n : Int} (h0 : -9223372036854775808 ≤ n) (h1 : n ≤ 9223372036854775807) : wrap64 n = n := IntWalk.wrap64_in n ⟨h0, h1⟩
theorem fuel {k n : Nat} (h : n < k) : ∃ m, k = m + 1 ∧ n ≤ m := ⟨k - 1, by omega, by omega⟩
theorem rd_nat (l : List Int) (i : Nat) (h : i < l.length) : rd l (i : Int) = l[i] := by
  simp [rd, List.getD_eq_getElem?_getD, h]
theorem rdL1_nat (l : List (List Int)) (i : Nat) (h : i < l.length) : rd_L1 l (i : Int) = l[i] := by
  simp [rd_L1, List.getD_eq_getElem?_getD, h]
theorem take_set {α : Type} (x l : List α) (i : Nat) (hx : x.length = l.length) (hi : i < l.length) (h : x.take i = l.take i) : (x.set i l[i]).take (i + 1) = l.take (i + 1) := by
  apply List.ext_getElem?
  intro j
  rw [List.getElem?_take, List.getElem?_take]
  by_cases hj : j < i + 1
  · rw [if_pos hj, if_pos hj]
    by_cases hji : j = i
    · subst hji
      rw [List.getElem?_set_self (by omega), List.getElem?_eq_getElem hi]
    · rw [List.getElem?_set_ne (by omega)]
      have h2 := congrArg (fun z => z[j]?) h
      simp only [List.getElem?_take] at h2
      rwa [if_pos (by omega), if_pos (by omega)] at h2
  · rw [if_neg hj, if_neg hj]

theorem toInt64S_l0 (l : List Int) (hl : l.length ≤ 35184372088832) : ∀ (d k i : Nat) (x : List Int), l.length - i = d → d < k → i ≤ l.length → x.length = l.length → x.take i = l.take i → laws_toInt64S.l0 k l x i = some l := by
  intro d
  induction d with
  | zero =>
    intro k i x hd hk hi hx ht
    obtain ⟨m, rfl, hm⟩ := fuel hk
    simp only [laws_toInt64S.l0]
    rw [if_neg (by omega)]
    rw [List.take_of_length_le (by omega), List.take_of_length_le (by omega)] at ht
    rw [ht]
  | succ d ih =>
    intro k i x hd hk hi hx ht
    obtain ⟨m, rfl, hm⟩ := fuel hk
    have hil : i < l.length := by omega
    simp only [laws_toInt64S.l0]
    rw [if_pos (by omega), if_pos (by omega), if_pos (by omega), w64 (by omega) (by omega), rd_nat l i hil, Int.toNat_natCast]
    exact ih m (i + 1) _ (by omega) (by omega) (by omega) (by simp [hx]) (take_set x l i hx hil ht)
theorem toInt64S_ev (l : List Int) (hl : l.length ≤ 35184372088832) : Ev (fun k => laws_toInt64S.f k l) l := by
  refine Ev.of (laws_toInt64S.mono l) (k := l.length + 1) ?_
  unfold laws_toInt64S.f
  rw [if_pos (by omega), if_pos (by simpa using hl)]
  exact toInt64S_l0 l hl l.length _ 0 _ (by omega) (by omega) (by omega) (by simp) (by simp)
theorem toInt64SS_l0 (l : List (List Int)) (hl : l.length ≤ 11728124029610) (hx : ∀ x ∈ l, x.length ≤ 35184372088832) : ∀ (d i : Nat) (x : List (List Int)), l.length - i = d → i ≤ l.length → x.length = l.length → x.take i = l.take i → Ev (fun k => laws_toInt64SS.l0 k l x i) l := by
  intro d
  induction d with
  | zero =>
    intro i x hd hi hx ht
    refine Ev.step (fun k => by simp only [laws_toInt64SS.l0]; rfl) ?_
    rw [List.take_of_length_le (by omega), List.take_of_length_le (by omega)] at ht
    simp only [show ¬ ((i : Int) < (l.length : Int)) by omega, if_false, ht]
    exact Ev.now l
  | succ d ih =>
    intro i x hd hi hx' ht
    have hil : i < l.length := by omega
    refine Ev.step (fun k => by simp only [laws_toInt64SS.l0]; rfl) ?_
    simp only [show ((i : Int) < (l.length : Int)) by omega, show (0 : Int) ≤ (i : Int) by omega, show ((i : Int) < (x.length : Int)) by omega, if_true, Int.toNat_natCast, w64 (show -9223372036854775808 ≤ (i : Int) + 1 by omega) (by omega), rdL1_nat l i hil]
    refine Ev.bind (toInt64S_ev l[i] (hx _ (List.getElem_mem hil))) ?_
    exact ih (i + 1) _ (by omega) (by omega) (by simp [hx']) (take_set x l i hx' hil ht)
theorem toInt64SS_ev (l : List (List Int)) (hl : l.length ≤ 11728124029610) (hx : ∀ x ∈ l, x.length ≤ 35184372088832) : Ev (fun k => laws_toInt64SS.f k l) l := by
  unfold laws_toInt64SS.f
  simp only [show (0 : Int) ≤ (l.length : Int) by omega, if_true, Int.toNat_natCast, hl]
  exact toInt64SS_l0 l hl hx l.length 0 _ (by omega) (by omega) (by simp) (by simp)
theorem toGraph_ev (a : Int) (l : List (List Int)) (hl : l.length ≤ 11728124029610) (hx : ∀ x ∈ l, x.length ≤ 35184372088832) : Ev (fun k => laws_toGraph.f k a l) (a, l) := by
  unfold laws_toGraph.f
  exact Ev.bind (toInt64SS_ev l hl hx) (Ev.now _)

theorem szInt64SS_l0 (l : List (List Int)) (hl : l.length ≤ maxLen) (hx : ∀ x ∈ l, x.length ≤ maxLen) : ∀ (d i : Nat) (a : Int), l.length - i = d → i ≤ l.length → 0 ≤ a → a ≤ 1048576 → ∃ r, Ev (fun k => laws_szInt64SS.l0 k l a i) r ∧ r ≤ 1048576 ∧ -1 ≤ r ∧ (0 ≤ r → ∀ x ∈ l.drop i, x.length ≤ 1048576) := by
  unfold maxLen at hl hx
  intro d
  induction d with
  | zero =>
    intro i a hd hi h0 h1
    refine ⟨a, Ev.step (fun k => by simp only [laws_szInt64SS.l0]; rfl) ?_, h1, by omega, fun _ x hx => ?_⟩
    · simp only [show ¬ ((i : Int) < (l.length : Int)) by omega, if_false]
      exact Ev.now _
    · rw [List.drop_of_length_le (by omega)] at hx; simp at hx
  | succ d ih =>
    intro i a hd hi h0 h1
    have hil : i < l.length := by omega
    have hxl := hx _ (List.getElem_mem hil)
    have hs : laws_szInt64S.f l[i] a = some (if a - (l[i].length : Int) < 0 then -1 else a - (l[i].length : Int)) := by
      unfold laws_szInt64S.f
      rw [w64 (by omega) (by omega)]
      split <;> rfl
    by_cases hn : a - (l[i].length : Int) < 0
    · rw [if_pos hn] at hs
      refine ⟨-1, Ev.step (fun k => by simp only [laws_szInt64SS.l0]; rfl) ?_, by omega, by omega, fun h => by omega⟩
      simp only [show ((i : Int) < (l.length : Int)) by omega, show (0 : Int) ≤ (i : Int) by omega, if_true, rdL1_nat l i hil, hs, Option.bind_some]
      exact Ev.now _
    · rw [if_neg hn] at hs
      obtain ⟨r, hr, h2, h3, h4⟩ := ih (i + 1) (a - (l[i].length : Int)) (by omega) (by omega) (by omega) (by omega)
      refine ⟨r, Ev.step (fun k => by simp only [laws_szInt64SS.l0]; rfl) ?_, h2, h3, fun h x hx => ?_⟩
      · simp only [show ((i : Int) < (l.length : Int)) by omega, show (0 : Int) ≤ (i : Int) by omega, if_true, rdL1_nat l i hil, hs, Option.bind_some, hn, if_false, w64 (show -9223372036854775808 ≤ (i : Int) + 1 by omega) (by omega)]
        exact hr
      · rw [List.drop_eq_getElem_cons hil] at hx
        rcases List.mem_cons.1 hx with rfl | hx
        · omega
        · exact h4 h x hx
/-- The sizes that the law lets by. -/
theorem szInt64SS_ev (l : List (List Int)) (a : Int) (ha : 0 ≤ a) (ha1 : a ≤ 1048576) (hl : l.length ≤ maxLen) (hx : ∀ x ∈ l, x.length ≤ maxLen) : ∃ r, Ev (fun k => laws_szInt64SS.f k l a) r ∧ r ≤ 1048576 ∧ -1 ≤ r ∧ (0 ≤ r → l.length ≤ 1048576 ∧ ∀ x ∈ l, x.length ≤ 1048576) := by
  have hl' := hl
  unfold maxLen at hl'
  unfold laws_szInt64SS.f
  rw [w64 (by omega) (by omega)]
  by_cases hn : a - (l.length : Int) < 0
  · refine ⟨-1, ?_, by omega, by omega, fun h => by omega⟩
    simp only [hn, if_true]
    exact Ev.now _
  · obtain ⟨r, hr, h2, h3, h4⟩ := szInt64SS_l0 l hl hx l.length 0 (a - (l.length : Int)) (by omega) (by omega) (by omega) (by omega)
    refine ⟨r, ?_, h2, h3, fun h => ⟨by omega, by simpa using h4 h⟩⟩
    simp only [hn, if_false]
    exact hr
theorem szGraph_ev (s : Int) (l : List (List Int)) (a : Int) (ha : 0 ≤ a) (ha1 : a ≤ 1048576) (hl : l.length ≤ maxLen) (hx : ∀ x ∈ l, x.length ≤ maxLen) : ∃ r, Ev (fun k => laws_szGraph.f k s l a) r ∧ r ≤ 1048576 ∧ -1 ≤ r ∧ (0 ≤ r → l.length ≤ 1048576 ∧ ∀ x ∈ l, x.length ≤ 1048576) := by
  obtain ⟨r, hr, h2, h3, h4⟩ := szInt64SS_ev l a ha ha1 hl hx
  unfold laws_szGraph.f
  by_cases hn : r < 0
  · refine ⟨-1, Ev.bind hr ?_, by omega, by omega, fun h => by omega⟩
    simp only [hn, if_true]
    exact Ev.now _
  · refine ⟨r, Ev.bind hr ?_, h2, h3, h4⟩
    simp only [hn, if_false]
    exact Ev.now _
/-- Equal lists are told equal. -/
theorem eqInt64S_l0 (l : List Int) (hl : l.length ≤ maxLen) : ∀ (d i : Nat), l.length - i = d → i ≤ l.length → Ev (fun k => laws_eqInt64S.l0 k l l i) true := by
  unfold maxLen at hl
  intro d
  induction d with
  | zero =>
    intro i hd hi
    refine Ev.step (fun k => by simp only [laws_eqInt64S.l0]; rfl) ?_
    simp only [show ¬ ((i : Int) < (l.length : Int)) by omega, if_false]
    exact Ev.now _
  | succ d ih =>
    intro i hd hi
    refine Ev.step (fun k => by simp only [laws_eqInt64S.l0]; rfl) ?_
    simp only [show ((i : Int) < (l.length : Int)) by omega, show (0 : Int) ≤ (i : Int) by omega, if_true, w64 (show -9223372036854775808 ≤ (i : Int) + 1 by omega) (by omega)]
    exact ih (i + 1) (by omega) (by omega)
theorem eqInt64S_ev (l : List Int) (hl : l.length ≤ maxLen) : Ev (fun k => laws_eqInt64S.f k l l) true := by
  unfold laws_eqInt64S.f
  simp only [if_true]
  exact eqInt64S_l0 l hl l.length 0 (by omega) (by omega)
theorem eqInt64SS_l0 (l : List (List Int)) (hl : l.length ≤ maxLen) (hx : ∀ x ∈ l, x.length ≤ maxLen) : ∀ (d i : Nat), l.length - i = d → i ≤ l.length → Ev (fun k => laws_eqInt64SS.l0 k l l i) true := by
  unfold maxLen at hl
  intro d
  induction d with
  | zero =>
    intro i hd hi
    refine Ev.step (fun k => by simp only [laws_eqInt64SS.l0]; rfl) ?_
    simp only [show ¬ ((i : Int) < (l.length : Int)) by omega, if_false]
    exact Ev.now _
  | succ d ih =>
    intro i hd hi
    have hil : i < l.length := by omega
    refine Ev.step (fun k => by simp only [laws_eqInt64SS.l0]; rfl) ?_
    simp only [show ((i : Int) < (l.length : Int)) by omega, show (0 : Int) ≤ (i : Int) by omega, if_true, w64 (show -9223372036854775808 ≤ (i : Int) + 1 by omega) (by omega), rdL1_nat l i hil]
    refine Ev.bind (eqInt64S_ev l[i] (hx _ (List.getElem_mem hil))) ?_
    simp only [if_true]
    exact ih (i + 1) (by omega) (by omega)
theorem eqInt64SS_ev (l : List (List Int)) (hl : l.length ≤ maxLen) (hx : ∀ x ∈ l, x.length ≤ maxLen) : Ev (fun k => laws_eqInt64SS.f k l l) true := by
  unfold laws_eqInt64SS.f
  simp only [if_true]
  exact eqInt64SS_l0 l hl hx l.length 0 (by omega) (by omega)
theorem eqGraph_ev (a : Int) (l : List (List Int)) (hl : l.length ≤ maxLen) (hx : ∀ x ∈ l, x.length ≤ maxLen) : Ev (fun k => laws_eqGraph.f k a l a l) true := by
  unfold laws_eqGraph.f
  simp only [if_true]
  refine Ev.bind (eqInt64SS_ev l hl hx) ?_
  simp only [if_true]
  exact Ev.now _
/-! ### what a graph is -/
def endIn (a n : Int) : Bool := decide (0 ≤ n) && decide (n ≤ wrap64 (a - 1))
def edgeIn (a : Int) (e : List Int) : Bool := decide (e.length = 2) && (endIn a (rd e 0) && endIn a (rd e 1))
def isG (a : Int) (l : List (List Int)) : Bool := decide (1 ≤ a) && (decide (a ≤ 8) && (decide (l.length ≤ 10) && l.all (edgeIn a)))
theorem within_eq (a b c : Int) : impl_within.f a b c = some (decide (b ≤ a) && decide (a ≤ c)) := by
  unfold impl_within.f
  by_cases h : b ≤ a <;> simp [h]
theorem l01In_eq (a b c : Int) : spec_l01In.f a b c = some (decide (b ≤ a) && decide (a ≤ c)) := by
  unfold spec_l01In.f
  by_cases h : b ≤ a <;> simp [h]
theorem impl_IsGraph_l0 (a : Int) (l : List (List Int)) (hl : l.length ≤ maxLen) : ∀ (d i : Nat), l.length - i = d → i ≤ l.length → Ev (fun k => impl_IsGraph.l0 k l l.length i a l) ((l.drop i).all (edgeIn a) && (decide (1 ≤ a) && (decide (a ≤ 8) && decide (l.length ≤ 10)))) := by
  unfold maxLen at hl
  intro d
  induction d with
  | zero =>
    intro i hd hi
    refine Ev.step (fun k => by simp only [impl_IsGraph.l0]; rfl) ?_
    simp only [show ¬ ((i : Int) < (l.length : Int)) by omega, if_false, within_eq, Option.bind_some, List.drop_of_length_le (show l.length ≤ i by omega), List.all_nil, Bool.true_and]
    by_cases h1 : 1 ≤ a
    · by_cases h2 : a ≤ 8
      · simp only [h1, h2, decide_true, Bool.true_and, if_true]
        exact Ev.congr (fun k => by congr 1; simp; omega) (Ev.now _)
      · simp only [h1, h2, decide_true, decide_false, Bool.true_and, Bool.false_and, Bool.false_eq_true, if_false]
        exact Ev.now _
    · simp only [h1, decide_false, Bool.false_and, Bool.false_eq_true, if_false]
      exact Ev.now _
  | succ d ih =>
    intro i hd hi
    have hil : i < l.length := by omega
    refine Ev.step (fun k => by simp only [impl_IsGraph.l0]; rfl) ?_
    have hdrop : (l.drop i).all (edgeIn a) = (edgeIn a l[i] && (l.drop (i + 1)).all (edgeIn a)) := by rw [List.drop_eq_getElem_cons hil, List.all_cons]
    rw [hdrop]
    simp only [show ((i : Int) < (l.length : Int)) by omega, show (0 : Int) ≤ (i : Int) by omega, if_true, w64 (show -9223372036854775808 ≤ (i : Int) + 1 by omega) (by omega), rdL1_nat l i hil, within_eq, Option.bind_some]
    unfold edgeIn endIn
    by_cases h2 : l[i].length = 2
    · simp only [h2, decide_true, Bool.true_and, show ((2 : Nat) : Int) = 2 from rfl, if_true, show (0 : Int) < 2 by omega, show (1 : Int) < 2 by omega]
      by_cases h3 : (decide (0 ≤ rd l[i] 0) && decide (rd l[i] 0 ≤ wrap64 (a - 1))) = true
      · by_cases h4 : (decide (0 ≤ rd l[i] 1) && decide (rd l[i] 1 ≤ wrap64 (a - 1))) = true
        · simp only [h3, h4, if_true, Bool.true_and]
          exact ih (i + 1) (by omega) (by omega)
        · simp only [Bool.not_eq_true] at h4
          simp only [h3, h4, if_true, Bool.false_and, Bool.and_false, Bool.false_eq_true, if_false]
          exact Ev.now _
      · simp only [Bool.not_eq_true] at h3
        simp only [h3, Bool.false_and, Bool.false_eq_true, if_false]
        exact Ev.now _
    · simp only [show ¬ ((l[i].length : Int) = 2) by omega, h2, decide_false, Bool.false_and, if_false]
      exact Ev.now _
theorem impl_IsGraph_ev (a : Int) (l : List (List Int)) (hl : l.length ≤ maxLen) : Ev (fun k => impl_IsGraph.f k a l) (isG a l) := by
  unfold impl_IsGraph.f
  have h := impl_IsGraph_l0 a l hl l.length 0 (by omega) (by omega)
  have e : ((l.drop 0).all (edgeIn a) && (decide (1 ≤ a) && (decide (a ≤ 8) && decide (l.length ≤ 10)))) = isG a l := by
    unfold isG
    rw [List.drop_zero]
    cases l.all (edgeIn a) <;> simp
  rw [e] at h
  exact h
theorem spec_l01Is_l0 (a : Int) (l : List (List Int)) (hl : l.length ≤ maxLen) : ∀ (d i : Nat), l.length - i = d → i ≤ l.length → Ev (fun k => spec_l01Is.l0 k i a l) ((l.drop i).all (edgeIn a)) := by
  unfold maxLen at hl
  intro d
  induction d with
  | zero =>
    intro i hd hi
    refine Ev.step (fun k => by simp only [spec_l01Is.l0]; rfl) ?_
    simp only [show ¬ ((i : Int) < (l.length : Int)) by omega, if_false, List.drop_of_length_le (show l.length ≤ i by omega), List.all_nil]
    exact Ev.now _
  | succ d ih =>
    intro i hd hi
    have hil : i < l.length := by omega
    refine Ev.step (fun k => by simp only [spec_l01Is.l0]; rfl) ?_
    have hdrop : (l.drop i).all (edgeIn a) = (edgeIn a l[i] && (l.drop (i + 1)).all (edgeIn a)) := by rw [List.drop_eq_getElem_cons hil, List.all_cons]
    rw [hdrop]
    simp only [show ((i : Int) < (l.length : Int)) by omega, show (0 : Int) ≤ (i : Int) by omega, if_true, w64 (show -9223372036854775808 ≤ (i : Int) + 1 by omega) (by omega), rdL1_nat l i hil, l01In_eq, Option.bind_some]
    unfold edgeIn endIn
    by_cases h2 : l[i].length = 2
    · simp only [h2, decide_true, Bool.true_and, show ((2 : Nat) : Int) = 2 from rfl, if_true, show (0 : Int) < 2 by omega, show (1 : Int) < 2 by omega]
      by_cases h3 : (decide (0 ≤ rd l[i] 0) && decide (rd l[i] 0 ≤ wrap64 (a - 1))) = true
      · by_cases h4 : (decide (0 ≤ rd l[i] 1) && decide (rd l[i] 1 ≤ wrap64 (a - 1))) = true
        · simp only [h3, h4, if_true, Bool.true_and]
          exact ih (i + 1) (by omega) (by omega)
        · simp only [Bool.not_eq_true] at h4
          simp only [h3, h4, if_true, Bool.false_and, Bool.and_false, Bool.false_eq_true, if_false]
          exact Ev.now _
      · simp only [Bool.not_eq_true] at h3
        simp only [h3, Bool.false_and, Bool.false_eq_true, if_false]
        exact Ev.now _
    · simp only [show ¬ ((l[i].length : Int) = 2) by omega, h2, decide_false, Bool.false_and, if_false]
      exact Ev.now _
theorem spec_l01Is_ev (a : Int) (l : List (List Int)) (hl : l.length ≤ maxLen) : Ev (fun k => spec_l01Is.f k a l) (isG a l) := by
  unfold spec_l01Is.f isG
  simp only [l01In_eq, Option.bind_some]
  have hj : ∀ b, Ev (fun k => spec_l01Is.j0 k b a l) (!b && l.all (edgeIn a)) := by
    intro b
    refine Ev.step (fun k => by simp only [spec_l01Is.j0]; rfl) ?_
    cases b with
    | true => simp only [if_true, Bool.not_true, Bool.false_and]; exact Ev.now _
    | false =>
      simp only [Bool.false_eq_true, if_false, Bool.not_false, Bool.true_and]
      exact spec_l01Is_l0 a l hl l.length 0 (by omega) (by omega)
  by_cases h1 : 1 ≤ a
  · by_cases h2 : a ≤ 8
    · simp only [h1, h2, decide_true, Bool.true_and, if_true]
      have h := hj (decide ((l.length : Int) > 10))
      have e : (!decide ((l.length : Int) > 10)) = decide (l.length ≤ 10) := by
        by_cases h : l.length ≤ 10
        · simp [h]; omega
        · simp [h]; omega
      rw [e] at h
      exact h
    · simp only [h1, h2, decide_true, decide_false, Bool.true_and, Bool.false_and, Bool.false_eq_true, if_false]
      exact hj true
  · simp only [h1, decide_false, Bool.false_and, Bool.false_eq_true, if_false]
    exact hj true
def chipsOK (a : Int) (c : List Int) : Bool := decide ((c.length : Int) = a) && !(c.any badChip)
theorem badChip_eq (x : Int) : (decide (-200 ≤ x) && decide (x ≤ 200)) = !badChip x := by unfold badChip; simp
theorem l10Chips_l1 (a : Int) (l : List (List Int)) (c : List Int) (hc : c.length ≤ maxLen) : ∀ (d i : Nat), c.length - i = d → i ≤ c.length → Ev (fun k => spec_l10Chips.l1 k [c] 0 i a l) (if (c.drop i).any badChip then 2 else 0) := by
  unfold maxLen at hc
  intro d
  induction d with
  | zero =>
    intro i hd hi
    refine Ev.step (fun k => by simp only [spec_l10Chips.l1]; rfl) ?_
    simp only [show (0 : Int) ≤ 0 by omega, show ((0 : Int) < (([c] : List (List Int)).length : Int)) by simp, if_true, show rd_L1 [c] 0 = c from rfl, show ¬ ((i : Int) < (c.length : Int)) by omega, if_false, List.drop_of_length_le (show c.length ≤ i by omega), List.any_nil, Bool.false_eq_true]
    refine Ev.step (fun k => by simp only [spec_l10Chips.l0]; rfl) ?_
    simp only [w64 (show -9223372036854775808 ≤ (0 : Int) + 1 by omega) (by omega), show ¬ ((0 : Int) + 1 < (([c] : List (List Int)).length : Int)) by simp, if_false]
    exact Ev.now _
  | succ d ih =>
    intro i hd hi
    have hil : i < c.length := by omega
    refine Ev.step (fun k => by simp only [spec_l10Chips.l1]; rfl) ?_
    simp only [show (0 : Int) ≤ 0 by omega, show ((0 : Int) < (([c] : List (List Int)).length : Int)) by simp, if_true, show rd_L1 [c] 0 = c from rfl, show ((i : Int) < (c.length : Int)) by omega, show (0 : Int) ≤ (i : Int) by omega, l01In_eq, Option.bind_some, rd_nat c i hil, w64 (show -9223372036854775808 ≤ (i : Int) + 1 by omega) (by omega), badChip_eq]
    rw [List.drop_eq_getElem_cons hil, List.any_cons]
    cases hb : badChip c[i] with
    | true => simp only [Bool.not_true, Bool.false_eq_true, if_false, Bool.true_or, if_true]; exact Ev.now _
    | false => simp only [Bool.not_false, if_true, Bool.false_or]; exact ih (i + 1) (by omega) (by omega)
theorem l10Chips_ev (a : Int) (l : List (List Int)) (c : List Int) (hl : l.length ≤ maxLen) (hc : c.length ≤ maxLen) : Ev (fun k => spec_l10Chips.f k a l [c]) (if isG a l then if chipsOK a c then 0 else 2 else 1) := by
  unfold spec_l10Chips.f
  refine Ev.bind (spec_l01Is_ev a l hl) ?_
  cases isG a l with
  | false => simp only [Bool.false_eq_true, if_false]; exact Ev.now _
  | true =>
    simp only [if_true]
    refine Ev.step (fun k => by simp only [spec_l10Chips.l0]; rfl) ?_
    simp only [show ((0 : Int) < (([c] : List (List Int)).length : Int)) by simp, show (0 : Int) ≤ 0 by omega, if_true, show rd_L1 [c] 0 = c from rfl]
    unfold chipsOK
    by_cases h : (c.length : Int) = a
    · simp only [h, if_true, decide_true, Bool.true_and]
      have := l10Chips_l1 a l c hc c.length 0 (by omega) (by omega)
      rw [List.drop_zero] at this
      cases hb : c.any badChip with
      | true => simp only [hb, if_true] at this; simp only [Bool.not_true, Bool.false_eq_true, if_false]; exact this
      | false => simp only [hb, Bool.false_eq_true, if_false] at this; simp only [Bool.not_false, if_true]; exact this
    · simp only [h, if_false, decide_false, Bool.false_and, Bool.false_eq_true]
      exact Ev.now _
theorem tdiv2 (e : Nat) : Int.tdiv (e : Int) 2 = ((e / 2 : Nat) : Int) := rfl
theorem tmod2 (e : Nat) : Int.tmod (e : Int) 2 = ((e % 2 : Nat) : Int) := rfl
/-- Where the directed edge e begins, and where it ends. -/
def begAt (l : List (List Int)) (e : Nat) : Int := rd (rd_L1 l ((e / 2 : Nat) : Int)) ((e % 2 : Nat) : Int)
def endAt (l : List (List Int)) (e : Nat) : Int := rd (rd_L1 l ((e / 2 : Nat) : Int)) ((1 - e % 2 : Nat) : Int)
def two (l : List (List Int)) : Prop := ∀ x ∈ l, x.length = 2
theorem isG_two {a : Int} {l : List (List Int)} (h : isG a l = true) : two l := by
  intro x hx
  simp only [isG, Bool.and_eq_true, List.all_eq_true] at h
  have := h.2.2.2 x hx
  simp only [edgeIn, Bool.and_eq_true, decide_eq_true_eq] at this
  exact this.1
theorem isG_len {a : Int} {l : List (List Int)} (h : isG a l = true) : l.length ≤ 10 := by
  simp only [isG, Bool.and_eq_true, decide_eq_true_eq] at h
  exact h.2.2.1
theorem isG_size {a : Int} {l : List (List Int)} (h : isG a l = true) : 1 ≤ a ∧ a ≤ 8 := by
  simp only [isG, Bool.and_eq_true, decide_eq_true_eq] at h
  exact ⟨h.1, h.2.1⟩
theorem isG_edge {a : Int} {l : List (List Int)} (h : isG a l = true) {x : List Int} (hx : x ∈ l) : (0 ≤ rd x 0 ∧ rd x 0 ≤ a - 1) ∧ (0 ≤ rd x 1 ∧ rd x 1 ≤ a - 1) := by
  have hs := isG_size h
  simp only [isG, Bool.and_eq_true, List.all_eq_true] at h
  have := h.2.2.2 x hx
  simp only [edgeIn, endIn, Bool.and_eq_true, decide_eq_true_eq] at this
  rw [w64 (by omega) (by omega)] at this
  exact this.2
theorem two_at {l : List (List Int)} (h2 : two l) (e : Nat) (he : e < 2 * l.length) : (rd_L1 l ((e / 2 : Nat) : Int)).length = 2 := by
  have hi : e / 2 < l.length := by omega
  rw [rdL1_nat l (e / 2) hi]
  exact h2 _ (List.getElem_mem hi)
theorem l01Ends_eq (a : Int) (l : List (List Int)) (hl : l.length ≤ 1048576) (h2 : two l) (e : Nat) (he : e < 2 * l.length) : spec_l01Ends.f a l e = some (begAt l e, endAt l e) := by
  have hx := two_at h2 e he
  unfold spec_l01Ends.f
  rw [tdiv2, tmod2, w64 (by omega) (by omega), if_pos (by omega), if_pos (by omega), hx]
  unfold begAt endAt
  rcases Nat.mod_two_eq_zero_or_one e with h | h
  · rw [h]; rfl
  · rw [h]; rfl
/-- The other direction of e's edge. -/
def opp (e : Nat) : Nat := if e % 2 = 0 then e + 1 else e - 1
/-- May f come behind e. -/
def next (l : List (List Int)) (e f : Nat) : Bool := decide (endAt l e = begAt l f) && !decide (f = opp e)
theorem square_l0 (n : Nat) (hn : n ≤ 1048576) : ∀ (d i : Nat), n - i = d → i ≤ n → Ev (fun k => impl_square.l0 k n (List.replicate i (List.replicate n 0)) n i) (List.replicate n (List.replicate n 0)) := by
  intro d
  induction d with
  | zero =>
    intro i hd hi
    obtain rfl : i = n := by omega
    refine Ev.step (fun k => by simp only [impl_square.l0]; rfl) ?_
    simp only [Int.lt_irrefl, if_false]
    exact Ev.now _
  | succ d ih =>
    intro i hd hi
    refine Ev.step (fun k => by simp only [impl_square.l0]; rfl) ?_
    simp only [show ((i : Int) < (n : Int)) by omega, show (0 : Int) ≤ (n : Int) by omega, Int.toNat_natCast, show n ≤ 35184372088832 by omega, List.length_replicate, show i < 5864062014805 by omega, if_true, w64 (show -9223372036854775808 ≤ (i : Int) + 1 by omega) (by omega)]
    have h := ih (i + 1) (by omega) (by omega)
    rw [List.replicate_succ'] at h
    exact h
theorem square_ev (n : Nat) (hn : n ≤ 1048576) : Ev (fun k => impl_square.f k n) (List.replicate n (List.replicate n 0)) := square_l0 n hn n 0 (by omega) (by omega)
/-- The two ends of edge i of a graph, as numbers below n. -/
def endsIn (n : Nat) (l : List (List Int)) : Prop := ∀ i, i < l.length → (rd_L1 l (i : Int)).length = 2 ∧ ∃ u v : Nat, rd (rd_L1 l (i : Int)) 0 = u ∧ rd (rd_L1 l (i : Int)) 1 = v ∧ u < n ∧ v < n
theorem isG_ends {a : Int} {l : List (List Int)} (h : isG a l = true) : ∃ n : Nat, a = n ∧ 1 ≤ n ∧ n ≤ 8 ∧ endsIn n l := by
  have hs := isG_size h
  refine ⟨a.toNat, by omega, by omega, by omega, fun i hi => ?_⟩
  have hm : l[i] ∈ l := List.getElem_mem hi
  rw [rdL1_nat l i hi]
  have he := isG_edge h hm
  exact ⟨isG_two h _ hm, (rd l[i] 0).toNat, (rd l[i] 1).toNat, by omega, by omega, by omega, by omega⟩
/-- How often v is an end of the first i edges. -/
def degN (l : List (List Int)) : Nat → Nat → Nat
  | 0, _ => 0
  | i + 1, v => degN l i v + (if rd (rd_L1 l (i : Int)) 0 = (v : Int) then 1 else 0) + (if rd (rd_L1 l (i : Int)) 1 = (v : Int) then 1 else 0)
theorem degN_le (l : List (List Int)) (i v : Nat) : degN l i v ≤ 2 * i := by
  induction i with
  | zero => simp [degN]
  | succ i ih =>
    unfold degN
    have h1 : (if rd (rd_L1 l (i : Int)) 0 = (v : Int) then 1 else 0) ≤ 1 := by split <;> omega
    have h2 : (if rd (rd_L1 l (i : Int)) 1 = (v : Int) then 1 else 0) ≤ 1 := by split <;> omega
    omega
theorem l01Degree_l0 (a : Int) (l : List (List Int)) (hl : l.length ≤ 1048576) (h2 : two l) (v : Nat) : ∀ (d i : Nat), l.length - i = d → i ≤ l.length → Ev (fun k => spec_l01Degree.l0 k v (degN l i v : Int) i a l) (degN l l.length v : Int) := by
  intro d
  induction d with
  | zero =>
    intro i hd hi
    obtain rfl : i = l.length := by omega
    refine Ev.step (fun k => by simp only [spec_l01Degree.l0]; rfl) ?_
    simp only [Int.lt_irrefl, if_false]
    exact Ev.now _
  | succ d ih =>
    intro i hd hi
    have hil : i < l.length := by omega
    have hx : (rd_L1 l (i : Int)).length = 2 := by rw [rdL1_nat l i hil]; exact h2 _ (List.getElem_mem hil)
    have hdn := degN_le l i v
    have h := ih (i + 1) (by omega) (by omega)
    have hend : ∀ z : Nat, z ≤ 2 * i + 2 → z = degN l (i + 1) v → Ev (fun k => spec_l01Degree.l1 k v (z : Int) i 2 a l) (degN l l.length v : Int) := by
      intro z hz1 hz
      refine Ev.step (fun k => by simp only [spec_l01Degree.l1]; rfl) ?_
      simp only [Int.lt_irrefl, if_false, w64 (show -9223372036854775808 ≤ (i : Int) + 1 by omega) (by omega)]
      rw [hz]
      exact h
    have hone : ∀ z : Nat, z ≤ 2 * i + 1 → z = degN l i v + (if rd (rd_L1 l (i : Int)) 0 = (v : Int) then 1 else 0) → Ev (fun k => spec_l01Degree.l1 k v (z : Int) i 1 a l) (degN l l.length v : Int) := by
      intro z hz1 hz
      refine Ev.step (fun k => by simp only [spec_l01Degree.l1]; rfl) ?_
      simp only [show ((1 : Int) < 2) by omega, show ((0 : Int) ≤ 1) by omega, show (0 : Int) ≤ (i : Int) by omega, show ((i : Int) < (l.length : Int)) by omega, hx, show ((1 : Int) < ((2 : Nat) : Int)) by omega, if_true, w64 (show -9223372036854775808 ≤ (1 : Int) + 1 by omega) (by omega)]
      by_cases hc : rd (rd_L1 l (i : Int)) 1 = (v : Int)
      · simp only [hc, if_true, w64 (show -9223372036854775808 ≤ (z : Int) + 1 by omega) (by omega)]
        have := hend (z + 1) (by omega) (by unfold degN; rw [if_pos hc, ← hz])
        simpa using this
      · simp only [hc, if_false]
        have := hend z (by omega) (by unfold degN; rw [if_neg hc, ← hz]; rfl)
        simpa using this
    refine Ev.step (fun k => by simp only [spec_l01Degree.l0]; rfl) ?_
    simp only [show ((i : Int) < (l.length : Int)) by omega, if_true]
    refine Ev.step (fun k => by simp only [spec_l01Degree.l1]; rfl) ?_
    simp only [show ((0 : Int) < 2) by omega, show (0 : Int) ≤ (i : Int) by omega, show ((i : Int) < (l.length : Int)) by omega, hx, show ((0 : Int) ≤ 0) by omega, show ((0 : Int) < ((2 : Nat) : Int)) by omega, if_true, w64 (show -9223372036854775808 ≤ (0 : Int) + 1 by omega) (by omega)]
    by_cases hc : rd (rd_L1 l (i : Int)) 0 = (v : Int)
    · simp only [hc, if_true, w64 (show -9223372036854775808 ≤ ((degN l i v : Nat) : Int) + 1 by omega) (by omega)]
      have := hone (degN l i v + 1) (by omega) (by rw [if_pos hc])
      simpa using this
    · simp only [hc, if_false]
      have := hone (degN l i v) (by omega) (by rw [if_neg hc]; rfl)
      simpa using this
theorem l01Degree_ev (a : Int) (l : List (List Int)) (hl : l.length ≤ 1048576) (h2 : two l) (v : Nat) : Ev (fun k => spec_l01Degree.f k a l v) (degN l l.length v : Int) :=
  l01Degree_l0 a l hl h2 v l.length 0 (by omega) (by omega)
def clsF (a b z : Int) : Int := if z = mx a b then mn a b else z
def mapTake (f : Int → Int) (i : Nat) (c : List Int) : List Int := (c.take i).map f ++ c.drop i
theorem mapTake_length (f : Int → Int) (i : Nat) (c : List Int) : (mapTake f i c).length = c.length := by
  unfold mapTake
  rw [List.length_append, List.length_map, List.length_take, List.length_drop]
  omega
theorem mapTake_rd (f : Int → Int) (i : Nat) (c : List Int) (h : i < c.length) : rd (mapTake f i c) (i : Int) = c[i] := by
  rw [rd_nat _ _ (by rw [mapTake_length]; exact h)]
  unfold mapTake
  rw [List.getElem_append_right (by rw [List.length_map, List.length_take]; omega)]
  simp [List.length_take, Nat.min_eq_left (Nat.le_of_lt h)]
theorem mapTake_succ (f : Int → Int) (i : Nat) (c : List Int) (h : i < c.length) : mapTake f (i + 1) c = (mapTake f i c).set i (f c[i]) := by
  have hl : ((c.take i).map f).length = i := by rw [List.length_map, List.length_take]; omega
  unfold mapTake
  apply List.ext_getElem?
  intro j
  rw [List.getElem?_set]
  by_cases hj : i = j
  · subst hj
    rw [if_pos rfl, if_pos (by rw [List.length_append, hl, List.length_drop]; omega)]
    rw [List.getElem?_append_left (by rw [List.length_map, List.length_take]; omega), List.getElem?_map, List.getElem?_take, if_pos (by omega), List.getElem?_eq_getElem h]
    rfl
  · rw [if_neg hj]
    by_cases hlt : j < i
    · rw [List.getElem?_append_left (by rw [List.length_map, List.length_take]; omega), List.getElem?_append_left (by omega)]
      simp only [List.getElem?_map, List.getElem?_take]
      rw [if_pos (by omega), if_pos hlt]
    · rw [List.getElem?_append_right (by rw [List.length_map, List.length_take]; omega), List.getElem?_append_right (by omega), hl]
      simp only [List.length_map, List.length_take, List.getElem?_drop]
      congr 1
      omega
theorem mapTake_same (f : Int → Int) (i : Nat) (c : List Int) (h : i < c.length) (e : f c[i] = c[i]) : mapTake f (i + 1) c = mapTake f i c := by
  rw [mapTake_succ f i c h, e]
  apply List.ext_getElem
  · simp
  · intro j h1 h2
    rw [List.getElem_set]
    by_cases hj : i = j
    · subst hj
      rw [if_pos rfl]
      have := mapTake_rd f i c h
      rw [rd_nat _ _ (by rw [mapTake_length]; exact h)] at this
      exact this.symm
    · rw [if_neg hj]
def clsW (l : List (List Int)) : Nat → Nat → List Int → List Int
  | 0, _, c => c
  | d + 1, i, c => clsW l d (i + 1) (c.map (clsF (rd c (rd (rd_L1 l (i : Int)) 0)) (rd c (rd (rd_L1 l (i : Int)) 1))))
theorem spec_parts_l2 (a : Int) (l : List (List Int)) (hl : l.length ≤ 1048576) (i : Nat) (hi : i < l.length) (x y : Int) (c : List Int) (hc : c.length ≤ 1048576) (R : List Int)
    (hR : Ev (fun k => spec_l01Parts.l1 k (c.map (clsF x y)) ((i : Int) + 1) a l) R) :
    ∀ (d v : Nat), c.length - v = d → v ≤ c.length → Ev (fun k => spec_l01Parts.l2 k (mapTake (clsF x y) v c) i x y v a l) R := by
  intro d
  induction d with
  | zero =>
    intro v hd hv
    obtain rfl : v = c.length := by omega
    refine Ev.step (fun k => by simp only [spec_l01Parts.l2]; rfl) ?_
    simp only [mapTake_length, Int.lt_irrefl, if_false, w64 (show -9223372036854775808 ≤ (i : Int) + 1 by omega) (by omega)]
    rw [show mapTake (clsF x y) c.length c = c.map (clsF x y) from by simp [mapTake]]
    exact hR
  | succ d ih =>
    intro v hd hv
    have hvc : v < c.length := by omega
    have h := ih (v + 1) (by omega) (by omega)
    refine Ev.step (fun k => by simp only [spec_l01Parts.l2]; rfl) ?_
    simp only [mapTake_length, show ((v : Int) < (c.length : Int)) by omega, show (0 : Int) ≤ (v : Int) by omega, if_true, mapTake_rd _ v c hvc, Int.toNat_natCast, w64 (show -9223372036854775808 ≤ (v : Int) + 1 by omega) (by omega)]
    by_cases hz : c[v] = mx x y
    · rw [mapTake_succ _ v c hvc, show clsF x y c[v] = mn x y from by unfold clsF; exact if_pos hz] at h
      simp only [hz, if_true]
      exact h
    · rw [mapTake_same (clsF x y) v c hvc (by unfold clsF; exact if_neg hz)] at h
      simp only [hz, if_false]
      exact h
theorem impl_classes_l2 (l : List (List Int)) (hl : l.length ≤ 1048576) (i : Nat) (hi : i < l.length) (x y : Int) (c : List Int) (hc : c.length ≤ 1048576) (R : List Int)
    (hR : Ev (fun k => impl_Graph_classes.l1 k (c.map (clsF x y)) l (l.length : Int) ((i : Int) + 1)) R) :
    ∀ (d v : Nat), c.length - v = d → v ≤ c.length → Ev (fun k => impl_Graph_classes.l2 k (mapTake (clsF x y) v c) x y l (l.length : Int) i (c.length : Int) v) R := by
  intro d
  induction d with
  | zero =>
    intro v hd hv
    obtain rfl : v = c.length := by omega
    refine Ev.step (fun k => by simp only [impl_Graph_classes.l2]; rfl) ?_
    simp only [Int.lt_irrefl, if_false, w64 (show -9223372036854775808 ≤ (i : Int) + 1 by omega) (by omega)]
    rw [show mapTake (clsF x y) c.length c = c.map (clsF x y) from by simp [mapTake]]
    exact hR
  | succ d ih =>
    intro v hd hv
    have hvc : v < c.length := by omega
    have h := ih (v + 1) (by omega) (by omega)
    refine Ev.step (fun k => by simp only [impl_Graph_classes.l2]; rfl) ?_
    simp only [mapTake_length, show ((v : Int) < (c.length : Int)) by omega, show (0 : Int) ≤ (v : Int) by omega, if_true, mapTake_rd _ v c hvc, Int.toNat_natCast, w64 (show -9223372036854775808 ≤ (v : Int) + 1 by omega) (by omega)]
    by_cases hz : c[v] = mx x y
    · rw [mapTake_succ _ v c hvc, show clsF x y c[v] = mn x y from by unfold clsF; exact if_pos hz] at h
      simp only [hz, if_true]
      exact h
    · rw [mapTake_same (clsF x y) v c hvc (by unfold clsF; exact if_neg hz)] at h
      simp only [hz, if_false]
      exact h
theorem spec_parts_l1 (n : Nat) (hn : n ≤ 1048576) (a : Int) (l : List (List Int)) (hl : l.length ≤ 1048576) (hE : endsIn n l) : ∀ (d i : Nat) (c : List Int), l.length - i = d → i ≤ l.length → c.length = n → Ev (fun k => spec_l01Parts.l1 k c i a l) (clsW l d i c) := by
  intro d
  induction d with
  | zero =>
    intro i c hd hi hc
    obtain rfl : i = l.length := by omega
    refine Ev.step (fun k => by simp only [spec_l01Parts.l1]; rfl) ?_
    simp only [Int.lt_irrefl, if_false]
    exact Ev.now _
  | succ d ih =>
    intro i c hd hi hc
    have hil : i < l.length := by omega
    obtain ⟨hx, u, v, hu, hv, hun, hvn⟩ := hE i hil
    have h := spec_parts_l2 a l hl i hil (rd c u) (rd c v) c (by omega) _ (ih (i + 1) (c.map (clsF (rd c u) (rd c v))) (by omega) (by omega) (by rw [List.length_map]; exact hc)) c.length 0 (by omega) (by omega)
    rw [show mapTake (clsF (rd c u) (rd c v)) 0 c = c from by simp [mapTake]] at h
    rw [show clsW l (d + 1) i c = clsW l d (i + 1) (c.map (clsF (rd c (rd (rd_L1 l (i : Int)) 0)) (rd c (rd (rd_L1 l (i : Int)) 1)))) from rfl, hu, hv]
    refine Ev.step (fun k => by simp only [spec_l01Parts.l1]; rfl) ?_
    simp only [show ((i : Int) < (l.length : Int)) by omega, show (0 : Int) ≤ (i : Int) by omega, hx, hu, hv, hc, show ((0 : Int) < ((2 : Nat) : Int)) by omega, show ((1 : Int) < ((2 : Nat) : Int)) by omega, show (0 : Int) ≤ (u : Int) by omega, show (0 : Int) ≤ (v : Int) by omega, show ((u : Int) < (n : Int)) by omega, show ((v : Int) < (n : Int)) by omega, if_true]
    exact h
theorem impl_classes_l1 (n : Nat) (hn : n ≤ 1048576) (l : List (List Int)) (hl : l.length ≤ 1048576) (hE : endsIn n l) : ∀ (d i : Nat) (c : List Int), l.length - i = d → i ≤ l.length → c.length = n → Ev (fun k => impl_Graph_classes.l1 k c l (l.length : Int) i) (clsW l d i c) := by
  intro d
  induction d with
  | zero =>
    intro i c hd hi hc
    obtain rfl : i = l.length := by omega
    refine Ev.step (fun k => by simp only [impl_Graph_classes.l1]; rfl) ?_
    simp only [Int.lt_irrefl, if_false]
    exact Ev.now _
  | succ d ih =>
    intro i c hd hi hc
    have hil : i < l.length := by omega
    obtain ⟨hx, u, v, hu, hv, hun, hvn⟩ := hE i hil
    have h := impl_classes_l2 l hl i hil (rd c u) (rd c v) c (by omega) _ (ih (i + 1) (c.map (clsF (rd c u) (rd c v))) (by omega) (by omega) (by rw [List.length_map]; exact hc)) c.length 0 (by omega) (by omega)
    rw [show mapTake (clsF (rd c u) (rd c v)) 0 c = c from by simp [mapTake], hc] at h
    rw [show clsW l (d + 1) i c = clsW l d (i + 1) (c.map (clsF (rd c (rd (rd_L1 l (i : Int)) 0)) (rd c (rd (rd_L1 l (i : Int)) 1)))) from rfl, hu, hv]
    refine Ev.step (fun k => by simp only [impl_Graph_classes.l1]; rfl) ?_
    simp only [show ((i : Int) < (l.length : Int)) by omega, show (0 : Int) ≤ (i : Int) by omega, hx, hu, hv, hc, impl_every.f, Option.bind_some, show ((0 : Int) < ((2 : Nat) : Int)) by omega, show ((1 : Int) < ((2 : Nat) : Int)) by omega, show (0 : Int) ≤ (u : Int) by omega, show (0 : Int) ≤ (v : Int) by omega, show ((u : Int) < (n : Int)) by omega, show ((v : Int) < (n : Int)) by omega, if_true]
    exact h
def upto (i : Nat) : List Int := (List.range i).map Int.ofNat
theorem upto_length (i : Nat) : (upto i).length = i := by simp [upto]
theorem upto_succ (i : Nat) : upto (i + 1) = upto i ++ [(i : Int)] := by
  unfold upto
  rw [List.range_succ, List.map_append]
  rfl
def clsOf (n : Nat) (l : List (List Int)) : List Int := clsW l l.length 0 (upto n)
theorem spec_parts_l0 (n : Nat) (hn : n ≤ 1048576) (l : List (List Int)) (hl : l.length ≤ 1048576) (hE : endsIn n l) : ∀ (d v : Nat), n - v = d → v ≤ n → Ev (fun k => spec_l01Parts.l0 k (upto v) v n l) (clsOf n l) := by
  intro d
  induction d with
  | zero =>
    intro v hd hv
    obtain rfl : v = n := by omega
    refine Ev.step (fun k => by simp only [spec_l01Parts.l0]; rfl) ?_
    simp only [Int.lt_irrefl, if_false]
    exact spec_parts_l1 v hn v l hl hE l.length 0 (upto v) (by omega) (by omega) (upto_length v)
  | succ d ih =>
    intro v hd hv
    have h := ih (v + 1) (by omega) (by omega)
    rw [upto_succ] at h
    refine Ev.step (fun k => by simp only [spec_l01Parts.l0]; rfl) ?_
    simp only [show ((v : Int) < (n : Int)) by omega, if_true, upto_length, show v < 17592186044416 by omega, w64 (show -9223372036854775808 ≤ (v : Int) + 1 by omega) (by omega)]
    exact h
theorem spec_parts_ev (n : Nat) (hn : n ≤ 1048576) (l : List (List Int)) (hl : l.length ≤ 1048576) (hE : endsIn n l) : Ev (fun k => spec_l01Parts.f k n l) (clsOf n l) := spec_parts_l0 n hn l hl hE n 0 (by omega) (by omega)
theorem impl_classes_l0 (n : Nat) (hn : n ≤ 1048576) (l : List (List Int)) (hl : l.length ≤ 1048576) (hE : endsIn n l) : ∀ (d v : Nat), n - v = d → v ≤ n → Ev (fun k => impl_Graph_classes.l0 k (upto v) n v n l) (clsOf n l) := by
  intro d
  induction d with
  | zero =>
    intro v hd hv
    obtain rfl : v = n := by omega
    refine Ev.step (fun k => by simp only [impl_Graph_classes.l0]; rfl) ?_
    simp only [Int.lt_irrefl, if_false]
    exact impl_classes_l1 v hn l hl hE l.length 0 (upto v) (by omega) (by omega) (upto_length v)
  | succ d ih =>
    intro v hd hv
    have h := ih (v + 1) (by omega) (by omega)
    rw [upto_succ] at h
    refine Ev.step (fun k => by simp only [impl_Graph_classes.l0]; rfl) ?_
    simp only [show ((v : Int) < (n : Int)) by omega, if_true, upto_length, show v < 17592186044416 by omega, w64 (show -9223372036854775808 ≤ (v : Int) + 1 by omega) (by omega)]
    exact h
theorem impl_classes_ev (n : Nat) (hn : n ≤ 1048576) (l : List (List Int)) (hl : l.length ≤ 1048576) (hE : endsIn n l) : Ev (fun k => impl_Graph_classes.f k n l) (clsOf n l) := impl_classes_l0 n hn l hl hE n 0 (by omega) (by omega)
/-- Each class has its least vertex as its name. -/
def clsGood (n : Nat) (c : List Int) : Prop := c.length = n ∧ ∀ v : Nat, v < n → 0 ≤ rd c v ∧ rd c v ≤ v ∧ rd c (rd c v) = rd c v
theorem rd_map (f : Int → Int) (c : List Int) (v : Nat) (h : v < c.length) : rd (c.map f) (v : Int) = f (rd c (v : Int)) := by
  rw [rd_nat _ _ (by rw [List.length_map]; exact h), rd_nat _ _ h, List.getElem_map]
theorem clsGood_upto (n : Nat) : clsGood n (upto n) := by
  refine ⟨upto_length n, fun v hv => ?_⟩
  have h : ∀ w : Nat, w < n → rd (upto n) (w : Int) = (w : Int) := fun w hw => by
    rw [rd_nat _ _ (by rw [upto_length]; exact hw)]
    simp [upto]
  rw [h v hv, h v hv]
  omega
theorem clsGood_step {n : Nat} {c : List Int} (h : clsGood n c) (u v : Nat) (hu : u < n) (hv : v < n) : clsGood n (c.map (clsF (rd c u) (rd c v))) := by
  refine ⟨by rw [List.length_map]; exact h.1, fun w hw => ?_⟩
  have hU := h.2 u hu
  have hV := h.2 v hv
  have hW := h.2 w hw
  rw [rd_map _ _ w (by rw [h.1]; exact hw)]
  generalize hp : rd c (u : Int) = p at *
  generalize hq : rd c (v : Int) = q at *
  generalize hz : rd c (w : Int) = z at *
  have hfix : ∀ y : Int, 0 ≤ y → y < n → rd c y = y → rd (c.map (clsF p q)) y = clsF p q y := by
    intro y h0 h1 h2
    obtain ⟨k, rfl⟩ : ∃ k : Nat, y = k := ⟨y.toNat, by omega⟩
    rw [rd_map _ _ k (by rw [h.1]; omega), h2]
  have hmm : clsF p q (mn p q) = mn p q := by unfold clsF; split <;> rfl
  by_cases e : z = mx p q
  · have hm : mn p q ≤ mx p q := by unfold mn mx; split <;> split <;> omega
    have hmf : 0 ≤ mn p q ∧ rd c (mn p q) = mn p q := by
      unfold mn
      split
      · first | exact ⟨by omega, hU.2.2⟩ | exact ⟨by omega, hV.2.2⟩
      · first | exact ⟨by omega, hV.2.2⟩ | exact ⟨by omega, hU.2.2⟩
    rw [show clsF p q z = mn p q from by unfold clsF; exact if_pos e]
    rw [hfix _ hmf.1 (by omega) hmf.2, hmm]
    omega
  · rw [show clsF p q z = z from by unfold clsF; exact if_neg e]
    rw [hfix z hW.1 (by omega) hW.2.2, show clsF p q z = z from by unfold clsF; exact if_neg e]
    omega
theorem clsGood_walk {n : Nat} {l : List (List Int)} (hE : endsIn n l) : ∀ (d i : Nat) (c : List Int), i + d ≤ l.length → clsGood n c → clsGood n (clsW l d i c) := by
  intro d
  induction d with
  | zero => intro i c _ h; exact h
  | succ d ih =>
    intro i c hi h
    obtain ⟨hx, u, v, hu, hv, hun, hvn⟩ := hE i (by omega)
    rw [show clsW l (d + 1) i c = clsW l d (i + 1) (c.map (clsF (rd c (rd (rd_L1 l (i : Int)) 0)) (rd c (rd (rd_L1 l (i : Int)) 1)))) from rfl, hu, hv]
    exact ih (i + 1) _ (by omega) (clsGood_step h u v hun hvn)
theorem clsOf_good (n : Nat) (l : List (List Int)) (hE : endsIn n l) : clsGood n (clsOf n l) := clsGood_walk hE l.length 0 _ (by omega) (clsGood_upto n)
/-- How many of the vertices v ≥ i bear their class's name. -/
def cntF (c : List Int) : Nat → Nat → Nat
  | 0, _ => 0
  | d + 1, i => (if rd c (i : Int) = (i : Int) then 1 else 0) + cntF c d (i + 1)
theorem cntF_succ (c : List Int) (d i : Nat) : cntF c (d + 1) i = (if rd c (i : Int) = (i : Int) then 1 else 0) + cntF c d (i + 1) := rfl
theorem countParts_l0 (c : List Int) (hc : c.length ≤ 1048576) : ∀ (d i z : Nat), c.length - i = d → i ≤ c.length → z ≤ i → Ev (fun k => impl_countParts.l0 k z c (c.length : Int) i) ((z + cntF c d i : Nat) : Int) := by
  intro d
  induction d with
  | zero =>
    intro i z hd hi hz
    obtain rfl : i = c.length := by omega
    refine Ev.step (fun k => by simp only [impl_countParts.l0]; rfl) ?_
    simp only [Int.lt_irrefl, if_false]
    exact Ev.now _
  | succ d ih =>
    intro i z hd hi hz
    refine Ev.step (fun k => by simp only [impl_countParts.l0]; rfl) ?_
    simp only [show ((i : Int) < (c.length : Int)) by omega, show (0 : Int) ≤ (i : Int) by omega, if_true, w64 (show -9223372036854775808 ≤ (i : Int) + 1 by omega) (by omega), w64 (show -9223372036854775808 ≤ (z : Int) + 1 by omega) (by omega)]
    by_cases h : rd c (i : Int) = (i : Int)
    · have h1 := ih (i + 1) (z + 1) (by omega) (by omega) (by omega)
      rw [show cntF c (d + 1) i = 1 + cntF c d (i + 1) from by rw [cntF_succ, if_pos h], show z + (1 + cntF c d (i + 1)) = z + 1 + cntF c d (i + 1) by omega]
      simp only [h, if_true]
      exact h1
    · have h1 := ih (i + 1) z (by omega) (by omega) (by omega)
      rw [show cntF c (d + 1) i = cntF c d (i + 1) from by rw [cntF_succ, if_neg h, Nat.zero_add]]
      simp only [Ne.symm h, if_false]
      exact h1
theorem countParts_ev (c : List Int) (hc : c.length ≤ 1048576) : Ev (fun k => impl_countParts.f k c) ((cntF c c.length 0 : Nat) : Int) := by
  have h := countParts_l0 c hc c.length 0 0 (by omega) (by omega) (by omega)
  rw [Nat.zero_add] at h
  exact h
theorem cntF_zero (c : List Int) : ∀ (d i : Nat), cntF c d i = 0 ↔ ∀ v : Nat, i ≤ v → v < i + d → rd c (v : Int) ≠ (v : Int) := by
  intro d
  induction d with
  | zero => intro i; simp [cntF]; omega
  | succ d ih =>
    intro i
    rw [show cntF c (d + 1) i = (if rd c (i : Int) = (i : Int) then 1 else 0) + cntF c d (i + 1) from rfl]
    by_cases h : rd c (i : Int) = (i : Int)
    · rw [if_pos h]
      exact ⟨fun e => by omega, fun e => (e i (by omega) (by omega) h).elim⟩
    · rw [if_neg h, Nat.zero_add, ih]
      exact ⟨fun e v h1 h2 => by
        by_cases hv : v = i
        · subst hv; exact h
        · exact e v (by omega) (by omega), fun e v h1 h2 => e v (by omega) (by omega)⟩
/-- Is all one part. -/
def onePart (c : List Int) : Bool := decide (∀ v, v < c.length → rd c ((v : Nat) : Int) = rd c 0)
theorem cnt_one {n : Nat} {c : List Int} (hn : 1 ≤ n) (h : clsGood n c) : ((((cntF c c.length 0 : Nat) : Int)) == 1) = onePart c := by
  have h0 : rd c 0 = 0 := by
    have := h.2 0 (by omega)
    have e : ((0 : Nat) : Int) = 0 := rfl
    rw [e] at this
    omega
  obtain ⟨m, hm⟩ : ∃ m, c.length = m + 1 := ⟨c.length - 1, by have := h.1; omega⟩
  rw [Bool.eq_iff_iff, beq_iff_eq]
  unfold onePart
  rw [decide_eq_true_eq, hm]
  rw [show cntF c (m + 1) 0 = 1 + cntF c m 1 from by rw [cntF_succ, if_pos (show rd c ((0 : Nat) : Int) = ((0 : Nat) : Int) from h0)]]
  have hz := cntF_zero c m 1
  constructor
  · intro e v hv
    rw [h0]
    have h1 := hz.1 (by omega)
    have h2 := h.2 v (by have := h.1; omega)
    by_cases hp : rd c (v : Int) = 0
    · exact hp
    · exfalso
      refine h1 (rd c (v : Int)).toNat (by omega) (by omega) ?_
      rw [show (((rd c (v : Int)).toNat : Nat) : Int) = rd c (v : Int) by omega]
      exact h2.2.2
  · intro e
    have : cntF c m 1 = 0 := hz.2 (fun v h1 h2 hc => by
      have := e v (by omega)
      rw [h0] at this
      omega)
    omega
/-- A row and a square of numbers, by their places. -/
def vrow (n : Nat) (g : Nat → Int) : List Int := (List.range n).map g
def vmat (n : Nat) (f : Nat → Nat → Int) : List (List Int) := (List.range n).map fun i => vrow n (f i)
theorem vrow_length (n : Nat) (g : Nat → Int) : (vrow n g).length = n := by simp [vrow]
theorem vmat_length (n : Nat) (f : Nat → Nat → Int) : (vmat n f).length = n := by simp [vmat]
theorem vrow_rd {n : Nat} {g : Nat → Int} {v : Nat} (h : v < n) : rd (vrow n g) (v : Int) = g v := by
  rw [rd_nat _ _ (by rw [vrow_length]; exact h)]
  simp [vrow]
theorem vmat_row {n : Nat} {f : Nat → Nat → Int} {u : Nat} (h : u < n) : rd_L1 (vmat n f) (u : Int) = vrow n (f u) := by
  rw [rdL1_nat _ _ (by rw [vmat_length]; exact h)]
  simp [vmat]
theorem vrow_congr {n : Nat} {g h : Nat → Int} (e : ∀ j, j < n → g j = h j) : vrow n g = vrow n h := by
  unfold vrow
  apply List.map_congr_left
  intro j hj
  exact e j (List.mem_range.mp hj)
theorem vmat_congr {n : Nat} {f h : Nat → Nat → Int} (e : ∀ i j, i < n → j < n → f i j = h i j) : vmat n f = vmat n h := by
  unfold vmat
  apply List.map_congr_left
  intro i hi
  exact vrow_congr fun j hj => e i j (List.mem_range.mp hi) hj
theorem vrow_set {n : Nat} (g : Nat → Int) (v : Nat) (x : Int) : (vrow n g).set v x = vrow n (fun j => if j = v then x else g j) := by
  apply List.ext_getElem
  · rw [List.length_set, vrow_length, vrow_length]
  intro j h1 h2
  rw [List.getElem_set]
  simp only [vrow, List.getElem_map, List.getElem_range]
  by_cases h : v = j
  · subst h; simp
  · rw [if_neg h, if_neg (fun e => h e.symm)]
theorem vmat_set {n : Nat} (f : Nat → Nat → Int) (u : Nat) (g : Nat → Int) : (vmat n f).set u (vrow n g) = vmat n (fun i j => if i = u then g j else f i j) := by
  apply List.ext_getElem
  · rw [List.length_set, vmat_length, vmat_length]
  intro i h1 h2
  rw [List.getElem_set]
  simp only [vmat, List.getElem_map, List.getElem_range]
  by_cases h : u = i
  · subst h; simp
  · rw [if_neg h]; exact vrow_congr fun j _ => by rw [if_neg (fun e => h e.symm)]
/-- One place written. -/
theorem vmat_upd {n : Nat} (f : Nat → Nat → Int) (u : Nat) (hu : u < n) (v : Nat) (x : Int) : (vmat n f).set u ((rd_L1 (vmat n f) (u : Int)).set v x) = vmat n (fun i j => if i = u ∧ j = v then x else f i j) := by
  rw [vmat_row hu, vrow_set, vmat_set]
  refine vmat_congr fun i j _ _ => ?_
  by_cases h : i = u
  · subst h; simp
  · simp [h]
theorem vmat_zero (n : Nat) : List.replicate n (List.replicate n (0 : Int)) = vmat n (fun _ _ => 0) := by
  have h0 : ∀ m : Nat, vrow m (fun _ => 0) = List.replicate m 0 := fun m => by
    apply List.ext_getElem
    · simp [vrow]
    · intro i _ _; simp [vrow]
  apply List.ext_getElem
  · simp [vmat]
  · intro i _ _; simp [vmat, h0]
theorem vrow_of {n : Nat} {c : List Int} (h : c.length = n) : c = vrow n (fun w => rd c (w : Int)) := by
  apply List.ext_getElem
  · rw [vrow_length]; exact h
  · intro i h1 h2
    simp only [vrow, List.getElem_map, List.getElem_range]
    rw [rd_nat _ _ h1]
/-- How many of the first d directed edges lead from u to v. -/
def adjN (l : List (List Int)) : Nat → Nat → Nat → Int
  | 0, _, _ => 0
  | d + 1, u, v => adjN l d u v + (if begAt l d = (u : Int) ∧ endAt l d = (v : Int) then 1 else 0)
theorem adjN_le (l : List (List Int)) (d u v : Nat) : 0 ≤ adjN l d u v ∧ adjN l d u v ≤ d := by
  induction d with
  | zero => simp [adjN]
  | succ d ih =>
    unfold adjN
    have h1 : (0 : Int) ≤ (if begAt l d = (u : Int) ∧ endAt l d = (v : Int) then 1 else 0) ∧ (if begAt l d = (u : Int) ∧ endAt l d = (v : Int) then 1 else 0 : Int) ≤ 1 := by split <;> omega
    omega
theorem dart_ends {n : Nat} {l : List (List Int)} (hE : endsIn n l) (d : Nat) (hd : d < 2 * l.length) : ∃ u v : Nat, begAt l d = u ∧ endAt l d = v ∧ u < n ∧ v < n := by
  obtain ⟨_, u, v, hu, hv, hun, hvn⟩ := hE (d / 2) (by omega)
  unfold begAt endAt
  rcases Nat.mod_two_eq_zero_or_one d with h | h
  · rw [h]; exact ⟨u, v, hu, hv, hun, hvn⟩
  · rw [h]; exact ⟨v, u, hv, hu, hvn, hun⟩
theorem endsIn_two {n : Nat} {l : List (List Int)} (hE : endsIn n l) : two l := by
  intro x hx
  obtain ⟨i, hi, rfl⟩ := List.mem_iff_getElem.mp hx
  have h := (hE i hi).1
  rwa [rdL1_nat l i hi] at h
theorem adjacency_l1 (n : Nat) (hn : n ≤ 8) (a : Int) (l : List (List Int)) (hl : l.length ≤ 10) (hE : endsIn n l) : ∀ (q d : Nat), 2 * l.length - d = q → d ≤ 2 * l.length → Ev (fun k => spec_l01Adjacency.l1 k (vmat n (adjN l d)) d a l) (vmat n (adjN l (2 * l.length))) := by
  intro q
  induction q with
  | zero =>
    intro d hq hd
    obtain rfl : d = 2 * l.length := by omega
    refine Ev.step (fun k => by simp only [spec_l01Adjacency.l1]; rfl) ?_
    rw [w64 (show -9223372036854775808 ≤ 2 * (l.length : Int) by omega) (by omega)]
    simp only [show ¬ (((2 * l.length : Nat) : Int) < 2 * (l.length : Int)) by omega, if_false]
    exact Ev.now _
  | succ q ih =>
    intro d hq hd
    have hdl : d < 2 * l.length := by omega
    obtain ⟨u, v, hu, hv, hun, hvn⟩ := dart_ends hE d hdl
    have hb := adjN_le l d u v
    refine Ev.step (fun k => by simp only [spec_l01Adjacency.l1]; rfl) ?_
    rw [w64 (show -9223372036854775808 ≤ 2 * (l.length : Int) by omega) (by omega)]
    simp only [show ((d : Int) < 2 * (l.length : Int)) by omega, if_true, l01Ends_eq a l (by omega) (endsIn_two hE) d hdl, Option.bind_some, hu, hv, show (0 : Int) ≤ (u : Int) by omega, show (0 : Int) ≤ (v : Int) by omega, vmat_length, show ((u : Int) < (n : Int)) by omega, vmat_row hun, vrow_length, show ((v : Int) < (n : Int)) by omega, vrow_rd hvn, Int.toNat_natCast]
    rw [w64 (show -9223372036854775808 ≤ adjN l d u v + 1 by omega) (by omega), w64 (show -9223372036854775808 ≤ (d : Int) + 1 by omega) (by omega)]
    have e := vmat_upd (adjN l d) u hun v (adjN l d u v + 1)
    rw [vmat_row hun] at e
    rw [e, show vmat n (fun i j => if i = u ∧ j = v then adjN l d u v + 1 else adjN l d i j) = vmat n (adjN l (d + 1)) from vmat_congr fun i j _ _ => by
      rw [adjN, hu, hv]
      by_cases h : i = u ∧ j = v
      · obtain ⟨rfl, rfl⟩ := h; simp
      · rw [if_neg h, if_neg (by omega)]; omega]
    exact ih (d + 1) (by omega) (by omega)
theorem adjacency_l0 (n : Nat) (hn : n ≤ 8) (l : List (List Int)) (hl : l.length ≤ 10) (hE : endsIn n l) : ∀ (q i : Nat), n - i = q → i ≤ n → Ev (fun k => spec_l01Adjacency.l0 k (List.replicate i (List.replicate n 0)) i n l) (vmat n (adjN l (2 * l.length))) := by
  intro q
  induction q with
  | zero =>
    intro i hq hi
    obtain rfl : i = n := by omega
    refine Ev.step (fun k => by simp only [spec_l01Adjacency.l0]; rfl) ?_
    simp only [Int.lt_irrefl, if_false]
    rw [vmat_zero]
    exact adjacency_l1 i hn i l hl hE (2 * l.length) 0 (by omega) (by omega)
  | succ q ih =>
    intro i hq hi
    refine Ev.step (fun k => by simp only [spec_l01Adjacency.l0]; rfl) ?_
    simp only [show ((i : Int) < (n : Int)) by omega, if_true, show (0 : Int) ≤ (n : Int) by omega, Int.toNat_natCast, show n ≤ 35184372088832 by omega, List.length_replicate, show i < 5864062014805 by omega, w64 (show -9223372036854775808 ≤ (i : Int) + 1 by omega) (by omega)]
    rw [show List.replicate i (List.replicate n (0 : Int)) ++ [List.replicate n 0] = List.replicate (i + 1) (List.replicate n 0) from by rw [List.replicate_succ']]
    exact ih (i + 1) (by omega) (by omega)
theorem l01Adjacency_ev (n : Nat) (hn : n ≤ 8) (l : List (List Int)) (hl : l.length ≤ 10) (hE : endsIn n l) : Ev (fun k => spec_l01Adjacency.f k n l) (vmat n (adjN l (2 * l.length))) := adjacency_l0 n hn l hl hE n 0 (by omega) (by omega)
/-- The Laplacian behind the first i edges. -/
def lapF (l : List (List Int)) (i u v : Nat) : Int := -(adjN l (2 * i) u v) + (if u = v then (degN l i u : Int) else 0)
theorem lapF_le (l : List (List Int)) (i u v : Nat) : -(2 * (i : Int)) ≤ lapF l i u v ∧ lapF l i u v ≤ 2 * i := by
  have h1 := adjN_le l (2 * i) u v
  have h2 := degN_le l i u
  unfold lapF
  split <;> omega
theorem l10Laplacian_l1 (n : Nat) (hn : n ≤ 8) (l : List (List Int)) (hl : l.length ≤ 10) (hE : endsIn n l) (v : Nat) (hv : v < n) (R : List (List Int))
    (next : Ev (fun k => spec_l10Laplacian.l0 k (vmat n (fun r j => if r ≤ v then lapF l l.length r j else adjN l (2 * l.length) r j)) ((v + 1 : Nat) : Int) n l) R) :
    ∀ (q i : Nat), n - i = q → i ≤ n → Ev (fun k => spec_l10Laplacian.l1 k (vmat n (fun r j => if r < v then lapF l l.length r j else if r = v ∧ j < i then -(adjN l (2 * l.length) r j) else adjN l (2 * l.length) r j)) v i n l) R := by
  intro q
  induction q with
  | zero =>
    intro i hq hi
    obtain rfl : i = n := by omega
    have hd := degN_le l l.length v
    have ha := adjN_le l (2 * l.length) v v
    refine Ev.step (fun k => by simp only [spec_l10Laplacian.l1]; rfl) ?_
    simp only [Int.lt_irrefl, if_false, show (0 : Int) ≤ (v : Int) by omega, if_true, vmat_row hv, vrow_length, show ((v : Int) < (i : Int)) by omega, vrow_rd hv, Int.toNat_natCast]
    refine Ev.bind (l01Degree_ev i l (by omega) (endsIn_two hE) v) ?_
    simp only [Nat.lt_irrefl, if_false, true_and, hv, if_true]
    rw [w64 (show -9223372036854775808 ≤ -adjN l (2 * l.length) v v + (degN l l.length v : Int) by omega) (by omega), w64 (show -9223372036854775808 ≤ (v : Int) + 1 by omega) (by omega), vrow_set, vmat_set]
    refine Ev.congr (fun k => ?_) next
    rw [show ((v + 1 : Nat) : Int) = (v : Int) + 1 by omega]
    congr 1
    refine vmat_congr fun r j hr hj => ?_
    rcases Nat.lt_trichotomy r v with h | h | h
    · simp only [show r ≠ v by omega, show r < v by omega, show r ≤ v by omega, if_true, if_false]
    · subst h
      simp only [Nat.lt_irrefl, Nat.le_refl, true_and, hj, if_true, if_false]
      unfold lapF
      by_cases e : j = r
      · subst e; simp
      · rw [if_neg e, if_neg (fun e2 => e e2.symm)]; omega
    · simp only [show r ≠ v by omega, show ¬ r < v by omega, show ¬ r ≤ v by omega, if_false, false_and]
  | succ q ih =>
    intro i hq hi
    have hin : i < n := by omega
    have ha := adjN_le l (2 * l.length) v i
    refine Ev.step (fun k => by simp only [spec_l10Laplacian.l1]; rfl) ?_
    simp only [show ((i : Int) < (n : Int)) by omega, if_true, show (0 : Int) ≤ (i : Int) by omega, vmat_row hv, vrow_length, vrow_rd hin, Nat.lt_irrefl, if_false, and_false, Int.toNat_natCast]
    rw [w64 (show -9223372036854775808 ≤ -adjN l (2 * l.length) v i by omega) (by omega), w64 (show -9223372036854775808 ≤ (i : Int) + 1 by omega) (by omega), vrow_set, vmat_set]
    refine Ev.congr (fun k => ?_) (ih (i + 1) (by omega) (by omega))
    rw [show ((i + 1 : Nat) : Int) = (i : Int) + 1 by omega]
    congr 1
    refine vmat_congr fun r j hr hj => ?_
    by_cases h : r = v
    · subst h
      simp only [Nat.lt_irrefl, if_false, if_true, true_and]
      by_cases e : j = i
      · subst e; simp
      · rw [if_neg e]
        by_cases e2 : j < i
        · rw [if_pos e2, if_pos (by omega)]
        · rw [if_neg e2, if_neg (by omega)]
    · simp only [h, if_false, false_and]
theorem l10Laplacian_l0 (n : Nat) (hn : n ≤ 8) (l : List (List Int)) (hl : l.length ≤ 10) (hE : endsIn n l) : ∀ (q v : Nat), n - v = q → v ≤ n → Ev (fun k => spec_l10Laplacian.l0 k (vmat n (fun r j => if r < v then lapF l l.length r j else adjN l (2 * l.length) r j)) v n l) (vmat n (lapF l l.length)) := by
  intro q
  induction q with
  | zero =>
    intro v hq hv
    obtain rfl : v = n := by omega
    refine Ev.step (fun k => by simp only [spec_l10Laplacian.l0]; rfl) ?_
    simp only [Int.lt_irrefl, if_false]
    rw [show vmat v (fun r j => if r < v then lapF l l.length r j else adjN l (2 * l.length) r j) = vmat v (lapF l l.length) from vmat_congr fun r j hr _ => by rw [if_pos hr]]
    exact Ev.now _
  | succ q ih =>
    intro v hq hv
    have hvn : v < n := by omega
    refine Ev.step (fun k => by simp only [spec_l10Laplacian.l0]; rfl) ?_
    simp only [show ((v : Int) < (n : Int)) by omega, if_true, show (0 : Int) ≤ (v : Int) by omega, vmat_length]
    have nx := ih (v + 1) (by omega) (by omega)
    have h := l10Laplacian_l1 n hn l hl hE v hvn _ (by simpa only [Nat.lt_succ_iff] using nx) n 0 (by omega) (by omega)
    simp only [Nat.not_lt_zero, and_false, if_false] at h
    exact h
theorem l10Laplacian_ev (n : Nat) (hn : n ≤ 8) (l : List (List Int)) (hl : l.length ≤ 10) (hE : endsIn n l) : Ev (fun k => spec_l10Laplacian.f k n l) (vmat n (lapF l l.length)) := by
  unfold spec_l10Laplacian.f
  refine Ev.bind (l01Adjacency_ev n hn l hl hE) ?_
  have h := l10Laplacian_l0 n hn l hl hE n 0 (by omega) (by omega)
  simp only [Nat.not_lt_zero, if_false] at h
  exact h
/-- One edge more, laid upon the Laplacian: both ends' own places up, the places between them down. -/
theorem lap_step (n : Nat) (l : List (List Int)) (i u v : Nat) (hu : rd (rd_L1 l (i : Int)) 0 = u) (hv : rd (rd_L1 l (i : Int)) 1 = v) (r j : Nat) :
    lapF l (i + 1) r j = lapF l i r j + (if u = v then 0 else (if r = u ∧ j = u then 1 else 0) - (if r = u ∧ j = v then 1 else 0) + (if r = v ∧ j = v then 1 else 0) - (if r = v ∧ j = u then 1 else 0)) := by
  have b0 : begAt l (2 * i) = u := by unfold begAt; rw [show 2 * i / 2 = i by omega, show 2 * i % 2 = 0 by omega]; exact hu
  have b1 : endAt l (2 * i) = v := by unfold endAt; rw [show 2 * i / 2 = i by omega, show 2 * i % 2 = 0 by omega]; exact hv
  have b2 : begAt l (2 * i + 1) = v := by unfold begAt; rw [show (2 * i + 1) / 2 = i by omega, show (2 * i + 1) % 2 = 1 by omega]; exact hv
  have b3 : endAt l (2 * i + 1) = u := by unfold endAt; rw [show (2 * i + 1) / 2 = i by omega, show (2 * i + 1) % 2 = 1 by omega]; exact hu
  unfold lapF
  rw [show 2 * (i + 1) = 2 * i + 1 + 1 by omega, adjN, adjN, degN, b0, b1, b2, b3, hu, hv]
  clear b0 b1 b2 b3
  have c1 : ((u : Int) = (r : Int)) = (r = u) := propext ⟨by omega, by omega⟩
  have c2 : ((u : Int) = (j : Int)) = (j = u) := propext ⟨by omega, by omega⟩
  have c3 : ((v : Int) = (r : Int)) = (r = v) := propext ⟨by omega, by omega⟩
  have c4 : ((v : Int) = (j : Int)) = (j = v) := propext ⟨by omega, by omega⟩
  simp only [c1, c2, c3, c4]
  clear c1 c2 c3 c4
  rcases Classical.propComplete (r = u) with h1 | h1 <;> rcases Classical.propComplete (j = u) with h2 | h2 <;> rcases Classical.propComplete (r = v) with h3 | h3 <;> rcases Classical.propComplete (j = v) with h4 | h4 <;> rcases Classical.propComplete (r = j) with h5 | h5 <;> rcases Classical.propComplete (u = v) with h6 | h6 <;>
    first
    | (exfalso; simp only [eq_iff_iff, iff_true, iff_false] at h1 h2 h3 h4 h5 h6; omega)
    | (simp only [h1, h2, h3, h4, h5, h6, if_true, if_false, and_true, and_false, and_self]; omega)
theorem laplacian_l0 (n : Nat) (hn : n ≤ 8) (l : List (List Int)) (hl : l.length ≤ 10) (hE : endsIn n l) : ∀ (q i : Nat), l.length - i = q → i ≤ l.length → Ev (fun k => impl_Graph_laplacian.l0 k (vmat n (lapF l i)) l l.length i) (vmat n (lapF l l.length)) := by
  intro q
  induction q with
  | zero =>
    intro i hq hi
    obtain rfl : i = l.length := by omega
    refine Ev.step (fun k => by simp only [impl_Graph_laplacian.l0]; rfl) ?_
    simp only [Int.lt_irrefl, if_false]
    exact Ev.now _
  | succ q ih =>
    intro i hq hi
    have hil : i < l.length := by omega
    obtain ⟨h2, u, v, hu, hv, hun, hvn⟩ := hE i hil
    have hlap := fun r j => lapF_le l i r j
    refine Ev.step (fun k => by simp only [impl_Graph_laplacian.l0]; rfl) ?_
    simp only [show ((i : Int) < (l.length : Int)) by omega, if_true, show (0 : Int) ≤ (i : Int) by omega, h2, show ((0 : Int) < ((2 : Nat) : Int)) by omega, show ((1 : Int) < ((2 : Nat) : Int)) by omega, hu, hv, Int.natCast_inj, w64 (show -9223372036854775808 ≤ (i : Int) + 1 by omega) (by omega)]
    by_cases e : u = v
    · simp only [e, if_true]
      have nx := ih (i + 1) (by omega) (by omega)
      rw [show vmat n (lapF l (i + 1)) = vmat n (lapF l i) from vmat_congr fun r j _ _ => by rw [lap_step n l i u v hu hv r j, if_pos e]; omega] at nx
      exact nx
    · have e' : ¬ v = u := fun h => e h.symm
      simp only [e, if_false]
      refine Ev.step (fun k => by simp only [impl_Graph_laplacian.l1]; rfl) ?_
      simp only [show ((0 : Int) < ((2 : Nat) : Int)) by omega, if_true, Int.le_refl, h2, hu, vmat_length, show (0 : Int) ≤ (u : Int) by omega, show ((u : Int) < (n : Int)) by omega, vmat_row hun, vrow_length, vrow_rd hun, Option.bind_some, show wrap64 (1 - 0) = 1 from w64 (by omega) (by omega), show (0 : Int) ≤ 1 by omega, show ((1 : Int) < ((2 : Nat) : Int)) by omega, hv, show (0 : Int) ≤ (v : Int) by omega, show ((v : Int) < (n : Int)) by omega, Int.toNat_natCast, vrow_set, vmat_set, vrow_rd hvn, show wrap64 (0 + 1) = 1 from w64 (by omega) (by omega), e', if_false]
      rw [w64 (show -9223372036854775808 ≤ lapF l i u u + 1 by have := hlap u u; omega) (by have := hlap u u; omega), w64 (show -9223372036854775808 ≤ lapF l i u v - 1 by have := hlap u v; omega) (by have := hlap u v; omega)]
      refine Ev.step (fun k => by simp only [impl_Graph_laplacian.l1]; rfl) ?_
      simp only [show ((1 : Int) < ((2 : Nat) : Int)) by omega, if_true, show (0 : Int) ≤ 1 by omega, h2, hv, vmat_length, show (0 : Int) ≤ (v : Int) by omega, show ((v : Int) < (n : Int)) by omega, vmat_row hvn, vrow_length, vrow_rd hvn, Option.bind_some, show wrap64 (1 - 1) = 0 from w64 (by omega) (by omega), Int.le_refl, show ((0 : Int) < ((2 : Nat) : Int)) by omega, hu, show (0 : Int) ≤ (u : Int) by omega, show ((u : Int) < (n : Int)) by omega, Int.toNat_natCast, vrow_set, vmat_set, vrow_rd hun, show wrap64 (1 + 1) = 2 from w64 (by omega) (by omega), e', e, if_false]
      rw [w64 (show -9223372036854775808 ≤ lapF l i v v + 1 by have := hlap v v; omega) (by have := hlap v v; omega), w64 (show -9223372036854775808 ≤ lapF l i v u - 1 by have := hlap v u; omega) (by have := hlap v u; omega)]
      refine Ev.step (fun k => by simp only [impl_Graph_laplacian.l1]; rfl) ?_
      simp only [show ¬ ((2 : Int) < ((2 : Nat) : Int)) by omega, if_false, w64 (show -9223372036854775808 ≤ (i : Int) + 1 by omega) (by omega)]
      refine Ev.congr (fun k => ?_) (ih (i + 1) (by omega) (by omega))
      rw [show ((i + 1 : Nat) : Int) = (i : Int) + 1 by omega]
      congr 1
      refine vmat_congr fun r j _ _ => ?_
      rw [lap_step n l i u v hu hv r j, if_neg e]
      by_cases h1 : r = v
      · subst h1
        by_cases h2 : j = u
        · subst h2; first | (simp [e, fun h : r = j => e h.symm]; done) | (simp [e, fun h : r = j => e h.symm]; omega)
        · by_cases h3 : j = r
          · subst h3; first | (simp [h2]; done) | (simp [h2]; omega)
          · simp [h2, h3, fun h : r = u => e h.symm]
      · by_cases h4 : r = u
        · subst h4
          by_cases h2 : j = v
          · subst h2; first | (simp [h1, fun h : j = r => h1 h.symm]; done) | (simp [h1, fun h : j = r => h1 h.symm]; omega)
          · by_cases h3 : j = r
            · subst h3; first | (simp [h1]; done) | (simp [h1, h2]; done) | (simp [h1]; omega)
            · simp [h1, h2, h3]
        · simp [h1, h4]
theorem laplacian_ev (n : Nat) (hn : n ≤ 8) (l : List (List Int)) (hl : l.length ≤ 10) (hE : endsIn n l) : Ev (fun k => impl_Graph_laplacian.f k n l) (vmat n (lapF l l.length)) := by
  unfold impl_Graph_laplacian.f
  refine Ev.bind (square_ev n (by omega)) ?_
  rw [vmat_zero, show vmat n (fun _ _ => (0 : Int)) = vmat n (lapF l 0) from vmat_congr fun i j _ _ => by simp [lapF, adjN, degN]]
  exact laplacian_l0 n hn l hl hE l.length 0 (by omega) (by omega)
theorem chip_in {c : List Int} (h : c.any badChip = false) (w : Nat) (hw : w < c.length) : -200 ≤ rd c (w : Int) ∧ rd c (w : Int) ≤ 200 := by
  rw [rd_nat c w hw]
  have := List.any_eq_false.mp h _ (List.getElem_mem hw)
  unfold badChip at this
  simp at this
  exact this
theorem chipsOK_n {a : Int} {c : List Int} (h : chipsOK a c = true) : (c.length : Int) = a ∧ c.any badChip = false := by
  unfold chipsOK at h
  simpa using h
def bsum : Nat → (Nat → Int) → Int
  | 0, _ => 0
  | n + 1, f => bsum n f + f n
theorem bsum_succ (n : Nat) (f : Nat → Int) : bsum (n + 1) f = bsum n f + f n := rfl
theorem bsum_congr {n : Nat} {f g : Nat → Int} (h : ∀ i, i < n → f i = g i) : bsum n f = bsum n g := by
  induction n with
  | zero => rfl
  | succ n ih => rw [bsum_succ, bsum_succ, ih (fun i hi => h i (by omega)), h n (by omega)]
theorem bsum_le {n : Nat} {f g : Nat → Int} (h : ∀ i, i < n → f i ≤ g i) : bsum n f ≤ bsum n g := by
  induction n with
  | zero => simp [bsum]
  | succ n ih =>
    have h1 := ih (fun i hi => h i (by omega))
    have h2 := h n (by omega)
    rw [bsum_succ, bsum_succ]
    omega
theorem bsum_bd {n : Nat} {f : Nat → Int} (h : ∀ i, i < n → -20 ≤ f i ∧ f i ≤ 20) : -(20 * (n : Int)) ≤ bsum n f ∧ bsum n f ≤ 20 * n := by
  induction n with
  | zero => simp [bsum]
  | succ n ih =>
    have h1 := ih (fun i hi => h i (by omega))
    have h2 := h n (by omega)
    rw [bsum_succ]
    omega
theorem bsum_add (n : Nat) (f g : Nat → Int) : bsum n (fun i => f i + g i) = bsum n f + bsum n g := by
  induction n with
  | zero => rfl
  | succ n ih => rw [bsum_succ, bsum_succ, bsum_succ, ih]; omega
theorem bsum_neg (n : Nat) (f : Nat → Int) : bsum n (fun i => -f i) = -bsum n f := by
  induction n with
  | zero => rfl
  | succ n ih => rw [bsum_succ, bsum_succ, ih]; omega
theorem bsum_nil (n : Nat) : bsum n (fun _ => 0) = 0 := by
  induction n with
  | zero => rfl
  | succ n ih => rw [bsum_succ, ih]; rfl
theorem bsum_one {n u : Nat} (hu : u < n) (x : Int) : bsum n (fun j => if j = u then x else 0) = x := by
  induction n with
  | zero => omega
  | succ n ih =>
    rw [bsum_succ]
    by_cases h : n = u
    · subst h
      rw [if_pos rfl, bsum_congr (g := fun _ => 0) (fun i hi => by rw [if_neg (by omega)]), bsum_nil]
      omega
    · rw [if_neg h, ih (by omega)]
      omega
theorem ite_swap (p q : Prop) [Decidable p] [Decidable q] : (if p ∧ q then (1 : Int) else 0) = if q ∧ p then 1 else 0 := by
  by_cases hp : p <;> by_cases hq : q <;> simp [hp, hq]
/-- The Laplacian is the same read either way. -/
theorem lap_sym {n : Nat} {l : List (List Int)} (hE : endsIn n l) : ∀ i, i ≤ l.length → ∀ r j, lapF l i r j = lapF l i j r := by
  intro i
  induction i with
  | zero =>
    intro _ r j
    unfold lapF
    by_cases h : r = j
    · subst h; rfl
    · rw [if_neg h, if_neg (fun e => h e.symm)]; rfl
  | succ i ih =>
    intro hi r j
    obtain ⟨_, u, v, hu, hv, _, _⟩ := hE i (by omega)
    rw [lap_step n l i u v hu hv r j, lap_step n l i u v hu hv j r, ih (by omega) r j]
    by_cases h : u = v
    · rw [if_pos h, if_pos h]
    · rw [if_neg h, if_neg h, ite_swap (j = u) (r = u), ite_swap (j = u) (r = v), ite_swap (j = v) (r = v), ite_swap (j = v) (r = u)]
      omega
/-- A row of the Laplacian comes to nothing. -/
theorem lap_sum {n : Nat} {l : List (List Int)} (hE : endsIn n l) : ∀ i, i ≤ l.length → ∀ r, bsum n (fun j => lapF l i r j) = 0 := by
  intro i
  induction i with
  | zero =>
    intro _ r
    rw [bsum_congr (g := fun _ => 0) (fun j _ => by unfold lapF; split <;> rfl), bsum_nil]
  | succ i ih =>
    intro hi r
    obtain ⟨_, u, v, hu, hv, hun, hvn⟩ := hE i (by omega)
    rw [bsum_congr (g := fun j => lapF l i r j + ((if j = u then (if u = v then 0 else (if r = u then 1 else 0) - (if r = v then 1 else 0)) else 0) + (if j = v then (if u = v then 0 else (if r = v then 1 else 0) - (if r = u then 1 else 0)) else 0))) (fun j _ => by
      rw [lap_step n l i u v hu hv r j]
      by_cases h : u = v
      · simp [h]
      · by_cases h1 : r = u <;> by_cases h2 : r = v <;> by_cases h3 : j = u <;> by_cases h4 : j = v <;> simp [h, h1, h2, h3, h4] <;> omega), bsum_add, ih (by omega), bsum_add, bsum_one hun, bsum_one hvn]
    by_cases h : u = v
    · simp [h]
    · simp only [if_neg h]; omega
theorem lap_off {l : List (List Int)} (i u v : Nat) (h : u ≠ v) : lapF l i u v ≤ 0 := by
  have := adjN_le l (2 * i) u v
  unfold lapF
  rw [if_neg h]
  omega
/-- What comes to v from outside of S. -/
def outB (L : Nat → Nat → Int) (n : Nat) (S : Nat → Bool) (v : Nat) : Int := bsum n (fun w => if S w = true then 0 else -(L v w))
def lawful (L : Nat → Nat → Int) (c : Nat → Int) (n : Nat) (S : Nat → Bool) : Prop := ∀ v, v < n → S v = true → outB L n S v ≤ c v
theorem out_eq {L : Nat → Nat → Int} {n : Nat} (hs : ∀ i j, L i j = L j i) (v : Nat) (h0 : bsum n (fun j => L v j) = 0) (S : Nat → Bool) : bsum n (fun i => if S i = true then L i v else 0) = outB L n S v := by
  have h : bsum n (fun i => (if S i = true then L i v else 0) + -(if S i = true then 0 else -(L v i))) = 0 := by
    refine Eq.trans (bsum_congr fun i _ => ?_) h0
    cases S i with
    | true => simp [hs i v]
    | false => simp
  rw [bsum_add, bsum_neg] at h
  unfold outB
  omega
theorem out_mono {L : Nat → Nat → Int} {n : Nat} (ho : ∀ u w, u ≠ w → L u w ≤ 0) {S T : Nat → Bool} (hST : ∀ j, j < n → S j = true → T j = true) {v : Nat} (hv : S v = true) : outB L n T v ≤ outB L n S v := by
  unfold outB
  refine bsum_le fun w hw => ?_
  cases hT : T w with
  | true =>
    cases hS : S w with
    | true => simp
    | false =>
      have h1 : v ≠ w := fun e => by rw [e, hS] at hv; exact absurd hv (by decide)
      have h2 := ho v w h1
      simp only [if_true, Bool.false_eq_true, if_false]
      omega
  | false =>
    cases hS : S w with
    | true => rw [hST w hw hS] at hT; exact absurd hT (by decide)
    | false => exact Int.le_refl _
def cntB : Nat → (Nat → Bool) → Nat
  | 0, _ => 0
  | n + 1, T => cntB n T + (if T n = true then 1 else 0)
theorem cntB_succ (n : Nat) (T : Nat → Bool) : cntB (n + 1) T = cntB n T + (if T n = true then 1 else 0) := rfl
theorem cntB_congr {n : Nat} {S T : Nat → Bool} (h : ∀ j, j < n → S j = T j) : cntB n S = cntB n T := by
  induction n with
  | zero => rfl
  | succ n ih => rw [cntB_succ, cntB_succ, ih (fun j hj => h j (by omega)), h n (by omega)]
def outOf (T : Nat → Bool) (v : Nat) : Nat → Bool := fun j => if j = v then false else T j
theorem cntB_out {n v : Nat} {T : Nat → Bool} (hv : v < n) (hT : T v = true) : cntB n (outOf T v) + 1 = cntB n T := by
  induction n with
  | zero => omega
  | succ n ih =>
    rw [cntB_succ, cntB_succ]
    by_cases h : n = v
    · subst h
      rw [cntB_congr (T := T) (fun j hj => by unfold outOf; rw [if_neg (by omega)]), hT, show outOf T n n = false from if_pos rfl]
      simp
    · rw [show outOf T v n = T n from if_neg h]
      have := ih (by omega)
      omega
/-- One round of the burning. -/
def bPass (L : Nat → Nat → Int) (c : Nat → Int) (n : Nat) : Nat → Nat → (Nat → Bool) → Bool → (Nat → Bool) × Bool
  | 0, _, T, m => (T, m)
  | d + 1, v, T, m => if T v = true ∧ c v < outB L n T v then bPass L c n d (v + 1) (outOf T v) true else bPass L c n d (v + 1) T m
theorem bPass_ok {L : Nat → Nat → Int} {c : Nat → Int} {n : Nat} (ho : ∀ u w, u ≠ w → L u w ≤ 0) : ∀ (d v : Nat) (T : Nat → Bool) (m : Bool), v + d ≤ n →
    (∀ j, (bPass L c n d v T m).1 j = true → T j = true) ∧ (∀ S, lawful L c n S → (∀ j, j < n → S j = true → T j = true) → ∀ j, j < n → S j = true → (bPass L c n d v T m).1 j = true) ∧
    ((bPass L c n d v T m).2 = false → m = false ∧ (bPass L c n d v T m).1 = T ∧ ∀ j, v ≤ j → j < v + d → T j = true → outB L n T j ≤ c j) ∧
    cntB n (bPass L c n d v T m).1 ≤ cntB n T ∧ ((bPass L c n d v T m).2 = true → m = false → cntB n (bPass L c n d v T m).1 < cntB n T) := by
  intro d
  induction d with
  | zero =>
    intro v T m _
    refine ⟨fun j h => h, fun S _ h => h, fun h => ⟨h, rfl, fun j h1 h2 => by omega⟩, Nat.le_refl _, fun h1 h2 => ?_⟩
    have h3 : m = true := h1
    rw [h2] at h3
    exact absurd h3 (by decide)
  | succ d ih =>
    intro v T m hd
    by_cases h : T v = true ∧ c v < outB L n T v
    · have e : bPass L c n (d + 1) v T m = bPass L c n d (v + 1) (outOf T v) true := if_pos h
      rw [e]
      obtain ⟨i1, i2, i3, i4, i5⟩ := ih (v + 1) (outOf T v) true (by omega)
      have hc := cntB_out (show v < n by omega) h.1
      refine ⟨fun j hj => ?_, fun S hS hST => i2 S hS (fun j hj hSj => ?_), fun hm => ?_, by omega, fun _ _ => by omega⟩
      · have h1 := i1 j hj
        unfold outOf at h1
        by_cases e : j = v
        · rw [if_pos e] at h1; exact absurd h1 (by decide)
        · rw [if_neg e] at h1; exact h1
      · unfold outOf
        by_cases e : j = v
        · subst e
          have h1 := hS j hj hSj
          have h2 := out_mono (n := n) ho hST hSj
          omega
        · rw [if_neg e]; exact hST j hj hSj
      · exact absurd (i3 hm).1 (by decide)
    · have e : bPass L c n (d + 1) v T m = bPass L c n d (v + 1) T m := if_neg h
      rw [e]
      obtain ⟨i1, i2, i3, i4, i5⟩ := ih (v + 1) T m (by omega)
      refine ⟨i1, i2, fun hm => ?_, i4, i5⟩
      obtain ⟨h1, h2, h3⟩ := i3 hm
      refine ⟨h1, h2, fun j hj1 hj2 hT => ?_⟩
      by_cases e : j = v
      · subst e
        by_cases h4 : outB L n T j ≤ c j
        · exact h4
        · exact absurd ⟨hT, by omega⟩ h
      · exact h3 j (by omega) (by omega) hT
def bRun (L : Nat → Nat → Int) (c : Nat → Int) (n : Nat) : Nat → (Nat → Bool) → Nat → Bool
  | 0, T => T
  | N + 1, T => if (bPass L c n n 0 T false).2 = true then bRun L c n N (bPass L c n n 0 T false).1 else T
theorem bPass_zero {L : Nat → Nat → Int} {c : Nat → Int} {n : Nat} (ho : ∀ u w, u ≠ w → L u w ≤ 0) {T : Nat → Bool} (h : cntB n T = 0) : (bPass L c n n 0 T false).2 = false := by
  cases e : (bPass L c n n 0 T false).2 with
  | false => rfl
  | true =>
    have := (bPass_ok (L := L) (c := c) (n := n) ho n 0 T false (by omega)).2.2.2.2 e rfl
    omega
theorem bRun_ok {L : Nat → Nat → Int} {c : Nat → Int} {n : Nat} (ho : ∀ u w, u ≠ w → L u w ≤ 0) : ∀ (N : Nat) (T : Nat → Bool), cntB n T ≤ N →
    lawful L c n (bRun L c n N T) ∧ (∀ j, bRun L c n N T j = true → T j = true) ∧ ∀ S, lawful L c n S → (∀ j, j < n → S j = true → T j = true) → ∀ j, j < n → S j = true → bRun L c n N T j = true := by
  intro N
  induction N with
  | zero =>
    intro T h
    obtain ⟨_, _, i3, _, _⟩ := bPass_ok (L := L) (c := c) (n := n) ho n 0 T false (by omega)
    obtain ⟨_, _, h3⟩ := i3 (bPass_zero ho (by omega))
    exact ⟨fun v hv hT => h3 v (by omega) (by omega) hT, fun j h => h, fun S _ h => h⟩
  | succ N ih =>
    intro T h
    obtain ⟨i1, i2, i3, i4, i5⟩ := bPass_ok (L := L) (c := c) (n := n) ho n 0 T false (by omega)
    cases e : (bPass L c n n 0 T false).2 with
    | true =>
      have hr : bRun L c n (N + 1) T = bRun L c n N (bPass L c n n 0 T false).1 := if_pos e
      rw [hr]
      have := i5 e rfl
      obtain ⟨j1, j2, j3⟩ := ih (bPass L c n n 0 T false).1 (by omega)
      exact ⟨j1, fun j hj => i1 j (j2 j hj), fun S hS hST => j3 S hS (i2 S hS hST)⟩
    | false =>
      have hr : bRun L c n (N + 1) T = T := if_neg (by rw [e]; decide)
      rw [hr]
      obtain ⟨_, _, h3⟩ := i3 e
      exact ⟨fun v hv hT => h3 v (by omega) (by omega) hT, fun j h => h, fun S _ h => h⟩
/-- A set as a number. -/
def maskOf : Nat → (Nat → Bool) → Nat
  | 0, _ => 0
  | n + 1, S => 2 * maskOf n (fun i => S (i + 1)) + (S 0).toNat
theorem mask_lt (n : Nat) : ∀ S, maskOf n S < 2 ^ n := by
  induction n with
  | zero => intro S; simp [maskOf]
  | succ n ih =>
    intro S
    have h := ih (fun i => S (i + 1))
    have h2 : (S 0).toNat ≤ 1 := by cases S 0 <;> simp
    rw [maskOf, Nat.pow_succ]
    omega
theorem mask_bit : ∀ (n : Nat) (S : Nat → Bool) (i : Nat), (maskOf n S).testBit i = (decide (i < n) && S i) := by
  intro n
  induction n with
  | zero => intro S i; simp [maskOf]
  | succ n ih =>
    intro S i
    have h2 : (S 0).toNat ≤ 1 := by cases S 0 <;> simp
    cases i with
    | zero =>
      rw [Nat.testBit_zero, maskOf, show (2 * maskOf n (fun i => S (i + 1)) + (S 0).toNat) % 2 = (S 0).toNat by omega]
      cases S 0 <;> simp
    | succ i =>
      rw [Nat.testBit_succ, maskOf, show (2 * maskOf n (fun i => S (i + 1)) + (S 0).toNat) / 2 = maskOf n (fun i => S (i + 1)) by omega, ih]
      simp
/-- The eight marks, as the code keeps them. -/
def lb (T : Nat → Bool) : List Bool := (List.range 8).map T
theorem lb_rd (T : Nat → Bool) {i : Nat} (h : i < 8) : rdOf false (lb T) (i : Int) = T i := by
  unfold rdOf lb
  rw [List.getD_eq_getElem?_getD, Int.toNat_natCast, List.getElem?_map, List.getElem?_range h]
  rfl
theorem lb_congr {S T : Nat → Bool} (h : ∀ j, j < 8 → S j = T j) : lb S = lb T := by
  unfold lb
  refine List.map_congr_left fun j hj => h j (by simpa using hj)
theorem lb_set (T : Nat → Bool) (v : Nat) (b : Bool) : (lb T).set v b = lb (fun j => if j = v then b else T j) := by
  refine List.ext_getElem (by simp [lb]) fun i h1 h2 => ?_
  rw [List.getElem_set]
  simp only [lb, List.getElem_map, List.getElem_range]
  by_cases h : v = i
  · subst h; simp
  · rw [if_neg h, if_neg (fun e => h e.symm)]
/-- What has been counted of v's burning before w. -/
def partB (L : Nat → Nat → Int) (T : Nat → Bool) (v w : Nat) : Int := bsum w (fun u => if u = v ∨ T u = true then 0 else -(L v u))
theorem partB_out {L : Nat → Nat → Int} {T : Nat → Bool} {v : Nat} (n : Nat) (h : T v = true) : partB L T v n = outB L n T v := by
  unfold partB outB
  refine bsum_congr fun u _ => ?_
  by_cases h1 : T u = true
  · rw [if_pos (Or.inr h1), if_pos h1]
  · rw [if_neg h1, if_neg (fun e => e.elim (fun e => h1 (e ▸ h)) h1)]
theorem partB_bd {L : Nat → Nat → Int} (hL : ∀ u w, -20 ≤ L u w ∧ L u w ≤ 20) (T : Nat → Bool) (v : Nat) {w : Nat} (hw : w ≤ 8) : -160 ≤ partB L T v w ∧ partB L T v w ≤ 160 := by
  have h := bsum_bd (n := w) (f := fun u => if u = v ∨ T u = true then 0 else -(L v u)) (fun u _ => by
    have := hL v u
    by_cases e : u = v ∨ T u = true
    · simp only [if_pos e]; omega
    · simp only [if_neg e]; omega)
  unfold partB
  omega
theorem burn_l3 (n : Nat) (hn : n ≤ 8) (L : Nat → Nat → Int) (hL : ∀ u w, -20 ≤ L u w ∧ L u w ≤ 20) (c : List Int) (hc : c.length = n) (T : Nat → Bool) (any more : Bool) (v : Nat) (hv : v < n) (R : List Bool × Bool)
    (next : Ev (fun k => if T v = true ∧ rd c (v : Int) < outB L n T v then spec_l10Burn.l2 k (vmat n L) c (lb (outOf T v)) any true ((v + 1 : Nat) : Int) else spec_l10Burn.l2 k (vmat n L) c (lb T) any more ((v + 1 : Nat) : Int)) R) :
    ∀ (q w : Nat), n - w = q → w ≤ n → Ev (fun k => spec_l10Burn.l3 k (vmat n L) c (lb T) any more v (partB L T v w) w) R := by
  intro q
  induction q with
  | zero =>
    intro w hq hw
    obtain rfl : w = n := by omega
    refine Ev.step (fun k => by simp only [spec_l10Burn.l3]; rfl) ?_
    simp only [vmat_length, Int.lt_irrefl, if_false, show (0 : Int) ≤ (v : Int) by omega, show ((v : Int) < 8) by omega, if_true, lb_rd T (show v < 8 by omega), hc, show ((v : Int) < (w : Int)) by omega, w64 (show -9223372036854775808 ≤ (v : Int) + 1 by omega) (by omega), Int.toNat_natCast, lb_set]
    cases hT : T v with
    | false =>
      simp only [hT, Bool.false_eq_true, false_and, if_false] at next ⊢
      exact next
    | true =>
      simp only [hT, true_and, if_true, partB_out w hT] at next ⊢
      by_cases h : rd c (v : Int) < outB L w T v
      · simp only [if_pos h, show outB L w T v > rd c (v : Int) from h, if_true] at next ⊢
        exact next
      · simp only [if_neg h, show ¬ (outB L w T v > rd c (v : Int)) from h, if_false] at next ⊢
        exact next
  | succ q ih =>
    intro w hq hw
    have hwn : w < n := by omega
    have e : partB L T v (w + 1) = partB L T v w + (if w = v ∨ T w = true then 0 else -(L v w)) := rfl
    have hb := partB_bd hL T v (show w ≤ 8 by omega)
    have h1 := hL v w
    have h2 := ih (w + 1) (by omega) (by omega)
    refine Ev.step (fun k => by simp only [spec_l10Burn.l3]; rfl) ?_
    simp only [vmat_length, show ((w : Int) < (n : Int)) by omega, if_true, show (0 : Int) ≤ (w : Int) by omega, show (0 : Int) ≤ (v : Int) by omega, show ((w : Int) < 8) by omega, show ((v : Int) < (n : Int)) by omega, lb_rd T (show w < 8 by omega), vmat_row hv, vrow_length, vrow_rd hwn, w64 (show -9223372036854775808 ≤ (w : Int) + 1 by omega) (by omega)]
    by_cases h : w = v
    · subst h
      rw [e, if_pos (Or.inl rfl), Int.add_zero] at h2
      simp only [if_true]
      exact h2
    · simp only [show ¬ ((v : Int) = (w : Int)) by omega, if_false]
      cases hT : T w with
      | true =>
        rw [e, if_pos (Or.inr hT), Int.add_zero] at h2
        simp only [if_true]
        exact h2
      | false =>
        rw [e, if_neg (fun e => e.elim h (fun e => by rw [hT] at e; exact absurd e (by decide)))] at h2
        simp only [Bool.false_eq_true, if_false]
        rw [w64 (show -9223372036854775808 ≤ partB L T v w - L v w by omega) (by omega), show partB L T v w - L v w = partB L T v w + -(L v w) by omega]
        exact h2
theorem burn_l2 (n : Nat) (hn : n ≤ 8) (L : Nat → Nat → Int) (hL : ∀ u w, -20 ≤ L u w ∧ L u w ≤ 20) (c : List Int) (hc : c.length = n) (any : Bool) (R : List Bool × Bool) :
    ∀ (d v : Nat) (T : Nat → Bool) (m : Bool), n - v = d → v ≤ n → Ev (fun k => spec_l10Burn.l1 k (vmat n L) c (lb (bPass L (fun j => rd c (j : Int)) n d v T m).1) any (bPass L (fun j => rd c (j : Int)) n d v T m).2) R →
    Ev (fun k => spec_l10Burn.l2 k (vmat n L) c (lb T) any m v) R := by
  intro d
  induction d with
  | zero =>
    intro v T m hd hv h
    obtain rfl : v = n := by omega
    refine Ev.step (fun k => by simp only [spec_l10Burn.l2]; rfl) ?_
    simp only [vmat_length, Int.lt_irrefl, if_false]
    exact h
  | succ d ih =>
    intro v T m hd hv h
    have hvn : v < n := by omega
    refine Ev.step (fun k => by simp only [spec_l10Burn.l2]; rfl) ?_
    simp only [vmat_length, show ((v : Int) < (n : Int)) by omega, if_true]
    have h0 := burn_l3 n hn L hL c hc T any m v hvn R ?_ n 0 (by omega) (by omega)
    · exact h0
    · by_cases e : T v = true ∧ rd c (v : Int) < outB L n T v
      · simp only [if_pos e]
        refine ih (v + 1) (outOf T v) true (by omega) (by omega) ?_
        have e2 : bPass L (fun j => rd c (j : Int)) n (d + 1) v T m = bPass L (fun j => rd c (j : Int)) n d (v + 1) (outOf T v) true := if_pos e
        rw [e2] at h
        exact h
      · simp only [if_neg e]
        refine ih (v + 1) T m (by omega) (by omega) ?_
        have e2 : bPass L (fun j => rd c (j : Int)) n (d + 1) v T m = bPass L (fun j => rd c (j : Int)) n d (v + 1) T m := if_neg e
        rw [e2] at h
        exact h
theorem burn_l1 (n : Nat) (hn : n ≤ 8) (L : Nat → Nat → Int) (hL : ∀ u w, -20 ≤ L u w ∧ L u w ≤ 20) (ho : ∀ u w, u ≠ w → L u w ≤ 0) (c : List Int) (hc : c.length = n) (any : Bool) (R : List Bool × Bool) :
    ∀ (N : Nat) (T : Nat → Bool), cntB n T ≤ N → Ev (fun k => spec_l10Burn.l4 k (vmat n L) (lb (bRun L (fun j => rd c (j : Int)) n N T)) any 0) R → Ev (fun k => spec_l10Burn.l1 k (vmat n L) c (lb T) any true) R := by
  have stop : ∀ T : Nat → Bool, (bPass L (fun j => rd c (j : Int)) n n 0 T false).2 = false → Ev (fun k => spec_l10Burn.l4 k (vmat n L) (lb T) any 0) R → Ev (fun k => spec_l10Burn.l1 k (vmat n L) c (lb T) any true) R := by
    intro T h0 h
    refine Ev.step (fun k => by simp only [spec_l10Burn.l1]; rfl) ?_
    simp only [if_true]
    refine burn_l2 n hn L hL c hc any R n 0 T false (by omega) (by omega) ?_
    obtain ⟨_, e, _⟩ := (bPass_ok (L := L) (c := fun j => rd c (j : Int)) (n := n) ho n 0 T false (by omega)).2.2.1 h0
    rw [h0, e]
    refine Ev.step (fun k => by simp only [spec_l10Burn.l1]; rfl) ?_
    simp only [Bool.false_eq_true, if_false]
    exact h
  intro N
  induction N with
  | zero => intro T hT h; exact stop T (bPass_zero ho (by omega)) h
  | succ N ih =>
    intro T hT h
    cases e : (bPass L (fun j => rd c (j : Int)) n n 0 T false).2 with
    | false =>
      rw [show bRun L (fun j => rd c (j : Int)) n (N + 1) T = T from if_neg (by rw [e]; decide)] at h
      exact stop T e h
    | true =>
      rw [show bRun L (fun j => rd c (j : Int)) n (N + 1) T = bRun L (fun j => rd c (j : Int)) n N (bPass L (fun j => rd c (j : Int)) n n 0 T false).1 from if_pos e] at h
      have h5 := (bPass_ok (L := L) (c := fun j => rd c (j : Int)) (n := n) ho n 0 T false (by omega)).2.2.2.2 e rfl
      refine Ev.step (fun k => by simp only [spec_l10Burn.l1]; rfl) ?_
      simp only [if_true]
      refine burn_l2 n hn L hL c hc any R n 0 T false (by omega) (by omega) ?_
      rw [e]
      exact ih _ (by omega) h
def anyF : Nat → Nat → (Nat → Bool) → Bool
  | 0, _, _ => false
  | d + 1, v, T => T v || anyF d (v + 1) T
theorem anyF_iff (T : Nat → Bool) : ∀ d v, anyF d v T = true ↔ ∃ j, v ≤ j ∧ j < v + d ∧ T j = true := by
  intro d
  induction d with
  | zero => intro v; simp only [anyF, Bool.false_eq_true, false_iff]; rintro ⟨j, h1, h2, _⟩; omega
  | succ d ih =>
    intro v
    rw [anyF, Bool.or_eq_true, ih]
    constructor
    · rintro (h | ⟨j, h1, h2, h3⟩)
      · exact ⟨v, by omega, by omega, h⟩
      · exact ⟨j, by omega, by omega, h3⟩
    · rintro ⟨j, h1, h2, h3⟩
      by_cases e : j = v
      · subst e; exact .inl h3
      · exact .inr ⟨j, by omega, by omega, h3⟩
theorem burn_l4 (n : Nat) (hn : n ≤ 8) (L : Nat → Nat → Int) (T : Nat → Bool) : ∀ (d v : Nat) (b : Bool), n - v = d → v ≤ n → Ev (fun k => spec_l10Burn.l4 k (vmat n L) (lb T) b v) (lb T, b || anyF d v T) := by
  intro d
  induction d with
  | zero =>
    intro v b hd hv
    obtain rfl : v = n := by omega
    refine Ev.step (fun k => by simp only [spec_l10Burn.l4]; rfl) ?_
    simp only [vmat_length, Int.lt_irrefl, if_false, anyF, Bool.or_false]
    exact Ev.now _
  | succ d ih =>
    intro v b hd hv
    have h1 := ih (v + 1) true (by omega) (by omega)
    have h2 := ih (v + 1) (T v) (by omega) (by omega)
    refine Ev.step (fun k => by simp only [spec_l10Burn.l4]; rfl) ?_
    simp only [vmat_length, show ((v : Int) < (n : Int)) by omega, if_true, show (0 : Int) ≤ (v : Int) by omega, show ((v : Int) < 8) by omega, lb_rd T (show v < 8 by omega), w64 (show -9223372036854775808 ≤ (v : Int) + 1 by omega) (by omega), anyF]
    cases b with
    | true => simp only [if_true, Bool.true_or] at h1 ⊢; exact h1
    | false => simp only [Bool.false_eq_true, if_false, Bool.false_or]; exact h2
def allBut (n : Nat) (q : Int) : Nat → Bool := fun j => decide (j < n) && ((j : Int) != q)
theorem burn_l0 (n : Nat) (hn : n ≤ 8) (L : Nat → Nat → Int) (c : List Int) (q : Int) (R : List Bool × Bool) (next : Ev (fun k => spec_l10Burn.l1 k (vmat n L) c (lb (allBut n q)) false true) R) :
    ∀ (d v : Nat), n - v = d → v ≤ n → Ev (fun k => spec_l10Burn.l0 k (vmat n L) c q (lb (allBut v q)) false v) R := by
  intro d
  induction d with
  | zero =>
    intro v hd hv
    obtain rfl : v = n := by omega
    refine Ev.step (fun k => by simp only [spec_l10Burn.l0]; rfl) ?_
    simp only [vmat_length, Int.lt_irrefl, if_false]
    exact next
  | succ d ih =>
    intro v hd hv
    have h1 := ih (v + 1) (by omega) (by omega)
    refine Ev.step (fun k => by simp only [spec_l10Burn.l0]; rfl) ?_
    simp only [vmat_length, show ((v : Int) < (n : Int)) by omega, if_true, show (0 : Int) ≤ (v : Int) by omega, show ((v : Int) < 8) by omega, w64 (show -9223372036854775808 ≤ (v : Int) + 1 by omega) (by omega), Int.toNat_natCast, lb_set]
    rw [show lb (fun j => if j = v then ((v : Int) != q) else allBut v q j) = lb (allBut (v + 1) q) from lb_congr fun j _ => by
      unfold allBut
      by_cases e : j = v
      · subst e; simp
      · rw [if_neg e, decide_eq_decide.2 (show j < v ↔ j < v + 1 by omega)]]
    exact h1
/-- Something is left unburnt: the burning's answer. -/
def leftR (n : Nat) (L : Nat → Nat → Int) (c : List Int) (q : Int) : Bool := anyF n 0 (bRun L (fun j => rd c (j : Int)) n (cntB n (allBut n q)) (allBut n q))
theorem l10Burn_ev (n : Nat) (hn : n ≤ 8) (L : Nat → Nat → Int) (hL : ∀ u w, -20 ≤ L u w ∧ L u w ≤ 20) (ho : ∀ u w, u ≠ w → L u w ≤ 0) (c : List Int) (hc : c.length = n) (q : Int) : Ev (fun k => spec_l10Burn.f k (vmat n L) c q) (leftR n L c q) := by
  have h4 := burn_l4 n hn L (bRun L (fun j => rd c (j : Int)) n (cntB n (allBut n q)) (allBut n q)) n 0 false (by omega) (by omega)
  have h1 := burn_l1 n hn L hL ho c hc false _ (cntB n (allBut n q)) (allBut n q) (Nat.le_refl _) h4
  have h0 := burn_l0 n hn L c q _ h1 n 0 (by omega) (by omega)
  rw [show lb (allBut 0 q) = List.replicate 8 false from by simp [lb, allBut, List.range, List.range.loop, List.replicate]] at h0
  obtain ⟨K, hK⟩ := h0
  refine ⟨K, fun k hk => ?_⟩
  have hk2 : spec_l10Burn.l0 k (vmat n L) c q (List.replicate 8 false) false 0 = some _ := hK k hk
  show (spec_l10Burn.fA k (vmat n L) c q).map Prod.snd = _
  unfold spec_l10Burn.fA
  rw [if_pos (by omega), hk2]
  simp [leftR]
/-- The answer is yes if a lawful set without q is there. -/
theorem leftR_iff (n : Nat) (L : Nat → Nat → Int) (ho : ∀ u w, u ≠ w → L u w ≤ 0) (c : List Int) (q : Nat) : leftR n L c q = true ↔ ∃ S : Nat → Bool, lawful L (fun j => rd c (j : Int)) n S ∧ S q = false ∧ ∃ j, j < n ∧ S j = true := by
  obtain ⟨h1, h2, h3⟩ := bRun_ok (L := L) (c := fun j => rd c (j : Int)) (n := n) ho (cntB n (allBut n q)) (allBut n q) (Nat.le_refl _)
  unfold leftR
  rw [anyF_iff]
  constructor
  · rintro ⟨j, _, hj, hT⟩
    refine ⟨_, h1, ?_, j, by omega, hT⟩
    cases e : bRun L (fun j => rd c (j : Int)) n (cntB n (allBut n q)) (allBut n q) q with
    | false => rfl
    | true =>
      have := h2 q e
      simp [allBut] at this
  · rintro ⟨S, hS, hq, j, hj, hT⟩
    refine ⟨j, by omega, by omega, h3 S hS (fun i hi hSi => ?_) j hj hT⟩
    unfold allBut
    have : i ≠ q := fun e => by rw [e, hq] at hSi; exact absurd hSi (by decide)
    simp only [hi, decide_true, Bool.true_and, bne_iff_ne, ne_eq]
    omega
theorem bit_at (m i : Nat) (hm : m ≤ 256) (hi : i ≤ 8) : Go.bits .and .i64 (shr .i64 (m : Int) (i : Int)) 1 = if m.testBit i = true then 1 else 0 := by
  have e1 : shr .i64 (m : Int) (i : Int) = ((m / 2 ^ i : Nat) : Int) := by
    unfold shr
    rw [Int.toNat_natCast, Nat.min_eq_left (show i ≤ IntKind.i64.bits by show i ≤ 64; omega)]
    simp
  have hy : m / 2 ^ i ≤ 256 := Nat.le_trans (Nat.div_le_self _ _) hm
  rw [e1, Nat.testBit_eq_decide_div_mod_eq]
  generalize m / 2 ^ i = y at hy ⊢
  have e : Go.bits .and .i64 (y : Int) 1 = IntKind.i64.wrap ((BitVec.ofInt 64 (y : Int) &&& BitVec.ofInt 64 1).toNat : Int) := rfl
  have e2 : (BitVec.ofInt 64 (y : Int)).toNat = y := by
    rw [BitVec.ofInt_natCast, BitVec.toNat_ofNat]
    omega
  rw [e, BitVec.toNat_and, e2, show (BitVec.ofInt 64 1).toNat = 1 from rfl, Nat.and_one_is_mod, IntWalk.i64_left, w64 (by omega) (by omega)]
  by_cases h : y % 2 = 1
  · rw [h]; rfl
  · rw [show y % 2 = 0 by omega]; rfl
theorem shl_one (n : Nat) (hn : n ≤ 8) : shl .i64 1 (n : Int) = ((2 ^ n : Nat) : Int) := by
  have h : n = 0 ∨ n = 1 ∨ n = 2 ∨ n = 3 ∨ n = 4 ∨ n = 5 ∨ n = 6 ∨ n = 7 ∨ n = 8 := by omega
  rcases h with rfl | rfl | rfl | rfl | rfl | rfl | rfl | rfl | rfl <;> decide
theorem pow_256 {n : Nat} (hn : n ≤ 8) : 2 ^ n ≤ 256 := Nat.pow_le_pow_right (n := 2) (by decide) hn
def sW (m i : Nat) : Int := if m.testBit i = true then 1 else 0
def sL (n m : Nat) : List Int := vrow n (sW m)
/-- What row r does to w. -/
def gW (L : Nat → Nat → Int) (m w r : Nat) : Int := if m.testBit r = true then L r w else 0
theorem gW_bd {L : Nat → Nat → Int} (hL : ∀ u w, -20 ≤ L u w ∧ L u w ≤ 20) (m w r : Nat) : -20 ≤ gW L m w r ∧ gW L m w r ≤ 20 := by
  have := hL r w
  unfold gW
  split <;> omega
def midV (n : Nat) (L : Nat → Nat → Int) (c : List Int) (m i j : Nat) : List Int := vrow n (fun w => rd c (w : Int) - (bsum i (gW L m w) + if w < j then gW L m w i else 0))
def endV (n : Nat) (L : Nat → Nat → Int) (c : List Int) (m : Nat) : List Int := vrow n (fun w => rd c (w : Int) - bsum n (gW L m w))
theorem firedM_l1 (n : Nat) (hn : n ≤ 8) (L : Nat → Nat → Int) (hL : ∀ u w, -20 ≤ L u w ∧ L u w ≤ 20) (c : List Int) (hc : c.length = n) (hb : c.any badChip = false) (m : Nat) (i : Nat) (hi : i < n) (R : List Int)
    (next : Ev (fun k => impl_Graph_fired.l0 k (sL n m) (midV n L c m (i + 1) 0) (vmat n L) n ((i + 1 : Nat) : Int)) R) :
    ∀ (q j : Nat), n - j = q → j ≤ n → Ev (fun k => impl_Graph_fired.l1 k (sL n m) (midV n L c m i j) i (vmat n L) n i n j) R := by
  intro q
  induction q with
  | zero =>
    intro j hq hj
    obtain rfl : j = n := by omega
    refine Ev.step (fun k => by simp only [impl_Graph_fired.l1]; rfl) ?_
    simp only [Int.lt_irrefl, if_false, w64 (show -9223372036854775808 ≤ (i : Int) + 1 by omega) (by omega)]
    refine Ev.congr (fun k => ?_) next
    rw [show ((i + 1 : Nat) : Int) = (i : Int) + 1 by omega]
    congr 1
    unfold midV
    refine vrow_congr fun w hw => ?_
    rw [if_pos hw, if_neg (Nat.not_lt_zero _), bsum_succ]
    omega
  | succ q ih =>
    intro j hq hj
    have hjn : j < n := by omega
    have h1 := hL i j
    have h2 := chip_in hb j (by omega)
    have h3 := bsum_bd (n := i) (f := gW L m j) (fun r _ => gW_bd hL m j r)
    refine Ev.step (fun k => by simp only [impl_Graph_fired.l1]; rfl) ?_
    have hrd : rd (midV n L c m i j) (j : Int) = rd c (j : Int) - bsum i (gW L m j) := by
      unfold midV
      rw [vrow_rd hjn, if_neg (Nat.lt_irrefl _)]
      omega
    have hlen : (midV n L c m i j).length = n := vrow_length _ _
    have hls : (sL n m).length = n := vrow_length _ _
    have hsr : rd (sL n m) (i : Int) = sW m i := vrow_rd hi
    have hsw : sW m i = 0 ∨ sW m i = 1 := by unfold sW; split <;> simp
    have hg : L i j * sW m i = gW L m j i := by
      unfold sW gW
      by_cases e : m.testBit i = true
      · rw [if_pos e, if_pos e]; omega
      · rw [if_neg e, if_neg e]; omega
    have hgb := gW_bd hL m j i
    simp only [show ((j : Int) < (n : Int)) by omega, if_true, show (0 : Int) ≤ (j : Int) by omega, vmat_row hi, vrow_length, hlen, show (0 : Int) ≤ (i : Int) by omega, hls, show ((i : Int) < (n : Int)) by omega, vrow_rd hjn, hsr, hrd, hg, Int.toNat_natCast, w64 (show -9223372036854775808 ≤ (j : Int) + 1 by omega) (by omega), w64 (show -9223372036854775808 ≤ gW L m j i by omega) (by omega)]
    rw [w64 (show -9223372036854775808 ≤ rd c (j : Int) - bsum i (gW L m j) - gW L m j i by omega) (by omega)]
    refine Ev.congr (fun k => ?_) (ih (j + 1) (by omega) (by omega))
    rw [show ((j + 1 : Nat) : Int) = (j : Int) + 1 by omega]
    congr 1
    unfold midV
    rw [vrow_set]
    refine vrow_congr fun w hw => ?_
    by_cases e2 : w = j
    · subst e2; rw [if_pos rfl, if_pos (by omega)]; omega
    · rw [if_neg e2]
      by_cases e3 : w < j
      · rw [if_pos e3, if_pos (show w < j + 1 by omega)]
      · rw [if_neg e3, if_neg (show ¬ w < j + 1 by omega)]
theorem firedM_l0 (n : Nat) (hn : n ≤ 8) (L : Nat → Nat → Int) (hL : ∀ u w, -20 ≤ L u w ∧ L u w ≤ 20) (c : List Int) (hc : c.length = n) (hb : c.any badChip = false) (m : Nat) : ∀ (q i : Nat), n - i = q → i ≤ n →
    Ev (fun k => impl_Graph_fired.l0 k (sL n m) (midV n L c m i 0) (vmat n L) n i) (endV n L c m) := by
  intro q
  induction q with
  | zero =>
    intro i hq hi
    obtain rfl : i = n := by omega
    refine Ev.step (fun k => by simp only [impl_Graph_fired.l0]; rfl) ?_
    simp only [Int.lt_irrefl, if_false]
    rw [show midV i L c m i 0 = endV i L c m from vrow_congr fun w _ => by rw [if_neg (Nat.not_lt_zero _)]; omega]
    exact Ev.now _
  | succ q ih =>
    intro i hq hi
    have hin : i < n := by omega
    refine Ev.step (fun k => by simp only [impl_Graph_fired.l0]; rfl) ?_
    simp only [vmat_length, show ((i : Int) < (n : Int)) by omega, if_true, show (0 : Int) ≤ (i : Int) by omega, vmat_row hin, vrow_length]
    exact firedM_l1 n hn L hL c hc hb m i hin _ (ih (i + 1) (by omega) (by omega)) n 0 (by omega) (by omega)
theorem lapL_bd {l : List (List Int)} (hl : l.length ≤ 10) (u w : Nat) : -20 ≤ lapF l l.length u w ∧ lapF l l.length u w ≤ 20 := by
  have := lapF_le l l.length u w
  omega
theorem firedM_ev (n : Nat) (hn : n ≤ 8) (l : List (List Int)) (hl : l.length ≤ 10) (hE : endsIn n l) (c : List Int) (hc : c.length = n) (hb : c.any badChip = false) (m : Nat) : Ev (fun k => impl_Graph_fired.f k n l c (sL n m)) (endV n (lapF l l.length) c m) := by
  unfold impl_Graph_fired.f slices_Clone_int64_int64.f
  simp only [show c.length < 17592186044416 by omega, if_true, Option.bind_some]
  refine Ev.bind (laplacian_ev n hn l hl hE) ?_
  have h := firedM_l0 n hn (lapF l l.length) (lapL_bd hl) c hc hb m n 0 (by omega) (by omega)
  rw [show midV n (lapF l l.length) c m 0 0 = c from by
    rw [vrow_of hc]
    unfold midV
    refine vrow_congr fun w hw => ?_
    rw [if_neg (by omega), vrow_rd hw]
    simp [bsum]] at h
  simp only [vmat_length]
  exact h
/-- Is no vertex of the set in debt behind the firing, from v on? -/
def okF (n : Nat) (L : Nat → Nat → Int) (c : List Int) (m : Nat) : Nat → Nat → Bool
  | 0, _ => true
  | d + 1, v => (!m.testBit v || decide (0 ≤ rd c (v : Int) - bsum n (gW L m v))) && okF n L c m d (v + 1)
theorem okF_iff (n : Nat) (L : Nat → Nat → Int) (c : List Int) (m : Nat) : ∀ d v, okF n L c m d v = true ↔ ∀ j, v ≤ j → j < v + d → m.testBit j = true → 0 ≤ rd c (j : Int) - bsum n (gW L m j) := by
  intro d
  induction d with
  | zero => intro v; simp only [okF, true_iff]; intro j h1 h2; omega
  | succ d ih =>
    intro v
    rw [okF, Bool.and_eq_true, ih]
    constructor
    · rintro ⟨h1, h2⟩ j hj1 hj2 hb
      by_cases e : j = v
      · subst e
        rw [hb] at h1
        simpa using h1
      · exact h2 j (by omega) (by omega) hb
    · intro h
      refine ⟨?_, fun j h1 h2 hb => h j (by omega) (by omega) hb⟩
      cases e : m.testBit v with
      | false => rfl
      | true => simpa using h v (by omega) (by omega) e
theorem legal_l2 (n : Nat) (hn : n ≤ 8) (L : Nat → Nat → Int) (c : List Int) (q : Int) (P m : Nat) (l : List (List Int)) (R : List Int) : ∀ (d v : Nat) (b : Bool), n - v = d → v ≤ n →
    Ev (fun k => if (b && okF n L c m d v) = true then (if sL n m = [] then none else some (sL n m)) else impl_Graph_legal.l0 k c q P (wrap64 ((m : Int) + 1)) n l) R →
    Ev (fun k => impl_Graph_legal.l2 k c q (sL n m) b P m (endV n L c m) n v n l) R := by
  intro d
  induction d with
  | zero =>
    intro v b hd hv h
    obtain rfl : v = n := by omega
    refine Ev.step (fun k => by simp only [impl_Graph_legal.l2]; rfl) ?_
    simp only [Int.lt_irrefl, if_false]
    simp only [okF, Bool.and_true] at h
    exact h
  | succ d ih =>
    intro v b hd hv h
    have hvn : v < n := by omega
    have hle : (endV n L c m).length = n := vrow_length _ _
    have hls : (sL n m).length = n := vrow_length _ _
    have hsr : rd (sL n m) (v : Int) = sW m v := vrow_rd hvn
    have her : rd (endV n L c m) (v : Int) = rd c (v : Int) - bsum n (gW L m v) := vrow_rd hvn
    refine Ev.step (fun k => by simp only [impl_Graph_legal.l2]; rfl) ?_
    simp only [show ((v : Int) < (n : Int)) by omega, if_true, show (0 : Int) ≤ (v : Int) by omega, hle, hls, hsr, her, w64 (show -9223372036854775808 ≤ (v : Int) + 1 by omega) (by omega)]
    simp only [okF] at h
    cases b with
    | false =>
      simp only [Bool.false_and, Bool.false_eq_true, if_false] at h ⊢
      refine ih (v + 1) false (by omega) (by omega) ?_
      simp only [Bool.false_and, Bool.false_eq_true, if_false]
      exact h
    | true =>
      simp only [if_true, Bool.true_and] at h ⊢
      unfold sW
      cases e : m.testBit v with
      | false =>
        simp only [e, Bool.not_false, Bool.true_or, Bool.true_and, Bool.false_eq_true, if_false, if_true] at h ⊢
        refine ih (v + 1) true (by omega) (by omega) ?_
        simp only [Bool.true_and]
        exact h
      | true =>
        simp only [e, Bool.not_true, Bool.false_or, if_true, show ¬ ((1 : Int) = 0) by decide, if_false, ge_iff_le] at h ⊢
        exact ih (v + 1) (decide (0 ≤ rd c (v : Int) - bsum n (gW L m v))) (by omega) (by omega) h
theorem legal_l1 (n : Nat) (hn : n ≤ 8) (c : List Int) (q : Int) (P m : Nat) (hm : m ≤ 256) (l : List (List Int)) (F R : List Int) (hF : Ev (fun k => impl_Graph_fired.f k n l c (sL n m)) F)
    (next : Ev (fun k => impl_Graph_legal.l2 k c q (sL n m) true P m F (F.length : Int) 0 n l) R) : ∀ (d v : Nat), n - v = d → v ≤ n →
    Ev (fun k => impl_Graph_legal.l1 k c q m (vrow n (fun w => if w < v then sW m w else 0)) P m n v n l) R := by
  intro d
  induction d with
  | zero =>
    intro v hd hv
    obtain rfl : v = n := by omega
    refine Ev.step (fun k => by simp only [impl_Graph_legal.l1]; rfl) ?_
    simp only [Int.lt_irrefl, if_false]
    rw [show vrow v (fun w => if w < v then sW m w else 0) = sL v m from vrow_congr fun w hw => if_pos hw]
    exact Ev.bind hF next
  | succ d ih =>
    intro v hd hv
    have hvn : v < n := by omega
    have h1 := ih (v + 1) (by omega) (by omega)
    refine Ev.step (fun k => by simp only [impl_Graph_legal.l1]; rfl) ?_
    simp only [show ((v : Int) < (n : Int)) by omega, if_true, show (0 : Int) ≤ (v : Int) by omega, vrow_length, Int.toNat_natCast, bit_at m v hm (by omega), vrow_set, w64 (show -9223372036854775808 ≤ (v : Int) + 1 by omega) (by omega)]
    rw [show vrow n (fun j => if j = v then (if m.testBit v = true then 1 else 0) else if j < v then sW m j else 0) = vrow n (fun w => if w < v + 1 then sW m w else 0) from vrow_congr fun w _ => by
      by_cases e : w = v
      · subst e; rw [if_pos rfl, if_pos (show w < w + 1 by omega)]; rfl
      · rw [if_neg e]
        by_cases e2 : w < v
        · rw [if_pos e2, if_pos (show w < v + 1 by omega)]
        · rw [if_neg e2, if_neg (show ¬ w < v + 1 by omega)]]
    exact h1
/-- A number that stands for a lawful set. -/
def goodM (n : Nat) (L : Nat → Nat → Int) (c : List Int) (q m : Nat) : Prop := m ≠ 0 ∧ m.testBit q = false ∧ okF n L c m n 0 = true
theorem legal_l0 (n : Nat) (hn1 : 1 ≤ n) (hn : n ≤ 8) (l : List (List Int)) (hl : l.length ≤ 10) (hE : endsIn n l) (c : List Int) (hc : c.length = n) (hb : c.any badChip = false) (q : Nat) (hq : q < n) : ∀ (d m : Nat), 2 ^ n - m = d → m ≤ 2 ^ n →
    ∃ R : List Int, Ev (fun k => impl_Graph_legal.l0 k c (q : Int) ((2 ^ n : Nat) : Int) m n l) R ∧ (R.isEmpty = true ↔ ∀ m', m ≤ m' → m' < 2 ^ n → ¬ goodM n (lapF l l.length) c q m') := by
  have hP := pow_256 hn
  generalize 2 ^ n = P at hP ⊢
  intro d
  induction d with
  | zero =>
    intro m hd hm
    obtain rfl : m = P := by omega
    refine ⟨[], ?_, by simp; omega⟩
    refine Ev.step (fun k => by simp only [impl_Graph_legal.l0]; rfl) ?_
    simp only [Int.lt_irrefl, if_false]
    exact Ev.now _
  | succ d ih =>
    intro m hd hm
    have hmP : m < P := by omega
    obtain ⟨R, hR, hiff⟩ := ih (m + 1) (by omega) (by omega)
    have e1 : wrap64 ((m : Int) + 1) = ((m + 1 : Nat) : Int) := w64 (by omega) (by omega)
    have more : ¬ goodM n (lapF l l.length) c q m → (R.isEmpty = true ↔ ∀ m', m ≤ m' → m' < P → ¬ goodM n (lapF l l.length) c q m') := by
      intro hg
      rw [hiff]
      constructor
      · intro h m' h1 h2
        by_cases e : m' = m
        · rw [e]; exact hg
        · exact h m' (by omega) h2
      · intro h m' h1 h2; exact h m' (by omega) h2
    have skip : Ev (fun k => impl_Graph_legal.j1 k c (q : Int) m P m true n l) R := by
      refine Ev.step (fun k => by simp only [impl_Graph_legal.j1]; rfl) ?_
      simp only [if_true, e1]
      exact hR
    by_cases h0 : m = 0
    · refine ⟨R, ?_, more (fun h => h.1 h0)⟩
      refine Ev.step (fun k => by simp only [impl_Graph_legal.l0]; rfl) ?_
      simp only [show ((m : Int) < (P : Int)) by omega, if_true]
      simp only [show ((m : Int) = 0) by omega, if_true]
      have := skip
      simp only [show ((m : Int) = 0) by omega] at this
      exact this
    · have first : ∀ R', Ev (fun k => impl_Graph_legal.j1 k c (q : Int) m P m (m.testBit q) n l) R' → Ev (fun k => impl_Graph_legal.l0 k c (q : Int) (P : Int) m n l) R' := by
        intro R' h
        refine Ev.step (fun k => by simp only [impl_Graph_legal.l0]; rfl) ?_
        simp only [show ((m : Int) < (P : Int)) by omega, if_true, show ¬ ((m : Int) = 0) by omega, if_false, show (0 : Int) ≤ (q : Int) by omega, bit_at m q (by omega) (by omega)]
        cases e : m.testBit q with
        | true => rw [e] at h; simp only [if_true]; exact h
        | false => rw [e] at h; simp only [Bool.false_eq_true, if_false]; exact h
      cases hbq : m.testBit q with
      | true =>
        rw [hbq] at first
        exact ⟨R, first R skip, more (fun h => by rw [h.2.1] at hbq; exact absurd hbq (by decide))⟩
      | false =>
        rw [hbq] at first
        have go : ∀ R', Ev (fun k => if (true && okF n (lapF l l.length) c m n 0) = true then (if sL n m = [] then none else some (sL n m)) else impl_Graph_legal.l0 k c (q : Int) P (wrap64 ((m : Int) + 1)) n l) R' → Ev (fun k => impl_Graph_legal.j1 k c (q : Int) m P m false n l) R' := by
          intro R' h
          have h2 := legal_l2 n hn (lapF l l.length) c (q : Int) P m l R' n 0 true (by omega) (by omega) h
          have h1 := legal_l1 n hn c (q : Int) P m (by omega) l _ R' (firedM_ev n hn l hl hE c hc hb m) (by rw [show (endV n (lapF l l.length) c m).length = n from vrow_length _ _]; exact h2) n 0 (by omega) (by omega)
          refine Ev.step (fun k => by simp only [impl_Graph_legal.j1]; rfl) ?_
          simp only [Bool.false_eq_true, if_false, show (0 : Int) ≤ (n : Int) by omega, if_true, Int.toNat_natCast, show n ≤ 35184372088832 by omega, Option.bind_some, List.length_replicate]
          rw [show List.replicate n (0 : Int) = vrow n (fun w => if w < 0 then sW m w else 0) from by
            refine List.ext_getElem (by simp [vrow]) fun i h1 h2 => ?_
            simp [vrow]]
          exact h1
        have hne : sL n m ≠ [] := fun e => by
          have h1 : (sL n m).length = n := vrow_length _ _
          rw [e] at h1
          simp at h1
          omega
        cases hok : okF n (lapF l l.length) c m n 0 with
        | true =>
          refine ⟨sL n m, first _ (go _ ?_), ?_⟩
          · simp only [hok, Bool.and_self, if_true, if_neg hne]
            exact Ev.now _
          · constructor
            · intro h
              exact absurd (List.isEmpty_iff.1 h) hne
            · intro h
              exact absurd ⟨h0, hbq, hok⟩ (h m (by omega) hmP)
        | false =>
          refine ⟨R, first _ (go _ ?_), more (fun h => by rw [h.2.2] at hok; exact absurd hok (by decide))⟩
          simp only [hok, Bool.and_false, Bool.false_eq_true, if_false, e1]
          exact hR
theorem l01Count_l0 (c : List Int) (hc : c.length ≤ 1048576) : ∀ (d i z : Nat), c.length - i = d → i ≤ c.length → z ≤ i → Ev (fun k => spec_l01Count.l0 k c z i) ((z + cntF c d i : Nat) : Int) := by
  intro d
  induction d with
  | zero =>
    intro i z hd hi hz
    obtain rfl : i = c.length := by omega
    refine Ev.step (fun k => by simp only [spec_l01Count.l0]; rfl) ?_
    simp only [Int.lt_irrefl, if_false]
    exact Ev.now _
  | succ d ih =>
    intro i z hd hi hz
    refine Ev.step (fun k => by simp only [spec_l01Count.l0]; rfl) ?_
    simp only [show ((i : Int) < (c.length : Int)) by omega, show (0 : Int) ≤ (i : Int) by omega, if_true, w64 (show -9223372036854775808 ≤ (i : Int) + 1 by omega) (by omega), w64 (show -9223372036854775808 ≤ (z : Int) + 1 by omega) (by omega)]
    by_cases h : rd c (i : Int) = (i : Int)
    · have h1 := ih (i + 1) (z + 1) (by omega) (by omega) (by omega)
      rw [show cntF c (d + 1) i = 1 + cntF c d (i + 1) from by rw [cntF_succ, if_pos h], show z + (1 + cntF c d (i + 1)) = z + 1 + cntF c d (i + 1) by omega]
      simp only [h, if_true]
      exact h1
    · have h1 := ih (i + 1) z (by omega) (by omega) (by omega)
      rw [show cntF c (d + 1) i = cntF c d (i + 1) from by rw [cntF_succ, if_neg h, Nat.zero_add]]
      simp only [h, if_false]
      exact h1
theorem l01Connected_ev (n : Nat) (hn1 : 1 ≤ n) (hn : n ≤ 8) (l : List (List Int)) (hl : l.length ≤ 10) (hE : endsIn n l) : Ev (fun k => spec_l01Connected.f k n l) (onePart (clsOf n l)) := by
  have hgood := clsOf_good n l hE
  unfold spec_l01Connected.f
  have h : Ev (fun k => spec_l01Count.f k n l) ((cntF (clsOf n l) (clsOf n l).length 0 : Nat) : Int) := by
    unfold spec_l01Count.f
    refine Ev.bind (spec_parts_ev n (by omega) l (by omega) hE) ?_
    have h := l01Count_l0 (clsOf n l) (by have := hgood.1; omega) (clsOf n l).length 0 0 (by omega) (by omega) (by omega)
    rw [Nat.zero_add] at h
    exact h
  refine Ev.bind h ?_
  rw [cnt_one hn1 hgood]
  exact Ev.now _
theorem parts_ev (n : Nat) (hn : n ≤ 8) (l : List (List Int)) (hl : l.length ≤ 10) (hE : endsIn n l) : Ev (fun k => impl_Graph_parts.f k n l) ((cntF (clsOf n l) (clsOf n l).length 0 : Nat) : Int) := by
  have hgood := clsOf_good n l hE
  unfold impl_Graph_parts.f
  refine Ev.bind (impl_classes_ev n (by omega) l (by omega) hE) ?_
  exact Ev.bind (countParts_ev _ (by have := hgood.1; omega)) (Ev.now _)
/-- The code of chips and a vertex upon a graph in one part. -/
def chipCode (a : Int) (l : List (List Int)) (c : List Int) (q : Int) : Int :=
  if isG a l then (if chipsOK a c && endIn a q then (if onePart (clsOf a.toNat l) then 0 else 5) else 2) else 1
theorem l10Code_ev (a : Int) (l : List (List Int)) (c : List Int) (q : Int) (hl : l.length ≤ maxLen) (hc : c.length ≤ maxLen) : Ev (fun k => spec_l10Code.f k a l q [c]) (chipCode a l c q) := by
  unfold spec_l10Code.f chipCode
  refine Ev.bind (l10Chips_ev a l c hl hc) ?_
  cases hg : isG a l with
  | false =>
    simp only [Bool.false_eq_true, if_false, show ¬ ((1 : Int) = 0) by omega]
    refine Ev.step (fun k => by simp only [spec_l10Code.j0]; rfl) ?_
    simp only [Bool.false_eq_true, if_false, show ¬ ((1 : Int) = 0) by omega]
    exact Ev.now _
  | true =>
    cases hk : chipsOK a c with
    | false =>
      simp only [Bool.false_eq_true, if_false, if_true, Bool.false_and, show ¬ ((2 : Int) = 0) by omega]
      refine Ev.step (fun k => by simp only [spec_l10Code.j0]; rfl) ?_
      simp only [Bool.false_eq_true, if_false, show ¬ ((2 : Int) = 0) by omega]
      exact Ev.now _
    | true =>
      simp only [if_true, l01In_eq, Option.bind_some, Bool.true_and]
      rw [show (decide (0 ≤ q) && decide (q ≤ wrap64 (a - 1))) = endIn a q from rfl]
      refine Ev.step (fun k => by simp only [spec_l10Code.j0]; rfl) ?_
      cases endIn a q with
      | false => simp only [Bool.not_false, if_true, Bool.false_eq_true, if_false, show ¬ ((2 : Int) = 0) by omega]; exact Ev.now _
      | true =>
        obtain ⟨n, rfl, hn1, hn8, hE⟩ := isG_ends hg
        have hl10 := isG_len hg
        simp only [Bool.not_true, Bool.false_eq_true, if_false, if_true, Int.toNat_natCast]
        refine Ev.bind (l01Connected_ev n hn1 hn8 l hl10 hE) ?_
        by_cases h3 : onePart (clsOf n l) = true
        · simp only [if_pos h3]; exact Ev.now _
        · simp only [if_neg h3]; exact Ev.now _
theorem chipsCode_ev (a : Int) (l : List (List Int)) (c : List Int) (q : Int) (hl : l.length ≤ maxLen) : Ev (fun k => impl_chipsCode.f k a l q [c]) (chipCode a l c q) := by
  unfold impl_chipsCode.f
  refine Ev.bind ?_ (Ev.now _)
  unfold impl_chipsCode_1.f chipCode
  refine Ev.bind (impl_IsGraph_ev a l hl) ?_
  cases hg : isG a l with
  | false => simp only [Bool.false_eq_true, if_false]; exact Ev.now _
  | true =>
    simp only [if_true, impl_Graph_areChips.f, impl_Graph_isVertex.f, within_eq, idxM, Option.bind_some, Option.map_some]
    rw [show (decide ((c.length : Int) = a) && !c.any badChip) = chipsOK a c from rfl, show (decide (0 ≤ q) && decide (q ≤ wrap64 (a - 1))) = endIn a q from rfl]
    cases endIn a q with
    | false => simp only [Bool.false_eq_true, if_false, Bool.and_false]; exact Ev.now _
    | true =>
      cases chipsOK a c with
      | false => simp; exact Ev.now _
      | true =>
        obtain ⟨n, rfl, hn1, hn8, hE⟩ := isG_ends hg
        have hl10 := isG_len hg
        have h1 := cnt_one hn1 (clsOf_good n l hE)
        have h2 := parts_ev n hn8 l hl10 hE
        simp only [if_true, Bool.not_true, Bool.false_eq_true, if_false, Option.bind_some, Bool.and_self, Int.toNat_natCast, show ¬ ((0 : Int) ≤ -1) by omega]
        refine Ev.bind h2 ?_
        by_cases h3 : onePart (clsOf n l) = true
        · rw [h3] at h1
          simp only [if_pos h3, if_pos (beq_iff_eq.1 h1)]
          exact Ev.now _
        · rw [Bool.eq_false_iff.2 h3] at h1
          simp only [if_neg h3, if_neg (beq_eq_false_iff_ne.1 h1)]
          exact Ev.now _
/-- Is a configuration reduced at q? -/
def redR (n : Nat) (l : List (List Int)) (c : List Int) (q : Int) : Bool := !irBad q c 0 && !leftR n (lapF l l.length) c q
theorem spec_red_l0 (n : Nat) (l : List (List Int)) (c : List Int) (hc : c.length = n) (hn : n ≤ 8) (q : Int) (B : Bool) (next : Ev (fun k => (spec_l10Laplacian.f k n l).bind fun t => (spec_l10Burn.f k t c q).bind fun b => some (!b, (0 : Int))) (B, 0)) : ∀ (d v : Nat), n - v = d → v ≤ n →
    Ev (fun k => spec_IsReducedAt.l0 k c q v n l) (!irBad q (c.drop v) v && B, 0) := by
  intro d
  induction d with
  | zero =>
    intro v hd hv
    obtain rfl : v = n := by omega
    refine Ev.step (fun k => by simp only [spec_IsReducedAt.l0]; rfl) ?_
    simp only [Int.lt_irrefl, if_false, List.drop_of_length_le (show c.length ≤ v by omega), irBad, Bool.not_false, Bool.true_and]
    exact next
  | succ d ih =>
    intro v hd hv
    have hvn : v < n := by omega
    have h1 := ih (v + 1) (by omega) (by omega)
    refine Ev.step (fun k => by simp only [spec_IsReducedAt.l0]; rfl) ?_
    rw [irBad_drop q c v (by omega)]
    simp only [show ((v : Int) < (n : Int)) by omega, if_true, show (0 : Int) ≤ (v : Int) by omega, hc, w64 (show -9223372036854775808 ≤ (v : Int) + 1 by omega) (by omega)]
    by_cases e : (v : Int) = q
    · simp only [e, if_true, bne_self_eq_false, Bool.false_and, Bool.false_eq_true, if_false]
      rw [← e]
      rw [← e] at h1
      exact h1
    · simp only [e, if_false, show ((v : Int) != q) = true from by simp [e], Bool.true_and, decide_eq_true_eq]
      by_cases e2 : rd c (v : Int) < 0
      · simp only [e2, if_true, Bool.not_true, Bool.false_and]
        exact Ev.now _
      · simp only [e2, if_false]
        exact h1
theorem spec_IsReducedAt_ev (a : Int) (l : List (List Int)) (c : List Int) (q : Int) (hl : l.length ≤ maxLen) (hc : c.length ≤ maxLen) : Ev (fun k => spec_IsReducedAt.f k a l c q) (decide (chipCode a l c q = 0) && redR a.toNat l c q, chipCode a l c q) := by
  unfold spec_IsReducedAt.f
  refine Ev.bind (l10Code_ev a l c q hl hc) ?_
  by_cases h : chipCode a l c q = 0
  · simp only [h, if_true, decide_true, Bool.true_and]
    unfold chipCode at h
    cases hg : isG a l with
    | false => rw [hg] at h; simp at h
    | true =>
      cases hk : chipsOK a c && endIn a q with
      | false => rw [hg, hk] at h; simp at h
      | true =>
        rw [Bool.and_eq_true] at hk
        obtain ⟨n, rfl, hn1, hn8, hE⟩ := isG_ends hg
        have hl10 := isG_len hg
        obtain ⟨hcl, hcb⟩ := chipsOK_n hk.1
        have hcn : c.length = n := by omega
        have h0 := spec_red_l0 n l c hcn hn8 q (!leftR n (lapF l l.length) c q) (Ev.bind (l10Laplacian_ev n hn8 l hl10 hE) (Ev.bind (l10Burn_ev n hn8 (lapF l l.length) (lapL_bd hl10) (lap_off l.length) c hcn q) (Ev.now _))) n 0 (by omega) (by omega)
        simp only [Int.toNat_natCast, redR]
        exact h0
  · simp only [h, if_false, decide_false, Bool.false_and]
    exact Ev.now _
theorem impl_IsReducedAt_ev (a : Int) (l : List (List Int)) (c : List Int) (q : Int) (hl : l.length ≤ maxLen) : Ev (fun k => impl_IsReducedAt.f k a l c q) (decide (chipCode a l c q = 0) && redR a.toNat l c q, chipCode a l c q) := by
  unfold impl_IsReducedAt.f
  refine Ev.bind (chipsCode_ev a l c q hl) ?_
  by_cases h : chipCode a l c q = 0
  · simp only [h, if_true, decide_true, Bool.true_and]
    unfold chipCode at h
    cases hg : isG a l with
    | false => rw [hg] at h; simp at h
    | true =>
      cases hk : chipsOK a c && endIn a q with
      | false => rw [hg, hk] at h; simp at h
      | true =>
        rw [Bool.and_eq_true] at hk
        obtain ⟨hk, hv⟩ := hk
        obtain ⟨n, rfl, hn1, hn8, hE⟩ := isG_ends hg
        have hl10 := isG_len hg
        obtain ⟨hcl, hcb⟩ := chipsOK_n hk
        have hcn : c.length = n := by omega
        have hvb : 0 ≤ q ∧ q ≤ (n : Int) - 1 := by
          unfold endIn at hv
          rw [w64 (show -9223372036854775808 ≤ (n : Int) - 1 by omega) (by omega)] at hv
          simpa using hv
        obtain ⟨u, rfl⟩ : ∃ u : Nat, q = u := ⟨q.toNat, by omega⟩
        refine Ev.bind (a := redR n l c u) ?_ (by simp only [Int.toNat_natCast]; exact Ev.now _)
        unfold impl_Graph_isReduced.f redR
        cases hi : irBad (u : Int) c 0 with
        | true => simp only [if_true, Bool.not_true, Bool.false_and]; exact Ev.now _
        | false =>
          simp only [Bool.false_eq_true, if_false, Bool.not_false, Bool.true_and]
          obtain ⟨R, hR, hiff⟩ := legal_l0 n hn1 hn8 l hl10 hE c hcn hcb u (by omega) (2 ^ n) 0 (Nat.sub_zero _) (Nat.zero_le _)
          have hL : Ev (fun k => impl_Graph_legal.f k n l c u) R := by
            unfold impl_Graph_legal.f
            rw [show ((0 : Nat) : Int) = 0 from rfl] at hR
            simp only [show (0 : Int) ≤ (n : Int) by omega, if_true, shl_one n hn8]
            exact hR
          refine Ev.bind hL ?_
          have key : R.isEmpty = !leftR n (lapF l l.length) c u := by
            have hsym := fun i j => lap_sym hE l.length (Nat.le_refl _) i j
            have hsum := fun v => lap_sum hE l.length (Nat.le_refl _) v
            have hgo : ∀ (S : Nat → Bool) (m v : Nat), (∀ j, j < n → m.testBit j = S j) → bsum n (gW (lapF l l.length) m v) = outB (lapF l l.length) n S v := by
              intro S m v hS
              rw [← out_eq hsym v (hsum v) S]
              refine bsum_congr fun i hi => ?_
              unfold gW
              rw [hS i hi]
            rw [Bool.eq_iff_iff, hiff, Bool.not_eq_true', ← Bool.not_eq_true, leftR_iff n _ (lap_off l.length)]
            constructor
            · rintro h ⟨S, hS, hSu, j, hj, hSj⟩
              have hbit : ∀ i, i < n → (maskOf n S).testBit i = S i := fun i hi => by rw [mask_bit]; simp [hi]
              refine h (maskOf n S) (Nat.zero_le _) (mask_lt n S) ⟨fun e => ?_, ?_, (okF_iff n _ c _ n 0).2 fun v _ hv hb => ?_⟩
              · have h1 := hbit j hj
                rw [e, hSj, Nat.zero_testBit] at h1
                exact absurd h1 (by decide)
              · rw [hbit u (by omega)]; exact hSu
              · have h1 := hS v (by omega) (by rw [← hbit v (by omega)]; exact hb)
                rw [hgo S (maskOf n S) v hbit]
                have h2 : outB (lapF l l.length) n S v ≤ rd c (v : Int) := h1
                omega
            · rintro h m' _ hm ⟨h0, hq, hok⟩
              refine h ⟨fun j => m'.testBit j, fun v hv hb => ?_, hq, ?_⟩
              · have h1 := (okF_iff n _ c _ n 0).1 hok v (Nat.zero_le _) (by omega) hb
                rw [hgo (fun j => m'.testBit j) m' v (fun _ _ => rfl)] at h1
                show outB (lapF l l.length) n (fun j => m'.testBit j) v ≤ rd c (v : Int)
                omega
              · obtain ⟨j, hj⟩ := Nat.exists_testBit_of_ne_zero h0
                refine ⟨j, ?_, hj⟩
                by_cases e : j < n
                · exact e
                · have := Nat.testBit_lt_two_pow (x := m') (i := j) (Nat.lt_of_lt_of_le hm (Nat.pow_le_pow_right (by decide) (by omega)))
                  rw [this] at hj
                  exact absurd hj (by decide)
          rw [key]
          exact Ev.now _
  · simp only [h, if_false, decide_false, Bool.false_and]
    exact Ev.now _

def laws_FnExactIsReducedAt.Pure : Prop := ∀ (a0_0 : Int) (l0_1 : List (List Int)) (l1 : List Int) (a2 : Int), (Lit.int .i64 a0_0).wf = true → l0_1.length ≤ maxLen → (∀ x ∈ l0_1, x.length ≤ maxLen ∧ ∀ n ∈ x, (Lit.int .i64 n).wf = true) → l1.length ≤ maxLen → (∀ n ∈ l1, (Lit.int .i64 n).wf = true) → (Lit.int .i64 a2).wf = true → ∃ k, laws_FnExactIsReducedAt.f k a0_0 l0_1 l1 a2 = some true
end Go.Proofs.Ytbfmnhgpmpnglaa.C
namespace Go.Proofs.Ytbfmnhgpmpnglaa.Pure
open Go.RowKit Go.Proofs.YtbfmnhgpmpnglaaW.PrintWords Go.Proofs.YtbfmnhgpmpnglaaW.PrintLast Go.Proofs.YtbfmnhgpmpnglaaW.PrintMore Go.Proofs.Ytbfmnhgpmpnglaa.C
theorem FnExactIsReducedAt : laws_FnExactIsReducedAt.Pure := by
  intro a l c q _ hl hx hc _ _
  have hx' : ∀ x ∈ l, x.length ≤ maxLen := fun x h => (hx x h).1
  refine Ev.rounds (r := true) ?_
  unfold laws_FnExactIsReducedAt.f
  by_cases h1 : (c.length : Int) > 1048576
  · simp only [h1, if_true]; exact Ev.now _
  · simp only [h1, if_false]
    obtain ⟨r, hr, _, _, h4⟩ := szGraph_ev a l 1048576 (by omega) (by omega) hl hx'
    refine Ev.bind hr ?_
    by_cases hn : r < 0
    · simp only [hn, if_true]; exact Ev.now _
    · simp only [hn, if_false]
      obtain ⟨s1, s2⟩ := h4 (by omega)
      have g := toGraph_ev a l (by omega) (fun x h => by have := s2 x h; omega)
      have v := toInt64S_ev c (by omega)
      refine Ev.bind g (Ev.bind v (Ev.bind (spec_IsReducedAt_ev a l c q hl hc) (Ev.bind g (Ev.bind v (Ev.bind (impl_IsReducedAt_ev a l c q hl) ?_)))))
      simp only [bne_self_eq_false, Bool.false_eq_true, if_false]
      refine Ev.step (fun k => by simp only [laws_FnExactIsReducedAt.j0]; rfl) ?_
      simp only [Bool.false_eq_true, if_false]
      refine Ev.bind g (Ev.bind (eqGraph_ev a l hl hx') ?_)
      simp only [if_true]
      refine Ev.bind v (Ev.bind (eqInt64S_ev c hc) ?_)
      simp only [if_true]
      exact Ev.now _

end Go.Proofs.Ytbfmnhgpmpnglaa.Pure
