/- Plain lemmas on the Lean functions that FnExactSignedNumber reaches, and its pure statement. No condition. -/
import Derived.Test.YtpckiapngjcijaaGx
namespace Go.Proofs.Ytpckiapngjcijaa.G
open Go.RowKit Go.Proofs.YtpckiapngjcijaaW.PrintWords Go.Proofs.YtpckiapngjcijaaW.PrintLast Go.Proofs.YtpckiapngjcijaaW.PrintMore
set_option linter.unusedVariables false
set_option linter.unusedSimpArgs false
theorem w64 {n : Int} (h0 : -9223372036854775808 ≤ n) (h1 : n ≤ 9223372036854775807) : wrap64 n = n := IntWalk.wrap64_in n ⟨h0, h1⟩
theorem fuel {k n : Nat} (h : n < k) : ∃ m, k = m + 1 ∧ n ≤ m := ⟨k - 1, by omega, by omega⟩
theorem rd_nat (l : List Int) (i : Nat) (h : i < l.length) : rd l (i : Int) = l[i] := by
  simp [rd, List.getD_eq_getElem?_getD, h]
theorem rdL1_nat (l : List (List Int)) (i : Nat) (h : i < l.length) : rd_L1 l (i : Int) = l[i] := by
  simp [rd_L1, List.getD_eq_getElem?_getD, h]
theorem take_set {α : Type} (x l : List α) (i : Nat) (hx : x.length = l.length) (hi : i < l.length) (h : x.take i = l.take i) : (x.set i l[i]).take (i + 1) = l.take (i + 1) := by
  apply List.ext_getElem?
  intro j
  rw [List.getElem?_take, List.getElem?_take]
  by_cases hj : j < i + 1
  · rw [if_pos hj, if_pos hj]
    by_cases hji : j = i
    · subst hji
      rw [List.getElem?_set_self (by omega), List.getElem?_eq_getElem hi]
    · rw [List.getElem?_set_ne (by omega)]
      have h2 := congrArg (fun z => z[j]?) h
      simp only [List.getElem?_take] at h2
      rwa [if_pos (by omega), if_pos (by omega)] at h2
  · rw [if_neg hj, if_neg hj]

theorem toInt64S_l0 (l : List Int) (hl : l.length ≤ 35184372088832) : ∀ (d k i : Nat) (x : List Int), l.length - i = d → d < k → i ≤ l.length → x.length = l.length → x.take i = l.take i → laws_toInt64S.l0 k l x i = some l := by
  intro d
  induction d with
  | zero =>
    intro k i x hd hk hi hx ht
    obtain ⟨m, rfl, hm⟩ := fuel hk
    simp only [laws_toInt64S.l0]
    rw [if_neg (by omega)]
    rw [List.take_of_length_le (by omega), List.take_of_length_le (by omega)] at ht
    rw [ht]
  | succ d ih =>
    intro k i x hd hk hi hx ht
    obtain ⟨m, rfl, hm⟩ := fuel hk
    have hil : i < l.length := by omega
    simp only [laws_toInt64S.l0]
    rw [if_pos (by omega), if_pos (by omega), if_pos (by omega), w64 (by omega) (by omega), rd_nat l i hil, Int.toNat_natCast]
    exact ih m (i + 1) _ (by omega) (by omega) (by omega) (by simp [hx]) (take_set x l i hx hil ht)
theorem toInt64S_ev (l : List Int) (hl : l.length ≤ 35184372088832) : Ev (fun k => laws_toInt64S.f k l) l := by
  refine Ev.of (laws_toInt64S.mono l) (k := l.length + 1) ?_
  unfold laws_toInt64S.f
  rw [if_pos (by omega), if_pos (by simpa using hl)]
  exact toInt64S_l0 l hl l.length _ 0 _ (by omega) (by omega) (by omega) (by simp) (by simp)
theorem toInt64SS_l0 (l : List (List Int)) (hl : l.length ≤ 11728124029610) (hx : ∀ x ∈ l, x.length ≤ 35184372088832) : ∀ (d i : Nat) (x : List (List Int)), l.length - i = d → i ≤ l.length → x.length = l.length → x.take i = l.take i → Ev (fun k => laws_toInt64SS.l0 k l x i) l := by
  intro d
  induction d with
  | zero =>
    intro i x hd hi hx ht
    refine Ev.step (fun k => by simp only [laws_toInt64SS.l0]; rfl) ?_
    rw [List.take_of_length_le (by omega), List.take_of_length_le (by omega)] at ht
    simp only [show ¬ ((i : Int) < (l.length : Int)) by omega, if_false, ht]
    exact Ev.now l
  | succ d ih =>
    intro i x hd hi hx' ht
    have hil : i < l.length := by omega
    refine Ev.step (fun k => by simp only [laws_toInt64SS.l0]; rfl) ?_
    simp only [show ((i : Int) < (l.length : Int)) by omega, show (0 : Int) ≤ (i : Int) by omega, show ((i : Int) < (x.length : Int)) by omega, if_true, Int.toNat_natCast, w64 (show -9223372036854775808 ≤ (i : Int) + 1 by omega) (by omega), rdL1_nat l i hil]
    refine Ev.bind (toInt64S_ev l[i] (hx _ (List.getElem_mem hil))) ?_
    exact ih (i + 1) _ (by omega) (by omega) (by simp [hx']) (take_set x l i hx' hil ht)
theorem toInt64SS_ev (l : List (List Int)) (hl : l.length ≤ 11728124029610) (hx : ∀ x ∈ l, x.length ≤ 35184372088832) : Ev (fun k => laws_toInt64SS.f k l) l := by
  unfold laws_toInt64SS.f
  simp only [show (0 : Int) ≤ (l.length : Int) by omega, if_true, Int.toNat_natCast, hl]
  exact toInt64SS_l0 l hl hx l.length 0 _ (by omega) (by omega) (by simp) (by simp)
theorem toGraph_ev (a : Int) (l : List (List Int)) (hl : l.length ≤ 11728124029610) (hx : ∀ x ∈ l, x.length ≤ 35184372088832) : Ev (fun k => laws_toGraph.f k a l) (a, l) := by
  unfold laws_toGraph.f
  exact Ev.bind (toInt64SS_ev l hl hx) (Ev.now _)

theorem szInt64SS_l0 (l : List (List Int)) (hl : l.length ≤ maxLen) (hx : ∀ x ∈ l, x.length ≤ maxLen) : ∀ (d i : Nat) (a : Int), l.length - i = d → i ≤ l.length → 0 ≤ a → a ≤ 1048576 → ∃ r, Ev (fun k => laws_szInt64SS.l0 k l a i) r ∧ r ≤ 1048576 ∧ -1 ≤ r ∧ (0 ≤ r → ∀ x ∈ l.drop i, x.length ≤ 1048576) := by
  unfold maxLen at hl hx
  intro d
  induction d with
  | zero =>
    intro i a hd hi h0 h1
    refine ⟨a, Ev.step (fun k => by simp only [laws_szInt64SS.l0]; rfl) ?_, h1, by omega, fun _ x hx => ?_⟩
    · simp only [show ¬ ((i : Int) < (l.length : Int)) by omega, if_false]
      exact Ev.now _
    · rw [List.drop_of_length_le (by omega)] at hx; simp at hx
  | succ d ih =>
    intro i a hd hi h0 h1
    have hil : i < l.length := by omega
    have hxl := hx _ (List.getElem_mem hil)
    have hs : laws_szInt64S.f l[i] a = some (if a - (l[i].length : Int) < 0 then -1 else a - (l[i].length : Int)) := by
      unfold laws_szInt64S.f
      rw [w64 (by omega) (by omega)]
      split <;> rfl
    by_cases hn : a - (l[i].length : Int) < 0
    · rw [if_pos hn] at hs
      refine ⟨-1, Ev.step (fun k => by simp only [laws_szInt64SS.l0]; rfl) ?_, by omega, by omega, fun h => by omega⟩
      simp only [show ((i : Int) < (l.length : Int)) by omega, show (0 : Int) ≤ (i : Int) by omega, if_true, rdL1_nat l i hil, hs, Option.bind_some]
      exact Ev.now _
    · rw [if_neg hn] at hs
      obtain ⟨r, hr, h2, h3, h4⟩ := ih (i + 1) (a - (l[i].length : Int)) (by omega) (by omega) (by omega) (by omega)
      refine ⟨r, Ev.step (fun k => by simp only [laws_szInt64SS.l0]; rfl) ?_, h2, h3, fun h x hx => ?_⟩
      · simp only [show ((i : Int) < (l.length : Int)) by omega, show (0 : Int) ≤ (i : Int) by omega, if_true, rdL1_nat l i hil, hs, Option.bind_some, hn, if_false, w64 (show -9223372036854775808 ≤ (i : Int) + 1 by omega) (by omega)]
        exact hr
      · rw [List.drop_eq_getElem_cons hil] at hx
        rcases List.mem_cons.1 hx with rfl | hx
        · omega
        · exact h4 h x hx
/-- The sizes that the law lets by. -/
theorem szInt64SS_ev (l : List (List Int)) (a : Int) (ha : 0 ≤ a) (ha1 : a ≤ 1048576) (hl : l.length ≤ maxLen) (hx : ∀ x ∈ l, x.length ≤ maxLen) : ∃ r, Ev (fun k => laws_szInt64SS.f k l a) r ∧ r ≤ 1048576 ∧ -1 ≤ r ∧ (0 ≤ r → l.length ≤ 1048576 ∧ ∀ x ∈ l, x.length ≤ 1048576) := by
  have hl' := hl
  unfold maxLen at hl'
  unfold laws_szInt64SS.f
  rw [w64 (by omega) (by omega)]
  by_cases hn : a - (l.length : Int) < 0
  · refine ⟨-1, ?_, by omega, by omega, fun h => by omega⟩
    simp only [hn, if_true]
    exact Ev.now _
  · obtain ⟨r, hr, h2, h3, h4⟩ := szInt64SS_l0 l hl hx l.length 0 (a - (l.length : Int)) (by omega) (by omega) (by omega) (by omega)
    refine ⟨r, ?_, h2, h3, fun h => ⟨by omega, by simpa using h4 h⟩⟩
    simp only [hn, if_false]
    exact hr
theorem szGraph_ev (s : Int) (l : List (List Int)) (a : Int) (ha : 0 ≤ a) (ha1 : a ≤ 1048576) (hl : l.length ≤ maxLen) (hx : ∀ x ∈ l, x.length ≤ maxLen) : ∃ r, Ev (fun k => laws_szGraph.f k s l a) r ∧ r ≤ 1048576 ∧ -1 ≤ r ∧ (0 ≤ r → l.length ≤ 1048576 ∧ ∀ x ∈ l, x.length ≤ 1048576) := by
  obtain ⟨r, hr, h2, h3, h4⟩ := szInt64SS_ev l a ha ha1 hl hx
  unfold laws_szGraph.f
  by_cases hn : r < 0
  · refine ⟨-1, Ev.bind hr ?_, by omega, by omega, fun h => by omega⟩
    simp only [hn, if_true]
    exact Ev.now _
  · refine ⟨r, Ev.bind hr ?_, h2, h3, h4⟩
    simp only [hn, if_false]
    exact Ev.now _
/-- Equal lists are told equal. -/
theorem eqInt64S_l0 (l : List Int) (hl : l.length ≤ maxLen) : ∀ (d i : Nat), l.length - i = d → i ≤ l.length → Ev (fun k => laws_eqInt64S.l0 k l l i) true := by
  unfold maxLen at hl
  intro d
  induction d with
  | zero =>
    intro i hd hi
    refine Ev.step (fun k => by simp only [laws_eqInt64S.l0]; rfl) ?_
    simp only [show ¬ ((i : Int) < (l.length : Int)) by omega, if_false]
    exact Ev.now _
  | succ d ih =>
    intro i hd hi
    refine Ev.step (fun k => by simp only [laws_eqInt64S.l0]; rfl) ?_
    simp only [show ((i : Int) < (l.length : Int)) by omega, show (0 : Int) ≤ (i : Int) by omega, if_true, w64 (show -9223372036854775808 ≤ (i : Int) + 1 by omega) (by omega)]
    exact ih (i + 1) (by omega) (by omega)
theorem eqInt64S_ev (l : List Int) (hl : l.length ≤ maxLen) : Ev (fun k => laws_eqInt64S.f k l l) true := by
  unfold laws_eqInt64S.f
  simp only [if_true]
  exact eqInt64S_l0 l hl l.length 0 (by omega) (by omega)
theorem eqInt64SS_l0 (l : List (List Int)) (hl : l.length ≤ maxLen) (hx : ∀ x ∈ l, x.length ≤ maxLen) : ∀ (d i : Nat), l.length - i = d → i ≤ l.length → Ev (fun k => laws_eqInt64SS.l0 k l l i) true := by
  unfold maxLen at hl
  intro d
  induction d with
  | zero =>
    intro i hd hi
    refine Ev.step (fun k => by simp only [laws_eqInt64SS.l0]; rfl) ?_
    simp only [show ¬ ((i : Int) < (l.length : Int)) by omega, if_false]
    exact Ev.now _
  | succ d ih =>
    intro i hd hi
    have hil : i < l.length := by omega
    refine Ev.step (fun k => by simp only [laws_eqInt64SS.l0]; rfl) ?_
    simp only [show ((i : Int) < (l.length : Int)) by omega, show (0 : Int) ≤ (i : Int) by omega, if_true, w64 (show -9223372036854775808 ≤ (i : Int) + 1 by omega) (by omega), rdL1_nat l i hil]
    refine Ev.bind (eqInt64S_ev l[i] (hx _ (List.getElem_mem hil))) ?_
    simp only [if_true]
    exact ih (i + 1) (by omega) (by omega)
theorem eqInt64SS_ev (l : List (List Int)) (hl : l.length ≤ maxLen) (hx : ∀ x ∈ l, x.length ≤ maxLen) : Ev (fun k => laws_eqInt64SS.f k l l) true := by
  unfold laws_eqInt64SS.f
  simp only [if_true]
  exact eqInt64SS_l0 l hl hx l.length 0 (by omega) (by omega)
theorem eqGraph_ev (a : Int) (l : List (List Int)) (hl : l.length ≤ maxLen) (hx : ∀ x ∈ l, x.length ≤ maxLen) : Ev (fun k => laws_eqGraph.f k a l a l) true := by
  unfold laws_eqGraph.f
  simp only [if_true]
  refine Ev.bind (eqInt64SS_ev l hl hx) ?_
  simp only [if_true]
  exact Ev.now _
/-! ### what a graph is -/
def endIn (a n : Int) : Bool := decide (0 ≤ n) && decide (n ≤ wrap64 (a - 1))
def edgeIn (a : Int) (e : List Int) : Bool := decide (e.length = 2) && (endIn a (rd e 0) && endIn a (rd e 1))
def isG (a : Int) (l : List (List Int)) : Bool := decide (1 ≤ a) && (decide (a ≤ 8) && (decide (l.length ≤ 10) && l.all (edgeIn a)))
theorem within_eq (a b c : Int) : impl_within.f a b c = some (decide (b ≤ a) && decide (a ≤ c)) := by
  unfold impl_within.f
  by_cases h : b ≤ a <;> simp [h]
theorem l01In_eq (a b c : Int) : spec_l01In.f a b c = some (decide (b ≤ a) && decide (a ≤ c)) := by
  unfold spec_l01In.f
  by_cases h : b ≤ a <;> simp [h]
theorem impl_IsGraph_l0 (a : Int) (l : List (List Int)) (hl : l.length ≤ maxLen) : ∀ (d i : Nat), l.length - i = d → i ≤ l.length → Ev (fun k => impl_IsGraph.l0 k l l.length i a l) ((l.drop i).all (edgeIn a) && (decide (1 ≤ a) && (decide (a ≤ 8) && decide (l.length ≤ 10)))) := by
  unfold maxLen at hl
  intro d
  induction d with
  | zero =>
    intro i hd hi
    refine Ev.step (fun k => by simp only [impl_IsGraph.l0]; rfl) ?_
    simp only [show ¬ ((i : Int) < (l.length : Int)) by omega, if_false, within_eq, Option.bind_some, List.drop_of_length_le (show l.length ≤ i by omega), List.all_nil, Bool.true_and]
    by_cases h1 : 1 ≤ a
    · by_cases h2 : a ≤ 8
      · simp only [h1, h2, decide_true, Bool.true_and, if_true]
        exact Ev.congr (fun k => by congr 1; simp; omega) (Ev.now _)
      · simp only [h1, h2, decide_true, decide_false, Bool.true_and, Bool.false_and, Bool.false_eq_true, if_false]
        exact Ev.now _
    · simp only [h1, decide_false, Bool.false_and, Bool.false_eq_true, if_false]
      exact Ev.now _
  | succ d ih =>
    intro i hd hi
    have hil : i < l.length := by omega
    refine Ev.step (fun k => by simp only [impl_IsGraph.l0]; rfl) ?_
    have hdrop : (l.drop i).all (edgeIn a) = (edgeIn a l[i] && (l.drop (i + 1)).all (edgeIn a)) := by rw [List.drop_eq_getElem_cons hil, List.all_cons]
    rw [hdrop]
    simp only [show ((i : Int) < (l.length : Int)) by omega, show (0 : Int) ≤ (i : Int) by omega, if_true, w64 (show -9223372036854775808 ≤ (i : Int) + 1 by omega) (by omega), rdL1_nat l i hil, within_eq, Option.bind_some]
    unfold edgeIn endIn
    by_cases h2 : l[i].length = 2
    · simp only [h2, decide_true, Bool.true_and, show ((2 : Nat) : Int) = 2 from rfl, if_true, show (0 : Int) < 2 by omega, show (1 : Int) < 2 by omega]
      by_cases h3 : (decide (0 ≤ rd l[i] 0) && decide (rd l[i] 0 ≤ wrap64 (a - 1))) = true
      · by_cases h4 : (decide (0 ≤ rd l[i] 1) && decide (rd l[i] 1 ≤ wrap64 (a - 1))) = true
        · simp only [h3, h4, if_true, Bool.true_and]
          exact ih (i + 1) (by omega) (by omega)
        · simp only [Bool.not_eq_true] at h4
          simp only [h3, h4, if_true, Bool.false_and, Bool.and_false, Bool.false_eq_true, if_false]
          exact Ev.now _
      · simp only [Bool.not_eq_true] at h3
        simp only [h3, Bool.false_and, Bool.false_eq_true, if_false]
        exact Ev.now _
    · simp only [show ¬ ((l[i].length : Int) = 2) by omega, h2, decide_false, Bool.false_and, if_false]
      exact Ev.now _
theorem impl_IsGraph_ev (a : Int) (l : List (List Int)) (hl : l.length ≤ maxLen) : Ev (fun k => impl_IsGraph.f k a l) (isG a l) := by
  unfold impl_IsGraph.f
  have h := impl_IsGraph_l0 a l hl l.length 0 (by omega) (by omega)
  have e : ((l.drop 0).all (edgeIn a) && (decide (1 ≤ a) && (decide (a ≤ 8) && decide (l.length ≤ 10)))) = isG a l := by
    unfold isG
    rw [List.drop_zero]
    cases l.all (edgeIn a) <;> simp
  rw [e] at h
  exact h
theorem spec_l01Is_l0 (a : Int) (l : List (List Int)) (hl : l.length ≤ maxLen) : ∀ (d i : Nat), l.length - i = d → i ≤ l.length → Ev (fun k => spec_l01Is.l0 k i a l) ((l.drop i).all (edgeIn a)) := by
  unfold maxLen at hl
  intro d
  induction d with
  | zero =>
    intro i hd hi
    refine Ev.step (fun k => by simp only [spec_l01Is.l0]; rfl) ?_
    simp only [show ¬ ((i : Int) < (l.length : Int)) by omega, if_false, List.drop_of_length_le (show l.length ≤ i by omega), List.all_nil]
    exact Ev.now _
  | succ d ih =>
    intro i hd hi
    have hil : i < l.length := by omega
    refine Ev.step (fun k => by simp only [spec_l01Is.l0]; rfl) ?_
    have hdrop : (l.drop i).all (edgeIn a) = (edgeIn a l[i] && (l.drop (i + 1)).all (edgeIn a)) := by rw [List.drop_eq_getElem_cons hil, List.all_cons]
    rw [hdrop]
    simp only [show ((i : Int) < (l.length : Int)) by omega, show (0 : Int) ≤ (i : Int) by omega, if_true, w64 (show -9223372036854775808 ≤ (i : Int) + 1 by omega) (by omega), rdL1_nat l i hil, l01In_eq, Option.bind_some]
    unfold edgeIn endIn
    by_cases h2 : l[i].length = 2
    · simp only [h2, decide_true, Bool.true_and, show ((2 : Nat) : Int) = 2 from rfl, if_true, show (0 : Int) < 2 by omega, show (1 : Int) < 2 by omega]
      by_cases h3 : (decide (0 ≤ rd l[i] 0) && decide (rd l[i] 0 ≤ wrap64 (a - 1))) = true
      · by_cases h4 : (decide (0 ≤ rd l[i] 1) && decide (rd l[i] 1 ≤ wrap64 (a - 1))) = true
        · simp only [h3, h4, if_true, Bool.true_and]
          exact ih (i + 1) (by omega) (by omega)
        · simp only [Bool.not_eq_true] at h4
          simp only [h3, h4, if_true, Bool.false_and, Bool.and_false, Bool.false_eq_true, if_false]
          exact Ev.now _
      · simp only [Bool.not_eq_true] at h3
        simp only [h3, Bool.false_and, Bool.false_eq_true, if_false]
        exact Ev.now _
    · simp only [show ¬ ((l[i].length : Int) = 2) by omega, h2, decide_false, Bool.false_and, if_false]
      exact Ev.now _
theorem spec_l01Is_ev (a : Int) (l : List (List Int)) (hl : l.length ≤ maxLen) : Ev (fun k => spec_l01Is.f k a l) (isG a l) := by
  unfold spec_l01Is.f isG
  simp only [l01In_eq, Option.bind_some]
  have hj : ∀ b, Ev (fun k => spec_l01Is.j0 k b a l) (!b && l.all (edgeIn a)) := by
    intro b
    refine Ev.step (fun k => by simp only [spec_l01Is.j0]; rfl) ?_
    cases b with
    | true => simp only [if_true, Bool.not_true, Bool.false_and]; exact Ev.now _
    | false =>
      simp only [Bool.false_eq_true, if_false, Bool.not_false, Bool.true_and]
      exact spec_l01Is_l0 a l hl l.length 0 (by omega) (by omega)
  by_cases h1 : 1 ≤ a
  · by_cases h2 : a ≤ 8
    · simp only [h1, h2, decide_true, Bool.true_and, if_true]
      have h := hj (decide ((l.length : Int) > 10))
      have e : (!decide ((l.length : Int) > 10)) = decide (l.length ≤ 10) := by
        by_cases h : l.length ≤ 10
        · simp [h]; omega
        · simp [h]; omega
      rw [e] at h
      exact h
    · simp only [h1, h2, decide_true, decide_false, Bool.true_and, Bool.false_and, Bool.false_eq_true, if_false]
      exact hj true
  · simp only [h1, decide_false, Bool.false_and, Bool.false_eq_true, if_false]
    exact hj true
def la_sm : Nat → (Nat → Int) → Int
  | 0, _ => 0
  | n+1, f => la_sm n f + f n
theorem la_sm_congr {n : Nat} {f g : Nat → Int} (h : ∀ i, i < n → f i = g i) : la_sm n f = la_sm n g := by
  induction n with
  | zero => rfl
  | succ n ih => simp only [la_sm]; rw [ih (fun i hi => h i (by omega)), h n (by omega)]
theorem la_sm_zero {n : Nat} {f : Nat → Int} (h : ∀ i, i < n → f i = 0) : la_sm n f = 0 := by
  induction n with
  | zero => rfl
  | succ n ih => simp only [la_sm]; rw [ih (fun i hi => h i (by omega)), h n (by omega)]; rfl
theorem la_sm_add (n : Nat) (f g : Nat → Int) : la_sm n (fun i => f i + g i) = la_sm n f + la_sm n g := by
  induction n with
  | zero => rfl
  | succ n ih => simp only [la_sm]; rw [ih]; omega
theorem la_sm_mul (n : Nat) (x : Int) (f : Nat → Int) : la_sm n (fun i => x * f i) = x * la_sm n f := by
  induction n with
  | zero => simp [la_sm]
  | succ n ih => simp only [la_sm]; rw [ih, Int.mul_add]
theorem la_sm_neg (n : Nat) (f : Nat → Int) : la_sm n (fun i => - f i) = - la_sm n f := by
  induction n with
  | zero => rfl
  | succ n ih => simp only [la_sm]; rw [ih]; omega
theorem la_sm_sub (n : Nat) (f g : Nat → Int) : la_sm n (fun i => f i - g i) = la_sm n f - la_sm n g := by
  induction n with
  | zero => rfl
  | succ n ih => simp only [la_sm]; rw [ih]; omega
theorem la_sm_single {n : Nat} {f : Nat → Int} (k : Nat) (hk : k < n) (h : ∀ i, i < n → i ≠ k → f i = 0) : la_sm n f = f k := by
  induction n with
  | zero => omega
  | succ n ih =>
    simp only [la_sm]
    by_cases hkn : k = n
    · subst hkn
      rw [la_sm_zero (fun i hi => h i (by omega) (by omega))]; omega
    · rw [ih (by omega) (fun i hi hne => h i (by omega) hne), h n (by omega) (by omega)]; omega
theorem la_sm_two {n : Nat} {f : Nat → Int} (k l : Nat) (hk : k < n) (hl : l < n) (hkl : k ≠ l) (h : ∀ i, i < n → i ≠ k → i ≠ l → f i = 0) : la_sm n f = f k + f l := by
  have e : la_sm n f = la_sm n (fun i => (if i = k then f k else 0) + (if i = l then f l else 0)) := by
    refine la_sm_congr (fun i hi => ?_)
    by_cases h1 : i = k
    · subst h1; simp [hkl]
    · by_cases h2 : i = l
      · subst h2; simp [h1]
      · simp [h1, h2, h i hi h1 h2]
  rw [e, la_sm_add, la_sm_single k hk (fun i _ hne => by simp [hne]), la_sm_single l hl (fun i _ hne => by simp [hne])]
  simp
theorem la_sm_succ' (n : Nat) (f : Nat → Int) : la_sm (n+1) f = f 0 + la_sm n (fun i => f (i+1)) := by
  induction n with
  | zero => simp [la_sm]
  | succ n ih =>
    rw [show la_sm (n+1+1) f = la_sm (n+1) f + f (n+1) from rfl, ih]
    simp only [la_sm]; omega
theorem la_sm_swap (n m : Nat) (f : Nat → Nat → Int) : la_sm n (fun i => la_sm m (fun j => f i j)) = la_sm m (fun j => la_sm n (fun i => f i j)) := by
  induction n with
  | zero => simp only [la_sm]; rw [la_sm_zero (fun _ _ => rfl)]
  | succ n ih => simp only [la_sm]; rw [ih, la_sm_add]
theorem la_sm_split (n m : Nat) (f : Nat → Int) : la_sm (n + m) f = la_sm n f + la_sm m (fun i => f (n + i)) := by
  induction m with
  | zero => simp [la_sm]
  | succ m ih => rw [← Nat.add_assoc]; simp only [la_sm]; rw [ih]; omega
theorem la_sm_ext {n m : Nat} {f : Nat → Int} (h : n ≤ m) (hz : ∀ i, n ≤ i → i < m → f i = 0) : la_sm m f = la_sm n f := by
  obtain ⟨d, rfl⟩ := Nat.exists_eq_add_of_le h
  rw [la_sm_split, la_sm_zero (n := d) (fun i hi => hz _ (by omega) (by omega))]; omega
theorem la_sm_pairs (n : Nat) (f : Nat → Nat → Int) :
    la_sm (n+1) (fun i => la_sm n (fun j => f i j)) = la_sm (n+1) (fun b => la_sm b (fun a => f b a + f a (b-1))) := by
  induction n with
  | zero => simp [la_sm]
  | succ n ih =>
    rw [show la_sm (n+1+1) (fun b => la_sm b (fun a => f b a + f a (b-1))) = la_sm (n+1) (fun b => la_sm b (fun a => f b a + f a (b-1))) + la_sm (n+1) (fun a => f (n+1) a + f a n) from rfl]
    rw [← ih, la_sm_add]
    rw [show la_sm (n+1+1) (fun i => la_sm (n+1) (fun j => f i j)) = la_sm (n+1) (fun i => la_sm (n+1) (fun j => f i j)) + la_sm (n+1) (fun j => f (n+1) j) from rfl]
    rw [show (fun i => la_sm (n+1) (fun j => f i j)) = (fun i => la_sm n (fun j => f i j) + f i n) from rfl, la_sm_add]
    have : la_sm (n+1) (f (n+1)) = la_sm (n+1) (fun j => f (n+1) j) := rfl
    omega
def la_sk (i a : Nat) : Nat := if a < i then a else a + 1
def la_sg (i : Nat) : Int := if i % 2 = 0 then 1 else -1
theorem la_sg_succ (i : Nat) : la_sg (i+1) = - la_sg i := by
  unfold la_sg; by_cases h : i % 2 = 0
  · rw [if_pos h, if_neg (by omega)]
  · rw [if_neg h, if_pos (by omega)]; rfl
theorem la_sk_lt {i a n : Nat} (hi : i < n + 1) (ha : a < n) : la_sk i a < n + 1 := by unfold la_sk; split <;> omega
def la_det : Nat → (Nat → Nat → Int) → Int
  | 0, _ => 1
  | n+1, M => la_sm (n+1) (fun i => la_sg i * M i 0 * la_det n (fun a b => M (la_sk i a) (b+1)))
theorem la_det_succ (n : Nat) (M : Nat → Nat → Int) : la_det (n+1) M = la_sm (n+1) (fun i => la_sg i * M i 0 * la_det n (fun a b => M (la_sk i a) (b+1))) := rfl
theorem la_det_congr {n : Nat} : ∀ {M N : Nat → Nat → Int}, (∀ a b, a < n → b < n → M a b = N a b) → la_det n M = la_det n N := by
  induction n with
  | zero => intros; rfl
  | succ n ih =>
    intro M N h
    rw [la_det_succ, la_det_succ]
    refine la_sm_congr (fun i hi => ?_)
    rw [h i 0 hi (by omega), ih (fun a b ha hb => h _ _ (la_sk_lt hi ha) (by omega))]
def la_rr (M : Nat → Nat → Int) (i : Nat) (r : Nat → Int) : Nat → Nat → Int := fun a b => if a = i then r b else M a b
def la_rc (M : Nat → Nat → Int) (j : Nat) (c : Nat → Int) : Nat → Nat → Int := fun a b => if b = j then c a else M a b
def la_un (i a : Nat) : Nat := if a < i then a else a - 1
theorem la_sk_eq_iff {i a k : Nat} (h : k ≠ i) : la_sk i a = k ↔ a = la_un i k := by unfold la_sk la_un; split <;> split <;> omega
theorem la_un_lt {i k n : Nat} (hi : i < n + 1) (hk : k < n + 1) (h : k ≠ i) : la_un i k < n := by unfold la_un; split <;> omega
theorem la_sk_ne (i a : Nat) : la_sk i a ≠ i := by unfold la_sk; split <;> omega
theorem la_minor_rr {M : Nat → Nat → Int} {i k : Nat} {r : Nat → Int} (h : k ≠ i) : (fun a b => la_rr M k r (la_sk i a) (b+1)) = la_rr (fun a b => M (la_sk i a) (b+1)) (la_un i k) (fun b => r (b+1)) := by
  funext a b
  unfold la_rr
  by_cases e : la_sk i a = k
  · rw [if_pos e, if_pos ((la_sk_eq_iff h).mp e)]
  · rw [if_neg e, if_neg (fun h' => e ((la_sk_eq_iff h).mpr h'))]
theorem la_minor_rr_self {M : Nat → Nat → Int} {k : Nat} {r : Nat → Int} : (fun a b => la_rr M k r (la_sk k a) (b+1)) = (fun a b => M (la_sk k a) (b+1)) := by
  funext a b
  unfold la_rr
  rw [if_neg (la_sk_ne k a)]
theorem la_det_row_lin {n : Nat} : ∀ (M : Nat → Nat → Int) (k : Nat), k < n → ∀ (x y : Int) (r s : Nat → Int), la_det n (la_rr M k (fun b => x * r b + y * s b)) = x * la_det n (la_rr M k r) + y * la_det n (la_rr M k s) := by
  induction n with
  | zero => intro M k hk; omega
  | succ n ih =>
    intro M k hk x y r s
    rw [la_det_succ, la_det_succ, la_det_succ, ← la_sm_mul, ← la_sm_mul, ← la_sm_add]
    refine la_sm_congr (fun i hi => ?_)
    by_cases e : k = i
    · subst e
      rw [la_minor_rr_self, la_minor_rr_self, la_minor_rr_self]
      simp only [la_rr, if_true]
      generalize la_det n _ = D
      grind
    · rw [la_minor_rr e, la_minor_rr e, la_minor_rr e, ih _ _ (la_un_lt hi hk e)]
      simp only [la_rr, if_neg (Ne.symm e)]
      generalize la_det n _ = D
      generalize la_det n _ = E
      grind
theorem la_det_row_smul {n : Nat} (M : Nat → Nat → Int) (k : Nat) (hk : k < n) (x : Int) (r : Nat → Int) : la_det n (la_rr M k (fun b => x * r b)) = x * la_det n (la_rr M k r) := by
  have := la_det_row_lin M k hk x 0 r r
  simpa using this
theorem la_det_row_add {n : Nat} (M : Nat → Nat → Int) (k : Nat) (hk : k < n) (r s : Nat → Int) : la_det n (la_rr M k (fun b => r b + s b)) = la_det n (la_rr M k r) + la_det n (la_rr M k s) := by
  have := la_det_row_lin M k hk 1 1 r s
  simpa using this
theorem la_rr_self (M : Nat → Nat → Int) (k : Nat) : la_rr M k (M k) = M := by
  funext a b; unfold la_rr; split
  · case _ h => rw [h]
  · rfl
theorem la_rr_comm (M : Nat → Nat → Int) {k l : Nat} (h : k ≠ l) (r s : Nat → Int) : la_rr (la_rr M k r) l s = la_rr (la_rr M l s) k r := by
  funext a b; unfold la_rr; by_cases e : a = l
  · subst e; simp [Ne.symm h]
  · simp [e]
theorem la_det_row_zero {n : Nat} (M : Nat → Nat → Int) (k : Nat) (hk : k < n) (h : ∀ b, b < n → M k b = 0) : la_det n M = 0 := by
  have e : la_det n M = la_det n (la_rr M k (fun b => 0 * M k b)) := by
    refine la_det_congr (fun a b _ hb => ?_)
    unfold la_rr; split
    · case _ h' => rw [h', h b hb]; simp
    · rfl
  rw [e, la_det_row_smul _ _ hk]; simp
theorem la_det_adj {n : Nat} : ∀ (M : Nat → Nat → Int) (k : Nat), k + 1 < n → (∀ b, b < n → M k b = M (k+1) b) → la_det n M = 0 := by
  induction n with
  | zero => intro M k hk; omega
  | succ n ih =>
    intro M k hk h
    rw [la_det_succ, la_sm_two k (k+1) (by omega) hk (by omega)]
    · have e : la_det n (fun a b => M (la_sk k a) (b+1)) = la_det n (fun a b => M (la_sk (k+1) a) (b+1)) := by
        refine la_det_congr (fun a b ha hb => ?_)
        by_cases h1 : a = k
        · subst h1
          have e1 : la_sk a a = a + 1 := by unfold la_sk; split <;> omega
          have e2 : la_sk (a+1) a = a := by unfold la_sk; split <;> omega
          rw [e1, e2, h _ (by omega)]
        · have : la_sk k a = la_sk (k+1) a := by unfold la_sk; split <;> split <;> omega
          rw [this]
      rw [e, la_sg_succ, h 0 (by omega)]
      generalize la_det n _ = D
      grind
    · intro i hi h1 h2
      have : la_det n (fun a b => M (la_sk i a) (b+1)) = 0 := by
        by_cases hik : i < k
        · refine ih _ (k-1) (by omega) (fun b hb => ?_)
          have e1 : la_sk i (k-1) = k := by unfold la_sk; split <;> omega
          have e2 : la_sk i (k-1+1) = k+1 := by unfold la_sk; split <;> omega
          simp only [e1, e2]; exact h _ (by omega)
        · refine ih _ k (by omega) (fun b hb => ?_)
          have e1 : la_sk i k = k := by unfold la_sk; split <;> omega
          have e2 : la_sk i (k+1) = k+1 := by unfold la_sk; split <;> omega
          simp only [e1, e2]; exact h _ (by omega)
      rw [this]; simp
theorem la_det_adj_swap {n : Nat} (M : Nat → Nat → Int) (k : Nat) (hk : k + 1 < n) (r s : Nat → Int) : la_det n (la_rr (la_rr M k r) (k+1) s) = - la_det n (la_rr (la_rr M k s) (k+1) r) := by
  have h0 : la_det n (la_rr (la_rr M k (fun b => r b + s b)) (k+1) (fun b => r b + s b)) = 0 :=
    la_det_adj _ k hk (fun b _ => by simp [la_rr])
  have hr : la_det n (la_rr (la_rr M k r) (k+1) r) = 0 := la_det_adj _ k hk (fun b _ => by simp [la_rr])
  have hs : la_det n (la_rr (la_rr M k s) (k+1) s) = 0 := la_det_adj _ k hk (fun b _ => by simp [la_rr])
  rw [la_det_row_add _ _ hk, la_rr_comm _ (show k ≠ k+1 by omega), la_rr_comm _ (show k ≠ k+1 by omega), la_det_row_add _ _ (by omega), la_det_row_add _ _ (by omega)] at h0
  rw [la_rr_comm _ (show k+1 ≠ k by omega), la_rr_comm _ (show k+1 ≠ k by omega), la_rr_comm _ (show k+1 ≠ k by omega), la_rr_comm _ (show k+1 ≠ k by omega), hr, hs] at h0
  omega
theorem la_det_alt {n : Nat} : ∀ (d : Nat) (M : Nat → Nat → Int) (k : Nat), k + 1 + d < n → (∀ b, b < n → M k b = M (k + 1 + d) b) → la_det n M = 0 := by
  intro d
  induction d with
  | zero => intro M k hk h; exact la_det_adj M k hk h
  | succ d ih =>
    intro M k hk h
    have e : M = la_rr (la_rr M (k+1+d) (M (k+1+d))) (k+1+d+1) (M (k+1+d+1)) := by
      rw [la_rr_self, la_rr_self]
    rw [e, la_det_adj_swap _ _ (by omega)]
    rw [ih _ k (by omega) (fun b hb => ?_)]
    · rfl
    · simp only [la_rr]
      rw [if_neg (by omega), if_neg (by omega), if_neg (by omega), if_pos trivial]
      exact h b hb
theorem la_det_eq_rows {n : Nat} (M : Nat → Nat → Int) (k l : Nat) (hk : k < n) (hl : l < n) (hkl : k ≠ l) (h : ∀ b, b < n → M k b = M l b) : la_det n M = 0 := by
  rcases Nat.lt_or_gt_of_ne hkl with h1 | h1
  · obtain ⟨d, rfl⟩ := Nat.exists_eq_add_of_lt h1
    exact la_det_alt d M k (by omega) (fun b hb => by rw [h b hb]; congr 1; omega)
  · obtain ⟨d, rfl⟩ := Nat.exists_eq_add_of_lt h1
    exact la_det_alt d M l (by omega) (fun b hb => by rw [← h b hb]; congr 1; omega)
theorem la_det_row_addmul {n : Nat} (M : Nat → Nat → Int) (k l : Nat) (hk : k < n) (hl : l < n) (hkl : k ≠ l) (x : Int) : la_det n (la_rr M k (fun b => M k b + x * M l b)) = la_det n M := by
  have h1 := la_det_row_lin M k hk 1 x (M k) (M l)
  have h2 : la_det n (la_rr M k (M l)) = 0 := la_det_eq_rows _ k l hk hl hkl (fun b _ => by simp [la_rr, Ne.symm hkl])
  rw [h2, la_rr_self] at h1
  simpa using h1
theorem la_det_rows_addmul {n : Nat} (M : Nat → Nat → Int) (l : Nat) (hl : l < n) (x : Nat → Int) (hx : x l = 0) : la_det n (fun a b => M a b + x a * M l b) = la_det n M := by
  have key : ∀ m, m ≤ n → la_det n (fun a b => if a < m then M a b + x a * M l b else M a b) = la_det n M := by
    intro m
    induction m with
    | zero => intro _; exact la_det_congr (fun a b _ _ => by simp)
    | succ m ih =>
      intro hm
      rw [← ih (by omega)]
      by_cases hml : m = l
      · subst hml
        refine la_det_congr (fun a b _ _ => ?_)
        by_cases h1 : a < m
        · rw [if_pos h1, if_pos (by omega)]
        · by_cases h2 : a = m
          · subst h2; simp [hx]
          · rw [if_neg h1, if_neg (by omega)]
      · rw [← la_det_row_addmul (fun a b => if a < m then M a b + x a * M l b else M a b) m l (by omega) hl hml (x m)]
        refine la_det_congr (fun a b _ _ => ?_)
        simp only [la_rr]
        by_cases h2 : a = m
        · subst h2
          by_cases h3 : l < a
          · simp [h3, hx]
          · simp [h3]
        · by_cases h1 : a < m
          · rw [if_pos (by omega), if_neg h2, if_pos h1]
          · rw [if_neg (by omega), if_neg h2, if_neg h1]
  rw [← key n (Nat.le_refl n)]
  exact la_det_congr (fun a b ha _ => by rw [if_pos ha])
theorem la_det_swap {n : Nat} (M : Nat → Nat → Int) (k l : Nat) (hk : k < n) (hl : l < n) (hkl : k ≠ l) : la_det n (la_rr (la_rr M k (M l)) l (M k)) = - la_det n M := by
  have h0 : la_det n (la_rr (la_rr M k (fun b => M k b + M l b)) l (fun b => M k b + M l b)) = 0 :=
    la_det_eq_rows _ k l hk hl hkl (fun b _ => by simp [la_rr, hkl])
  have hr : la_det n (la_rr (la_rr M k (M k)) l (M k)) = 0 := la_det_eq_rows _ k l hk hl hkl (fun b _ => by simp [la_rr, hkl])
  have hs : la_det n (la_rr (la_rr M k (M l)) l (M l)) = 0 := la_det_eq_rows _ k l hk hl hkl (fun b _ => by simp [la_rr, hkl])
  rw [la_det_row_add _ _ hl, la_rr_comm _ hkl, la_rr_comm _ hkl, la_det_row_add _ _ hk, la_det_row_add _ _ hk] at h0
  rw [la_rr_comm _ (Ne.symm hkl), la_rr_comm _ (Ne.symm hkl), la_rr_comm _ (Ne.symm hkl), la_rr_comm _ (Ne.symm hkl), hr, hs, la_rr_self, la_rr_self] at h0
  omega
theorem la_minor_rc {M : Nat → Nat → Int} {i k : Nat} {c : Nat → Int} : (fun a b => la_rc M (k+1) c (la_sk i a) (b+1)) = la_rc (fun a b => M (la_sk i a) (b+1)) k (fun a => c (la_sk i a)) := by
  funext a b
  unfold la_rc
  by_cases e : b = k
  · subst e; simp
  · simp [e]
theorem la_minor_rc0 {M : Nat → Nat → Int} {i : Nat} {c : Nat → Int} : (fun a b => la_rc M 0 c (la_sk i a) (b+1)) = (fun a b => M (la_sk i a) (b+1)) := by
  funext a b; unfold la_rc; simp
theorem la_det_col_lin {n : Nat} : ∀ (M : Nat → Nat → Int) (k : Nat), k < n → ∀ (x y : Int) (r s : Nat → Int), la_det n (la_rc M k (fun b => x * r b + y * s b)) = x * la_det n (la_rc M k r) + y * la_det n (la_rc M k s) := by
  induction n with
  | zero => intro M k hk; omega
  | succ n ih =>
    intro M k hk x y r s
    rw [la_det_succ, la_det_succ, la_det_succ, ← la_sm_mul, ← la_sm_mul, ← la_sm_add]
    refine la_sm_congr (fun i hi => ?_)
    cases k with
    | zero =>
      rw [la_minor_rc0, la_minor_rc0, la_minor_rc0]
      simp only [la_rc, if_true]
      generalize la_det n _ = D
      grind
    | succ k =>
      rw [la_minor_rc, la_minor_rc, la_minor_rc, ih _ _ (by omega)]
      simp only [la_rc, if_neg (show ¬ 0 = k + 1 by omega)]
      generalize la_det n _ = D
      generalize la_det n _ = E
      grind
theorem la_det_col_smul {n : Nat} (M : Nat → Nat → Int) (k : Nat) (hk : k < n) (x : Int) (r : Nat → Int) : la_det n (la_rc M k (fun b => x * r b)) = x * la_det n (la_rc M k r) := by
  have := la_det_col_lin M k hk x 0 r r
  simpa using this
theorem la_det_col_add {n : Nat} (M : Nat → Nat → Int) (k : Nat) (hk : k < n) (r s : Nat → Int) : la_det n (la_rc M k (fun b => r b + s b)) = la_det n (la_rc M k r) + la_det n (la_rc M k s) := by
  have := la_det_col_lin M k hk 1 1 r s
  simpa using this
theorem la_rc_self (M : Nat → Nat → Int) (k : Nat) : la_rc M k (fun a => M a k) = M := by
  funext a b; unfold la_rc; split
  · case _ h => rw [h]
  · rfl
theorem la_rc_comm (M : Nat → Nat → Int) {k l : Nat} (h : k ≠ l) (r s : Nat → Int) : la_rc (la_rc M k r) l s = la_rc (la_rc M l s) k r := by
  funext a b; unfold la_rc; by_cases e : b = l
  · subst e; simp [Ne.symm h]
  · simp [e]
theorem la_det_col_zero {n : Nat} (M : Nat → Nat → Int) (k : Nat) (hk : k < n) (h : ∀ a, a < n → M a k = 0) : la_det n M = 0 := by
  have e : la_det n M = la_det n (la_rc M k (fun a => 0 * M a k)) := by
    refine la_det_congr (fun a b ha _ => ?_)
    unfold la_rc; split
    · case _ h' => rw [h', h a ha]; simp
    · rfl
  rw [e, la_det_col_smul _ _ hk]; simp
theorem la_det_col_adj {n : Nat} : ∀ (M : Nat → Nat → Int) (k : Nat), k + 1 < n → (∀ a, a < n → M a k = M a (k+1)) → la_det n M = 0 := by
  induction n with
  | zero => intro M k hk; omega
  | succ n ih =>
    intro M k hk h
    cases k with
    | succ k =>
      rw [la_det_succ]
      refine la_sm_zero (fun i hi => ?_)
      rw [ih _ k (by omega) (fun a ha => h _ (la_sk_lt hi ha))]; simp
    | zero =>
      obtain ⟨m, rfl⟩ : ∃ m, n = m + 1 := ⟨n - 1, by omega⟩
      rw [la_det_succ]
      have e : la_sm (m+1+1) (fun i => la_sg i * M i 0 * la_det (m+1) (fun a b => M (la_sk i a) (b+1))) = la_sm (m+1+1) (fun i => la_sm (m+1) (fun j => la_sg i * la_sg j * M i 0 * M (la_sk i j) 0 * la_det m (fun a b => M (la_sk i (la_sk j a)) (b+1+1)))) := by
        refine la_sm_congr (fun i hi => ?_)
        rw [la_det_succ, ← la_sm_mul]
        refine la_sm_congr (fun j hj => ?_)
        rw [h (la_sk i j) (la_sk_lt hi hj)]
        generalize la_det m _ = D
        grind
      rw [e, la_sm_pairs]
      refine la_sm_zero (fun b hb => la_sm_zero (fun a ha => ?_))
      have e1 : la_sk b a = a := by unfold la_sk; split <;> omega
      have e2 : la_sk a (b-1) = b := by unfold la_sk; split <;> omega
      have e3 : ∀ c, la_sk b (la_sk a c) = la_sk a (la_sk (b-1) c) := by intro c; unfold la_sk; (repeat' split) <;> omega
      have e4 : la_sg b = - la_sg (b-1) := by rw [← la_sg_succ]; congr 1; omega
      simp only [e1, e2, e3, e4]
      generalize la_det m _ = D
      grind
theorem la_det_col_adj_swap {n : Nat} (M : Nat → Nat → Int) (k : Nat) (hk : k + 1 < n) (r s : Nat → Int) : la_det n (la_rc (la_rc M k r) (k+1) s) = - la_det n (la_rc (la_rc M k s) (k+1) r) := by
  have h0 : la_det n (la_rc (la_rc M k (fun b => r b + s b)) (k+1) (fun b => r b + s b)) = 0 :=
    la_det_col_adj _ k hk (fun b _ => by simp [la_rc])
  have hr : la_det n (la_rc (la_rc M k r) (k+1) r) = 0 := la_det_col_adj _ k hk (fun b _ => by simp [la_rc])
  have hs : la_det n (la_rc (la_rc M k s) (k+1) s) = 0 := la_det_col_adj _ k hk (fun b _ => by simp [la_rc])
  rw [la_det_col_add _ _ hk, la_rc_comm _ (show k ≠ k+1 by omega), la_rc_comm _ (show k ≠ k+1 by omega), la_det_col_add _ _ (by omega), la_det_col_add _ _ (by omega)] at h0
  rw [la_rc_comm _ (show k+1 ≠ k by omega), la_rc_comm _ (show k+1 ≠ k by omega), la_rc_comm _ (show k+1 ≠ k by omega), la_rc_comm _ (show k+1 ≠ k by omega), hr, hs] at h0
  omega
theorem la_det_col_alt {n : Nat} : ∀ (d : Nat) (M : Nat → Nat → Int) (k : Nat), k + 1 + d < n → (∀ b, b < n → M b k = M b (k + 1 + d)) → la_det n M = 0 := by
  intro d
  induction d with
  | zero => intro M k hk h; exact la_det_col_adj M k hk h
  | succ d ih =>
    intro M k hk h
    have e : M = la_rc (la_rc M (k+1+d) (fun a => M a (k+1+d))) (k+1+d+1) (fun a => M a (k+1+d+1)) := by
      rw [la_rc_self, la_rc_self]
    rw [e, la_det_col_adj_swap _ _ (by omega)]
    rw [ih _ k (by omega) (fun b hb => ?_)]
    · rfl
    · simp only [la_rc]
      rw [if_neg (by omega), if_neg (by omega), if_neg (by omega), if_pos trivial]
      exact h b hb
theorem la_det_eq_cols {n : Nat} (M : Nat → Nat → Int) (k l : Nat) (hk : k < n) (hl : l < n) (hkl : k ≠ l) (h : ∀ b, b < n → M b k = M b l) : la_det n M = 0 := by
  rcases Nat.lt_or_gt_of_ne hkl with h1 | h1
  · obtain ⟨d, rfl⟩ := Nat.exists_eq_add_of_lt h1
    exact la_det_col_alt d M k (by omega) (fun b hb => by rw [h b hb]; congr 1; omega)
  · obtain ⟨d, rfl⟩ := Nat.exists_eq_add_of_lt h1
    exact la_det_col_alt d M l (by omega) (fun b hb => by rw [← h b hb]; congr 1; omega)
theorem la_det_col_addmul {n : Nat} (M : Nat → Nat → Int) (k l : Nat) (hk : k < n) (hl : l < n) (hkl : k ≠ l) (x : Int) : la_det n (la_rc M k (fun a => M a k + x * M a l)) = la_det n M := by
  have h1 := la_det_col_lin M k hk 1 x (fun a => M a k) (fun a => M a l)
  have h2 : la_det n (la_rc M k (fun a => M a l)) = 0 := la_det_eq_cols _ k l hk hl hkl (fun b _ => by simp [la_rc, Ne.symm hkl])
  rw [h2, la_rc_self] at h1
  simpa using h1
theorem la_det_cols_addmul {n : Nat} (M : Nat → Nat → Int) (l : Nat) (hl : l < n) (x : Nat → Int) (hx : x l = 0) : la_det n (fun a b => M a b + x b * M a l) = la_det n M := by
  have key : ∀ m, m ≤ n → la_det n (fun a b => if b < m then M a b + x b * M a l else M a b) = la_det n M := by
    intro m
    induction m with
    | zero => intro _; exact la_det_congr (fun a b _ _ => by simp)
    | succ m ih =>
      intro hm
      rw [← ih (by omega)]
      by_cases hml : m = l
      · subst hml
        refine la_det_congr (fun a b _ _ => ?_)
        by_cases h1 : b < m
        · rw [if_pos h1, if_pos (by omega)]
        · by_cases h2 : b = m
          · subst h2; simp [hx]
          · rw [if_neg h1, if_neg (by omega)]
      · rw [← la_det_col_addmul (fun a b => if b < m then M a b + x b * M a l else M a b) m l (by omega) hl hml (x m)]
        refine la_det_congr (fun a b _ _ => ?_)
        simp only [la_rc]
        by_cases h2 : b = m
        · subst h2
          by_cases h3 : l < b
          · simp [h3, hx]
          · simp [h3]
        · by_cases h1 : b < m
          · rw [if_pos (by omega), if_neg h2, if_pos h1]
          · rw [if_neg (by omega), if_neg h2, if_neg h1]
  rw [← key n (Nat.le_refl n)]
  exact la_det_congr (fun a b _ hb => by rw [if_pos hb])
theorem la_det_last_row {n : Nat} : ∀ (M : Nat → Nat → Int), (∀ b, b < n → M n b = 0) → la_det (n+1) M = M n n * la_det n M := by
  induction n with
  | zero => intro M _; simp [la_det, la_sm, la_sg]
  | succ n ih =>
    intro M h
    rw [la_det_succ (n+1)]
    rw [show la_sm (n+1+1) (fun i => la_sg i * M i 0 * la_det (n+1) (fun a b => M (la_sk i a) (b+1))) = la_sm (n+1) (fun i => la_sg i * M i 0 * la_det (n+1) (fun a b => M (la_sk i a) (b+1))) + la_sg (n+1) * M (n+1) 0 * la_det (n+1) (fun a b => M (la_sk (n+1) a) (b+1)) from rfl]
    rw [h 0 (by omega)]
    simp only [Int.mul_zero, Int.zero_mul, Int.add_zero]
    rw [la_det_succ n M, ← la_sm_mul]
    refine la_sm_congr (fun i hi => ?_)
    have e : la_sk i n = n + 1 := by unfold la_sk; split <;> omega
    rw [ih _ (fun b hb => by rw [e]; exact h _ (by omega))]
    rw [e]
    generalize la_det n _ = D
    grind
theorem la_det_last_col {n : Nat} : ∀ (M : Nat → Nat → Int), (∀ a, a < n → M a n = 0) → la_det (n+1) M = M n n * la_det n M := by
  induction n with
  | zero => intro M _; simp [la_det, la_sm, la_sg]
  | succ n ih =>
    intro M h
    rw [la_det_succ (n+1)]
    rw [show la_sm (n+1+1) (fun i => la_sg i * M i 0 * la_det (n+1) (fun a b => M (la_sk i a) (b+1))) = la_sm (n+1) (fun i => la_sg i * M i 0 * la_det (n+1) (fun a b => M (la_sk i a) (b+1))) + la_sg (n+1) * M (n+1) 0 * la_det (n+1) (fun a b => M (la_sk (n+1) a) (b+1)) from rfl]
    have z : la_det (n+1) (fun a b => M (la_sk (n+1) a) (b+1)) = 0 := by
      refine la_det_col_zero _ n (by omega) (fun a ha => ?_)
      have e : la_sk (n+1) a = a := by unfold la_sk; split <;> omega
      rw [e]; exact h _ (by omega)
    rw [z]
    simp only [Int.mul_zero, Int.add_zero]
    rw [la_det_succ n M, ← la_sm_mul]
    refine la_sm_congr (fun i hi => ?_)
    have e : la_sk i n = n + 1 := by unfold la_sk; split <;> omega
    rw [ih _ (fun a ha => by exact h _ (la_sk_lt hi (by omega)))]
    rw [e]
    generalize la_det n _ = D
    grind
def la_ee (j b : Nat) : Int := if b = j then 1 else 0
theorem la_ee_self (j : Nat) : la_ee j j = 1 := by simp [la_ee]
theorem la_ee_ne {j b : Nat} (h : b ≠ j) : la_ee j b = 0 := by simp [la_ee, h]
theorem la_det_one (n : Nat) : la_det n (fun a b => la_ee a b) = 1 := by
  induction n with
  | zero => rfl
  | succ n ih => rw [la_det_last_row _ (fun b hb => la_ee_ne (by omega)), ih, la_ee_self]; rfl
theorem la_sm_ee {n : Nat} (x : Nat → Int) (b : Nat) (hb : b < n) : la_sm n (fun j => x j * la_ee j b) = x b := by
  rw [la_sm_single b hb (fun i _ hne => by rw [la_ee_ne (Ne.symm hne)]; simp), la_ee_self]; simp
theorem la_sm_ee' {n : Nat} (x : Nat → Int) (b : Nat) (hb : b < n) : la_sm n (fun j => x j * la_ee b j) = x b := by
  rw [la_sm_single b hb (fun i _ hne => by rw [la_ee_ne hne]; simp), la_ee_self]; simp
theorem la_det_row_sum {n : Nat} (M : Nat → Nat → Int) (i : Nat) (hi : i < n) (m : Nat) (x : Nat → Int) (r : Nat → Nat → Int) :
    la_det n (la_rr M i (fun b => la_sm m (fun j => x j * r j b))) = la_sm m (fun j => x j * la_det n (la_rr M i (r j))) := by
  induction m with
  | zero => exact la_det_row_zero _ i hi (fun b _ => by simp [la_rr, la_sm])
  | succ m ih =>
    simp only [la_sm]
    have := la_det_row_lin M i hi 1 (x m) (fun b => la_sm m (fun j => x j * r j b)) (r m)
    simp only [Int.one_mul] at this
    rw [this, ih]
theorem la_det_col_sum {n : Nat} (M : Nat → Nat → Int) (i : Nat) (hi : i < n) (m : Nat) (x : Nat → Int) (r : Nat → Nat → Int) :
    la_det n (la_rc M i (fun b => la_sm m (fun j => x j * r j b))) = la_sm m (fun j => x j * la_det n (la_rc M i (r j))) := by
  induction m with
  | zero => exact la_det_col_zero _ i hi (fun b _ => by simp [la_rc, la_sm])
  | succ m ih =>
    simp only [la_sm]
    have := la_det_col_lin M i hi 1 (x m) (fun b => la_sm m (fun j => x j * r j b)) (r m)
    simp only [Int.one_mul] at this
    rw [this, ih]
def la_adj (n : Nat) (M : Nat → Nat → Int) (j i : Nat) : Int := la_det n (la_rr M i (la_ee j))
theorem la_adj_right {n : Nat} (M : Nat → Nat → Int) (k i : Nat) (hi : i < n) (hk : k < n) : la_sm n (fun j => M k j * la_adj n M j i) = if k = i then la_det n M else 0 := by
  unfold la_adj
  rw [← la_det_row_sum M i hi n (M k) (fun j => la_ee j)]
  have e : la_det n (la_rr M i (fun b => la_sm n (fun j => M k j * la_ee j b))) = la_det n (la_rr M i (M k)) := by
    refine la_det_congr (fun a b _ hb => ?_)
    unfold la_rr; split
    · exact la_sm_ee (M k) b hb
    · rfl
  rw [e]
  by_cases h : k = i
  · subst h; rw [la_rr_self, if_pos rfl]
  · rw [if_neg h]
    exact la_det_eq_rows _ i k hi hk (Ne.symm h) (fun b _ => by simp [la_rr, h])
theorem la_adj_rc {n : Nat} (M : Nat → Nat → Int) (i j : Nat) (hi : i < n) (hj : j < n) : la_adj n M j i = la_det n (la_rc M j (la_ee i)) := by
  unfold la_adj
  have e1 : la_det n (la_rr M i (la_ee j)) = la_det n (la_rr (la_rc M j (la_ee i)) i (la_ee j)) := by
    rw [← la_det_rows_addmul (la_rr M i (la_ee j)) i hi (fun a => if a = i then 0 else - M a j) (by simp)]
    refine la_det_congr (fun a b ha hb => ?_)
    unfold la_rr la_rc
    by_cases h1 : a = i
    · subst h1; simp
    · by_cases h2 : b = j
      · subst h2; simp [h1, la_ee]
        omega
      · simp [h1, h2, la_ee]
  have e2 : la_det n (la_rc M j (la_ee i)) = la_det n (la_rr (la_rc M j (la_ee i)) i (la_ee j)) := by
    rw [← la_det_cols_addmul (la_rc M j (la_ee i)) j hj (fun b => if b = j then 0 else - M i b) (by simp)]
    refine la_det_congr (fun a b ha hb => ?_)
    unfold la_rr la_rc
    by_cases h1 : b = j
    · subst h1; by_cases h2 : a = i
      · subst h2; simp [la_ee]
      · simp [h2]
    · by_cases h2 : a = i
      · subst h2; simp [h1, la_ee]
        omega
      · simp [h1, h2, la_ee]
  rw [e1, e2]
theorem la_adj_left {n : Nat} (M : Nat → Nat → Int) (j l : Nat) (hj : j < n) (hl : l < n) : la_sm n (fun i => la_adj n M j i * M i l) = if j = l then la_det n M else 0 := by
  have e0 : la_sm n (fun i => la_adj n M j i * M i l) = la_sm n (fun i => M i l * la_det n (la_rc M j (la_ee i))) :=
    la_sm_congr (fun i hi => by rw [la_adj_rc M i j hi hj, Int.mul_comm])
  rw [e0, ← la_det_col_sum M j hj n (fun i => M i l) (fun i => la_ee i)]
  have e : la_det n (la_rc M j (fun b => la_sm n (fun i => M i l * la_ee i b))) = la_det n (la_rc M j (fun b => M b l)) := by
    refine la_det_congr (fun a b ha _ => ?_)
    unfold la_rc; split
    · exact la_sm_ee (fun i => M i l) a ha
    · rfl
  rw [e]
  by_cases h : j = l
  · subst h; rw [la_rc_self, if_pos rfl]
  · rw [if_neg h]
    exact la_det_eq_cols _ j l hj hl h (fun b _ => by simp [la_rc, Ne.symm h])
theorem la_det_border (r : Nat) (K : Nat → Nat → Int) :
    la_det (r+1) K = K r r * la_det r K - la_sm r (fun j => la_sm r (fun i => K r j * la_adj r K j i * K i r)) := by
  have hrow : la_det (r+1) K = la_sm (r+1) (fun j => K r j * la_det (r+1) (la_rr K r (la_ee j))) := by
    rw [← la_det_row_sum K r (by omega) (r+1) (K r) (fun j => la_ee j)]
    refine la_det_congr (fun a b _ hb => ?_)
    unfold la_rr; split
    · case _ h => exact (by rw [h] : K a b = K r b).trans (la_sm_ee (K r) b hb).symm
    · rfl
  rw [hrow]
  rw [show la_sm (r+1) (fun j => K r j * la_det (r+1) (la_rr K r (la_ee j))) = la_sm r (fun j => K r j * la_det (r+1) (la_rr K r (la_ee j))) + K r r * la_det (r+1) (la_rr K r (la_ee r)) from rfl]
  have hlast : la_det (r+1) (la_rr K r (la_ee r)) = la_det r K := by
    rw [la_det_last_row _ (fun b hb => by simp [la_rr, la_ee]; omega)]
    have : la_rr K r (la_ee r) r r = 1 := by simp [la_rr, la_ee]
    rw [this, Int.one_mul]
    exact la_det_congr (fun a b ha _ => by unfold la_rr; rw [if_neg (by omega)])
  have hj : ∀ j, j < r → la_det (r+1) (la_rr K r (la_ee j)) = - la_sm r (fun i => la_adj r K j i * K i r) := by
    intro j hj
    have hcol : la_det (r+1) (la_rr K r (la_ee j)) = la_sm r (fun i => K i r * la_det (r+1) (la_rc (la_rr K r (la_ee j)) r (la_ee i))) := by
      rw [← la_det_col_sum (la_rr K r (la_ee j)) r (by omega) r (fun i => K i r) (fun i => la_ee i)]
      refine la_det_congr (fun a b ha _ => ?_)
      unfold la_rc; split
      · case _ h =>
        subst h
        by_cases h2 : a = b
        · subst h2
          refine Eq.trans ?_ (la_sm_zero (f := fun i => K i a * la_ee i a) (fun i hi => by rw [la_ee_ne (show a ≠ i by omega)]; simp)).symm
          simp [la_rr, la_ee]; omega
        · refine Eq.trans ?_ (la_sm_ee (fun i => K i b) a (by omega)).symm
          simp [la_rr, h2]
      · rfl
    rw [hcol, ← la_sm_neg]
    refine la_sm_congr (fun i hi => ?_)
    have hs := la_det_swap (la_rc (la_rr K r (la_ee j)) r (la_ee i)) i r (n := r+1) (by omega) (by omega) (by omega)
    have hx : la_det (r+1) (la_rr (la_rr (la_rc (la_rr K r (la_ee j)) r (la_ee i)) i (la_rc (la_rr K r (la_ee j)) r (la_ee i) r)) r (la_rc (la_rr K r (la_ee j)) r (la_ee i) i)) = la_adj r K j i := by
      rw [la_det_last_col]
      · unfold la_adj
        have : la_rr (la_rr (la_rc (la_rr K r (la_ee j)) r (la_ee i)) i (la_rc (la_rr K r (la_ee j)) r (la_ee i) r)) r (la_rc (la_rr K r (la_ee j)) r (la_ee i) i) r r = 1 := by
          simp [la_rr, la_rc, la_ee]
        rw [this, Int.one_mul]
        refine la_det_congr (fun a b ha hb => ?_)
        unfold la_rr la_rc
        have h1 : a ≠ r := by omega
        have h2 : b ≠ r := by omega
        by_cases h3 : a = i
        · subst h3; simp [h1, h2]
        · simp [h1, h2, h3]
      · intro a ha
        have h1 : a ≠ r := by omega
        unfold la_rr la_rc
        by_cases h3 : a = i
        · subst h3; simp [h1, la_ee]; omega
        · simp [h1, h3, la_ee]
    rw [hx] at hs
    have : la_det (r+1) (la_rc (la_rr K r (la_ee j)) r (la_ee i)) = - la_adj r K j i := by omega
    rw [this]; grind
  rw [hlast]
  have e2 : la_sm r (fun j => K r j * la_det (r+1) (la_rr K r (la_ee j))) = - la_sm r (fun j => la_sm r (fun i => K r j * la_adj r K j i * K i r)) := by
    rw [← la_sm_neg]
    refine la_sm_congr (fun j hjr => ?_)
    rw [hj j hjr, Int.mul_neg, ← la_sm_mul]
    congr 1
    exact la_sm_congr (fun i _ => by grind)
  rw [e2]; omega
theorem la_sm_dvd {n : Nat} {f g : Nat → Int} {p : Int} (h : ∀ i, i < n → p ∣ f i - g i) : p ∣ la_sm n f - la_sm n g := by
  rw [← la_sm_sub]
  induction n with
  | zero => exact ⟨0, by simp [la_sm]⟩
  | succ n ih => simp only [la_sm]; exact Int.dvd_add (ih (fun i hi => h i (by omega))) (h n (by omega))
theorem la_mul_dvd_sub {a b c d p : Int} (h1 : p ∣ a - b) (h2 : p ∣ c - d) : p ∣ a * c - b * d := by
  obtain ⟨x, hx⟩ := h1
  obtain ⟨y, hy⟩ := h2
  exact ⟨x * c + b * y, by grind⟩
def la_pv (n : Nat) (c : Nat → Int) (u : Int) : Int := la_sm (n+1) (fun k => c k * u ^ k)
def la_up (c : Nat → Int) : Nat → Int
  | 0 => 0
  | k+1 => c k
theorem la_pv_head (n : Nat) (c : Nat → Int) (u : Int) : la_pv (n+1) c u = c 0 + u * la_pv n (fun k => c (k+1)) u := by
  unfold la_pv
  rw [la_sm_succ', ← la_sm_mul]
  congr 1
  · simp
  · exact la_sm_congr (fun i _ => by rw [Int.pow_succ]; grind)
theorem la_pv_up (n : Nat) (c : Nat → Int) (u : Int) : la_pv (n+1) (la_up c) u = u * la_pv n c u := by
  rw [la_pv_head]; show 0 + u * la_pv n c u = _; omega
theorem la_pv_more {n m : Nat} (c : Nat → Int) (u : Int) (h : n ≤ m) (hz : ∀ k, n < k → c k = 0) : la_pv m c u = la_pv n c u := by
  unfold la_pv
  exact la_sm_ext (by omega) (fun i hi _ => by rw [hz i (by omega)]; simp)
theorem la_pv_add (n : Nat) (c d : Nat → Int) (u : Int) : la_pv n (fun k => c k + d k) u = la_pv n c u + la_pv n d u := by
  unfold la_pv; rw [← la_sm_add]; exact la_sm_congr (fun i _ => by grind)
theorem la_pv_sub (n : Nat) (c d : Nat → Int) (u : Int) : la_pv n (fun k => c k - d k) u = la_pv n c u - la_pv n d u := by
  unfold la_pv; rw [← la_sm_sub]; exact la_sm_congr (fun i _ => by grind)
theorem la_pv_mul (n : Nat) (x : Int) (c : Nat → Int) (u : Int) : la_pv n (fun k => x * c k) u = x * la_pv n c u := by
  unfold la_pv; rw [← la_sm_mul]; exact la_sm_congr (fun i _ => by grind)
theorem la_pv_sm (n m : Nat) (x : Nat → Int) (c : Nat → Nat → Int) (u : Int) : la_pv n (fun k => la_sm m (fun i => x i * c i k)) u = la_sm m (fun i => x i * la_pv n (c i) u) := by
  induction m with
  | zero => simp only [la_sm]; unfold la_pv; exact la_sm_zero (fun _ _ => by simp)
  | succ m ih => simp only [la_sm]; rw [la_pv_add, ih, la_pv_mul]
theorem la_pv_zero {n : Nat} : ∀ {c : Nat → Int}, (∀ u : Int, 1 ≤ u → la_pv n c u = 0) → ∀ k, k ≤ n → c k = 0 := by
  induction n with
  | zero =>
    intro c h k hk
    obtain rfl : k = 0 := by omega
    have := h 1 (by omega); simpa [la_pv, la_sm] using this
  | succ n ih =>
    intro c h k hk
    have h0 : c 0 = 0 := by
      have h1 := h ((c 0).natAbs + 1) (by omega)
      rw [la_pv_head] at h1
      have hd : ((c 0).natAbs + 1 : Int) ∣ c 0 := ⟨- la_pv n (fun k => c (k+1)) ((c 0).natAbs + 1), by rw [Int.mul_neg]; omega⟩
      by_cases hc : c 0 = 0
      · exact hc
      · exfalso
        have := Int.natAbs_dvd_natAbs.mpr hd
        have := Nat.le_of_dvd (by omega) this
        omega
    cases k with
    | zero => exact h0
    | succ k =>
      refine ih (c := fun k => c (k+1)) (fun u hu => ?_) k (by omega)
      have := h u hu
      rw [la_pv_head, h0, Int.zero_add] at this
      rcases Int.mul_eq_zero.mp this with h' | h'
      · omega
      · exact h'
theorem la_pv_inj {n : Nat} {c d : Nat → Int} (h : ∀ u : Int, 1 ≤ u → la_pv n c u = la_pv n d u) (k : Nat) (hk : k ≤ n) : c k = d k := by
  have := la_pv_zero (c := fun k => c k - d k) (n := n) (fun u hu => by rw [la_pv_sub, h u hu]; omega) k hk
  omega
def la_dc : Nat → (Nat → Nat → Int) → (Nat → Nat → Int) → Nat → Int
  | 0, _, _ => fun k => if k = 0 then 1 else 0
  | n+1, P, Q => fun k => la_sm (n+1) (fun i => la_sg i * (P i 0 * la_dc n (fun a b => P (la_sk i a) (b+1)) (fun a b => Q (la_sk i a) (b+1)) k + Q i 0 * la_up (la_dc n (fun a b => P (la_sk i a) (b+1)) (fun a b => Q (la_sk i a) (b+1))) k))
theorem la_dc_succ (n : Nat) (P Q : Nat → Nat → Int) (k : Nat) : la_dc (n+1) P Q k = la_sm (n+1) (fun i => la_sg i * (P i 0 * la_dc n (fun a b => P (la_sk i a) (b+1)) (fun a b => Q (la_sk i a) (b+1)) k + Q i 0 * la_up (la_dc n (fun a b => P (la_sk i a) (b+1)) (fun a b => Q (la_sk i a) (b+1))) k)) := rfl
theorem la_dc_top {n : Nat} : ∀ (P Q : Nat → Nat → Int) (k : Nat), n < k → la_dc n P Q k = 0 := by
  induction n with
  | zero => intro P Q k hk; simp [la_dc]; omega
  | succ n ih =>
    intro P Q k hk
    rw [la_dc_succ]
    refine la_sm_zero (fun i hi => ?_)
    rw [ih _ _ k (by omega)]
    obtain ⟨l, rfl⟩ : ∃ l, k = l + 1 := ⟨k - 1, by omega⟩
    show la_sg i * (P i 0 * 0 + Q i 0 * la_dc n _ _ l) = 0
    rw [ih _ _ l (by omega)]; simp
theorem la_det_pv {n : Nat} : ∀ (P Q : Nat → Nat → Int) (u : Int), la_det n (fun a b => P a b + u * Q a b) = la_pv n (la_dc n P Q) u := by
  induction n with
  | zero => intro P Q u; simp [la_det, la_pv, la_sm, la_dc]
  | succ n ih =>
    intro P Q u
    rw [la_det_succ]
    have e : la_pv (n+1) (la_dc (n+1) P Q) u = la_sm (n+1) (fun i => la_sg i * la_pv (n+1) (fun k => P i 0 * la_dc n (fun a b => P (la_sk i a) (b+1)) (fun a b => Q (la_sk i a) (b+1)) k + Q i 0 * la_up (la_dc n (fun a b => P (la_sk i a) (b+1)) (fun a b => Q (la_sk i a) (b+1))) k) u) := by
      rw [← la_pv_sm]; rfl
    rw [e]
    refine la_sm_congr (fun i hi => ?_)
    rw [ih, la_pv_add, la_pv_mul, la_pv_mul, la_pv_up, la_pv_more _ _ (Nat.le_succ n) (fun k hk => la_dc_top _ _ k hk)]
    grind
def la_pr : Nat → (Nat → Int) → Int
  | 0, _ => 1
  | n+1, f => la_pr n f * f n
theorem la_pr_congr {n : Nat} {f g : Nat → Int} (h : ∀ i, i < n → f i = g i) : la_pr n f = la_pr n g := by
  induction n with
  | zero => rfl
  | succ n ih => simp only [la_pr]; rw [ih (fun i hi => h i (by omega)), h n (by omega)]
theorem la_pr_nonneg {n : Nat} {f : Nat → Int} (h : ∀ i, i < n → 0 ≤ f i) : 0 ≤ la_pr n f := by
  induction n with
  | zero => simp [la_pr]
  | succ n ih => simp only [la_pr]; exact Int.mul_nonneg (ih (fun i hi => h i (by omega))) (h n (by omega))
theorem la_pr_le {n : Nat} {f g : Nat → Int} (h0 : ∀ i, i < n → 0 ≤ f i) (h : ∀ i, i < n → f i ≤ g i) : la_pr n f ≤ la_pr n g := by
  induction n with
  | zero => simp [la_pr]
  | succ n ih =>
    simp only [la_pr]
    exact Int.mul_le_mul (ih (fun i hi => h0 i (by omega)) (fun i hi => h i (by omega))) (h n (by omega)) (h0 n (by omega)) (la_pr_nonneg (fun i hi => Int.le_trans (h0 i (by omega)) (h i (by omega))))
theorem la_sm_le {n : Nat} {f g : Nat → Int} (h : ∀ i, i < n → f i ≤ g i) : la_sm n f ≤ la_sm n g := by
  induction n with
  | zero => simp [la_sm]
  | succ n ih => simp only [la_sm]; have := ih (fun i hi => h i (by omega)); have := h n (by omega); omega
theorem la_sm_nonneg {n : Nat} {f : Nat → Int} (h : ∀ i, i < n → 0 ≤ f i) : 0 ≤ la_sm n f := by
  have := la_sm_le (f := fun _ => 0) h
  rwa [la_sm_zero (fun _ _ => rfl)] at this
theorem la_sum_prod_le {n : Nat} (w R : Nat → Int) (hw : ∀ i, i < n → 0 ≤ w i) (hR : ∀ i, i < n → 0 ≤ R i) :
    la_sm n (fun i => w i * la_pr (n-1) (fun a => R (la_sk i a))) ≤ la_pr n (fun a => w a + R a) := by
  induction n with
  | zero => simp [la_sm, la_pr]
  | succ n ih =>
    have ih := ih (fun i hi => hw i (by omega)) (fun i hi => hR i (by omega))
    show la_sm n (fun i => w i * la_pr (n+1-1) (fun a => R (la_sk i a))) + w n * la_pr (n+1-1) (fun a => R (la_sk n a)) ≤ la_pr n (fun a => w a + R a) * (w n + R n)
    have e1 : la_sm n (fun i => w i * la_pr (n+1-1) (fun a => R (la_sk i a))) = R n * la_sm n (fun i => w i * la_pr (n-1) (fun a => R (la_sk i a))) := by
      rw [← la_sm_mul]
      refine la_sm_congr (fun i hi => ?_)
      obtain ⟨m, rfl⟩ : ∃ m, n = m + 1 := ⟨n - 1, by omega⟩
      show w i * (la_pr m _ * R (la_sk i m)) = _
      have : la_sk i m = m + 1 := by unfold la_sk; split <;> omega
      rw [this]
      show _ = R (m+1) * (w i * la_pr m _)
      grind
    have e2 : la_pr (n+1-1) (fun a => R (la_sk n a)) = la_pr n R := la_pr_congr (fun a ha => by
      have : la_sk n a = a := by unfold la_sk; split <;> omega
      rw [this])
    rw [e1, e2]
    have h1 : R n * la_sm n (fun i => w i * la_pr (n-1) (fun a => R (la_sk i a))) ≤ R n * la_pr n (fun a => w a + R a) := Int.mul_le_mul_of_nonneg_left ih (hR n (by omega))
    have h2 : w n * la_pr n R ≤ w n * la_pr n (fun a => w a + R a) := Int.mul_le_mul_of_nonneg_left (la_pr_le (fun i hi => hR i (by omega)) (fun i hi => by have := hw i (by omega); omega)) (hw n (by omega))
    have h3 : la_pr n (fun a => w a + R a) * (w n + R n) = w n * la_pr n (fun a => w a + R a) + R n * la_pr n (fun a => w a + R a) := by grind
    omega
def la_ab (x : Int) : Int := (x.natAbs : Int)
theorem la_ab_nonneg (x : Int) : 0 ≤ la_ab x := by unfold la_ab; omega
theorem la_ab_mul (x y : Int) : la_ab (x * y) = la_ab x * la_ab y := by unfold la_ab; rw [Int.natAbs_mul]; simp
theorem la_ab_add (x y : Int) : la_ab (x + y) ≤ la_ab x + la_ab y := by unfold la_ab; omega
theorem la_ab_sg (i : Nat) : la_ab (la_sg i) = 1 := by unfold la_sg; split <;> rfl
theorem la_ab_zero : la_ab 0 = 0 := rfl
theorem la_ab_sm (n : Nat) (f : Nat → Int) : la_ab (la_sm n f) ≤ la_sm n (fun i => la_ab (f i)) := by
  induction n with
  | zero => simp [la_sm, la_ab]
  | succ n ih => simp only [la_sm]; have := la_ab_add (la_sm n f) (f n); omega
theorem la_dc_bound {n : Nat} : ∀ (P Q : Nat → Nat → Int), la_sm (n+1) (fun k => la_ab (la_dc n P Q k)) ≤ la_pr n (fun a => la_sm n (fun b => la_ab (P a b) + la_ab (Q a b))) := by
  induction n with
  | zero => intro P Q; simp [la_sm, la_pr, la_dc, la_ab]
  | succ n ih =>
    intro P Q
    have key : ∀ i, i < n + 1 → la_sm (n+1+1) (fun k => la_ab (la_sg i * (P i 0 * la_dc n (fun a b => P (la_sk i a) (b+1)) (fun a b => Q (la_sk i a) (b+1)) k + Q i 0 * la_up (la_dc n (fun a b => P (la_sk i a) (b+1)) (fun a b => Q (la_sk i a) (b+1))) k))) ≤ (la_ab (P i 0) + la_ab (Q i 0)) * la_pr n (fun a => la_sm n (fun b => la_ab (P (la_sk i a) (b+1)) + la_ab (Q (la_sk i a) (b+1)))) := by
      intro i hi
      have hih := ih (fun a b => P (la_sk i a) (b+1)) (fun a b => Q (la_sk i a) (b+1))
      have htop := la_dc_top (n := n) (fun a b => P (la_sk i a) (b+1)) (fun a b => Q (la_sk i a) (b+1))
      generalize la_dc n (fun a b => P (la_sk i a) (b+1)) (fun a b => Q (la_sk i a) (b+1)) = d at hih htop ⊢
      have h1 : la_sm (n+1+1) (fun k => la_ab (d k)) = la_sm (n+1) (fun k => la_ab (d k)) := la_sm_ext (by omega) (fun k hk _ => by rw [htop k (by omega)]; rfl)
      have h2 : la_sm (n+1+1) (fun k => la_ab (la_up d k)) = la_sm (n+1) (fun k => la_ab (d k)) := by
        rw [la_sm_succ']; simp [la_up, la_ab_zero]
      have h3 : la_sm (n+1+1) (fun k => la_ab (la_sg i * (P i 0 * d k + Q i 0 * la_up d k))) ≤ la_sm (n+1+1) (fun k => la_ab (P i 0) * la_ab (d k) + la_ab (Q i 0) * la_ab (la_up d k)) := by
        refine la_sm_le (fun k _ => ?_)
        rw [la_ab_mul, la_ab_sg, Int.one_mul, ← la_ab_mul, ← la_ab_mul]
        exact la_ab_add _ _
      rw [la_sm_add, la_sm_mul, la_sm_mul, h1, h2] at h3
      have h4 := Int.mul_le_mul_of_nonneg_left hih (la_ab_nonneg (P i 0))
      have h5 := Int.mul_le_mul_of_nonneg_left hih (la_ab_nonneg (Q i 0))
      have h6 := Int.add_mul (la_ab (P i 0)) (la_ab (Q i 0)) (la_pr n (fun a => la_sm n (fun b => la_ab (P (la_sk i a) (b+1)) + la_ab (Q (la_sk i a) (b+1)))))
      omega
    have h1 : la_sm (n+1+1) (fun k => la_ab (la_dc (n+1) P Q k)) ≤ la_sm (n+1+1) (fun k => la_sm (n+1) (fun i => la_ab (la_sg i * (P i 0 * la_dc n (fun a b => P (la_sk i a) (b+1)) (fun a b => Q (la_sk i a) (b+1)) k + Q i 0 * la_up (la_dc n (fun a b => P (la_sk i a) (b+1)) (fun a b => Q (la_sk i a) (b+1))) k)))) :=
      la_sm_le (fun k _ => la_ab_sm _ _)
    rw [la_sm_swap] at h1
    refine Int.le_trans h1 (Int.le_trans (la_sm_le key) ?_)
    have h2 := la_sum_prod_le (n := n+1) (fun i => la_ab (P i 0) + la_ab (Q i 0)) (fun a => la_sm n (fun b => la_ab (P a (b+1)) + la_ab (Q a (b+1)))) (fun i _ => by have := la_ab_nonneg (P i 0); have := la_ab_nonneg (Q i 0); omega) (fun i _ => la_sm_nonneg (fun b _ => by have := la_ab_nonneg (P i (b+1)); have := la_ab_nonneg (Q i (b+1)); omega))
    refine Int.le_trans h2 (Int.le_of_eq (la_pr_congr (fun a _ => ?_)))
    rw [la_sm_succ']
def la_z0 : Nat → Int := fun _ => 0
def la_bc (n : Nat) (P Q : Nat → Nat → Int) (j i k : Nat) : Int := la_dc n (la_rr P i (la_ee j)) (la_rr Q i la_z0) k
theorem la_adj_pv (n : Nat) (P Q : Nat → Nat → Int) (u : Int) (j i : Nat) : la_adj n (fun a b => P a b + u * Q a b) j i = la_pv n (la_bc n P Q j i) u := by
  unfold la_adj la_bc
  show _ = la_pv n (la_dc n (la_rr P i (la_ee j)) (la_rr Q i la_z0)) u
  rw [← la_det_pv]
  refine la_det_congr (fun a b _ _ => ?_)
  unfold la_rr la_z0; split <;> simp
theorem la_bc_step (n : Nat) (P Q : Nat → Nat → Int) (k i : Nat) (hk : k < n) (hi : i < n) (m : Nat) (hm : m ≤ n + 1) :
    la_sm n (fun j => P k j * la_bc n P Q j i m) + la_up (fun m => la_sm n (fun j => Q k j * la_bc n P Q j i m)) m = if k = i then la_dc n P Q m else 0 := by
  have h : ∀ u : Int, la_pv (n+1) (fun m => la_sm n (fun j => P k j * la_bc n P Q j i m) + la_up (fun m => la_sm n (fun j => Q k j * la_bc n P Q j i m)) m) u = la_pv (n+1) (fun m => if k = i then la_dc n P Q m else 0) u := by
    intro u
    rw [la_pv_add, la_pv_up, la_pv_sm, la_pv_sm, ← la_sm_mul, ← la_sm_add]
    have h1 := la_adj_right (fun a b => P a b + u * Q a b) k i hi hk
    have h2 : la_sm n (fun j => (P k j + u * Q k j) * la_adj n (fun a b => P a b + u * Q a b) j i) = la_sm n (fun j => P k j * la_pv (n+1) (la_bc n P Q j i) u + u * (Q k j * la_pv n (la_bc n P Q j i) u)) := by
      refine la_sm_congr (fun j _ => ?_)
      rw [la_adj_pv, la_pv_more (n := n) (m := n+1) (la_bc n P Q j i) u (Nat.le_succ n) (fun k hk => la_dc_top _ _ k hk)]
      grind
    rw [← h2, h1]
    by_cases e : k = i
    · simp only [if_pos e]
      rw [la_det_pv, la_pv_more (n := n) (m := n+1) _ _ (Nat.le_succ n) (fun k hk => la_dc_top _ _ k hk)]
    · simp only [if_neg e]
      unfold la_pv; rw [la_sm_zero (fun _ _ => by simp)]
  exact la_pv_inj (fun u _ => h u) m hm
def la_ng (A : Nat → Nat → Int) : Nat → Nat → Int := fun a b => - A a b
def la_cp (n : Nat) (A : Nat → Nat → Int) : Nat → Int := la_dc n (fun a b => la_ee a b) (la_ng A)
def la_flB (n : Nat) (A : Nat → Nat → Int) (c : Nat → Int) : Nat → Nat → Nat → Int
  | 0 => fun _ _ => 0
  | m+1 => fun k i => la_sm n (fun j => A k j * la_flB n A c m j i) + (if k = i then c m else 0)
theorem la_bc_fl (n : Nat) (A : Nat → Nat → Int) (m : Nat) : m ≤ n → ∀ k i, k < n → i < n → la_bc n (fun a b => la_ee a b) (la_ng A) k i m = la_flB n A (la_cp n A) (m+1) k i := by
  induction m with
  | zero =>
    intro _ k i hk hi
    have h := la_bc_step n (fun a b => la_ee a b) (la_ng A) k i hk hi 0 (by omega)
    have e : la_sm n (fun j => la_ee k j * la_bc n (fun a b => la_ee a b) (la_ng A) j i 0) = la_bc n (fun a b => la_ee a b) (la_ng A) k i 0 := by
      rw [← la_sm_ee' (fun j => la_bc n (fun a b => la_ee a b) (la_ng A) j i 0) k hk]; exact la_sm_congr (fun j _ => by grind)
    rw [e] at h
    simp only [la_flB, la_up] at h ⊢
    rw [la_sm_zero (fun _ _ => by simp)]
    unfold la_cp; omega
  | succ m ih =>
    intro hm k i hk hi
    have h := la_bc_step n (fun a b => la_ee a b) (la_ng A) k i hk hi (m+1) (by omega)
    have e : la_sm n (fun j => la_ee k j * la_bc n (fun a b => la_ee a b) (la_ng A) j i (m+1)) = la_bc n (fun a b => la_ee a b) (la_ng A) k i (m+1) := by
      rw [← la_sm_ee' (fun j => la_bc n (fun a b => la_ee a b) (la_ng A) j i (m+1)) k hk]; exact la_sm_congr (fun j _ => by grind)
    rw [e] at h
    have e2 : la_up (fun m => la_sm n (fun j => la_ng A k j * la_bc n (fun a b => la_ee a b) (la_ng A) j i m)) (m+1) = - la_sm n (fun j => A k j * la_flB n A (la_cp n A) (m+1) j i) := by
      show la_sm n (fun j => la_ng A k j * la_bc n (fun a b => la_ee a b) (la_ng A) j i m) = _
      rw [← la_sm_neg]
      refine la_sm_congr (fun j hj => ?_)
      rw [ih (by omega) j i hj hi]; unfold la_ng; grind
    rw [e2] at h
    show _ = la_sm n (fun j => A k j * la_flB n A (la_cp n A) (m+1) j i) + (if k = i then la_cp n A (m+1) else 0)
    unfold la_cp at *; omega
theorem la_cp_zero (n : Nat) (A : Nat → Nat → Int) : la_cp n A 0 = 1 := by
  have h := la_det_pv (n := n) (fun a b => la_ee a b) (la_ng A) 0
  have e : la_det n (fun a b => la_ee a b + 0 * la_ng A a b) = la_det n (fun a b => la_ee a b) := la_det_congr (fun a b _ _ => by simp)
  rw [e, la_det_one] at h
  unfold la_pv at h
  rw [la_sm_succ', la_sm_zero (fun i _ => by rw [Int.pow_succ]; simp)] at h
  unfold la_cp; simpa using h.symm
def la_colp (r : Nat) (A : Nat → Nat → Int) (C : Nat → Int) : Nat → Nat → Int
  | 0 => C
  | k+1 => fun i => la_sm r (fun j => A i j * la_colp r A C k j)
theorem la_fl_col (r : Nat) (A : Nat → Nat → Int) (c C : Nat → Int) (m : Nat) : ∀ i, i < r → la_sm r (fun j => la_flB r A c (m+1) i j * C j) = la_sm (m+1) (fun l => c l * la_colp r A C (m-l) i) := by
  induction m with
  | zero =>
    intro i hi
    simp only [la_flB, la_sm, la_colp, Nat.sub_zero, Int.zero_add]
    rw [la_sm_congr (g := fun j => (c 0 * C j) * la_ee i j) (fun j _ => by
      rw [la_sm_zero (fun _ _ => by simp)]; unfold la_ee; by_cases h : i = j
      · simp [h]
      · simp [h, Ne.symm h])]
    rw [la_sm_ee' (fun j => c 0 * C j) i hi]
  | succ m ih =>
    intro i hi
    have e1 : la_sm r (fun j => la_flB r A c (m+1+1) i j * C j) = la_sm r (fun j => la_sm r (fun l => A i l * la_flB r A c (m+1) l j) * C j) + c (m+1) * C i := by
      rw [← la_sm_ee' (fun j => c (m+1) * C j) i hi, ← la_sm_add]
      refine la_sm_congr (fun j _ => ?_)
      show (la_sm r (fun l => A i l * la_flB r A c (m+1) l j) + (if i = j then c (m+1) else 0)) * C j = _
      unfold la_ee; by_cases h : i = j
      · simp only [if_pos h, if_pos h.symm]; grind
      · simp only [if_neg h, if_neg (Ne.symm h)]; grind
    have e2 : la_sm r (fun j => la_sm r (fun l => A i l * la_flB r A c (m+1) l j) * C j) = la_sm r (fun l => A i l * la_sm r (fun j => la_flB r A c (m+1) l j * C j)) := by
      rw [la_sm_congr (g := fun j => la_sm r (fun l => A i l * (la_flB r A c (m+1) l j * C j))) (fun j _ => by
        rw [Int.mul_comm, ← la_sm_mul]; exact la_sm_congr (fun l _ => by grind))]
      rw [la_sm_swap]
      exact la_sm_congr (fun l _ => by rw [la_sm_mul])
    rw [e1, e2]
    rw [la_sm_congr (g := fun l => A i l * la_sm (m+1) (fun t => c t * la_colp r A C (m-t) l)) (fun l hl => by rw [ih l hl])]
    show _ = la_sm (m+1) (fun l => c l * la_colp r A C (m+1-l) i) + c (m+1) * la_colp r A C (m+1-(m+1)) i
    rw [Nat.sub_self]
    have e3 : la_sm r (fun l => A i l * la_sm (m+1) (fun t => c t * la_colp r A C (m-t) l)) = la_sm (m+1) (fun l => c l * la_colp r A C (m+1-l) i) := by
      rw [la_sm_congr (g := fun l => la_sm (m+1) (fun t => c t * (A i l * la_colp r A C (m-t) l))) (fun l _ => by
        rw [← la_sm_mul]; exact la_sm_congr (fun t _ => by grind))]
      rw [la_sm_swap]
      refine la_sm_congr (fun t ht => ?_)
      rw [la_sm_mul]
      have : m + 1 - t = (m - t) + 1 := by omega
      rw [this]; rfl
    rw [e3]; rfl
def la_turnB (r : Nat) (A : Nat → Nat → Int) : Nat → Int
  | 0 => 1
  | 1 => - A r r
  | k+2 => - la_sm r (fun i => A r i * la_colp r A (fun i => A i r) k i)
theorem la_cp_berkowitz (r : Nat) (A : Nat → Nat → Int) (m : Nat) (hm : m ≤ r + 1) : la_cp (r+1) A m = la_sm (m+1) (fun l => la_turnB r A (m-l) * la_cp r A l) := by
  have h : ∀ u : Int, la_pv (r+2) (la_cp (r+1) A) u = la_pv (r+2) (fun m => la_cp r A m + (- A r r) * la_up (la_cp r A) m + (-1) * la_up (la_up (fun k => la_sm r (fun j => A r j * la_sm r (fun i => A i r * la_bc r (fun a b => la_ee a b) (la_ng A) j i k)))) m) u := by
    intro u
    rw [la_pv_add, la_pv_add, la_pv_mul, la_pv_mul, la_pv_up, la_pv_up, la_pv_up]
    rw [la_pv_more (n := r+1) (m := r+2) (la_cp (r+1) A) u (by omega) (fun k hk => la_dc_top _ _ k hk)]
    rw [la_pv_more (n := r) (m := r+2) (la_cp r A) u (by omega) (fun k hk => la_dc_top _ _ k hk)]
    rw [la_pv_more (n := r) (m := r+1) (la_cp r A) u (by omega) (fun k hk => la_dc_top _ _ k hk)]
    rw [la_pv_sm]
    rw [la_sm_congr (g := fun j => A r j * la_sm r (fun i => A i r * la_adj r (fun a b => la_ee a b + u * la_ng A a b) j i)) (fun j _ => by
      rw [la_pv_sm]; congr 1; exact la_sm_congr (fun i _ => by rw [la_adj_pv]))]
    unfold la_cp
    rw [← la_det_pv, ← la_det_pv, la_det_border]
    have e : la_sm r (fun j => la_sm r (fun i => (la_ee r j + u * la_ng A r j) * la_adj r (fun a b => la_ee a b + u * la_ng A a b) j i * (la_ee i r + u * la_ng A i r))) = u * (u * la_sm r (fun j => A r j * la_sm r (fun i => A i r * la_adj r (fun a b => la_ee a b + u * la_ng A a b) j i))) := by
      rw [← la_sm_mul, ← la_sm_mul]
      refine la_sm_congr (fun j hj => ?_)
      rw [← la_sm_mul, ← la_sm_mul, ← la_sm_mul]
      refine la_sm_congr (fun i hi => ?_)
      rw [la_ee_ne (show j ≠ r by omega), la_ee_ne (show r ≠ i by omega)]
      unfold la_ng; grind
    rw [e, la_ee_self]
    unfold la_ng
    grind
  rw [la_pv_inj (fun u _ => h u) m (by omega)]
  cases m with
  | zero => simp [la_up, la_sm, la_turnB]
  | succ m =>
    cases m with
    | zero => simp [la_up, la_sm, la_turnB]; omega
    | succ m =>
      show la_cp r A (m+2) + (- A r r) * la_cp r A (m+1) + (-1) * la_sm r (fun j => A r j * la_sm r (fun i => A i r * la_bc r (fun a b => la_ee a b) (la_ng A) j i m)) = la_sm (m+1) (fun l => la_turnB r A (m+2-l) * la_cp r A l) + la_turnB r A (m+2-(m+1)) * la_cp r A (m+1) + la_turnB r A (m+2-(m+2)) * la_cp r A (m+2)
      have e1 : m + 2 - (m+1) = 1 := by omega
      have e2 : m + 2 - (m+2) = 0 := by omega
      rw [e1, e2]
      have e3 : la_sm r (fun j => A r j * la_sm r (fun i => A i r * la_bc r (fun a b => la_ee a b) (la_ng A) j i m)) = - la_sm (m+1) (fun l => la_turnB r A (m+2-l) * la_cp r A l) := by
        rw [la_sm_congr (g := fun j => A r j * la_sm (m+1) (fun l => la_cp r A l * la_colp r A (fun i => A i r) (m-l) j)) (fun j hj => by
          rw [← la_fl_col r A (la_cp r A) (fun i => A i r) m j hj]
          congr 1
          exact la_sm_congr (fun i hi => by rw [la_bc_fl r A m (by omega) j i hj hi]; grind))]
        rw [la_sm_congr (g := fun j => la_sm (m+1) (fun l => la_cp r A l * (A r j * la_colp r A (fun i => A i r) (m-l) j))) (fun j _ => by
          rw [← la_sm_mul]; exact la_sm_congr (fun l _ => by grind))]
        rw [la_sm_swap, ← la_sm_neg]
        refine la_sm_congr (fun l hl => ?_)
        rw [la_sm_mul]
        have : m + 2 - l = (m - l) + 2 := by omega
        rw [this]
        show _ = -(- la_sm r (fun i => A r i * la_colp r A (fun i => A i r) (m-l) i) * la_cp r A l)
        grind
      rw [e3]
      show la_cp r A (m+2) + (- A r r) * la_cp r A (m+1) + (-1) * _ = _ + (- A r r) * la_cp r A (m+1) + 1 * la_cp r A (m+2)
      grind
theorem la_det_col_comb {n : Nat} (M : Nat → Nat → Int) (c : Nat) (hc : c < n) (x : Int) (m : Nat) (hm : m ≤ c) (y : Nat → Int) :
    la_det n (la_rc M c (fun a => x * M a c + la_sm m (fun j => y j * M a j))) = x * la_det n M := by
  have h := la_det_col_lin M c hc x 1 (fun a => M a c) (fun a => la_sm m (fun j => y j * M a j))
  simp only [Int.one_mul] at h
  rw [h, la_det_col_sum M c hc m y (fun j a => M a j), la_rc_self]
  rw [la_sm_zero (n := m) (fun j hj => by rw [la_det_eq_cols (la_rc M c (fun a => M a j)) c j hc (by omega) (by omega) (fun b _ => by simp only [la_rc]; rw [if_pos trivial, if_neg (by omega)])]; simp)]
  omega
theorem la_det_row_comb {n : Nat} (M : Nat → Nat → Int) (c : Nat) (hc : c < n) (x : Int) (m : Nat) (hm : m ≤ c) (y : Nat → Int) :
    la_det n (la_rr M c (fun b => x * M c b + la_sm m (fun j => y j * M j b))) = x * la_det n M := by
  have h := la_det_row_lin M c hc x 1 (M c) (fun b => la_sm m (fun j => y j * M j b))
  simp only [Int.one_mul] at h
  rw [h, la_det_row_sum M c hc m y (fun j => M j), la_rr_self]
  rw [la_sm_zero (n := m) (fun j hj => by rw [la_det_eq_rows (la_rr M c (M j)) c j hc (by omega) (by omega) (fun b _ => by simp only [la_rr]; rw [if_pos trivial, if_neg (by omega)])]; simp)]
  omega
def la_mi (c : Nat) (A : Nat → Nat → Int) (i j : Nat) : Int := la_det (c+1) (fun a b => A (if a = c then i else a) (if b = c then j else b))
theorem la_mi_border (c : Nat) (A : Nat → Nat → Int) (i j : Nat) :
    la_mi c A i j = A i j * la_det c A - la_sm c (fun l => la_sm c (fun k => A i l * la_adj c A l k * A k j)) := by
  unfold la_mi
  rw [la_det_border]
  simp only [if_true]
  have e0 : la_det c (fun a b => A (if a = c then i else a) (if b = c then j else b)) = la_det c A :=
    la_det_congr (fun a b ha hb => by rw [if_neg (by omega), if_neg (by omega)])
  rw [e0]
  congr 1
  refine la_sm_congr (fun l hl => la_sm_congr (fun k hk => ?_))
  rw [if_neg (show l ≠ c by omega), if_neg (show k ≠ c by omega)]
  congr 2
  unfold la_adj
  refine la_det_congr (fun a b ha hb => ?_)
  show (if a = k then la_ee l b else A (if a = c then i else a) (if b = c then j else b)) = (if a = k then la_ee l b else A a b)
  rw [if_neg (show a ≠ c by omega), if_neg (show b ≠ c by omega)]
theorem la_det_zero_of_mi {n : Nat} (A : Nat → Nat → Int) (c : Nat) (hc : c < n) (hp : la_det c A ≠ 0) (h : ∀ i, c ≤ i → i < n → la_mi c A i c = 0) : la_det n A = 0 := by
  have h1 := la_det_col_comb A c hc (la_det c A) c (Nat.le_refl c) (fun l => - la_sm c (fun k => la_adj c A l k * A k c))
  rw [la_det_col_zero _ c hc (fun a ha => ?_)] at h1
  · rcases Int.mul_eq_zero.mp h1.symm with h2 | h2
    · exact absurd h2 hp
    · exact h2
  · simp only [la_rc, if_true]
    have e : la_sm c (fun l => (- la_sm c (fun k => la_adj c A l k * A k c)) * A a l) = - la_sm c (fun l => la_sm c (fun k => A a l * la_adj c A l k * A k c)) := by
      rw [← la_sm_neg]
      refine la_sm_congr (fun l _ => ?_)
      rw [Int.neg_mul, Int.mul_comm, ← la_sm_mul]
      congr 1
      exact la_sm_congr (fun k _ => by grind)
    rw [e]
    by_cases hac : a < c
    · have e2 : la_sm c (fun l => la_sm c (fun k => A a l * la_adj c A l k * A k c)) = la_det c A * A a c := by
        rw [la_sm_swap]
        rw [la_sm_congr (g := fun k => (if a = k then la_det c A else 0) * A k c) (fun k hk => by
          rw [← la_adj_right A a k hk hac, Int.mul_comm, ← la_sm_mul]
          exact la_sm_congr (fun l _ => by grind))]
        rw [la_sm_single a hac (fun k _ hne => by rw [if_neg (Ne.symm hne)]; simp), if_pos rfl]
      rw [e2]; omega
    · have := h a (by omega) ha
      rw [la_mi_border] at this
      have e3 : A a c * la_det c A = la_det c A * A a c := Int.mul_comm _ _
      omega
theorem la_det_block2 (c : Nat) (K : Nat → Nat → Int) (h1 : ∀ b, b < c → K c b = 0) (h2 : ∀ b, b < c → K (c+1) b = 0) :
    la_det (c+1+1) K = la_det c K * (K c c * K (c+1) (c+1) - K (c+1) c * K c (c+1)) := by
  rw [la_det_border, la_det_last_row K h1]
  have hz : ∀ i, i < c → la_adj (c+1) K c i = 0 := by
    intro i hi
    unfold la_adj
    have e : la_det (c+1) (la_rr K i (la_ee c)) = la_det (c+1) (la_rr (la_rr K i (la_ee c)) c (fun b => K c c * la_ee c b)) := by
      refine la_det_congr (fun a b ha hb => ?_)
      unfold la_rr
      by_cases h : a = c
      · subst h
        rw [if_neg (show a ≠ i by omega), if_pos rfl]
        show K a b = K a a * la_ee a b
        by_cases hb' : b = a
        · subst hb'; rw [la_ee_self]; omega
        · rw [h1 b (by omega), la_ee_ne hb']; omega
      · rw [if_neg h]
    rw [e, la_det_row_smul _ _ (by omega), la_det_eq_rows _ c i (by omega) (by omega) (by omega) (fun b _ => by simp [la_rr])]
    simp
  have hc : la_adj (c+1) K c c = la_det c K := by
    unfold la_adj
    rw [la_det_last_row _ (fun b hb => by simp only [la_rr, if_true]; exact la_ee_ne (by omega))]
    have : la_rr K c (la_ee c) c c = 1 := by simp [la_rr, la_ee]
    rw [this, Int.one_mul]
    exact la_det_congr (fun a b ha _ => by unfold la_rr; rw [if_neg (by omega)])
  have e : la_sm (c+1) (fun j => la_sm (c+1) (fun i => K (c+1) j * la_adj (c+1) K j i * K i (c+1))) = K (c+1) c * la_det c K * K c (c+1) := by
    rw [la_sm_single c (by omega) (fun j hj hne => la_sm_zero (fun i hi => by rw [h2 j (by omega)]; simp))]
    rw [la_sm_single c (by omega) (fun i hi hne => by rw [hz i (by omega)]; simp), hc]
  rw [e]; grind
theorem la_sylvester (c : Nat) (A : Nat → Nat → Int) (hp : la_det c A ≠ 0) (i j : Nat) :
    la_det c A * la_mi (c+1) A i j = la_mi c A c c * la_mi c A i j - la_mi c A i c * la_mi c A c j := by
  let K : Nat → Nat → Int := fun a b => A (if a = c+1 then i else a) (if b = c+1 then j else b)
  have hK : la_mi (c+1) A i j = la_det (c+1+1) K := rfl
  have hKc : la_det c K = la_det c A := la_det_congr (fun a b ha hb => by show A _ _ = _; rw [if_neg (by omega), if_neg (by omega)])
  let y : Nat → Nat → Int := fun r k => - la_sm c (fun l => K r l * la_adj c A l k)
  let R : Nat → Nat → Int := fun r b => la_det c A * K r b + la_sm c (fun k => y r k * K k b)
  have s1 := la_det_row_comb K c (n := c+1+1) (by omega) (la_det c A) c (Nat.le_refl c) (y c)
  have s2 := la_det_row_comb (la_rr K c (R c)) (c+1) (n := c+1+1) (by omega) (la_det c A) c (by omega) (y (c+1))
  have e2 : (fun b => la_det c A * la_rr K c (R c) (c+1) b + la_sm c (fun j => y (c+1) j * la_rr K c (R c) j b)) = R (c+1) := by
    funext b
    show _ = la_det c A * K (c+1) b + la_sm c (fun k => y (c+1) k * K k b)
    congr 1
    · simp only [la_rr]; rw [if_neg (by omega)]
    · exact la_sm_congr (fun k hk => by simp only [la_rr]; rw [if_neg (by omega)])
  rw [e2] at s2
  have hR : ∀ r b, R r b = K r b * la_det c A - la_sm c (fun l => la_sm c (fun k => K r l * la_adj c A l k * K k b)) := by
    intro r b
    show la_det c A * K r b + la_sm c (fun k => (- la_sm c (fun l => K r l * la_adj c A l k)) * K k b) = _
    have : la_sm c (fun k => (- la_sm c (fun l => K r l * la_adj c A l k)) * K k b) = - la_sm c (fun l => la_sm c (fun k => K r l * la_adj c A l k * K k b)) := by
      rw [la_sm_swap, ← la_sm_neg]
      refine la_sm_congr (fun k _ => ?_)
      rw [Int.neg_mul, Int.mul_comm, ← la_sm_mul]
      congr 1
      exact la_sm_congr (fun l _ => by grind)
    rw [this, Int.mul_comm]; omega
  have hlow : ∀ r b, b < c → R r b = 0 := by
    intro r b hb
    rw [hR]
    have : la_sm c (fun l => la_sm c (fun k => K r l * la_adj c A l k * K k b)) = K r b * la_det c A := by
      rw [la_sm_congr (g := fun l => K r l * (if l = b then la_det c A else 0)) (fun l hl => by
        rw [← la_adj_left A l b hl hb, ← la_sm_mul]
        refine la_sm_congr (fun k hk => ?_)
        have : K k b = A k b := by show A _ _ = _; rw [if_neg (by omega), if_neg (by omega)]
        rw [this]; grind)]
      rw [la_sm_single b hb (fun l _ hne => by rw [if_neg hne]; simp), if_pos rfl]
    omega
  have hmi : ∀ r b : Nat, la_mi c A (if r = c+1 then i else r) (if b = c+1 then j else b) = R r b := by
    intro r b
    rw [la_mi_border, hR]
    congr 1
    refine la_sm_congr (fun l hl => la_sm_congr (fun k hk => ?_))
    show A _ l * la_adj c A l k * A k _ = A _ (if l = c+1 then j else l) * la_adj c A l k * A (if k = c+1 then i else k) _
    rw [if_neg (show l ≠ c+1 by omega), if_neg (show k ≠ c+1 by omega)]
  have s3 := la_det_block2 c (la_rr (la_rr K c (R c)) (c+1) (R (c+1))) (fun b hb => by
      simp only [la_rr]; rw [if_neg (by omega), if_pos trivial]; exact hlow c b hb) (fun b hb => by
      simp only [la_rr]; rw [if_pos trivial]; exact hlow (c+1) b hb)
  have e3 : la_det c (la_rr (la_rr K c (R c)) (c+1) (R (c+1))) = la_det c A := by
    rw [← hKc]
    exact la_det_congr (fun a b ha _ => by simp only [la_rr]; rw [if_neg (by omega), if_neg (by omega)])
  have v1 : la_rr (la_rr K c (R c)) (c+1) (R (c+1)) c = R c := by funext b; simp only [la_rr]; rw [if_neg (by omega), if_pos trivial]
  have v2 : la_rr (la_rr K c (R c)) (c+1) (R (c+1)) (c+1) = R (c+1) := by funext b; simp only [la_rr]; rw [if_pos trivial]
  rw [e3, v1, v2, s2] at s3
  have s1' : la_det (c+1+1) (la_rr K c (R c)) = la_det c A * la_det (c+1+1) K := s1
  rw [s1', ← hK] at s3
  have h00 := hmi c c
  have h01 := hmi c (c+1)
  have h10 := hmi (c+1) c
  have h11 := hmi (c+1) (c+1)
  rw [if_neg (show c ≠ c+1 by omega)] at h00 h01 h10
  rw [if_neg (show c ≠ c+1 by omega)] at h00
  rw [if_pos rfl] at h01 h10 h11
  rw [if_pos rfl] at h11
  rw [← h00, ← h01, ← h10, ← h11] at s3
  have s4 : la_det c A * (la_det c A * la_mi (c+1) A i j - (la_mi c A c c * la_mi c A i j - la_mi c A i c * la_mi c A c j)) = 0 := by grind
  rcases Int.mul_eq_zero.mp s4 with h | h
  · exact absurd h hp
  · omega
theorem la_mi_zero (A : Nat → Nat → Int) (i j : Nat) : la_mi 0 A i j = A i j := by
  unfold la_mi; rw [la_det_last_row _ (fun b hb => by omega)]; simp [la_det]
theorem la_mi_diag (c : Nat) (A : Nat → Nat → Int) : la_mi c A c c = la_det (c+1) A := by
  unfold la_mi
  exact la_det_congr (fun a b _ _ => by
    congr 1
    · split <;> simp_all
    · split <;> simp_all)
def la_sw (i m a : Nat) : Nat := if a = i then m else if a = m then i else a
def listOK (m : Int) (c : List Int) : Bool := c.all fun x => decide (-m ≤ x) && decide (x ≤ m)
theorem l04List_l0 (m : Int) (hm : 0 ≤ m) (hm1 : m ≤ 1048576) (a : Int) (l : List (List Int)) (c : List Int) (hc : c.length ≤ maxLen) : ∀ (d i : Nat), c.length - i = d → i ≤ c.length → Ev (fun k => spec_l04List.l0 k c m i a l) (listOK m (c.drop i) && ((c.length : Int) == (l.length : Int))) := by
  unfold maxLen at hc
  intro d
  induction d with
  | zero =>
    intro i hd hi
    refine Ev.step (fun k => by simp only [spec_l04List.l0]; rfl) ?_
    simp only [show ¬ ((i : Int) < (c.length : Int)) by omega, if_false, List.drop_of_length_le (show c.length ≤ i by omega), listOK, List.all_nil, Bool.true_and]
    exact Ev.now _
  | succ d ih =>
    intro i hd hi
    have hil : i < c.length := by omega
    refine Ev.step (fun k => by simp only [spec_l04List.l0]; rfl) ?_
    have hdrop : listOK m (c.drop i) = ((decide (-m ≤ c[i]) && decide (c[i] ≤ m)) && listOK m (c.drop (i + 1))) := by unfold listOK; rw [List.drop_eq_getElem_cons hil, List.all_cons]
    rw [hdrop]
    simp only [show ((i : Int) < (c.length : Int)) by omega, show (0 : Int) ≤ (i : Int) by omega, if_true, l01In_eq, Option.bind_some, rd_nat c i hil, w64 (show -9223372036854775808 ≤ (i : Int) + 1 by omega) (by omega), w64 (show -9223372036854775808 ≤ -m by omega) (by omega)]
    cases hb : (decide (-m ≤ c[i]) && decide (c[i] ≤ m)) with
    | true => simp only [if_true, Bool.true_and]; exact ih (i + 1) (by omega) (by omega)
    | false => simp only [Bool.false_eq_true, if_false, Bool.false_and]; exact Ev.now _
theorem l04List_ev (m : Int) (hm : 0 ≤ m) (hm1 : m ≤ 1048576) (a : Int) (l : List (List Int)) (c : List Int) (hc : c.length ≤ maxLen) : Ev (fun k => spec_l04List.f k a l c m) (listOK m c && ((c.length : Int) == (l.length : Int))) := by
  have h := l04List_l0 m hm hm1 a l c hc c.length 0 (by omega) (by omega)
  rw [List.drop_zero] at h
  exact h
theorem l04Signs_l0 (c : List Int) (hc : c.length ≤ maxLen) : ∀ (d i : Nat), c.length - i = d → i ≤ c.length → Ev (fun k => spec_l04Signs.l0 k c i) (if (c.drop i).all (fun x => x != 0) then 0 else 2) := by
  unfold maxLen at hc
  intro d
  induction d with
  | zero =>
    intro i hd hi
    refine Ev.step (fun k => by simp only [spec_l04Signs.l0]; rfl) ?_
    simp only [show ¬ ((i : Int) < (c.length : Int)) by omega, if_false, List.drop_of_length_le (show c.length ≤ i by omega), List.all_nil, if_true]
    exact Ev.now _
  | succ d ih =>
    intro i hd hi
    have hil : i < c.length := by omega
    refine Ev.step (fun k => by simp only [spec_l04Signs.l0]; rfl) ?_
    rw [List.drop_eq_getElem_cons hil, List.all_cons]
    simp only [show ((i : Int) < (c.length : Int)) by omega, show (0 : Int) ≤ (i : Int) by omega, if_true, rd_nat c i hil, w64 (show -9223372036854775808 ≤ (i : Int) + 1 by omega) (by omega)]
    by_cases h0 : c[i] = 0
    · simp only [h0, if_true, bne_self_eq_false, Bool.false_and, Bool.false_eq_true, if_false]; exact Ev.now _
    · simp only [h0, if_false, show (c[i] != 0) = true by simpa using h0, Bool.true_and]; exact ih (i + 1) (by omega) (by omega)
def signsOK (l : List (List Int)) (c : List Int) : Bool := decide ((c.length : Int) = (l.length : Int)) && !(c.any badSign)
theorem signsOK_eq (l : List (List Int)) (c : List Int) : signsOK l c = ((listOK 1 c && ((c.length : Int) == (l.length : Int))) && c.all (fun x => x != 0)) := by
  have h : (!(c.any badSign)) = (listOK 1 c && c.all (fun x => x != 0)) := by
    induction c with
    | nil => rfl
    | cons x xs ih =>
      rw [List.any_cons, Bool.not_or, ih]
      unfold listOK
      rw [List.all_cons, List.all_cons]
      have hx : (!badSign x) = ((decide (-1 ≤ x) && decide (x ≤ 1)) && (x != 0)) := by
        rw [Bool.eq_iff_iff]
        simp [badSign]
        omega
      rw [hx]
      generalize (decide (-1 ≤ x) && decide (x ≤ 1)) = b1
      generalize (x != 0) = b2
      generalize (xs.all fun x => decide (-1 ≤ x) && decide (x ≤ 1)) = b3
      generalize (xs.all fun x => x != 0) = b4
      cases b1 <;> cases b2 <;> cases b3 <;> cases b4 <;> rfl
  unfold signsOK
  rw [h]
  have e : ((c.length : Int) == (l.length : Int)) = decide ((c.length : Int) = (l.length : Int)) := rfl
  rw [e]
  generalize decide ((c.length : Int) = (l.length : Int)) = b1
  generalize listOK 1 c = b2
  generalize (c.all fun x => x != 0) = b3
  cases b1 <;> cases b2 <;> cases b3 <;> rfl
theorem l04Signs_ev (a : Int) (l : List (List Int)) (c : List Int) (hl : l.length ≤ maxLen) (hc : c.length ≤ maxLen) : Ev (fun k => spec_l04Signs.f k a l c) (if isG a l then if signsOK l c then 0 else 2 else 1) := by
  unfold spec_l04Signs.f
  refine Ev.bind (spec_l01Is_ev a l hl) ?_
  cases isG a l with
  | false => simp only [Bool.false_eq_true, if_false]; exact Ev.now _
  | true =>
    simp only [if_true]
    refine Ev.bind (l04List_ev 1 (by omega) (by omega) a l c hc) ?_
    rw [signsOK_eq]
    cases (listOK 1 c && ((c.length : Int) == (l.length : Int))) with
    | false => simp only [Bool.false_and, Bool.false_eq_true, if_false]; exact Ev.now _
    | true =>
      simp only [if_true, Bool.true_and]
      have h := l04Signs_l0 c hc c.length 0 (by omega) (by omega)
      rw [List.drop_zero] at h
      exact h
/-- Where the directed edge e begins, and where it ends. -/
def begAt (l : List (List Int)) (e : Nat) : Int := rd (rd_L1 l ((e / 2 : Nat) : Int)) ((e % 2 : Nat) : Int)
def endAt (l : List (List Int)) (e : Nat) : Int := rd (rd_L1 l ((e / 2 : Nat) : Int)) ((1 - e % 2 : Nat) : Int)
def two (l : List (List Int)) : Prop := ∀ x ∈ l, x.length = 2
theorem isG_two {a : Int} {l : List (List Int)} (h : isG a l = true) : two l := by
  intro x hx
  simp only [isG, Bool.and_eq_true, List.all_eq_true] at h
  have := h.2.2.2 x hx
  simp only [edgeIn, Bool.and_eq_true, decide_eq_true_eq] at this
  exact this.1
theorem isG_len {a : Int} {l : List (List Int)} (h : isG a l = true) : l.length ≤ 10 := by
  simp only [isG, Bool.and_eq_true, decide_eq_true_eq] at h
  exact h.2.2.1
theorem isG_size {a : Int} {l : List (List Int)} (h : isG a l = true) : 1 ≤ a ∧ a ≤ 8 := by
  simp only [isG, Bool.and_eq_true, decide_eq_true_eq] at h
  exact ⟨h.1, h.2.1⟩
theorem isG_edge {a : Int} {l : List (List Int)} (h : isG a l = true) {x : List Int} (hx : x ∈ l) : (0 ≤ rd x 0 ∧ rd x 0 ≤ a - 1) ∧ (0 ≤ rd x 1 ∧ rd x 1 ≤ a - 1) := by
  have hs := isG_size h
  simp only [isG, Bool.and_eq_true, List.all_eq_true] at h
  have := h.2.2.2 x hx
  simp only [edgeIn, endIn, Bool.and_eq_true, decide_eq_true_eq] at this
  rw [w64 (by omega) (by omega)] at this
  exact this.2
/-- The other direction of e's edge. -/
def opp (e : Nat) : Nat := if e % 2 = 0 then e + 1 else e - 1
/-- May f come behind e. -/
def next (l : List (List Int)) (e f : Nat) : Bool := decide (endAt l e = begAt l f) && !decide (f = opp e)
theorem square_l0 (n : Nat) (hn : n ≤ 1048576) : ∀ (d i : Nat), n - i = d → i ≤ n → Ev (fun k => impl_square.l0 k n (List.replicate i (List.replicate n 0)) n i) (List.replicate n (List.replicate n 0)) := by
  intro d
  induction d with
  | zero =>
    intro i hd hi
    obtain rfl : i = n := by omega
    refine Ev.step (fun k => by simp only [impl_square.l0]; rfl) ?_
    simp only [Int.lt_irrefl, if_false]
    exact Ev.now _
  | succ d ih =>
    intro i hd hi
    refine Ev.step (fun k => by simp only [impl_square.l0]; rfl) ?_
    simp only [show ((i : Int) < (n : Int)) by omega, show (0 : Int) ≤ (n : Int) by omega, Int.toNat_natCast, show n ≤ 35184372088832 by omega, List.length_replicate, show i < 5864062014805 by omega, if_true, w64 (show -9223372036854775808 ≤ (i : Int) + 1 by omega) (by omega)]
    have h := ih (i + 1) (by omega) (by omega)
    rw [List.replicate_succ'] at h
    exact h
theorem square_ev (n : Nat) (hn : n ≤ 1048576) : Ev (fun k => impl_square.f k n) (List.replicate n (List.replicate n 0)) := square_l0 n hn n 0 (by omega) (by omega)
theorem clone_ev (l : List Int) (h : l.length ≤ 1048576) : slices_Clone_int64_int64.f l = some l := by
  unfold slices_Clone_int64_int64.f
  rw [if_pos (by omega)]
theorem isG_small {a : Int} {l : List (List Int)} (h : isG a l = true) : l.length ≤ 1048576 ∧ ∀ x ∈ l, x.length ≤ 1048576 :=
  ⟨by have := isG_len h; omega, fun x hx => by have := isG_two h x hx; omega⟩
/-- The two ends of edge i of a graph, as numbers below n. -/
def endsIn (n : Nat) (l : List (List Int)) : Prop := ∀ i, i < l.length → (rd_L1 l (i : Int)).length = 2 ∧ ∃ u v : Nat, rd (rd_L1 l (i : Int)) 0 = u ∧ rd (rd_L1 l (i : Int)) 1 = v ∧ u < n ∧ v < n
theorem isG_ends {a : Int} {l : List (List Int)} (h : isG a l = true) : ∃ n : Nat, a = n ∧ 1 ≤ n ∧ n ≤ 8 ∧ endsIn n l := by
  have hs := isG_size h
  refine ⟨a.toNat, by omega, by omega, by omega, fun i hi => ?_⟩
  have hm : l[i] ∈ l := List.getElem_mem hi
  rw [rdL1_nat l i hi]
  have he := isG_edge h hm
  exact ⟨isG_two h _ hm, (rd l[i] 0).toNat, (rd l[i] 1).toNat, by omega, by omega, by omega, by omega⟩
/-- How often v is an end of the first i edges. -/
def degN (l : List (List Int)) : Nat → Nat → Nat
  | 0, _ => 0
  | i + 1, v => degN l i v + (if rd (rd_L1 l (i : Int)) 0 = (v : Int) then 1 else 0) + (if rd (rd_L1 l (i : Int)) 1 = (v : Int) then 1 else 0)
theorem degN_le (l : List (List Int)) (i v : Nat) : degN l i v ≤ 2 * i := by
  induction i with
  | zero => simp [degN]
  | succ i ih =>
    unfold degN
    have h1 : (if rd (rd_L1 l (i : Int)) 0 = (v : Int) then 1 else 0) ≤ 1 := by split <;> omega
    have h2 : (if rd (rd_L1 l (i : Int)) 1 = (v : Int) then 1 else 0) ≤ 1 := by split <;> omega
    omega
theorem l01Degree_l0 (a : Int) (l : List (List Int)) (hl : l.length ≤ 1048576) (h2 : two l) (v : Nat) : ∀ (d i : Nat), l.length - i = d → i ≤ l.length → Ev (fun k => spec_l01Degree.l0 k v (degN l i v : Int) i a l) (degN l l.length v : Int) := by
  intro d
  induction d with
  | zero =>
    intro i hd hi
    obtain rfl : i = l.length := by omega
    refine Ev.step (fun k => by simp only [spec_l01Degree.l0]; rfl) ?_
    simp only [Int.lt_irrefl, if_false]
    exact Ev.now _
  | succ d ih =>
    intro i hd hi
    have hil : i < l.length := by omega
    have hx : (rd_L1 l (i : Int)).length = 2 := by rw [rdL1_nat l i hil]; exact h2 _ (List.getElem_mem hil)
    have hdn := degN_le l i v
    have h := ih (i + 1) (by omega) (by omega)
    have hend : ∀ z : Nat, z ≤ 2 * i + 2 → z = degN l (i + 1) v → Ev (fun k => spec_l01Degree.l1 k v (z : Int) i 2 a l) (degN l l.length v : Int) := by
      intro z hz1 hz
      refine Ev.step (fun k => by simp only [spec_l01Degree.l1]; rfl) ?_
      simp only [Int.lt_irrefl, if_false, w64 (show -9223372036854775808 ≤ (i : Int) + 1 by omega) (by omega)]
      rw [hz]
      exact h
    have hone : ∀ z : Nat, z ≤ 2 * i + 1 → z = degN l i v + (if rd (rd_L1 l (i : Int)) 0 = (v : Int) then 1 else 0) → Ev (fun k => spec_l01Degree.l1 k v (z : Int) i 1 a l) (degN l l.length v : Int) := by
      intro z hz1 hz
      refine Ev.step (fun k => by simp only [spec_l01Degree.l1]; rfl) ?_
      simp only [show ((1 : Int) < 2) by omega, show ((0 : Int) ≤ 1) by omega, show (0 : Int) ≤ (i : Int) by omega, show ((i : Int) < (l.length : Int)) by omega, hx, show ((1 : Int) < ((2 : Nat) : Int)) by omega, if_true, w64 (show -9223372036854775808 ≤ (1 : Int) + 1 by omega) (by omega)]
      by_cases hc : rd (rd_L1 l (i : Int)) 1 = (v : Int)
      · simp only [hc, if_true, w64 (show -9223372036854775808 ≤ (z : Int) + 1 by omega) (by omega)]
        have := hend (z + 1) (by omega) (by unfold degN; rw [if_pos hc, ← hz])
        simpa using this
      · simp only [hc, if_false]
        have := hend z (by omega) (by unfold degN; rw [if_neg hc, ← hz]; rfl)
        simpa using this
    refine Ev.step (fun k => by simp only [spec_l01Degree.l0]; rfl) ?_
    simp only [show ((i : Int) < (l.length : Int)) by omega, if_true]
    refine Ev.step (fun k => by simp only [spec_l01Degree.l1]; rfl) ?_
    simp only [show ((0 : Int) < 2) by omega, show (0 : Int) ≤ (i : Int) by omega, show ((i : Int) < (l.length : Int)) by omega, hx, show ((0 : Int) ≤ 0) by omega, show ((0 : Int) < ((2 : Nat) : Int)) by omega, if_true, w64 (show -9223372036854775808 ≤ (0 : Int) + 1 by omega) (by omega)]
    by_cases hc : rd (rd_L1 l (i : Int)) 0 = (v : Int)
    · simp only [hc, if_true, w64 (show -9223372036854775808 ≤ ((degN l i v : Nat) : Int) + 1 by omega) (by omega)]
      have := hone (degN l i v + 1) (by omega) (by rw [if_pos hc])
      simpa using this
    · simp only [hc, if_false]
      have := hone (degN l i v) (by omega) (by rw [if_neg hc]; rfl)
      simpa using this
theorem l01Degree_ev (a : Int) (l : List (List Int)) (hl : l.length ≤ 1048576) (h2 : two l) (v : Nat) : Ev (fun k => spec_l01Degree.f k a l v) (degN l l.length v : Int) :=
  l01Degree_l0 a l hl h2 v l.length 0 (by omega) (by omega)
/-- The list of the degrees, of the first i edges. -/
def degL (n : Nat) (l : List (List Int)) (i : Nat) : List Int := (List.range n).map fun v => (degN l i v : Int)
theorem degL_length (n : Nat) (l : List (List Int)) (i : Nat) : (degL n l i).length = n := by simp [degL]
theorem degL_rd (n : Nat) (l : List (List Int)) (i v : Nat) (h : v < n) : rd (degL n l i) (v : Int) = (degN l i v : Int) := by
  rw [rd_nat _ _ (by rw [degL_length]; exact h)]
  simp [degL]
/-- One more at u. -/
theorem bump_rd (x : List Int) (u w : Nat) (hw : w < x.length) (y : Int) : rd (x.set u y) (w : Int) = if u = w then y else rd x (w : Int) := by
  rw [rd_nat _ _ (by rw [List.length_set]; exact hw), rd_nat _ _ hw, List.getElem_set]
theorem degL_step (n : Nat) (l : List (List Int)) (hl : l.length ≤ 1048576) (i u v : Nat) (hi : i < l.length) (hu : rd (rd_L1 l (i : Int)) 0 = u) (hv : rd (rd_L1 l (i : Int)) 1 = v) (hun : u < n) (hvn : v < n) :
    ((degL n l i).set u (wrap64 (rd (degL n l i) u + 1))).set v (wrap64 (rd ((degL n l i).set u (wrap64 (rd (degL n l i) u + 1))) v + 1)) = degL n l (i + 1) := by
  have hd := fun w => degN_le l i w
  rw [bump_rd _ _ _ (by rw [degL_length]; exact hvn), degL_rd n l i u hun, degL_rd n l i v hvn]
  have e1 : wrap64 ((degN l i u : Nat) + 1 : Int) = (degN l i u : Int) + 1 := w64 (by omega) (by have := hd u; omega)
  rw [e1]
  apply List.ext_getElem
  · simp [degL]
  · intro w h1 h2
    have hwn : w < n := by simpa [degL] using h2
    rw [List.getElem_set, List.getElem_set]
    have e2 : (degL n l i)[w]'(by rw [degL_length]; exact hwn) = (degN l i w : Int) := by simp [degL]
    have e3 : (degL n l (i + 1))[w]'h2 = (degN l (i + 1) w : Int) := by simp [degL]
    rw [e3, show degN l (i + 1) w = degN l i w + (if rd (rd_L1 l (i : Int)) 0 = (w : Int) then 1 else 0) + (if rd (rd_L1 l (i : Int)) 1 = (w : Int) then 1 else 0) from rfl, hu, hv]
    by_cases h3 : v = w
    · subst h3
      rw [if_pos rfl, if_pos rfl]
      by_cases h4 : u = v
      · subst h4
        simp only [if_true]
        rw [w64 (by omega) (by have := hd u; omega)]
        omega
      · simp only [h4, if_false, show ¬ ((u : Int) = (v : Int)) by omega]
        rw [w64 (by omega) (by have := hd v; omega)]
        omega
    · rw [if_neg h3, if_neg (show ¬ ((v : Int) = (w : Int)) by omega)]
      by_cases h4 : u = w
      · subst h4
        simp only [if_true]
        omega
      · simp only [h4, if_false, show ¬ ((u : Int) = (w : Int)) by omega, e2]
        omega
theorem degrees_l0 (n : Nat) (l : List (List Int)) (hl : l.length ≤ 1048576) (hE : endsIn n l) : ∀ (d i : Nat), l.length - i = d → i ≤ l.length → Ev (fun k => impl_Graph_degrees.l0 k (degL n l i) l (l.length : Int) i) (degL n l l.length) := by
  intro d
  induction d with
  | zero =>
    intro i hd hi
    obtain rfl : i = l.length := by omega
    refine Ev.step (fun k => by simp only [impl_Graph_degrees.l0]; rfl) ?_
    simp only [Int.lt_irrefl, if_false]
    exact Ev.now _
  | succ d ih =>
    intro i hd hi
    have hil : i < l.length := by omega
    obtain ⟨hx, u, v, hu, hv, hun, hvn⟩ := hE i hil
    have h := ih (i + 1) (by omega) (by omega)
    rw [← degL_step n l hl i u v hil hu hv hun hvn] at h
    refine Ev.step (fun k => by simp only [impl_Graph_degrees.l0]; rfl) ?_
    simp only [show ((i : Int) < (l.length : Int)) by omega, show (0 : Int) ≤ (i : Int) by omega, hx, hu, hv, degL_length, show ((0 : Int) < ((2 : Nat) : Int)) by omega, show ((1 : Int) < ((2 : Nat) : Int)) by omega, show (0 : Int) ≤ (u : Int) by omega, show (0 : Int) ≤ (v : Int) by omega, show ((u : Int) < (n : Int)) by omega, show ((v : Int) < (n : Int)) by omega, if_true, Option.bind_some, Int.toNat_natCast, w64 (show -9223372036854775808 ≤ (i : Int) + 1 by omega) (by omega)]
    exact h
theorem degrees_ev (n : Nat) (hn : n ≤ 1048576) (l : List (List Int)) (hl : l.length ≤ 1048576) (hE : endsIn n l) : Ev (fun k => impl_Graph_degrees.f k n l) (degL n l l.length) := by
  unfold impl_Graph_degrees.f
  simp only [show (0 : Int) ≤ (n : Int) by omega, Int.toNat_natCast, show n ≤ 35184372088832 by omega, if_true]
  have h := degrees_l0 n l hl hE l.length 0 (by omega) (by omega)
  have e : degL n l 0 = List.replicate n 0 := by
    apply List.ext_getElem
    · simp [degL]
    · intro w h1 h2; simp [degL, degN]
  rw [e] at h
  exact h
def sq (n : Nat) (M : List (List Int)) : Prop := M.length = n ∧ ∀ y ∈ M, y.length = n
theorem sq_row {n : Nat} {M : List (List Int)} (h : sq n M) (u : Nat) (hu : u < n) : (rd_L1 M (u : Int)).length = n := by
  rw [rdL1_nat _ _ (by rw [h.1]; exact hu)]
  exact h.2 _ (List.getElem_mem _)
def subAt (M : List (List Int)) (u v : Int) (x : Int) : List (List Int) := M.set u.toNat ((rd_L1 M u).set v.toNat (wrap64 (rd (rd_L1 M u) v - x)))
theorem sq_subAt {n : Nat} {M : List (List Int)} (h : sq n M) (u : Nat) (hu : u < n) (v x : Int) : sq n (subAt M u v x) := by
  refine ⟨by simp [subAt, h.1], fun y hy => ?_⟩
  rcases List.mem_or_eq_of_mem_set hy with hy | rfl
  · exact h.2 y hy
  · rw [List.length_set]; exact sq_row h u hu
/-- Edge i, of the sign s[i], off both places. -/
def stp (l : List (List Int)) (s : List Int) (M : List (List Int)) (i : Nat) : List (List Int) :=
  subAt (subAt M (rd (rd_L1 l (i : Int)) 0) (rd (rd_L1 l (i : Int)) 1) (rd s (i : Int))) (rd (rd_L1 l (i : Int)) 1) (rd (rd_L1 l (i : Int)) 0) (rd s (i : Int))
def walkM (l : List (List Int)) (s : List Int) : Nat → Nat → List (List Int) → List (List Int)
  | 0, _, M => M
  | d + 1, i, M => walkM l s d (i + 1) (stp l s M i)
theorem sq_stp {n : Nat} {l : List (List Int)} (hE : endsIn n l) (s : List Int) {M : List (List Int)} (h : sq n M) (i : Nat) (hi : i < l.length) : sq n (stp l s M i) := by
  obtain ⟨hx, u, v, hu, hv, hun, hvn⟩ := hE i hi
  unfold stp
  rw [hu, hv]
  exact sq_subAt (sq_subAt h u hun _ _) v hvn _ _
theorem spec_signed_l1 (n : Nat) (a : Int) (l : List (List Int)) (hl : l.length ≤ 1048576) (hE : endsIn n l) (s : List Int) (hs : s.length = l.length) : ∀ (d i : Nat) (M : List (List Int)), l.length - i = d → i ≤ l.length → sq n M → Ev (fun k => spec_l10Signed.l1 k s M i a l) (walkM l s d i M) := by
  intro d
  induction d with
  | zero =>
    intro i M hd hi hM
    obtain rfl : i = l.length := by omega
    refine Ev.step (fun k => by simp only [spec_l10Signed.l1]; rfl) ?_
    simp only [Int.lt_irrefl, if_false]
    exact Ev.now _
  | succ d ih =>
    intro i M hd hi hM
    have hil : i < l.length := by omega
    obtain ⟨hx, u, v, hu, hv, hun, hvn⟩ := hE i hil
    have h := ih (i + 1) (stp l s M i) (by omega) (by omega) (sq_stp hE s hM i hil)
    have h1 := sq_subAt hM u hun v (rd s (i : Int))
    have e1 : (rd_L1 M (u : Int)).length = n := sq_row hM u hun
    have e2 : (rd_L1 (M.set u ((rd_L1 M (u : Int)).set v (wrap64 (rd (rd_L1 M (u : Int)) (v : Int) - rd s (i : Int))))) (v : Int)).length = n := sq_row h1 v hvn
    have hst : stp l s M i = subAt (subAt M (u : Int) (v : Int) (rd s (i : Int))) (v : Int) (u : Int) (rd s (i : Int)) := by unfold stp; rw [hu, hv]
    rw [hst] at h
    rw [show walkM l s (d + 1) i M = walkM l s d (i + 1) (stp l s M i) from rfl, hst]
    refine Ev.step (fun k => by simp only [spec_l10Signed.l1]; rfl) ?_
    simp only [show ((i : Int) < (l.length : Int)) by omega, show (0 : Int) ≤ (i : Int) by omega, hx, hu, hv, hM.1, e1, hs, show ((0 : Int) < ((2 : Nat) : Int)) by omega, show ((1 : Int) < ((2 : Nat) : Int)) by omega, show (0 : Int) ≤ (u : Int) by omega, show (0 : Int) ≤ (v : Int) by omega, show ((u : Int) < (n : Int)) by omega, show ((v : Int) < (n : Int)) by omega, if_true, Option.bind_some, Int.toNat_natCast, e2, w64 (show -9223372036854775808 ≤ (i : Int) + 1 by omega) (by omega)]
    exact h
theorem impl_signed_l1 (n : Nat) (l : List (List Int)) (hl : l.length ≤ 1048576) (hE : endsIn n l) (s : List Int) (hs : s.length = l.length) : ∀ (d i : Nat) (M : List (List Int)), l.length - i = d → i ≤ l.length → sq n M → Ev (fun k => impl_Graph_signedLaplacian.l1 k s M l (l.length : Int) i) (walkM l s d i M) := by
  intro d
  induction d with
  | zero =>
    intro i M hd hi hM
    obtain rfl : i = l.length := by omega
    refine Ev.step (fun k => by simp only [impl_Graph_signedLaplacian.l1]; rfl) ?_
    simp only [Int.lt_irrefl, if_false]
    exact Ev.now _
  | succ d ih =>
    intro i M hd hi hM
    have hil : i < l.length := by omega
    obtain ⟨hx, u, v, hu, hv, hun, hvn⟩ := hE i hil
    have h := ih (i + 1) (stp l s M i) (by omega) (by omega) (sq_stp hE s hM i hil)
    have h1 := sq_subAt hM u hun v (rd s (i : Int))
    have e1 : (rd_L1 M (u : Int)).length = n := sq_row hM u hun
    have e2 : (rd_L1 (M.set u ((rd_L1 M (u : Int)).set v (wrap64 (rd (rd_L1 M (u : Int)) (v : Int) - rd s (i : Int))))) (v : Int)).length = n := sq_row h1 v hvn
    have hst : stp l s M i = subAt (subAt M (u : Int) (v : Int) (rd s (i : Int))) (v : Int) (u : Int) (rd s (i : Int)) := by unfold stp; rw [hu, hv]
    rw [hst] at h
    rw [show walkM l s (d + 1) i M = walkM l s d (i + 1) (stp l s M i) from rfl, hst]
    refine Ev.step (fun k => by simp only [impl_Graph_signedLaplacian.l1]; rfl) ?_
    simp only [show ((i : Int) < (l.length : Int)) by omega, show (0 : Int) ≤ (i : Int) by omega, hx, hu, hv, hM.1, e1, hs, show ((0 : Int) < ((2 : Nat) : Int)) by omega, show ((1 : Int) < ((2 : Nat) : Int)) by omega, show (0 : Int) ≤ (u : Int) by omega, show (0 : Int) ≤ (v : Int) by omega, show ((u : Int) < (n : Int)) by omega, show ((v : Int) < (n : Int)) by omega, if_true, Option.bind_some, Int.toNat_natCast, e2, w64 (show -9223372036854775808 ≤ (i : Int) + 1 by omega) (by omega)]
    exact h
/-- The degrees on the diagonal of the first v rows; zeros else. -/
def diagM (n : Nat) (l : List (List Int)) (v : Nat) : List (List Int) := (List.range n).map fun i => if i < v then (List.replicate n 0).set i (degN l l.length i : Int) else List.replicate n 0
theorem diagM_length (n : Nat) (l : List (List Int)) (v : Nat) : (diagM n l v).length = n := by simp [diagM]
theorem diagM_sq (n : Nat) (l : List (List Int)) (v : Nat) : sq n (diagM n l v) := by
  refine ⟨diagM_length n l v, fun y hy => ?_⟩
  obtain ⟨i, _, rfl⟩ := List.mem_map.1 hy
  split <;> simp
theorem diagM_row (n : Nat) (l : List (List Int)) (v : Nat) (hv : v < n) : rd_L1 (diagM n l v) (v : Int) = List.replicate n 0 := by
  rw [rdL1_nat _ _ (by rw [diagM_length]; exact hv)]
  simp [diagM]
theorem diagM_step (n : Nat) (l : List (List Int)) (v : Nat) (hv : v < n) : (diagM n l v).set v ((List.replicate n 0).set v (degN l l.length v : Int)) = diagM n l (v + 1) := by
  apply List.ext_getElem
  · simp [diagM]
  · intro i h1 h2
    rw [List.getElem_set]
    simp only [diagM, List.getElem_map, List.getElem_range]
    by_cases h3 : v = i
    · subst h3; rw [if_pos rfl, if_pos (by omega)]
    · rw [if_neg h3]
      by_cases h4 : i < v
      · rw [if_pos h4, if_pos (by omega)]
      · rw [if_neg h4, if_neg (by omega)]
theorem diagM_take (n : Nat) (l : List (List Int)) (v : Nat) (hv : v < n) : (diagM n l n).take (v + 1) = (diagM n l n).take v ++ [(List.replicate n 0).set v (degN l l.length v : Int)] := by
  rw [List.take_succ_eq_append_getElem (by rw [diagM_length]; exact hv)]
  simp [diagM, hv]
def signedM (n : Nat) (l : List (List Int)) (s : List Int) : List (List Int) := walkM l s l.length 0 (diagM n l n)
theorem spec_signed_l0 (n : Nat) (hn : n ≤ 8) (l : List (List Int)) (hl : l.length ≤ 1048576) (h2 : two l) (hE : endsIn n l) (s : List Int) (hs : s.length = l.length) : ∀ (d v : Nat), n - v = d → v ≤ n → Ev (fun k => spec_l10Signed.l0 k s ((diagM n l n).take v) v n l) (signedM n l s) := by
  intro d
  induction d with
  | zero =>
    intro v hd hv
    obtain rfl : v = n := by omega
    refine Ev.step (fun k => by simp only [spec_l10Signed.l0]; rfl) ?_
    simp only [Int.lt_irrefl, if_false]
    rw [List.take_of_length_le (by rw [diagM_length]; omega)]
    exact spec_signed_l1 v v l hl hE s hs l.length 0 _ (by omega) (by omega) (diagM_sq v l v)
  | succ d ih =>
    intro v hd hv
    have hvn : v < n := by omega
    have h := ih (v + 1) (by omega) (by omega)
    rw [diagM_take n l v hvn] at h
    refine Ev.step (fun k => by simp only [spec_l10Signed.l0]; rfl) ?_
    simp only [show ((v : Int) < (n : Int)) by omega, show (0 : Int) ≤ (n : Int) by omega, Int.toNat_natCast, show n ≤ 35184372088832 by omega, if_true, Option.bind_some]
    refine Ev.bind (l01Degree_ev n l hl h2 v) ?_
    simp only [show (0 : Int) ≤ (v : Int) by omega, List.length_replicate, show ((v : Int) < (n : Int)) by omega, if_true, Int.toNat_natCast, show ((diagM n l n).take v).length < 5864062014805 by (rw [List.length_take]; omega), w64 (show -9223372036854775808 ≤ (v : Int) + 1 by omega) (by omega)]
    exact h
theorem l10Signed_ev (n : Nat) (hn : n ≤ 8) (l : List (List Int)) (hl : l.length ≤ 1048576) (h2 : two l) (hE : endsIn n l) (s : List Int) (hs : s.length = l.length) : Ev (fun k => spec_l10Signed.f k n l s) (signedM n l s) :=
  spec_signed_l0 n hn l hl h2 hE s hs n 0 (by omega) (by omega)
theorem impl_signed_l0 (n : Nat) (hn : n ≤ 8) (a : Int) (l : List (List Int)) (hl : l.length ≤ 1048576) (hE : endsIn n l) (s : List Int) (hs : s.length = l.length) : ∀ (d v : Nat), n - v = d → v ≤ n → Ev (fun k => impl_Graph_signedLaplacian.l0 k s (diagM n l v) (degL n l l.length) (n : Int) v a l) (signedM n l s) := by
  intro d
  induction d with
  | zero =>
    intro v hd hv
    obtain rfl : v = n := by omega
    refine Ev.step (fun k => by simp only [impl_Graph_signedLaplacian.l0]; rfl) ?_
    simp only [Int.lt_irrefl, if_false]
    exact impl_signed_l1 v l hl hE s hs l.length 0 _ (by omega) (by omega) (diagM_sq v l v)
  | succ d ih =>
    intro v hd hv
    have hvn : v < n := by omega
    have h := ih (v + 1) (by omega) (by omega)
    rw [← diagM_step n l v hvn] at h
    refine Ev.step (fun k => by simp only [impl_Graph_signedLaplacian.l0]; rfl) ?_
    simp only [show ((v : Int) < (n : Int)) by omega, show (0 : Int) ≤ (v : Int) by omega, degL_length, diagM_length, diagM_row n l v hvn, List.length_replicate, degL_rd n l _ v hvn, Int.toNat_natCast, if_true, w64 (show -9223372036854775808 ≤ (v : Int) + 1 by omega) (by omega)]
    exact h
theorem signedLaplacian_ev (n : Nat) (hn : n ≤ 8) (l : List (List Int)) (hl : l.length ≤ 1048576) (hE : endsIn n l) (s : List Int) (hs : s.length = l.length) : Ev (fun k => impl_Graph_signedLaplacian.f k n l s) (signedM n l s) := by
  unfold impl_Graph_signedLaplacian.f
  refine Ev.bind (square_ev n (by omega)) ?_
  refine Ev.bind (degrees_ev n (by omega) l hl hE) ?_
  have h := impl_signed_l0 n hn n l hl hE s hs n 0 (by omega) (by omega)
  have e : diagM n l 0 = List.replicate n (List.replicate n 0) := by
    apply List.ext_getElem
    · simp [diagM]
    · intro i h1 h2; simp [diagM]
  rw [e] at h
  simp only [degL_length]
  exact h
theorem signsOK_len {l : List (List Int)} {s : List Int} (h : signsOK l s = true) : s.length = l.length := by
  simp only [signsOK, Bool.and_eq_true, decide_eq_true_eq] at h
  omega
/-- Of a graph and signs: the code. -/
def signCode (a : Int) (l : List (List Int)) (s : List Int) : Int := if isG a l then if signsOK l s then 0 else 2 else 1
theorem signCode_zero {a : Int} {l : List (List Int)} {s : List Int} (h : signCode a l s = 0) : isG a l = true ∧ signsOK l s = true := by
  unfold signCode at h
  cases h1 : isG a l <;> cases h2 : signsOK l s <;> simp [h1, h2] at h ⊢
/-- A row and a square of numbers, by their places. -/
def vrow (n : Nat) (g : Nat → Int) : List Int := (List.range n).map g
def vmat (n : Nat) (f : Nat → Nat → Int) : List (List Int) := (List.range n).map fun i => vrow n (f i)
theorem vrow_length (n : Nat) (g : Nat → Int) : (vrow n g).length = n := by simp [vrow]
theorem vmat_length (n : Nat) (f : Nat → Nat → Int) : (vmat n f).length = n := by simp [vmat]
theorem vrow_rd {n : Nat} {g : Nat → Int} {v : Nat} (h : v < n) : rd (vrow n g) (v : Int) = g v := by
  rw [rd_nat _ _ (by rw [vrow_length]; exact h)]
  simp [vrow]
theorem vmat_row {n : Nat} {f : Nat → Nat → Int} {u : Nat} (h : u < n) : rd_L1 (vmat n f) (u : Int) = vrow n (f u) := by
  rw [rdL1_nat _ _ (by rw [vmat_length]; exact h)]
  simp [vmat]
theorem vrow_congr {n : Nat} {g h : Nat → Int} (e : ∀ j, j < n → g j = h j) : vrow n g = vrow n h := by
  unfold vrow
  apply List.map_congr_left
  intro j hj
  exact e j (List.mem_range.mp hj)
theorem vmat_congr {n : Nat} {f h : Nat → Nat → Int} (e : ∀ i j, i < n → j < n → f i j = h i j) : vmat n f = vmat n h := by
  unfold vmat
  apply List.map_congr_left
  intro i hi
  exact vrow_congr fun j hj => e i j (List.mem_range.mp hi) hj
theorem vrow_set {n : Nat} (g : Nat → Int) (v : Nat) (x : Int) : (vrow n g).set v x = vrow n (fun j => if j = v then x else g j) := by
  apply List.ext_getElem
  · rw [List.length_set, vrow_length, vrow_length]
  intro j h1 h2
  rw [List.getElem_set]
  simp only [vrow, List.getElem_map, List.getElem_range]
  by_cases h : v = j
  · subst h; simp
  · rw [if_neg h, if_neg (fun e => h e.symm)]
theorem vmat_set {n : Nat} (f : Nat → Nat → Int) (u : Nat) (g : Nat → Int) : (vmat n f).set u (vrow n g) = vmat n (fun i j => if i = u then g j else f i j) := by
  apply List.ext_getElem
  · rw [List.length_set, vmat_length, vmat_length]
  intro i h1 h2
  rw [List.getElem_set]
  simp only [vmat, List.getElem_map, List.getElem_range]
  by_cases h : u = i
  · subst h; simp
  · rw [if_neg h]; exact vrow_congr fun j _ => by rw [if_neg (fun e => h e.symm)]
/-- One place written. -/
theorem vmat_upd {n : Nat} (f : Nat → Nat → Int) (u : Nat) (hu : u < n) (v : Nat) (x : Int) : (vmat n f).set u ((rd_L1 (vmat n f) (u : Int)).set v x) = vmat n (fun i j => if i = u ∧ j = v then x else f i j) := by
  rw [vmat_row hu, vrow_set, vmat_set]
  refine vmat_congr fun i j _ _ => ?_
  by_cases h : i = u
  · subst h; simp
  · simp [h]
def cgM (x y : Int) : Prop := (18446744073709551616 : Int) ∣ x - y
theorem cg_refl (x : Int) : cgM x x := ⟨0, by omega⟩
theorem cg_symm {x y : Int} (h : cgM x y) : cgM y x := by
  obtain ⟨q, h⟩ := h
  exact ⟨-q, by omega⟩
theorem cg_trans {x y z : Int} (h : cgM x y) (h2 : cgM y z) : cgM x z := by
  obtain ⟨q, h⟩ := h
  obtain ⟨r, h2⟩ := h2
  exact ⟨q + r, by omega⟩
theorem cg_wrap (x : Int) : cgM (wrap64 x) x := by
  unfold cgM wrap64
  exact ⟨-((x + 9223372036854775808) / 18446744073709551616), by omega⟩
theorem cg_add {x y z w : Int} (h : cgM x y) (h2 : cgM z w) : cgM (x + z) (y + w) := by
  obtain ⟨q, h⟩ := h
  obtain ⟨r, h2⟩ := h2
  exact ⟨q + r, by omega⟩
theorem cg_neg {x y : Int} (h : cgM x y) : cgM (-x) (-y) := by
  obtain ⟨q, h⟩ := h
  exact ⟨-q, by omega⟩
theorem cg_mul {x y z w : Int} (h : cgM x y) (h2 : cgM z w) : cgM (x * z) (y * w) := la_mul_dvd_sub h h2
theorem cg_sm {n : Nat} {f g : Nat → Int} (h : ∀ i, i < n → cgM (f i) (g i)) : cgM (la_sm n f) (la_sm n g) := la_sm_dvd h
theorem wrap_range (x : Int) : -9223372036854775808 ≤ wrap64 x ∧ wrap64 x ≤ 9223372036854775807 := by unfold wrap64; omega
theorem cg_eq {x y : Int} (h : cgM x y) (hx : -9223372036854775808 ≤ x ∧ x ≤ 9223372036854775807) (hy : -9223372036854775808 ≤ y ∧ y ≤ 9223372036854775807) : x = y := by
  obtain ⟨q, h⟩ := h
  omega
theorem wrap_of_cg {x y : Int} (h : cgM x y) (hy : -9223372036854775808 ≤ y ∧ y ≤ 9223372036854775807) : wrap64 x = y := cg_eq (cg_trans (cg_wrap x) h) (wrap_range x) hy
/-- A list without zeros at its end. -/
def trimN (l : List Int) : Nat → List Int
  | 0 => []
  | n + 1 => if rd l n = 0 then trimN l n else l.take (n + 1)
theorem trimN_length (l : List Int) (n : Nat) : (trimN l n).length ≤ n := by
  induction n with
  | zero => simp [trimN]
  | succ n ih =>
    unfold trimN; split
    · omega
    · rw [List.length_take]; omega
theorem trimN_rd (l : List Int) (n : Nat) : ∀ i : Nat, rd (trimN l n) i = if i < n then rd l i else 0 := by
  induction n with
  | zero => intro i; simp [trimN, rd]
  | succ n ih =>
    intro i
    unfold trimN
    split
    · case _ h =>
      rw [ih]
      by_cases h1 : i < n
      · rw [if_pos h1, if_pos (by omega)]
      · rw [if_neg h1]
        by_cases h2 : i = n
        · subst h2; rw [if_pos (by omega), h]
        · rw [if_neg (by omega)]
    · unfold rd
      simp only [Int.toNat_natCast, List.getD_eq_getElem?_getD, List.getElem?_take]
      split <;> simp_all
theorem vrow_snoc (n : Nat) (g : Nat → Int) : vrow n g ++ [g n] = vrow (n + 1) g := by
  unfold vrow; rw [List.range_succ, List.map_append]; rfl
theorem spec_l01Own_ev (l : List Int) (h : l.length ≤ 1048576) : spec_l01Own.f l = some l := by
  unfold spec_l01Own.f
  simp only [Option.bind_some, List.length_nil, List.nil_append, show 0 + l.length < 17592186044416 by omega, if_true]
theorem l01Trim_l0 (l : List Int) (hl : l.length ≤ 1048576) : ∀ n : Nat, n ≤ l.length → Ev (fun q => spec_l01Trim.l0 q l n) (trimN l n) := by
  intro n
  induction n with
  | zero =>
    intro _
    refine Ev.step (fun q => by simp only [spec_l01Trim.l0]; rfl) ?_
    simp only [show ¬ (((0 : Nat) : Int) > 0) by omega, if_false, show (0 : Int) ≤ ((0 : Nat) : Int) by omega, show ((0 : Nat) : Int) ≤ (l.length : Int) by omega, if_true, Int.toNat_natCast, List.take_zero, spec_l01Own_ev [] (by simp), Option.bind_some, trimN]
    exact Ev.now _
  | succ n ih =>
    intro hn
    refine Ev.step (fun q => by simp only [spec_l01Trim.l0]; rfl) ?_
    simp only [show ((n + 1 : Nat) : Int) > 0 by omega, show ((n + 1 : Nat) : Int) - 1 = n by omega, w64 (show -9223372036854775808 ≤ (n : Int) by omega) (by omega), show (0 : Int) ≤ (n : Int) by omega, show (n : Int) < (l.length : Int) by omega, show (0 : Int) ≤ ((n + 1 : Nat) : Int) by omega, show ((n + 1 : Nat) : Int) ≤ (l.length : Int) by omega, if_true, Int.toNat_natCast]
    rw [show trimN l (n + 1) = if rd l n = 0 then trimN l n else l.take (n + 1) from rfl]
    by_cases h : rd l n = 0
    · simp only [h, if_true]
      exact ih (by omega)
    · simp only [h, if_false, spec_l01Own_ev (l.take (n + 1)) (by rw [List.length_take]; omega), Option.bind_some]
      exact Ev.now _
theorem l01Trim_ev (l : List Int) (hl : l.length ≤ 1048576) : Ev (fun q => spec_l01Trim.f q l) (trimN l l.length) := l01Trim_l0 l hl l.length (Nat.le_refl _)
theorem berk_l4 (n : Nat) (hn : n ≤ 1048575) (A : Nat → Nat → Int) (x3 x5 x10 : List Int) (C : Nat → Int) (x8 x9 : Int) (r i : Nat) (hr : r < n) (hi : i < r) (h10 : x10.length = i) (R : List Int)
    (next : ∀ v, cgM v (la_sm r (fun j => A i j * C j)) → Ev (fun k => spec_l01Berkowitz.l3 k (vmat n A) x3 r x5 (vrow r C) x8 x9 (x10 ++ [v]) ((i : Int) + 1)) R) :
    ∀ (d j : Nat), r - j = d → j ≤ r → ∀ v, cgM v (la_sm j (fun j => A i j * C j)) → Ev (fun k => spec_l01Berkowitz.l4 k (vmat n A) x3 r x5 (vrow r C) x8 x9 x10 i v j) R := by
  intro d
  induction d with
  | zero =>
    intro j hd hj v hv
    obtain rfl : j = r := by omega
    refine Ev.step (fun q => by simp only [spec_l01Berkowitz.l4]; rfl) ?_
    simp only [Int.lt_irrefl, if_false, h10, show i < 17592186044416 by omega, if_true, w64 (show -9223372036854775808 ≤ (i : Int) + 1 by omega) (by omega)]
    exact next v hv
  | succ d ih =>
    intro j hd hj v hv
    have hjr : j < r := by omega
    refine Ev.step (fun q => by simp only [spec_l01Berkowitz.l4]; rfl) ?_
    simp only [show ((j : Int) < (r : Int)) by omega, show (0 : Int) ≤ (j : Int) by omega, show (0 : Int) ≤ (i : Int) by omega, vmat_length, show ((i : Int) < (n : Int)) by omega, if_true, vmat_row (show i < n by omega), vrow_length, show ((j : Int) < (n : Int)) by omega, vrow_rd (show j < n by omega), vrow_rd hjr, w64 (show -9223372036854775808 ≤ (j : Int) + 1 by omega) (by omega)]
    have h := ih (j + 1) (by omega) (by omega) (wrap64 (v + wrap64 (A i j * C j))) (cg_trans (cg_wrap _) (cg_add hv (cg_wrap _)))
    rw [show ((j + 1 : Nat) : Int) = (j : Int) + 1 by omega] at h
    exact h
theorem berk_l3 (n : Nat) (hn : n ≤ 1048575) (A : Nat → Nat → Int) (x3 x5 : List Int) (C : Nat → Int) (x8 : Int) (r : Nat) (hr : r < n) (h5 : x5.length < 17592186044416) (R : List Int)
    (next : ∀ (v : Int) (C' : Nat → Int), cgM v (la_sm r (fun j => A r j * C j)) → (∀ i, i < r → cgM (C' i) (la_sm r (fun j => A i j * C j))) → Ev (fun k => spec_l01Berkowitz.l2 k (vmat n A) x3 r (x5 ++ [wrap64 (-v)]) (vrow r C') (wrap64 (x8 + 1))) R) :
    ∀ (d i : Nat), r - i = d → i ≤ r → ∀ (v : Int) (C' : Nat → Int), cgM v (la_sm i (fun j => A r j * C j)) → (∀ l, l < i → cgM (C' l) (la_sm r (fun j => A l j * C j))) → Ev (fun k => spec_l01Berkowitz.l3 k (vmat n A) x3 r x5 (vrow r C) x8 v (vrow i C') i) R := by
  intro d
  induction d with
  | zero =>
    intro i hd hi v C' hv hC
    obtain rfl : i = r := by omega
    refine Ev.step (fun q => by simp only [spec_l01Berkowitz.l3]; rfl) ?_
    simp only [Int.lt_irrefl, if_false, h5, if_true]
    exact next v C' hv hC
  | succ d ih =>
    intro i hd hi v C' hv hC
    have hir : i < r := by omega
    refine Ev.step (fun q => by simp only [spec_l01Berkowitz.l3]; rfl) ?_
    simp only [show ((i : Int) < (r : Int)) by omega, show (0 : Int) ≤ (i : Int) by omega, show (0 : Int) ≤ (r : Int) by omega, vmat_length, show ((r : Int) < (n : Int)) by omega, if_true, vmat_row hr, vrow_length, show ((i : Int) < (n : Int)) by omega, vrow_rd (show i < n by omega), vrow_rd hir]
    refine berk_l4 n hn A x3 x5 (vrow i C') C x8 _ r i hr hir (vrow_length _ _) R (fun w hw => ?_) r 0 (by omega) (by omega) 0 (cg_refl _)
    have h := ih (i + 1) (by omega) (by omega) (wrap64 (v + wrap64 (A r i * C i))) (fun l => if l < i then C' l else w) (cg_trans (cg_wrap _) (cg_add hv (cg_wrap _))) (fun l hl => by
      by_cases e : l < i
      · simp only [if_pos e]; exact hC l e
      · simp only [if_neg e]
        obtain rfl : l = i := by omega
        exact hw)
    refine Ev.congr (fun q => ?_) h
    rw [show ((i + 1 : Nat) : Int) = (i : Int) + 1 by omega, ← vrow_snoc]
    rw [if_neg (Nat.lt_irrefl i)]
    congr 2
    exact vrow_congr fun j hj => by rw [if_pos hj]
theorem berk_l2 (n : Nat) (hn : n ≤ 1048575) (A : Nat → Nat → Int) (x3 : List Int) (r : Nat) (hr : r < n) (R : List Int)
    (next : ∀ T : Nat → Int, (∀ j, j < r + 2 → cgM (T j) (la_turnB r A j)) → Ev (fun k => spec_l01Berkowitz.l5 k (vmat n A) x3 r (vrow (r + 2) T) (vrow (r + 2) (fun _ => 0)) 0) R) :
    ∀ (d k : Nat), r - k = d → k ≤ r → ∀ (T C : Nat → Int), (∀ j, j < k + 2 → cgM (T j) (la_turnB r A j)) → (∀ i, i < r → cgM (C i) (la_colp r A (fun i => A i r) k i)) → Ev (fun q => spec_l01Berkowitz.l2 q (vmat n A) x3 r (vrow (k + 2) T) (vrow r C) k) R := by
  intro d
  induction d with
  | zero =>
    intro k hd hk T C hT hC
    obtain rfl : k = r := by omega
    refine Ev.step (fun q => by simp only [spec_l01Berkowitz.l2]; rfl) ?_
    simp only [Int.lt_irrefl, if_false, w64 (show -9223372036854775808 ≤ (k : Int) + 2 by omega) (by omega), show (0 : Int) ≤ (k : Int) + 2 by omega, show ((k : Int) + 2).toNat = k + 2 by omega, show k + 2 ≤ 35184372088832 by omega, if_true]
    rw [show List.replicate (k + 2) (0 : Int) = vrow (k + 2) (fun _ => 0) by
      apply List.ext_getElem
      · simp [vrow]
      · intro i _ _; simp [vrow]]
    exact next T hT
  | succ d ih =>
    intro k hd hk T C hT hC
    have hkr : k < r := by omega
    refine Ev.step (fun q => by simp only [spec_l01Berkowitz.l2]; rfl) ?_
    simp only [show ((k : Int) < (r : Int)) by omega, if_true]
    have h := berk_l3 n hn A x3 (vrow (k + 2) T) C k r hr (by rw [vrow_length]; omega) R (fun v C' hv hC' => ?_) r 0 (by omega) (by omega) 0 (fun _ => 0) (cg_refl _) (fun l hl => by omega)
    · exact h
    · have h := ih (k + 1) (by omega) (by omega) (fun j => if j < k + 2 then T j else wrap64 (-v)) C' (fun j hj => by
        by_cases e : j < k + 2
        · simp only [if_pos e]; exact hT j e
        · simp only [if_neg e]
          obtain rfl : j = k + 2 := by omega
          show cgM _ (-la_sm r (fun i => A r i * la_colp r A (fun i => A i r) k i))
          exact cg_trans (cg_wrap _) (cg_neg (cg_trans hv (cg_sm (fun i hi => cg_mul (cg_refl _) (hC i hi)))))) (fun i hi => by
        show cgM _ (la_sm r (fun j => A i j * la_colp r A (fun i => A i r) k j))
        exact cg_trans (hC' i hi) (cg_sm (fun j hj => cg_mul (cg_refl _) (hC j hj))))
      refine Ev.congr (fun q => ?_) h
      rw [w64 (show -9223372036854775808 ≤ (k : Int) + 1 by omega) (by omega), show ((k + 1 : Nat) : Int) = (k : Int) + 1 by omega, show k + 1 + 2 = (k + 2) + 1 by omega, ← vrow_snoc (k + 2) (fun j => if j < k + 2 then T j else wrap64 (-v))]
      simp only [if_neg (Nat.lt_irrefl (k + 2))]
      congr 2
      exact vrow_congr fun j hj => by rw [if_pos hj]
theorem berk_l1 (n : Nat) (hn : n ≤ 1048575) (A : Nat → Nat → Int) (x3 x5 : List Int) (r : Nat) (hr : r < n) (R : List Int)
    (next : Ev (fun k => spec_l01Berkowitz.l2 k (vmat n A) x3 r x5 (vrow r (fun i => A i r)) 0) R) :
    ∀ (d i : Nat), r - i = d → i ≤ r → Ev (fun k => spec_l01Berkowitz.l1 k (vmat n A) x3 r x5 (vrow i (fun i => A i r)) i) R := by
  intro d
  induction d with
  | zero =>
    intro i hd hi
    obtain rfl : i = r := by omega
    refine Ev.step (fun q => by simp only [spec_l01Berkowitz.l1]; rfl) ?_
    simp only [Int.lt_irrefl, if_false]
    exact next
  | succ d ih =>
    intro i hd hi
    have hir : i < r := by omega
    refine Ev.step (fun q => by simp only [spec_l01Berkowitz.l1]; rfl) ?_
    simp only [show ((i : Int) < (r : Int)) by omega, show (0 : Int) ≤ (i : Int) by omega, show (0 : Int) ≤ (r : Int) by omega, vmat_length, show ((i : Int) < (n : Int)) by omega, show ((r : Int) < (n : Int)) by omega, if_true, vmat_row (show i < n by omega), vrow_length, show i < 17592186044416 by omega, vrow_rd hr, w64 (show -9223372036854775808 ≤ (i : Int) + 1 by omega) (by omega)]
    have h := ih (i + 1) (by omega) (by omega)
    rw [show ((i + 1 : Nat) : Int) = (i : Int) + 1 by omega, ← vrow_snoc] at h
    exact h
def btS (r : Nat) (A : Nat → Nat → Int) (m : Nat) (j : Nat) : Int := la_sm j (fun l => la_turnB r A (m - l) * la_cp r A l)
theorem berk_l6 (n : Nat) (hn : n ≤ 1048575) (A : Nat → Nat → Int) (r i : Nat) (hr : r < n) (hi : i < r + 2) (c T : Nat → Int) (hT : ∀ j, j < r + 2 → cgM (T j) (la_turnB r A j)) (hc : ∀ l, l ≤ r → cgM (c l) (la_cp r A l)) (R : List Int)
    (next : ∀ M : Nat → Int, (∀ m, m ≤ i → cgM (M m) (la_cp (r + 1) A m)) → (∀ m, i < m → M m = 0) → (∀ m, -9223372036854775808 ≤ M m ∧ M m ≤ 9223372036854775807) → Ev (fun k => spec_l01Berkowitz.l5 k (vmat n A) (vrow (r + 1) c) r (vrow (r + 2) T) (vrow (r + 2) M) ((i : Int) + 1)) R) :
    ∀ (d j : Nat), r + 1 - j = d → j ≤ i + 1 → j ≤ r + 1 → ∀ M : Nat → Int, (∀ m, m < i → cgM (M m) (la_cp (r + 1) A m)) → cgM (M i) (btS r A i j) → (∀ m, i < m → M m = 0) → (∀ m, -9223372036854775808 ≤ M m ∧ M m ≤ 9223372036854775807) → Ev (fun k => spec_l01Berkowitz.l6 k (vmat n A) (vrow (r + 1) c) r (vrow (r + 2) T) (vrow (r + 2) M) i j) R := by
  have fin : ∀ j, j ≤ i + 1 → (j = i + 1 ∨ j = r + 1) → btS r A i j = la_cp (r + 1) A i := by
    intro j hj1 hj
    rw [la_cp_berkowitz r A i (by omega)]
    rcases hj with rfl | rfl
    · rfl
    · unfold btS
      refine (la_sm_ext (by omega) (fun l h1 h2 => ?_)).symm
      rw [show la_cp r A l = 0 from la_dc_top _ _ l (by omega)]; simp
  have nx : ∀ j, j ≤ i + 1 → (j = i + 1 ∨ j = r + 1) → ∀ M : Nat → Int, (∀ m, m < i → cgM (M m) (la_cp (r + 1) A m)) → cgM (M i) (btS r A i j) → (∀ m, i < m → M m = 0) → (∀ m, -9223372036854775808 ≤ M m ∧ M m ≤ 9223372036854775807) → Ev (fun k => spec_l01Berkowitz.l5 k (vmat n A) (vrow (r + 1) c) r (vrow (r + 2) T) (vrow (r + 2) M) ((i : Int) + 1)) R := by
    intro j hj1 hj M h1 h2 h3 h4
    refine next M (fun m hm => ?_) h3 h4
    by_cases e : m = i
    · subst e; rw [← fin j hj1 hj]; exact h2
    · exact h1 m (by omega)
  intro d
  induction d with
  | zero =>
    intro j hd hj1 hj2 M h1 h2 h3 h4
    obtain rfl : j = r + 1 := by omega
    refine Ev.step (fun q => by simp only [spec_l01Berkowitz.l6]; rfl) ?_
    simp only [vrow_length, Int.lt_irrefl, if_false, w64 (show -9223372036854775808 ≤ (i : Int) + 1 by omega) (by omega)]
    exact nx _ hj1 (Or.inr rfl) M h1 h2 h3 h4
  | succ d ih =>
    intro j hd hj1 hj2 M h1 h2 h3 h4
    have hjr : j < r + 1 := by omega
    refine Ev.step (fun q => by simp only [spec_l01Berkowitz.l6]; rfl) ?_
    by_cases hji : j ≤ i
    · simp only [vrow_length, show ((j : Int) < ((r + 1 : Nat) : Int)) by omega, show ((j : Int) ≤ (i : Int)) by omega, show (0 : Int) ≤ (i : Int) by omega, show ((i : Int) < ((r + 2 : Nat) : Int)) by omega, show (0 : Int) ≤ (j : Int) by omega, if_true, show (i : Int) - (j : Int) = ((i - j : Nat) : Int) by omega, w64 (show -9223372036854775808 ≤ ((i - j : Nat) : Int) by omega) (by omega), show (0 : Int) ≤ ((i - j : Nat) : Int) by omega, show ((i - j : Nat) : Int) < ((r + 2 : Nat) : Int) by omega, vrow_rd hi, vrow_rd hjr, vrow_rd (show i - j < r + 2 by omega), Int.toNat_natCast, w64 (show -9223372036854775808 ≤ (j : Int) + 1 by omega) (by omega)]
      rw [vrow_set]
      have h := ih (j + 1) (by omega) (by omega) (by omega) (fun m => if m = i then wrap64 (M i + wrap64 (T (i - j) * c j)) else M m) (fun m hm => by simp only [if_neg (show m ≠ i by omega)]; exact h1 m hm) (by
        simp only [if_true]
        show cgM _ (btS r A i j + la_turnB r A (i - j) * la_cp r A j)
        exact cg_trans (cg_wrap _) (cg_add h2 (cg_trans (cg_wrap _) (cg_mul (hT _ (by omega)) (hc _ (by omega)))))) (fun m hm => by simp only [if_neg (show m ≠ i by omega)]; exact h3 m hm) (fun m => by
        by_cases e : m = i
        · simp only [if_pos e]; exact wrap_range _
        · simp only [if_neg e]; exact h4 m)
      rw [show ((j + 1 : Nat) : Int) = (j : Int) + 1 by omega] at h
      exact h
    · simp only [vrow_length, show ((j : Int) < ((r + 1 : Nat) : Int)) by omega, show ¬ ((j : Int) ≤ (i : Int)) by omega, if_true, if_false, w64 (show -9223372036854775808 ≤ (i : Int) + 1 by omega) (by omega)]
      exact nx j hj1 (Or.inl (by omega)) M h1 h2 h3 h4
theorem berk_l5 (n : Nat) (hn : n ≤ 1048575) (A : Nat → Nat → Int) (r : Nat) (hr : r < n) (c T : Nat → Int) (hT : ∀ j, j < r + 2 → cgM (T j) (la_turnB r A j)) (hc : ∀ l, l ≤ r → cgM (c l) (la_cp r A l)) (R : List Int)
    (next : ∀ M : Nat → Int, (∀ m, m ≤ r + 1 → cgM (M m) (la_cp (r + 1) A m)) → (∀ m, -9223372036854775808 ≤ M m ∧ M m ≤ 9223372036854775807) → Ev (fun k => spec_l01Berkowitz.l0 k (vmat n A) (vrow (r + 2) M) ((r : Int) + 1)) R) :
    ∀ (d i : Nat), r + 2 - i = d → i ≤ r + 2 → ∀ M : Nat → Int, (∀ m, m < i → cgM (M m) (la_cp (r + 1) A m)) → (∀ m, i ≤ m → M m = 0) → (∀ m, -9223372036854775808 ≤ M m ∧ M m ≤ 9223372036854775807) → Ev (fun k => spec_l01Berkowitz.l5 k (vmat n A) (vrow (r + 1) c) r (vrow (r + 2) T) (vrow (r + 2) M) i) R := by
  intro d
  induction d with
  | zero =>
    intro i hd hi M h1 h3 h4
    obtain rfl : i = r + 2 := by omega
    refine Ev.step (fun q => by simp only [spec_l01Berkowitz.l5]; rfl) ?_
    simp only [vrow_length, Int.lt_irrefl, if_false, w64 (show -9223372036854775808 ≤ (r : Int) + 1 by omega) (by omega)]
    exact next M (fun m hm => h1 m (by omega)) h4
  | succ d ih =>
    intro i hd hi M h1 h3 h4
    have hir : i < r + 2 := by omega
    refine Ev.step (fun q => by simp only [spec_l01Berkowitz.l5]; rfl) ?_
    simp only [vrow_length, show ((i : Int) < ((r + 2 : Nat) : Int)) by omega, if_true]
    refine berk_l6 n hn A r i hr hir c T hT hc R (fun M' g1 g3 g4 => ?_) (r + 1) 0 (by omega) (by omega) (by omega) M h1 (by rw [h3 i (by omega)]; exact cg_refl _) (fun m hm => h3 m (by omega)) h4
    have h := ih (i + 1) (by omega) (by omega) M' (fun m hm => g1 m (by omega)) (fun m hm => g3 m (by omega)) g4
    rw [show ((i + 1 : Nat) : Int) = (i : Int) + 1 by omega] at h
    exact h
theorem berk_l0 (n : Nat) (hn : n ≤ 1048574) (A : Nat → Nat → Int) : ∀ (d r : Nat), n - r = d → r ≤ n → ∀ c : Nat → Int, (∀ l, l ≤ r → cgM (c l) (la_cp r A l)) → (∀ m, -9223372036854775808 ≤ c m ∧ c m ≤ 9223372036854775807) →
    Ev (fun k => spec_l01Berkowitz.l0 k (vmat n A) (vrow (r + 1) c) r) (trimN (vrow (n + 1) (fun l => wrap64 (la_cp n A l))) (n + 1)) := by
  intro d
  induction d with
  | zero =>
    intro r hd hr c hc hw
    obtain rfl : r = n := by omega
    refine Ev.step (fun q => by simp only [spec_l01Berkowitz.l0]; rfl) ?_
    simp only [vmat_length, Int.lt_irrefl, if_false]
    refine Ev.bind (a := trimN (vrow (r + 1) (fun l => wrap64 (la_cp r A l))) (r + 1)) ?_ (Ev.now _)
    have h := l01Trim_ev (vrow (r + 1) c) (by rw [vrow_length]; omega)
    rw [vrow_length] at h
    rw [show vrow (r + 1) (fun l => wrap64 (la_cp r A l)) = vrow (r + 1) c from vrow_congr fun l hl => (wrap_of_cg (cg_symm (hc l (by omega))) (hw l))]
    exact h
  | succ d ih =>
    intro r hd hr c hc hw
    have hrn : r < n := by omega
    refine Ev.step (fun q => by simp only [spec_l01Berkowitz.l0]; rfl) ?_
    simp only [vmat_length, show ((r : Int) < (n : Int)) by omega, show (0 : Int) ≤ (r : Int) by omega, if_true, vmat_row hrn, vrow_length, vrow_rd hrn]
    refine berk_l1 n (by omega) A _ _ r hrn _ ?_ r 0 (by omega) (by omega)
    have h := berk_l2 n (by omega) A (vrow (r + 1) c) r hrn (trimN (vrow (n + 1) (fun l => wrap64 (la_cp n A l))) (n + 1)) (fun T hT => ?_) r 0 (by omega) (by omega) (fun j => if j = 0 then 1 else wrap64 (-A r r)) (fun i => A i r) (fun j hj => by
      by_cases e : j = 0
      · subst e; simp only [if_true]; exact cg_refl _
      · obtain rfl : j = 1 := by omega
        simp only [if_neg (show ¬ (1 = 0) by omega)]
        exact cg_wrap _) (fun i _ => cg_refl _)
    · exact h
    · refine berk_l5 n (by omega) A r hrn c T hT hc _ (fun M g1 g4 => ?_) (r + 2) 0 (by omega) (by omega) (fun _ => 0) (fun m hm => by omega) (fun _ _ => rfl) (fun _ => by omega)
      have h := ih (r + 1) (by omega) (by omega) M (fun l hl => g1 l hl) g4
      rw [show ((r + 1 : Nat) : Int) = (r : Int) + 1 by omega] at h
      exact h
theorem berkowitz_ev (n : Nat) (hn : n ≤ 1048574) (A : Nat → Nat → Int) : Ev (fun k => spec_l01Berkowitz.f k (vmat n A)) (trimN (vrow (n + 1) (fun l => wrap64 (la_cp n A l))) (n + 1)) := by
  unfold spec_l01Berkowitz.f
  exact berk_l0 n hn A n 0 (by omega) (by omega) (fun _ => 1) (fun l hl => by
    obtain rfl : l = 0 := by omega
    rw [la_cp_zero]; exact cg_refl _) (fun _ => by omega)
theorem sm_one_le {n : Nat} {f : Nat → Int} (h0 : ∀ a, a < n → 0 ≤ f a) (h1 : ∀ a, a < n → f a ≤ 1) (h : ∀ a b, a < b → b < n → f a = 0 ∨ f b = 0) : la_sm n f ≤ 1 := by
  induction n with
  | zero => simp [la_sm]
  | succ n ih =>
    simp only [la_sm]
    by_cases e : f n = 0
    · have := ih (fun a ha => h0 a (by omega)) (fun a ha => h1 a (by omega)) (fun a b ha hb => h a b ha (by omega)); omega
    · rw [la_sm_zero (fun i hi => (h i n hi (by omega)).resolve_right e)]
      have := h1 n (by omega); omega
/-- n rows of m numbers, by their places. -/
def vmr (n m : Nat) (f : Nat → Nat → Int) : List (List Int) := (List.range n).map fun i => vrow m (f i)
theorem vmr_length (n m : Nat) (f : Nat → Nat → Int) : (vmr n m f).length = n := by simp [vmr]
theorem vmr_congr {n m : Nat} {f h : Nat → Nat → Int} (e : ∀ i j, i < n → j < m → f i j = h i j) : vmr n m f = vmr n m h := by
  unfold vmr
  apply List.map_congr_left
  intro i hi
  exact vrow_congr fun j hj => e i j (List.mem_range.mp hi) hj
theorem vmr_set {n m : Nat} (f : Nat → Nat → Int) (u : Nat) (g : Nat → Int) : (vmr n m f).set u (vrow m g) = vmr n m (fun i j => if i = u then g j else f i j) := by
  apply List.ext_getElem
  · rw [List.length_set, vmr_length, vmr_length]
  intro i h1 h2
  rw [List.getElem_set]
  simp only [vmr, List.getElem_map, List.getElem_range]
  by_cases h : u = i
  · subst h; simp
  · rw [if_neg h]; exact vrow_congr fun j _ => by rw [if_neg (fun e => h e.symm)]
theorem vmr_snoc (n m : Nat) (f : Nat → Nat → Int) : vmr n m f ++ [vrow m (f n)] = vmr (n + 1) m f := by
  unfold vmr; rw [List.range_succ, List.map_append]; rfl
theorem vmr_vmat (n : Nat) (f : Nat → Nat → Int) : vmr n n f = vmat n f := rfl
theorem swp_vmr (n m : Nat) (f : Nat → Nat → Int) (i j : Nat) (hi : i < n) (hj : j < n) : swp (vmr n m f) i j = vmr n m (fun r => f (la_sw i j r)) := by
  have hg : ∀ u, u < n → (vmr n m f).getD u [] = vrow m (f u) := fun u hu => by
    rw [List.getD_eq_getElem?_getD, List.getElem?_eq_getElem (by rw [vmr_length]; exact hu)]
    simp [vmr]
  unfold swp
  rw [Int.toNat_natCast, Int.toNat_natCast, hg i hi, hg j hj, vmr_set, vmr_set]
  refine vmr_congr fun r c _ _ => ?_
  unfold la_sw
  by_cases h1 : r = j
  · subst h1
    by_cases h2 : r = i
    · subst h2; simp
    · simp [h2]
  · by_cases h2 : r = i
    · subst h2; simp [h1]
    · simp [h1, h2]
theorem bz_dc_top {n : Nat} : ∀ (P Q : Nat → Nat → Int), la_dc n P Q n = la_det n Q := by
  induction n with
  | zero => intro P Q; rfl
  | succ n ih =>
    intro P Q
    rw [la_dc_succ, la_det_succ]
    refine la_sm_congr (fun i hi => ?_)
    rw [la_dc_top _ _ (n + 1) (by omega), Int.mul_zero, Int.zero_add]
    show la_sg i * (Q i 0 * la_dc n _ _ n) = _
    rw [ih, Int.mul_assoc]
theorem bz_det_ng {n : Nat} : ∀ (A : Nat → Nat → Int), la_det n (la_ng A) = la_sg n * la_det n A := by
  induction n with
  | zero => intro A; rfl
  | succ n ih =>
    intro A
    rw [la_det_succ, la_det_succ, ← la_sm_mul]
    refine la_sm_congr (fun i hi => ?_)
    have h := ih (fun a b => A (la_sk i a) (b + 1))
    rw [show (fun a b => la_ng A (la_sk i a) (b + 1)) = la_ng (fun a b => A (la_sk i a) (b + 1)) from rfl, h, la_sg_succ]
    show la_sg i * (-(A i 0)) * _ = _
    simp only [Int.mul_neg, Int.neg_mul]
    congr 1
    generalize la_det n _ = x
    rw [Int.mul_left_comm]
theorem bz_cp_top (n : Nat) (A : Nat → Nat → Int) : la_cp n A n = la_sg n * la_det n A := by
  unfold la_cp
  rw [bz_dc_top, bz_det_ng]
theorem bz_det_bound (n : Nat) (M : Nat → Nat → Int) : la_ab (la_det n M) ≤ la_pr n (fun a => la_sm n (fun b => la_ab (M a b))) := by
  have h := la_dc_bound (n := n) M (fun _ _ => 0)
  have e := la_det_pv (n := n) M (fun _ _ => 0) 1
  simp only [Int.mul_zero, Int.add_zero] at e
  rw [e]
  unfold la_pv
  simp only [la_ab_zero, Int.add_zero] at h
  refine Int.le_trans (la_ab_sm _ _) (Int.le_trans (la_sm_le (fun k _ => ?_)) h)
  rw [Int.one_pow, Int.mul_one]
  exact Int.le_refl _
theorem bz_cube : ∀ x : Nat, x * x * x ≤ 3 ^ x
  | 0 => by decide
  | 1 => by decide
  | 2 => by decide
  | 3 => by decide
  | n + 4 => by
    have ih := bz_cube (n + 3)
    rw [Nat.pow_succ]
    have h0 : 3 * (n + 4) ≤ 4 * (n + 3) := by omega
    have h1 := Nat.mul_le_mul (Nat.mul_le_mul h0 h0) h0
    have key : ∀ k x : Nat, k * x * (k * x) * (k * x) = k * k * k * (x * x * x) := fun k x => by ac_rfl
    rw [key, key] at h1
    have h2 : (n + 3) * (n + 3) * (n + 3) ≤ 3 ^ (n + 3) := ih
    show (n + 4) * (n + 4) * (n + 4) ≤ 3 ^ (n + 3) * 3
    generalize (n + 4) * (n + 4) * (n + 4) = x at h1 ⊢
    generalize (n + 3) * (n + 3) * (n + 3) = y at h1 h2
    generalize 3 ^ (n + 3) = z at h2 ⊢
    omega
theorem bz_pr_cube (g : Nat → Int) : ∀ n : Nat, (∀ i, i < n → 0 ≤ g i) → ∃ P S : Nat, la_pr n g = (P : Int) ∧ la_sm n g = (S : Int) ∧ P * P * P ≤ 3 ^ S
  | 0, _ => ⟨1, 0, rfl, rfl, by decide⟩
  | n + 1, h => by
    obtain ⟨P, S, e1, e2, e3⟩ := bz_pr_cube g n (fun i hi => h i (by omega))
    obtain ⟨x, hx⟩ := Int.eq_ofNat_of_zero_le (h n (by omega))
    refine ⟨P * x, S + x, ?_, ?_, ?_⟩
    · show la_pr n g * g n = _
      rw [e1, hx]; simp
    · show la_sm n g + g n = _
      rw [e2, hx]; simp
    · rw [Nat.pow_add]
      have h2 := Nat.mul_le_mul e3 (bz_cube x)
      rw [show P * x * (P * x) * (P * x) = P * P * P * (x * x * x) by ac_rfl]
      exact h2
theorem bz_pick {n : Nat} (f : Nat → Int) (hf : ∀ i, i < n → 0 ≤ f i) (c j : Nat) (hc : c ≤ j) (hj : j < n) : la_sm (c + 1) (fun b => f (if b = c then j else b)) ≤ la_sm n f := by
  have mono : ∀ d m, m + d ≤ n → la_sm m f ≤ la_sm (m + d) f := by
    intro d
    induction d with
    | zero => intro m _; exact Int.le_refl _
    | succ d ih =>
      intro m hm
      have h1 := ih m (by omega)
      have h2 := hf (m + d) (by omega)
      show la_sm m f ≤ la_sm (m + d) f + f (m + d)
      omega
  have h1 : la_sm (c + 1) (fun b => f (if b = c then j else b)) = la_sm c f + f j := by
    show la_sm c _ + f (if c = c then j else c) = _
    rw [if_pos rfl, la_sm_congr (g := f) (fun i hi => by rw [if_neg (by omega)])]
  have h2 := mono (j - c) c (by omega)
  rw [show c + (j - c) = j by omega] at h2
  have h3 := mono (n - (j + 1)) (j + 1) (by omega)
  rw [show j + 1 + (n - (j + 1)) = n by omega] at h3
  have h4 : la_sm (j + 1) f = la_sm j f + f j := rfl
  omega
def nrm (n : Nat) (A : Nat → Nat → Int) : Int := la_sm n (fun a => la_sm n (fun b => la_ab (A a b)))
theorem bz_mi_bound {n : Nat} (B : Nat → Nat → Int) (hB : nrm n B ≤ 40) (c i j : Nat) (hi : c ≤ i) (hin : i < n) (hj : c ≤ j) (hjn : j < n) : la_ab (la_mi c B i j) ≤ 2300000 := by
  unfold la_mi
  refine Int.le_trans (bz_det_bound _ _) ?_
  have h1 : la_pr (c + 1) (fun a => la_sm (c + 1) (fun b => la_ab (B (if a = c then i else a) (if b = c then j else b)))) ≤ la_pr (c + 1) (fun a => la_sm n (fun b => la_ab (B (if a = c then i else a) b))) :=
    la_pr_le (fun a _ => la_sm_nonneg (fun b _ => la_ab_nonneg _)) (fun a _ => bz_pick (fun b => la_ab (B (if a = c then i else a) b)) (fun _ _ => la_ab_nonneg _) c j hj hjn)
  refine Int.le_trans h1 ?_
  obtain ⟨P, S, e1, e2, e3⟩ := bz_pr_cube (fun a => la_sm n (fun b => la_ab (B (if a = c then i else a) b))) (c + 1) (fun a _ => la_sm_nonneg (fun b _ => la_ab_nonneg _))
  have h2 := bz_pick (n := n) (fun a => la_sm n (fun b => la_ab (B a b))) (fun a _ => la_sm_nonneg (fun b _ => la_ab_nonneg _)) c i hi hin
  rw [e1]
  rw [e2] at h2
  have hS : S ≤ 40 := by unfold nrm at hB; omega
  have h3 : P * P * P ≤ 3 ^ 40 := Nat.le_trans e3 (Nat.pow_le_pow_right (by decide) hS)
  rcases Nat.lt_or_ge 2300000 P with h4 | h4
  · exfalso
    have h5 : 2300001 * 2300001 * 2300001 ≤ P * P * P := Nat.mul_le_mul (Nat.mul_le_mul h4 h4) h4
    have h6 : ¬ (2300001 * 2300001 * 2300001 ≤ 3 ^ 40) := by decide
    exact h6 (Nat.le_trans h5 h3)
  · omega
/-- Where the elimination without fractions stands at the column c. -/
structure BI (n : Nat) (A : Nat → Nat → Int) (c : Nat) (s p : Int) (T : Nat → Nat → Int) : Prop where
  ex : ∃ B : Nat → Nat → Int, nrm n B ≤ 40 ∧ la_det n A = s * la_det n B ∧ p = la_det c B ∧ ∀ i j, c ≤ i → i < n → c ≤ j → j < n → T i j = la_mi c B i j
  sg : s = 1 ∨ s = -1
  p0 : p ≠ 0
theorem BI.start {n : Nat} (A : Nat → Nat → Int) (hA : nrm n A ≤ 40) : BI n A 0 1 1 A :=
  ⟨⟨A, hA, by rw [Int.one_mul], rfl, fun i j _ _ _ _ => (la_mi_zero A i j).symm⟩, .inl rfl, by decide⟩
theorem BI.none {n : Nat} {A : Nat → Nat → Int} {c : Nat} {s p : Int} {T : Nat → Nat → Int} (h : BI n A c s p T) (hc : c < n) (h0 : ∀ i, c ≤ i → i < n → T i c = 0) : la_det n A = 0 := by
  obtain ⟨⟨B, hB, hd, hp, hT⟩, _, hp0⟩ := h
  rw [hd, la_det_zero_of_mi B c hc (by rw [← hp]; exact hp0) (fun i hi hin => by rw [← hT i c hi hin (Nat.le_refl _) hc]; exact h0 i hi hin), Int.mul_zero]
theorem BI.last {n : Nat} {A : Nat → Nat → Int} {s p : Int} {T : Nat → Nat → Int} (h : BI n A n s p T) : la_det n A = s * p := by
  obtain ⟨⟨B, hB, hd, hp, hT⟩, _, hp0⟩ := h
  rw [hd, hp]
theorem sm_two_swap {n : Nat} (f : Nat → Int) (i c : Nat) (hi : i < n) (hc : c < n) (hic : i ≠ c) : la_sm n (fun r => f (la_sw i c r)) = la_sm n f := by
  have h := la_sm_two (n := n) (f := fun r => f (la_sw i c r) - f r) i c hi hc hic (fun r _ h1 h2 => by simp [la_sw, h1, h2])
  rw [la_sm_sub] at h
  simp only [la_sw, if_true, if_neg (show ¬ (c = i) from fun e => hic e.symm)] at h
  unfold la_sw
  omega
theorem BI.swap {n : Nat} {A : Nat → Nat → Int} {c : Nat} {s p : Int} {T : Nat → Nat → Int} (h : BI n A c s p T) (i : Nat) (hci : c < i) (hi : i < n) : BI n A c (-s) p (fun r => T (la_sw i c r)) := by
  obtain ⟨⟨B, hB, hd, hp, hT⟩, hs, hp0⟩ := h
  have hlow : ∀ a, a < c → la_sw i c a = a := fun a ha => by unfold la_sw; rw [if_neg (by omega), if_neg (by omega)]
  refine ⟨⟨fun r => B (la_sw i c r), ?_, ?_, ?_, ?_⟩, by omega, hp0⟩
  · unfold nrm
    have := sm_two_swap (n := n) (fun a => la_sm n (fun b => la_ab (B a b))) i c hi (by omega) (by omega)
    rw [this]; exact hB
  · have he : la_det n (fun r => B (la_sw i c r)) = - la_det n B := by
      rw [← la_det_swap B i c hi (by omega) (by omega)]
      refine la_det_congr (fun a b _ _ => ?_)
      unfold la_sw la_rr
      by_cases h1 : a = c
      · subst h1
        by_cases h2 : a = i
        · omega
        · simp [h2]
      · by_cases h2 : a = i
        · subst h2; simp [h1]
        · simp [h1, h2]
    rw [he, hd, Int.neg_mul_neg]
  · rw [hp]
    exact la_det_congr (fun a b ha _ => by rw [hlow a ha])
  · intro r j hr hrn hj hjn
    have hr2 : c ≤ la_sw i c r ∧ la_sw i c r < n := by unfold la_sw; (repeat' split) <;> omega
    show T (la_sw i c r) j = _
    rw [hT _ j hr2.1 hr2.2 hj hjn]
    unfold la_mi
    refine la_det_congr (fun a b ha hb => ?_)
    by_cases h1 : a = c
    · rw [if_pos h1, if_pos h1]
    · rw [if_neg h1, if_neg h1]; show B a _ = B (la_sw i c a) _; rw [hlow a (by omega)]
theorem ab_le {x b : Int} (h : la_ab x ≤ b) : -b ≤ x ∧ x ≤ b := by unfold la_ab at h; omega
/-- One column: what each cell below gets. -/
theorem BI.step {n : Nat} {A : Nat → Nat → Int} {c : Nat} {s p : Int} {T : Nat → Nat → Int} (h : BI n A c s p T) (hc : c < n) (h0 : T c c ≠ 0) :
    ∃ N : Nat → Nat → Int, (∀ i j, c < i → i < n → c < j → j < n → wrap64 (Int.tdiv (wrap64 (wrap64 (T i j * T c c) - wrap64 (T i c * T c j))) p) = N i j) ∧
      ∀ S : Nat → Nat → Int, (∀ i j, c < i → i < n → c < j → j < n → S i j = N i j) → BI n A (c + 1) s (T c c) S := by
  obtain ⟨⟨B, hB, hd, hp, hT⟩, hs, hp0⟩ := h
  refine ⟨la_mi (c + 1) B, ?_, ?_⟩
  · intro i j hi hin hj hjn
    have hsy := la_sylvester c B (by rw [← hp]; exact hp0) i j
    rw [← hp, ← hT c c (Nat.le_refl _) hc (Nat.le_refl _) hc, ← hT i j (by omega) hin (by omega) hjn, ← hT i c (by omega) hin (Nat.le_refl _) hc, ← hT c j (Nat.le_refl _) hc (by omega) hjn] at hsy
    have b1 := ab_le (bz_mi_bound B hB c c c (Nat.le_refl _) hc (Nat.le_refl _) hc)
    have b2 := ab_le (bz_mi_bound B hB c i j (by omega) hin (by omega) hjn)
    have b3 := ab_le (bz_mi_bound B hB c i c (by omega) hin (Nat.le_refl _) hc)
    have b4 := ab_le (bz_mi_bound B hB c c j (Nat.le_refl _) hc (by omega) hjn)
    have b5 := ab_le (bz_mi_bound B hB (c + 1) i j (by omega) hin (by omega) hjn)
    rw [← hT c c (Nat.le_refl _) hc (Nat.le_refl _) hc] at b1
    rw [← hT i j (by omega) hin (by omega) hjn] at b2
    rw [← hT i c (by omega) hin (Nat.le_refl _) hc] at b3
    rw [← hT c j (Nat.le_refl _) hc (by omega) hjn] at b4
    have m1 := ab_le (show la_ab (T i j * T c c) ≤ 2300000 * 2300000 by rw [la_ab_mul]; exact Int.mul_le_mul (by unfold la_ab; omega) (by unfold la_ab; omega) (la_ab_nonneg _) (by omega))
    have m2 := ab_le (show la_ab (T i c * T c j) ≤ 2300000 * 2300000 by rw [la_ab_mul]; exact Int.mul_le_mul (by unfold la_ab; omega) (by unfold la_ab; omega) (la_ab_nonneg _) (by omega))
    rw [w64 (n := T i j * T c c) (by omega) (by omega), w64 (n := T i c * T c j) (by omega) (by omega), w64 (n := T i j * T c c - T i c * T c j) (by omega) (by omega)]
    rw [show T i j * T c c - T i c * T c j = p * la_mi (c + 1) B i j by rw [hsy, Int.mul_comm (T i j)], Int.mul_tdiv_cancel_left _ hp0]
    exact w64 (by omega) (by omega)
  · intro S hS
    refine ⟨⟨B, hB, hd, ?_, fun i j hi hin hj hjn => hS i j (by omega) hin (by omega) hjn⟩, hs, h0⟩
    rw [hT c c (Nat.le_refl _) hc (Nat.le_refl _) hc, la_mi_diag]
theorem BI.pb {n : Nat} {A : Nat → Nat → Int} {c : Nat} {s p : Int} {T : Nat → Nat → Int} (h : BI n A c s p T) (hc : c ≤ n) : -2300000 ≤ p ∧ p ≤ 2300000 := by
  obtain ⟨⟨B, hB, hd, hp, hT⟩, _, hp0⟩ := h
  cases c with
  | zero => rw [hp]; show -2300000 ≤ (1 : Int) ∧ (1 : Int) ≤ 2300000; omega
  | succ c => rw [hp, ← la_mi_diag]; exact ab_le (bz_mi_bound B hB c c c (Nat.le_refl _) (by omega) (Nat.le_refl _) (by omega))
def bT (N T : Nat → Nat → Int) (c i m : Nat) : Nat → Nat → Int := fun r q => if c < q ∧ (c < r ∧ r < i ∨ r = i ∧ q < m) then N r q else T r q
theorem bz_l3 (n : Nat) (hn : n ≤ 1048576) (N T : Nat → Nat → Int) (c : Nat) (hc : c < n) (s p : Int) (hp : p ≠ 0)
    (hN : ∀ i j, c < i → i < n → c < j → j < n → wrap64 (Int.tdiv (wrap64 (wrap64 (T i j * T c c) - wrap64 (T i c * T c j))) p) = N i j) (i : Nat) (hci : c < i) (hi : i < n) (R : Int)
    (next : Ev (fun k => impl_wholeDeterminant.l2 k (vmat n (bT N T c (i + 1) 0)) s p ((i : Int) + 1) n c c) R) :
    ∀ (d j : Nat), n - j = d → j ≤ n → c < j → Ev (fun k => impl_wholeDeterminant.l3 k (vmat n (bT N T c i j)) s p i j n c c) R := by
  intro d
  induction d with
  | zero =>
    intro j hd hj _
    obtain rfl : j = n := by omega
    refine Ev.step (fun q => by simp only [impl_wholeDeterminant.l3]; rfl) ?_
    simp only [vmat_length, Int.lt_irrefl, if_false, w64 (show -9223372036854775808 ≤ (i : Int) + 1 by omega) (by omega)]
    refine Ev.congr (fun q => ?_) next
    congr 1
    refine vmat_congr fun r q hr hq => ?_
    unfold bT
    by_cases h1 : c < q ∧ (c < r ∧ r < i ∨ r = i ∧ q < j)
    · rw [if_pos h1, if_pos ⟨h1.1, by omega⟩]
    · rw [if_neg h1, if_neg (by omega)]
  | succ d ih =>
    intro j hd hj hcj
    have hjn : j < n := by omega
    refine Ev.step (fun q => by simp only [impl_wholeDeterminant.l3]; rfl) ?_
    have e1 : bT N T c i j i j = T i j := by unfold bT; rw [if_neg (by omega)]
    have e2 : bT N T c i j c c = T c c := by unfold bT; rw [if_neg (by omega)]
    have e3 : bT N T c i j i c = T i c := by unfold bT; rw [if_neg (by omega)]
    have e4 : bT N T c i j c j = T c j := by unfold bT; rw [if_neg (by omega)]
    simp only [vmat_length, show ((j : Int) < (n : Int)) by omega, show ((i : Int) < (n : Int)) by omega, show ((c : Int) < (n : Int)) by omega, show (0 : Int) ≤ (i : Int) by omega, show (0 : Int) ≤ (j : Int) by omega, show (0 : Int) ≤ (c : Int) by omega, if_true, if_false, vmat_row hi, vmat_row hc, vrow_length, hp, vrow_rd hjn, vrow_rd hc, e1, e2, e3, e4, hN i j hci hi hcj hjn, Int.toNat_natCast, vrow_set, vmat_set, w64 (show -9223372036854775808 ≤ (j : Int) + 1 by omega) (by omega)]
    refine Ev.congr (fun q => ?_) (ih (j + 1) (by omega) (by omega) (by omega))
    rw [show ((j + 1 : Nat) : Int) = (j : Int) + 1 by omega]
    congr 1
    refine vmat_congr fun r q hr hq => ?_
    by_cases h1 : r = i
    · subst h1
      rw [if_pos rfl]
      by_cases h2 : q = j
      · subst h2
        rw [if_pos rfl]
        unfold bT; rw [if_pos (by omega)]
      · rw [if_neg h2]
        unfold bT
        by_cases h3 : c < q ∧ (c < r ∧ r < r ∨ r = r ∧ q < j)
        · rw [if_pos h3, if_pos (by omega)]
        · rw [if_neg h3, if_neg (by omega)]
    · rw [if_neg h1]
      unfold bT
      by_cases h3 : c < q ∧ (c < r ∧ r < i ∨ r = i ∧ q < j)
      · rw [if_pos h3, if_pos (by omega)]
      · rw [if_neg h3, if_neg (by omega)]
theorem bz_l2 (n : Nat) (hn : n ≤ 1048576) (N T : Nat → Nat → Int) (c : Nat) (hc : c < n) (s p : Int) (hp : p ≠ 0)
    (hN : ∀ i j, c < i → i < n → c < j → j < n → wrap64 (Int.tdiv (wrap64 (wrap64 (T i j * T c c) - wrap64 (T i c * T c j))) p) = N i j) (R : Int)
    (next : Ev (fun k => impl_wholeDeterminant.l1 k (vmat n (bT N T c n 0)) s (T c c) n ((c : Int) + 1)) R) :
    ∀ (d i : Nat), n - i = d → i ≤ n → c < i → Ev (fun k => impl_wholeDeterminant.l2 k (vmat n (bT N T c i 0)) s p i n c c) R := by
  intro d
  induction d with
  | zero =>
    intro i hd hi _
    obtain rfl : i = n := by omega
    refine Ev.step (fun q => by simp only [impl_wholeDeterminant.l2]; rfl) ?_
    have e2 : bT N T c i 0 c c = T c c := by unfold bT; rw [if_neg (by omega)]
    simp only [vmat_length, Int.lt_irrefl, if_false, show (0 : Int) ≤ (c : Int) by omega, show ((c : Int) < (i : Int)) by omega, if_true, vmat_row hc, vrow_length, vrow_rd hc, e2, w64 (show -9223372036854775808 ≤ (c : Int) + 1 by omega) (by omega)]
    exact next
  | succ d ih =>
    intro i hd hi hci
    have hin : i < n := by omega
    refine Ev.step (fun q => by simp only [impl_wholeDeterminant.l2]; rfl) ?_
    simp only [vmat_length, show ((i : Int) < (n : Int)) by omega, if_true, w64 (show -9223372036854775808 ≤ (c : Int) + 1 by omega) (by omega)]
    have h := ih (i + 1) (by omega) (by omega) (by omega)
    rw [show ((i + 1 : Nat) : Int) = (i : Int) + 1 by omega] at h
    have h2 := bz_l3 n hn N T c hc s p hp hN i hci hin R h (n - (c + 1)) (c + 1) rfl (by omega) (by omega)
    rw [show ((c + 1 : Nat) : Int) = (c : Int) + 1 by omega] at h2
    refine Ev.congr (fun q => ?_) h2
    congr 1
    refine vmat_congr fun r q hr hq => ?_
    unfold bT
    by_cases h3 : c < q ∧ (c < r ∧ r < i ∨ r = i ∧ q < 0)
    · rw [if_pos h3, if_pos (by omega)]
    · rw [if_neg h3, if_neg (by omega)]
def nzP (c : Int) (x : List Int) : Option Bool := if 0 ≤ c then (if c < (x.length : Int) then some (rd x c != 0) else none) else none
theorem nzP_row (n c : Nat) (hc : c < n) (g : Nat → Int) : nzP (c : Int) (vrow n g) = some (g c != 0) := by
  unfold nzP
  rw [if_pos (by omega), if_pos (by rw [vrow_length]; omega), vrow_rd hc]
theorem idx1_eq (k : Nat) (l : List (List Int)) (c : Int) : impl_wholeDeterminant_1.f k l c = idxM (nzP c) l 0 := rfl
theorem bz_idx (n : Nat) (T : Nat → Nat → Int) (c : Nat) (hc : c < n) : ∀ (d r z : Nat), n - r = d → r ≤ n →
    (∃ i, r ≤ i ∧ i < n ∧ T i c ≠ 0 ∧ idxM (nzP (c : Int)) ((vmat n T).drop r) z = some ((z + (i - r) : Nat) : Int)) ∨
    ((∀ i, r ≤ i → i < n → T i c = 0) ∧ idxM (nzP (c : Int)) ((vmat n T).drop r) z = some (-1)) := by
  intro d
  induction d with
  | zero =>
    intro r z hd hr
    refine .inr ⟨fun i h1 h2 => by omega, ?_⟩
    rw [List.drop_eq_nil_of_le (by rw [vmat_length]; omega)]
    rfl
  | succ d ih =>
    intro r z hd hr
    have hl : r < (vmat n T).length := by rw [vmat_length]; omega
    have hg : (vmat n T)[r] = vrow n (T r) := by simp [vmat]
    rw [List.drop_eq_getElem_cons hl, hg]
    simp only [idxM, nzP_row n c hc, Option.bind_some]
    by_cases h0 : T r c = 0
    · simp only [h0, bne_self_eq_false, Bool.false_eq_true, if_false]
      rcases ih (r + 1) (z + 1) (by omega) (by omega) with ⟨i, h1, h2, h3, h4⟩ | ⟨h1, h2⟩
      · exact .inl ⟨i, by omega, h2, h3, by rw [h4]; congr 2; omega⟩
      · refine .inr ⟨fun i h3 h4 => ?_, h2⟩
        by_cases h5 : i = r
        · rw [h5]; exact h0
        · exact h1 i (by omega) h4
    · have hb : (T r c != 0) = true := by simp [h0]
      simp only [hb, if_true]
      exact .inl ⟨r, Nat.le_refl _, by omega, h0, by congr 2; omega⟩
theorem sw_comm (i c r : Nat) : la_sw i c r = la_sw c i r := by unfold la_sw; (repeat' split) <;> omega
theorem bz_j2 (n : Nat) (hn : n ≤ 1048576) (A : Nat → Nat → Int) (c : Nat) (hc : c < n) (ih : ∀ (s p : Int) (T : Nat → Nat → Int), BI n A (c + 1) s p T → Ev (fun k => impl_wholeDeterminant.l1 k (vmat n T) s p n ((c : Int) + 1)) (la_det n A))
    (s p : Int) (T : Nat → Nat → Int) (h : BI n A c s p T) (h0 : T c c ≠ 0) : Ev (fun k => impl_wholeDeterminant.j2 k (vmat n T) s p n c c) (la_det n A) := by
  obtain ⟨N, hN, hS⟩ := BI.step h hc h0
  refine Ev.step (fun q => by simp only [impl_wholeDeterminant.j2]; rfl) ?_
  have h1 := ih s (T c c) (bT N T c n 0) (hS _ (fun i j hi hin hj hjn => by unfold bT; rw [if_pos ⟨hj, .inl ⟨hi, hin⟩⟩]))
  have h2 := bz_l2 n hn N T c hc s p h.p0 hN _ h1 (n - (c + 1)) (c + 1) rfl (by omega) (by omega)
  rw [show ((c + 1 : Nat) : Int) = (c : Int) + 1 by omega] at h2
  simp only [w64 (show -9223372036854775808 ≤ (c : Int) + 1 by omega) (by omega)]
  refine Ev.congr (fun q => ?_) h2
  congr 1
  refine vmat_congr fun r q hr hq => ?_
  unfold bT
  rw [if_neg (by omega)]
theorem bz_l1 (n : Nat) (hn : n ≤ 1048576) (A : Nat → Nat → Int) : ∀ (d c : Nat), n - c = d → c ≤ n → ∀ (s p : Int) (T : Nat → Nat → Int), BI n A c s p T → Ev (fun k => impl_wholeDeterminant.l1 k (vmat n T) s p n c) (la_det n A) := by
  intro d
  induction d with
  | zero =>
    intro c hd hc s p T h
    obtain rfl : c = n := by omega
    refine Ev.step (fun q => by simp only [impl_wholeDeterminant.l1]; rfl) ?_
    have hb := BI.pb h (Nat.le_refl _)
    have hl := BI.last h
    have hw : wrap64 (s * p) = s * p := by rcases h.sg with e | e <;> rw [e] <;> exact w64 (by omega) (by omega)
    simp only [Int.lt_irrefl, if_false, hw]
    rw [hl]
    exact Ev.now _
  | succ d ih =>
    intro c hd hc s p T h
    have hcn : c < n := by omega
    refine Ev.step (fun q => by simp only [impl_wholeDeterminant.l1, idx1_eq]; rfl) ?_
    have ih2 : ∀ (s p : Int) (T : Nat → Nat → Int), BI n A (c + 1) s p T → Ev (fun k => impl_wholeDeterminant.l1 k (vmat n T) s p n ((c : Int) + 1)) (la_det n A) := fun s p T h => by
      have := ih (c + 1) (by omega) (by omega) s p T h
      rwa [show ((c + 1 : Nat) : Int) = (c : Int) + 1 by omega] at this
    rcases bz_idx n T c hcn (n - c) c 0 rfl hc with ⟨i, h1, h2, h3, h4⟩ | ⟨h1, h2⟩
    · simp only [show ((c : Int) < (n : Int)) by omega, show (0 : Int) ≤ (c : Int) by omega, vmat_length, show ((c : Int) ≤ (n : Int)) by omega, if_true, Int.toNat_natCast]
      simp only [Nat.zero_add] at h4
      rw [h4]
      simp only [Option.bind_some, show ¬ (((i - c : Nat) : Int) < 0) by omega, if_false]
      by_cases hic : i = c
      · subst hic
        simp only [Nat.sub_self, show ¬ (((0 : Nat) : Int) > 0) by omega, if_false]
        exact bz_j2 n hn A i hcn ih2 s p T h h3
      · have hs : wrap64 (-s) = -s := by rcases h.sg with e | e <;> rw [e] <;> exact w64 (by omega) (by omega)
        simp only [show (((i - c : Nat) : Int) > 0) by omega, show (c : Int) + ((i - c : Nat) : Int) = (i : Int) by omega, w64 (show -9223372036854775808 ≤ (i : Int) by omega) (by omega), show (0 : Int) ≤ (i : Int) by omega, show ((i : Int) < (n : Int)) by omega, if_true, hs]
        have h5 := BI.swap h i (by omega) h2
        have e : swp (vmat n T) c i = vmat n (fun r => T (la_sw i c r)) := by
          rw [← vmr_vmat, swp_vmr n n T c i hcn h2, ← vmr_vmat]
          refine vmr_congr fun r q _ _ => ?_
          rw [sw_comm]
        rw [e]
        refine bz_j2 n hn A c hcn ih2 (-s) p _ h5 ?_
        show T (la_sw i c c) c ≠ 0
        rw [show la_sw i c c = i by unfold la_sw; rw [if_neg (by omega), if_pos rfl]]
        exact h3
    · simp only [show ((c : Int) < (n : Int)) by omega, show (0 : Int) ≤ (c : Int) by omega, vmat_length, show ((c : Int) ≤ (n : Int)) by omega, if_true, Int.toNat_natCast]
      rw [h2, BI.none h hcn h1]
      simp only [Option.bind_some, show ((-1 : Int) < 0) by omega, if_true]
      exact Ev.now _
theorem bz_l0 (n : Nat) (hn : n ≤ 1048576) (A : Nat → Nat → Int) (hA : nrm n A ≤ 40) : ∀ (d i : Nat), n - i = d → i ≤ n → Ev (fun k => impl_wholeDeterminant.l0 k (vmr i n A) 1 1 (vmat n A) n i) (la_det n A) := by
  intro d
  induction d with
  | zero =>
    intro i hd hi
    obtain rfl : i = n := by omega
    refine Ev.step (fun q => by simp only [impl_wholeDeterminant.l0]; rfl) ?_
    simp only [Int.lt_irrefl, if_false, vmr_length]
    exact bz_l1 i hn A i 0 (by omega) (by omega) 1 1 A (BI.start A hA)
  | succ d ih =>
    intro i hd hi
    have hin : i < n := by omega
    refine Ev.step (fun q => by simp only [impl_wholeDeterminant.l0]; rfl) ?_
    simp only [show ((i : Int) < (n : Int)) by omega, show (0 : Int) ≤ (i : Int) by omega, if_true, vmat_length, vmat_row hin, clone_ev (vrow n (A i)) (by rw [vrow_length]; omega), Option.bind_some, vmr_length, show i < 5864062014805 by omega, vmr_snoc, w64 (show -9223372036854775808 ≤ (i : Int) + 1 by omega) (by omega)]
    have h := ih (i + 1) (by omega) (by omega)
    rwa [show ((i + 1 : Nat) : Int) = (i : Int) + 1 by omega] at h
theorem wholeDeterminant_ev (n : Nat) (hn : n ≤ 1048576) (A : Nat → Nat → Int) (hA : nrm n A ≤ 40) : Ev (fun k => impl_wholeDeterminant.f k (vmat n A)) (la_det n A) := by
  unfold impl_wholeDeterminant.f
  rw [vmat_length]
  exact bz_l0 n hn A hA n 0 (by omega) (by omega)
theorem sm_upd {n : Nat} (f : Nat → Int) (v : Nat) (hv : v < n) (x : Int) : la_sm n (fun j => if j = v then x else f j) = la_sm n f + (x - f v) := by
  have h := la_sm_single (n := n) (f := fun j => (if j = v then x else f j) - f j) v hv (fun j _ hj => by rw [if_neg hj, Int.sub_self])
  rw [la_sm_sub] at h
  simp only [if_true] at h
  omega
theorem nrm_upd {n : Nat} (f : Nat → Nat → Int) (u v : Nat) (hu : u < n) (hv : v < n) (x : Int) : nrm n (fun i j => if i = u ∧ j = v then x else f i j) = nrm n f + (la_ab x - la_ab (f u v)) := by
  unfold nrm
  rw [la_sm_congr (g := fun a => if a = u then la_sm n (fun b => la_ab (f u b)) + (la_ab x - la_ab (f u v)) else la_sm n (fun b => la_ab (f a b))) (fun a ha => ?_), sm_upd _ u hu]
  · omega
  · by_cases h : a = u
    · subst h
      rw [if_pos rfl, ← sm_upd (fun b => la_ab (f a b)) v hv]
      refine la_sm_congr (fun b hb => ?_)
      show la_ab (if a = a ∧ b = v then x else f a b) = if b = v then la_ab x else la_ab (f a b)
      by_cases h2 : b = v
      · rw [if_pos ⟨rfl, h2⟩, if_pos h2]
      · rw [if_neg (fun e => h2 e.2), if_neg h2]
    · rw [if_neg h]
      exact la_sm_congr (fun b hb => by show la_ab (if a = u ∧ b = v then x else f a b) = _; rw [if_neg (fun e => h e.1)])
theorem nrm_cell {n : Nat} (f : Nat → Nat → Int) (u v : Nat) (hu : u < n) (hv : v < n) : la_ab (f u v) ≤ nrm n f := by
  have h1 := bz_pick (n := n) (fun b => la_ab (f u b)) (fun _ _ => la_ab_nonneg _) 0 v (by omega) hv
  have h2 := bz_pick (n := n) (fun a => la_sm n (fun b => la_ab (f a b))) (fun _ _ => la_sm_nonneg (fun _ _ => la_ab_nonneg _)) 0 u (by omega) hu
  simp only [la_sm, if_true, Int.zero_add] at h1 h2
  unfold nrm
  omega
theorem subAt_nrm {n : Nat} (f : Nat → Nat → Int) (u v : Nat) (hu : u < n) (hv : v < n) (x : Int) (hx : x = 1 ∨ x = -1) (hf : nrm n f ≤ 1000) : ∃ g, subAt (vmat n f) u v x = vmat n g ∧ nrm n g ≤ nrm n f + 1 := by
  refine ⟨fun i j => if i = u ∧ j = v then wrap64 (f u v - x) else f i j, ?_, ?_⟩
  · unfold subAt
    rw [vmat_row hu, vrow_rd hv, Int.toNat_natCast, Int.toNat_natCast, ← vmat_row (f := f) hu, vmat_upd f u hu]
  · rw [nrm_upd f u v hu hv]
    have h := nrm_cell f u v hu hv
    rw [w64 (by unfold la_ab at h; omega) (by unfold la_ab at h; omega)]
    unfold la_ab
    omega
theorem walk_nrm {n : Nat} {l : List (List Int)} (hE : endsIn n l) (s : List Int) (hs : ∀ i, i < l.length → rd s (i : Int) = 1 ∨ rd s (i : Int) = -1) : ∀ (d i : Nat) (f : Nat → Nat → Int), i + d ≤ l.length → nrm n f + 2 * (d : Int) ≤ 1000 → ∃ g, walkM l s d i (vmat n f) = vmat n g ∧ nrm n g ≤ nrm n f + 2 * (d : Int) := by
  intro d
  induction d with
  | zero => intro i f _ _; exact ⟨f, rfl, by omega⟩
  | succ d ih =>
    intro i f hi hf
    obtain ⟨hx, u, v, hu, hv, hun, hvn⟩ := hE i (by omega)
    have hsi := hs i (by omega)
    obtain ⟨g1, e1, b1⟩ := subAt_nrm f u v hun hvn (rd s (i : Int)) hsi (by omega)
    obtain ⟨g2, e2, b2⟩ := subAt_nrm g1 v u hvn hun (rd s (i : Int)) hsi (by omega)
    obtain ⟨g3, e3, b3⟩ := ih (i + 1) g2 (by omega) (by omega)
    refine ⟨g3, ?_, by omega⟩
    show walkM l s d (i + 1) (stp l s (vmat n f) i) = _
    unfold stp
    rw [hu, hv, e1, e2, e3]
theorem ind_sum (n : Nat) (x : Int) : la_sm n (fun v => if x = (v : Int) then 1 else 0) ≤ 1 :=
  sm_one_le (fun a _ => by split <;> omega) (fun a _ => by split <;> omega) (fun a b ha hb => by
    by_cases h : x = (a : Int)
    · exact .inr (by rw [if_neg (by omega)])
    · exact .inl (by rw [if_neg h]))
theorem degN_sum (n : Nat) (l : List (List Int)) : ∀ m : Nat, la_sm n (fun v => (degN l m v : Int)) ≤ 2 * (m : Int)
  | 0 => by rw [la_sm_zero (fun i _ => by simp [degN])]; omega
  | m + 1 => by
    have ih := degN_sum n l m
    have h0 := ind_sum n (rd (rd_L1 l (m : Int)) 0)
    have h1 := ind_sum n (rd (rd_L1 l (m : Int)) 1)
    have e : la_sm n (fun v => (degN l (m + 1) v : Int)) = la_sm n (fun v => ((degN l m v : Int) + (if rd (rd_L1 l (m : Int)) 0 = (v : Int) then 1 else 0)) + (if rd (rd_L1 l (m : Int)) 1 = (v : Int) then 1 else 0)) :=
      la_sm_congr (fun v _ => by
        simp only [degN]
        by_cases h2 : rd (rd_L1 l (m : Int)) 0 = (v : Int) <;> by_cases h3 : rd (rd_L1 l (m : Int)) 1 = (v : Int) <;> simp only [h2, h3, if_true, if_false] <;> omega)
    rw [e, la_sm_add, la_sm_add]
    omega
theorem diagM_vmat (n : Nat) (l : List (List Int)) : diagM n l n = vmat n (fun i j => if j = i then (degN l l.length i : Int) else 0) := by
  unfold diagM vmat
  refine List.map_congr_left (fun i hi => ?_)
  rw [List.mem_range] at hi
  rw [if_pos hi]
  have e : List.replicate n (0 : Int) = vrow n (fun _ => 0) := by
    apply List.ext_getElem
    · simp [vrow]
    · intro q _ _; simp [vrow]
  rw [e, vrow_set]
theorem diag_nrm (n : Nat) (l : List (List Int)) : nrm n (fun i j => if j = i then (degN l l.length i : Int) else 0) ≤ 2 * (l.length : Int) := by
  unfold nrm
  rw [la_sm_congr (g := fun v => (degN l l.length v : Int)) (fun i hi => ?_)]
  · exact degN_sum n l l.length
  · rw [la_sm_single i hi (fun j _ hj => by show la_ab (if j = i then (degN l l.length i : Int) else 0) = 0; rw [if_neg hj]; rfl)]
    show la_ab (if i = i then (degN l l.length i : Int) else 0) = _
    rw [if_pos rfl]
    unfold la_ab; omega
def sgA (n : Nat) (l : List (List Int)) (s : List Int) : Nat → Nat → Int := fun i j => rd (rd_L1 (signedM n l s) (i : Int)) (j : Int)
theorem signedM_vmat {n : Nat} {l : List (List Int)} (hE : endsIn n l) (hl : l.length ≤ 10) (s : List Int) (hs : ∀ i, i < l.length → rd s (i : Int) = 1 ∨ rd s (i : Int) = -1) : signedM n l s = vmat n (sgA n l s) ∧ nrm n (sgA n l s) ≤ 40 := by
  have hd := diag_nrm n l
  obtain ⟨g, e, b⟩ := walk_nrm hE s hs l.length 0 _ (by omega) (show nrm n (fun i j => if j = i then (degN l l.length i : Int) else 0) + 2 * (l.length : Int) ≤ 1000 by omega)
  have e2 : signedM n l s = vmat n g := by unfold signedM; rw [diagM_vmat, e]
  have e3 : ∀ i j, i < n → j < n → sgA n l s i j = g i j := fun i j hi hj => by unfold sgA; rw [e2, vmat_row hi, vrow_rd hj]
  refine ⟨by rw [e2]; exact vmat_congr (fun i j hi hj => (e3 i j hi hj).symm), ?_⟩
  have e4 : nrm n (sgA n l s) = nrm n g := la_sm_congr (fun i hi => la_sm_congr (fun j hj => by rw [e3 i j hi hj]))
  omega
theorem signs_pm {l : List (List Int)} {s : List Int} (h : signsOK l s = true) (i : Nat) (hi : i < l.length) : rd s (i : Int) = 1 ∨ rd s (i : Int) = -1 := by
  have hlen := signsOK_len h
  simp only [signsOK, Bool.and_eq_true, Bool.not_eq_true', List.any_eq_false] at h
  rw [rd_nat _ _ (by omega)]
  have h2 := h.2 s[i] (List.getElem_mem _)
  unfold badSign at h2
  simp at h2
  omega
theorem det_small {n : Nat} (hn : 1 ≤ n) (A : Nat → Nat → Int) (hA : nrm n A ≤ 40) : -2300000 ≤ la_det n A ∧ la_det n A ≤ 2300000 := by
  obtain ⟨m, rfl⟩ : ∃ m, n = m + 1 := ⟨n - 1, by omega⟩
  rw [← la_mi_diag]
  exact ab_le (bz_mi_bound A hA m m m (Nat.le_refl _) (by omega) (Nat.le_refl _) (by omega))
def signNumR (a : Int) (l : List (List Int)) (s : List Int) : Int × Int := if signCode a l s = 0 then (la_det a.toNat (sgA a.toNat l s), 0) else (0, signCode a l s)
theorem SignedNumber_1_ev (a : Int) (l : List (List Int)) (s : List Int) (hl : l.length ≤ maxLen) : Ev (fun k => impl_SignedNumber_1.f k a l a l s) (signCode a l s) := by
  unfold impl_SignedNumber_1.f signCode
  refine Ev.bind (impl_IsGraph_ev a l hl) ?_
  cases h : isG a l with
  | false => simp only [Bool.false_eq_true, if_false]; exact Ev.now _
  | true =>
    simp only [if_true, impl_Graph_areSigns.f, Option.bind_some]
    rw [show (decide ((s.length : Int) = (l.length : Int)) && !s.any badSign) = signsOK l s from rfl]
    cases signsOK l s with
    | false => simp only [Bool.false_eq_true, if_false]; exact Ev.now _
    | true => exact Ev.now _
theorem impl_SignedNumber_ev (a : Int) (l : List (List Int)) (s : List Int) (hl : l.length ≤ maxLen) : Ev (fun k => impl_SignedNumber.f k a l s) (signNumR a l s) := by
  unfold impl_SignedNumber.f signNumR
  refine Ev.bind (SignedNumber_1_ev a l s hl) ?_
  by_cases h : signCode a l s = 0
  · obtain ⟨hg, hk⟩ := signCode_zero h
    obtain ⟨n, rfl, hn1, hn8, hE⟩ := isG_ends hg
    simp only [h, if_true, Int.toNat_natCast]
    obtain ⟨e1, e2⟩ := signedM_vmat hE (isG_len hg) s (signs_pm hk)
    refine Ev.bind (signedLaplacian_ev n hn8 l (isG_small hg).1 hE s (signsOK_len hk)) ?_
    rw [e1]
    exact Ev.bind (wholeDeterminant_ev n (by omega) _ e2) (Ev.now _)
  · simp only [h, if_false]; exact Ev.now _
theorem spec_SignedNumber_ev (a : Int) (l : List (List Int)) (s : List Int) (hl : l.length ≤ maxLen) (hs : s.length ≤ maxLen) : Ev (fun k => spec_SignedNumber.f k a l s) (signNumR a l s) := by
  unfold spec_SignedNumber.f signNumR
  refine Ev.bind (l04Signs_ev a l s hl hs) ?_
  rw [show (if isG a l = true then if signsOK l s = true then (0 : Int) else 2 else 1) = signCode a l s from rfl]
  by_cases h : signCode a l s = 0
  · obtain ⟨hg, hk⟩ := signCode_zero h
    obtain ⟨n, rfl, hn1, hn8, hE⟩ := isG_ends hg
    simp only [h, if_true, Int.toNat_natCast]
    obtain ⟨e1, e2⟩ := signedM_vmat hE (isG_len hg) s (signs_pm hk)
    refine Ev.bind (l10Signed_ev n hn8 l (isG_small hg).1 (isG_two hg) hE s (signsOK_len hk)) ?_
    rw [e1]
    refine Ev.bind (berkowitz_ev n (by omega) _) ?_
    have hb := det_small hn1 _ e2
    generalize sgA n l s = A at hb ⊢
    have hr : rd (trimN (vrow (n + 1) (fun l => wrap64 (la_cp n A l))) (n + 1)) (n : Int) = la_sg n * la_det n A := by
      rw [trimN_rd, if_pos (by omega), vrow_rd (by omega)]
      rw [bz_cp_top]
      unfold la_sg
      split
      · exact w64 (by omega) (by omega)
      · exact w64 (by omega) (by omega)
    have hle := trimN_length (vrow (n + 1) (fun l => wrap64 (la_cp n A l))) (n + 1)
    generalize trimN (vrow (n + 1) (fun l => wrap64 (la_cp n A l))) (n + 1) = t at hr hle ⊢
    rw [w64 (show -9223372036854775808 ≤ (n : Int) + 1 by omega) (by omega)]
    by_cases h2 : (t.length : Int) = (n : Int) + 1
    · simp only [h2, if_true, show (0 : Int) ≤ (n : Int) by omega, show (n : Int) < (n : Int) + 1 by omega, hr]
      rw [Int.tmod_eq_emod_of_nonneg (by omega)]
      by_cases h3 : (n : Int) % 2 = 1
      · rw [if_pos h3]
        have e : la_sg n = -1 := by unfold la_sg; rw [if_neg (by omega)]
        rw [e, show -(-1 * la_det n A) = la_det n A by omega, w64 (by omega) (by omega)]
        exact Ev.now _
      · rw [if_neg h3]
        have e : la_sg n = 1 := by unfold la_sg; rw [if_pos (by omega)]
        rw [e, Int.one_mul]
        exact Ev.now _
    · simp only [h2, if_false]
      have hz : rd t (n : Int) = 0 := by
        unfold rd
        rw [Int.toNat_natCast, List.getD_eq_getElem?_getD, List.getElem?_eq_none (by omega)]
        rfl
      have h0 : la_det n A = 0 := by
        rw [hz] at hr
        unfold la_sg at hr
        split at hr <;> omega
      rw [h0]
      exact Ev.now _
  · simp only [h, if_false]; exact Ev.now _

def laws_FnExactSignedNumber.Pure : Prop := ∀ (a0_0 : Int) (l0_1 : List (List Int)) (l1 : List Int), (Lit.int .i64 a0_0).wf = true → l0_1.length ≤ maxLen → (∀ x ∈ l0_1, x.length ≤ maxLen ∧ ∀ n ∈ x, (Lit.int .i64 n).wf = true) → l1.length ≤ maxLen → (∀ n ∈ l1, (Lit.int .i64 n).wf = true) → ∃ k, laws_FnExactSignedNumber.f k a0_0 l0_1 l1 = some true
end Go.Proofs.Ytpckiapngjcijaa.G
namespace Go.Proofs.Ytpckiapngjcijaa.Pure
open Go.RowKit Go.Proofs.YtpckiapngjcijaaW.PrintWords Go.Proofs.YtpckiapngjcijaaW.PrintLast Go.Proofs.YtpckiapngjcijaaW.PrintMore Go.Proofs.Ytpckiapngjcijaa.G
theorem FnExactSignedNumber : laws_FnExactSignedNumber.Pure := by
  intro a l c _ hl hx hc _
  have hx' : ∀ x ∈ l, x.length ≤ maxLen := fun x h => (hx x h).1
  refine Ev.rounds (r := true) ?_
  unfold laws_FnExactSignedNumber.f
  by_cases h1 : (c.length : Int) > 1048576
  · simp only [h1, if_true]; exact Ev.now _
  · simp only [h1, if_false]
    obtain ⟨r, hr, _, _, h4⟩ := szGraph_ev a l 1048576 (by omega) (by omega) hl hx'
    refine Ev.bind hr ?_
    by_cases hn : r < 0
    · simp only [hn, if_true]; exact Ev.now _
    · simp only [hn, if_false]
      obtain ⟨s1, s2⟩ := h4 (by omega)
      have g := toGraph_ev a l (by omega) (fun x h => by have := s2 x h; omega)
      have v := toInt64S_ev c (by omega)
      refine Ev.bind g (Ev.bind v (Ev.bind (spec_SignedNumber_ev a l c hl hc) (Ev.bind g (Ev.bind v (Ev.bind (impl_SignedNumber_ev a l c hl) ?_)))))
      simp only [bne_self_eq_false, if_true]
      refine Ev.step (fun k => by simp only [laws_FnExactSignedNumber.j0]; rfl) ?_
      simp only [Bool.false_eq_true, if_false]
      refine Ev.bind g (Ev.bind (eqGraph_ev a l hl hx') ?_)
      simp only [if_true]
      refine Ev.bind v (Ev.bind (eqInt64S_ev c hc) ?_)
      simp only [if_true]
      exact Ev.now _

end Go.Proofs.Ytpckiapngjcijaa.Pure
