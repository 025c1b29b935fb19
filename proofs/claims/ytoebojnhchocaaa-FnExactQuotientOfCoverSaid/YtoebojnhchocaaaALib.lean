/- Plain lemmas on the Lean functions that FnExactQuotientOfCover reaches, the first half. No condition. -/
import Derived.Test.YtoebojnhchocaaaAWalk
namespace Go.Proofs.Ytoebojnhchocaaa.A
open Go.RowKit Go.Proofs.YtoebojnhchocaaaW.PrintWords Go.Proofs.YtoebojnhchocaaaW.PrintLast Go.Proofs.YtoebojnhchocaaaW.PrintMore
set_option linter.unusedVariables false
set_option linter.unusedSimpArgs false
theorem w64 {n : Int} (h0 : -9223372036854775808 ≤ n) (h1 : n ≤ 9223372036854775807) : wrap64 n = n := IntWalk.wrap64_in n ⟨h0, h1⟩
theorem fuel {k n : Nat} (h : n < k) : ∃ m, k = m + 1 ∧ n ≤ m := ⟨k - 1, by omega, by omega⟩
theorem rd_nat (l : List Int) (i : Nat) (h : i < l.length) : rd l (i : Int) = l[i] := by
  simp [rd, List.getD_eq_getElem?_getD, h]
theorem rdL1_nat (l : List (List Int)) (i : Nat) (h : i < l.length) : rd_L1 l (i : Int) = l[i] := by
  simp [rd_L1, List.getD_eq_getElem?_getD, h]
theorem take_set {α : Type} (x l : List α) (i : Nat) (hx : x.length = l.length) (hi : i < l.length) (h : x.take i = l.take i) : (x.set i l[i]).take (i + 1) = l.take (i + 1) := by
  apply List.ext_getElem?
  intro j
  rw [List.getElem?_take, List.getElem?_take]
  by_cases hj : j < i + 1
  · rw [if_pos hj, if_pos hj]
    by_cases hji : j = i
    · subst hji
      rw [List.getElem?_set_self (by omega), List.getElem?_eq_getElem hi]
    · rw [List.getElem?_set_ne (by omega)]
      have h2 := congrArg (fun z => z[j]?) h
      simp only [List.getElem?_take] at h2
      rwa [if_pos (by omega), if_pos (by omega)] at h2
  · rw [if_neg hj, if_neg hj]

theorem toInt64S_l0 (l : List Int) (hl : l.length ≤ 35184372088832) : ∀ (d k i : Nat) (x : List Int), l.length - i = d → d < k → i ≤ l.length → x.length = l.length → x.take i = l.take i → F26.l0 k l x i = some l := by
  intro d
  induction d with
  | zero =>
    intro k i x hd hk hi hx ht
    obtain ⟨m, rfl, hm⟩ := fuel hk
    simp only [F26.l0]
    rw [if_neg (by omega)]
    rw [List.take_of_length_le (by omega), List.take_of_length_le (by omega)] at ht
    rw [ht]
  | succ d ih =>
    intro k i x hd hk hi hx ht
    obtain ⟨m, rfl, hm⟩ := fuel hk
    have hil : i < l.length := by omega
    simp only [F26.l0]
    rw [if_pos (by omega), if_pos (by omega), if_pos (by omega), w64 (by omega) (by omega), rd_nat l i hil, Int.toNat_natCast]
    exact ih m (i + 1) _ (by omega) (by omega) (by omega) (by simp [hx]) (take_set x l i hx hil ht)
theorem toInt64S_ev (l : List Int) (hl : l.length ≤ 35184372088832) : Ev (fun k => F26.f k l) l := by
  refine Ev.of (F26.mono l) (k := l.length + 1) ?_
  unfold F26.f
  rw [if_pos (by omega), if_pos (by simpa using hl)]
  exact toInt64S_l0 l hl l.length _ 0 _ (by omega) (by omega) (by omega) (by simp) (by simp)
theorem toInt64SS_l0 (l : List (List Int)) (hl : l.length ≤ 11728124029610) (hx : ∀ x ∈ l, x.length ≤ 35184372088832) : ∀ (d i : Nat) (x : List (List Int)), l.length - i = d → i ≤ l.length → x.length = l.length → x.take i = l.take i → Ev (fun k => F83.l0 k l x i) l := by
  intro d
  induction d with
  | zero =>
    intro i x hd hi hx ht
    refine Ev.step (fun k => by simp only [F83.l0]; rfl) ?_
    rw [List.take_of_length_le (by omega), List.take_of_length_le (by omega)] at ht
    simp only [show ¬ ((i : Int) < (l.length : Int)) by omega, if_false, ht]
    exact Ev.now l
  | succ d ih =>
    intro i x hd hi hx' ht
    have hil : i < l.length := by omega
    refine Ev.step (fun k => by simp only [F83.l0]; rfl) ?_
    simp only [show ((i : Int) < (l.length : Int)) by omega, show (0 : Int) ≤ (i : Int) by omega, show ((i : Int) < (x.length : Int)) by omega, if_true, Int.toNat_natCast, w64 (show -9223372036854775808 ≤ (i : Int) + 1 by omega) (by omega), rdL1_nat l i hil]
    refine Ev.bind (toInt64S_ev l[i] (hx _ (List.getElem_mem hil))) ?_
    exact ih (i + 1) _ (by omega) (by omega) (by simp [hx']) (take_set x l i hx' hil ht)
theorem toInt64SS_ev (l : List (List Int)) (hl : l.length ≤ 11728124029610) (hx : ∀ x ∈ l, x.length ≤ 35184372088832) : Ev (fun k => F83.f k l) l := by
  unfold F83.f
  simp only [show (0 : Int) ≤ (l.length : Int) by omega, if_true, Int.toNat_natCast, hl]
  exact toInt64SS_l0 l hl hx l.length 0 _ (by omega) (by omega) (by simp) (by simp)
theorem toGraph_ev (a : Int) (l : List (List Int)) (hl : l.length ≤ 11728124029610) (hx : ∀ x ∈ l, x.length ≤ 35184372088832) : Ev (fun k => F25.f k a l) (a, l) := by
  unfold F25.f
  exact Ev.bind (toInt64SS_ev l hl hx) (Ev.now _)

theorem szInt64SS_l0 (l : List (List Int)) (hl : l.length ≤ maxLen) (hx : ∀ x ∈ l, x.length ≤ maxLen) : ∀ (d i : Nat) (a : Int), l.length - i = d → i ≤ l.length → 0 ≤ a → a ≤ 1048576 → ∃ r, Ev (fun k => F79.l0 k l a i) r ∧ r ≤ 1048576 ∧ -1 ≤ r ∧ (0 ≤ r → ∀ x ∈ l.drop i, x.length ≤ 1048576) := by
  unfold maxLen at hl hx
  intro d
  induction d with
  | zero =>
    intro i a hd hi h0 h1
    refine ⟨a, Ev.step (fun k => by simp only [F79.l0]; rfl) ?_, h1, by omega, fun _ x hx => ?_⟩
    · simp only [show ¬ ((i : Int) < (l.length : Int)) by omega, if_false]
      exact Ev.now _
    · rw [List.drop_of_length_le (by omega)] at hx; simp at hx
  | succ d ih =>
    intro i a hd hi h0 h1
    have hil : i < l.length := by omega
    have hxl := hx _ (List.getElem_mem hil)
    have hs : F156.f l[i] a = some (if a - (l[i].length : Int) < 0 then -1 else a - (l[i].length : Int)) := by
      unfold F156.f
      rw [w64 (by omega) (by omega)]
      split <;> rfl
    by_cases hn : a - (l[i].length : Int) < 0
    · rw [if_pos hn] at hs
      refine ⟨-1, Ev.step (fun k => by simp only [F79.l0]; rfl) ?_, by omega, by omega, fun h => by omega⟩
      simp only [show ((i : Int) < (l.length : Int)) by omega, show (0 : Int) ≤ (i : Int) by omega, if_true, rdL1_nat l i hil, hs, Option.bind_some]
      exact Ev.now _
    · rw [if_neg hn] at hs
      obtain ⟨r, hr, h2, h3, h4⟩ := ih (i + 1) (a - (l[i].length : Int)) (by omega) (by omega) (by omega) (by omega)
      refine ⟨r, Ev.step (fun k => by simp only [F79.l0]; rfl) ?_, h2, h3, fun h x hx => ?_⟩
      · simp only [show ((i : Int) < (l.length : Int)) by omega, show (0 : Int) ≤ (i : Int) by omega, if_true, rdL1_nat l i hil, hs, Option.bind_some, hn, if_false, w64 (show -9223372036854775808 ≤ (i : Int) + 1 by omega) (by omega)]
        exact hr
      · rw [List.drop_eq_getElem_cons hil] at hx
        rcases List.mem_cons.1 hx with rfl | hx
        · omega
        · exact h4 h x hx
/-- The sizes that the law lets by. -/
theorem szInt64SS_ev (l : List (List Int)) (a : Int) (ha : 0 ≤ a) (ha1 : a ≤ 1048576) (hl : l.length ≤ maxLen) (hx : ∀ x ∈ l, x.length ≤ maxLen) : ∃ r, Ev (fun k => F79.f k l a) r ∧ r ≤ 1048576 ∧ -1 ≤ r ∧ (0 ≤ r → l.length ≤ 1048576 ∧ ∀ x ∈ l, x.length ≤ 1048576) := by
  have hl' := hl
  unfold maxLen at hl'
  unfold F79.f
  rw [w64 (by omega) (by omega)]
  by_cases hn : a - (l.length : Int) < 0
  · refine ⟨-1, ?_, by omega, by omega, fun h => by omega⟩
    simp only [hn, if_true]
    exact Ev.now _
  · obtain ⟨r, hr, h2, h3, h4⟩ := szInt64SS_l0 l hl hx l.length 0 (a - (l.length : Int)) (by omega) (by omega) (by omega) (by omega)
    refine ⟨r, ?_, h2, h3, fun h => ⟨by omega, by simpa using h4 h⟩⟩
    simp only [hn, if_false]
    exact hr
theorem szGraph_ev (s : Int) (l : List (List Int)) (a : Int) (ha : 0 ≤ a) (ha1 : a ≤ 1048576) (hl : l.length ≤ maxLen) (hx : ∀ x ∈ l, x.length ≤ maxLen) : ∃ r, Ev (fun k => F23.f k s l a) r ∧ r ≤ 1048576 ∧ -1 ≤ r ∧ (0 ≤ r → l.length ≤ 1048576 ∧ ∀ x ∈ l, x.length ≤ 1048576) := by
  obtain ⟨r, hr, h2, h3, h4⟩ := szInt64SS_ev l a ha ha1 hl hx
  unfold F23.f
  by_cases hn : r < 0
  · refine ⟨-1, Ev.bind hr ?_, by omega, by omega, fun h => by omega⟩
    simp only [hn, if_true]
    exact Ev.now _
  · refine ⟨r, Ev.bind hr ?_, h2, h3, h4⟩
    simp only [hn, if_false]
    exact Ev.now _
/-- Equal lists are told equal. -/
theorem eqInt64S_l0 (l : List Int) (hl : l.length ≤ maxLen) : ∀ (d i : Nat), l.length - i = d → i ≤ l.length → Ev (fun k => F18.l0 k l l i) true := by
  unfold maxLen at hl
  intro d
  induction d with
  | zero =>
    intro i hd hi
    refine Ev.step (fun k => by simp only [F18.l0]; rfl) ?_
    simp only [show ¬ ((i : Int) < (l.length : Int)) by omega, if_false]
    exact Ev.now _
  | succ d ih =>
    intro i hd hi
    refine Ev.step (fun k => by simp only [F18.l0]; rfl) ?_
    simp only [show ((i : Int) < (l.length : Int)) by omega, show (0 : Int) ≤ (i : Int) by omega, if_true, w64 (show -9223372036854775808 ≤ (i : Int) + 1 by omega) (by omega)]
    exact ih (i + 1) (by omega) (by omega)
theorem eqInt64S_ev (l : List Int) (hl : l.length ≤ maxLen) : Ev (fun k => F18.f k l l) true := by
  unfold F18.f
  simp only [if_true]
  exact eqInt64S_l0 l hl l.length 0 (by omega) (by omega)
theorem eqInt64SS_l0 (l : List (List Int)) (hl : l.length ≤ maxLen) (hx : ∀ x ∈ l, x.length ≤ maxLen) : ∀ (d i : Nat), l.length - i = d → i ≤ l.length → Ev (fun k => F87.l0 k l l i) true := by
  unfold maxLen at hl
  intro d
  induction d with
  | zero =>
    intro i hd hi
    refine Ev.step (fun k => by simp only [F87.l0]; rfl) ?_
    simp only [show ¬ ((i : Int) < (l.length : Int)) by omega, if_false]
    exact Ev.now _
  | succ d ih =>
    intro i hd hi
    have hil : i < l.length := by omega
    refine Ev.step (fun k => by simp only [F87.l0]; rfl) ?_
    simp only [show ((i : Int) < (l.length : Int)) by omega, show (0 : Int) ≤ (i : Int) by omega, if_true, w64 (show -9223372036854775808 ≤ (i : Int) + 1 by omega) (by omega), rdL1_nat l i hil]
    refine Ev.bind (eqInt64S_ev l[i] (hx _ (List.getElem_mem hil))) ?_
    simp only [if_true]
    exact ih (i + 1) (by omega) (by omega)
theorem eqInt64SS_ev (l : List (List Int)) (hl : l.length ≤ maxLen) (hx : ∀ x ∈ l, x.length ≤ maxLen) : Ev (fun k => F87.f k l l) true := by
  unfold F87.f
  simp only [if_true]
  exact eqInt64SS_l0 l hl hx l.length 0 (by omega) (by omega)
theorem eqGraph_ev (a : Int) (l : List (List Int)) (hl : l.length ≤ maxLen) (hx : ∀ x ∈ l, x.length ≤ maxLen) : Ev (fun k => F28.f k a l a l) true := by
  unfold F28.f
  simp only [if_true]
  refine Ev.bind (eqInt64SS_ev l hl hx) ?_
  simp only [if_true]
  exact Ev.now _
/-! ### what a graph is -/
def endIn (a n : Int) : Bool := decide (0 ≤ n) && decide (n ≤ wrap64 (a - 1))
def edgeIn (a : Int) (e : List Int) : Bool := decide (e.length = 2) && (endIn a (rd e 0) && endIn a (rd e 1))
def isG (a : Int) (l : List (List Int)) : Bool := decide (1 ≤ a) && (decide (a ≤ 8) && (decide (l.length ≤ 10) && l.all (edgeIn a)))
theorem within_eq (a b c : Int) : F194.f a b c = some (decide (b ≤ a) && decide (a ≤ c)) := by
  unfold F194.f
  by_cases h : b ≤ a <;> simp [h]
theorem l01In_eq (a b c : Int) : F172.f a b c = some (decide (b ≤ a) && decide (a ≤ c)) := by
  unfold F172.f
  by_cases h : b ≤ a <;> simp [h]
theorem impl_IsGraph_l0 (a : Int) (l : List (List Int)) (hl : l.length ≤ maxLen) : ∀ (d i : Nat), l.length - i = d → i ≤ l.length → Ev (fun k => F106.l0 k l l.length i a l) ((l.drop i).all (edgeIn a) && (decide (1 ≤ a) && (decide (a ≤ 8) && decide (l.length ≤ 10)))) := by
  unfold maxLen at hl
  intro d
  induction d with
  | zero =>
    intro i hd hi
    refine Ev.step (fun k => by simp only [F106.l0]; rfl) ?_
    simp only [show ¬ ((i : Int) < (l.length : Int)) by omega, if_false, within_eq, Option.bind_some, List.drop_of_length_le (show l.length ≤ i by omega), List.all_nil, Bool.true_and]
    by_cases h1 : 1 ≤ a
    · by_cases h2 : a ≤ 8
      · simp only [h1, h2, decide_true, Bool.true_and, if_true]
        exact Ev.congr (fun k => by congr 1; simp; omega) (Ev.now _)
      · simp only [h1, h2, decide_true, decide_false, Bool.true_and, Bool.false_and, Bool.false_eq_true, if_false]
        exact Ev.now _
    · simp only [h1, decide_false, Bool.false_and, Bool.false_eq_true, if_false]
      exact Ev.now _
  | succ d ih =>
    intro i hd hi
    have hil : i < l.length := by omega
    refine Ev.step (fun k => by simp only [F106.l0]; rfl) ?_
    have hdrop : (l.drop i).all (edgeIn a) = (edgeIn a l[i] && (l.drop (i + 1)).all (edgeIn a)) := by rw [List.drop_eq_getElem_cons hil, List.all_cons]
    rw [hdrop]
    simp only [show ((i : Int) < (l.length : Int)) by omega, show (0 : Int) ≤ (i : Int) by omega, if_true, w64 (show -9223372036854775808 ≤ (i : Int) + 1 by omega) (by omega), rdL1_nat l i hil, within_eq, Option.bind_some]
    unfold edgeIn endIn
    by_cases h2 : l[i].length = 2
    · simp only [h2, decide_true, Bool.true_and, show ((2 : Nat) : Int) = 2 from rfl, if_true, show (0 : Int) < 2 by omega, show (1 : Int) < 2 by omega]
      by_cases h3 : (decide (0 ≤ rd l[i] 0) && decide (rd l[i] 0 ≤ wrap64 (a - 1))) = true
      · by_cases h4 : (decide (0 ≤ rd l[i] 1) && decide (rd l[i] 1 ≤ wrap64 (a - 1))) = true
        · simp only [h3, h4, if_true, Bool.true_and]
          exact ih (i + 1) (by omega) (by omega)
        · simp only [Bool.not_eq_true] at h4
          simp only [h3, h4, if_true, Bool.false_and, Bool.and_false, Bool.false_eq_true, if_false]
          exact Ev.now _
      · simp only [Bool.not_eq_true] at h3
        simp only [h3, Bool.false_and, Bool.false_eq_true, if_false]
        exact Ev.now _
    · simp only [show ¬ ((l[i].length : Int) = 2) by omega, h2, decide_false, Bool.false_and, if_false]
      exact Ev.now _
theorem impl_IsGraph_ev (a : Int) (l : List (List Int)) (hl : l.length ≤ maxLen) : Ev (fun k => F106.f k a l) (isG a l) := by
  unfold F106.f
  have h := impl_IsGraph_l0 a l hl l.length 0 (by omega) (by omega)
  have e : ((l.drop 0).all (edgeIn a) && (decide (1 ≤ a) && (decide (a ≤ 8) && decide (l.length ≤ 10)))) = isG a l := by
    unfold isG
    rw [List.drop_zero]
    cases l.all (edgeIn a) <;> simp
  rw [e] at h
  exact h
theorem spec_l01Is_l0 (a : Int) (l : List (List Int)) (hl : l.length ≤ maxLen) : ∀ (d i : Nat), l.length - i = d → i ≤ l.length → Ev (fun k => F100.l0 k i a l) ((l.drop i).all (edgeIn a)) := by
  unfold maxLen at hl
  intro d
  induction d with
  | zero =>
    intro i hd hi
    refine Ev.step (fun k => by simp only [F100.l0]; rfl) ?_
    simp only [show ¬ ((i : Int) < (l.length : Int)) by omega, if_false, List.drop_of_length_le (show l.length ≤ i by omega), List.all_nil]
    exact Ev.now _
  | succ d ih =>
    intro i hd hi
    have hil : i < l.length := by omega
    refine Ev.step (fun k => by simp only [F100.l0]; rfl) ?_
    have hdrop : (l.drop i).all (edgeIn a) = (edgeIn a l[i] && (l.drop (i + 1)).all (edgeIn a)) := by rw [List.drop_eq_getElem_cons hil, List.all_cons]
    rw [hdrop]
    simp only [show ((i : Int) < (l.length : Int)) by omega, show (0 : Int) ≤ (i : Int) by omega, if_true, w64 (show -9223372036854775808 ≤ (i : Int) + 1 by omega) (by omega), rdL1_nat l i hil, l01In_eq, Option.bind_some]
    unfold edgeIn endIn
    by_cases h2 : l[i].length = 2
    · simp only [h2, decide_true, Bool.true_and, show ((2 : Nat) : Int) = 2 from rfl, if_true, show (0 : Int) < 2 by omega, show (1 : Int) < 2 by omega]
      by_cases h3 : (decide (0 ≤ rd l[i] 0) && decide (rd l[i] 0 ≤ wrap64 (a - 1))) = true
      · by_cases h4 : (decide (0 ≤ rd l[i] 1) && decide (rd l[i] 1 ≤ wrap64 (a - 1))) = true
        · simp only [h3, h4, if_true, Bool.true_and]
          exact ih (i + 1) (by omega) (by omega)
        · simp only [Bool.not_eq_true] at h4
          simp only [h3, h4, if_true, Bool.false_and, Bool.and_false, Bool.false_eq_true, if_false]
          exact Ev.now _
      · simp only [Bool.not_eq_true] at h3
        simp only [h3, Bool.false_and, Bool.false_eq_true, if_false]
        exact Ev.now _
    · simp only [show ¬ ((l[i].length : Int) = 2) by omega, h2, decide_false, Bool.false_and, if_false]
      exact Ev.now _
theorem spec_l01Is_ev (a : Int) (l : List (List Int)) (hl : l.length ≤ maxLen) : Ev (fun k => F100.f k a l) (isG a l) := by
  unfold F100.f isG
  simp only [l01In_eq, Option.bind_some]
  have hj : ∀ b, Ev (fun k => F100.j0 k b a l) (!b && l.all (edgeIn a)) := by
    intro b
    refine Ev.step (fun k => by simp only [F100.j0]; rfl) ?_
    cases b with
    | true => simp only [if_true, Bool.not_true, Bool.false_and]; exact Ev.now _
    | false =>
      simp only [Bool.false_eq_true, if_false, Bool.not_false, Bool.true_and]
      exact spec_l01Is_l0 a l hl l.length 0 (by omega) (by omega)
  by_cases h1 : 1 ≤ a
  · by_cases h2 : a ≤ 8
    · simp only [h1, h2, decide_true, Bool.true_and, if_true]
      have h := hj (decide ((l.length : Int) > 10))
      have e : (!decide ((l.length : Int) > 10)) = decide (l.length ≤ 10) := by
        by_cases h : l.length ≤ 10
        · simp [h]; omega
        · simp [h]; omega
      rw [e] at h
      exact h
    · simp only [h1, h2, decide_true, decide_false, Bool.true_and, Bool.false_and, Bool.false_eq_true, if_false]
      exact hj true
  · simp only [h1, decide_false, Bool.false_and, Bool.false_eq_true, if_false]
    exact hj true
def la_sm : Nat → (Nat → Int) → Int
  | 0, _ => 0
  | n+1, f => la_sm n f + f n
theorem la_sm_congr {n : Nat} {f g : Nat → Int} (h : ∀ i, i < n → f i = g i) : la_sm n f = la_sm n g := by
  induction n with
  | zero => rfl
  | succ n ih => simp only [la_sm]; rw [ih (fun i hi => h i (by omega)), h n (by omega)]
theorem la_sm_zero {n : Nat} {f : Nat → Int} (h : ∀ i, i < n → f i = 0) : la_sm n f = 0 := by
  induction n with
  | zero => rfl
  | succ n ih => simp only [la_sm]; rw [ih (fun i hi => h i (by omega)), h n (by omega)]; rfl
theorem la_sm_add (n : Nat) (f g : Nat → Int) : la_sm n (fun i => f i + g i) = la_sm n f + la_sm n g := by
  induction n with
  | zero => rfl
  | succ n ih => simp only [la_sm]; rw [ih]; omega
theorem la_sm_mul (n : Nat) (x : Int) (f : Nat → Int) : la_sm n (fun i => x * f i) = x * la_sm n f := by
  induction n with
  | zero => simp [la_sm]
  | succ n ih => simp only [la_sm]; rw [ih, Int.mul_add]
theorem la_sm_neg (n : Nat) (f : Nat → Int) : la_sm n (fun i => - f i) = - la_sm n f := by
  induction n with
  | zero => rfl
  | succ n ih => simp only [la_sm]; rw [ih]; omega
theorem la_sm_sub (n : Nat) (f g : Nat → Int) : la_sm n (fun i => f i - g i) = la_sm n f - la_sm n g := by
  induction n with
  | zero => rfl
  | succ n ih => simp only [la_sm]; rw [ih]; omega
theorem la_sm_single {n : Nat} {f : Nat → Int} (k : Nat) (hk : k < n) (h : ∀ i, i < n → i ≠ k → f i = 0) : la_sm n f = f k := by
  induction n with
  | zero => omega
  | succ n ih =>
    simp only [la_sm]
    by_cases hkn : k = n
    · subst hkn
      rw [la_sm_zero (fun i hi => h i (by omega) (by omega))]; omega
    · rw [ih (by omega) (fun i hi hne => h i (by omega) hne), h n (by omega) (by omega)]; omega
theorem la_sm_two {n : Nat} {f : Nat → Int} (k l : Nat) (hk : k < n) (hl : l < n) (hkl : k ≠ l) (h : ∀ i, i < n → i ≠ k → i ≠ l → f i = 0) : la_sm n f = f k + f l := by
  have e : la_sm n f = la_sm n (fun i => (if i = k then f k else 0) + (if i = l then f l else 0)) := by
    refine la_sm_congr (fun i hi => ?_)
    by_cases h1 : i = k
    · subst h1; simp [hkl]
    · by_cases h2 : i = l
      · subst h2; simp [h1]
      · simp [h1, h2, h i hi h1 h2]
  rw [e, la_sm_add, la_sm_single k hk (fun i _ hne => by simp [hne]), la_sm_single l hl (fun i _ hne => by simp [hne])]
  simp
theorem la_sm_succ' (n : Nat) (f : Nat → Int) : la_sm (n+1) f = f 0 + la_sm n (fun i => f (i+1)) := by
  induction n with
  | zero => simp [la_sm]
  | succ n ih =>
    rw [show la_sm (n+1+1) f = la_sm (n+1) f + f (n+1) from rfl, ih]
    simp only [la_sm]; omega
theorem la_sm_swap (n m : Nat) (f : Nat → Nat → Int) : la_sm n (fun i => la_sm m (fun j => f i j)) = la_sm m (fun j => la_sm n (fun i => f i j)) := by
  induction n with
  | zero => simp only [la_sm]; rw [la_sm_zero (fun _ _ => rfl)]
  | succ n ih => simp only [la_sm]; rw [ih, la_sm_add]
theorem la_sm_split (n m : Nat) (f : Nat → Int) : la_sm (n + m) f = la_sm n f + la_sm m (fun i => f (n + i)) := by
  induction m with
  | zero => simp [la_sm]
  | succ m ih => rw [← Nat.add_assoc]; simp only [la_sm]; rw [ih]; omega
theorem la_sm_ext {n m : Nat} {f : Nat → Int} (h : n ≤ m) (hz : ∀ i, n ≤ i → i < m → f i = 0) : la_sm m f = la_sm n f := by
  obtain ⟨d, rfl⟩ := Nat.exists_eq_add_of_le h
  rw [la_sm_split, la_sm_zero (n := d) (fun i hi => hz _ (by omega) (by omega))]; omega
theorem la_sm_pairs (n : Nat) (f : Nat → Nat → Int) :
    la_sm (n+1) (fun i => la_sm n (fun j => f i j)) = la_sm (n+1) (fun b => la_sm b (fun a => f b a + f a (b-1))) := by
  induction n with
  | zero => simp [la_sm]
  | succ n ih =>
    rw [show la_sm (n+1+1) (fun b => la_sm b (fun a => f b a + f a (b-1))) = la_sm (n+1) (fun b => la_sm b (fun a => f b a + f a (b-1))) + la_sm (n+1) (fun a => f (n+1) a + f a n) from rfl]
    rw [← ih, la_sm_add]
    rw [show la_sm (n+1+1) (fun i => la_sm (n+1) (fun j => f i j)) = la_sm (n+1) (fun i => la_sm (n+1) (fun j => f i j)) + la_sm (n+1) (fun j => f (n+1) j) from rfl]
    rw [show (fun i => la_sm (n+1) (fun j => f i j)) = (fun i => la_sm n (fun j => f i j) + f i n) from rfl, la_sm_add]
    have : la_sm (n+1) (f (n+1)) = la_sm (n+1) (fun j => f (n+1) j) := rfl
    omega
def la_sk (i a : Nat) : Nat := if a < i then a else a + 1
def la_sg (i : Nat) : Int := if i % 2 = 0 then 1 else -1
theorem la_sg_succ (i : Nat) : la_sg (i+1) = - la_sg i := by
  unfold la_sg; by_cases h : i % 2 = 0
  · rw [if_pos h, if_neg (by omega)]
  · rw [if_neg h, if_pos (by omega)]; rfl
theorem la_sk_lt {i a n : Nat} (hi : i < n + 1) (ha : a < n) : la_sk i a < n + 1 := by unfold la_sk; split <;> omega
def la_det : Nat → (Nat → Nat → Int) → Int
  | 0, _ => 1
  | n+1, M => la_sm (n+1) (fun i => la_sg i * M i 0 * la_det n (fun a b => M (la_sk i a) (b+1)))
theorem la_det_succ (n : Nat) (M : Nat → Nat → Int) : la_det (n+1) M = la_sm (n+1) (fun i => la_sg i * M i 0 * la_det n (fun a b => M (la_sk i a) (b+1))) := rfl
theorem la_det_congr {n : Nat} : ∀ {M N : Nat → Nat → Int}, (∀ a b, a < n → b < n → M a b = N a b) → la_det n M = la_det n N := by
  induction n with
  | zero => intros; rfl
  | succ n ih =>
    intro M N h
    rw [la_det_succ, la_det_succ]
    refine la_sm_congr (fun i hi => ?_)
    rw [h i 0 hi (by omega), ih (fun a b ha hb => h _ _ (la_sk_lt hi ha) (by omega))]
def la_rr (M : Nat → Nat → Int) (i : Nat) (r : Nat → Int) : Nat → Nat → Int := fun a b => if a = i then r b else M a b
def la_rc (M : Nat → Nat → Int) (j : Nat) (c : Nat → Int) : Nat → Nat → Int := fun a b => if b = j then c a else M a b
def la_un (i a : Nat) : Nat := if a < i then a else a - 1
theorem la_sk_eq_iff {i a k : Nat} (h : k ≠ i) : la_sk i a = k ↔ a = la_un i k := by unfold la_sk la_un; split <;> split <;> omega
theorem la_un_lt {i k n : Nat} (hi : i < n + 1) (hk : k < n + 1) (h : k ≠ i) : la_un i k < n := by unfold la_un; split <;> omega
theorem la_sk_ne (i a : Nat) : la_sk i a ≠ i := by unfold la_sk; split <;> omega
theorem la_minor_rr {M : Nat → Nat → Int} {i k : Nat} {r : Nat → Int} (h : k ≠ i) : (fun a b => la_rr M k r (la_sk i a) (b+1)) = la_rr (fun a b => M (la_sk i a) (b+1)) (la_un i k) (fun b => r (b+1)) := by
  funext a b
  unfold la_rr
  by_cases e : la_sk i a = k
  · rw [if_pos e, if_pos ((la_sk_eq_iff h).mp e)]
  · rw [if_neg e, if_neg (fun h' => e ((la_sk_eq_iff h).mpr h'))]
theorem la_minor_rr_self {M : Nat → Nat → Int} {k : Nat} {r : Nat → Int} : (fun a b => la_rr M k r (la_sk k a) (b+1)) = (fun a b => M (la_sk k a) (b+1)) := by
  funext a b
  unfold la_rr
  rw [if_neg (la_sk_ne k a)]
theorem la_det_row_lin {n : Nat} : ∀ (M : Nat → Nat → Int) (k : Nat), k < n → ∀ (x y : Int) (r s : Nat → Int), la_det n (la_rr M k (fun b => x * r b + y * s b)) = x * la_det n (la_rr M k r) + y * la_det n (la_rr M k s) := by
  induction n with
  | zero => intro M k hk; omega
  | succ n ih =>
    intro M k hk x y r s
    rw [la_det_succ, la_det_succ, la_det_succ, ← la_sm_mul, ← la_sm_mul, ← la_sm_add]
    refine la_sm_congr (fun i hi => ?_)
    by_cases e : k = i
    · subst e
      rw [la_minor_rr_self, la_minor_rr_self, la_minor_rr_self]
      simp only [la_rr, if_true]
      generalize la_det n _ = D
      grind
    · rw [la_minor_rr e, la_minor_rr e, la_minor_rr e, ih _ _ (la_un_lt hi hk e)]
      simp only [la_rr, if_neg (Ne.symm e)]
      generalize la_det n _ = D
      generalize la_det n _ = E
      grind
theorem la_det_row_smul {n : Nat} (M : Nat → Nat → Int) (k : Nat) (hk : k < n) (x : Int) (r : Nat → Int) : la_det n (la_rr M k (fun b => x * r b)) = x * la_det n (la_rr M k r) := by
  have := la_det_row_lin M k hk x 0 r r
  simpa using this
theorem la_det_row_add {n : Nat} (M : Nat → Nat → Int) (k : Nat) (hk : k < n) (r s : Nat → Int) : la_det n (la_rr M k (fun b => r b + s b)) = la_det n (la_rr M k r) + la_det n (la_rr M k s) := by
  have := la_det_row_lin M k hk 1 1 r s
  simpa using this
theorem la_rr_self (M : Nat → Nat → Int) (k : Nat) : la_rr M k (M k) = M := by
  funext a b; unfold la_rr; split
  · case _ h => rw [h]
  · rfl
theorem la_rr_comm (M : Nat → Nat → Int) {k l : Nat} (h : k ≠ l) (r s : Nat → Int) : la_rr (la_rr M k r) l s = la_rr (la_rr M l s) k r := by
  funext a b; unfold la_rr; by_cases e : a = l
  · subst e; simp [Ne.symm h]
  · simp [e]
theorem la_det_row_zero {n : Nat} (M : Nat → Nat → Int) (k : Nat) (hk : k < n) (h : ∀ b, b < n → M k b = 0) : la_det n M = 0 := by
  have e : la_det n M = la_det n (la_rr M k (fun b => 0 * M k b)) := by
    refine la_det_congr (fun a b _ hb => ?_)
    unfold la_rr; split
    · case _ h' => rw [h', h b hb]; simp
    · rfl
  rw [e, la_det_row_smul _ _ hk]; simp
theorem la_det_adj {n : Nat} : ∀ (M : Nat → Nat → Int) (k : Nat), k + 1 < n → (∀ b, b < n → M k b = M (k+1) b) → la_det n M = 0 := by
  induction n with
  | zero => intro M k hk; omega
  | succ n ih =>
    intro M k hk h
    rw [la_det_succ, la_sm_two k (k+1) (by omega) hk (by omega)]
    · have e : la_det n (fun a b => M (la_sk k a) (b+1)) = la_det n (fun a b => M (la_sk (k+1) a) (b+1)) := by
        refine la_det_congr (fun a b ha hb => ?_)
        by_cases h1 : a = k
        · subst h1
          have e1 : la_sk a a = a + 1 := by unfold la_sk; split <;> omega
          have e2 : la_sk (a+1) a = a := by unfold la_sk; split <;> omega
          rw [e1, e2, h _ (by omega)]
        · have : la_sk k a = la_sk (k+1) a := by unfold la_sk; split <;> split <;> omega
          rw [this]
      rw [e, la_sg_succ, h 0 (by omega)]
      generalize la_det n _ = D
      grind
    · intro i hi h1 h2
      have : la_det n (fun a b => M (la_sk i a) (b+1)) = 0 := by
        by_cases hik : i < k
        · refine ih _ (k-1) (by omega) (fun b hb => ?_)
          have e1 : la_sk i (k-1) = k := by unfold la_sk; split <;> omega
          have e2 : la_sk i (k-1+1) = k+1 := by unfold la_sk; split <;> omega
          simp only [e1, e2]; exact h _ (by omega)
        · refine ih _ k (by omega) (fun b hb => ?_)
          have e1 : la_sk i k = k := by unfold la_sk; split <;> omega
          have e2 : la_sk i (k+1) = k+1 := by unfold la_sk; split <;> omega
          simp only [e1, e2]; exact h _ (by omega)
      rw [this]; simp
theorem la_det_adj_swap {n : Nat} (M : Nat → Nat → Int) (k : Nat) (hk : k + 1 < n) (r s : Nat → Int) : la_det n (la_rr (la_rr M k r) (k+1) s) = - la_det n (la_rr (la_rr M k s) (k+1) r) := by
  have h0 : la_det n (la_rr (la_rr M k (fun b => r b + s b)) (k+1) (fun b => r b + s b)) = 0 :=
    la_det_adj _ k hk (fun b _ => by simp [la_rr])
  have hr : la_det n (la_rr (la_rr M k r) (k+1) r) = 0 := la_det_adj _ k hk (fun b _ => by simp [la_rr])
  have hs : la_det n (la_rr (la_rr M k s) (k+1) s) = 0 := la_det_adj _ k hk (fun b _ => by simp [la_rr])
  rw [la_det_row_add _ _ hk, la_rr_comm _ (show k ≠ k+1 by omega), la_rr_comm _ (show k ≠ k+1 by omega), la_det_row_add _ _ (by omega), la_det_row_add _ _ (by omega)] at h0
  rw [la_rr_comm _ (show k+1 ≠ k by omega), la_rr_comm _ (show k+1 ≠ k by omega), la_rr_comm _ (show k+1 ≠ k by omega), la_rr_comm _ (show k+1 ≠ k by omega), hr, hs] at h0
  omega
theorem la_det_alt {n : Nat} : ∀ (d : Nat) (M : Nat → Nat → Int) (k : Nat), k + 1 + d < n → (∀ b, b < n → M k b = M (k + 1 + d) b) → la_det n M = 0 := by
  intro d
  induction d with
  | zero => intro M k hk h; exact la_det_adj M k hk h
  | succ d ih =>
    intro M k hk h
    have e : M = la_rr (la_rr M (k+1+d) (M (k+1+d))) (k+1+d+1) (M (k+1+d+1)) := by
      rw [la_rr_self, la_rr_self]
    rw [e, la_det_adj_swap _ _ (by omega)]
    rw [ih _ k (by omega) (fun b hb => ?_)]
    · rfl
    · simp only [la_rr]
      rw [if_neg (by omega), if_neg (by omega), if_neg (by omega), if_pos trivial]
      exact h b hb
theorem la_det_eq_rows {n : Nat} (M : Nat → Nat → Int) (k l : Nat) (hk : k < n) (hl : l < n) (hkl : k ≠ l) (h : ∀ b, b < n → M k b = M l b) : la_det n M = 0 := by
  rcases Nat.lt_or_gt_of_ne hkl with h1 | h1
  · obtain ⟨d, rfl⟩ := Nat.exists_eq_add_of_lt h1
    exact la_det_alt d M k (by omega) (fun b hb => by rw [h b hb]; congr 1; omega)
  · obtain ⟨d, rfl⟩ := Nat.exists_eq_add_of_lt h1
    exact la_det_alt d M l (by omega) (fun b hb => by rw [← h b hb]; congr 1; omega)
theorem la_det_row_addmul {n : Nat} (M : Nat → Nat → Int) (k l : Nat) (hk : k < n) (hl : l < n) (hkl : k ≠ l) (x : Int) : la_det n (la_rr M k (fun b => M k b + x * M l b)) = la_det n M := by
  have h1 := la_det_row_lin M k hk 1 x (M k) (M l)
  have h2 : la_det n (la_rr M k (M l)) = 0 := la_det_eq_rows _ k l hk hl hkl (fun b _ => by simp [la_rr, Ne.symm hkl])
  rw [h2, la_rr_self] at h1
  simpa using h1
theorem la_det_rows_addmul {n : Nat} (M : Nat → Nat → Int) (l : Nat) (hl : l < n) (x : Nat → Int) (hx : x l = 0) : la_det n (fun a b => M a b + x a * M l b) = la_det n M := by
  have key : ∀ m, m ≤ n → la_det n (fun a b => if a < m then M a b + x a * M l b else M a b) = la_det n M := by
    intro m
    induction m with
    | zero => intro _; exact la_det_congr (fun a b _ _ => by simp)
    | succ m ih =>
      intro hm
      rw [← ih (by omega)]
      by_cases hml : m = l
      · subst hml
        refine la_det_congr (fun a b _ _ => ?_)
        by_cases h1 : a < m
        · rw [if_pos h1, if_pos (by omega)]
        · by_cases h2 : a = m
          · subst h2; simp [hx]
          · rw [if_neg h1, if_neg (by omega)]
      · rw [← la_det_row_addmul (fun a b => if a < m then M a b + x a * M l b else M a b) m l (by omega) hl hml (x m)]
        refine la_det_congr (fun a b _ _ => ?_)
        simp only [la_rr]
        by_cases h2 : a = m
        · subst h2
          by_cases h3 : l < a
          · simp [h3, hx]
          · simp [h3]
        · by_cases h1 : a < m
          · rw [if_pos (by omega), if_neg h2, if_pos h1]
          · rw [if_neg (by omega), if_neg h2, if_neg h1]
  rw [← key n (Nat.le_refl n)]
  exact la_det_congr (fun a b ha _ => by rw [if_pos ha])
theorem la_det_swap {n : Nat} (M : Nat → Nat → Int) (k l : Nat) (hk : k < n) (hl : l < n) (hkl : k ≠ l) : la_det n (la_rr (la_rr M k (M l)) l (M k)) = - la_det n M := by
  have h0 : la_det n (la_rr (la_rr M k (fun b => M k b + M l b)) l (fun b => M k b + M l b)) = 0 :=
    la_det_eq_rows _ k l hk hl hkl (fun b _ => by simp [la_rr, hkl])
  have hr : la_det n (la_rr (la_rr M k (M k)) l (M k)) = 0 := la_det_eq_rows _ k l hk hl hkl (fun b _ => by simp [la_rr, hkl])
  have hs : la_det n (la_rr (la_rr M k (M l)) l (M l)) = 0 := la_det_eq_rows _ k l hk hl hkl (fun b _ => by simp [la_rr, hkl])
  rw [la_det_row_add _ _ hl, la_rr_comm _ hkl, la_rr_comm _ hkl, la_det_row_add _ _ hk, la_det_row_add _ _ hk] at h0
  rw [la_rr_comm _ (Ne.symm hkl), la_rr_comm _ (Ne.symm hkl), la_rr_comm _ (Ne.symm hkl), la_rr_comm _ (Ne.symm hkl), hr, hs, la_rr_self, la_rr_self] at h0
  omega
theorem la_minor_rc {M : Nat → Nat → Int} {i k : Nat} {c : Nat → Int} : (fun a b => la_rc M (k+1) c (la_sk i a) (b+1)) = la_rc (fun a b => M (la_sk i a) (b+1)) k (fun a => c (la_sk i a)) := by
  funext a b
  unfold la_rc
  by_cases e : b = k
  · subst e; simp
  · simp [e]
theorem la_minor_rc0 {M : Nat → Nat → Int} {i : Nat} {c : Nat → Int} : (fun a b => la_rc M 0 c (la_sk i a) (b+1)) = (fun a b => M (la_sk i a) (b+1)) := by
  funext a b; unfold la_rc; simp
theorem la_det_col_lin {n : Nat} : ∀ (M : Nat → Nat → Int) (k : Nat), k < n → ∀ (x y : Int) (r s : Nat → Int), la_det n (la_rc M k (fun b => x * r b + y * s b)) = x * la_det n (la_rc M k r) + y * la_det n (la_rc M k s) := by
  induction n with
  | zero => intro M k hk; omega
  | succ n ih =>
    intro M k hk x y r s
    rw [la_det_succ, la_det_succ, la_det_succ, ← la_sm_mul, ← la_sm_mul, ← la_sm_add]
    refine la_sm_congr (fun i hi => ?_)
    cases k with
    | zero =>
      rw [la_minor_rc0, la_minor_rc0, la_minor_rc0]
      simp only [la_rc, if_true]
      generalize la_det n _ = D
      grind
    | succ k =>
      rw [la_minor_rc, la_minor_rc, la_minor_rc, ih _ _ (by omega)]
      simp only [la_rc, if_neg (show ¬ 0 = k + 1 by omega)]
      generalize la_det n _ = D
      generalize la_det n _ = E
      grind
theorem la_det_col_smul {n : Nat} (M : Nat → Nat → Int) (k : Nat) (hk : k < n) (x : Int) (r : Nat → Int) : la_det n (la_rc M k (fun b => x * r b)) = x * la_det n (la_rc M k r) := by
  have := la_det_col_lin M k hk x 0 r r
  simpa using this
theorem la_det_col_add {n : Nat} (M : Nat → Nat → Int) (k : Nat) (hk : k < n) (r s : Nat → Int) : la_det n (la_rc M k (fun b => r b + s b)) = la_det n (la_rc M k r) + la_det n (la_rc M k s) := by
  have := la_det_col_lin M k hk 1 1 r s
  simpa using this
theorem la_rc_self (M : Nat → Nat → Int) (k : Nat) : la_rc M k (fun a => M a k) = M := by
  funext a b; unfold la_rc; split
  · case _ h => rw [h]
  · rfl
theorem la_rc_comm (M : Nat → Nat → Int) {k l : Nat} (h : k ≠ l) (r s : Nat → Int) : la_rc (la_rc M k r) l s = la_rc (la_rc M l s) k r := by
  funext a b; unfold la_rc; by_cases e : b = l
  · subst e; simp [Ne.symm h]
  · simp [e]
theorem la_det_col_zero {n : Nat} (M : Nat → Nat → Int) (k : Nat) (hk : k < n) (h : ∀ a, a < n → M a k = 0) : la_det n M = 0 := by
  have e : la_det n M = la_det n (la_rc M k (fun a => 0 * M a k)) := by
    refine la_det_congr (fun a b ha _ => ?_)
    unfold la_rc; split
    · case _ h' => rw [h', h a ha]; simp
    · rfl
  rw [e, la_det_col_smul _ _ hk]; simp
theorem la_det_col_adj {n : Nat} : ∀ (M : Nat → Nat → Int) (k : Nat), k + 1 < n → (∀ a, a < n → M a k = M a (k+1)) → la_det n M = 0 := by
  induction n with
  | zero => intro M k hk; omega
  | succ n ih =>
    intro M k hk h
    cases k with
    | succ k =>
      rw [la_det_succ]
      refine la_sm_zero (fun i hi => ?_)
      rw [ih _ k (by omega) (fun a ha => h _ (la_sk_lt hi ha))]; simp
    | zero =>
      obtain ⟨m, rfl⟩ : ∃ m, n = m + 1 := ⟨n - 1, by omega⟩
      rw [la_det_succ]
      have e : la_sm (m+1+1) (fun i => la_sg i * M i 0 * la_det (m+1) (fun a b => M (la_sk i a) (b+1))) = la_sm (m+1+1) (fun i => la_sm (m+1) (fun j => la_sg i * la_sg j * M i 0 * M (la_sk i j) 0 * la_det m (fun a b => M (la_sk i (la_sk j a)) (b+1+1)))) := by
        refine la_sm_congr (fun i hi => ?_)
        rw [la_det_succ, ← la_sm_mul]
        refine la_sm_congr (fun j hj => ?_)
        rw [h (la_sk i j) (la_sk_lt hi hj)]
        generalize la_det m _ = D
        grind
      rw [e, la_sm_pairs]
      refine la_sm_zero (fun b hb => la_sm_zero (fun a ha => ?_))
      have e1 : la_sk b a = a := by unfold la_sk; split <;> omega
      have e2 : la_sk a (b-1) = b := by unfold la_sk; split <;> omega
      have e3 : ∀ c, la_sk b (la_sk a c) = la_sk a (la_sk (b-1) c) := by intro c; unfold la_sk; (repeat' split) <;> omega
      have e4 : la_sg b = - la_sg (b-1) := by rw [← la_sg_succ]; congr 1; omega
      simp only [e1, e2, e3, e4]
      generalize la_det m _ = D
      grind
theorem la_det_col_adj_swap {n : Nat} (M : Nat → Nat → Int) (k : Nat) (hk : k + 1 < n) (r s : Nat → Int) : la_det n (la_rc (la_rc M k r) (k+1) s) = - la_det n (la_rc (la_rc M k s) (k+1) r) := by
  have h0 : la_det n (la_rc (la_rc M k (fun b => r b + s b)) (k+1) (fun b => r b + s b)) = 0 :=
    la_det_col_adj _ k hk (fun b _ => by simp [la_rc])
  have hr : la_det n (la_rc (la_rc M k r) (k+1) r) = 0 := la_det_col_adj _ k hk (fun b _ => by simp [la_rc])
  have hs : la_det n (la_rc (la_rc M k s) (k+1) s) = 0 := la_det_col_adj _ k hk (fun b _ => by simp [la_rc])
  rw [la_det_col_add _ _ hk, la_rc_comm _ (show k ≠ k+1 by omega), la_rc_comm _ (show k ≠ k+1 by omega), la_det_col_add _ _ (by omega), la_det_col_add _ _ (by omega)] at h0
  rw [la_rc_comm _ (show k+1 ≠ k by omega), la_rc_comm _ (show k+1 ≠ k by omega), la_rc_comm _ (show k+1 ≠ k by omega), la_rc_comm _ (show k+1 ≠ k by omega), hr, hs] at h0
  omega
theorem la_det_col_alt {n : Nat} : ∀ (d : Nat) (M : Nat → Nat → Int) (k : Nat), k + 1 + d < n → (∀ b, b < n → M b k = M b (k + 1 + d)) → la_det n M = 0 := by
  intro d
  induction d with
  | zero => intro M k hk h; exact la_det_col_adj M k hk h
  | succ d ih =>
    intro M k hk h
    have e : M = la_rc (la_rc M (k+1+d) (fun a => M a (k+1+d))) (k+1+d+1) (fun a => M a (k+1+d+1)) := by
      rw [la_rc_self, la_rc_self]
    rw [e, la_det_col_adj_swap _ _ (by omega)]
    rw [ih _ k (by omega) (fun b hb => ?_)]
    · rfl
    · simp only [la_rc]
      rw [if_neg (by omega), if_neg (by omega), if_neg (by omega), if_pos trivial]
      exact h b hb
theorem la_det_eq_cols {n : Nat} (M : Nat → Nat → Int) (k l : Nat) (hk : k < n) (hl : l < n) (hkl : k ≠ l) (h : ∀ b, b < n → M b k = M b l) : la_det n M = 0 := by
  rcases Nat.lt_or_gt_of_ne hkl with h1 | h1
  · obtain ⟨d, rfl⟩ := Nat.exists_eq_add_of_lt h1
    exact la_det_col_alt d M k (by omega) (fun b hb => by rw [h b hb]; congr 1; omega)
  · obtain ⟨d, rfl⟩ := Nat.exists_eq_add_of_lt h1
    exact la_det_col_alt d M l (by omega) (fun b hb => by rw [← h b hb]; congr 1; omega)
theorem la_det_col_addmul {n : Nat} (M : Nat → Nat → Int) (k l : Nat) (hk : k < n) (hl : l < n) (hkl : k ≠ l) (x : Int) : la_det n (la_rc M k (fun a => M a k + x * M a l)) = la_det n M := by
  have h1 := la_det_col_lin M k hk 1 x (fun a => M a k) (fun a => M a l)
  have h2 : la_det n (la_rc M k (fun a => M a l)) = 0 := la_det_eq_cols _ k l hk hl hkl (fun b _ => by simp [la_rc, Ne.symm hkl])
  rw [h2, la_rc_self] at h1
  simpa using h1
theorem la_det_cols_addmul {n : Nat} (M : Nat → Nat → Int) (l : Nat) (hl : l < n) (x : Nat → Int) (hx : x l = 0) : la_det n (fun a b => M a b + x b * M a l) = la_det n M := by
  have key : ∀ m, m ≤ n → la_det n (fun a b => if b < m then M a b + x b * M a l else M a b) = la_det n M := by
    intro m
    induction m with
    | zero => intro _; exact la_det_congr (fun a b _ _ => by simp)
    | succ m ih =>
      intro hm
      rw [← ih (by omega)]
      by_cases hml : m = l
      · subst hml
        refine la_det_congr (fun a b _ _ => ?_)
        by_cases h1 : b < m
        · rw [if_pos h1, if_pos (by omega)]
        · by_cases h2 : b = m
          · subst h2; simp [hx]
          · rw [if_neg h1, if_neg (by omega)]
      · rw [← la_det_col_addmul (fun a b => if b < m then M a b + x b * M a l else M a b) m l (by omega) hl hml (x m)]
        refine la_det_congr (fun a b _ _ => ?_)
        simp only [la_rc]
        by_cases h2 : b = m
        · subst h2
          by_cases h3 : l < b
          · simp [h3, hx]
          · simp [h3]
        · by_cases h1 : b < m
          · rw [if_pos (by omega), if_neg h2, if_pos h1]
          · rw [if_neg (by omega), if_neg h2, if_neg h1]
  rw [← key n (Nat.le_refl n)]
  exact la_det_congr (fun a b _ hb => by rw [if_pos hb])
theorem la_det_col_swap {n : Nat} (M : Nat → Nat → Int) (k l : Nat) (hk : k < n) (hl : l < n) (hkl : k ≠ l) : la_det n (la_rc (la_rc M k (fun a => M a l)) l (fun a => M a k)) = - la_det n M := by
  have h0 : la_det n (la_rc (la_rc M k (fun b => M b k + M b l)) l (fun b => M b k + M b l)) = 0 :=
    la_det_eq_cols _ k l hk hl hkl (fun b _ => by simp [la_rc, hkl])
  have hr : la_det n (la_rc (la_rc M k (fun b => M b k)) l (fun b => M b k)) = 0 := la_det_eq_cols _ k l hk hl hkl (fun b _ => by simp [la_rc, hkl])
  have hs : la_det n (la_rc (la_rc M k (fun b => M b l)) l (fun b => M b l)) = 0 := la_det_eq_cols _ k l hk hl hkl (fun b _ => by simp [la_rc, hkl])
  rw [la_det_col_add _ _ hl, la_rc_comm _ hkl, la_rc_comm _ hkl, la_det_col_add _ _ hk, la_det_col_add _ _ hk] at h0
  rw [la_rc_comm _ (Ne.symm hkl), la_rc_comm _ (Ne.symm hkl), la_rc_comm _ (Ne.symm hkl), la_rc_comm _ (Ne.symm hkl), hr, hs, la_rc_self, la_rc_self] at h0
  omega
theorem la_det_last_row {n : Nat} : ∀ (M : Nat → Nat → Int), (∀ b, b < n → M n b = 0) → la_det (n+1) M = M n n * la_det n M := by
  induction n with
  | zero => intro M _; simp [la_det, la_sm, la_sg]
  | succ n ih =>
    intro M h
    rw [la_det_succ (n+1)]
    rw [show la_sm (n+1+1) (fun i => la_sg i * M i 0 * la_det (n+1) (fun a b => M (la_sk i a) (b+1))) = la_sm (n+1) (fun i => la_sg i * M i 0 * la_det (n+1) (fun a b => M (la_sk i a) (b+1))) + la_sg (n+1) * M (n+1) 0 * la_det (n+1) (fun a b => M (la_sk (n+1) a) (b+1)) from rfl]
    rw [h 0 (by omega)]
    simp only [Int.mul_zero, Int.zero_mul, Int.add_zero]
    rw [la_det_succ n M, ← la_sm_mul]
    refine la_sm_congr (fun i hi => ?_)
    have e : la_sk i n = n + 1 := by unfold la_sk; split <;> omega
    rw [ih _ (fun b hb => by rw [e]; exact h _ (by omega))]
    rw [e]
    generalize la_det n _ = D
    grind
theorem la_det_last_col {n : Nat} : ∀ (M : Nat → Nat → Int), (∀ a, a < n → M a n = 0) → la_det (n+1) M = M n n * la_det n M := by
  induction n with
  | zero => intro M _; simp [la_det, la_sm, la_sg]
  | succ n ih =>
    intro M h
    rw [la_det_succ (n+1)]
    rw [show la_sm (n+1+1) (fun i => la_sg i * M i 0 * la_det (n+1) (fun a b => M (la_sk i a) (b+1))) = la_sm (n+1) (fun i => la_sg i * M i 0 * la_det (n+1) (fun a b => M (la_sk i a) (b+1))) + la_sg (n+1) * M (n+1) 0 * la_det (n+1) (fun a b => M (la_sk (n+1) a) (b+1)) from rfl]
    have z : la_det (n+1) (fun a b => M (la_sk (n+1) a) (b+1)) = 0 := by
      refine la_det_col_zero _ n (by omega) (fun a ha => ?_)
      have e : la_sk (n+1) a = a := by unfold la_sk; split <;> omega
      rw [e]; exact h _ (by omega)
    rw [z]
    simp only [Int.mul_zero, Int.add_zero]
    rw [la_det_succ n M, ← la_sm_mul]
    refine la_sm_congr (fun i hi => ?_)
    have e : la_sk i n = n + 1 := by unfold la_sk; split <;> omega
    rw [ih _ (fun a ha => by exact h _ (la_sk_lt hi (by omega)))]
    rw [e]
    generalize la_det n _ = D
    grind
def la_ee (j b : Nat) : Int := if b = j then 1 else 0
theorem la_ee_self (j : Nat) : la_ee j j = 1 := by simp [la_ee]
theorem la_ee_ne {j b : Nat} (h : b ≠ j) : la_ee j b = 0 := by simp [la_ee, h]
theorem la_det_one (n : Nat) : la_det n (fun a b => la_ee a b) = 1 := by
  induction n with
  | zero => rfl
  | succ n ih => rw [la_det_last_row _ (fun b hb => la_ee_ne (by omega)), ih, la_ee_self]; rfl
theorem la_sm_ee {n : Nat} (x : Nat → Int) (b : Nat) (hb : b < n) : la_sm n (fun j => x j * la_ee j b) = x b := by
  rw [la_sm_single b hb (fun i _ hne => by rw [la_ee_ne (Ne.symm hne)]; simp), la_ee_self]; simp
theorem la_sm_ee' {n : Nat} (x : Nat → Int) (b : Nat) (hb : b < n) : la_sm n (fun j => x j * la_ee b j) = x b := by
  rw [la_sm_single b hb (fun i _ hne => by rw [la_ee_ne hne]; simp), la_ee_self]; simp
theorem la_det_row_sum {n : Nat} (M : Nat → Nat → Int) (i : Nat) (hi : i < n) (m : Nat) (x : Nat → Int) (r : Nat → Nat → Int) :
    la_det n (la_rr M i (fun b => la_sm m (fun j => x j * r j b))) = la_sm m (fun j => x j * la_det n (la_rr M i (r j))) := by
  induction m with
  | zero => exact la_det_row_zero _ i hi (fun b _ => by simp [la_rr, la_sm])
  | succ m ih =>
    simp only [la_sm]
    have := la_det_row_lin M i hi 1 (x m) (fun b => la_sm m (fun j => x j * r j b)) (r m)
    simp only [Int.one_mul] at this
    rw [this, ih]
theorem la_det_col_sum {n : Nat} (M : Nat → Nat → Int) (i : Nat) (hi : i < n) (m : Nat) (x : Nat → Int) (r : Nat → Nat → Int) :
    la_det n (la_rc M i (fun b => la_sm m (fun j => x j * r j b))) = la_sm m (fun j => x j * la_det n (la_rc M i (r j))) := by
  induction m with
  | zero => exact la_det_col_zero _ i hi (fun b _ => by simp [la_rc, la_sm])
  | succ m ih =>
    simp only [la_sm]
    have := la_det_col_lin M i hi 1 (x m) (fun b => la_sm m (fun j => x j * r j b)) (r m)
    simp only [Int.one_mul] at this
    rw [this, ih]
def la_adj (n : Nat) (M : Nat → Nat → Int) (j i : Nat) : Int := la_det n (la_rr M i (la_ee j))
theorem la_adj_right {n : Nat} (M : Nat → Nat → Int) (k i : Nat) (hi : i < n) (hk : k < n) : la_sm n (fun j => M k j * la_adj n M j i) = if k = i then la_det n M else 0 := by
  unfold la_adj
  rw [← la_det_row_sum M i hi n (M k) (fun j => la_ee j)]
  have e : la_det n (la_rr M i (fun b => la_sm n (fun j => M k j * la_ee j b))) = la_det n (la_rr M i (M k)) := by
    refine la_det_congr (fun a b _ hb => ?_)
    unfold la_rr; split
    · exact la_sm_ee (M k) b hb
    · rfl
  rw [e]
  by_cases h : k = i
  · subst h; rw [la_rr_self, if_pos rfl]
  · rw [if_neg h]
    exact la_det_eq_rows _ i k hi hk (Ne.symm h) (fun b _ => by simp [la_rr, h])
theorem la_det_border (r : Nat) (K : Nat → Nat → Int) :
    la_det (r+1) K = K r r * la_det r K - la_sm r (fun j => la_sm r (fun i => K r j * la_adj r K j i * K i r)) := by
  have hrow : la_det (r+1) K = la_sm (r+1) (fun j => K r j * la_det (r+1) (la_rr K r (la_ee j))) := by
    rw [← la_det_row_sum K r (by omega) (r+1) (K r) (fun j => la_ee j)]
    refine la_det_congr (fun a b _ hb => ?_)
    unfold la_rr; split
    · case _ h => exact (by rw [h] : K a b = K r b).trans (la_sm_ee (K r) b hb).symm
    · rfl
  rw [hrow]
  rw [show la_sm (r+1) (fun j => K r j * la_det (r+1) (la_rr K r (la_ee j))) = la_sm r (fun j => K r j * la_det (r+1) (la_rr K r (la_ee j))) + K r r * la_det (r+1) (la_rr K r (la_ee r)) from rfl]
  have hlast : la_det (r+1) (la_rr K r (la_ee r)) = la_det r K := by
    rw [la_det_last_row _ (fun b hb => by simp [la_rr, la_ee]; omega)]
    have : la_rr K r (la_ee r) r r = 1 := by simp [la_rr, la_ee]
    rw [this, Int.one_mul]
    exact la_det_congr (fun a b ha _ => by unfold la_rr; rw [if_neg (by omega)])
  have hj : ∀ j, j < r → la_det (r+1) (la_rr K r (la_ee j)) = - la_sm r (fun i => la_adj r K j i * K i r) := by
    intro j hj
    have hcol : la_det (r+1) (la_rr K r (la_ee j)) = la_sm r (fun i => K i r * la_det (r+1) (la_rc (la_rr K r (la_ee j)) r (la_ee i))) := by
      rw [← la_det_col_sum (la_rr K r (la_ee j)) r (by omega) r (fun i => K i r) (fun i => la_ee i)]
      refine la_det_congr (fun a b ha _ => ?_)
      unfold la_rc; split
      · case _ h =>
        subst h
        by_cases h2 : a = b
        · subst h2
          refine Eq.trans ?_ (la_sm_zero (f := fun i => K i a * la_ee i a) (fun i hi => by rw [la_ee_ne (show a ≠ i by omega)]; simp)).symm
          simp [la_rr, la_ee]; omega
        · refine Eq.trans ?_ (la_sm_ee (fun i => K i b) a (by omega)).symm
          simp [la_rr, h2]
      · rfl
    rw [hcol, ← la_sm_neg]
    refine la_sm_congr (fun i hi => ?_)
    have hs := la_det_swap (la_rc (la_rr K r (la_ee j)) r (la_ee i)) i r (n := r+1) (by omega) (by omega) (by omega)
    have hx : la_det (r+1) (la_rr (la_rr (la_rc (la_rr K r (la_ee j)) r (la_ee i)) i (la_rc (la_rr K r (la_ee j)) r (la_ee i) r)) r (la_rc (la_rr K r (la_ee j)) r (la_ee i) i)) = la_adj r K j i := by
      rw [la_det_last_col]
      · unfold la_adj
        have : la_rr (la_rr (la_rc (la_rr K r (la_ee j)) r (la_ee i)) i (la_rc (la_rr K r (la_ee j)) r (la_ee i) r)) r (la_rc (la_rr K r (la_ee j)) r (la_ee i) i) r r = 1 := by
          simp [la_rr, la_rc, la_ee]
        rw [this, Int.one_mul]
        refine la_det_congr (fun a b ha hb => ?_)
        unfold la_rr la_rc
        have h1 : a ≠ r := by omega
        have h2 : b ≠ r := by omega
        by_cases h3 : a = i
        · subst h3; simp [h1, h2]
        · simp [h1, h2, h3]
      · intro a ha
        have h1 : a ≠ r := by omega
        unfold la_rr la_rc
        by_cases h3 : a = i
        · subst h3; simp [h1, la_ee]; omega
        · simp [h1, h3, la_ee]
    rw [hx] at hs
    have : la_det (r+1) (la_rc (la_rr K r (la_ee j)) r (la_ee i)) = - la_adj r K j i := by omega
    rw [this]; grind
  rw [hlast]
  have e2 : la_sm r (fun j => K r j * la_det (r+1) (la_rr K r (la_ee j))) = - la_sm r (fun j => la_sm r (fun i => K r j * la_adj r K j i * K i r)) := by
    rw [← la_sm_neg]
    refine la_sm_congr (fun j hjr => ?_)
    rw [hj j hjr, Int.mul_neg, ← la_sm_mul]
    congr 1
    exact la_sm_congr (fun i _ => by grind)
  rw [e2]; omega
theorem la_sm_dvd {n : Nat} {f g : Nat → Int} {p : Int} (h : ∀ i, i < n → p ∣ f i - g i) : p ∣ la_sm n f - la_sm n g := by
  rw [← la_sm_sub]
  induction n with
  | zero => exact ⟨0, by simp [la_sm]⟩
  | succ n ih => simp only [la_sm]; exact Int.dvd_add (ih (fun i hi => h i (by omega))) (h n (by omega))
theorem la_mul_dvd_sub {a b c d p : Int} (h1 : p ∣ a - b) (h2 : p ∣ c - d) : p ∣ a * c - b * d := by
  obtain ⟨x, hx⟩ := h1
  obtain ⟨y, hy⟩ := h2
  exact ⟨x * c + b * y, by grind⟩
def la_pv (n : Nat) (c : Nat → Int) (u : Int) : Int := la_sm (n+1) (fun k => c k * u ^ k)
def la_up (c : Nat → Int) : Nat → Int
  | 0 => 0
  | k+1 => c k
theorem la_pv_congr {n : Nat} {c d : Nat → Int} (u : Int) (h : ∀ k, k ≤ n → c k = d k) : la_pv n c u = la_pv n d u :=
  la_sm_congr (fun k hk => by rw [h k (by omega)])
theorem la_pv_head (n : Nat) (c : Nat → Int) (u : Int) : la_pv (n+1) c u = c 0 + u * la_pv n (fun k => c (k+1)) u := by
  unfold la_pv
  rw [la_sm_succ', ← la_sm_mul]
  congr 1
  · simp
  · exact la_sm_congr (fun i _ => by rw [Int.pow_succ]; grind)
theorem la_pv_up (n : Nat) (c : Nat → Int) (u : Int) : la_pv (n+1) (la_up c) u = u * la_pv n c u := by
  rw [la_pv_head]; show 0 + u * la_pv n c u = _; omega
theorem la_pv_more {n m : Nat} (c : Nat → Int) (u : Int) (h : n ≤ m) (hz : ∀ k, n < k → c k = 0) : la_pv m c u = la_pv n c u := by
  unfold la_pv
  exact la_sm_ext (by omega) (fun i hi _ => by rw [hz i (by omega)]; simp)
theorem la_pv_add (n : Nat) (c d : Nat → Int) (u : Int) : la_pv n (fun k => c k + d k) u = la_pv n c u + la_pv n d u := by
  unfold la_pv; rw [← la_sm_add]; exact la_sm_congr (fun i _ => by grind)
theorem la_pv_sub (n : Nat) (c d : Nat → Int) (u : Int) : la_pv n (fun k => c k - d k) u = la_pv n c u - la_pv n d u := by
  unfold la_pv; rw [← la_sm_sub]; exact la_sm_congr (fun i _ => by grind)
theorem la_pv_mul (n : Nat) (x : Int) (c : Nat → Int) (u : Int) : la_pv n (fun k => x * c k) u = x * la_pv n c u := by
  unfold la_pv; rw [← la_sm_mul]; exact la_sm_congr (fun i _ => by grind)
theorem la_pv_sm (n m : Nat) (x : Nat → Int) (c : Nat → Nat → Int) (u : Int) : la_pv n (fun k => la_sm m (fun i => x i * c i k)) u = la_sm m (fun i => x i * la_pv n (c i) u) := by
  induction m with
  | zero => simp only [la_sm]; unfold la_pv; exact la_sm_zero (fun _ _ => by simp)
  | succ m ih => simp only [la_sm]; rw [la_pv_add, ih, la_pv_mul]
theorem la_pv_zero {n : Nat} : ∀ {c : Nat → Int}, (∀ u : Int, 1 ≤ u → la_pv n c u = 0) → ∀ k, k ≤ n → c k = 0 := by
  induction n with
  | zero =>
    intro c h k hk
    obtain rfl : k = 0 := by omega
    have := h 1 (by omega); simpa [la_pv, la_sm] using this
  | succ n ih =>
    intro c h k hk
    have h0 : c 0 = 0 := by
      have h1 := h ((c 0).natAbs + 1) (by omega)
      rw [la_pv_head] at h1
      have hd : ((c 0).natAbs + 1 : Int) ∣ c 0 := ⟨- la_pv n (fun k => c (k+1)) ((c 0).natAbs + 1), by rw [Int.mul_neg]; omega⟩
      by_cases hc : c 0 = 0
      · exact hc
      · exfalso
        have := Int.natAbs_dvd_natAbs.mpr hd
        have := Nat.le_of_dvd (by omega) this
        omega
    cases k with
    | zero => exact h0
    | succ k =>
      refine ih (c := fun k => c (k+1)) (fun u hu => ?_) k (by omega)
      have := h u hu
      rw [la_pv_head, h0, Int.zero_add] at this
      rcases Int.mul_eq_zero.mp this with h' | h'
      · omega
      · exact h'
theorem la_pv_inj {n : Nat} {c d : Nat → Int} (h : ∀ u : Int, 1 ≤ u → la_pv n c u = la_pv n d u) (k : Nat) (hk : k ≤ n) : c k = d k := by
  have := la_pv_zero (c := fun k => c k - d k) (n := n) (fun u hu => by rw [la_pv_sub, h u hu]; omega) k hk
  omega
def la_dc : Nat → (Nat → Nat → Int) → (Nat → Nat → Int) → Nat → Int
  | 0, _, _ => fun k => if k = 0 then 1 else 0
  | n+1, P, Q => fun k => la_sm (n+1) (fun i => la_sg i * (P i 0 * la_dc n (fun a b => P (la_sk i a) (b+1)) (fun a b => Q (la_sk i a) (b+1)) k + Q i 0 * la_up (la_dc n (fun a b => P (la_sk i a) (b+1)) (fun a b => Q (la_sk i a) (b+1))) k))
theorem la_dc_succ (n : Nat) (P Q : Nat → Nat → Int) (k : Nat) : la_dc (n+1) P Q k = la_sm (n+1) (fun i => la_sg i * (P i 0 * la_dc n (fun a b => P (la_sk i a) (b+1)) (fun a b => Q (la_sk i a) (b+1)) k + Q i 0 * la_up (la_dc n (fun a b => P (la_sk i a) (b+1)) (fun a b => Q (la_sk i a) (b+1))) k)) := rfl
theorem la_dc_top {n : Nat} : ∀ (P Q : Nat → Nat → Int) (k : Nat), n < k → la_dc n P Q k = 0 := by
  induction n with
  | zero => intro P Q k hk; simp [la_dc]; omega
  | succ n ih =>
    intro P Q k hk
    rw [la_dc_succ]
    refine la_sm_zero (fun i hi => ?_)
    rw [ih _ _ k (by omega)]
    obtain ⟨l, rfl⟩ : ∃ l, k = l + 1 := ⟨k - 1, by omega⟩
    show la_sg i * (P i 0 * 0 + Q i 0 * la_dc n _ _ l) = 0
    rw [ih _ _ l (by omega)]; simp
theorem la_det_pv {n : Nat} : ∀ (P Q : Nat → Nat → Int) (u : Int), la_det n (fun a b => P a b + u * Q a b) = la_pv n (la_dc n P Q) u := by
  induction n with
  | zero => intro P Q u; simp [la_det, la_pv, la_sm, la_dc]
  | succ n ih =>
    intro P Q u
    rw [la_det_succ]
    have e : la_pv (n+1) (la_dc (n+1) P Q) u = la_sm (n+1) (fun i => la_sg i * la_pv (n+1) (fun k => P i 0 * la_dc n (fun a b => P (la_sk i a) (b+1)) (fun a b => Q (la_sk i a) (b+1)) k + Q i 0 * la_up (la_dc n (fun a b => P (la_sk i a) (b+1)) (fun a b => Q (la_sk i a) (b+1))) k) u) := by
      rw [← la_pv_sm]; rfl
    rw [e]
    refine la_sm_congr (fun i hi => ?_)
    rw [ih, la_pv_add, la_pv_mul, la_pv_mul, la_pv_up, la_pv_more _ _ (Nat.le_succ n) (fun k hk => la_dc_top _ _ k hk)]
    grind
def la_pr : Nat → (Nat → Int) → Int
  | 0, _ => 1
  | n+1, f => la_pr n f * f n
theorem la_pr_congr {n : Nat} {f g : Nat → Int} (h : ∀ i, i < n → f i = g i) : la_pr n f = la_pr n g := by
  induction n with
  | zero => rfl
  | succ n ih => simp only [la_pr]; rw [ih (fun i hi => h i (by omega)), h n (by omega)]
theorem la_pr_nonneg {n : Nat} {f : Nat → Int} (h : ∀ i, i < n → 0 ≤ f i) : 0 ≤ la_pr n f := by
  induction n with
  | zero => simp [la_pr]
  | succ n ih => simp only [la_pr]; exact Int.mul_nonneg (ih (fun i hi => h i (by omega))) (h n (by omega))
theorem la_pr_le {n : Nat} {f g : Nat → Int} (h0 : ∀ i, i < n → 0 ≤ f i) (h : ∀ i, i < n → f i ≤ g i) : la_pr n f ≤ la_pr n g := by
  induction n with
  | zero => simp [la_pr]
  | succ n ih =>
    simp only [la_pr]
    exact Int.mul_le_mul (ih (fun i hi => h0 i (by omega)) (fun i hi => h i (by omega))) (h n (by omega)) (h0 n (by omega)) (la_pr_nonneg (fun i hi => Int.le_trans (h0 i (by omega)) (h i (by omega))))
theorem la_sm_le {n : Nat} {f g : Nat → Int} (h : ∀ i, i < n → f i ≤ g i) : la_sm n f ≤ la_sm n g := by
  induction n with
  | zero => simp [la_sm]
  | succ n ih => simp only [la_sm]; have := ih (fun i hi => h i (by omega)); have := h n (by omega); omega
theorem la_sm_nonneg {n : Nat} {f : Nat → Int} (h : ∀ i, i < n → 0 ≤ f i) : 0 ≤ la_sm n f := by
  have := la_sm_le (f := fun _ => 0) h
  rwa [la_sm_zero (fun _ _ => rfl)] at this
theorem la_sum_prod_le {n : Nat} (w R : Nat → Int) (hw : ∀ i, i < n → 0 ≤ w i) (hR : ∀ i, i < n → 0 ≤ R i) :
    la_sm n (fun i => w i * la_pr (n-1) (fun a => R (la_sk i a))) ≤ la_pr n (fun a => w a + R a) := by
  induction n with
  | zero => simp [la_sm, la_pr]
  | succ n ih =>
    have ih := ih (fun i hi => hw i (by omega)) (fun i hi => hR i (by omega))
    show la_sm n (fun i => w i * la_pr (n+1-1) (fun a => R (la_sk i a))) + w n * la_pr (n+1-1) (fun a => R (la_sk n a)) ≤ la_pr n (fun a => w a + R a) * (w n + R n)
    have e1 : la_sm n (fun i => w i * la_pr (n+1-1) (fun a => R (la_sk i a))) = R n * la_sm n (fun i => w i * la_pr (n-1) (fun a => R (la_sk i a))) := by
      rw [← la_sm_mul]
      refine la_sm_congr (fun i hi => ?_)
      obtain ⟨m, rfl⟩ : ∃ m, n = m + 1 := ⟨n - 1, by omega⟩
      show w i * (la_pr m _ * R (la_sk i m)) = _
      have : la_sk i m = m + 1 := by unfold la_sk; split <;> omega
      rw [this]
      show _ = R (m+1) * (w i * la_pr m _)
      grind
    have e2 : la_pr (n+1-1) (fun a => R (la_sk n a)) = la_pr n R := la_pr_congr (fun a ha => by
      have : la_sk n a = a := by unfold la_sk; split <;> omega
      rw [this])
    rw [e1, e2]
    have h1 : R n * la_sm n (fun i => w i * la_pr (n-1) (fun a => R (la_sk i a))) ≤ R n * la_pr n (fun a => w a + R a) := Int.mul_le_mul_of_nonneg_left ih (hR n (by omega))
    have h2 : w n * la_pr n R ≤ w n * la_pr n (fun a => w a + R a) := Int.mul_le_mul_of_nonneg_left (la_pr_le (fun i hi => hR i (by omega)) (fun i hi => by have := hw i (by omega); omega)) (hw n (by omega))
    have h3 : la_pr n (fun a => w a + R a) * (w n + R n) = w n * la_pr n (fun a => w a + R a) + R n * la_pr n (fun a => w a + R a) := by grind
    omega
def la_ab (x : Int) : Int := (x.natAbs : Int)
theorem la_ab_nonneg (x : Int) : 0 ≤ la_ab x := by unfold la_ab; omega
theorem la_ab_mul (x y : Int) : la_ab (x * y) = la_ab x * la_ab y := by unfold la_ab; rw [Int.natAbs_mul]; simp
theorem la_ab_add (x y : Int) : la_ab (x + y) ≤ la_ab x + la_ab y := by unfold la_ab; omega
theorem la_ab_sg (i : Nat) : la_ab (la_sg i) = 1 := by unfold la_sg; split <;> rfl
theorem la_ab_zero : la_ab 0 = 0 := rfl
theorem la_ab_sm (n : Nat) (f : Nat → Int) : la_ab (la_sm n f) ≤ la_sm n (fun i => la_ab (f i)) := by
  induction n with
  | zero => simp [la_sm, la_ab]
  | succ n ih => simp only [la_sm]; have := la_ab_add (la_sm n f) (f n); omega
theorem la_dc_bound {n : Nat} : ∀ (P Q : Nat → Nat → Int), la_sm (n+1) (fun k => la_ab (la_dc n P Q k)) ≤ la_pr n (fun a => la_sm n (fun b => la_ab (P a b) + la_ab (Q a b))) := by
  induction n with
  | zero => intro P Q; simp [la_sm, la_pr, la_dc, la_ab]
  | succ n ih =>
    intro P Q
    have key : ∀ i, i < n + 1 → la_sm (n+1+1) (fun k => la_ab (la_sg i * (P i 0 * la_dc n (fun a b => P (la_sk i a) (b+1)) (fun a b => Q (la_sk i a) (b+1)) k + Q i 0 * la_up (la_dc n (fun a b => P (la_sk i a) (b+1)) (fun a b => Q (la_sk i a) (b+1))) k))) ≤ (la_ab (P i 0) + la_ab (Q i 0)) * la_pr n (fun a => la_sm n (fun b => la_ab (P (la_sk i a) (b+1)) + la_ab (Q (la_sk i a) (b+1)))) := by
      intro i hi
      have hih := ih (fun a b => P (la_sk i a) (b+1)) (fun a b => Q (la_sk i a) (b+1))
      have htop := la_dc_top (n := n) (fun a b => P (la_sk i a) (b+1)) (fun a b => Q (la_sk i a) (b+1))
      generalize la_dc n (fun a b => P (la_sk i a) (b+1)) (fun a b => Q (la_sk i a) (b+1)) = d at hih htop ⊢
      have h1 : la_sm (n+1+1) (fun k => la_ab (d k)) = la_sm (n+1) (fun k => la_ab (d k)) := la_sm_ext (by omega) (fun k hk _ => by rw [htop k (by omega)]; rfl)
      have h2 : la_sm (n+1+1) (fun k => la_ab (la_up d k)) = la_sm (n+1) (fun k => la_ab (d k)) := by
        rw [la_sm_succ']; simp [la_up, la_ab_zero]
      have h3 : la_sm (n+1+1) (fun k => la_ab (la_sg i * (P i 0 * d k + Q i 0 * la_up d k))) ≤ la_sm (n+1+1) (fun k => la_ab (P i 0) * la_ab (d k) + la_ab (Q i 0) * la_ab (la_up d k)) := by
        refine la_sm_le (fun k _ => ?_)
        rw [la_ab_mul, la_ab_sg, Int.one_mul, ← la_ab_mul, ← la_ab_mul]
        exact la_ab_add _ _
      rw [la_sm_add, la_sm_mul, la_sm_mul, h1, h2] at h3
      have h4 := Int.mul_le_mul_of_nonneg_left hih (la_ab_nonneg (P i 0))
      have h5 := Int.mul_le_mul_of_nonneg_left hih (la_ab_nonneg (Q i 0))
      have h6 := Int.add_mul (la_ab (P i 0)) (la_ab (Q i 0)) (la_pr n (fun a => la_sm n (fun b => la_ab (P (la_sk i a) (b+1)) + la_ab (Q (la_sk i a) (b+1)))))
      omega
    have h1 : la_sm (n+1+1) (fun k => la_ab (la_dc (n+1) P Q k)) ≤ la_sm (n+1+1) (fun k => la_sm (n+1) (fun i => la_ab (la_sg i * (P i 0 * la_dc n (fun a b => P (la_sk i a) (b+1)) (fun a b => Q (la_sk i a) (b+1)) k + Q i 0 * la_up (la_dc n (fun a b => P (la_sk i a) (b+1)) (fun a b => Q (la_sk i a) (b+1))) k)))) :=
      la_sm_le (fun k _ => la_ab_sm _ _)
    rw [la_sm_swap] at h1
    refine Int.le_trans h1 (Int.le_trans (la_sm_le key) ?_)
    have h2 := la_sum_prod_le (n := n+1) (fun i => la_ab (P i 0) + la_ab (Q i 0)) (fun a => la_sm n (fun b => la_ab (P a (b+1)) + la_ab (Q a (b+1)))) (fun i _ => by have := la_ab_nonneg (P i 0); have := la_ab_nonneg (Q i 0); omega) (fun i _ => la_sm_nonneg (fun b _ => by have := la_ab_nonneg (P i (b+1)); have := la_ab_nonneg (Q i (b+1)); omega))
    refine Int.le_trans h2 (Int.le_of_eq (la_pr_congr (fun a _ => ?_)))
    rw [la_sm_succ']
theorem la_ab_le_sm {n : Nat} (f : Nat → Int) (k : Nat) (hk : k < n) : la_ab (f k) ≤ la_sm n (fun i => la_ab (f i)) := by
  have h := la_sm_le (n := n) (f := fun i => if i = k then la_ab (f k) else 0) (g := fun i => la_ab (f i)) (fun i _ => by
    by_cases e : i = k
    · simp [e]
    · simp [e, la_ab_nonneg])
  rw [la_sm_single k hk (fun i _ hne => by simp [hne])] at h
  simpa using h
theorem la_sm_sk (n i : Nat) (hi : i < n + 1) (f : Nat → Int) : la_sm (n+1) f = f i + la_sm n (fun t => f (la_sk i t)) := by
  induction n with
  | zero => obtain rfl : i = 0 := by omega
            simp [la_sm]
  | succ n ih =>
    by_cases h : i = n + 1
    · subst h
      have : la_sm (n+1) (fun t => f (la_sk (n+1) t)) = la_sm (n+1) f := la_sm_congr (fun t ht => by
        have : la_sk (n+1) t = t := by unfold la_sk; split <;> omega
        rw [this])
      rw [this]; show la_sm (n+1) f + f (n+1) = _; omega
    · show la_sm (n+1) f + f (n+1) = f i + (la_sm n (fun t => f (la_sk i t)) + f (la_sk i n))
      rw [ih (by omega)]
      have : la_sk i n = n + 1 := by unfold la_sk; split <;> omega
      rw [this]; omega
theorem la_un_sk (i t : Nat) : la_un i (la_sk i t) = t := by
  unfold la_un la_sk; by_cases h1 : t < i
  · simp [h1]
  · rw [if_neg h1, if_neg (by omega)]; omega
def la_z0 : Nat → Int := fun _ => 0
theorem la_dc_deriv {n : Nat} : ∀ (P Q : Nat → Nat → Int) (k : Nat), (k : Int) * la_dc n P Q k = la_sm n (fun t => la_dc n (la_rr P t la_z0) Q k) := by
  induction n with
  | zero => intro P Q k; simp only [la_dc, la_sm]; split <;> simp_all
  | succ n ih =>
    intro P Q k
    have e : la_sm (n+1) (fun t => la_dc (n+1) (la_rr P t la_z0) Q k) = la_sm (n+1) (fun i => la_sm (n+1) (fun t => la_sg i * ((la_rr P t la_z0) i 0 * la_dc n (fun a b => (la_rr P t la_z0) (la_sk i a) (b+1)) (fun a b => Q (la_sk i a) (b+1)) k + Q i 0 * la_up (la_dc n (fun a b => (la_rr P t la_z0) (la_sk i a) (b+1)) (fun a b => Q (la_sk i a) (b+1))) k))) := by
      rw [la_sm_swap]; exact la_sm_congr (fun t _ => by rw [la_dc_succ])
    rw [e, la_dc_succ, ← la_sm_mul]
    refine la_sm_congr (fun i hi => ?_)
    rw [la_sm_sk n i hi]
    have e1 : (la_rr P i la_z0) i 0 = 0 := by simp [la_rr, la_z0]
    rw [e1, la_minor_rr_self]
    have e2 : la_sm n (fun t => la_sg i * ((la_rr P (la_sk i t) la_z0) i 0 * la_dc n (fun a b => (la_rr P (la_sk i t) la_z0) (la_sk i a) (b+1)) (fun a b => Q (la_sk i a) (b+1)) k + Q i 0 * la_up (la_dc n (fun a b => (la_rr P (la_sk i t) la_z0) (la_sk i a) (b+1)) (fun a b => Q (la_sk i a) (b+1))) k)) = la_sm n (fun t => la_sg i * (P i 0 * la_dc n (la_rr (fun a b => P (la_sk i a) (b+1)) t la_z0) (fun a b => Q (la_sk i a) (b+1)) k + Q i 0 * la_up (la_dc n (la_rr (fun a b => P (la_sk i a) (b+1)) t la_z0) (fun a b => Q (la_sk i a) (b+1))) k)) := by
      refine la_sm_congr (fun t ht => ?_)
      rw [la_minor_rr (la_sk_ne i t)]
      rw [la_un_sk]
      have : la_rr P (la_sk i t) la_z0 i 0 = P i 0 := by unfold la_rr; rw [if_neg (Ne.symm (la_sk_ne i t))]
      rw [this]
      rfl
    rw [e2, la_sm_mul, la_sm_add, la_sm_mul, la_sm_mul, ← ih]
    generalize (fun a b => P (la_sk i a) (b+1)) = P' at *
    generalize (fun a b => Q (la_sk i a) (b+1)) = Q' at *
    cases k with
    | zero =>
      have : la_sm n (fun t => la_up (la_dc n (la_rr P' t la_z0) Q') 0) = 0 := la_sm_zero (fun _ _ => rfl)
      rw [this]
      simp [la_up]
    | succ k =>
      have : la_sm n (fun t => la_up (la_dc n (la_rr P' t la_z0) Q') (k+1)) = (k : Int) * la_dc n P' Q' k := by
        rw [ih]; rfl
      rw [this]
      show _ = la_sg i * (0 * _ + Q i 0 * la_dc n P' Q' k) + _
      show ((k+1 : Nat) : Int) * (la_sg i * (P i 0 * la_dc n P' Q' (k+1) + Q i 0 * la_dc n P' Q' k)) = _
      push_cast
      grind
def la_bc (n : Nat) (P Q : Nat → Nat → Int) (j i k : Nat) : Int := la_dc n (la_rr P i (la_ee j)) (la_rr Q i la_z0) k
theorem la_adj_pv (n : Nat) (P Q : Nat → Nat → Int) (u : Int) (j i : Nat) : la_adj n (fun a b => P a b + u * Q a b) j i = la_pv n (la_bc n P Q j i) u := by
  unfold la_adj la_bc
  show _ = la_pv n (la_dc n (la_rr P i (la_ee j)) (la_rr Q i la_z0)) u
  rw [← la_det_pv]
  refine la_det_congr (fun a b _ _ => ?_)
  unfold la_rr la_z0; split <;> simp
theorem la_dc_trace (n : Nat) (P Q : Nat → Nat → Int) (k : Nat) (hk : k ≤ n) : ((k+1 : Nat) : Int) * la_dc n P Q (k+1) = la_sm n (fun i => la_sm n (fun j => Q i j * la_bc n P Q j i k)) := by
  rw [la_dc_deriv]
  refine la_sm_congr (fun i hi => ?_)
  have h : ∀ u : Int, la_pv (n+1) (la_dc n (la_rr P i la_z0) Q) u = la_pv (n+1) (la_up (fun k => la_sm n (fun j => Q i j * la_bc n P Q j i k))) u := by
    intro u
    rw [la_pv_up, la_pv_more _ _ (Nat.le_succ n) (fun k hk => la_dc_top _ _ k hk), ← la_det_pv, la_pv_sm]
    have e1 : la_det n (fun a b => la_rr P i la_z0 a b + u * Q a b) = la_det n (la_rr (fun a b => P a b + u * Q a b) i (fun b => u * Q i b)) := by
      refine la_det_congr (fun a b _ _ => ?_)
      unfold la_rr la_z0; split
      · case _ h => simp [h]
      · rfl
    rw [e1, la_det_row_smul _ _ hi]
    congr 1
    have e2 : la_det n (la_rr (fun a b => P a b + u * Q a b) i (Q i)) = la_det n (la_rr (fun a b => P a b + u * Q a b) i (fun b => la_sm n (fun j => Q i j * la_ee j b))) := by
      refine la_det_congr (fun a b _ hb => ?_)
      unfold la_rr; split
      · exact (la_sm_ee (Q i) b hb).symm
      · rfl
    rw [e2, la_det_row_sum _ i hi]
    refine la_sm_congr (fun j _ => ?_)
    rw [← la_adj_pv]; rfl
  have := la_pv_inj (fun u _ => h u) (k+1) (by omega)
  rw [this]; rfl
theorem la_bc_step (n : Nat) (P Q : Nat → Nat → Int) (k i : Nat) (hk : k < n) (hi : i < n) (m : Nat) (hm : m ≤ n + 1) :
    la_sm n (fun j => P k j * la_bc n P Q j i m) + la_up (fun m => la_sm n (fun j => Q k j * la_bc n P Q j i m)) m = if k = i then la_dc n P Q m else 0 := by
  have h : ∀ u : Int, la_pv (n+1) (fun m => la_sm n (fun j => P k j * la_bc n P Q j i m) + la_up (fun m => la_sm n (fun j => Q k j * la_bc n P Q j i m)) m) u = la_pv (n+1) (fun m => if k = i then la_dc n P Q m else 0) u := by
    intro u
    rw [la_pv_add, la_pv_up, la_pv_sm, la_pv_sm, ← la_sm_mul, ← la_sm_add]
    have h1 := la_adj_right (fun a b => P a b + u * Q a b) k i hi hk
    have h2 : la_sm n (fun j => (P k j + u * Q k j) * la_adj n (fun a b => P a b + u * Q a b) j i) = la_sm n (fun j => P k j * la_pv (n+1) (la_bc n P Q j i) u + u * (Q k j * la_pv n (la_bc n P Q j i) u)) := by
      refine la_sm_congr (fun j _ => ?_)
      rw [la_adj_pv, la_pv_more (n := n) (m := n+1) (la_bc n P Q j i) u (Nat.le_succ n) (fun k hk => la_dc_top _ _ k hk)]
      grind
    rw [← h2, h1]
    by_cases e : k = i
    · simp only [if_pos e]
      rw [la_det_pv, la_pv_more (n := n) (m := n+1) _ _ (Nat.le_succ n) (fun k hk => la_dc_top _ _ k hk)]
    · simp only [if_neg e]
      unfold la_pv; rw [la_sm_zero (fun _ _ => by simp)]
  exact la_pv_inj (fun u _ => h u) m hm
def la_ng (A : Nat → Nat → Int) : Nat → Nat → Int := fun a b => - A a b
def la_cp (n : Nat) (A : Nat → Nat → Int) : Nat → Int := la_dc n (fun a b => la_ee a b) (la_ng A)
def la_flB (n : Nat) (A : Nat → Nat → Int) (c : Nat → Int) : Nat → Nat → Nat → Int
  | 0 => fun _ _ => 0
  | m+1 => fun k i => la_sm n (fun j => A k j * la_flB n A c m j i) + (if k = i then c m else 0)
theorem la_bc_fl (n : Nat) (A : Nat → Nat → Int) (m : Nat) : m ≤ n → ∀ k i, k < n → i < n → la_bc n (fun a b => la_ee a b) (la_ng A) k i m = la_flB n A (la_cp n A) (m+1) k i := by
  induction m with
  | zero =>
    intro _ k i hk hi
    have h := la_bc_step n (fun a b => la_ee a b) (la_ng A) k i hk hi 0 (by omega)
    have e : la_sm n (fun j => la_ee k j * la_bc n (fun a b => la_ee a b) (la_ng A) j i 0) = la_bc n (fun a b => la_ee a b) (la_ng A) k i 0 := by
      rw [← la_sm_ee' (fun j => la_bc n (fun a b => la_ee a b) (la_ng A) j i 0) k hk]; exact la_sm_congr (fun j _ => by grind)
    rw [e] at h
    simp only [la_flB, la_up] at h ⊢
    rw [la_sm_zero (fun _ _ => by simp)]
    unfold la_cp; omega
  | succ m ih =>
    intro hm k i hk hi
    have h := la_bc_step n (fun a b => la_ee a b) (la_ng A) k i hk hi (m+1) (by omega)
    have e : la_sm n (fun j => la_ee k j * la_bc n (fun a b => la_ee a b) (la_ng A) j i (m+1)) = la_bc n (fun a b => la_ee a b) (la_ng A) k i (m+1) := by
      rw [← la_sm_ee' (fun j => la_bc n (fun a b => la_ee a b) (la_ng A) j i (m+1)) k hk]; exact la_sm_congr (fun j _ => by grind)
    rw [e] at h
    have e2 : la_up (fun m => la_sm n (fun j => la_ng A k j * la_bc n (fun a b => la_ee a b) (la_ng A) j i m)) (m+1) = - la_sm n (fun j => A k j * la_flB n A (la_cp n A) (m+1) j i) := by
      show la_sm n (fun j => la_ng A k j * la_bc n (fun a b => la_ee a b) (la_ng A) j i m) = _
      rw [← la_sm_neg]
      refine la_sm_congr (fun j hj => ?_)
      rw [ih (by omega) j i hj hi]; unfold la_ng; grind
    rw [e2] at h
    show _ = la_sm n (fun j => A k j * la_flB n A (la_cp n A) (m+1) j i) + (if k = i then la_cp n A (m+1) else 0)
    unfold la_cp at *; omega
theorem la_cp_zero (n : Nat) (A : Nat → Nat → Int) : la_cp n A 0 = 1 := by
  have h := la_det_pv (n := n) (fun a b => la_ee a b) (la_ng A) 0
  have e : la_det n (fun a b => la_ee a b + 0 * la_ng A a b) = la_det n (fun a b => la_ee a b) := la_det_congr (fun a b _ _ => by simp)
  rw [e, la_det_one] at h
  unfold la_pv at h
  rw [la_sm_succ', la_sm_zero (fun i _ => by rw [Int.pow_succ]; simp)] at h
  unfold la_cp; simpa using h.symm
theorem la_cp_fl (n : Nat) (A : Nat → Nat → Int) (m : Nat) (hm : m < n) : ((m+1 : Nat) : Int) * la_cp n A (m+1) = - la_sm n (fun i => la_sm n (fun j => A i j * la_flB n A (la_cp n A) (m+1) j i)) := by
  have h := la_dc_trace n (fun a b => la_ee a b) (la_ng A) m (by omega)
  rw [show la_dc n (fun a b => la_ee a b) (la_ng A) (m+1) = la_cp n A (m+1) from rfl] at h
  rw [h, ← la_sm_neg]
  refine la_sm_congr (fun i hi => ?_)
  rw [← la_sm_neg]
  refine la_sm_congr (fun j hj => ?_)
  rw [la_bc_fl n A m (by omega) j i hj hi, show la_ng A i j = - A i j from rfl]; grind
def la_colp (r : Nat) (A : Nat → Nat → Int) (C : Nat → Int) : Nat → Nat → Int
  | 0 => C
  | k+1 => fun i => la_sm r (fun j => A i j * la_colp r A C k j)
theorem la_fl_col (r : Nat) (A : Nat → Nat → Int) (c C : Nat → Int) (m : Nat) : ∀ i, i < r → la_sm r (fun j => la_flB r A c (m+1) i j * C j) = la_sm (m+1) (fun l => c l * la_colp r A C (m-l) i) := by
  induction m with
  | zero =>
    intro i hi
    simp only [la_flB, la_sm, la_colp, Nat.sub_zero, Int.zero_add]
    rw [la_sm_congr (g := fun j => (c 0 * C j) * la_ee i j) (fun j _ => by
      rw [la_sm_zero (fun _ _ => by simp)]; unfold la_ee; by_cases h : i = j
      · simp [h]
      · simp [h, Ne.symm h])]
    rw [la_sm_ee' (fun j => c 0 * C j) i hi]
  | succ m ih =>
    intro i hi
    have e1 : la_sm r (fun j => la_flB r A c (m+1+1) i j * C j) = la_sm r (fun j => la_sm r (fun l => A i l * la_flB r A c (m+1) l j) * C j) + c (m+1) * C i := by
      rw [← la_sm_ee' (fun j => c (m+1) * C j) i hi, ← la_sm_add]
      refine la_sm_congr (fun j _ => ?_)
      show (la_sm r (fun l => A i l * la_flB r A c (m+1) l j) + (if i = j then c (m+1) else 0)) * C j = _
      unfold la_ee; by_cases h : i = j
      · simp only [if_pos h, if_pos h.symm]; grind
      · simp only [if_neg h, if_neg (Ne.symm h)]; grind
    have e2 : la_sm r (fun j => la_sm r (fun l => A i l * la_flB r A c (m+1) l j) * C j) = la_sm r (fun l => A i l * la_sm r (fun j => la_flB r A c (m+1) l j * C j)) := by
      rw [la_sm_congr (g := fun j => la_sm r (fun l => A i l * (la_flB r A c (m+1) l j * C j))) (fun j _ => by
        rw [Int.mul_comm, ← la_sm_mul]; exact la_sm_congr (fun l _ => by grind))]
      rw [la_sm_swap]
      exact la_sm_congr (fun l _ => by rw [la_sm_mul])
    rw [e1, e2]
    rw [la_sm_congr (g := fun l => A i l * la_sm (m+1) (fun t => c t * la_colp r A C (m-t) l)) (fun l hl => by rw [ih l hl])]
    show _ = la_sm (m+1) (fun l => c l * la_colp r A C (m+1-l) i) + c (m+1) * la_colp r A C (m+1-(m+1)) i
    rw [Nat.sub_self]
    have e3 : la_sm r (fun l => A i l * la_sm (m+1) (fun t => c t * la_colp r A C (m-t) l)) = la_sm (m+1) (fun l => c l * la_colp r A C (m+1-l) i) := by
      rw [la_sm_congr (g := fun l => la_sm (m+1) (fun t => c t * (A i l * la_colp r A C (m-t) l))) (fun l _ => by
        rw [← la_sm_mul]; exact la_sm_congr (fun t _ => by grind))]
      rw [la_sm_swap]
      refine la_sm_congr (fun t ht => ?_)
      rw [la_sm_mul]
      have : m + 1 - t = (m - t) + 1 := by omega
      rw [this]; rfl
    rw [e3]; rfl
def la_turnB (r : Nat) (A : Nat → Nat → Int) : Nat → Int
  | 0 => 1
  | 1 => - A r r
  | k+2 => - la_sm r (fun i => A r i * la_colp r A (fun i => A i r) k i)
theorem la_cp_berkowitz (r : Nat) (A : Nat → Nat → Int) (m : Nat) (hm : m ≤ r + 1) : la_cp (r+1) A m = la_sm (m+1) (fun l => la_turnB r A (m-l) * la_cp r A l) := by
  have h : ∀ u : Int, la_pv (r+2) (la_cp (r+1) A) u = la_pv (r+2) (fun m => la_cp r A m + (- A r r) * la_up (la_cp r A) m + (-1) * la_up (la_up (fun k => la_sm r (fun j => A r j * la_sm r (fun i => A i r * la_bc r (fun a b => la_ee a b) (la_ng A) j i k)))) m) u := by
    intro u
    rw [la_pv_add, la_pv_add, la_pv_mul, la_pv_mul, la_pv_up, la_pv_up, la_pv_up]
    rw [la_pv_more (n := r+1) (m := r+2) (la_cp (r+1) A) u (by omega) (fun k hk => la_dc_top _ _ k hk)]
    rw [la_pv_more (n := r) (m := r+2) (la_cp r A) u (by omega) (fun k hk => la_dc_top _ _ k hk)]
    rw [la_pv_more (n := r) (m := r+1) (la_cp r A) u (by omega) (fun k hk => la_dc_top _ _ k hk)]
    rw [la_pv_sm]
    rw [la_sm_congr (g := fun j => A r j * la_sm r (fun i => A i r * la_adj r (fun a b => la_ee a b + u * la_ng A a b) j i)) (fun j _ => by
      rw [la_pv_sm]; congr 1; exact la_sm_congr (fun i _ => by rw [la_adj_pv]))]
    unfold la_cp
    rw [← la_det_pv, ← la_det_pv, la_det_border]
    have e : la_sm r (fun j => la_sm r (fun i => (la_ee r j + u * la_ng A r j) * la_adj r (fun a b => la_ee a b + u * la_ng A a b) j i * (la_ee i r + u * la_ng A i r))) = u * (u * la_sm r (fun j => A r j * la_sm r (fun i => A i r * la_adj r (fun a b => la_ee a b + u * la_ng A a b) j i))) := by
      rw [← la_sm_mul, ← la_sm_mul]
      refine la_sm_congr (fun j hj => ?_)
      rw [← la_sm_mul, ← la_sm_mul, ← la_sm_mul]
      refine la_sm_congr (fun i hi => ?_)
      rw [la_ee_ne (show j ≠ r by omega), la_ee_ne (show r ≠ i by omega)]
      unfold la_ng; grind
    rw [e, la_ee_self]
    unfold la_ng
    grind
  rw [la_pv_inj (fun u _ => h u) m (by omega)]
  cases m with
  | zero => simp [la_up, la_sm, la_turnB]
  | succ m =>
    cases m with
    | zero => simp [la_up, la_sm, la_turnB]; omega
    | succ m =>
      show la_cp r A (m+2) + (- A r r) * la_cp r A (m+1) + (-1) * la_sm r (fun j => A r j * la_sm r (fun i => A i r * la_bc r (fun a b => la_ee a b) (la_ng A) j i m)) = la_sm (m+1) (fun l => la_turnB r A (m+2-l) * la_cp r A l) + la_turnB r A (m+2-(m+1)) * la_cp r A (m+1) + la_turnB r A (m+2-(m+2)) * la_cp r A (m+2)
      have e1 : m + 2 - (m+1) = 1 := by omega
      have e2 : m + 2 - (m+2) = 0 := by omega
      rw [e1, e2]
      have e3 : la_sm r (fun j => A r j * la_sm r (fun i => A i r * la_bc r (fun a b => la_ee a b) (la_ng A) j i m)) = - la_sm (m+1) (fun l => la_turnB r A (m+2-l) * la_cp r A l) := by
        rw [la_sm_congr (g := fun j => A r j * la_sm (m+1) (fun l => la_cp r A l * la_colp r A (fun i => A i r) (m-l) j)) (fun j hj => by
          rw [← la_fl_col r A (la_cp r A) (fun i => A i r) m j hj]
          congr 1
          exact la_sm_congr (fun i hi => by rw [la_bc_fl r A m (by omega) j i hj hi]; grind))]
        rw [la_sm_congr (g := fun j => la_sm (m+1) (fun l => la_cp r A l * (A r j * la_colp r A (fun i => A i r) (m-l) j))) (fun j _ => by
          rw [← la_sm_mul]; exact la_sm_congr (fun l _ => by grind))]
        rw [la_sm_swap, ← la_sm_neg]
        refine la_sm_congr (fun l hl => ?_)
        rw [la_sm_mul]
        have : m + 2 - l = (m - l) + 2 := by omega
        rw [this]
        show _ = -(- la_sm r (fun i => A r i * la_colp r A (fun i => A i r) (m-l) i) * la_cp r A l)
        grind
      rw [e3]
      show la_cp r A (m+2) + (- A r r) * la_cp r A (m+1) + (-1) * _ = _ + (- A r r) * la_cp r A (m+1) + 1 * la_cp r A (m+2)
      grind
def la_un1 (u : Int) (H : Nat → Nat → Int) : Nat → Nat → Int := fun a b => la_ee a b - u * H a b
theorem la_det_rows_mix {n : Nat} (M : Nat → Nat → Int) (l : Nat → Nat) (x : Nat → Int) (h : ∀ a, a < n → x a ≠ 0 → l a < n ∧ l a ≠ a ∧ x (l a) = 0) :
    la_det n (fun a b => M a b + x a * M (l a) b) = la_det n M := by
  have key : ∀ m, m ≤ n → la_det n (fun a b => if a < m then M a b + x a * M (l a) b else M a b) = la_det n M := by
    intro m
    induction m with
    | zero => intro _; exact la_det_congr (fun a b _ _ => by simp)
    | succ m ih =>
      intro hm
      rw [← ih (by omega)]
      by_cases hx : x m = 0
      · refine la_det_congr (fun a b _ _ => ?_)
        by_cases h1 : a < m
        · rw [if_pos h1, if_pos (by omega)]
        · by_cases h2 : a = m
          · subst h2; simp [hx]
          · rw [if_neg h1, if_neg (by omega)]
      · obtain ⟨h1, h2, h3⟩ := h m (by omega) hx
        rw [← la_det_row_addmul (fun a b => if a < m then M a b + x a * M (l a) b else M a b) m (l m) (by omega) h1 (Ne.symm h2) (x m)]
        refine la_det_congr (fun a b _ _ => ?_)
        simp only [la_rr]
        by_cases h4 : a = m
        · subst h4
          by_cases h5 : l a < a
          · simp [h5, h3]
          · simp [h5]
        · by_cases h5 : a < m
          · rw [if_pos (by omega), if_neg h4, if_pos h5]
          · rw [if_neg (by omega), if_neg h4, if_neg h5]
  rw [← key n (Nat.le_refl n)]
  exact la_det_congr (fun a b ha _ => by rw [if_pos ha])
def mkS : Nat → Int → List Int
  | 0, _ => []
  | n + 1, a => a :: mkS n (a + 1)
theorem mkS_length (n : Nat) (a : Int) : (mkS n a).length = n := by
  induction n generalizing a with
  | zero => rfl
  | succ n ih => simp [mkS, ih]
theorem markInt64S_l0 : ∀ (d i : Nat) (a : Int) (x : List Int), x.length - i = d → i ≤ x.length → x.length ≤ 1048576 → 0 ≤ a → a + d ≤ 4611686018427387904 → Ev (fun k => F21.l0 k x a i) (a + d, x.take i ++ mkS d a) := by
  intro d
  induction d with
  | zero =>
    intro i a x hd hi hl h0 h1
    refine Ev.step (fun k => by simp only [F21.l0]; rfl) ?_
    simp only [show ¬ ((i : Int) < (x.length : Int)) by omega, if_false, mkS, List.append_nil, List.take_of_length_le (show x.length ≤ i by omega), show a + ((0 : Nat) : Int) = a by omega]
    exact Ev.now _
  | succ d ih =>
    intro i a x hd hi hl h0 h1
    refine Ev.step (fun k => by simp only [F21.l0]; rfl) ?_
    simp only [show ((i : Int) < (x.length : Int)) by omega, show (0 : Int) ≤ (i : Int) by omega, if_true, w64 (show -9223372036854775808 ≤ (i : Int) + 1 by omega) (by omega), w64 (show -9223372036854775808 ≤ a + 1 by omega) (by omega), Int.toNat_natCast]
    have h := ih (i + 1) (a + 1) (x.set i a) (by simp; omega) (by simp; omega) (by simp; omega) (by omega) (by omega)
    have e1 : (x.set i a).take (i + 1) ++ mkS d (a + 1) = x.take i ++ mkS (d + 1) a := by
      rw [List.take_succ_eq_append_getElem (by simp; omega), List.getElem_set_self, List.take_set_of_le (Nat.le_refl _), mkS, List.append_assoc]
      rfl
    have e2 : a + 1 + (d : Int) = a + ((d + 1 : Nat) : Int) := by omega
    rw [e1, e2] at h
    exact h
theorem markInt64S_ev (x : List Int) (a : Int) (hl : x.length ≤ 1048576) (h0 : 0 ≤ a) (h1 : a + x.length ≤ 4611686018427387904) : Ev (fun k => F21.f k x a) (a + x.length, mkS x.length a) := by
  have h := markInt64S_l0 x.length 0 a x (by omega) (by omega) hl h0 h1
  unfold F21.f
  simpa using h
theorem heldInt64S_l0 (x : List Int) (hl : x.length ≤ 1048576) : ∀ (d i : Nat) (a : Int), x.length - i = d → i ≤ x.length → x.drop i = mkS d a → 0 ≤ a → a + d ≤ 4611686018427387904 → Ev (fun k => F22.l0 k x a i) (a + d) := by
  intro d
  induction d with
  | zero =>
    intro i a hd hi hx h0 h1
    refine Ev.step (fun k => by simp only [F22.l0]; rfl) ?_
    simp only [show ¬ ((i : Int) < (x.length : Int)) by omega, if_false, show a + ((0 : Nat) : Int) = a by omega]
    exact Ev.now _
  | succ d ih =>
    intro i a hd hi hx h0 h1
    have hil : i < x.length := by omega
    rw [List.drop_eq_getElem_cons hil, mkS] at hx
    injection hx with hx1 hx2
    refine Ev.step (fun k => by simp only [F22.l0]; rfl) ?_
    simp only [show ((i : Int) < (x.length : Int)) by omega, show (0 : Int) ≤ (i : Int) by omega, if_true, rd_nat x i hil, hx1, w64 (show -9223372036854775808 ≤ (i : Int) + 1 by omega) (by omega), w64 (show -9223372036854775808 ≤ a + 1 by omega) (by omega)]
    have h := ih (i + 1) (a + 1) (by omega) (by omega) hx2 (by omega) (by omega)
    have e2 : a + 1 + (d : Int) = a + ((d + 1 : Nat) : Int) := by omega
    rw [e2] at h
    exact h
theorem heldInt64S_ev (n : Nat) (a : Int) (hl : n ≤ 1048576) (h0 : 0 ≤ a) (h1 : a + n ≤ 4611686018427387904) : Ev (fun k => F22.f k (mkS n a) a) (a + n) :=
  heldInt64S_l0 (mkS n a) (by rw [mkS_length]; exact hl) n 0 a (by rw [mkS_length]; rfl) (by omega) (by simp) h0 h1
def tot : List (List Int) → Nat
  | [] => 0
  | x :: xs => x.length + tot xs
def mkSS : List (List Int) → Int → List (List Int)
  | [], _ => []
  | x :: xs, a => mkS x.length a :: mkSS xs (a + x.length)
theorem tot_le (xs : List (List Int)) (m : Nat) (h : ∀ x ∈ xs, x.length ≤ m) : tot xs ≤ xs.length * m := by
  induction xs with
  | nil => simp [tot]
  | cons x xs ih =>
    have h1 := h x List.mem_cons_self
    have h2 := ih (fun y hy => h y (List.mem_cons_of_mem _ hy))
    simp only [tot, List.length_cons, Nat.succ_mul]
    omega
theorem tot_small (xs : List (List Int)) (hl : xs.length ≤ 1048576) (h : ∀ x ∈ xs, x.length ≤ 1048576) : tot xs ≤ 1099511627776 := by
  have h1 := tot_le xs 1048576 h
  have h2 := Nat.mul_le_mul_right 1048576 hl
  omega
theorem markInt64SS_l0 : ∀ (d i : Nat) (a : Int) (x : List (List Int)), x.length - i = d → i ≤ x.length → x.length ≤ 1048576 → (∀ y ∈ x.drop i, y.length ≤ 1048576) → 0 ≤ a → a + tot (x.drop i) ≤ 4611686018427387904 → Ev (fun k => F88.l0 k x a i) (a + tot (x.drop i), x.take i ++ mkSS (x.drop i) a) := by
  intro d
  induction d with
  | zero =>
    intro i a x hd hi hl hx h0 h1
    refine Ev.step (fun k => by simp only [F88.l0]; rfl) ?_
    simp only [show ¬ ((i : Int) < (x.length : Int)) by omega, if_false, List.drop_of_length_le (show x.length ≤ i by omega), mkSS, tot, List.append_nil, List.take_of_length_le (show x.length ≤ i by omega), show a + ((0 : Nat) : Int) = a by omega]
    exact Ev.now _
  | succ d ih =>
    intro i a x hd hi hl hx h0 h1
    have hil : i < x.length := by omega
    rw [List.drop_eq_getElem_cons hil] at hx h1 ⊢
    simp only [tot] at h1 ⊢
    have hxi := hx _ List.mem_cons_self
    refine Ev.step (fun k => by simp only [F88.l0]; rfl) ?_
    have hrd : rdL x (i : Int) = x[i] := by simp [rdL, List.getD_eq_getElem?_getD, hil]
    simp only [show ((i : Int) < (x.length : Int)) by omega, show (0 : Int) ≤ (i : Int) by omega, if_true, w64 (show -9223372036854775808 ≤ (i : Int) + 1 by omega) (by omega), Int.toNat_natCast, hrd]
    refine Ev.bind (markInt64S_ev x[i] a hxi h0 (by omega)) ?_
    have hdrop : (x.set i (mkS x[i].length a)).drop (i + 1) = x.drop (i + 1) := by rw [List.drop_set_of_lt (by omega)]
    have h := ih (i + 1) (a + x[i].length) (x.set i (mkS x[i].length a)) (by simp; omega) (by simp; omega) (by simp; omega) (by rw [hdrop]; exact fun y hy => hx y (List.mem_cons_of_mem _ hy)) (by omega) (by rw [hdrop]; omega)
    rw [hdrop] at h
    have e1 : (x.set i (mkS x[i].length a)).take (i + 1) ++ mkSS (x.drop (i + 1)) (a + x[i].length) = x.take i ++ mkSS (x[i] :: x.drop (i + 1)) a := by
      rw [List.take_succ_eq_append_getElem (by simp; omega), List.getElem_set_self, List.take_set_of_le (Nat.le_refl _), mkSS, List.append_assoc]
      rfl
    have e2 : a + (x[i].length : Int) + ((tot (x.drop (i + 1)) : Nat) : Int) = a + ((x[i].length + tot (x.drop (i + 1)) : Nat) : Int) := by omega
    rw [e1, e2] at h
    exact h
theorem markInt64SS_ev (x : List (List Int)) (a : Int) (hl : x.length ≤ 1048576) (hx : ∀ y ∈ x, y.length ≤ 1048576) (h0 : 0 ≤ a) (h1 : a + tot x ≤ 4611686018427387904) : Ev (fun k => F88.f k x a) (a + tot x, mkSS x a) := by
  have h := markInt64SS_l0 x.length 0 a x (by omega) (by omega) hl (by simpa using hx) h0 (by simpa using h1)
  unfold F88.f
  simpa using h
theorem tdiv2 (e : Nat) : Int.tdiv (e : Int) 2 = ((e / 2 : Nat) : Int) := rfl
theorem tmod2 (e : Nat) : Int.tmod (e : Int) 2 = ((e % 2 : Nat) : Int) := rfl
/-- Where the directed edge e begins, and where it ends. -/
def begAt (l : List (List Int)) (e : Nat) : Int := rd (rd_L1 l ((e / 2 : Nat) : Int)) ((e % 2 : Nat) : Int)
def endAt (l : List (List Int)) (e : Nat) : Int := rd (rd_L1 l ((e / 2 : Nat) : Int)) ((1 - e % 2 : Nat) : Int)
def two (l : List (List Int)) : Prop := ∀ x ∈ l, x.length = 2
theorem isG_two {a : Int} {l : List (List Int)} (h : isG a l = true) : two l := by
  intro x hx
  simp only [isG, Bool.and_eq_true, List.all_eq_true] at h
  have := h.2.2.2 x hx
  simp only [edgeIn, Bool.and_eq_true, decide_eq_true_eq] at this
  exact this.1
theorem isG_len {a : Int} {l : List (List Int)} (h : isG a l = true) : l.length ≤ 10 := by
  simp only [isG, Bool.and_eq_true, decide_eq_true_eq] at h
  exact h.2.2.1
theorem isG_size {a : Int} {l : List (List Int)} (h : isG a l = true) : 1 ≤ a ∧ a ≤ 8 := by
  simp only [isG, Bool.and_eq_true, decide_eq_true_eq] at h
  exact ⟨h.1, h.2.1⟩
theorem isG_edge {a : Int} {l : List (List Int)} (h : isG a l = true) {x : List Int} (hx : x ∈ l) : (0 ≤ rd x 0 ∧ rd x 0 ≤ a - 1) ∧ (0 ≤ rd x 1 ∧ rd x 1 ≤ a - 1) := by
  have hs := isG_size h
  simp only [isG, Bool.and_eq_true, List.all_eq_true] at h
  have := h.2.2.2 x hx
  simp only [edgeIn, endIn, Bool.and_eq_true, decide_eq_true_eq] at this
  rw [w64 (by omega) (by omega)] at this
  exact this.2
theorem two_at {l : List (List Int)} (h2 : two l) (e : Nat) (he : e < 2 * l.length) : (rd_L1 l ((e / 2 : Nat) : Int)).length = 2 := by
  have hi : e / 2 < l.length := by omega
  rw [rdL1_nat l (e / 2) hi]
  exact h2 _ (List.getElem_mem hi)
theorem l01Ends_eq (a : Int) (l : List (List Int)) (hl : l.length ≤ 1048576) (h2 : two l) (e : Nat) (he : e < 2 * l.length) : F201.f a l e = some (begAt l e, endAt l e) := by
  have hx := two_at h2 e he
  unfold F201.f
  rw [tdiv2, tmod2, w64 (by omega) (by omega), if_pos (by omega), if_pos (by omega), hx]
  unfold begAt endAt
  rcases Nat.mod_two_eq_zero_or_one e with h | h
  · rw [h]; rfl
  · rw [h]; rfl
theorem ends_eq (a : Int) (l : List (List Int)) (hl : l.length ≤ 1048576) (h2 : two l) (e : Nat) (he : e < 2 * l.length) : F219.f a l e = some (begAt l e, endAt l e) := by
  have hx := two_at h2 e he
  unfold F219.f
  rw [tdiv2, tmod2, w64 (by omega) (by omega), if_pos (by omega), if_pos (by omega), hx]
  have hm : e % 2 < 2 := Nat.mod_lt _ (by omega)
  rw [w64 (by omega) (by omega), if_pos (by omega), if_pos (by omega), if_pos (by omega), if_pos (by omega)]
  unfold begAt endAt
  rw [show (1 : Int) - ((e % 2 : Nat) : Int) = ((1 - e % 2 : Nat) : Int) by omega]
/-- The other direction of e's edge. -/
def opp (e : Nat) : Nat := if e % 2 = 0 then e + 1 else e - 1
theorem xor1_all : ((List.range 20).all fun e : Nat => Go.bits .xor .i64 (e : Int) 1 == ((opp e : Nat) : Int)) = true := by kernel_rfl
theorem xor1 (e : Nat) (h : e < 20) : Go.bits .xor .i64 (e : Int) 1 = ((opp e : Nat) : Int) := by
  have := List.all_eq_true.1 xor1_all e (List.mem_range.2 h)
  exact eq_of_beq this
/-- May f come behind e. -/
def next (l : List (List Int)) (e f : Nat) : Bool := decide (endAt l e = begAt l f) && !decide (f = opp e)
def mrow (n : Nat) (g : Nat → Bool) (f : Nat) : List Int := (List.range n).map fun j => if (decide (j < f) && g j) = true then 1 else 0
theorem mrow_length (n : Nat) (g : Nat → Bool) (f : Nat) : (mrow n g f).length = n := by simp [mrow]
theorem mrow_zero (n : Nat) (g : Nat → Bool) : mrow n g 0 = List.replicate n 0 := by
  apply List.ext_getElem
  · simp [mrow]
  · intro i h1 h2; simp [mrow]
theorem mrow_hit (n : Nat) (g : Nat → Bool) (f : Nat) (hf : f < n) (h : g f = true) : (mrow n g f).set f 1 = mrow n g (f + 1) := by
  apply List.ext_getElem
  · simp [mrow]
  · intro i h1 h2
    simp only [mrow, List.length_map, List.length_range, List.length_set] at h1 h2
    rw [List.getElem_set]
    by_cases hi : f = i
    · subst hi; simp [mrow, h]
    · rw [if_neg hi]
      simp only [mrow, List.getElem_map, List.getElem_range]
      have : decide (i < f) = decide (i < f + 1) := by rw [Bool.eq_iff_iff]; simp; omega
      rw [this]
theorem mrow_miss (n : Nat) (g : Nat → Bool) (f : Nat) (h : g f = false) : mrow n g f = mrow n g (f + 1) := by
  apply List.ext_getElem
  · simp [mrow]
  · intro i h1 h2
    simp only [mrow, List.getElem_map, List.getElem_range]
    by_cases hi : i = f
    · subst hi; simp [h]
    · have : decide (i < f) = decide (i < f + 1) := by rw [Bool.eq_iff_iff]; simp; omega
      rw [this]
/-- The edge rows. -/
def edgeM (l : List (List Int)) : List (List Int) := (List.range (2 * l.length)).map fun e => mrow (2 * l.length) (next l e) (2 * l.length)
/-- The rows on the way: those above e are whole, that of e up to f. -/
def mpart (l : List (List Int)) (e f : Nat) : List (List Int) := (List.range (2 * l.length)).map fun i => mrow (2 * l.length) (next l i) (if i < e then 2 * l.length else if i = e then f else 0)
theorem mpart_length (l : List (List Int)) (e f : Nat) : (mpart l e f).length = 2 * l.length := by simp [mpart]
theorem mpart_row (l : List (List Int)) (e f : Nat) (he : e < 2 * l.length) : rd_L1 (mpart l e f) (e : Int) = mrow (2 * l.length) (next l e) f := by
  rw [rdL1_nat _ _ (by rw [mpart_length]; exact he)]
  simp [mpart]
theorem mpart_hit (l : List (List Int)) (e f : Nat) (he : e < 2 * l.length) (hf : f < 2 * l.length) (h : next l e f = true) : (mpart l e f).set e ((mrow (2 * l.length) (next l e) f).set f 1) = mpart l e (f + 1) := by
  rw [mrow_hit _ _ _ hf h]
  apply List.ext_getElem
  · simp [mpart]
  · intro i h1 h2
    rw [List.getElem_set]
    by_cases hi : e = i
    · subst hi; simp [mpart]
    · rw [if_neg hi]
      simp [mpart, Ne.symm hi]
theorem mpart_miss (l : List (List Int)) (e f : Nat) (h : next l e f = false) : mpart l e f = mpart l e (f + 1) := by
  unfold mpart
  apply List.map_congr_left
  intro i _
  by_cases hi : i < e
  · simp [hi]
  · by_cases hie : i = e
    · subst hie; simp; exact mrow_miss _ _ _ h
    · simp [hi, hie]
theorem mpart_next (l : List (List Int)) (e : Nat) : mpart l e (2 * l.length) = mpart l (e + 1) 0 := by
  unfold mpart
  apply List.map_congr_left
  intro i _
  by_cases hi : i < e
  · rw [if_pos hi, if_pos (by omega)]
  · by_cases hie : i = e
    · subst hie; simp
    · rw [if_neg hi, if_neg hie, if_neg (by omega)]; split <;> rfl
theorem mpart_all (l : List (List Int)) : mpart l (2 * l.length) 0 = edgeM l := by
  unfold mpart edgeM
  apply List.map_congr_left
  intro i hi
  rw [if_pos (List.mem_range.1 hi)]
theorem edgeMatrix_l1 (a : Int) (l : List (List Int)) (hl : l.length ≤ 10) (h2 : two l) (R : List (List Int)) (e : Nat) (he : e < 2 * l.length)
    (hR : Ev (fun k => F170.l0 k (mpart l (e + 1) 0) ((2 * l.length : Nat) : Int) ((e : Int) + 1) a l) R) :
    ∀ (d f : Nat), 2 * l.length - f = d → f ≤ 2 * l.length → Ev (fun k => F170.l1 k (mpart l e f) e (endAt l e) ((2 * l.length : Nat) : Int) e ((2 * l.length : Nat) : Int) f a l) R := by
  intro d
  induction d with
  | zero =>
    intro f hd hf
    obtain rfl : f = 2 * l.length := by omega
    refine Ev.step (fun k => by simp only [F170.l1]; rfl) ?_
    simp only [Int.lt_irrefl, if_false, mpart_next, w64 (show -9223372036854775808 ≤ (e : Int) + 1 by omega) (by omega)]
    exact hR
  | succ d ih =>
    intro f hd hf
    have hfl : f < 2 * l.length := by omega
    refine Ev.step (fun k => by simp only [F170.l1]; rfl) ?_
    have h := ih (f + 1) (by omega) (by omega)
    simp only [show ((f : Int) < ((2 * l.length : Nat) : Int)) by omega, if_true, ends_eq a l (by omega) h2 f hfl, Option.bind_some, show (0 : Int) ≤ (f : Int) by omega, show (0 : Int) ≤ (e : Int) by omega, mpart_length, mpart_row l e f he, mrow_length, show ((e : Int) < ((2 * l.length : Nat) : Int)) by omega, Int.toNat_natCast, xor1 e (by omega), w64 (show -9223372036854775808 ≤ (f : Int) + 1 by omega) (by omega)]
    have hn : next l e f = (decide (endAt l e = begAt l f) && !decide (f = opp e)) := rfl
    by_cases h3 : begAt l f = endAt l e
    · simp only [h3, if_true]
      by_cases h4 : f = opp e
      · simp only [eq_true (show (f : Int) = ((opp e : Nat) : Int) by omega), if_true]
        rw [mpart_miss l e f (by rw [hn]; simp [h3, h4.symm])]
        exact h
      · simp only [show ¬ ((f : Int) = ((opp e : Nat) : Int)) by omega, if_false]
        rw [mpart_hit l e f he hfl (by rw [hn]; simp [h3, h4])]
        exact h
    · simp only [h3, if_false]
      rw [mpart_miss l e f (by rw [hn]; simp [Ne.symm h3])]
      exact h
theorem edgeMatrix_l0 (a : Int) (l : List (List Int)) (hl : l.length ≤ 10) (h2 : two l) : ∀ (d e : Nat), 2 * l.length - e = d → e ≤ 2 * l.length → Ev (fun k => F170.l0 k (mpart l e 0) ((2 * l.length : Nat) : Int) e a l) (edgeM l) := by
  intro d
  induction d with
  | zero =>
    intro e hd he
    obtain rfl : e = 2 * l.length := by omega
    refine Ev.step (fun k => by simp only [F170.l0]; rfl) ?_
    simp only [Int.lt_irrefl, if_false, mpart_all]
    exact Ev.now _
  | succ d ih =>
    intro e hd he
    have hel : e < 2 * l.length := by omega
    refine Ev.step (fun k => by simp only [F170.l0]; rfl) ?_
    simp only [show ((e : Int) < ((2 * l.length : Nat) : Int)) by omega, if_true, ends_eq a l (by omega) h2 e hel, Option.bind_some, F163.f, w64 (show -9223372036854775808 ≤ 2 * (l.length : Int) by omega) (by omega)]
    rw [show 2 * (l.length : Int) = ((2 * l.length : Nat) : Int) by omega]
    exact edgeMatrix_l1 a l hl h2 _ e hel (ih (e + 1) (by omega) (by omega)) (2 * l.length) 0 (by omega) (by omega)
theorem square_l0 (n : Nat) (hn : n ≤ 1048576) : ∀ (d i : Nat), n - i = d → i ≤ n → Ev (fun k => F204.l0 k n (List.replicate i (List.replicate n 0)) n i) (List.replicate n (List.replicate n 0)) := by
  intro d
  induction d with
  | zero =>
    intro i hd hi
    obtain rfl : i = n := by omega
    refine Ev.step (fun k => by simp only [F204.l0]; rfl) ?_
    simp only [Int.lt_irrefl, if_false]
    exact Ev.now _
  | succ d ih =>
    intro i hd hi
    refine Ev.step (fun k => by simp only [F204.l0]; rfl) ?_
    simp only [show ((i : Int) < (n : Int)) by omega, show (0 : Int) ≤ (n : Int) by omega, Int.toNat_natCast, show n ≤ 35184372088832 by omega, List.length_replicate, show i < 5864062014805 by omega, if_true, w64 (show -9223372036854775808 ≤ (i : Int) + 1 by omega) (by omega)]
    have h := ih (i + 1) (by omega) (by omega)
    rw [List.replicate_succ'] at h
    exact h
theorem square_ev (n : Nat) (hn : n ≤ 1048576) : Ev (fun k => F204.f k n) (List.replicate n (List.replicate n 0)) := square_l0 n hn n 0 (by omega) (by omega)
theorem mpart_zero (l : List (List Int)) : mpart l 0 0 = List.replicate (2 * l.length) (List.replicate (2 * l.length) 0) := by
  apply List.ext_getElem
  · simp [mpart]
  · intro i h1 h2
    simp only [mpart, List.getElem_map, List.getElem_range, List.getElem_replicate]
    rw [← mrow_zero (2 * l.length) (next l i)]
    congr 1
    rw [if_neg (by omega)]
    split <;> rfl
theorem edgeMatrix_ev (a : Int) (l : List (List Int)) (hl : l.length ≤ 10) (h2 : two l) : Ev (fun k => F170.f k a l) (edgeM l) := by
  unfold F170.f
  simp only [F163.f, Option.bind_some, w64 (show -9223372036854775808 ≤ 2 * (l.length : Int) by omega) (by omega)]
  rw [show 2 * (l.length : Int) = ((2 * l.length : Nat) : Int) by omega]
  refine Ev.bind (square_ev (2 * l.length) (by omega)) ?_
  rw [← mpart_zero]
  exact edgeMatrix_l0 a l hl h2 (2 * l.length) 0 (by omega) (by omega)
theorem clone_ev (l : List Int) (h : l.length ≤ 1048576) : F151.f l = some l := by
  unfold F151.f
  rw [if_pos (by omega)]
/-- The two ends of edge i of a graph, as numbers below n. -/
def endsIn (n : Nat) (l : List (List Int)) : Prop := ∀ i, i < l.length → (rd_L1 l (i : Int)).length = 2 ∧ ∃ u v : Nat, rd (rd_L1 l (i : Int)) 0 = u ∧ rd (rd_L1 l (i : Int)) 1 = v ∧ u < n ∧ v < n
theorem isG_ends {a : Int} {l : List (List Int)} (h : isG a l = true) : ∃ n : Nat, a = n ∧ 1 ≤ n ∧ n ≤ 8 ∧ endsIn n l := by
  have hs := isG_size h
  refine ⟨a.toNat, by omega, by omega, by omega, fun i hi => ?_⟩
  have hm : l[i] ∈ l := List.getElem_mem hi
  rw [rdL1_nat l i hi]
  have he := isG_edge h hm
  exact ⟨isG_two h _ hm, (rd l[i] 0).toNat, (rd l[i] 1).toNat, by omega, by omega, by omega, by omega⟩
theorem sub_of_all {n : Nat} {l : List Int} (hl : l.length = n) (h : ∀ x : Nat, x < n → (x : Int) ∈ l) : l.Nodup ∧ ∀ y ∈ l, 0 ≤ y ∧ y < n := by
  have hr : ((List.range n).map Int.ofNat).Nodup := by
    rw [List.Nodup, List.pairwise_map]
    exact List.nodup_range.imp (fun h e => h (Int.ofNat.inj e))
  have key : ∀ y ∈ l, (∀ x : Nat, x < n → (x : Int) = y → (x : Int) ∈ l.erase y) → False := by
    intro y hy hx
    have hs : ((List.range n).map Int.ofNat) ⊆ l.erase y := by
      intro z hz
      obtain ⟨x, hxn, rfl⟩ := List.mem_map.1 hz
      rw [List.mem_range] at hxn
      by_cases e : (x : Int) = y
      · exact hx x hxn e
      · exact (List.mem_erase_of_ne e).2 (h x hxn)
    have h1 := hr.length_le_of_subset hs
    rw [List.length_map, List.length_range, List.length_erase_of_mem hy] at h1
    have : 0 < l.length := List.length_pos_of_mem hy
    omega
  refine ⟨?_, fun y hy => ?_⟩
  · rw [List.nodup_iff_count]
    intro y
    by_cases hy : y ∈ l
    · by_cases hc : List.count y l ≤ 1
      · exact hc
      · exact (key y hy (fun x hx e => by
          rw [e]
          have : 0 < List.count y (l.erase y) := by rw [List.count_erase_self]; omega
          exact List.count_pos_iff.1 this)).elim
    · rw [List.count_eq_zero_of_not_mem hy]; omega
  · by_cases hb : 0 ≤ y ∧ y < n
    · exact hb
    · exact (key y hy (fun x hx e => by omega)).elim
theorem all_of_sub {n : Nat} {l : List Int} (hl : l.length = n) (hd : l.Nodup) (h : ∀ y ∈ l, 0 ≤ y ∧ y < n) (x : Nat) (hx : x < n) : (x : Int) ∈ l := by
  by_cases hm : (x : Int) ∈ l
  · exact hm
  · have hs : ((x : Int) :: l) ⊆ (List.range n).map Int.ofNat := by
      intro z hz
      rcases List.mem_cons.1 hz with rfl | hz
      · exact List.mem_map.2 ⟨x, List.mem_range.2 hx, rfl⟩
      · have := h z hz
        exact List.mem_map.2 ⟨z.toNat, List.mem_range.2 (by omega), by show ((z.toNat : Nat) : Int) = z; omega⟩
    have h1 := (List.nodup_cons.2 ⟨hm, hd⟩).length_le_of_subset hs
    rw [List.length_cons, List.length_map, List.length_range] at h1
    omega
/-- A list of n numbers that has each number less than n. -/
def isOrd (n : Nat) (l : List Int) : Bool := decide (l.length = n) && (List.range n).all fun x => decide ((x : Int) ∈ l)
theorem isOrd_iff (n : Nat) (l : List Int) : isOrd n l = true ↔ l.length = n ∧ l.Nodup ∧ ∀ y ∈ l, 0 ≤ y ∧ y < n := by
  unfold isOrd
  simp only [Bool.and_eq_true, decide_eq_true_eq, List.all_eq_true, List.mem_range]
  constructor
  · rintro ⟨h1, h2⟩
    obtain ⟨h3, h4⟩ := sub_of_all h1 h2
    exact ⟨h1, h3, h4⟩
  · rintro ⟨h1, h2, h3⟩
    exact ⟨h1, fun x hx => all_of_sub h1 h2 h3 x hx⟩
theorem index_l0 (l : List Int) (hl : l.length ≤ maxLen) (x : Int) : ∀ (d i : Nat), l.length - i = d → i ≤ l.length → ∃ r, Ev (fun k => F200.l0 k l x (l.length : Int) i) r ∧ (0 ≤ r ↔ x ∈ l.drop i) := by
  unfold maxLen at hl
  intro d
  induction d with
  | zero =>
    intro i hd hi
    obtain rfl : i = l.length := by omega
    refine ⟨-1, Ev.step (fun k => by simp only [F200.l0]; rfl) ?_, by simp⟩
    simp only [Int.lt_irrefl, if_false]
    exact Ev.now _
  | succ d ih =>
    intro i hd hi
    have hil : i < l.length := by omega
    rw [List.drop_eq_getElem_cons hil]
    by_cases hx : x = l[i]
    · refine ⟨(i : Int), Ev.step (fun k => by simp only [F200.l0]; rfl) ?_, ⟨fun _ => List.mem_cons.2 (.inl hx), fun _ => by omega⟩⟩
      simp only [show ((i : Int) < (l.length : Int)) by omega, show (0 : Int) ≤ (i : Int) by omega, if_true, rd_nat l i hil, hx]
      exact Ev.now _
    · obtain ⟨r, h1, h2⟩ := ih (i + 1) (by omega) (by omega)
      refine ⟨r, Ev.step (fun k => by simp only [F200.l0]; rfl) ?_, ⟨fun h => List.mem_cons.2 (.inr (h2.1 h)), fun h => h2.2 ((List.mem_cons.1 h).resolve_left hx)⟩⟩
      simp only [show ((i : Int) < (l.length : Int)) by omega, show (0 : Int) ≤ (i : Int) by omega, if_true, rd_nat l i hil, hx, if_false, w64 (show -9223372036854775808 ≤ (i : Int) + 1 by omega) (by omega)]
      exact h1
theorem contains_ev (l : List Int) (hl : l.length ≤ maxLen) (x : Int) : Ev (fun k => F118.f k l x) (decide (x ∈ l)) := by
  obtain ⟨r, h1, h2⟩ := index_l0 l hl x l.length 0 (by omega) (by omega)
  unfold F118.f
  refine Ev.bind h1 ?_
  rw [List.drop_zero] at h2
  rw [show decide (x ∈ l) = decide (r ≥ 0) from decide_eq_decide.2 h2.symm]
  exact Ev.now _
theorem isOrder_l0 (n : Nat) (hn : n ≤ 1048576) (l : List Int) (hl : l.length ≤ maxLen) : ∀ (d i : Nat), n - i = d → i ≤ n → (∀ x : Nat, x < i → (x : Int) ∈ l) → Ev (fun k => F127.l0 k l n n i) (isOrd n l) := by
  intro d
  induction d with
  | zero =>
    intro i hd hi hx
    obtain rfl : i = n := by omega
    refine Ev.step (fun k => by simp only [F127.l0]; rfl) ?_
    simp only [Int.lt_irrefl, if_false]
    have : isOrd i l = ((l.length : Int) == (i : Int)) := by
      have ha : ((List.range i).all fun x => decide ((x : Int) ∈ l)) = true := by
        simp only [List.all_eq_true, List.mem_range, decide_eq_true_eq]
        exact hx
      unfold isOrd
      rw [ha, Bool.and_true, Bool.eq_iff_iff]
      simp
      omega
    rw [this]
    exact Ev.now _
  | succ d ih =>
    intro i hd hi hx
    refine Ev.step (fun k => by simp only [F127.l0]; rfl) ?_
    simp only [show ((i : Int) < (n : Int)) by omega, if_true]
    refine Ev.bind (contains_ev l hl (i : Int)) ?_
    by_cases hm : (i : Int) ∈ l
    · simp only [hm, decide_true, if_true, w64 (show -9223372036854775808 ≤ (i : Int) + 1 by omega) (by omega)]
      exact ih (i + 1) (by omega) (by omega) (fun x hxi => by
        by_cases e : x = i
        · subst e; exact hm
        · exact hx x (by omega))
    · simp only [hm, decide_false, Bool.false_eq_true, if_false]
      have : isOrd n l = false := by
        rw [Bool.eq_false_iff]
        intro h
        unfold isOrd at h
        simp only [Bool.and_eq_true, List.all_eq_true, List.mem_range, decide_eq_true_eq] at h
        exact hm (h.2 i (by omega))
      rw [this]
      exact Ev.now _
theorem isOrder_ev (n : Nat) (hn : n ≤ 1048576) (l : List Int) (hl : l.length ≤ maxLen) : Ev (fun k => F127.f k l n) (isOrd n l) :=
  isOrder_l0 n hn l hl n 0 (by omega) (by omega) (fun x h => by omega)
/-- All in their place, none twice, none met. -/
def freshL (n : Nat) (l r : List Int) : Prop := (∀ y ∈ r, 0 ≤ y ∧ y < n) ∧ r.Nodup ∧ ∀ y ∈ r, y ∉ l
instance (n : Nat) (l r : List Int) : Decidable (freshL n l r) := by unfold freshL; exact inferInstance
theorem freshL_step (n : Nat) (l r : List Int) (x : Int) : freshL n l (x :: r) ↔ (0 ≤ x ∧ x < n) ∧ x ∉ l ∧ freshL n (l ++ [x]) r := by
  unfold freshL
  simp only [List.nodup_cons, List.mem_cons, List.mem_append, List.not_mem_nil, or_false, forall_eq_or_imp]
  constructor
  · rintro ⟨⟨h1, h2⟩, ⟨h3, h4⟩, h5, h6⟩
    exact ⟨h1, h5, h2, h4, fun y hy => by
      rintro (h | rfl)
      · exact h6 y hy h
      · exact h3 hy⟩
  · rintro ⟨h1, h2, h3, h4, h5⟩
    exact ⟨⟨h1, h3⟩, ⟨fun h => h5 x h (.inr rfl), h4⟩, h2, fun y hy h => h5 y hy (.inl h)⟩
theorem perm_l0 (n : Nat) (hn : n ≤ 4) (l : List Int) (hl : l.length ≤ 1048576) : ∀ (d i : Nat) (m : List Bool), l.length - i = d → i ≤ l.length → m.length = 4 → (∀ j : Nat, j < 4 → (m.getD j false = true ↔ (j : Int) ∈ l.take i)) → Ev (fun k => F214.l0 k l n m i) (decide (freshL n (l.take i) (l.drop i))) := by
  intro d
  induction d with
  | zero =>
    intro i m hd hi hm hj
    obtain rfl : i = l.length := by omega
    refine Ev.step (fun k => by simp only [F214.l0]; rfl) ?_
    simp only [Int.lt_irrefl, if_false]
    rw [show decide (freshL n (l.take l.length) (l.drop l.length)) = true from decide_eq_true (by simp [freshL])]
    exact Ev.now _
  | succ d ih =>
    intro i m hd hi hm hj
    have hil : i < l.length := by omega
    have e1 := freshL_step n (l.take i) (l.drop (i + 1)) l[i]
    rw [← List.drop_eq_getElem_cons hil] at e1
    refine Ev.step (fun k => by simp only [F214.l0]; rfl) ?_
    simp only [show ((i : Int) < (l.length : Int)) by omega, show (0 : Int) ≤ (i : Int) by omega, if_true, rd_nat l i hil, l01In_eq, Option.bind_some, w64 (show -9223372036854775808 ≤ (n : Int) - 1 by omega) (by omega)]
    by_cases hb : 0 ≤ l[i] ∧ l[i] < n
    · have hx4 : l[i] < 4 := by omega
      obtain ⟨x, hx⟩ : ∃ x : Nat, l[i] = (x : Int) := ⟨l[i].toNat, by omega⟩
      have hb2 : (decide (0 ≤ l[i]) && decide (l[i] ≤ (n : Int) - 1)) = true := by
        simp only [Bool.and_eq_true, decide_eq_true_eq]; omega
      simp only [hb2, if_true]
      simp only [hb.1, hx4, if_true]
      have hjx := hj x (by omega)
      by_cases hmx : m.getD x false = true
      · rw [hx, Int.toNat_natCast]
        simp only [hmx, if_true]
        rw [show decide (freshL n (l.take i) (l.drop i)) = false from decide_eq_false (fun h => (e1.1 h).2.1 (by rw [hx]; exact hjx.1 hmx))]
        exact Ev.now _
      · have hmf : m.getD x false = false := by simpa using hmx
        have h := ih (i + 1) (m.set x true) (by omega) (by omega) (by rw [List.length_set]; exact hm) (fun j hj4 => by
          rw [List.take_succ_eq_append_getElem hil, List.mem_append, List.mem_singleton, hx]
          by_cases e : j = x
          · subst e; simp [hm, hj4]
          · rw [List.getD_eq_getElem?_getD, List.getElem?_set_ne (by omega), ← List.getD_eq_getElem?_getD, hj j hj4]
            simp [show ¬ ((j : Int) = (x : Int)) by omega])
        rw [List.take_succ_eq_append_getElem hil] at h
        rw [hx, Int.toNat_natCast]
        simp only [hmf, Bool.false_eq_true, if_false, w64 (show -9223372036854775808 ≤ (i : Int) + 1 by omega) (by omega)]
        rw [show decide (freshL n (l.take i) (l.drop i)) = decide (freshL n (l.take i ++ [l[i]]) (l.drop (i + 1))) from decide_eq_decide.2 (e1.trans ⟨fun h => h.2.2, fun h => ⟨hb, fun hc => hmx (hjx.2 (by rw [← hx]; exact hc)), h⟩⟩)]
        exact h
    · have hb2 : (decide (0 ≤ l[i]) && decide (l[i] ≤ (n : Int) - 1)) = false := by
        rw [Bool.and_eq_false_iff]
        by_cases h0 : 0 ≤ l[i]
        · right; rw [decide_eq_false_iff_not]; omega
        · left; rw [decide_eq_false_iff_not]; exact h0
      simp only [hb2, Bool.false_eq_true, if_false]
      rw [show decide (freshL n (l.take i) (l.drop i)) = false from decide_eq_false (fun h => hb (e1.1 h).1)]
      exact Ev.now _
theorem l04Permutation_ev (n : Nat) (hn : n ≤ 4) (l : List Int) : Ev (fun k => F214.f k l n) (isOrd n l) := by
  unfold F214.f
  by_cases h : (l.length : Int) = (n : Int)
  · simp only [h, if_true]
    have h1 := perm_l0 n hn l (by omega) l.length 0 (List.replicate 4 false) (by omega) (by omega) rfl (fun j hj => by
      rw [List.getD_eq_getElem?_getD, List.getElem?_replicate, if_pos hj]
      simp)
    rw [List.take_zero, List.drop_zero] at h1
    have e : isOrd n l = decide (freshL n [] l) := by
      rw [Bool.eq_iff_iff, isOrd_iff, decide_eq_true_eq]
      unfold freshL
      constructor
      · rintro ⟨_, h2, h3⟩; exact ⟨h3, h2, by simp⟩
      · rintro ⟨h2, h3, _⟩; exact ⟨by omega, h3, h2⟩
    rw [e]
    exact h1
  · simp only [h, if_false]
    rw [show isOrd n l = false from by
      rw [Bool.eq_false_iff]
      intro hc
      exact h (by have := ((isOrd_iff n l).1 hc).1; omega)]
    exact Ev.now _
def isCov (a : Int) (l : List (List Int)) (s : Int) (t : List (List Int)) : Bool := isG a l && ((decide (1 ≤ s) && decide (s ≤ 4)) && (decide ((t.length : Int) = (l.length : Int)) && t.all (isOrd s.toNat)))
theorem l04Is_l0 (n : Nat) (hn : n ≤ 4) (a : Int) (l t : List (List Int)) (ht : t.length ≤ maxLen) : ∀ (d i : Nat), t.length - i = d → i ≤ t.length → Ev (fun k => F157.l0 k i a l n t) ((t.drop i).all (isOrd n)) := by
  unfold maxLen at ht
  intro d
  induction d with
  | zero =>
    intro i hd hi
    obtain rfl : i = t.length := by omega
    refine Ev.step (fun k => by simp only [F157.l0]; rfl) ?_
    simp only [Int.lt_irrefl, if_false, List.drop_length, List.all_nil]
    exact Ev.now _
  | succ d ih =>
    intro i hd hi
    have hil : i < t.length := by omega
    refine Ev.step (fun k => by simp only [F157.l0]; rfl) ?_
    simp only [show ((i : Int) < (t.length : Int)) by omega, show (0 : Int) ≤ (i : Int) by omega, if_true, rdL1_nat t i hil]
    refine Ev.bind (l04Permutation_ev n hn t[i]) ?_
    rw [List.drop_eq_getElem_cons hil, List.all_cons]
    cases isOrd n t[i] with
    | false => simp only [Bool.false_eq_true, if_false, Bool.false_and]; exact Ev.now _
    | true =>
      simp only [if_true, Bool.true_and, w64 (show -9223372036854775808 ≤ (i : Int) + 1 by omega) (by omega)]
      exact ih (i + 1) (by omega) (by omega)
theorem l04Is_ev (a : Int) (l : List (List Int)) (s : Int) (t : List (List Int)) (hl : l.length ≤ maxLen) (ht : t.length ≤ maxLen) : Ev (fun k => F157.f k a l s t) (isCov a l s t) := by
  unfold F157.f isCov
  refine Ev.bind (spec_l01Is_ev a l hl) ?_
  have hj : Ev (fun k => F157.j0 k true a l s t) false := by
    refine Ev.step (fun k => by simp only [F157.j0]; rfl) ?_
    simp only [if_true]
    exact Ev.now _
  cases isG a l with
  | false => simp only [Bool.false_eq_true, if_false, Bool.false_and]; exact hj
  | true =>
    simp only [if_true, Bool.true_and, l01In_eq, Option.bind_some]
    cases hb : (decide (1 ≤ s) && decide (s ≤ 4)) with
    | false => simp only [Bool.false_eq_true, if_false, Bool.false_and]; exact hj
    | true =>
      simp only [Bool.and_eq_true, decide_eq_true_eq] at hb
      obtain ⟨n, rfl⟩ : ∃ n : Nat, s = n := ⟨s.toNat, by omega⟩
      simp only [if_true, Bool.true_and, Int.toNat_natCast]
      refine Ev.step (fun k => by simp only [F157.j0]; rfl) ?_
      by_cases h : (t.length : Int) = (l.length : Int)
      · simp only [h, decide_true, Bool.true_and, bne_self_eq_false, Bool.false_eq_true, if_false]
        have := l04Is_l0 n (by omega) a l t ht t.length 0 (by omega) (by omega)
        rwa [List.drop_zero] at this
      · simp only [h, decide_false, Bool.false_and, show ((t.length : Int) != (l.length : Int)) = true from bne_iff_ne.2 h, if_true]
        exact Ev.now _
theorem idxM_ev (p : List Int → Bool) (f : Nat → List Int → Option Bool) (t : List (List Int)) (h : ∀ x ∈ t, Ev (fun k => f k x) (p x)) : ∀ k0 : Nat, ∃ r, Ev (fun k => idxM (f k) t k0) r ∧ decide (0 ≤ r) = t.any p := by
  induction t with
  | nil => exact fun k0 => ⟨-1, Ev.now _, rfl⟩
  | cons x xs ih =>
    intro k0
    cases hx : p x with
    | true =>
      refine ⟨(k0 : Int), ?_, by rw [List.any_cons, hx]; simp⟩
      have h1 := h x (List.mem_cons_self)
      rw [hx] at h1
      refine Ev.bind h1 ?_
      simp only [if_true]
      exact Ev.now _
    | false =>
      obtain ⟨r, h2, h3⟩ := ih (fun y hy => h y (List.mem_cons_of_mem _ hy)) (k0 + 1)
      refine ⟨r, ?_, by rw [List.any_cons, hx, Bool.false_or]; exact h3⟩
      have h1 := h x (List.mem_cons_self)
      rw [hx] at h1
      refine Ev.bind h1 ?_
      simp only [Bool.false_eq_true, if_false]
      exact h2
theorem isCover_ev (a : Int) (l : List (List Int)) (s : Int) (t : List (List Int)) (hl : l.length ≤ maxLen) (ht : t.length ≤ maxLen) (hx : ∀ x ∈ t, x.length ≤ maxLen) : Ev (fun k => F161.f k a l s t) (isCov a l s t) := by
  unfold F161.f isCov
  refine Ev.bind (impl_IsGraph_ev a l hl) ?_
  cases isG a l with
  | false => simp only [Bool.false_eq_true, if_false, Bool.false_and]; exact Ev.now _
  | true =>
    simp only [if_true, Bool.true_and, within_eq, Option.bind_some, F163.f]
    cases hb : (decide (1 ≤ s) && decide (s ≤ 4)) with
    | false => simp only [Bool.false_eq_true, if_false, Bool.false_and]; exact Ev.now _
    | true =>
      simp only [Bool.and_eq_true, decide_eq_true_eq] at hb
      obtain ⟨n, rfl⟩ : ∃ n : Nat, s = n := ⟨s.toNat, by omega⟩
      simp only [if_true, Bool.true_and, Int.toNat_natCast]
      by_cases h : (t.length : Int) = (l.length : Int)
      · simp only [h, decide_true, Bool.true_and, if_true]
        obtain ⟨r, h1, h2⟩ := idxM_ev (fun x => !(isOrd n x)) (fun k x => (F127.f k x n).map not) t (fun x hxm => by
          have h3 := isOrder_ev n (by omega) x (hx x hxm)
          obtain ⟨k, hk⟩ := h3
          exact ⟨k, fun m hm => by
            have e := hk m hm
            simp only at e ⊢
            rw [e]; rfl⟩) 0
        have h4 : Ev (fun k => F215.f k t a l n t) (t.any fun x => !(isOrd n x)) := by
          unfold F215.f
          refine Ev.bind h1 ?_
          rw [h2]
          exact Ev.now _
        refine Ev.bind h4 ?_
        rw [show t.all (isOrd n) = !(t.any fun x => !(isOrd n x)) from by rw [List.any_eq_not_all_not]; simp]
        exact Ev.now _
      · simp only [h, decide_false, Bool.false_and, if_false]
        exact Ev.now _
theorem szCover_ev (a : Int) (l : List (List Int)) (s : Int) (t : List (List Int)) (hl : l.length ≤ maxLen) (hx : ∀ x ∈ l, x.length ≤ maxLen) (ht : t.length ≤ maxLen) (hy : ∀ x ∈ t, x.length ≤ maxLen) : ∃ r, Ev (fun k => F14.f k a l s t 1048576) r ∧ (0 ≤ r → (l.length ≤ 1048576 ∧ ∀ x ∈ l, x.length ≤ 1048576) ∧ (t.length ≤ 1048576 ∧ ∀ x ∈ t, x.length ≤ 1048576)) := by
  obtain ⟨r, hr, h2, h3, h4⟩ := szGraph_ev a l 1048576 (by omega) (by omega) hl hx
  unfold F14.f
  by_cases hn : r < 0
  · exact ⟨-1, Ev.bind hr (by simp only [hn, if_true]; exact Ev.now _), fun h => by omega⟩
  · obtain ⟨q, hq, g2, g3, g4⟩ := szInt64SS_ev t r (by omega) h2 ht hy
    by_cases hm : q < 0
    · exact ⟨-1, Ev.bind hr (by simp only [hn, if_false]; exact Ev.bind hq (by simp only [hm, if_true]; exact Ev.now _)), fun h => by omega⟩
    · exact ⟨q, Ev.bind hr (by simp only [hn, if_false]; exact Ev.bind hq (by simp only [hm, if_false]; exact Ev.now _)), fun h => ⟨h4 (by omega), g4 (by omega)⟩⟩
theorem toCover_ev (a : Int) (l : List (List Int)) (s : Int) (t : List (List Int)) (hl : l.length ≤ 1048576) (hx : ∀ x ∈ l, x.length ≤ 1048576) (ht : t.length ≤ 1048576) (hy : ∀ x ∈ t, x.length ≤ 1048576) : Ev (fun k => F16.f k a l s t) (a, l, s, t) := by
  unfold F16.f
  refine Ev.bind (toGraph_ev a l (by omega) (fun x h => by have := hx x h; omega)) ?_
  exact Ev.bind (toInt64SS_ev t (by omega) (fun x h => by have := hy x h; omega)) (Ev.now _)
theorem eqCover_ev (a : Int) (l : List (List Int)) (s : Int) (t : List (List Int)) (hl : l.length ≤ maxLen) (hx : ∀ x ∈ l, x.length ≤ maxLen) (ht : t.length ≤ maxLen) (hy : ∀ x ∈ t, x.length ≤ maxLen) : Ev (fun k => F19.f k a l s t a l s t) true := by
  unfold F19.f
  refine Ev.bind (eqGraph_ev a l hl hx) ?_
  simp only [if_true]
  refine Ev.bind (eqInt64SS_ev t ht hy) ?_
  simp only [if_true]
  exact Ev.now _
/-- Edge i of those above edge k, in the derived graph of n sheets. -/
def derE (n : Nat) (l t : List (List Int)) (k i : Nat) : List Int := [wrap64 (wrap64 (rd (rd_L1 l (k : Int)) 0 * (n : Int)) + (i : Int)), wrap64 (wrap64 (rd (rd_L1 l (k : Int)) 1 * (n : Int)) + rd (rd_L1 t (k : Int)) (i : Int))]
def derL (n : Nat) (l t : List (List Int)) : Nat → List (List Int)
  | 0 => []
  | k + 1 => derL n l t k ++ (List.range n).map (derE n l t k)
theorem derL_length (n : Nat) (l t : List (List Int)) (k : Nat) : (derL n l t k).length = k * n := by
  induction k with
  | zero => simp [derL]
  | succ k ih => simp [derL, ih, Nat.succ_mul]
theorem derP_succ (n : Nat) (l t : List (List Int)) (k i : Nat) : derL n l t k ++ (List.range (i + 1)).map (derE n l t k) = (derL n l t k ++ (List.range i).map (derE n l t k)) ++ [derE n l t k i] := by
  rw [List.range_succ, List.map_append, List.append_assoc]
  rfl
theorem spec_der_l1 (n : Nat) (hn : n ≤ 4) (a b : Int) (l t : List (List Int)) (hl : l.length ≤ 1048576) (k : Nat) (hk : k < l.length) (hkt : k < t.length) (h2 : (rd_L1 l (k : Int)).length = 2) (ht : (rd_L1 t (k : Int)).length = n) (R : Int × List (List Int))
    (hR : Ev (fun j => F158.l0 j ((k : Int) + 1) a l n t b (derL n l t (k + 1))) R) :
    ∀ (d i : Nat), n - i = d → i ≤ n → Ev (fun j => F158.l1 j k i a l n t b (derL n l t k ++ (List.range i).map (derE n l t k))) R := by
  intro d
  induction d with
  | zero =>
    intro i hd hi
    obtain rfl : i = n := by omega
    refine Ev.step (fun k => by simp only [F158.l1]; rfl) ?_
    simp only [Int.lt_irrefl, if_false, w64 (show -9223372036854775808 ≤ (k : Int) + 1 by omega) (by omega)]
    exact hR
  | succ d ih =>
    intro i hd hi
    have h := ih (i + 1) (by omega) (by omega)
    rw [derP_succ] at h
    have hlen : (derL n l t k ++ (List.range i).map (derE n l t k)).length < 5864062014805 := by
      rw [List.length_append, derL_length, List.length_map, List.length_range]
      have : k * n ≤ 1048576 * 4 := Nat.mul_le_mul (by omega) hn
      omega
    refine Ev.step (fun k => by simp only [F158.l1]; rfl) ?_
    simp only [show ((i : Int) < (n : Int)) by omega, show (0 : Int) ≤ (k : Int) by omega, show ((k : Int) < (l.length : Int)) by omega, show ((k : Int) < (t.length : Int)) by omega, h2, ht, show ((0 : Int) < ((2 : Nat) : Int)) by omega, show ((1 : Int) < ((2 : Nat) : Int)) by omega, show (0 : Int) ≤ (i : Int) by omega, hlen, if_true, w64 (show -9223372036854775808 ≤ (i : Int) + 1 by omega) (by omega)]
    exact h
theorem spec_der_l0 (n : Nat) (hn : n ≤ 4) (a b : Int) (l t : List (List Int)) (hl : l.length ≤ 1048576) (hlt : t.length = l.length) (h2 : two l) (ht : ∀ x ∈ t, x.length = n) : ∀ (d k : Nat), l.length - k = d → k ≤ l.length → Ev (fun j => F158.l0 j k a l n t b (derL n l t k)) (b, derL n l t l.length) := by
  intro d
  induction d with
  | zero =>
    intro k hd hi
    obtain rfl : k = l.length := by omega
    refine Ev.step (fun k => by simp only [F158.l0]; rfl) ?_
    simp only [hlt, Int.lt_irrefl, if_false]
    exact Ev.now _
  | succ d ih =>
    intro k hd hi
    have hk : k < l.length := by omega
    refine Ev.step (fun k => by simp only [F158.l0]; rfl) ?_
    simp only [show ((k : Int) < (t.length : Int)) by omega, if_true]
    have h := spec_der_l1 n hn a b l t hl k hk (by omega) (by rw [rdL1_nat l k hk]; exact h2 _ (List.getElem_mem hk)) (by rw [rdL1_nat t k (by omega)]; exact ht _ (List.getElem_mem _)) _ (ih (k + 1) (by omega) (by omega)) n 0 (by omega) (by omega)
    simpa using h
theorem spec_der_ev (n : Nat) (hn : n ≤ 4) (a : Int) (l t : List (List Int)) (hl : l.length ≤ 1048576) (hlt : t.length = l.length) (h2 : two l) (ht : ∀ x ∈ t, x.length = n) : Ev (fun j => F158.f j a l n t) (wrap64 (a * (n : Int)), derL n l t l.length) :=
  spec_der_l0 n hn a _ l t hl hlt h2 ht l.length 0 (by omega) (by omega)
theorem impl_der_l1 (n : Nat) (hn : n ≤ 4) (a b : Int) (l t : List (List Int)) (hl : l.length ≤ 1048576) (k : Nat) (hk : k < l.length) (hkt : k < t.length) (h2 : (rd_L1 l (k : Int)).length = 2) (ht : (rd_L1 t (k : Int)).length = n) (R : Int × List (List Int))
    (hR : Ev (fun j => F162.l0 j l (l.length : Int) ((k : Int) + 1) a l n t b (derL n l t (k + 1))) R) :
    ∀ (d i : Nat), n - i = d → i ≤ n → Ev (fun j => F162.l1 j k (rd_L1 l (k : Int)) l (l.length : Int) k n i a l n t b (derL n l t k ++ (List.range i).map (derE n l t k))) R := by
  intro d
  induction d with
  | zero =>
    intro i hd hi
    obtain rfl : i = n := by omega
    refine Ev.step (fun k => by simp only [F162.l1]; rfl) ?_
    simp only [Int.lt_irrefl, if_false, w64 (show -9223372036854775808 ≤ (k : Int) + 1 by omega) (by omega)]
    exact hR
  | succ d ih =>
    intro i hd hi
    have h := ih (i + 1) (by omega) (by omega)
    rw [derP_succ] at h
    have hlen : (derL n l t k ++ (List.range i).map (derE n l t k)).length < 5864062014805 := by
      rw [List.length_append, derL_length, List.length_map, List.length_range]
      have : k * n ≤ 1048576 * 4 := Nat.mul_le_mul (by omega) hn
      omega
    refine Ev.step (fun k => by simp only [F162.l1]; rfl) ?_
    simp only [show ((i : Int) < (n : Int)) by omega, show (0 : Int) ≤ (k : Int) by omega, show ((k : Int) < (t.length : Int)) by omega, h2, ht, show ((0 : Int) < ((2 : Nat) : Int)) by omega, show ((1 : Int) < ((2 : Nat) : Int)) by omega, show (0 : Int) ≤ (i : Int) by omega, hlen, if_true, w64 (show -9223372036854775808 ≤ (i : Int) + 1 by omega) (by omega)]
    exact h
theorem impl_der_l0 (n : Nat) (hn : n ≤ 4) (a b : Int) (l t : List (List Int)) (hl : l.length ≤ 1048576) (hlt : t.length = l.length) (h2 : two l) (ht : ∀ x ∈ t, x.length = n) : ∀ (d k : Nat), l.length - k = d → k ≤ l.length → Ev (fun j => F162.l0 j l (l.length : Int) k a l n t b (derL n l t k)) (b, derL n l t l.length) := by
  intro d
  induction d with
  | zero =>
    intro k hd hi
    obtain rfl : k = l.length := by omega
    refine Ev.step (fun k => by simp only [F162.l0]; rfl) ?_
    simp only [Int.lt_irrefl, if_false]
    exact Ev.now _
  | succ d ih =>
    intro k hd hi
    have hk : k < l.length := by omega
    refine Ev.step (fun k => by simp only [F162.l0]; rfl) ?_
    simp only [show ((k : Int) < (l.length : Int)) by omega, show (0 : Int) ≤ (k : Int) by omega, if_true]
    have h := impl_der_l1 n hn a b l t hl k hk (by omega) (by rw [rdL1_nat l k hk]; exact h2 _ (List.getElem_mem hk)) (by rw [rdL1_nat t k (by omega)]; exact ht _ (List.getElem_mem _)) _ (ih (k + 1) (by omega) (by omega)) n 0 (by omega) (by omega)
    simpa using h
theorem impl_der_ev (n : Nat) (hn : n ≤ 4) (a : Int) (l t : List (List Int)) (hl : l.length ≤ 1048576) (hlt : t.length = l.length) (h2 : two l) (ht : ∀ x ∈ t, x.length = n) : Ev (fun j => F162.f j a l n t) (wrap64 (a * (n : Int)), derL n l t l.length) :=
  impl_der_l0 n hn a _ l t hl hlt h2 ht l.length 0 (by omega) (by omega)
theorem derL_mem {n : Nat} {l t : List (List Int)} {K : Nat} {x : List Int} (h : x ∈ derL n l t K) : ∃ k i, k < K ∧ i < n ∧ x = derE n l t k i := by
  induction K with
  | zero => cases h
  | succ K ih =>
    rcases List.mem_append.1 h with h | h
    · obtain ⟨k, i, h1, h2, h3⟩ := ih h
      exact ⟨k, i, by omega, h2, h3⟩
    · obtain ⟨i, hi, rfl⟩ := List.mem_map.1 h
      exact ⟨K, i, by omega, List.mem_range.1 hi, rfl⟩
theorem derE_ends {a n : Nat} (ha : a ≤ 8) (hn : n ≤ 4) {l t : List (List Int)} (hE : endsIn a l) (hlt : t.length = l.length) (ht : ∀ x ∈ t, isOrd n x = true) (k i : Nat) (hk : k < l.length) (hi : i < n) : ∃ u v : Nat, derE n l t k i = [(u : Int), (v : Int)] ∧ u < a * n ∧ v < a * n := by
  obtain ⟨hx, u, v, hu, hv, hua, hva⟩ := hE k hk
  have hm : t[k]'(by omega) ∈ t := List.getElem_mem _
  obtain ⟨h1, h2, h3⟩ := (isOrd_iff n _).1 (ht _ hm)
  have hki : i < (t[k]'(by omega)).length := by omega
  have h4 := h3 _ (List.getElem_mem hki)
  obtain ⟨j, hj⟩ : ∃ j : Nat, rd (rd_L1 t (k : Int)) (i : Int) = (j : Int) ∧ j < n := by
    rw [rdL1_nat t k (by omega), rd_nat _ i hki]
    exact ⟨((t[k]'(by omega))[i]'hki).toNat, by omega, by omega⟩
  have b1 : u * n ≤ 7 * 4 := Nat.mul_le_mul (by omega) hn
  have b2 : v * n ≤ 7 * 4 := Nat.mul_le_mul (by omega) hn
  have b3 : (u + 1) * n ≤ a * n := Nat.mul_le_mul_right n hua
  have b4 : (v + 1) * n ≤ a * n := Nat.mul_le_mul_right n hva
  rw [Nat.succ_mul] at b3 b4
  refine ⟨u * n + i, v * n + j, ?_, by omega, by omega⟩
  have c1 : (u : Int) * (n : Int) = ((u * n : Nat) : Int) := by simp
  have c2 : (v : Int) * (n : Int) = ((v * n : Nat) : Int) := by simp
  unfold derE
  rw [hu, hv, hj.1, c1, c2]
  rw [w64 (show -9223372036854775808 ≤ ((u * n : Nat) : Int) by omega) (by omega), w64 (show -9223372036854775808 ≤ ((v * n : Nat) : Int) by omega) (by omega)]
  rw [w64 (by omega) (by omega), w64 (by omega) (by omega)]
  simp
theorem derL_ends {a n : Nat} (ha : a ≤ 8) (hn : n ≤ 4) {l t : List (List Int)} (hE : endsIn a l) (hlt : t.length = l.length) (ht : ∀ x ∈ t, isOrd n x = true) : endsIn (a * n) (derL n l t l.length) := by
  intro e he
  rw [rdL1_nat _ e he]
  obtain ⟨k, i, hk, hi, hx⟩ := derL_mem (List.getElem_mem he)
  obtain ⟨u, v, h1, h2, h3⟩ := derE_ends ha hn hE hlt ht k i hk hi
  rw [hx, h1]
  exact ⟨rfl, u, v, rfl, rfl, h2, h3⟩
theorem isCov_open {a s : Int} {l t : List (List Int)} (h : isCov a l s t = true) : ∃ n m : Nat, a = n ∧ s = m ∧ 1 ≤ n ∧ n ≤ 8 ∧ 1 ≤ m ∧ m ≤ 4 ∧ isG a l = true ∧ t.length = l.length ∧ endsIn n l ∧ ∀ x ∈ t, isOrd m x = true := by
  unfold isCov at h
  simp only [Bool.and_eq_true, decide_eq_true_eq, List.all_eq_true] at h
  obtain ⟨hg, ⟨h1, h2⟩, h3, h4⟩ := h
  obtain ⟨n, hn, hn1, hn8, hE⟩ := isG_ends hg
  exact ⟨n, s.toNat, hn, by omega, hn1, hn8, by omega, by omega, hg, by omega, hE, h4⟩
/-- A row and a square of numbers, by their places. -/
def vrow (n : Nat) (g : Nat → Int) : List Int := (List.range n).map g
def vmat (n : Nat) (f : Nat → Nat → Int) : List (List Int) := (List.range n).map fun i => vrow n (f i)
theorem vrow_length (n : Nat) (g : Nat → Int) : (vrow n g).length = n := by simp [vrow]
theorem vmat_length (n : Nat) (f : Nat → Nat → Int) : (vmat n f).length = n := by simp [vmat]
theorem vrow_rd {n : Nat} {g : Nat → Int} {v : Nat} (h : v < n) : rd (vrow n g) (v : Int) = g v := by
  rw [rd_nat _ _ (by rw [vrow_length]; exact h)]
  simp [vrow]
theorem vmat_row {n : Nat} {f : Nat → Nat → Int} {u : Nat} (h : u < n) : rd_L1 (vmat n f) (u : Int) = vrow n (f u) := by
  rw [rdL1_nat _ _ (by rw [vmat_length]; exact h)]
  simp [vmat]
theorem vrow_congr {n : Nat} {g h : Nat → Int} (e : ∀ j, j < n → g j = h j) : vrow n g = vrow n h := by
  unfold vrow
  apply List.map_congr_left
  intro j hj
  exact e j (List.mem_range.mp hj)
theorem vmat_congr {n : Nat} {f h : Nat → Nat → Int} (e : ∀ i j, i < n → j < n → f i j = h i j) : vmat n f = vmat n h := by
  unfold vmat
  apply List.map_congr_left
  intro i hi
  exact vrow_congr fun j hj => e i j (List.mem_range.mp hi) hj
theorem vrow_set {n : Nat} (g : Nat → Int) (v : Nat) (x : Int) : (vrow n g).set v x = vrow n (fun j => if j = v then x else g j) := by
  apply List.ext_getElem
  · rw [List.length_set, vrow_length, vrow_length]
  intro j h1 h2
  rw [List.getElem_set]
  simp only [vrow, List.getElem_map, List.getElem_range]
  by_cases h : v = j
  · subst h; simp
  · rw [if_neg h, if_neg (fun e => h e.symm)]
theorem vmat_set {n : Nat} (f : Nat → Nat → Int) (u : Nat) (g : Nat → Int) : (vmat n f).set u (vrow n g) = vmat n (fun i j => if i = u then g j else f i j) := by
  apply List.ext_getElem
  · rw [List.length_set, vmat_length, vmat_length]
  intro i h1 h2
  rw [List.getElem_set]
  simp only [vmat, List.getElem_map, List.getElem_range]
  by_cases h : u = i
  · subst h; simp
  · rw [if_neg h]; exact vrow_congr fun j _ => by rw [if_neg (fun e => h e.symm)]
theorem vmat_zero (n : Nat) : List.replicate n (List.replicate n (0 : Int)) = vmat n (fun _ _ => 0) := by
  have h0 : ∀ m : Nat, vrow m (fun _ => 0) = List.replicate m 0 := fun m => by
    apply List.ext_getElem
    · simp [vrow]
    · intro i _ _; simp [vrow]
  apply List.ext_getElem
  · simp [vmat]
  · intro i _ _; simp [vmat, h0]
theorem dart_ends {n : Nat} {l : List (List Int)} (hE : endsIn n l) (d : Nat) (hd : d < 2 * l.length) : ∃ u v : Nat, begAt l d = u ∧ endAt l d = v ∧ u < n ∧ v < n := by
  obtain ⟨_, u, v, hu, hv, hun, hvn⟩ := hE (d / 2) (by omega)
  unfold begAt endAt
  rcases Nat.mod_two_eq_zero_or_one d with h | h
  · rw [h]; exact ⟨u, v, hu, hv, hun, hvn⟩
  · rw [h]; exact ⟨v, u, hv, hu, hvn, hun⟩
def cgM (x y : Int) : Prop := (18446744073709551616 : Int) ∣ x - y
theorem cg_refl (x : Int) : cgM x x := ⟨0, by omega⟩
theorem cg_symm {x y : Int} (h : cgM x y) : cgM y x := by
  obtain ⟨q, h⟩ := h
  exact ⟨-q, by omega⟩
theorem cg_trans {x y z : Int} (h : cgM x y) (h2 : cgM y z) : cgM x z := by
  obtain ⟨q, h⟩ := h
  obtain ⟨r, h2⟩ := h2
  exact ⟨q + r, by omega⟩
theorem cg_wrap (x : Int) : cgM (wrap64 x) x := by
  unfold cgM wrap64
  exact ⟨-((x + 9223372036854775808) / 18446744073709551616), by omega⟩
theorem cg_add {x y z w : Int} (h : cgM x y) (h2 : cgM z w) : cgM (x + z) (y + w) := by
  obtain ⟨q, h⟩ := h
  obtain ⟨r, h2⟩ := h2
  exact ⟨q + r, by omega⟩
theorem cg_neg {x y : Int} (h : cgM x y) : cgM (-x) (-y) := by
  obtain ⟨q, h⟩ := h
  exact ⟨-q, by omega⟩
theorem cg_mul {x y z w : Int} (h : cgM x y) (h2 : cgM z w) : cgM (x * z) (y * w) := la_mul_dvd_sub h h2
theorem cg_sm {n : Nat} {f g : Nat → Int} (h : ∀ i, i < n → cgM (f i) (g i)) : cgM (la_sm n f) (la_sm n g) := la_sm_dvd h
theorem wrap_range (x : Int) : -9223372036854775808 ≤ wrap64 x ∧ wrap64 x ≤ 9223372036854775807 := by unfold wrap64; omega
theorem cg_eq {x y : Int} (h : cgM x y) (hx : -9223372036854775808 ≤ x ∧ x ≤ 9223372036854775807) (hy : -9223372036854775808 ≤ y ∧ y ≤ 9223372036854775807) : x = y := by
  obtain ⟨q, h⟩ := h
  omega
theorem wrap_of_cg {x y : Int} (h : cgM x y) (hy : -9223372036854775808 ≤ y ∧ y ≤ 9223372036854775807) : wrap64 x = y := cg_eq (cg_trans (cg_wrap x) h) (wrap_range x) hy
/-- One row of a product, made by program. -/
def rtA (f g : Nat → Nat → Int) (i : Nat) : Nat → Nat → Int
  | 0, _ => 0
  | k + 1, j => if f i k = 0 then rtA f g i k j else wrap64 (rtA f g i k j + wrap64 (f i k * g k j))
theorem rtA_cg (f g : Nat → Nat → Int) (i j : Nat) (m : Nat) : cgM (rtA f g i m j) (la_sm m (fun k => f i k * g k j)) := by
  induction m with
  | zero => exact cg_refl _
  | succ m ih =>
    unfold rtA
    simp only [la_sm]
    split
    · case _ h => rw [h]; simpa using ih
    · exact cg_trans (cg_wrap _) (cg_add ih (cg_wrap _))
def rtS (f g : Nat → Nat → Int) (n i k j : Nat) : Nat → Nat → Int := fun r c => if r < i then rtA f g r n c else if r = i then (if c < j then rtA f g i (k + 1) c else rtA f g i k c) else 0
theorem rowsTimes_l2 (n : Nat) (hn : n ≤ 1048576) (f g : Nat → Nat → Int) (i k : Nat) (hi : i < n) (hk : k < n) (hf : f i k ≠ 0) (R : List (List Int))
    (next : Ev (fun q => F205.l1 q (vmat n g) (vmat n (rtS f g n i (k + 1) 0)) i (vmat n f) n i (vrow n (f i)) n ((k : Int) + 1)) R) :
    ∀ (d j : Nat), n - j = d → j ≤ n → Ev (fun q => F205.l2 q (vmat n g) (vmat n (rtS f g n i k j)) i (f i k) (vmat n f) n i (vrow n (f i)) n k (vrow n (g k)) n j) R := by
  intro d
  induction d with
  | zero =>
    intro j hd hj
    obtain rfl : j = n := by omega
    refine Ev.step (fun q => by simp only [F205.l2]; rfl) ?_
    simp only [Int.lt_irrefl, if_false, w64 (show -9223372036854775808 ≤ (k : Int) + 1 by omega) (by omega)]
    refine Ev.congr (fun q => ?_) next
    congr 1
    refine vmat_congr fun r c hr hc => ?_
    unfold rtS
    by_cases h1 : r < i
    · rw [if_pos h1, if_pos h1]
    · rw [if_neg h1, if_neg h1]
      by_cases h2 : r = i
      · rw [if_pos h2, if_pos h2, if_pos hc, if_neg (by omega)]
      · rw [if_neg h2, if_neg h2]
  | succ d ih =>
    intro j hd hj
    have hjn : j < n := by omega
    refine Ev.step (fun q => by simp only [F205.l2]; rfl) ?_
    simp only [show ((j : Int) < (n : Int)) by omega, show (0 : Int) ≤ (j : Int) by omega, show (0 : Int) ≤ (i : Int) by omega, show ((i : Int) < (n : Int)) by omega, if_true, vrow_length, vmat_length, vmat_row hi, vrow_rd hjn, Int.toNat_natCast, w64 (show -9223372036854775808 ≤ (j : Int) + 1 by omega) (by omega)]
    rw [vrow_set, vmat_set]
    refine Ev.congr (fun q => ?_) (ih (j + 1) (by omega) (by omega))
    rw [show ((j + 1 : Nat) : Int) = (j : Int) + 1 by omega]
    congr 1
    refine vmat_congr fun r c hr hc => ?_
    have hij : rtS f g n i k j i j = rtA f g i k j := by
      unfold rtS; rw [if_neg (by omega), if_pos rfl, if_neg (by omega)]
    by_cases h2 : r = i
    · subst h2
      rw [if_pos rfl]
      by_cases h3 : c = j
      · subst h3
        rw [if_pos rfl, hij]
        simp only [rtS, Nat.lt_irrefl, if_false, if_true, show c < c + 1 by omega]
        show _ = (if f r k = 0 then _ else _)
        rw [if_neg hf]
      · rw [if_neg h3]
        simp only [rtS, Nat.lt_irrefl, if_false, if_true]
        by_cases h4 : c < j
        · rw [if_pos h4, if_pos (by omega)]
        · rw [if_neg h4, if_neg (by omega)]
    · rw [if_neg h2]
      unfold rtS
      by_cases h1 : r < i
      · rw [if_pos h1, if_pos h1]
      · rw [if_neg h1, if_neg h1, if_neg h2, if_neg h2]
theorem rowsTimes_l1 (n : Nat) (hn : n ≤ 1048576) (f g : Nat → Nat → Int) (i : Nat) (hi : i < n) (R : List (List Int))
    (next : Ev (fun q => F205.l0 q (vmat n g) (vmat n (rtS f g n (i + 1) 0 0)) (vmat n f) n ((i : Int) + 1)) R) :
    ∀ (d k : Nat), n - k = d → k ≤ n → Ev (fun q => F205.l1 q (vmat n g) (vmat n (rtS f g n i k 0)) i (vmat n f) n i (vrow n (f i)) n k) R := by
  intro d
  induction d with
  | zero =>
    intro k hd hk
    obtain rfl : k = n := by omega
    refine Ev.step (fun q => by simp only [F205.l1]; rfl) ?_
    simp only [Int.lt_irrefl, if_false, w64 (show -9223372036854775808 ≤ (i : Int) + 1 by omega) (by omega)]
    refine Ev.congr (fun q => ?_) next
    congr 1
    refine vmat_congr fun r c hr hc => ?_
    unfold rtS
    by_cases h1 : r < i
    · rw [if_pos h1, if_pos (by omega)]
    · rw [if_neg h1]
      by_cases h2 : r = i
      · subst h2; rw [if_pos rfl, if_neg (by omega), if_pos (by omega)]
      · rw [if_neg h2, if_neg (by omega)]
        by_cases h3 : r = i + 1
        · rw [if_pos h3, if_neg (by omega)]; rfl
        · rw [if_neg h3]
  | succ d ih =>
    intro k hd hk
    have hkn : k < n := by omega
    refine Ev.step (fun q => by simp only [F205.l1]; rfl) ?_
    simp only [show ((k : Int) < (n : Int)) by omega, show (0 : Int) ≤ (k : Int) by omega, if_true, vrow_length, vmat_length, vrow_rd hkn, vmat_row hkn, w64 (show -9223372036854775808 ≤ (k : Int) + 1 by omega) (by omega)]
    have h := ih (k + 1) (by omega) (by omega)
    rw [show ((k + 1 : Nat) : Int) = (k : Int) + 1 by omega] at h
    by_cases hf : f i k = 0
    · simp only [hf, if_true]
      refine Ev.congr (fun q => ?_) h
      congr 1
      refine vmat_congr fun r c hr hc => ?_
      unfold rtS
      by_cases h1 : r < i
      · rw [if_pos h1, if_pos h1]
      · rw [if_neg h1, if_neg h1]
        by_cases h2 : r = i
        · rw [if_pos h2, if_pos h2, if_neg (by omega), if_neg (by omega)]
          show _ = (if f i k = 0 then _ else _)
          rw [if_pos hf]
        · rw [if_neg h2, if_neg h2]
    · simp only [hf, if_false]
      exact rowsTimes_l2 n hn f g i k hi hkn hf R h n 0 (by omega) (by omega)
theorem rowsTimes_l0 (n : Nat) (hn : n ≤ 1048576) (f g : Nat → Nat → Int) : ∀ (d i : Nat), n - i = d → i ≤ n → Ev (fun q => F205.l0 q (vmat n g) (vmat n (rtS f g n i 0 0)) (vmat n f) n i) (vmat n (fun r c => rtA f g r n c)) := by
  intro d
  induction d with
  | zero =>
    intro i hd hi
    obtain rfl : i = n := by omega
    refine Ev.step (fun q => by simp only [F205.l0]; rfl) ?_
    simp only [Int.lt_irrefl, if_false]
    rw [show vmat i (rtS f g i i 0 0) = vmat i (fun r c => rtA f g r i c) from vmat_congr fun r c hr hc => by unfold rtS; rw [if_pos hr]]
    exact Ev.now _
  | succ d ih =>
    intro i hd hi
    have hin : i < n := by omega
    refine Ev.step (fun q => by simp only [F205.l0]; rfl) ?_
    simp only [show ((i : Int) < (n : Int)) by omega, show (0 : Int) ≤ (i : Int) by omega, if_true, vmat_length, vmat_row hin, vrow_length]
    have h := ih (i + 1) (by omega) (by omega)
    rw [show ((i + 1 : Nat) : Int) = (i : Int) + 1 by omega] at h
    exact rowsTimes_l1 n hn f g i hin _ h n 0 (by omega) (by omega)
theorem rowsTimes_ev (n : Nat) (hn : n ≤ 1048576) (f g : Nat → Nat → Int) : Ev (fun q => F205.f q (vmat n f) (vmat n g)) (vmat n (fun r c => rtA f g r n c)) := by
  unfold F205.f
  simp only [vmat_length]
  refine Ev.bind (square_ev n hn) ?_
  rw [vmat_zero]
  have h := rowsTimes_l0 n hn f g n 0 (by omega) (by omega)
  refine Ev.congr (fun q => ?_) h
  congr 1
  refine vmat_congr fun r c hr hc => ?_
  unfold rtS
  rw [if_neg (by omega)]
  split
  · rw [if_neg (by omega)]; rfl
  · rfl
def trW (h : Nat → Nat → Int) : Nat → Int
  | 0 => 0
  | i + 1 => wrap64 (trW h i + h i i)
theorem trW_cg (h : Nat → Nat → Int) (m : Nat) : cgM (trW h m) (la_sm m (fun i => h i i)) := by
  induction m with
  | zero => exact cg_refl _
  | succ m ih => exact cg_trans (cg_wrap _) (cg_add ih (cg_refl _))
theorem trace_l0 (n : Nat) (hn : n ≤ 1048576) (h : Nat → Nat → Int) : ∀ (d i : Nat), n - i = d → i ≤ n → Ev (fun q => F206.l0 q (trW h i) (vmat n h) n i) (trW h n) := by
  intro d
  induction d with
  | zero =>
    intro i hd hi
    obtain rfl : i = n := by omega
    refine Ev.step (fun q => by simp only [F206.l0]; rfl) ?_
    simp only [Int.lt_irrefl, if_false]
    exact Ev.now _
  | succ d ih =>
    intro i hd hi
    have hin : i < n := by omega
    refine Ev.step (fun q => by simp only [F206.l0]; rfl) ?_
    simp only [show ((i : Int) < (n : Int)) by omega, show (0 : Int) ≤ (i : Int) by omega, if_true, vmat_length, vmat_row hin, vrow_length, vrow_rd hin, w64 (show -9223372036854775808 ≤ (i : Int) + 1 by omega) (by omega)]
    have h := ih (i + 1) (by omega) (by omega)
    rw [show ((i + 1 : Nat) : Int) = (i : Int) + 1 by omega] at h
    exact h
theorem trace_ev (n : Nat) (hn : n ≤ 1048576) (h : Nat → Nat → Int) : Ev (fun q => F206.f q (vmat n h)) (trW h n) := by
  unfold F206.f
  simp only [vmat_length]
  exact trace_l0 n hn h n 0 (by omega) (by omega)
/-- A list without zeros at its end. -/
def trimN (l : List Int) : Nat → List Int
  | 0 => []
  | n + 1 => if rd l n = 0 then trimN l n else l.take (n + 1)
theorem trimmed_l0 (l : List Int) (hl : l.length ≤ 1048576) : ∀ n, n ≤ l.length → Ev (fun q => F168.l0 q (l.take n)) (trimN l n) := by
  intro n
  induction n with
  | zero =>
    intro _
    refine Ev.step (fun q => by simp only [F168.l0]; rfl) ?_
    simp only [List.take_zero, List.length_nil, show ¬ (((0 : Nat) : Int) > 0) by omega, if_false, clone_ev [] (by simp), Option.bind_some, trimN]
    exact Ev.now _
  | succ n ih =>
    intro hn
    refine Ev.step (fun q => by simp only [F168.l0]; rfl) ?_
    have hlen : ((l.take (n + 1)).length : Int) = (n : Int) + 1 := by rw [List.length_take]; omega
    have hr : rd (l.take (n + 1)) n = rd l n := by
      unfold rd
      simp only [Int.toNat_natCast, List.getD_eq_getElem?_getD, List.getElem?_take]
      rw [if_pos (by omega)]
    simp only [hlen, show (n : Int) + 1 - 1 = n by omega, w64 (show -9223372036854775808 ≤ (n : Int) by omega) (by omega), show (n : Int) + 1 > 0 by omega, show (0 : Int) ≤ (n : Int) by omega, show (n : Int) < (n : Int) + 1 by omega, show (n : Int) ≤ (n : Int) + 1 by omega, if_true, hr, Int.toNat_natCast, List.take_take, show min n (n + 1) = n by omega]
    rw [show trimN l (n + 1) = if rd l n = 0 then trimN l n else l.take (n + 1) from rfl]
    by_cases h : rd l n = 0
    · simp only [h, if_true]
      exact ih (by omega)
    · simp only [h, if_false, clone_ev (l.take (n + 1)) (by rw [List.length_take]; omega), Option.bind_some]
      exact Ev.now _
theorem trimmed_ev (l : List Int) (hl : l.length ≤ 1048576) : Ev (fun q => F168.f q l) (trimN l l.length) := by
  unfold F168.f
  have h := trimmed_l0 l hl l.length (Nat.le_refl _)
  rw [List.take_length] at h
  exact h
/-- The rows with one number added in the diagonal. -/
def diS (h : Nat → Nat → Int) (c : Int) (i : Nat) : Nat → Nat → Int := fun r q => if r = q ∧ r < i then wrap64 (h r q + c) else h r q
theorem crange_rd (c : Nat → Int) (n i : Nat) (h : i < n) : rd ((List.range n).map c) i = c i := by
  rw [rd_nat _ _ (by simpa using h)]; simp
theorem determinant_l1 (n : Nat) (hn : n ≤ 1048576) (A h : Nat → Nat → Int) (c : Nat → Int) (m : Nat) (hm : m < n) (R : List Int)
    (next : Ev (fun k => (F205.f k (vmat n A) (vmat n (diS h (c m) n))).bind fun t119 => ((F206.f k t119).bind fun t122 => (if ((m + 1 : Nat) : Int) = 0 then (none) else (if ((List.range (m + 1)).map c).length < 17592186044416 then (F132.l0 k (vmat n A) ((List.range (m + 1)).map c ++ [wrap64 (Int.tdiv (wrap64 (-t122)) ((m + 1 : Nat) : Int))]) (vmat n (diS h (c m) n)) (wrap64 (((m + 1 : Nat) : Int) + 1))) else (none))))) R) :
    ∀ (d i : Nat), n - i = d → i ≤ n → Ev (fun k => F132.l1 k (vmat n A) ((List.range (m + 1)).map c) (vmat n (diS h (c m) i)) ((m + 1 : Nat) : Int) n i) R := by
  intro d
  induction d with
  | zero =>
    intro i hd hi
    obtain rfl : i = n := by omega
    refine Ev.step (fun q => by simp only [F132.l1]; rfl) ?_
    simp only [Int.lt_irrefl, if_false]
    exact next
  | succ d ih =>
    intro i hd hi
    have hin : i < n := by omega
    refine Ev.step (fun q => by simp only [F132.l1]; rfl) ?_
    simp only [show ((i : Int) < (n : Int)) by omega, show (0 : Int) ≤ (i : Int) by omega, if_true, vmat_length, vmat_row hin, vrow_length, vrow_rd hin, Int.toNat_natCast, show ((m + 1 : Nat) : Int) - 1 = (m : Int) by omega, w64 (show -9223372036854775808 ≤ (m : Int) by omega) (by omega), show (0 : Int) ≤ (m : Int) by omega, List.length_map, List.length_range, show (m : Int) < ((m + 1 : Nat) : Int) by omega, crange_rd c (m + 1) m (by omega), w64 (show -9223372036854775808 ≤ (i : Int) + 1 by omega) (by omega)]
    rw [vrow_set, vmat_set]
    refine Ev.congr (fun q => ?_) (ih (i + 1) (by omega) (by omega))
    rw [show ((i + 1 : Nat) : Int) = (i : Int) + 1 by omega]
    congr 1
    refine vmat_congr fun r q hr hq => ?_
    unfold diS
    by_cases h1 : r = i
    · subst h1
      rw [if_pos rfl]
      by_cases h2 : q = r
      · subst h2
        rw [if_pos rfl, if_neg (by omega), if_pos ⟨rfl, by omega⟩]
      · rw [if_neg h2, if_neg (fun e => h2 e.1.symm), if_neg (fun e => h2 e.1.symm)]
    · rw [if_neg h1]
      by_cases h2 : r = q ∧ r < i
      · rw [if_pos h2, if_pos ⟨h2.1, by omega⟩]
      · rw [if_neg h2, if_neg (fun e => h2 ⟨e.1, by omega⟩)]
/-- The numbers of a determinant, as a list. -/
def cpL (n : Nat) (A : Nat → Nat → Int) : List Int := (List.range (n + 1)).map (la_cp n A)
theorem cpL_length (n : Nat) (A : Nat → Nat → Int) : (cpL n A).length = n + 1 := by simp [cpL]
theorem determinant_l0 (n : Nat) (hn : n ≤ 1048575) (A : Nat → Nat → Int) (hb : ∀ k : Nat, 1 ≤ k → k ≤ n → -9223372036854775807 ≤ (k : Int) * la_cp n A k ∧ (k : Int) * la_cp n A k ≤ 9223372036854775807) :
    ∀ (d m : Nat), n - m = d → m ≤ n → ∀ h : Nat → Nat → Int, (∀ i j, i < n → j < n → cgM (h i j) (la_flB n A (la_cp n A) m i j)) →
      Ev (fun k => F132.l0 k (vmat n A) ((List.range (m + 1)).map (la_cp n A)) (vmat n h) ((m + 1 : Nat) : Int)) (trimN (cpL n A) (n + 1)) := by
  intro d
  induction d with
  | zero =>
    intro m hd hm h _
    obtain rfl : m = n := by omega
    refine Ev.step (fun q => by simp only [F132.l0]; rfl) ?_
    simp only [vmat_length, show ¬ (((m + 1 : Nat) : Int) ≤ (m : Int)) by omega, if_false]
    refine Ev.bind (a := trimN (cpL m A) (m + 1)) ?_ (Ev.now _)
    have h := trimmed_ev (cpL m A) (by rw [cpL_length]; omega)
    rw [cpL_length] at h
    exact h
  | succ d ih =>
    intro m hd hm h hcg
    have hmn : m < n := by omega
    refine Ev.step (fun q => by simp only [F132.l0]; rfl) ?_
    simp only [vmat_length, show (((m + 1 : Nat) : Int) ≤ (n : Int)) by omega, if_true]
    refine Ev.bind (rowsTimes_ev n (by omega) A h) ?_
    simp only [vmat_length]
    have hg : ∀ i j, i < n → j < n → cgM (diS (fun r c => rtA A h r n c) (la_cp n A m) n i j) (la_flB n A (la_cp n A) (m + 1) i j) := by
      intro i j hi hj
      have h1 : cgM (rtA A h i n j) (la_sm n (fun q => A i q * la_flB n A (la_cp n A) m q j)) := cg_trans (rtA_cg A h i j n) (cg_sm (fun q hq => cg_mul (cg_refl _) (hcg q j hq hj)))
      show cgM (diS _ _ n i j) (la_sm n (fun q => A i q * la_flB n A (la_cp n A) m q j) + (if i = j then la_cp n A m else 0))
      unfold diS
      by_cases e : i = j
      · rw [if_pos ⟨e, hi⟩, if_pos e]
        exact cg_trans (cg_wrap _) (cg_add h1 (cg_refl _))
      · rw [if_neg (fun e2 => e e2.1), if_neg e]
        simpa using h1
    have h0 : vmat n (fun r c => rtA A h r n c) = vmat n (diS (fun r c => rtA A h r n c) (la_cp n A m) 0) := vmat_congr fun r c _ _ => by
      unfold diS; rw [if_neg (by omega)]
    rw [h0]
    refine determinant_l1 n (by omega) A _ (la_cp n A) m hmn _ ?_ n 0 (by omega) (by omega)
    refine Ev.bind (rowsTimes_ev n (by omega) A _) ?_
    refine Ev.bind (trace_ev n (by omega) _) ?_
    have hfl := la_cp_fl n A m hmn
    have hbm := hb (m + 1) (by omega) (by omega)
    have htr : cgM (-(trW (fun r c => rtA A (diS (fun r c => rtA A h r n c) (la_cp n A m) n) r n c) n)) (((m + 1 : Nat) : Int) * la_cp n A (m + 1)) := by
      rw [hfl]
      refine cg_neg (cg_trans (trW_cg _ n) (cg_sm (fun i hi => cg_trans (rtA_cg _ _ i i n) (cg_sm (fun j hj => cg_mul (cg_refl _) (hg j i hj hi))))))
    have hw : wrap64 (-(trW (fun r c => rtA A (diS (fun r c => rtA A h r n c) (la_cp n A m) n) r n c) n)) = ((m + 1 : Nat) : Int) * la_cp n A (m + 1) := wrap_of_cg htr ⟨by omega, by omega⟩
    have hdiv : Int.tdiv (((m + 1 : Nat) : Int) * la_cp n A (m + 1)) ((m + 1 : Nat) : Int) = la_cp n A (m + 1) := Int.mul_tdiv_cancel_left _ (by omega)
    have hsmall : -9223372036854775808 ≤ la_cp n A (m + 1) ∧ la_cp n A (m + 1) ≤ 9223372036854775807 := by
      have h1 : (1 : Int) ≤ ((m + 1 : Nat) : Int) := by omega
      generalize ((m + 1 : Nat) : Int) = t at h1 hbm
      generalize la_cp n A (m + 1) = c at hbm
      constructor
      · rcases Int.lt_or_le c 0 with hc | hc
        · have : t * c ≤ 1 * c := Int.mul_le_mul_of_nonpos_right h1 (by omega)
          omega
        · omega
      · rcases Int.lt_or_le c 0 with hc | hc
        · omega
        · have : 1 * c ≤ t * c := Int.mul_le_mul_of_nonneg_right h1 hc
          omega
    simp only [show ¬ (((m + 1 : Nat) : Int) = 0) by omega, if_false, List.length_map, List.length_range, show m + 1 < 17592186044416 by omega, if_true, hw, hdiv, w64 hsmall.1 hsmall.2, w64 (show -9223372036854775808 ≤ ((m + 1 : Nat) : Int) + 1 by omega) (by omega)]
    have hn2 := ih (m + 1) (by omega) (by omega) _ hg
    refine Ev.congr (fun q => ?_) hn2
    rw [show (List.range (m + 1 + 1)).map (la_cp n A) = (List.range (m + 1)).map (la_cp n A) ++ [la_cp n A (m + 1)] by rw [List.range_succ, List.map_append]; rfl]
    rw [show ((m + 1 + 1 : Nat) : Int) = ((m + 1 : Nat) : Int) + 1 by omega]
end Go.Proofs.Ytoebojnhchocaaa.A
