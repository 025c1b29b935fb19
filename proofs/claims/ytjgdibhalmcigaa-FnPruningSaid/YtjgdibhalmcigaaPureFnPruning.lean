/- Plain lemmas on the Lean functions that FnPruning reaches, and its pure statement. No condition. -/
import Derived.Test.YtjgdibhalmcigaaDx
namespace Go.Proofs.Ytjgdibhalmcigaa.D
open Go.RowKit Go.Proofs.YtjgdibhalmcigaaW.PrintWords Go.Proofs.YtjgdibhalmcigaaW.PrintLast Go.Proofs.YtjgdibhalmcigaaW.PrintMore
set_option linter.unusedVariables false
set_option linter.unusedSimpArgs false
theorem w64 {n : Int} (h0 : -9223372036854775808 ≤ n) (h1 : n ≤ 9223372036854775807) : wrap64 n = n := IntWalk.wrap64_in n ⟨h0, h1⟩
theorem rd_nat (l : List Int) (i : Nat) (h : i < l.length) : rd l (i : Int) = l[i] := by
  simp [rd, List.getD_eq_getElem?_getD, h]
theorem rdL1_nat (l : List (List Int)) (i : Nat) (h : i < l.length) : rd_L1 l (i : Int) = l[i] := by
  simp [rd_L1, List.getD_eq_getElem?_getD, h]
/-! ### what a graph is -/
def endIn (a n : Int) : Bool := decide (0 ≤ n) && decide (n ≤ wrap64 (a - 1))
def edgeIn (a : Int) (e : List Int) : Bool := decide (e.length = 2) && (endIn a (rd e 0) && endIn a (rd e 1))
def isG (a : Int) (l : List (List Int)) : Bool := decide (1 ≤ a) && (decide (a ≤ 8) && (decide (l.length ≤ 10) && l.all (edgeIn a)))
theorem within_eq (a b c : Int) : impl_within.f a b c = some (decide (b ≤ a) && decide (a ≤ c)) := by
  unfold impl_within.f
  by_cases h : b ≤ a <;> simp [h]
theorem l01In_eq (a b c : Int) : spec_l01In.f a b c = some (decide (b ≤ a) && decide (a ≤ c)) := by
  unfold spec_l01In.f
  by_cases h : b ≤ a <;> simp [h]
theorem impl_IsGraph_l0 (a : Int) (l : List (List Int)) (hl : l.length ≤ maxLen) : ∀ (d i : Nat), l.length - i = d → i ≤ l.length → Ev (fun k => impl_IsGraph.l0 k l l.length i a l) ((l.drop i).all (edgeIn a) && (decide (1 ≤ a) && (decide (a ≤ 8) && decide (l.length ≤ 10)))) := by
  unfold maxLen at hl
  intro d
  induction d with
  | zero =>
    intro i hd hi
    refine Ev.step (fun k => by simp only [impl_IsGraph.l0]; rfl) ?_
    simp only [show ¬ ((i : Int) < (l.length : Int)) by omega, if_false, within_eq, Option.bind_some, List.drop_of_length_le (show l.length ≤ i by omega), List.all_nil, Bool.true_and]
    by_cases h1 : 1 ≤ a
    · by_cases h2 : a ≤ 8
      · simp only [h1, h2, decide_true, Bool.true_and, if_true]
        exact Ev.congr (fun k => by congr 1; simp; omega) (Ev.now _)
      · simp only [h1, h2, decide_true, decide_false, Bool.true_and, Bool.false_and, Bool.false_eq_true, if_false]
        exact Ev.now _
    · simp only [h1, decide_false, Bool.false_and, Bool.false_eq_true, if_false]
      exact Ev.now _
  | succ d ih =>
    intro i hd hi
    have hil : i < l.length := by omega
    refine Ev.step (fun k => by simp only [impl_IsGraph.l0]; rfl) ?_
    have hdrop : (l.drop i).all (edgeIn a) = (edgeIn a l[i] && (l.drop (i + 1)).all (edgeIn a)) := by rw [List.drop_eq_getElem_cons hil, List.all_cons]
    rw [hdrop]
    simp only [show ((i : Int) < (l.length : Int)) by omega, show (0 : Int) ≤ (i : Int) by omega, if_true, w64 (show -9223372036854775808 ≤ (i : Int) + 1 by omega) (by omega), rdL1_nat l i hil, within_eq, Option.bind_some]
    unfold edgeIn endIn
    by_cases h2 : l[i].length = 2
    · simp only [h2, decide_true, Bool.true_and, show ((2 : Nat) : Int) = 2 from rfl, if_true, show (0 : Int) < 2 by omega, show (1 : Int) < 2 by omega]
      by_cases h3 : (decide (0 ≤ rd l[i] 0) && decide (rd l[i] 0 ≤ wrap64 (a - 1))) = true
      · by_cases h4 : (decide (0 ≤ rd l[i] 1) && decide (rd l[i] 1 ≤ wrap64 (a - 1))) = true
        · simp only [h3, h4, if_true, Bool.true_and]
          exact ih (i + 1) (by omega) (by omega)
        · simp only [Bool.not_eq_true] at h4
          simp only [h3, h4, if_true, Bool.false_and, Bool.and_false, Bool.false_eq_true, if_false]
          exact Ev.now _
      · simp only [Bool.not_eq_true] at h3
        simp only [h3, Bool.false_and, Bool.false_eq_true, if_false]
        exact Ev.now _
    · simp only [show ¬ ((l[i].length : Int) = 2) by omega, h2, decide_false, Bool.false_and, if_false]
      exact Ev.now _
theorem impl_IsGraph_ev (a : Int) (l : List (List Int)) (hl : l.length ≤ maxLen) : Ev (fun k => impl_IsGraph.f k a l) (isG a l) := by
  unfold impl_IsGraph.f
  have h := impl_IsGraph_l0 a l hl l.length 0 (by omega) (by omega)
  have e : ((l.drop 0).all (edgeIn a) && (decide (1 ≤ a) && (decide (a ≤ 8) && decide (l.length ≤ 10)))) = isG a l := by
    unfold isG
    rw [List.drop_zero]
    cases l.all (edgeIn a) <;> simp
  rw [e] at h
  exact h
theorem spec_l01Is_l0 (a : Int) (l : List (List Int)) (hl : l.length ≤ maxLen) : ∀ (d i : Nat), l.length - i = d → i ≤ l.length → Ev (fun k => spec_l01Is.l0 k i a l) ((l.drop i).all (edgeIn a)) := by
  unfold maxLen at hl
  intro d
  induction d with
  | zero =>
    intro i hd hi
    refine Ev.step (fun k => by simp only [spec_l01Is.l0]; rfl) ?_
    simp only [show ¬ ((i : Int) < (l.length : Int)) by omega, if_false, List.drop_of_length_le (show l.length ≤ i by omega), List.all_nil]
    exact Ev.now _
  | succ d ih =>
    intro i hd hi
    have hil : i < l.length := by omega
    refine Ev.step (fun k => by simp only [spec_l01Is.l0]; rfl) ?_
    have hdrop : (l.drop i).all (edgeIn a) = (edgeIn a l[i] && (l.drop (i + 1)).all (edgeIn a)) := by rw [List.drop_eq_getElem_cons hil, List.all_cons]
    rw [hdrop]
    simp only [show ((i : Int) < (l.length : Int)) by omega, show (0 : Int) ≤ (i : Int) by omega, if_true, w64 (show -9223372036854775808 ≤ (i : Int) + 1 by omega) (by omega), rdL1_nat l i hil, l01In_eq, Option.bind_some]
    unfold edgeIn endIn
    by_cases h2 : l[i].length = 2
    · simp only [h2, decide_true, Bool.true_and, show ((2 : Nat) : Int) = 2 from rfl, if_true, show (0 : Int) < 2 by omega, show (1 : Int) < 2 by omega]
      by_cases h3 : (decide (0 ≤ rd l[i] 0) && decide (rd l[i] 0 ≤ wrap64 (a - 1))) = true
      · by_cases h4 : (decide (0 ≤ rd l[i] 1) && decide (rd l[i] 1 ≤ wrap64 (a - 1))) = true
        · simp only [h3, h4, if_true, Bool.true_and]
          exact ih (i + 1) (by omega) (by omega)
        · simp only [Bool.not_eq_true] at h4
          simp only [h3, h4, if_true, Bool.false_and, Bool.and_false, Bool.false_eq_true, if_false]
          exact Ev.now _
      · simp only [Bool.not_eq_true] at h3
        simp only [h3, Bool.false_and, Bool.false_eq_true, if_false]
        exact Ev.now _
    · simp only [show ¬ ((l[i].length : Int) = 2) by omega, h2, decide_false, Bool.false_and, if_false]
      exact Ev.now _
theorem spec_l01Is_ev (a : Int) (l : List (List Int)) (hl : l.length ≤ maxLen) : Ev (fun k => spec_l01Is.f k a l) (isG a l) := by
  unfold spec_l01Is.f isG
  simp only [l01In_eq, Option.bind_some]
  have hj : ∀ b, Ev (fun k => spec_l01Is.j0 k b a l) (!b && l.all (edgeIn a)) := by
    intro b
    refine Ev.step (fun k => by simp only [spec_l01Is.j0]; rfl) ?_
    cases b with
    | true => simp only [if_true, Bool.not_true, Bool.false_and]; exact Ev.now _
    | false =>
      simp only [Bool.false_eq_true, if_false, Bool.not_false, Bool.true_and]
      exact spec_l01Is_l0 a l hl l.length 0 (by omega) (by omega)
  by_cases h1 : 1 ≤ a
  · by_cases h2 : a ≤ 8
    · simp only [h1, h2, decide_true, Bool.true_and, if_true]
      have h := hj (decide ((l.length : Int) > 10))
      have e : (!decide ((l.length : Int) > 10)) = decide (l.length ≤ 10) := by
        by_cases h : l.length ≤ 10
        · simp [h]; omega
        · simp [h]; omega
      rw [e] at h
      exact h
    · simp only [h1, h2, decide_true, decide_false, Bool.true_and, Bool.false_and, Bool.false_eq_true, if_false]
      exact hj true
  · simp only [h1, decide_false, Bool.false_and, Bool.false_eq_true, if_false]
    exact hj true
def la_sm : Nat → (Nat → Int) → Int
  | 0, _ => 0
  | n+1, f => la_sm n f + f n
theorem la_sm_congr {n : Nat} {f g : Nat → Int} (h : ∀ i, i < n → f i = g i) : la_sm n f = la_sm n g := by
  induction n with
  | zero => rfl
  | succ n ih => simp only [la_sm]; rw [ih (fun i hi => h i (by omega)), h n (by omega)]
theorem la_sm_zero {n : Nat} {f : Nat → Int} (h : ∀ i, i < n → f i = 0) : la_sm n f = 0 := by
  induction n with
  | zero => rfl
  | succ n ih => simp only [la_sm]; rw [ih (fun i hi => h i (by omega)), h n (by omega)]; rfl
theorem la_sm_add (n : Nat) (f g : Nat → Int) : la_sm n (fun i => f i + g i) = la_sm n f + la_sm n g := by
  induction n with
  | zero => rfl
  | succ n ih => simp only [la_sm]; rw [ih]; omega
theorem la_sm_mul (n : Nat) (x : Int) (f : Nat → Int) : la_sm n (fun i => x * f i) = x * la_sm n f := by
  induction n with
  | zero => simp [la_sm]
  | succ n ih => simp only [la_sm]; rw [ih, Int.mul_add]
theorem la_sm_neg (n : Nat) (f : Nat → Int) : la_sm n (fun i => - f i) = - la_sm n f := by
  induction n with
  | zero => rfl
  | succ n ih => simp only [la_sm]; rw [ih]; omega
theorem la_sm_sub (n : Nat) (f g : Nat → Int) : la_sm n (fun i => f i - g i) = la_sm n f - la_sm n g := by
  induction n with
  | zero => rfl
  | succ n ih => simp only [la_sm]; rw [ih]; omega
theorem la_sm_single {n : Nat} {f : Nat → Int} (k : Nat) (hk : k < n) (h : ∀ i, i < n → i ≠ k → f i = 0) : la_sm n f = f k := by
  induction n with
  | zero => omega
  | succ n ih =>
    simp only [la_sm]
    by_cases hkn : k = n
    · subst hkn
      rw [la_sm_zero (fun i hi => h i (by omega) (by omega))]; omega
    · rw [ih (by omega) (fun i hi hne => h i (by omega) hne), h n (by omega) (by omega)]; omega
theorem la_sm_two {n : Nat} {f : Nat → Int} (k l : Nat) (hk : k < n) (hl : l < n) (hkl : k ≠ l) (h : ∀ i, i < n → i ≠ k → i ≠ l → f i = 0) : la_sm n f = f k + f l := by
  have e : la_sm n f = la_sm n (fun i => (if i = k then f k else 0) + (if i = l then f l else 0)) := by
    refine la_sm_congr (fun i hi => ?_)
    by_cases h1 : i = k
    · subst h1; simp [hkl]
    · by_cases h2 : i = l
      · subst h2; simp [h1]
      · simp [h1, h2, h i hi h1 h2]
  rw [e, la_sm_add, la_sm_single k hk (fun i _ hne => by simp [hne]), la_sm_single l hl (fun i _ hne => by simp [hne])]
  simp
theorem la_sm_succ' (n : Nat) (f : Nat → Int) : la_sm (n+1) f = f 0 + la_sm n (fun i => f (i+1)) := by
  induction n with
  | zero => simp [la_sm]
  | succ n ih =>
    rw [show la_sm (n+1+1) f = la_sm (n+1) f + f (n+1) from rfl, ih]
    simp only [la_sm]; omega
theorem la_sm_swap (n m : Nat) (f : Nat → Nat → Int) : la_sm n (fun i => la_sm m (fun j => f i j)) = la_sm m (fun j => la_sm n (fun i => f i j)) := by
  induction n with
  | zero => simp only [la_sm]; rw [la_sm_zero (fun _ _ => rfl)]
  | succ n ih => simp only [la_sm]; rw [ih, la_sm_add]
theorem la_sm_split (n m : Nat) (f : Nat → Int) : la_sm (n + m) f = la_sm n f + la_sm m (fun i => f (n + i)) := by
  induction m with
  | zero => simp [la_sm]
  | succ m ih => rw [← Nat.add_assoc]; simp only [la_sm]; rw [ih]; omega
theorem la_sm_ext {n m : Nat} {f : Nat → Int} (h : n ≤ m) (hz : ∀ i, n ≤ i → i < m → f i = 0) : la_sm m f = la_sm n f := by
  obtain ⟨d, rfl⟩ := Nat.exists_eq_add_of_le h
  rw [la_sm_split, la_sm_zero (n := d) (fun i hi => hz _ (by omega) (by omega))]; omega
theorem la_sm_pairs (n : Nat) (f : Nat → Nat → Int) :
    la_sm (n+1) (fun i => la_sm n (fun j => f i j)) = la_sm (n+1) (fun b => la_sm b (fun a => f b a + f a (b-1))) := by
  induction n with
  | zero => simp [la_sm]
  | succ n ih =>
    rw [show la_sm (n+1+1) (fun b => la_sm b (fun a => f b a + f a (b-1))) = la_sm (n+1) (fun b => la_sm b (fun a => f b a + f a (b-1))) + la_sm (n+1) (fun a => f (n+1) a + f a n) from rfl]
    rw [← ih, la_sm_add]
    rw [show la_sm (n+1+1) (fun i => la_sm (n+1) (fun j => f i j)) = la_sm (n+1) (fun i => la_sm (n+1) (fun j => f i j)) + la_sm (n+1) (fun j => f (n+1) j) from rfl]
    rw [show (fun i => la_sm (n+1) (fun j => f i j)) = (fun i => la_sm n (fun j => f i j) + f i n) from rfl, la_sm_add]
    have : la_sm (n+1) (f (n+1)) = la_sm (n+1) (fun j => f (n+1) j) := rfl
    omega
def la_sk (i a : Nat) : Nat := if a < i then a else a + 1
def la_sg (i : Nat) : Int := if i % 2 = 0 then 1 else -1
theorem la_sg_succ (i : Nat) : la_sg (i+1) = - la_sg i := by
  unfold la_sg; by_cases h : i % 2 = 0
  · rw [if_pos h, if_neg (by omega)]
  · rw [if_neg h, if_pos (by omega)]; rfl
theorem la_sk_lt {i a n : Nat} (hi : i < n + 1) (ha : a < n) : la_sk i a < n + 1 := by unfold la_sk; split <;> omega
def la_det : Nat → (Nat → Nat → Int) → Int
  | 0, _ => 1
  | n+1, M => la_sm (n+1) (fun i => la_sg i * M i 0 * la_det n (fun a b => M (la_sk i a) (b+1)))
theorem la_det_succ (n : Nat) (M : Nat → Nat → Int) : la_det (n+1) M = la_sm (n+1) (fun i => la_sg i * M i 0 * la_det n (fun a b => M (la_sk i a) (b+1))) := rfl
theorem la_det_congr {n : Nat} : ∀ {M N : Nat → Nat → Int}, (∀ a b, a < n → b < n → M a b = N a b) → la_det n M = la_det n N := by
  induction n with
  | zero => intros; rfl
  | succ n ih =>
    intro M N h
    rw [la_det_succ, la_det_succ]
    refine la_sm_congr (fun i hi => ?_)
    rw [h i 0 hi (by omega), ih (fun a b ha hb => h _ _ (la_sk_lt hi ha) (by omega))]
def la_rr (M : Nat → Nat → Int) (i : Nat) (r : Nat → Int) : Nat → Nat → Int := fun a b => if a = i then r b else M a b
def la_rc (M : Nat → Nat → Int) (j : Nat) (c : Nat → Int) : Nat → Nat → Int := fun a b => if b = j then c a else M a b
def la_un (i a : Nat) : Nat := if a < i then a else a - 1
theorem la_sk_eq_iff {i a k : Nat} (h : k ≠ i) : la_sk i a = k ↔ a = la_un i k := by unfold la_sk la_un; split <;> split <;> omega
theorem la_un_lt {i k n : Nat} (hi : i < n + 1) (hk : k < n + 1) (h : k ≠ i) : la_un i k < n := by unfold la_un; split <;> omega
theorem la_sk_ne (i a : Nat) : la_sk i a ≠ i := by unfold la_sk; split <;> omega
theorem la_minor_rr {M : Nat → Nat → Int} {i k : Nat} {r : Nat → Int} (h : k ≠ i) : (fun a b => la_rr M k r (la_sk i a) (b+1)) = la_rr (fun a b => M (la_sk i a) (b+1)) (la_un i k) (fun b => r (b+1)) := by
  funext a b
  unfold la_rr
  by_cases e : la_sk i a = k
  · rw [if_pos e, if_pos ((la_sk_eq_iff h).mp e)]
  · rw [if_neg e, if_neg (fun h' => e ((la_sk_eq_iff h).mpr h'))]
theorem la_minor_rr_self {M : Nat → Nat → Int} {k : Nat} {r : Nat → Int} : (fun a b => la_rr M k r (la_sk k a) (b+1)) = (fun a b => M (la_sk k a) (b+1)) := by
  funext a b
  unfold la_rr
  rw [if_neg (la_sk_ne k a)]
theorem la_det_row_lin {n : Nat} : ∀ (M : Nat → Nat → Int) (k : Nat), k < n → ∀ (x y : Int) (r s : Nat → Int), la_det n (la_rr M k (fun b => x * r b + y * s b)) = x * la_det n (la_rr M k r) + y * la_det n (la_rr M k s) := by
  induction n with
  | zero => intro M k hk; omega
  | succ n ih =>
    intro M k hk x y r s
    rw [la_det_succ, la_det_succ, la_det_succ, ← la_sm_mul, ← la_sm_mul, ← la_sm_add]
    refine la_sm_congr (fun i hi => ?_)
    by_cases e : k = i
    · subst e
      rw [la_minor_rr_self, la_minor_rr_self, la_minor_rr_self]
      simp only [la_rr, if_true]
      generalize la_det n _ = D
      grind
    · rw [la_minor_rr e, la_minor_rr e, la_minor_rr e, ih _ _ (la_un_lt hi hk e)]
      simp only [la_rr, if_neg (Ne.symm e)]
      generalize la_det n _ = D
      generalize la_det n _ = E
      grind
theorem la_det_row_smul {n : Nat} (M : Nat → Nat → Int) (k : Nat) (hk : k < n) (x : Int) (r : Nat → Int) : la_det n (la_rr M k (fun b => x * r b)) = x * la_det n (la_rr M k r) := by
  have := la_det_row_lin M k hk x 0 r r
  simpa using this
theorem la_det_row_add {n : Nat} (M : Nat → Nat → Int) (k : Nat) (hk : k < n) (r s : Nat → Int) : la_det n (la_rr M k (fun b => r b + s b)) = la_det n (la_rr M k r) + la_det n (la_rr M k s) := by
  have := la_det_row_lin M k hk 1 1 r s
  simpa using this
theorem la_rr_self (M : Nat → Nat → Int) (k : Nat) : la_rr M k (M k) = M := by
  funext a b; unfold la_rr; split
  · case _ h => rw [h]
  · rfl
theorem la_rr_comm (M : Nat → Nat → Int) {k l : Nat} (h : k ≠ l) (r s : Nat → Int) : la_rr (la_rr M k r) l s = la_rr (la_rr M l s) k r := by
  funext a b; unfold la_rr; by_cases e : a = l
  · subst e; simp [Ne.symm h]
  · simp [e]
theorem la_det_row_zero {n : Nat} (M : Nat → Nat → Int) (k : Nat) (hk : k < n) (h : ∀ b, b < n → M k b = 0) : la_det n M = 0 := by
  have e : la_det n M = la_det n (la_rr M k (fun b => 0 * M k b)) := by
    refine la_det_congr (fun a b _ hb => ?_)
    unfold la_rr; split
    · case _ h' => rw [h', h b hb]; simp
    · rfl
  rw [e, la_det_row_smul _ _ hk]; simp
theorem la_det_adj {n : Nat} : ∀ (M : Nat → Nat → Int) (k : Nat), k + 1 < n → (∀ b, b < n → M k b = M (k+1) b) → la_det n M = 0 := by
  induction n with
  | zero => intro M k hk; omega
  | succ n ih =>
    intro M k hk h
    rw [la_det_succ, la_sm_two k (k+1) (by omega) hk (by omega)]
    · have e : la_det n (fun a b => M (la_sk k a) (b+1)) = la_det n (fun a b => M (la_sk (k+1) a) (b+1)) := by
        refine la_det_congr (fun a b ha hb => ?_)
        by_cases h1 : a = k
        · subst h1
          have e1 : la_sk a a = a + 1 := by unfold la_sk; split <;> omega
          have e2 : la_sk (a+1) a = a := by unfold la_sk; split <;> omega
          rw [e1, e2, h _ (by omega)]
        · have : la_sk k a = la_sk (k+1) a := by unfold la_sk; split <;> split <;> omega
          rw [this]
      rw [e, la_sg_succ, h 0 (by omega)]
      generalize la_det n _ = D
      grind
    · intro i hi h1 h2
      have : la_det n (fun a b => M (la_sk i a) (b+1)) = 0 := by
        by_cases hik : i < k
        · refine ih _ (k-1) (by omega) (fun b hb => ?_)
          have e1 : la_sk i (k-1) = k := by unfold la_sk; split <;> omega
          have e2 : la_sk i (k-1+1) = k+1 := by unfold la_sk; split <;> omega
          simp only [e1, e2]; exact h _ (by omega)
        · refine ih _ k (by omega) (fun b hb => ?_)
          have e1 : la_sk i k = k := by unfold la_sk; split <;> omega
          have e2 : la_sk i (k+1) = k+1 := by unfold la_sk; split <;> omega
          simp only [e1, e2]; exact h _ (by omega)
      rw [this]; simp
theorem la_det_adj_swap {n : Nat} (M : Nat → Nat → Int) (k : Nat) (hk : k + 1 < n) (r s : Nat → Int) : la_det n (la_rr (la_rr M k r) (k+1) s) = - la_det n (la_rr (la_rr M k s) (k+1) r) := by
  have h0 : la_det n (la_rr (la_rr M k (fun b => r b + s b)) (k+1) (fun b => r b + s b)) = 0 :=
    la_det_adj _ k hk (fun b _ => by simp [la_rr])
  have hr : la_det n (la_rr (la_rr M k r) (k+1) r) = 0 := la_det_adj _ k hk (fun b _ => by simp [la_rr])
  have hs : la_det n (la_rr (la_rr M k s) (k+1) s) = 0 := la_det_adj _ k hk (fun b _ => by simp [la_rr])
  rw [la_det_row_add _ _ hk, la_rr_comm _ (show k ≠ k+1 by omega), la_rr_comm _ (show k ≠ k+1 by omega), la_det_row_add _ _ (by omega), la_det_row_add _ _ (by omega)] at h0
  rw [la_rr_comm _ (show k+1 ≠ k by omega), la_rr_comm _ (show k+1 ≠ k by omega), la_rr_comm _ (show k+1 ≠ k by omega), la_rr_comm _ (show k+1 ≠ k by omega), hr, hs] at h0
  omega
theorem la_det_alt {n : Nat} : ∀ (d : Nat) (M : Nat → Nat → Int) (k : Nat), k + 1 + d < n → (∀ b, b < n → M k b = M (k + 1 + d) b) → la_det n M = 0 := by
  intro d
  induction d with
  | zero => intro M k hk h; exact la_det_adj M k hk h
  | succ d ih =>
    intro M k hk h
    have e : M = la_rr (la_rr M (k+1+d) (M (k+1+d))) (k+1+d+1) (M (k+1+d+1)) := by
      rw [la_rr_self, la_rr_self]
    rw [e, la_det_adj_swap _ _ (by omega)]
    rw [ih _ k (by omega) (fun b hb => ?_)]
    · rfl
    · simp only [la_rr]
      rw [if_neg (by omega), if_neg (by omega), if_neg (by omega), if_pos trivial]
      exact h b hb
theorem la_det_eq_rows {n : Nat} (M : Nat → Nat → Int) (k l : Nat) (hk : k < n) (hl : l < n) (hkl : k ≠ l) (h : ∀ b, b < n → M k b = M l b) : la_det n M = 0 := by
  rcases Nat.lt_or_gt_of_ne hkl with h1 | h1
  · obtain ⟨d, rfl⟩ := Nat.exists_eq_add_of_lt h1
    exact la_det_alt d M k (by omega) (fun b hb => by rw [h b hb]; congr 1; omega)
  · obtain ⟨d, rfl⟩ := Nat.exists_eq_add_of_lt h1
    exact la_det_alt d M l (by omega) (fun b hb => by rw [← h b hb]; congr 1; omega)
theorem la_det_row_addmul {n : Nat} (M : Nat → Nat → Int) (k l : Nat) (hk : k < n) (hl : l < n) (hkl : k ≠ l) (x : Int) : la_det n (la_rr M k (fun b => M k b + x * M l b)) = la_det n M := by
  have h1 := la_det_row_lin M k hk 1 x (M k) (M l)
  have h2 : la_det n (la_rr M k (M l)) = 0 := la_det_eq_rows _ k l hk hl hkl (fun b _ => by simp [la_rr, Ne.symm hkl])
  rw [h2, la_rr_self] at h1
  simpa using h1
theorem la_det_swap {n : Nat} (M : Nat → Nat → Int) (k l : Nat) (hk : k < n) (hl : l < n) (hkl : k ≠ l) : la_det n (la_rr (la_rr M k (M l)) l (M k)) = - la_det n M := by
  have h0 : la_det n (la_rr (la_rr M k (fun b => M k b + M l b)) l (fun b => M k b + M l b)) = 0 :=
    la_det_eq_rows _ k l hk hl hkl (fun b _ => by simp [la_rr, hkl])
  have hr : la_det n (la_rr (la_rr M k (M k)) l (M k)) = 0 := la_det_eq_rows _ k l hk hl hkl (fun b _ => by simp [la_rr, hkl])
  have hs : la_det n (la_rr (la_rr M k (M l)) l (M l)) = 0 := la_det_eq_rows _ k l hk hl hkl (fun b _ => by simp [la_rr, hkl])
  rw [la_det_row_add _ _ hl, la_rr_comm _ hkl, la_rr_comm _ hkl, la_det_row_add _ _ hk, la_det_row_add _ _ hk] at h0
  rw [la_rr_comm _ (Ne.symm hkl), la_rr_comm _ (Ne.symm hkl), la_rr_comm _ (Ne.symm hkl), la_rr_comm _ (Ne.symm hkl), hr, hs, la_rr_self, la_rr_self] at h0
  omega
theorem la_minor_rc {M : Nat → Nat → Int} {i k : Nat} {c : Nat → Int} : (fun a b => la_rc M (k+1) c (la_sk i a) (b+1)) = la_rc (fun a b => M (la_sk i a) (b+1)) k (fun a => c (la_sk i a)) := by
  funext a b
  unfold la_rc
  by_cases e : b = k
  · subst e; simp
  · simp [e]
theorem la_minor_rc0 {M : Nat → Nat → Int} {i : Nat} {c : Nat → Int} : (fun a b => la_rc M 0 c (la_sk i a) (b+1)) = (fun a b => M (la_sk i a) (b+1)) := by
  funext a b; unfold la_rc; simp
theorem la_det_col_lin {n : Nat} : ∀ (M : Nat → Nat → Int) (k : Nat), k < n → ∀ (x y : Int) (r s : Nat → Int), la_det n (la_rc M k (fun b => x * r b + y * s b)) = x * la_det n (la_rc M k r) + y * la_det n (la_rc M k s) := by
  induction n with
  | zero => intro M k hk; omega
  | succ n ih =>
    intro M k hk x y r s
    rw [la_det_succ, la_det_succ, la_det_succ, ← la_sm_mul, ← la_sm_mul, ← la_sm_add]
    refine la_sm_congr (fun i hi => ?_)
    cases k with
    | zero =>
      rw [la_minor_rc0, la_minor_rc0, la_minor_rc0]
      simp only [la_rc, if_true]
      generalize la_det n _ = D
      grind
    | succ k =>
      rw [la_minor_rc, la_minor_rc, la_minor_rc, ih _ _ (by omega)]
      simp only [la_rc, if_neg (show ¬ 0 = k + 1 by omega)]
      generalize la_det n _ = D
      generalize la_det n _ = E
      grind
theorem la_det_col_smul {n : Nat} (M : Nat → Nat → Int) (k : Nat) (hk : k < n) (x : Int) (r : Nat → Int) : la_det n (la_rc M k (fun b => x * r b)) = x * la_det n (la_rc M k r) := by
  have := la_det_col_lin M k hk x 0 r r
  simpa using this
theorem la_det_col_add {n : Nat} (M : Nat → Nat → Int) (k : Nat) (hk : k < n) (r s : Nat → Int) : la_det n (la_rc M k (fun b => r b + s b)) = la_det n (la_rc M k r) + la_det n (la_rc M k s) := by
  have := la_det_col_lin M k hk 1 1 r s
  simpa using this
theorem la_rc_self (M : Nat → Nat → Int) (k : Nat) : la_rc M k (fun a => M a k) = M := by
  funext a b; unfold la_rc; split
  · case _ h => rw [h]
  · rfl
theorem la_rc_comm (M : Nat → Nat → Int) {k l : Nat} (h : k ≠ l) (r s : Nat → Int) : la_rc (la_rc M k r) l s = la_rc (la_rc M l s) k r := by
  funext a b; unfold la_rc; by_cases e : b = l
  · subst e; simp [Ne.symm h]
  · simp [e]
theorem la_det_col_zero {n : Nat} (M : Nat → Nat → Int) (k : Nat) (hk : k < n) (h : ∀ a, a < n → M a k = 0) : la_det n M = 0 := by
  have e : la_det n M = la_det n (la_rc M k (fun a => 0 * M a k)) := by
    refine la_det_congr (fun a b ha _ => ?_)
    unfold la_rc; split
    · case _ h' => rw [h', h a ha]; simp
    · rfl
  rw [e, la_det_col_smul _ _ hk]; simp
theorem la_det_col_adj {n : Nat} : ∀ (M : Nat → Nat → Int) (k : Nat), k + 1 < n → (∀ a, a < n → M a k = M a (k+1)) → la_det n M = 0 := by
  induction n with
  | zero => intro M k hk; omega
  | succ n ih =>
    intro M k hk h
    cases k with
    | succ k =>
      rw [la_det_succ]
      refine la_sm_zero (fun i hi => ?_)
      rw [ih _ k (by omega) (fun a ha => h _ (la_sk_lt hi ha))]; simp
    | zero =>
      obtain ⟨m, rfl⟩ : ∃ m, n = m + 1 := ⟨n - 1, by omega⟩
      rw [la_det_succ]
      have e : la_sm (m+1+1) (fun i => la_sg i * M i 0 * la_det (m+1) (fun a b => M (la_sk i a) (b+1))) = la_sm (m+1+1) (fun i => la_sm (m+1) (fun j => la_sg i * la_sg j * M i 0 * M (la_sk i j) 0 * la_det m (fun a b => M (la_sk i (la_sk j a)) (b+1+1)))) := by
        refine la_sm_congr (fun i hi => ?_)
        rw [la_det_succ, ← la_sm_mul]
        refine la_sm_congr (fun j hj => ?_)
        rw [h (la_sk i j) (la_sk_lt hi hj)]
        generalize la_det m _ = D
        grind
      rw [e, la_sm_pairs]
      refine la_sm_zero (fun b hb => la_sm_zero (fun a ha => ?_))
      have e1 : la_sk b a = a := by unfold la_sk; split <;> omega
      have e2 : la_sk a (b-1) = b := by unfold la_sk; split <;> omega
      have e3 : ∀ c, la_sk b (la_sk a c) = la_sk a (la_sk (b-1) c) := by intro c; unfold la_sk; (repeat' split) <;> omega
      have e4 : la_sg b = - la_sg (b-1) := by rw [← la_sg_succ]; congr 1; omega
      simp only [e1, e2, e3, e4]
      generalize la_det m _ = D
      grind
theorem la_det_col_adj_swap {n : Nat} (M : Nat → Nat → Int) (k : Nat) (hk : k + 1 < n) (r s : Nat → Int) : la_det n (la_rc (la_rc M k r) (k+1) s) = - la_det n (la_rc (la_rc M k s) (k+1) r) := by
  have h0 : la_det n (la_rc (la_rc M k (fun b => r b + s b)) (k+1) (fun b => r b + s b)) = 0 :=
    la_det_col_adj _ k hk (fun b _ => by simp [la_rc])
  have hr : la_det n (la_rc (la_rc M k r) (k+1) r) = 0 := la_det_col_adj _ k hk (fun b _ => by simp [la_rc])
  have hs : la_det n (la_rc (la_rc M k s) (k+1) s) = 0 := la_det_col_adj _ k hk (fun b _ => by simp [la_rc])
  rw [la_det_col_add _ _ hk, la_rc_comm _ (show k ≠ k+1 by omega), la_rc_comm _ (show k ≠ k+1 by omega), la_det_col_add _ _ (by omega), la_det_col_add _ _ (by omega)] at h0
  rw [la_rc_comm _ (show k+1 ≠ k by omega), la_rc_comm _ (show k+1 ≠ k by omega), la_rc_comm _ (show k+1 ≠ k by omega), la_rc_comm _ (show k+1 ≠ k by omega), hr, hs] at h0
  omega
theorem la_det_col_alt {n : Nat} : ∀ (d : Nat) (M : Nat → Nat → Int) (k : Nat), k + 1 + d < n → (∀ b, b < n → M b k = M b (k + 1 + d)) → la_det n M = 0 := by
  intro d
  induction d with
  | zero => intro M k hk h; exact la_det_col_adj M k hk h
  | succ d ih =>
    intro M k hk h
    have e : M = la_rc (la_rc M (k+1+d) (fun a => M a (k+1+d))) (k+1+d+1) (fun a => M a (k+1+d+1)) := by
      rw [la_rc_self, la_rc_self]
    rw [e, la_det_col_adj_swap _ _ (by omega)]
    rw [ih _ k (by omega) (fun b hb => ?_)]
    · rfl
    · simp only [la_rc]
      rw [if_neg (by omega), if_neg (by omega), if_neg (by omega), if_pos trivial]
      exact h b hb
theorem la_det_eq_cols {n : Nat} (M : Nat → Nat → Int) (k l : Nat) (hk : k < n) (hl : l < n) (hkl : k ≠ l) (h : ∀ b, b < n → M b k = M b l) : la_det n M = 0 := by
  rcases Nat.lt_or_gt_of_ne hkl with h1 | h1
  · obtain ⟨d, rfl⟩ := Nat.exists_eq_add_of_lt h1
    exact la_det_col_alt d M k (by omega) (fun b hb => by rw [h b hb]; congr 1; omega)
  · obtain ⟨d, rfl⟩ := Nat.exists_eq_add_of_lt h1
    exact la_det_col_alt d M l (by omega) (fun b hb => by rw [← h b hb]; congr 1; omega)
theorem la_det_col_swap {n : Nat} (M : Nat → Nat → Int) (k l : Nat) (hk : k < n) (hl : l < n) (hkl : k ≠ l) : la_det n (la_rc (la_rc M k (fun a => M a l)) l (fun a => M a k)) = - la_det n M := by
  have h0 : la_det n (la_rc (la_rc M k (fun b => M b k + M b l)) l (fun b => M b k + M b l)) = 0 :=
    la_det_eq_cols _ k l hk hl hkl (fun b _ => by simp [la_rc, hkl])
  have hr : la_det n (la_rc (la_rc M k (fun b => M b k)) l (fun b => M b k)) = 0 := la_det_eq_cols _ k l hk hl hkl (fun b _ => by simp [la_rc, hkl])
  have hs : la_det n (la_rc (la_rc M k (fun b => M b l)) l (fun b => M b l)) = 0 := la_det_eq_cols _ k l hk hl hkl (fun b _ => by simp [la_rc, hkl])
  rw [la_det_col_add _ _ hl, la_rc_comm _ hkl, la_rc_comm _ hkl, la_det_col_add _ _ hk, la_det_col_add _ _ hk] at h0
  rw [la_rc_comm _ (Ne.symm hkl), la_rc_comm _ (Ne.symm hkl), la_rc_comm _ (Ne.symm hkl), la_rc_comm _ (Ne.symm hkl), hr, hs, la_rc_self, la_rc_self] at h0
  omega
theorem la_det_last_row {n : Nat} : ∀ (M : Nat → Nat → Int), (∀ b, b < n → M n b = 0) → la_det (n+1) M = M n n * la_det n M := by
  induction n with
  | zero => intro M _; simp [la_det, la_sm, la_sg]
  | succ n ih =>
    intro M h
    rw [la_det_succ (n+1)]
    rw [show la_sm (n+1+1) (fun i => la_sg i * M i 0 * la_det (n+1) (fun a b => M (la_sk i a) (b+1))) = la_sm (n+1) (fun i => la_sg i * M i 0 * la_det (n+1) (fun a b => M (la_sk i a) (b+1))) + la_sg (n+1) * M (n+1) 0 * la_det (n+1) (fun a b => M (la_sk (n+1) a) (b+1)) from rfl]
    rw [h 0 (by omega)]
    simp only [Int.mul_zero, Int.zero_mul, Int.add_zero]
    rw [la_det_succ n M, ← la_sm_mul]
    refine la_sm_congr (fun i hi => ?_)
    have e : la_sk i n = n + 1 := by unfold la_sk; split <;> omega
    rw [ih _ (fun b hb => by rw [e]; exact h _ (by omega))]
    rw [e]
    generalize la_det n _ = D
    grind
theorem la_det_last_col {n : Nat} : ∀ (M : Nat → Nat → Int), (∀ a, a < n → M a n = 0) → la_det (n+1) M = M n n * la_det n M := by
  induction n with
  | zero => intro M _; simp [la_det, la_sm, la_sg]
  | succ n ih =>
    intro M h
    rw [la_det_succ (n+1)]
    rw [show la_sm (n+1+1) (fun i => la_sg i * M i 0 * la_det (n+1) (fun a b => M (la_sk i a) (b+1))) = la_sm (n+1) (fun i => la_sg i * M i 0 * la_det (n+1) (fun a b => M (la_sk i a) (b+1))) + la_sg (n+1) * M (n+1) 0 * la_det (n+1) (fun a b => M (la_sk (n+1) a) (b+1)) from rfl]
    have z : la_det (n+1) (fun a b => M (la_sk (n+1) a) (b+1)) = 0 := by
      refine la_det_col_zero _ n (by omega) (fun a ha => ?_)
      have e : la_sk (n+1) a = a := by unfold la_sk; split <;> omega
      rw [e]; exact h _ (by omega)
    rw [z]
    simp only [Int.mul_zero, Int.add_zero]
    rw [la_det_succ n M, ← la_sm_mul]
    refine la_sm_congr (fun i hi => ?_)
    have e : la_sk i n = n + 1 := by unfold la_sk; split <;> omega
    rw [ih _ (fun a ha => by exact h _ (la_sk_lt hi (by omega)))]
    rw [e]
    generalize la_det n _ = D
    grind
def la_ee (j b : Nat) : Int := if b = j then 1 else 0
theorem la_ee_self (j : Nat) : la_ee j j = 1 := by simp [la_ee]
theorem la_ee_ne {j b : Nat} (h : b ≠ j) : la_ee j b = 0 := by simp [la_ee, h]
theorem la_det_one (n : Nat) : la_det n (fun a b => la_ee a b) = 1 := by
  induction n with
  | zero => rfl
  | succ n ih => rw [la_det_last_row _ (fun b hb => la_ee_ne (by omega)), ih, la_ee_self]; rfl
theorem la_sm_ee {n : Nat} (x : Nat → Int) (b : Nat) (hb : b < n) : la_sm n (fun j => x j * la_ee j b) = x b := by
  rw [la_sm_single b hb (fun i _ hne => by rw [la_ee_ne (Ne.symm hne)]; simp), la_ee_self]; simp
theorem la_sm_ee' {n : Nat} (x : Nat → Int) (b : Nat) (hb : b < n) : la_sm n (fun j => x j * la_ee b j) = x b := by
  rw [la_sm_single b hb (fun i _ hne => by rw [la_ee_ne hne]; simp), la_ee_self]; simp
theorem la_det_row_sum {n : Nat} (M : Nat → Nat → Int) (i : Nat) (hi : i < n) (m : Nat) (x : Nat → Int) (r : Nat → Nat → Int) :
    la_det n (la_rr M i (fun b => la_sm m (fun j => x j * r j b))) = la_sm m (fun j => x j * la_det n (la_rr M i (r j))) := by
  induction m with
  | zero => exact la_det_row_zero _ i hi (fun b _ => by simp [la_rr, la_sm])
  | succ m ih =>
    simp only [la_sm]
    have := la_det_row_lin M i hi 1 (x m) (fun b => la_sm m (fun j => x j * r j b)) (r m)
    simp only [Int.one_mul] at this
    rw [this, ih]
def la_adj (n : Nat) (M : Nat → Nat → Int) (j i : Nat) : Int := la_det n (la_rr M i (la_ee j))
theorem la_adj_right {n : Nat} (M : Nat → Nat → Int) (k i : Nat) (hi : i < n) (hk : k < n) : la_sm n (fun j => M k j * la_adj n M j i) = if k = i then la_det n M else 0 := by
  unfold la_adj
  rw [← la_det_row_sum M i hi n (M k) (fun j => la_ee j)]
  have e : la_det n (la_rr M i (fun b => la_sm n (fun j => M k j * la_ee j b))) = la_det n (la_rr M i (M k)) := by
    refine la_det_congr (fun a b _ hb => ?_)
    unfold la_rr; split
    · exact la_sm_ee (M k) b hb
    · rfl
  rw [e]
  by_cases h : k = i
  · subst h; rw [la_rr_self, if_pos rfl]
  · rw [if_neg h]
    exact la_det_eq_rows _ i k hi hk (Ne.symm h) (fun b _ => by simp [la_rr, h])
theorem la_sm_dvd {n : Nat} {f g : Nat → Int} {p : Int} (h : ∀ i, i < n → p ∣ f i - g i) : p ∣ la_sm n f - la_sm n g := by
  rw [← la_sm_sub]
  induction n with
  | zero => exact ⟨0, by simp [la_sm]⟩
  | succ n ih => simp only [la_sm]; exact Int.dvd_add (ih (fun i hi => h i (by omega))) (h n (by omega))
theorem la_mul_dvd_sub {a b c d p : Int} (h1 : p ∣ a - b) (h2 : p ∣ c - d) : p ∣ a * c - b * d := by
  obtain ⟨x, hx⟩ := h1
  obtain ⟨y, hy⟩ := h2
  exact ⟨x * c + b * y, by grind⟩
def la_pv (n : Nat) (c : Nat → Int) (u : Int) : Int := la_sm (n+1) (fun k => c k * u ^ k)
def la_up (c : Nat → Int) : Nat → Int
  | 0 => 0
  | k+1 => c k
theorem la_pv_head (n : Nat) (c : Nat → Int) (u : Int) : la_pv (n+1) c u = c 0 + u * la_pv n (fun k => c (k+1)) u := by
  unfold la_pv
  rw [la_sm_succ', ← la_sm_mul]
  congr 1
  · simp
  · exact la_sm_congr (fun i _ => by rw [Int.pow_succ]; grind)
theorem la_pv_up (n : Nat) (c : Nat → Int) (u : Int) : la_pv (n+1) (la_up c) u = u * la_pv n c u := by
  rw [la_pv_head]; show 0 + u * la_pv n c u = _; omega
theorem la_pv_more {n m : Nat} (c : Nat → Int) (u : Int) (h : n ≤ m) (hz : ∀ k, n < k → c k = 0) : la_pv m c u = la_pv n c u := by
  unfold la_pv
  exact la_sm_ext (by omega) (fun i hi _ => by rw [hz i (by omega)]; simp)
theorem la_pv_add (n : Nat) (c d : Nat → Int) (u : Int) : la_pv n (fun k => c k + d k) u = la_pv n c u + la_pv n d u := by
  unfold la_pv; rw [← la_sm_add]; exact la_sm_congr (fun i _ => by grind)
theorem la_pv_sub (n : Nat) (c d : Nat → Int) (u : Int) : la_pv n (fun k => c k - d k) u = la_pv n c u - la_pv n d u := by
  unfold la_pv; rw [← la_sm_sub]; exact la_sm_congr (fun i _ => by grind)
theorem la_pv_mul (n : Nat) (x : Int) (c : Nat → Int) (u : Int) : la_pv n (fun k => x * c k) u = x * la_pv n c u := by
  unfold la_pv; rw [← la_sm_mul]; exact la_sm_congr (fun i _ => by grind)
theorem la_pv_sm (n m : Nat) (x : Nat → Int) (c : Nat → Nat → Int) (u : Int) : la_pv n (fun k => la_sm m (fun i => x i * c i k)) u = la_sm m (fun i => x i * la_pv n (c i) u) := by
  induction m with
  | zero => simp only [la_sm]; unfold la_pv; exact la_sm_zero (fun _ _ => by simp)
  | succ m ih => simp only [la_sm]; rw [la_pv_add, ih, la_pv_mul]
theorem la_pv_zero {n : Nat} : ∀ {c : Nat → Int}, (∀ u : Int, 1 ≤ u → la_pv n c u = 0) → ∀ k, k ≤ n → c k = 0 := by
  induction n with
  | zero =>
    intro c h k hk
    obtain rfl : k = 0 := by omega
    have := h 1 (by omega); simpa [la_pv, la_sm] using this
  | succ n ih =>
    intro c h k hk
    have h0 : c 0 = 0 := by
      have h1 := h ((c 0).natAbs + 1) (by omega)
      rw [la_pv_head] at h1
      have hd : ((c 0).natAbs + 1 : Int) ∣ c 0 := ⟨- la_pv n (fun k => c (k+1)) ((c 0).natAbs + 1), by rw [Int.mul_neg]; omega⟩
      by_cases hc : c 0 = 0
      · exact hc
      · exfalso
        have := Int.natAbs_dvd_natAbs.mpr hd
        have := Nat.le_of_dvd (by omega) this
        omega
    cases k with
    | zero => exact h0
    | succ k =>
      refine ih (c := fun k => c (k+1)) (fun u hu => ?_) k (by omega)
      have := h u hu
      rw [la_pv_head, h0, Int.zero_add] at this
      rcases Int.mul_eq_zero.mp this with h' | h'
      · omega
      · exact h'
theorem la_pv_inj {n : Nat} {c d : Nat → Int} (h : ∀ u : Int, 1 ≤ u → la_pv n c u = la_pv n d u) (k : Nat) (hk : k ≤ n) : c k = d k := by
  have := la_pv_zero (c := fun k => c k - d k) (n := n) (fun u hu => by rw [la_pv_sub, h u hu]; omega) k hk
  omega
def la_dc : Nat → (Nat → Nat → Int) → (Nat → Nat → Int) → Nat → Int
  | 0, _, _ => fun k => if k = 0 then 1 else 0
  | n+1, P, Q => fun k => la_sm (n+1) (fun i => la_sg i * (P i 0 * la_dc n (fun a b => P (la_sk i a) (b+1)) (fun a b => Q (la_sk i a) (b+1)) k + Q i 0 * la_up (la_dc n (fun a b => P (la_sk i a) (b+1)) (fun a b => Q (la_sk i a) (b+1))) k))
theorem la_dc_succ (n : Nat) (P Q : Nat → Nat → Int) (k : Nat) : la_dc (n+1) P Q k = la_sm (n+1) (fun i => la_sg i * (P i 0 * la_dc n (fun a b => P (la_sk i a) (b+1)) (fun a b => Q (la_sk i a) (b+1)) k + Q i 0 * la_up (la_dc n (fun a b => P (la_sk i a) (b+1)) (fun a b => Q (la_sk i a) (b+1))) k)) := rfl
theorem la_dc_top {n : Nat} : ∀ (P Q : Nat → Nat → Int) (k : Nat), n < k → la_dc n P Q k = 0 := by
  induction n with
  | zero => intro P Q k hk; simp [la_dc]; omega
  | succ n ih =>
    intro P Q k hk
    rw [la_dc_succ]
    refine la_sm_zero (fun i hi => ?_)
    rw [ih _ _ k (by omega)]
    obtain ⟨l, rfl⟩ : ∃ l, k = l + 1 := ⟨k - 1, by omega⟩
    show la_sg i * (P i 0 * 0 + Q i 0 * la_dc n _ _ l) = 0
    rw [ih _ _ l (by omega)]; simp
theorem la_det_pv {n : Nat} : ∀ (P Q : Nat → Nat → Int) (u : Int), la_det n (fun a b => P a b + u * Q a b) = la_pv n (la_dc n P Q) u := by
  induction n with
  | zero => intro P Q u; simp [la_det, la_pv, la_sm, la_dc]
  | succ n ih =>
    intro P Q u
    rw [la_det_succ]
    have e : la_pv (n+1) (la_dc (n+1) P Q) u = la_sm (n+1) (fun i => la_sg i * la_pv (n+1) (fun k => P i 0 * la_dc n (fun a b => P (la_sk i a) (b+1)) (fun a b => Q (la_sk i a) (b+1)) k + Q i 0 * la_up (la_dc n (fun a b => P (la_sk i a) (b+1)) (fun a b => Q (la_sk i a) (b+1))) k) u) := by
      rw [← la_pv_sm]; rfl
    rw [e]
    refine la_sm_congr (fun i hi => ?_)
    rw [ih, la_pv_add, la_pv_mul, la_pv_mul, la_pv_up, la_pv_more _ _ (Nat.le_succ n) (fun k hk => la_dc_top _ _ k hk)]
    grind
def la_pr : Nat → (Nat → Int) → Int
  | 0, _ => 1
  | n+1, f => la_pr n f * f n
theorem la_pr_congr {n : Nat} {f g : Nat → Int} (h : ∀ i, i < n → f i = g i) : la_pr n f = la_pr n g := by
  induction n with
  | zero => rfl
  | succ n ih => simp only [la_pr]; rw [ih (fun i hi => h i (by omega)), h n (by omega)]
theorem la_pr_nonneg {n : Nat} {f : Nat → Int} (h : ∀ i, i < n → 0 ≤ f i) : 0 ≤ la_pr n f := by
  induction n with
  | zero => simp [la_pr]
  | succ n ih => simp only [la_pr]; exact Int.mul_nonneg (ih (fun i hi => h i (by omega))) (h n (by omega))
theorem la_pr_le {n : Nat} {f g : Nat → Int} (h0 : ∀ i, i < n → 0 ≤ f i) (h : ∀ i, i < n → f i ≤ g i) : la_pr n f ≤ la_pr n g := by
  induction n with
  | zero => simp [la_pr]
  | succ n ih =>
    simp only [la_pr]
    exact Int.mul_le_mul (ih (fun i hi => h0 i (by omega)) (fun i hi => h i (by omega))) (h n (by omega)) (h0 n (by omega)) (la_pr_nonneg (fun i hi => Int.le_trans (h0 i (by omega)) (h i (by omega))))
theorem la_sm_le {n : Nat} {f g : Nat → Int} (h : ∀ i, i < n → f i ≤ g i) : la_sm n f ≤ la_sm n g := by
  induction n with
  | zero => simp [la_sm]
  | succ n ih => simp only [la_sm]; have := ih (fun i hi => h i (by omega)); have := h n (by omega); omega
theorem la_sm_nonneg {n : Nat} {f : Nat → Int} (h : ∀ i, i < n → 0 ≤ f i) : 0 ≤ la_sm n f := by
  have := la_sm_le (f := fun _ => 0) h
  rwa [la_sm_zero (fun _ _ => rfl)] at this
theorem la_sum_prod_le {n : Nat} (w R : Nat → Int) (hw : ∀ i, i < n → 0 ≤ w i) (hR : ∀ i, i < n → 0 ≤ R i) :
    la_sm n (fun i => w i * la_pr (n-1) (fun a => R (la_sk i a))) ≤ la_pr n (fun a => w a + R a) := by
  induction n with
  | zero => simp [la_sm, la_pr]
  | succ n ih =>
    have ih := ih (fun i hi => hw i (by omega)) (fun i hi => hR i (by omega))
    show la_sm n (fun i => w i * la_pr (n+1-1) (fun a => R (la_sk i a))) + w n * la_pr (n+1-1) (fun a => R (la_sk n a)) ≤ la_pr n (fun a => w a + R a) * (w n + R n)
    have e1 : la_sm n (fun i => w i * la_pr (n+1-1) (fun a => R (la_sk i a))) = R n * la_sm n (fun i => w i * la_pr (n-1) (fun a => R (la_sk i a))) := by
      rw [← la_sm_mul]
      refine la_sm_congr (fun i hi => ?_)
      obtain ⟨m, rfl⟩ : ∃ m, n = m + 1 := ⟨n - 1, by omega⟩
      show w i * (la_pr m _ * R (la_sk i m)) = _
      have : la_sk i m = m + 1 := by unfold la_sk; split <;> omega
      rw [this]
      show _ = R (m+1) * (w i * la_pr m _)
      grind
    have e2 : la_pr (n+1-1) (fun a => R (la_sk n a)) = la_pr n R := la_pr_congr (fun a ha => by
      have : la_sk n a = a := by unfold la_sk; split <;> omega
      rw [this])
    rw [e1, e2]
    have h1 : R n * la_sm n (fun i => w i * la_pr (n-1) (fun a => R (la_sk i a))) ≤ R n * la_pr n (fun a => w a + R a) := Int.mul_le_mul_of_nonneg_left ih (hR n (by omega))
    have h2 : w n * la_pr n R ≤ w n * la_pr n (fun a => w a + R a) := Int.mul_le_mul_of_nonneg_left (la_pr_le (fun i hi => hR i (by omega)) (fun i hi => by have := hw i (by omega); omega)) (hw n (by omega))
    have h3 : la_pr n (fun a => w a + R a) * (w n + R n) = w n * la_pr n (fun a => w a + R a) + R n * la_pr n (fun a => w a + R a) := by grind
    omega
def la_ab (x : Int) : Int := (x.natAbs : Int)
theorem la_ab_nonneg (x : Int) : 0 ≤ la_ab x := by unfold la_ab; omega
theorem la_ab_mul (x y : Int) : la_ab (x * y) = la_ab x * la_ab y := by unfold la_ab; rw [Int.natAbs_mul]; simp
theorem la_ab_add (x y : Int) : la_ab (x + y) ≤ la_ab x + la_ab y := by unfold la_ab; omega
theorem la_ab_sg (i : Nat) : la_ab (la_sg i) = 1 := by unfold la_sg; split <;> rfl
theorem la_ab_zero : la_ab 0 = 0 := rfl
theorem la_ab_sm (n : Nat) (f : Nat → Int) : la_ab (la_sm n f) ≤ la_sm n (fun i => la_ab (f i)) := by
  induction n with
  | zero => simp [la_sm, la_ab]
  | succ n ih => simp only [la_sm]; have := la_ab_add (la_sm n f) (f n); omega
theorem la_dc_bound {n : Nat} : ∀ (P Q : Nat → Nat → Int), la_sm (n+1) (fun k => la_ab (la_dc n P Q k)) ≤ la_pr n (fun a => la_sm n (fun b => la_ab (P a b) + la_ab (Q a b))) := by
  induction n with
  | zero => intro P Q; simp [la_sm, la_pr, la_dc, la_ab]
  | succ n ih =>
    intro P Q
    have key : ∀ i, i < n + 1 → la_sm (n+1+1) (fun k => la_ab (la_sg i * (P i 0 * la_dc n (fun a b => P (la_sk i a) (b+1)) (fun a b => Q (la_sk i a) (b+1)) k + Q i 0 * la_up (la_dc n (fun a b => P (la_sk i a) (b+1)) (fun a b => Q (la_sk i a) (b+1))) k))) ≤ (la_ab (P i 0) + la_ab (Q i 0)) * la_pr n (fun a => la_sm n (fun b => la_ab (P (la_sk i a) (b+1)) + la_ab (Q (la_sk i a) (b+1)))) := by
      intro i hi
      have hih := ih (fun a b => P (la_sk i a) (b+1)) (fun a b => Q (la_sk i a) (b+1))
      have htop := la_dc_top (n := n) (fun a b => P (la_sk i a) (b+1)) (fun a b => Q (la_sk i a) (b+1))
      generalize la_dc n (fun a b => P (la_sk i a) (b+1)) (fun a b => Q (la_sk i a) (b+1)) = d at hih htop ⊢
      have h1 : la_sm (n+1+1) (fun k => la_ab (d k)) = la_sm (n+1) (fun k => la_ab (d k)) := la_sm_ext (by omega) (fun k hk _ => by rw [htop k (by omega)]; rfl)
      have h2 : la_sm (n+1+1) (fun k => la_ab (la_up d k)) = la_sm (n+1) (fun k => la_ab (d k)) := by
        rw [la_sm_succ']; simp [la_up, la_ab_zero]
      have h3 : la_sm (n+1+1) (fun k => la_ab (la_sg i * (P i 0 * d k + Q i 0 * la_up d k))) ≤ la_sm (n+1+1) (fun k => la_ab (P i 0) * la_ab (d k) + la_ab (Q i 0) * la_ab (la_up d k)) := by
        refine la_sm_le (fun k _ => ?_)
        rw [la_ab_mul, la_ab_sg, Int.one_mul, ← la_ab_mul, ← la_ab_mul]
        exact la_ab_add _ _
      rw [la_sm_add, la_sm_mul, la_sm_mul, h1, h2] at h3
      have h4 := Int.mul_le_mul_of_nonneg_left hih (la_ab_nonneg (P i 0))
      have h5 := Int.mul_le_mul_of_nonneg_left hih (la_ab_nonneg (Q i 0))
      have h6 := Int.add_mul (la_ab (P i 0)) (la_ab (Q i 0)) (la_pr n (fun a => la_sm n (fun b => la_ab (P (la_sk i a) (b+1)) + la_ab (Q (la_sk i a) (b+1)))))
      omega
    have h1 : la_sm (n+1+1) (fun k => la_ab (la_dc (n+1) P Q k)) ≤ la_sm (n+1+1) (fun k => la_sm (n+1) (fun i => la_ab (la_sg i * (P i 0 * la_dc n (fun a b => P (la_sk i a) (b+1)) (fun a b => Q (la_sk i a) (b+1)) k + Q i 0 * la_up (la_dc n (fun a b => P (la_sk i a) (b+1)) (fun a b => Q (la_sk i a) (b+1))) k)))) :=
      la_sm_le (fun k _ => la_ab_sm _ _)
    rw [la_sm_swap] at h1
    refine Int.le_trans h1 (Int.le_trans (la_sm_le key) ?_)
    have h2 := la_sum_prod_le (n := n+1) (fun i => la_ab (P i 0) + la_ab (Q i 0)) (fun a => la_sm n (fun b => la_ab (P a (b+1)) + la_ab (Q a (b+1)))) (fun i _ => by have := la_ab_nonneg (P i 0); have := la_ab_nonneg (Q i 0); omega) (fun i _ => la_sm_nonneg (fun b _ => by have := la_ab_nonneg (P i (b+1)); have := la_ab_nonneg (Q i (b+1)); omega))
    refine Int.le_trans h2 (Int.le_of_eq (la_pr_congr (fun a _ => ?_)))
    rw [la_sm_succ']
theorem la_ab_le_sm {n : Nat} (f : Nat → Int) (k : Nat) (hk : k < n) : la_ab (f k) ≤ la_sm n (fun i => la_ab (f i)) := by
  have h := la_sm_le (n := n) (f := fun i => if i = k then la_ab (f k) else 0) (g := fun i => la_ab (f i)) (fun i _ => by
    by_cases e : i = k
    · simp [e]
    · simp [e, la_ab_nonneg])
  rw [la_sm_single k hk (fun i _ hne => by simp [hne])] at h
  simpa using h
theorem la_sm_sk (n i : Nat) (hi : i < n + 1) (f : Nat → Int) : la_sm (n+1) f = f i + la_sm n (fun t => f (la_sk i t)) := by
  induction n with
  | zero => obtain rfl : i = 0 := by omega
            simp [la_sm]
  | succ n ih =>
    by_cases h : i = n + 1
    · subst h
      have : la_sm (n+1) (fun t => f (la_sk (n+1) t)) = la_sm (n+1) f := la_sm_congr (fun t ht => by
        have : la_sk (n+1) t = t := by unfold la_sk; split <;> omega
        rw [this])
      rw [this]; show la_sm (n+1) f + f (n+1) = _; omega
    · show la_sm (n+1) f + f (n+1) = f i + (la_sm n (fun t => f (la_sk i t)) + f (la_sk i n))
      rw [ih (by omega)]
      have : la_sk i n = n + 1 := by unfold la_sk; split <;> omega
      rw [this]; omega
theorem la_un_sk (i t : Nat) : la_un i (la_sk i t) = t := by
  unfold la_un la_sk; by_cases h1 : t < i
  · simp [h1]
  · rw [if_neg h1, if_neg (by omega)]; omega
def la_z0 : Nat → Int := fun _ => 0
theorem la_dc_deriv {n : Nat} : ∀ (P Q : Nat → Nat → Int) (k : Nat), (k : Int) * la_dc n P Q k = la_sm n (fun t => la_dc n (la_rr P t la_z0) Q k) := by
  induction n with
  | zero => intro P Q k; simp only [la_dc, la_sm]; split <;> simp_all
  | succ n ih =>
    intro P Q k
    have e : la_sm (n+1) (fun t => la_dc (n+1) (la_rr P t la_z0) Q k) = la_sm (n+1) (fun i => la_sm (n+1) (fun t => la_sg i * ((la_rr P t la_z0) i 0 * la_dc n (fun a b => (la_rr P t la_z0) (la_sk i a) (b+1)) (fun a b => Q (la_sk i a) (b+1)) k + Q i 0 * la_up (la_dc n (fun a b => (la_rr P t la_z0) (la_sk i a) (b+1)) (fun a b => Q (la_sk i a) (b+1))) k))) := by
      rw [la_sm_swap]; exact la_sm_congr (fun t _ => by rw [la_dc_succ])
    rw [e, la_dc_succ, ← la_sm_mul]
    refine la_sm_congr (fun i hi => ?_)
    rw [la_sm_sk n i hi]
    have e1 : (la_rr P i la_z0) i 0 = 0 := by simp [la_rr, la_z0]
    rw [e1, la_minor_rr_self]
    have e2 : la_sm n (fun t => la_sg i * ((la_rr P (la_sk i t) la_z0) i 0 * la_dc n (fun a b => (la_rr P (la_sk i t) la_z0) (la_sk i a) (b+1)) (fun a b => Q (la_sk i a) (b+1)) k + Q i 0 * la_up (la_dc n (fun a b => (la_rr P (la_sk i t) la_z0) (la_sk i a) (b+1)) (fun a b => Q (la_sk i a) (b+1))) k)) = la_sm n (fun t => la_sg i * (P i 0 * la_dc n (la_rr (fun a b => P (la_sk i a) (b+1)) t la_z0) (fun a b => Q (la_sk i a) (b+1)) k + Q i 0 * la_up (la_dc n (la_rr (fun a b => P (la_sk i a) (b+1)) t la_z0) (fun a b => Q (la_sk i a) (b+1))) k)) := by
      refine la_sm_congr (fun t ht => ?_)
      rw [la_minor_rr (la_sk_ne i t)]
      rw [la_un_sk]
      have : la_rr P (la_sk i t) la_z0 i 0 = P i 0 := by unfold la_rr; rw [if_neg (Ne.symm (la_sk_ne i t))]
      rw [this]
      rfl
    rw [e2, la_sm_mul, la_sm_add, la_sm_mul, la_sm_mul, ← ih]
    generalize (fun a b => P (la_sk i a) (b+1)) = P' at *
    generalize (fun a b => Q (la_sk i a) (b+1)) = Q' at *
    cases k with
    | zero =>
      have : la_sm n (fun t => la_up (la_dc n (la_rr P' t la_z0) Q') 0) = 0 := la_sm_zero (fun _ _ => rfl)
      rw [this]
      simp [la_up]
    | succ k =>
      have : la_sm n (fun t => la_up (la_dc n (la_rr P' t la_z0) Q') (k+1)) = (k : Int) * la_dc n P' Q' k := by
        rw [ih]; rfl
      rw [this]
      show _ = la_sg i * (0 * _ + Q i 0 * la_dc n P' Q' k) + _
      show ((k+1 : Nat) : Int) * (la_sg i * (P i 0 * la_dc n P' Q' (k+1) + Q i 0 * la_dc n P' Q' k)) = _
      push_cast
      grind
def la_bc (n : Nat) (P Q : Nat → Nat → Int) (j i k : Nat) : Int := la_dc n (la_rr P i (la_ee j)) (la_rr Q i la_z0) k
theorem la_adj_pv (n : Nat) (P Q : Nat → Nat → Int) (u : Int) (j i : Nat) : la_adj n (fun a b => P a b + u * Q a b) j i = la_pv n (la_bc n P Q j i) u := by
  unfold la_adj la_bc
  show _ = la_pv n (la_dc n (la_rr P i (la_ee j)) (la_rr Q i la_z0)) u
  rw [← la_det_pv]
  refine la_det_congr (fun a b _ _ => ?_)
  unfold la_rr la_z0; split <;> simp
theorem la_dc_trace (n : Nat) (P Q : Nat → Nat → Int) (k : Nat) (hk : k ≤ n) : ((k+1 : Nat) : Int) * la_dc n P Q (k+1) = la_sm n (fun i => la_sm n (fun j => Q i j * la_bc n P Q j i k)) := by
  rw [la_dc_deriv]
  refine la_sm_congr (fun i hi => ?_)
  have h : ∀ u : Int, la_pv (n+1) (la_dc n (la_rr P i la_z0) Q) u = la_pv (n+1) (la_up (fun k => la_sm n (fun j => Q i j * la_bc n P Q j i k))) u := by
    intro u
    rw [la_pv_up, la_pv_more _ _ (Nat.le_succ n) (fun k hk => la_dc_top _ _ k hk), ← la_det_pv, la_pv_sm]
    have e1 : la_det n (fun a b => la_rr P i la_z0 a b + u * Q a b) = la_det n (la_rr (fun a b => P a b + u * Q a b) i (fun b => u * Q i b)) := by
      refine la_det_congr (fun a b _ _ => ?_)
      unfold la_rr la_z0; split
      · case _ h => simp [h]
      · rfl
    rw [e1, la_det_row_smul _ _ hi]
    congr 1
    have e2 : la_det n (la_rr (fun a b => P a b + u * Q a b) i (Q i)) = la_det n (la_rr (fun a b => P a b + u * Q a b) i (fun b => la_sm n (fun j => Q i j * la_ee j b))) := by
      refine la_det_congr (fun a b _ hb => ?_)
      unfold la_rr; split
      · exact (la_sm_ee (Q i) b hb).symm
      · rfl
    rw [e2, la_det_row_sum _ i hi]
    refine la_sm_congr (fun j _ => ?_)
    rw [← la_adj_pv]; rfl
  have := la_pv_inj (fun u _ => h u) (k+1) (by omega)
  rw [this]; rfl
theorem la_bc_step (n : Nat) (P Q : Nat → Nat → Int) (k i : Nat) (hk : k < n) (hi : i < n) (m : Nat) (hm : m ≤ n + 1) :
    la_sm n (fun j => P k j * la_bc n P Q j i m) + la_up (fun m => la_sm n (fun j => Q k j * la_bc n P Q j i m)) m = if k = i then la_dc n P Q m else 0 := by
  have h : ∀ u : Int, la_pv (n+1) (fun m => la_sm n (fun j => P k j * la_bc n P Q j i m) + la_up (fun m => la_sm n (fun j => Q k j * la_bc n P Q j i m)) m) u = la_pv (n+1) (fun m => if k = i then la_dc n P Q m else 0) u := by
    intro u
    rw [la_pv_add, la_pv_up, la_pv_sm, la_pv_sm, ← la_sm_mul, ← la_sm_add]
    have h1 := la_adj_right (fun a b => P a b + u * Q a b) k i hi hk
    have h2 : la_sm n (fun j => (P k j + u * Q k j) * la_adj n (fun a b => P a b + u * Q a b) j i) = la_sm n (fun j => P k j * la_pv (n+1) (la_bc n P Q j i) u + u * (Q k j * la_pv n (la_bc n P Q j i) u)) := by
      refine la_sm_congr (fun j _ => ?_)
      rw [la_adj_pv, la_pv_more (n := n) (m := n+1) (la_bc n P Q j i) u (Nat.le_succ n) (fun k hk => la_dc_top _ _ k hk)]
      grind
    rw [← h2, h1]
    by_cases e : k = i
    · simp only [if_pos e]
      rw [la_det_pv, la_pv_more (n := n) (m := n+1) _ _ (Nat.le_succ n) (fun k hk => la_dc_top _ _ k hk)]
    · simp only [if_neg e]
      unfold la_pv; rw [la_sm_zero (fun _ _ => by simp)]
  exact la_pv_inj (fun u _ => h u) m hm
def la_ng (A : Nat → Nat → Int) : Nat → Nat → Int := fun a b => - A a b
def la_cp (n : Nat) (A : Nat → Nat → Int) : Nat → Int := la_dc n (fun a b => la_ee a b) (la_ng A)
def la_flB (n : Nat) (A : Nat → Nat → Int) (c : Nat → Int) : Nat → Nat → Nat → Int
  | 0 => fun _ _ => 0
  | m+1 => fun k i => la_sm n (fun j => A k j * la_flB n A c m j i) + (if k = i then c m else 0)
theorem la_bc_fl (n : Nat) (A : Nat → Nat → Int) (m : Nat) : m ≤ n → ∀ k i, k < n → i < n → la_bc n (fun a b => la_ee a b) (la_ng A) k i m = la_flB n A (la_cp n A) (m+1) k i := by
  induction m with
  | zero =>
    intro _ k i hk hi
    have h := la_bc_step n (fun a b => la_ee a b) (la_ng A) k i hk hi 0 (by omega)
    have e : la_sm n (fun j => la_ee k j * la_bc n (fun a b => la_ee a b) (la_ng A) j i 0) = la_bc n (fun a b => la_ee a b) (la_ng A) k i 0 := by
      rw [← la_sm_ee' (fun j => la_bc n (fun a b => la_ee a b) (la_ng A) j i 0) k hk]; exact la_sm_congr (fun j _ => by grind)
    rw [e] at h
    simp only [la_flB, la_up] at h ⊢
    rw [la_sm_zero (fun _ _ => by simp)]
    unfold la_cp; omega
  | succ m ih =>
    intro hm k i hk hi
    have h := la_bc_step n (fun a b => la_ee a b) (la_ng A) k i hk hi (m+1) (by omega)
    have e : la_sm n (fun j => la_ee k j * la_bc n (fun a b => la_ee a b) (la_ng A) j i (m+1)) = la_bc n (fun a b => la_ee a b) (la_ng A) k i (m+1) := by
      rw [← la_sm_ee' (fun j => la_bc n (fun a b => la_ee a b) (la_ng A) j i (m+1)) k hk]; exact la_sm_congr (fun j _ => by grind)
    rw [e] at h
    have e2 : la_up (fun m => la_sm n (fun j => la_ng A k j * la_bc n (fun a b => la_ee a b) (la_ng A) j i m)) (m+1) = - la_sm n (fun j => A k j * la_flB n A (la_cp n A) (m+1) j i) := by
      show la_sm n (fun j => la_ng A k j * la_bc n (fun a b => la_ee a b) (la_ng A) j i m) = _
      rw [← la_sm_neg]
      refine la_sm_congr (fun j hj => ?_)
      rw [ih (by omega) j i hj hi]; unfold la_ng; grind
    rw [e2] at h
    show _ = la_sm n (fun j => A k j * la_flB n A (la_cp n A) (m+1) j i) + (if k = i then la_cp n A (m+1) else 0)
    unfold la_cp at *; omega
theorem la_cp_zero (n : Nat) (A : Nat → Nat → Int) : la_cp n A 0 = 1 := by
  have h := la_det_pv (n := n) (fun a b => la_ee a b) (la_ng A) 0
  have e : la_det n (fun a b => la_ee a b + 0 * la_ng A a b) = la_det n (fun a b => la_ee a b) := la_det_congr (fun a b _ _ => by simp)
  rw [e, la_det_one] at h
  unfold la_pv at h
  rw [la_sm_succ', la_sm_zero (fun i _ => by rw [Int.pow_succ]; simp)] at h
  unfold la_cp; simpa using h.symm
theorem la_cp_fl (n : Nat) (A : Nat → Nat → Int) (m : Nat) (hm : m < n) : ((m+1 : Nat) : Int) * la_cp n A (m+1) = - la_sm n (fun i => la_sm n (fun j => A i j * la_flB n A (la_cp n A) (m+1) j i)) := by
  have h := la_dc_trace n (fun a b => la_ee a b) (la_ng A) m (by omega)
  rw [show la_dc n (fun a b => la_ee a b) (la_ng A) (m+1) = la_cp n A (m+1) from rfl] at h
  rw [h, ← la_sm_neg]
  refine la_sm_congr (fun i hi => ?_)
  rw [← la_sm_neg]
  refine la_sm_congr (fun j hj => ?_)
  rw [la_bc_fl n A m (by omega) j i hj hi, show la_ng A i j = - A i j from rfl]; grind
def la_un1 (u : Int) (H : Nat → Nat → Int) : Nat → Nat → Int := fun a b => la_ee a b - u * H a b
theorem la_ee_iff (a b : Nat) : la_ee a b = if a = b then 1 else 0 := by unfold la_ee; by_cases h : a = b <;> simp [h, eq_comm]
def la_sw (i m a : Nat) : Nat := if a = i then m else if a = m then i else a
theorem la_det_similar_swap {n : Nat} (H : Nat → Nat → Int) (i m : Nat) (hi : i < n) (hm : m < n) (u : Int) :
    la_det n (la_un1 u (fun a b => H (la_sw i m a) (la_sw i m b))) = la_det n (la_un1 u H) := by
  by_cases him : i = m
  · subst him
    refine la_det_congr (fun a b _ _ => ?_)
    have : ∀ a, la_sw i i a = a := by intro a; unfold la_sw; split <;> simp_all
    simp only [la_un1, this]
  · have h1 := la_det_swap (la_un1 u H) i m hi hm him
    have h2 := la_det_col_swap (la_rr (la_rr (la_un1 u H) i (la_un1 u H m)) m (la_un1 u H i)) i m hi hm him
    have h3 : la_det n (la_un1 u (fun a b => H (la_sw i m a) (la_sw i m b))) = la_det n (la_rc (la_rc (la_rr (la_rr (la_un1 u H) i (la_un1 u H m)) m (la_un1 u H i)) i (fun a => la_rr (la_rr (la_un1 u H) i (la_un1 u H m)) m (la_un1 u H i) a m)) m (fun a => la_rr (la_rr (la_un1 u H) i (la_un1 u H m)) m (la_un1 u H i) a i)) := by
      refine la_det_congr (fun a b _ _ => ?_)
      have e : ∀ a b, la_rr (la_rr (la_un1 u H) i (la_un1 u H m)) m (la_un1 u H i) a b = la_un1 u H (la_sw i m a) b := by
        intro a b
        unfold la_rr la_sw
        by_cases g1 : a = m
        · subst g1; simp [Ne.symm him]
        · by_cases g2 : a = i
          · subst g2; rw [if_neg g1, if_pos rfl, if_pos rfl]
          · simp [g1, g2]
      have e2 : ∀ a b, la_un1 u H (la_sw i m a) (la_sw i m b) = la_un1 u (fun a b => H (la_sw i m a) (la_sw i m b)) a b := by
        intro a b
        unfold la_un1
        congr 1
        rw [la_ee_iff, la_ee_iff]
        have : la_sw i m a = la_sw i m b ↔ a = b := by
          unfold la_sw
          constructor
          · intro h
            by_cases h1 : a = i <;> by_cases h2 : a = m <;> by_cases h3 : b = i <;> by_cases h4 : b = m <;> simp_all
          · rintro rfl; rfl
        simp only [this]
      unfold la_rc
      simp only [e]
      rw [← e2]
      by_cases g1 : b = m
      · subst g1
        have : la_sw i b b = i := by unfold la_sw; rw [if_neg (Ne.symm him), if_pos rfl]
        rw [this, if_pos rfl]
      · by_cases g2 : b = i
        · subst g2
          have : la_sw b m b = m := by unfold la_sw; rw [if_pos rfl]
          rw [this, if_neg g1, if_pos rfl]
        · have : la_sw i m b = b := by unfold la_sw; rw [if_neg g2, if_neg g1]
          rw [this, if_neg g1, if_neg g2]
    omega
theorem la_det_rows_mix {n : Nat} (M : Nat → Nat → Int) (l : Nat → Nat) (x : Nat → Int) (h : ∀ a, a < n → x a ≠ 0 → l a < n ∧ l a ≠ a ∧ x (l a) = 0) :
    la_det n (fun a b => M a b + x a * M (l a) b) = la_det n M := by
  have key : ∀ m, m ≤ n → la_det n (fun a b => if a < m then M a b + x a * M (l a) b else M a b) = la_det n M := by
    intro m
    induction m with
    | zero => intro _; exact la_det_congr (fun a b _ _ => by simp)
    | succ m ih =>
      intro hm
      rw [← ih (by omega)]
      by_cases hx : x m = 0
      · refine la_det_congr (fun a b _ _ => ?_)
        by_cases h1 : a < m
        · rw [if_pos h1, if_pos (by omega)]
        · by_cases h2 : a = m
          · subst h2; simp [hx]
          · rw [if_neg h1, if_neg (by omega)]
      · obtain ⟨h1, h2, h3⟩ := h m (by omega) hx
        rw [← la_det_row_addmul (fun a b => if a < m then M a b + x a * M (l a) b else M a b) m (l m) (by omega) h1 (Ne.symm h2) (x m)]
        refine la_det_congr (fun a b _ _ => ?_)
        simp only [la_rr]
        by_cases h4 : a = m
        · subst h4
          by_cases h5 : l a < a
          · simp [h5, h3]
          · simp [h5]
        · by_cases h5 : a < m
          · rw [if_pos (by omega), if_neg h4, if_pos h5]
          · rw [if_neg (by omega), if_neg h4, if_neg h5]
  rw [← key n (Nat.le_refl n)]
  exact la_det_congr (fun a b ha _ => by rw [if_pos ha])
theorem tdiv2 (e : Nat) : Int.tdiv (e : Int) 2 = ((e / 2 : Nat) : Int) := rfl
theorem tmod2 (e : Nat) : Int.tmod (e : Int) 2 = ((e % 2 : Nat) : Int) := rfl
/-- Where the directed edge e begins, and where it ends. -/
def begAt (l : List (List Int)) (e : Nat) : Int := rd (rd_L1 l ((e / 2 : Nat) : Int)) ((e % 2 : Nat) : Int)
def endAt (l : List (List Int)) (e : Nat) : Int := rd (rd_L1 l ((e / 2 : Nat) : Int)) ((1 - e % 2 : Nat) : Int)
def two (l : List (List Int)) : Prop := ∀ x ∈ l, x.length = 2
theorem isG_two {a : Int} {l : List (List Int)} (h : isG a l = true) : two l := by
  intro x hx
  simp only [isG, Bool.and_eq_true, List.all_eq_true] at h
  have := h.2.2.2 x hx
  simp only [edgeIn, Bool.and_eq_true, decide_eq_true_eq] at this
  exact this.1
theorem isG_len {a : Int} {l : List (List Int)} (h : isG a l = true) : l.length ≤ 10 := by
  simp only [isG, Bool.and_eq_true, decide_eq_true_eq] at h
  exact h.2.2.1
theorem isG_size {a : Int} {l : List (List Int)} (h : isG a l = true) : 1 ≤ a ∧ a ≤ 8 := by
  simp only [isG, Bool.and_eq_true, decide_eq_true_eq] at h
  exact ⟨h.1, h.2.1⟩
theorem isG_edge {a : Int} {l : List (List Int)} (h : isG a l = true) {x : List Int} (hx : x ∈ l) : (0 ≤ rd x 0 ∧ rd x 0 ≤ a - 1) ∧ (0 ≤ rd x 1 ∧ rd x 1 ≤ a - 1) := by
  have hs := isG_size h
  simp only [isG, Bool.and_eq_true, List.all_eq_true] at h
  have := h.2.2.2 x hx
  simp only [edgeIn, endIn, Bool.and_eq_true, decide_eq_true_eq] at this
  rw [w64 (by omega) (by omega)] at this
  exact this.2
theorem two_at {l : List (List Int)} (h2 : two l) (e : Nat) (he : e < 2 * l.length) : (rd_L1 l ((e / 2 : Nat) : Int)).length = 2 := by
  have hi : e / 2 < l.length := by omega
  rw [rdL1_nat l (e / 2) hi]
  exact h2 _ (List.getElem_mem hi)
theorem ends_eq (a : Int) (l : List (List Int)) (hl : l.length ≤ 1048576) (h2 : two l) (e : Nat) (he : e < 2 * l.length) : impl_Graph_ends.f a l e = some (begAt l e, endAt l e) := by
  have hx := two_at h2 e he
  unfold impl_Graph_ends.f
  rw [tdiv2, tmod2, w64 (by omega) (by omega), if_pos (by omega), if_pos (by omega), hx]
  have hm : e % 2 < 2 := Nat.mod_lt _ (by omega)
  rw [w64 (by omega) (by omega), if_pos (by omega), if_pos (by omega), if_pos (by omega), if_pos (by omega)]
  unfold begAt endAt
  rw [show (1 : Int) - ((e % 2 : Nat) : Int) = ((1 - e % 2 : Nat) : Int) by omega]
/-- The other direction of e's edge. -/
def opp (e : Nat) : Nat := if e % 2 = 0 then e + 1 else e - 1
theorem xor1_all : ((List.range 20).all fun e : Nat => Go.bits .xor .i64 (e : Int) 1 == ((opp e : Nat) : Int)) = true := by kernel_rfl
theorem xor1 (e : Nat) (h : e < 20) : Go.bits .xor .i64 (e : Int) 1 = ((opp e : Nat) : Int) := by
  have := List.all_eq_true.1 xor1_all e (List.mem_range.2 h)
  exact eq_of_beq this
/-- May f come behind e. -/
def next (l : List (List Int)) (e f : Nat) : Bool := decide (endAt l e = begAt l f) && !decide (f = opp e)
def mrow (n : Nat) (g : Nat → Bool) (f : Nat) : List Int := (List.range n).map fun j => if (decide (j < f) && g j) = true then 1 else 0
theorem mrow_length (n : Nat) (g : Nat → Bool) (f : Nat) : (mrow n g f).length = n := by simp [mrow]
theorem mrow_zero (n : Nat) (g : Nat → Bool) : mrow n g 0 = List.replicate n 0 := by
  apply List.ext_getElem
  · simp [mrow]
  · intro i h1 h2; simp [mrow]
theorem mrow_hit (n : Nat) (g : Nat → Bool) (f : Nat) (hf : f < n) (h : g f = true) : (mrow n g f).set f 1 = mrow n g (f + 1) := by
  apply List.ext_getElem
  · simp [mrow]
  · intro i h1 h2
    simp only [mrow, List.length_map, List.length_range, List.length_set] at h1 h2
    rw [List.getElem_set]
    by_cases hi : f = i
    · subst hi; simp [mrow, h]
    · rw [if_neg hi]
      simp only [mrow, List.getElem_map, List.getElem_range]
      have : decide (i < f) = decide (i < f + 1) := by rw [Bool.eq_iff_iff]; simp; omega
      rw [this]
theorem mrow_miss (n : Nat) (g : Nat → Bool) (f : Nat) (h : g f = false) : mrow n g f = mrow n g (f + 1) := by
  apply List.ext_getElem
  · simp [mrow]
  · intro i h1 h2
    simp only [mrow, List.getElem_map, List.getElem_range]
    by_cases hi : i = f
    · subst hi; simp [h]
    · have : decide (i < f) = decide (i < f + 1) := by rw [Bool.eq_iff_iff]; simp; omega
      rw [this]
/-- The edge rows. -/
def edgeM (l : List (List Int)) : List (List Int) := (List.range (2 * l.length)).map fun e => mrow (2 * l.length) (next l e) (2 * l.length)
/-- The rows on the way: those above e are whole, that of e up to f. -/
def mpart (l : List (List Int)) (e f : Nat) : List (List Int) := (List.range (2 * l.length)).map fun i => mrow (2 * l.length) (next l i) (if i < e then 2 * l.length else if i = e then f else 0)
theorem mpart_length (l : List (List Int)) (e f : Nat) : (mpart l e f).length = 2 * l.length := by simp [mpart]
theorem mpart_row (l : List (List Int)) (e f : Nat) (he : e < 2 * l.length) : rd_L1 (mpart l e f) (e : Int) = mrow (2 * l.length) (next l e) f := by
  rw [rdL1_nat _ _ (by rw [mpart_length]; exact he)]
  simp [mpart]
theorem mpart_hit (l : List (List Int)) (e f : Nat) (he : e < 2 * l.length) (hf : f < 2 * l.length) (h : next l e f = true) : (mpart l e f).set e ((mrow (2 * l.length) (next l e) f).set f 1) = mpart l e (f + 1) := by
  rw [mrow_hit _ _ _ hf h]
  apply List.ext_getElem
  · simp [mpart]
  · intro i h1 h2
    rw [List.getElem_set]
    by_cases hi : e = i
    · subst hi; simp [mpart]
    · rw [if_neg hi]
      simp [mpart, Ne.symm hi]
theorem mpart_miss (l : List (List Int)) (e f : Nat) (h : next l e f = false) : mpart l e f = mpart l e (f + 1) := by
  unfold mpart
  apply List.map_congr_left
  intro i _
  by_cases hi : i < e
  · simp [hi]
  · by_cases hie : i = e
    · subst hie; simp; exact mrow_miss _ _ _ h
    · simp [hi, hie]
theorem mpart_next (l : List (List Int)) (e : Nat) : mpart l e (2 * l.length) = mpart l (e + 1) 0 := by
  unfold mpart
  apply List.map_congr_left
  intro i _
  by_cases hi : i < e
  · rw [if_pos hi, if_pos (by omega)]
  · by_cases hie : i = e
    · subst hie; simp
    · rw [if_neg hi, if_neg hie, if_neg (by omega)]; split <;> rfl
theorem mpart_all (l : List (List Int)) : mpart l (2 * l.length) 0 = edgeM l := by
  unfold mpart edgeM
  apply List.map_congr_left
  intro i hi
  rw [if_pos (List.mem_range.1 hi)]
theorem edgeMatrix_l1 (a : Int) (l : List (List Int)) (hl : l.length ≤ 10) (h2 : two l) (R : List (List Int)) (e : Nat) (he : e < 2 * l.length)
    (hR : Ev (fun k => impl_Graph_edgeMatrix.l0 k (mpart l (e + 1) 0) ((2 * l.length : Nat) : Int) ((e : Int) + 1) a l) R) :
    ∀ (d f : Nat), 2 * l.length - f = d → f ≤ 2 * l.length → Ev (fun k => impl_Graph_edgeMatrix.l1 k (mpart l e f) e (endAt l e) ((2 * l.length : Nat) : Int) e ((2 * l.length : Nat) : Int) f a l) R := by
  intro d
  induction d with
  | zero =>
    intro f hd hf
    obtain rfl : f = 2 * l.length := by omega
    refine Ev.step (fun k => by simp only [impl_Graph_edgeMatrix.l1]; rfl) ?_
    simp only [Int.lt_irrefl, if_false, mpart_next, w64 (show -9223372036854775808 ≤ (e : Int) + 1 by omega) (by omega)]
    exact hR
  | succ d ih =>
    intro f hd hf
    have hfl : f < 2 * l.length := by omega
    refine Ev.step (fun k => by simp only [impl_Graph_edgeMatrix.l1]; rfl) ?_
    have h := ih (f + 1) (by omega) (by omega)
    simp only [show ((f : Int) < ((2 * l.length : Nat) : Int)) by omega, if_true, ends_eq a l (by omega) h2 f hfl, Option.bind_some, show (0 : Int) ≤ (f : Int) by omega, show (0 : Int) ≤ (e : Int) by omega, mpart_length, mpart_row l e f he, mrow_length, show ((e : Int) < ((2 * l.length : Nat) : Int)) by omega, Int.toNat_natCast, xor1 e (by omega), w64 (show -9223372036854775808 ≤ (f : Int) + 1 by omega) (by omega)]
    have hn : next l e f = (decide (endAt l e = begAt l f) && !decide (f = opp e)) := rfl
    by_cases h3 : begAt l f = endAt l e
    · simp only [h3, if_true]
      by_cases h4 : f = opp e
      · simp only [eq_true (show (f : Int) = ((opp e : Nat) : Int) by omega), if_true]
        rw [mpart_miss l e f (by rw [hn]; simp [h3, h4.symm])]
        exact h
      · simp only [show ¬ ((f : Int) = ((opp e : Nat) : Int)) by omega, if_false]
        rw [mpart_hit l e f he hfl (by rw [hn]; simp [h3, h4])]
        exact h
    · simp only [h3, if_false]
      rw [mpart_miss l e f (by rw [hn]; simp [Ne.symm h3])]
      exact h
theorem edgeMatrix_l0 (a : Int) (l : List (List Int)) (hl : l.length ≤ 10) (h2 : two l) : ∀ (d e : Nat), 2 * l.length - e = d → e ≤ 2 * l.length → Ev (fun k => impl_Graph_edgeMatrix.l0 k (mpart l e 0) ((2 * l.length : Nat) : Int) e a l) (edgeM l) := by
  intro d
  induction d with
  | zero =>
    intro e hd he
    obtain rfl : e = 2 * l.length := by omega
    refine Ev.step (fun k => by simp only [impl_Graph_edgeMatrix.l0]; rfl) ?_
    simp only [Int.lt_irrefl, if_false, mpart_all]
    exact Ev.now _
  | succ d ih =>
    intro e hd he
    have hel : e < 2 * l.length := by omega
    refine Ev.step (fun k => by simp only [impl_Graph_edgeMatrix.l0]; rfl) ?_
    simp only [show ((e : Int) < ((2 * l.length : Nat) : Int)) by omega, if_true, ends_eq a l (by omega) h2 e hel, Option.bind_some, impl_Graph_size.f, w64 (show -9223372036854775808 ≤ 2 * (l.length : Int) by omega) (by omega)]
    rw [show 2 * (l.length : Int) = ((2 * l.length : Nat) : Int) by omega]
    exact edgeMatrix_l1 a l hl h2 _ e hel (ih (e + 1) (by omega) (by omega)) (2 * l.length) 0 (by omega) (by omega)
theorem square_l0 (n : Nat) (hn : n ≤ 1048576) : ∀ (d i : Nat), n - i = d → i ≤ n → Ev (fun k => impl_square.l0 k n (List.replicate i (List.replicate n 0)) n i) (List.replicate n (List.replicate n 0)) := by
  intro d
  induction d with
  | zero =>
    intro i hd hi
    obtain rfl : i = n := by omega
    refine Ev.step (fun k => by simp only [impl_square.l0]; rfl) ?_
    simp only [Int.lt_irrefl, if_false]
    exact Ev.now _
  | succ d ih =>
    intro i hd hi
    refine Ev.step (fun k => by simp only [impl_square.l0]; rfl) ?_
    simp only [show ((i : Int) < (n : Int)) by omega, show (0 : Int) ≤ (n : Int) by omega, Int.toNat_natCast, show n ≤ 35184372088832 by omega, List.length_replicate, show i < 5864062014805 by omega, if_true, w64 (show -9223372036854775808 ≤ (i : Int) + 1 by omega) (by omega)]
    have h := ih (i + 1) (by omega) (by omega)
    rw [List.replicate_succ'] at h
    exact h
theorem square_ev (n : Nat) (hn : n ≤ 1048576) : Ev (fun k => impl_square.f k n) (List.replicate n (List.replicate n 0)) := square_l0 n hn n 0 (by omega) (by omega)
theorem mpart_zero (l : List (List Int)) : mpart l 0 0 = List.replicate (2 * l.length) (List.replicate (2 * l.length) 0) := by
  apply List.ext_getElem
  · simp [mpart]
  · intro i h1 h2
    simp only [mpart, List.getElem_map, List.getElem_range, List.getElem_replicate]
    rw [← mrow_zero (2 * l.length) (next l i)]
    congr 1
    rw [if_neg (by omega)]
    split <;> rfl
theorem edgeMatrix_ev (a : Int) (l : List (List Int)) (hl : l.length ≤ 10) (h2 : two l) : Ev (fun k => impl_Graph_edgeMatrix.f k a l) (edgeM l) := by
  unfold impl_Graph_edgeMatrix.f
  simp only [impl_Graph_size.f, Option.bind_some, w64 (show -9223372036854775808 ≤ 2 * (l.length : Int) by omega) (by omega)]
  rw [show 2 * (l.length : Int) = ((2 * l.length : Nat) : Int) by omega]
  refine Ev.bind (square_ev (2 * l.length) (by omega)) ?_
  rw [← mpart_zero]
  exact edgeMatrix_l0 a l hl h2 (2 * l.length) 0 (by omega) (by omega)
theorem clone_ev (l : List Int) (h : l.length ≤ 1048576) : slices_Clone_int64_int64.f l = some l := by
  unfold slices_Clone_int64_int64.f
  rw [if_pos (by omega)]
theorem l01Own_eq (l : List Int) (h : l.length ≤ 1048576) : spec_l01Own.f l = some l := by
  unfold spec_l01Own.f
  simp only [Option.bind_some, List.length_nil, List.nil_append]
  rw [if_pos (by omega)]
theorem two_len {l : List (List Int)} (h2 : two l) (i : Nat) (h : i < l.length) : l[i].length = 2 := h2 _ (List.getElem_mem h)
theorem own_l0 (a : Int) (l : List (List Int)) (hl : l.length ≤ 1048576) (hx : ∀ x ∈ l, x.length ≤ 1048576) : ∀ (d i : Nat), l.length - i = d → i ≤ l.length → Ev (fun k => impl_Graph_own.l0 k l (l.length : Int) i a (l.take i)) (a, l) := by
  intro d
  induction d with
  | zero =>
    intro i hd hi
    obtain rfl : i = l.length := by omega
    refine Ev.step (fun k => by simp only [impl_Graph_own.l0]; rfl) ?_
    simp only [Int.lt_irrefl, if_false, List.take_length]
    exact Ev.now _
  | succ d ih =>
    intro i hd hi
    have hil : i < l.length := by omega
    refine Ev.step (fun k => by simp only [impl_Graph_own.l0]; rfl) ?_
    have h := ih (i + 1) (by omega) (by omega)
    rw [List.take_succ_eq_append_getElem hil] at h
    simp only [show ((i : Int) < (l.length : Int)) by omega, show (0 : Int) ≤ (i : Int) by omega, if_true, rdL1_nat l i hil, clone_ev _ (hx _ (List.getElem_mem hil)), Option.bind_some, show (l.take i).length < 5864062014805 by (rw [List.length_take]; omega), w64 (show -9223372036854775808 ≤ (i : Int) + 1 by omega) (by omega)]
    exact h
theorem own_ev (a : Int) (l : List (List Int)) (hl : l.length ≤ 1048576) (hx : ∀ x ∈ l, x.length ≤ 1048576) : Ev (fun k => impl_Graph_own.f k a l) (a, l) := own_l0 a l hl hx l.length 0 (by omega) (by omega)
theorem deleted_ev (a : Int) (l : List (List Int)) (hl : l.length ≤ 1048576) (hx : ∀ x ∈ l, x.length ≤ 1048576) (e : Nat) (he : e < l.length) : Ev (fun k => impl_Graph_deleted.f k a l e) (a, l.eraseIdx e) := by
  unfold impl_Graph_deleted.f
  refine Ev.bind (own_ev a l hl hx) ?_
  simp only [show (0 : Int) ≤ (e : Int) by omega, show ((e : Int) < (l.length : Int)) by omega, if_true, Int.toNat_natCast]
  exact Ev.now _
theorem isG_small {a : Int} {l : List (List Int)} (h : isG a l = true) : l.length ≤ 1048576 ∧ ∀ x ∈ l, x.length ≤ 1048576 :=
  ⟨by have := isG_len h; omega, fun x hx => by have := isG_two h x hx; omega⟩
/-- The two ends of edge i of a graph, as numbers below n. -/
def endsIn (n : Nat) (l : List (List Int)) : Prop := ∀ i, i < l.length → (rd_L1 l (i : Int)).length = 2 ∧ ∃ u v : Nat, rd (rd_L1 l (i : Int)) 0 = u ∧ rd (rd_L1 l (i : Int)) 1 = v ∧ u < n ∧ v < n
theorem isG_ends {a : Int} {l : List (List Int)} (h : isG a l = true) : ∃ n : Nat, a = n ∧ 1 ≤ n ∧ n ≤ 8 ∧ endsIn n l := by
  have hs := isG_size h
  refine ⟨a.toNat, by omega, by omega, by omega, fun i hi => ?_⟩
  have hm : l[i] ∈ l := List.getElem_mem hi
  rw [rdL1_nat l i hi]
  have he := isG_edge h hm
  exact ⟨isG_two h _ hm, (rd l[i] 0).toNat, (rd l[i] 1).toNat, by omega, by omega, by omega, by omega⟩
/-- How often v is an end of the first i edges. -/
def degN (l : List (List Int)) : Nat → Nat → Nat
  | 0, _ => 0
  | i + 1, v => degN l i v + (if rd (rd_L1 l (i : Int)) 0 = (v : Int) then 1 else 0) + (if rd (rd_L1 l (i : Int)) 1 = (v : Int) then 1 else 0)
theorem degN_le (l : List (List Int)) (i v : Nat) : degN l i v ≤ 2 * i := by
  induction i with
  | zero => simp [degN]
  | succ i ih =>
    unfold degN
    have h1 : (if rd (rd_L1 l (i : Int)) 0 = (v : Int) then 1 else 0) ≤ 1 := by split <;> omega
    have h2 : (if rd (rd_L1 l (i : Int)) 1 = (v : Int) then 1 else 0) ≤ 1 := by split <;> omega
    omega
theorem l01Degree_l0 (a : Int) (l : List (List Int)) (hl : l.length ≤ 1048576) (h2 : two l) (v : Nat) : ∀ (d i : Nat), l.length - i = d → i ≤ l.length → Ev (fun k => spec_l01Degree.l0 k v (degN l i v : Int) i a l) (degN l l.length v : Int) := by
  intro d
  induction d with
  | zero =>
    intro i hd hi
    obtain rfl : i = l.length := by omega
    refine Ev.step (fun k => by simp only [spec_l01Degree.l0]; rfl) ?_
    simp only [Int.lt_irrefl, if_false]
    exact Ev.now _
  | succ d ih =>
    intro i hd hi
    have hil : i < l.length := by omega
    have hx : (rd_L1 l (i : Int)).length = 2 := by rw [rdL1_nat l i hil]; exact h2 _ (List.getElem_mem hil)
    have hdn := degN_le l i v
    have h := ih (i + 1) (by omega) (by omega)
    have hend : ∀ z : Nat, z ≤ 2 * i + 2 → z = degN l (i + 1) v → Ev (fun k => spec_l01Degree.l1 k v (z : Int) i 2 a l) (degN l l.length v : Int) := by
      intro z hz1 hz
      refine Ev.step (fun k => by simp only [spec_l01Degree.l1]; rfl) ?_
      simp only [Int.lt_irrefl, if_false, w64 (show -9223372036854775808 ≤ (i : Int) + 1 by omega) (by omega)]
      rw [hz]
      exact h
    have hone : ∀ z : Nat, z ≤ 2 * i + 1 → z = degN l i v + (if rd (rd_L1 l (i : Int)) 0 = (v : Int) then 1 else 0) → Ev (fun k => spec_l01Degree.l1 k v (z : Int) i 1 a l) (degN l l.length v : Int) := by
      intro z hz1 hz
      refine Ev.step (fun k => by simp only [spec_l01Degree.l1]; rfl) ?_
      simp only [show ((1 : Int) < 2) by omega, show ((0 : Int) ≤ 1) by omega, show (0 : Int) ≤ (i : Int) by omega, show ((i : Int) < (l.length : Int)) by omega, hx, show ((1 : Int) < ((2 : Nat) : Int)) by omega, if_true, w64 (show -9223372036854775808 ≤ (1 : Int) + 1 by omega) (by omega)]
      by_cases hc : rd (rd_L1 l (i : Int)) 1 = (v : Int)
      · simp only [hc, if_true, w64 (show -9223372036854775808 ≤ (z : Int) + 1 by omega) (by omega)]
        have := hend (z + 1) (by omega) (by unfold degN; rw [if_pos hc, ← hz])
        simpa using this
      · simp only [hc, if_false]
        have := hend z (by omega) (by unfold degN; rw [if_neg hc, ← hz]; rfl)
        simpa using this
    refine Ev.step (fun k => by simp only [spec_l01Degree.l0]; rfl) ?_
    simp only [show ((i : Int) < (l.length : Int)) by omega, if_true]
    refine Ev.step (fun k => by simp only [spec_l01Degree.l1]; rfl) ?_
    simp only [show ((0 : Int) < 2) by omega, show (0 : Int) ≤ (i : Int) by omega, show ((i : Int) < (l.length : Int)) by omega, hx, show ((0 : Int) ≤ 0) by omega, show ((0 : Int) < ((2 : Nat) : Int)) by omega, if_true, w64 (show -9223372036854775808 ≤ (0 : Int) + 1 by omega) (by omega)]
    by_cases hc : rd (rd_L1 l (i : Int)) 0 = (v : Int)
    · simp only [hc, if_true, w64 (show -9223372036854775808 ≤ ((degN l i v : Nat) : Int) + 1 by omega) (by omega)]
      have := hone (degN l i v + 1) (by omega) (by rw [if_pos hc])
      simpa using this
    · simp only [hc, if_false]
      have := hone (degN l i v) (by omega) (by rw [if_neg hc]; rfl)
      simpa using this
theorem l01Degree_ev (a : Int) (l : List (List Int)) (hl : l.length ≤ 1048576) (h2 : two l) (v : Nat) : Ev (fun k => spec_l01Degree.f k a l v) (degN l l.length v : Int) :=
  l01Degree_l0 a l hl h2 v l.length 0 (by omega) (by omega)
/-- The list of the degrees, of the first i edges. -/
def degL (n : Nat) (l : List (List Int)) (i : Nat) : List Int := (List.range n).map fun v => (degN l i v : Int)
theorem degL_length (n : Nat) (l : List (List Int)) (i : Nat) : (degL n l i).length = n := by simp [degL]
theorem degL_rd (n : Nat) (l : List (List Int)) (i v : Nat) (h : v < n) : rd (degL n l i) (v : Int) = (degN l i v : Int) := by
  rw [rd_nat _ _ (by rw [degL_length]; exact h)]
  simp [degL]
/-- One more at u. -/
theorem bump_rd (x : List Int) (u w : Nat) (hw : w < x.length) (y : Int) : rd (x.set u y) (w : Int) = if u = w then y else rd x (w : Int) := by
  rw [rd_nat _ _ (by rw [List.length_set]; exact hw), rd_nat _ _ hw, List.getElem_set]
theorem degL_step (n : Nat) (l : List (List Int)) (hl : l.length ≤ 1048576) (i u v : Nat) (hi : i < l.length) (hu : rd (rd_L1 l (i : Int)) 0 = u) (hv : rd (rd_L1 l (i : Int)) 1 = v) (hun : u < n) (hvn : v < n) :
    ((degL n l i).set u (wrap64 (rd (degL n l i) u + 1))).set v (wrap64 (rd ((degL n l i).set u (wrap64 (rd (degL n l i) u + 1))) v + 1)) = degL n l (i + 1) := by
  have hd := fun w => degN_le l i w
  rw [bump_rd _ _ _ (by rw [degL_length]; exact hvn), degL_rd n l i u hun, degL_rd n l i v hvn]
  have e1 : wrap64 ((degN l i u : Nat) + 1 : Int) = (degN l i u : Int) + 1 := w64 (by omega) (by have := hd u; omega)
  rw [e1]
  apply List.ext_getElem
  · simp [degL]
  · intro w h1 h2
    have hwn : w < n := by simpa [degL] using h2
    rw [List.getElem_set, List.getElem_set]
    have e2 : (degL n l i)[w]'(by rw [degL_length]; exact hwn) = (degN l i w : Int) := by simp [degL]
    have e3 : (degL n l (i + 1))[w]'h2 = (degN l (i + 1) w : Int) := by simp [degL]
    rw [e3, show degN l (i + 1) w = degN l i w + (if rd (rd_L1 l (i : Int)) 0 = (w : Int) then 1 else 0) + (if rd (rd_L1 l (i : Int)) 1 = (w : Int) then 1 else 0) from rfl, hu, hv]
    by_cases h3 : v = w
    · subst h3
      rw [if_pos rfl, if_pos rfl]
      by_cases h4 : u = v
      · subst h4
        simp only [if_true]
        rw [w64 (by omega) (by have := hd u; omega)]
        omega
      · simp only [h4, if_false, show ¬ ((u : Int) = (v : Int)) by omega]
        rw [w64 (by omega) (by have := hd v; omega)]
        omega
    · rw [if_neg h3, if_neg (show ¬ ((v : Int) = (w : Int)) by omega)]
      by_cases h4 : u = w
      · subst h4
        simp only [if_true]
        omega
      · simp only [h4, if_false, show ¬ ((u : Int) = (w : Int)) by omega, e2]
        omega
theorem degrees_l0 (n : Nat) (l : List (List Int)) (hl : l.length ≤ 1048576) (hE : endsIn n l) : ∀ (d i : Nat), l.length - i = d → i ≤ l.length → Ev (fun k => impl_Graph_degrees.l0 k (degL n l i) l (l.length : Int) i) (degL n l l.length) := by
  intro d
  induction d with
  | zero =>
    intro i hd hi
    obtain rfl : i = l.length := by omega
    refine Ev.step (fun k => by simp only [impl_Graph_degrees.l0]; rfl) ?_
    simp only [Int.lt_irrefl, if_false]
    exact Ev.now _
  | succ d ih =>
    intro i hd hi
    have hil : i < l.length := by omega
    obtain ⟨hx, u, v, hu, hv, hun, hvn⟩ := hE i hil
    have h := ih (i + 1) (by omega) (by omega)
    rw [← degL_step n l hl i u v hil hu hv hun hvn] at h
    refine Ev.step (fun k => by simp only [impl_Graph_degrees.l0]; rfl) ?_
    simp only [show ((i : Int) < (l.length : Int)) by omega, show (0 : Int) ≤ (i : Int) by omega, hx, hu, hv, degL_length, show ((0 : Int) < ((2 : Nat) : Int)) by omega, show ((1 : Int) < ((2 : Nat) : Int)) by omega, show (0 : Int) ≤ (u : Int) by omega, show (0 : Int) ≤ (v : Int) by omega, show ((u : Int) < (n : Int)) by omega, show ((v : Int) < (n : Int)) by omega, if_true, Option.bind_some, Int.toNat_natCast, w64 (show -9223372036854775808 ≤ (i : Int) + 1 by omega) (by omega)]
    exact h
theorem degrees_ev (n : Nat) (hn : n ≤ 1048576) (l : List (List Int)) (hl : l.length ≤ 1048576) (hE : endsIn n l) : Ev (fun k => impl_Graph_degrees.f k n l) (degL n l l.length) := by
  unfold impl_Graph_degrees.f
  simp only [show (0 : Int) ≤ (n : Int) by omega, Int.toNat_natCast, show n ≤ 35184372088832 by omega, if_true]
  have h := degrees_l0 n l hl hE l.length 0 (by omega) (by omega)
  have e : degL n l 0 = List.replicate n 0 := by
    apply List.ext_getElem
    · simp [degL]
    · intro w h1 h2; simp [degL, degN]
  rw [e] at h
  exact h
theorem index_l0 (l : List Int) (hl : l.length ≤ maxLen) (x : Int) : ∀ (d i : Nat), l.length - i = d → i ≤ l.length → ∃ r, Ev (fun k => slices_Index_int64_int64.l0 k l x (l.length : Int) i) r ∧ (0 ≤ r ↔ x ∈ l.drop i) := by
  unfold maxLen at hl
  intro d
  induction d with
  | zero =>
    intro i hd hi
    obtain rfl : i = l.length := by omega
    refine ⟨-1, Ev.step (fun k => by simp only [slices_Index_int64_int64.l0]; rfl) ?_, by simp⟩
    simp only [Int.lt_irrefl, if_false]
    exact Ev.now _
  | succ d ih =>
    intro i hd hi
    have hil : i < l.length := by omega
    rw [List.drop_eq_getElem_cons hil]
    by_cases hx : x = l[i]
    · refine ⟨(i : Int), Ev.step (fun k => by simp only [slices_Index_int64_int64.l0]; rfl) ?_, ⟨fun _ => List.mem_cons.2 (.inl hx), fun _ => by omega⟩⟩
      simp only [show ((i : Int) < (l.length : Int)) by omega, show (0 : Int) ≤ (i : Int) by omega, if_true, rd_nat l i hil, hx]
      exact Ev.now _
    · obtain ⟨r, h1, h2⟩ := ih (i + 1) (by omega) (by omega)
      refine ⟨r, Ev.step (fun k => by simp only [slices_Index_int64_int64.l0]; rfl) ?_, ⟨fun h => List.mem_cons.2 (.inr (h2.1 h)), fun h => h2.2 ((List.mem_cons.1 h).resolve_left hx)⟩⟩
      simp only [show ((i : Int) < (l.length : Int)) by omega, show (0 : Int) ≤ (i : Int) by omega, if_true, rd_nat l i hil, hx, if_false, w64 (show -9223372036854775808 ≤ (i : Int) + 1 by omega) (by omega)]
      exact h1
theorem contains_ev (l : List Int) (hl : l.length ≤ maxLen) (x : Int) : Ev (fun k => slices_Contains_int64_int64.f k l x) (decide (x ∈ l)) := by
  obtain ⟨r, h1, h2⟩ := index_l0 l hl x l.length 0 (by omega) (by omega)
  unfold slices_Contains_int64_int64.f
  refine Ev.bind h1 ?_
  rw [List.drop_zero] at h2
  rw [show decide (x ∈ l) = decide (r ≥ 0) from decide_eq_decide.2 h2.symm]
  exact Ev.now _
theorem l01Copy_l0 (a : Int) (l : List (List Int)) (hl : l.length ≤ 1048576) (hx : ∀ x ∈ l, x.length ≤ 1048576) : ∀ (d i : Nat), l.length - i = d → i ≤ l.length → Ev (fun k => spec_l01Copy.l0 k i a l a (l.take i)) (a, l) := by
  intro d
  induction d with
  | zero =>
    intro i hd hi
    obtain rfl : i = l.length := by omega
    refine Ev.step (fun k => by simp only [spec_l01Copy.l0]; rfl) ?_
    simp only [Int.lt_irrefl, if_false, List.take_length]
    exact Ev.now _
  | succ d ih =>
    intro i hd hi
    have hil : i < l.length := by omega
    refine Ev.step (fun k => by simp only [spec_l01Copy.l0]; rfl) ?_
    have h := ih (i + 1) (by omega) (by omega)
    rw [List.take_succ_eq_append_getElem hil] at h
    simp only [show ((i : Int) < (l.length : Int)) by omega, show (0 : Int) ≤ (i : Int) by omega, if_true, rdL1_nat l i hil, l01Own_eq _ (hx _ (List.getElem_mem hil)), Option.bind_some, show (l.take i).length < 5864062014805 by (rw [List.length_take]; omega), w64 (show -9223372036854775808 ≤ (i : Int) + 1 by omega) (by omega)]
    exact h
theorem l01Copy_ev (a : Int) (l : List (List Int)) (hl : l.length ≤ 1048576) (hx : ∀ x ∈ l, x.length ≤ 1048576) : Ev (fun k => spec_l01Copy.f k a l) (a, l) := l01Copy_l0 a l hl hx l.length 0 (by omega) (by omega)
/-- A list, each element of which is turned in place: the first j have been. -/
def mp {α : Type} (f : α → α) (l : List α) (j : Nat) : List α := (l.take j).map f ++ l.drop j
theorem mp_zero {α : Type} (f : α → α) (l : List α) : mp f l 0 = l := by simp [mp]
theorem mp_length {α : Type} (f : α → α) (l : List α) (j : Nat) : (mp f l j).length = l.length := by
  simp only [mp, List.length_append, List.length_map, List.length_take, List.length_drop]
  omega
theorem mp_full {α : Type} (f : α → α) (l : List α) {j : Nat} (h : l.length ≤ j) : mp f l j = l.map f := by
  simp [mp, List.take_of_length_le h, List.drop_of_length_le h]
theorem mp_at {α : Type} (f : α → α) (l : List α) {j : Nat} (h : j < l.length) : (mp f l j)[j]'(by rw [mp_length]; exact h) = l[j] := by
  have hl : ((l.take j).map f).length = j := by rw [List.length_map, List.length_take]; omega
  have e : (mp f l j)[j]? = some l[j] := by
    rw [mp, List.getElem?_append_right (by omega), hl, Nat.sub_self, List.getElem?_drop, Nat.add_zero, List.getElem?_eq_getElem h]
  rw [List.getElem?_eq_getElem (by rw [mp_length]; exact h)] at e
  exact Option.some.inj e
theorem mp_succ {α : Type} (f : α → α) (l : List α) {j : Nat} (h : j < l.length) : mp f l (j + 1) = (mp f l j).set j (f l[j]) := by
  have hl : ((l.take j).map f).length = j := by rw [List.length_map, List.length_take]; omega
  rw [mp, mp, List.set_append_right _ _ (by omega), hl, Nat.sub_self, List.drop_eq_getElem_cons h, List.set_cons_zero, List.take_succ_eq_append_getElem h, List.map_append, List.append_assoc]
  rfl
theorem mp_same {α : Type} (f : α → α) (l : List α) {j : Nat} (h : j < l.length) (e : f l[j] = l[j]) : mp f l (j + 1) = mp f l j := by
  rw [mp_succ f l h, e]
  have := mp_at f l h
  rw [← this]
  exact List.set_getElem_self _
theorem rd_mp (f : Int → Int) (r : List Int) {j : Nat} (h : j < r.length) : rd (mp f r j) (j : Int) = r[j] := by
  rw [rd_nat _ j (by rw [mp_length]; exact h), mp_at f r h]
theorem rdL1_mp (f : List Int → List Int) (l : List (List Int)) {i : Nat} (h : i < l.length) : rd_L1 (mp f l i) (i : Int) = l[i] := by
  rw [rdL1_nat _ i (by rw [mp_length]; exact h), mp_at f l h]
theorem rdL1_set (x : List (List Int)) (i : Nat) (y : List Int) (h : i < x.length) : rd_L1 (x.set i y) (i : Int) = y := by
  rw [rdL1_nat _ i (by rw [List.length_set]; exact h), List.getElem_set_self]
theorem set_own (x : List (List Int)) (i : Nat) (h : i < x.length) : x.set i x[i] = x := List.set_getElem_self _
theorem two_erase {l : List (List Int)} (h : two l) (e : Nat) : two (l.eraseIdx e) := fun x hx => h x (List.mem_of_mem_eraseIdx hx)
/-- A vertex behind the vertex v is gone. -/
def sh (v x : Int) : Int := if x > v then wrap64 (x - 1) else x
def hasV (v : Int) (e : List Int) : Bool := decide (rd e 0 = v) || decide (rd e 1 = v)
/-- The edges of a graph without a vertex. -/
def prL (v : Int) (l : List (List Int)) : List (List Int) := (l.filter fun e => !(hasV v e)).map (List.map (sh v))
theorem withoutV_l1 (v s : Int) (X : List (List Int)) (N : Int) (i : Nat) (hi : i < X.length) (hX : X.length ≤ 1048576) (r : List Int) (hr : r.length = 2) (R : Int × List (List Int)) (h : Ev (fun k => impl_Graph_withoutVertex.l0 k v (X.set i (r.map (sh v))) N ((i + 1 : Nat) : Int) s) R) : ∀ (d j : Nat), 2 - j = d → j ≤ 2 → Ev (fun k => impl_Graph_withoutVertex.l1 k v (X.set i (mp (sh v) r j)) N i 2 j s) R := by
  intro d
  induction d with
  | zero =>
    intro j hd hj
    obtain rfl : j = 2 := by omega
    refine Ev.step (fun k => by simp only [impl_Graph_withoutVertex.l1]; rfl) ?_
    simp only [show ¬ (((2 : Nat) : Int) < 2) by omega, if_false, w64 (show -9223372036854775808 ≤ (i : Int) + 1 by omega) (by omega), mp_full (sh v) r (show r.length ≤ 2 by omega)]
    exact h
  | succ d ih =>
    intro j hd hj
    have hjr : j < r.length := by omega
    have hj2 := ih (j + 1) (by omega) (by omega)
    refine Ev.step (fun k => by simp only [impl_Graph_withoutVertex.l1]; rfl) ?_
    have e1 : rd_L1 (X.set i (mp (sh v) r j)) (i : Int) = mp (sh v) r j := rdL1_set X i _ hi
    simp only [show ((j : Int) < 2) by omega, show (0 : Int) ≤ (j : Int) by omega, if_true, e1, mp_length, show ((j : Int) < (r.length : Int)) by omega, rd_mp _ r hjr, w64 (show -9223372036854775808 ≤ (j : Int) + 1 by omega) (by omega), Int.toNat_natCast, List.set_set]
    by_cases c2 : r[j] > v
    · simp only [c2, if_true]
      rw [mp_succ _ r hjr, show sh v r[j] = wrap64 (r[j] - 1) by simp [sh, c2]] at hj2
      exact hj2
    · simp only [c2, if_false]
      rw [mp_same _ r hjr (by simp [sh, c2])] at hj2
      exact hj2
theorem withoutV_l0 (v s : Int) (l : List (List Int)) (hl : l.length ≤ 1048576) (h2 : two l) : ∀ (d i : Nat), l.length - i = d → i ≤ l.length → Ev (fun k => impl_Graph_withoutVertex.l0 k v (mp (List.map (sh v)) l i) l.length i s) (s, l.map (List.map (sh v))) := by
  intro d
  induction d with
  | zero =>
    intro i hd hi
    obtain rfl : i = l.length := by omega
    refine Ev.step (fun k => by simp only [impl_Graph_withoutVertex.l0]; rfl) ?_
    simp only [Int.lt_irrefl, if_false, mp_full _ l (Nat.le_refl _)]
    exact Ev.now _
  | succ d ih =>
    intro i hd hi
    have hil : i < l.length := by omega
    have h := ih (i + 1) (by omega) (by omega)
    rw [mp_succ _ l hil] at h
    refine Ev.step (fun k => by simp only [impl_Graph_withoutVertex.l0]; rfl) ?_
    simp only [mp_length, show ((i : Int) < (l.length : Int)) by omega, show (0 : Int) ≤ (i : Int) by omega, if_true, rdL1_mp _ l hil, two_len h2 i hil]
    have h1 := withoutV_l1 v s (mp (List.map (sh v)) l i) l.length i (by rw [mp_length]; exact hil) (by rw [mp_length]; exact hl) l[i] (two_len h2 i hil) _ h 2 0 (by omega) (by omega)
    rw [mp_zero] at h1
    have e := set_own (mp (List.map (sh v)) l i) i (by rw [mp_length]; exact hil)
    rw [mp_at _ l hil] at e
    rw [e] at h1
    exact h1
theorem withoutV_ev (a v : Int) (l : List (List Int)) (hl : l.length ≤ 1048576) (hx : ∀ x ∈ l, x.length ≤ 1048576) (h2 : two l) : Ev (fun k => impl_Graph_withoutVertex.f k a l v) (wrap64 (a - 1), l.map (List.map (sh v))) := by
  unfold impl_Graph_withoutVertex.f
  refine Ev.bind (own_ev a l hl hx) ?_
  have h := withoutV_l0 v (wrap64 (a - 1)) l hl h2 _ 0 rfl (by omega)
  rw [mp_zero] at h
  exact h
/-- The first place of a number in a list. -/
theorem index_first (l : List Int) (hl : l.length ≤ maxLen) (x : Int) (w : Nat) (hw : w < l.length) (hx : l[w] = x) (hf : ∀ j (h : j < w), l[j] ≠ x) : ∀ (d i : Nat), w - i = d → i ≤ w → Ev (fun k => slices_Index_int64_int64.l0 k l x (l.length : Int) i) (w : Int) := by
  unfold maxLen at hl
  intro d
  induction d with
  | zero =>
    intro i hd hi
    obtain rfl : i = w := by omega
    refine Ev.step (fun k => by simp only [slices_Index_int64_int64.l0]; rfl) ?_
    simp only [show ((i : Int) < (l.length : Int)) by omega, show (0 : Int) ≤ (i : Int) by omega, if_true, rd_nat l i hw, hx]
    exact Ev.now _
  | succ d ih =>
    intro i hd hi
    have hiw : i < w := by omega
    have hne := hf i hiw
    refine Ev.step (fun k => by simp only [slices_Index_int64_int64.l0]; rfl) ?_
    simp only [show ((i : Int) < (l.length : Int)) by omega, show (0 : Int) ≤ (i : Int) by omega, if_true, rd_nat l i (show i < l.length by omega), show ¬ (x = l[i]) from fun e => hne e.symm, if_false, w64 (show -9223372036854775808 ≤ (i : Int) + 1 by omega) (by omega)]
    exact ih (i + 1) (by omega) (by omega)
theorem index_none (l : List Int) (hl : l.length ≤ maxLen) (x : Int) (hf : ∀ j (h : j < l.length), l[j] ≠ x) : ∀ (d i : Nat), l.length - i = d → i ≤ l.length → Ev (fun k => slices_Index_int64_int64.l0 k l x (l.length : Int) i) (-1) := by
  unfold maxLen at hl
  intro d
  induction d with
  | zero =>
    intro i hd hi
    obtain rfl : i = l.length := by omega
    refine Ev.step (fun k => by simp only [slices_Index_int64_int64.l0]; rfl) ?_
    simp only [Int.lt_irrefl, if_false]
    exact Ev.now _
  | succ d ih =>
    intro i hd hi
    have hiw : i < l.length := by omega
    have hne := hf i hiw
    refine Ev.step (fun k => by simp only [slices_Index_int64_int64.l0]; rfl) ?_
    simp only [show ((i : Int) < (l.length : Int)) by omega, show (0 : Int) ≤ (i : Int) by omega, if_true, rd_nat l i hiw, show ¬ (x = l[i]) from fun e => hne e.symm, if_false, w64 (show -9223372036854775808 ≤ (i : Int) + 1 by omega) (by omega)]
    exact ih (i + 1) (by omega) (by omega)
theorem idxM_first (p : List Int → Bool) (f : Nat → List Int → Option Bool) : ∀ (t : List (List Int)) (w : Nat) (hw : w < t.length), (∀ x ∈ t, Ev (fun k => f k x) (p x)) → p t[w] = true → (∀ j (h : j < w), p t[j] = false) → ∀ k0 : Nat, Ev (fun k => idxM (f k) t k0) ((k0 + w : Nat) : Int)
  | [], w, hw, _, _, _, _ => absurd hw (by simp)
  | x :: xs, 0, hw, he, hp, hf, k0 => by
    have h1 := he x List.mem_cons_self
    rw [show p x = true from hp] at h1
    refine Ev.bind h1 ?_
    simp only [if_true]
    exact Ev.now _
  | x :: xs, w + 1, hw, he, hp, hf, k0 => by
    have h1 := he x List.mem_cons_self
    rw [show p x = false from hf 0 (by omega)] at h1
    refine Ev.bind h1 ?_
    simp only [Bool.false_eq_true, if_false]
    have h2 := idxM_first p f xs w (by simpa using hw) (fun y hy => he y (List.mem_cons_of_mem _ hy)) hp (fun j hj => hf (j + 1) (by omega)) (k0 + 1)
    rw [show k0 + (w + 1) = k0 + 1 + w by omega]
    exact h2
theorem two_form {e : List Int} (h : e.length = 2) : e = [rd e 0, rd e 1] := by
  match e, h with
  | [x, y], _ => rfl
theorem mem_hasV {e : List Int} (h : e.length = 2) (v : Int) : decide (v ∈ e) = hasV v e := by
  unfold hasV
  rw [two_form h]
  show decide (v ∈ [rd e 0, rd e 1]) = (decide (rd e 0 = v) || decide (rd e 1 = v))
  rw [← Bool.decide_or]
  refine decide_eq_decide.2 ?_
  simp only [List.mem_cons, List.not_mem_nil, or_false]
  exact ⟨fun h => h.imp Eq.symm Eq.symm, fun h => h.imp Eq.symm Eq.symm⟩
theorem degN_zero {l : List (List Int)} {v : Nat} : ∀ {i : Nat}, degN l i v = 0 → ∀ j, j < i → hasV v (rd_L1 l (j : Int)) = false
  | 0, _, j, hj => absurd hj (by omega)
  | i + 1, h, j, hj => by
    unfold degN at h
    by_cases e : j = i
    · subst e
      unfold hasV
      by_cases c1 : rd (rd_L1 l (j : Int)) 0 = (v : Int)
      · rw [if_pos c1] at h; omega
      · by_cases c2 : rd (rd_L1 l (j : Int)) 1 = (v : Int)
        · rw [if_pos c2] at h; omega
        · simp [c1, c2]
    · exact degN_zero (Nat.add_eq_zero_iff.1 (Nat.add_eq_zero_iff.1 h).1).1 j (by omega)
theorem degN_one {l : List (List Int)} {v : Nat} : ∀ {i : Nat}, degN l i v = 1 → ∃ k, k < i ∧ hasV v (rd_L1 l (k : Int)) = true ∧ ∀ j, j < i → j ≠ k → hasV v (rd_L1 l (j : Int)) = false
  | 0, h => absurd h (by simp [degN])
  | i + 1, h => by
    unfold degN at h
    by_cases c : hasV v (rd_L1 l (i : Int)) = true
    · have h0 : degN l i v = 0 := by
        unfold hasV at c
        rw [Bool.or_eq_true, decide_eq_true_eq, decide_eq_true_eq] at c
        rcases c with c | c <;> rw [if_pos c] at h <;> omega
      exact ⟨i, by omega, c, fun j hj hne => degN_zero h0 j (by omega)⟩
    · have c' : hasV v (rd_L1 l (i : Int)) = false := by simpa using c
      have h1 : degN l i v = 1 := by
        unfold hasV at c'
        rw [Bool.or_eq_false_iff, decide_eq_false_iff_not, decide_eq_false_iff_not] at c'
        rw [if_neg c'.1, if_neg c'.2] at h
        omega
      obtain ⟨k, hk, hk1, hk2⟩ := degN_one h1
      refine ⟨k, by omega, hk1, fun j hj hne => ?_⟩
      by_cases e : j = i
      · rw [e]; exact c'
      · exact hk2 j (by omega) hne
theorem filter_erase {α : Type} (p : α → Bool) : ∀ (l : List α) (k : Nat) (hk : k < l.length), p l[k] = false → (∀ j (h : j < l.length), j ≠ k → p l[j] = true) → l.filter p = l.eraseIdx k
  | [], k, hk, _, _ => absurd hk (by simp)
  | x :: xs, 0, hk, h0, h1 => by
    rw [List.filter_cons_of_neg (by rw [show p x = false from h0]; simp), List.eraseIdx_cons_zero, List.filter_eq_self]
    intro y hy
    obtain ⟨j, hj, rfl⟩ := List.getElem_of_mem hy
    exact h1 (j + 1) (by simpa using hj) (by omega)
  | x :: xs, k + 1, hk, h0, h1 => by
    rw [List.filter_cons_of_pos (show p x = true from h1 0 (by simp) (by omega)), List.eraseIdx_cons_succ]
    congr 1
    exact filter_erase p xs k (by simpa using hk) h0 (fun j hj hne => h1 (j + 1) (by simpa using hj) (by omega))
theorem first_or_none (n : Nat) (p : Nat → Bool) : (∃ w, w < n ∧ p w = true ∧ ∀ u, u < w → p u = false) ∨ ∀ w, w < n → p w = false := by
  induction n with
  | zero => exact Or.inr (fun w hw => absurd hw (by omega))
  | succ n ih =>
    rcases ih with ⟨w, h1, h2, h3⟩ | h
    · exact Or.inl ⟨w, by omega, h2, h3⟩
    · cases hp : p n with
      | true => exact Or.inl ⟨n, by omega, hp, h⟩
      | false =>
        refine Or.inr (fun w hw => ?_)
        by_cases e : w = n
        · rw [e]; exact hp
        · exact h w (by omega)
theorem prL_snoc (v : Int) (l : List (List Int)) (e : List Int) (h : e.length = 2) : prL v (l ++ [e]) = if hasV v e = true then prL v l else prL v l ++ [[sh v (rd e 0), sh v (rd e 1)]] := by
  unfold prL
  rw [List.filter_append]
  by_cases c : hasV v e = true
  · simp [c]
  · have c' : hasV v e = false := by simpa using c
    simp only [c', List.filter_cons_of_pos, Bool.not_false, List.filter_nil, List.map_append, List.map_cons, List.map_nil, Bool.false_eq_true, if_false]
    congr 2
    conv => lhs; rw [two_form h]
    rfl
theorem l02Prune_l1 (v n : Int) (l : List (List Int)) (hl : l.length ≤ 1048576) (h2 : two l) (R : Int × List (List Int)) (h : Ev (fun k => spec_l02Prune.l0 k 0 (wrap64 (n - 1)) (prL v l)) R) : ∀ (d i : Nat), l.length - i = d → i ≤ l.length → Ev (fun k => spec_l02Prune.l1 k v (prL v (l.take i)) i n l) R := by
  intro d
  induction d with
  | zero =>
    intro i hd hi
    obtain rfl : i = l.length := by omega
    refine Ev.step (fun k => by simp only [spec_l02Prune.l1]; rfl) ?_
    simp only [Int.lt_irrefl, if_false, List.take_length]
    exact h
  | succ d ih =>
    intro i hd hi
    have hil : i < l.length := by omega
    have hn := ih (i + 1) (by omega) (by omega)
    have h3 := two_len h2 i hil
    rw [List.take_succ_eq_append_getElem hil, prL_snoc v _ _ h3] at hn
    have hlen : (prL v (l.take i)).length < 5864062014805 := by
      unfold prL
      rw [List.length_map]
      have h1 := List.length_filter_le (fun e => !(hasV v e)) (l.take i)
      rw [List.length_take] at h1
      omega
    refine Ev.step (fun k => by simp only [spec_l02Prune.l1]; rfl) ?_
    simp only [show ((i : Int) < (l.length : Int)) by omega, show (0 : Int) ≤ (i : Int) by omega, if_true, rdL1_nat l i hil, h3, show (0 : Int) < ((2 : Nat) : Int) by omega, show (1 : Int) < ((2 : Nat) : Int) by omega]
    have hw : wrap64 ((i : Int) + 1) = ((i + 1 : Nat) : Int) := w64 (by omega) (by omega)
    have hj1 : hasV v l[i] = true → ∀ a b : Int, Ev (fun k => spec_l02Prune.j2 k v (prL v (l.take i)) i a b true n l) R := by
      intro c a b
      rw [if_pos c] at hn
      refine Ev.step (fun k => by simp only [spec_l02Prune.j2]; rfl) ?_
      simp only [if_true, hw]
      exact hn
    by_cases c0 : rd l[i] 0 = v
    · simp only [c0, if_true]
      have := hj1 (by unfold hasV; simp [c0]) (rd l[i] 0) (rd l[i] 1)
      rw [c0] at this
      exact this
    · simp only [c0, if_false]
      by_cases c1 : rd l[i] 1 = v
      · have := hj1 (by unfold hasV; simp [c1]) (rd l[i] 0) (rd l[i] 1)
        rw [c1] at this ⊢
        simp only [beq_self_eq_true]
        exact this
      · rw [if_neg (by unfold hasV; simp [c0, c1])] at hn
        simp only [show (rd l[i] 1 == v) = false from beq_eq_false_iff_ne.2 c1]
        refine Ev.step (fun k => by simp only [spec_l02Prune.j2]; rfl) ?_
        simp only [Bool.false_eq_true, if_false, hlen, if_true, hw]
        by_cases g0 : rd l[i] 0 > v <;> by_cases g1 : rd l[i] 1 > v <;> simp only [g0, g1, if_true, if_false] <;> simp only [sh, g0, g1, if_true, if_false] at hn <;> exact hn
theorem sh_nat {n v x : Nat} (hn : n ≤ 8) (hv : v < n) (hx : x < n) (hne : x ≠ v) : ∃ y : Nat, sh (v : Int) (x : Int) = y ∧ y < n - 1 := by
  unfold sh
  by_cases c : (x : Int) > (v : Int)
  · rw [if_pos c, w64 (by omega) (by omega)]
    exact ⟨x - 1, by omega, by omega⟩
  · rw [if_neg c]
    exact ⟨x, rfl, by omega⟩
theorem prL_mem {v : Int} {l : List (List Int)} {y : List Int} (h : y ∈ prL v l) : ∃ x, x ∈ l ∧ hasV v x = false ∧ y = x.map (sh v) := by
  unfold prL at h
  obtain ⟨x, hx, rfl⟩ := List.mem_map.1 h
  obtain ⟨h1, h2⟩ := List.mem_filter.1 hx
  exact ⟨x, h1, by simpa using h2, rfl⟩
theorem prL_ends {n v : Nat} (hn : n ≤ 8) (hv : v < n) {l : List (List Int)} (hE : endsIn n l) : endsIn (n - 1) (prL v l) := by
  intro i hi
  rw [rdL1_nat _ i hi]
  obtain ⟨x, hx, hs, he⟩ := prL_mem (List.getElem_mem hi)
  obtain ⟨j, hj, hjx⟩ := List.getElem_of_mem hx
  obtain ⟨h1, a, b, ha, hb, han, hbn⟩ := hE j hj
  rw [rdL1_nat l j hj, hjx] at h1 ha hb
  unfold hasV at hs
  rw [Bool.or_eq_false_iff, decide_eq_false_iff_not, decide_eq_false_iff_not, ha, hb] at hs
  obtain ⟨a', ha', ha1⟩ := sh_nat hn hv han (by omega)
  obtain ⟨b', hb', hb1⟩ := sh_nat hn hv hbn (by omega)
  rw [he, two_form h1, ha, hb]
  exact ⟨rfl, a', b', ha', hb', ha1, hb1⟩
theorem ends_two {n : Nat} {l : List (List Int)} (hE : endsIn n l) : two l := by
  intro x hx
  obtain ⟨j, hj, rfl⟩ := List.getElem_of_mem hx
  have := (hE j hj).1
  rwa [rdL1_nat l j hj] at this
theorem prL_len (v : Int) (l : List (List Int)) : (prL v l).length ≤ l.length := by
  unfold prL
  rw [List.length_map]
  exact List.length_filter_le _ _
/-- A row and a square of numbers, by their places. -/
def vrow (n : Nat) (g : Nat → Int) : List Int := (List.range n).map g
def vmat (n : Nat) (f : Nat → Nat → Int) : List (List Int) := (List.range n).map fun i => vrow n (f i)
theorem vrow_length (n : Nat) (g : Nat → Int) : (vrow n g).length = n := by simp [vrow]
theorem vmat_length (n : Nat) (f : Nat → Nat → Int) : (vmat n f).length = n := by simp [vmat]
theorem vrow_rd {n : Nat} {g : Nat → Int} {v : Nat} (h : v < n) : rd (vrow n g) (v : Int) = g v := by
  rw [rd_nat _ _ (by rw [vrow_length]; exact h)]
  simp [vrow]
theorem vmat_row {n : Nat} {f : Nat → Nat → Int} {u : Nat} (h : u < n) : rd_L1 (vmat n f) (u : Int) = vrow n (f u) := by
  rw [rdL1_nat _ _ (by rw [vmat_length]; exact h)]
  simp [vmat]
theorem vrow_congr {n : Nat} {g h : Nat → Int} (e : ∀ j, j < n → g j = h j) : vrow n g = vrow n h := by
  unfold vrow
  apply List.map_congr_left
  intro j hj
  exact e j (List.mem_range.mp hj)
theorem vmat_congr {n : Nat} {f h : Nat → Nat → Int} (e : ∀ i j, i < n → j < n → f i j = h i j) : vmat n f = vmat n h := by
  unfold vmat
  apply List.map_congr_left
  intro i hi
  exact vrow_congr fun j hj => e i j (List.mem_range.mp hi) hj
theorem vrow_set {n : Nat} (g : Nat → Int) (v : Nat) (x : Int) : (vrow n g).set v x = vrow n (fun j => if j = v then x else g j) := by
  apply List.ext_getElem
  · rw [List.length_set, vrow_length, vrow_length]
  intro j h1 h2
  rw [List.getElem_set]
  simp only [vrow, List.getElem_map, List.getElem_range]
  by_cases h : v = j
  · subst h; simp
  · rw [if_neg h, if_neg (fun e => h e.symm)]
theorem vmat_set {n : Nat} (f : Nat → Nat → Int) (u : Nat) (g : Nat → Int) : (vmat n f).set u (vrow n g) = vmat n (fun i j => if i = u then g j else f i j) := by
  apply List.ext_getElem
  · rw [List.length_set, vmat_length, vmat_length]
  intro i h1 h2
  rw [List.getElem_set]
  simp only [vmat, List.getElem_map, List.getElem_range]
  by_cases h : u = i
  · subst h; simp
  · rw [if_neg h]; exact vrow_congr fun j _ => by rw [if_neg (fun e => h e.symm)]
theorem vmat_zero (n : Nat) : List.replicate n (List.replicate n (0 : Int)) = vmat n (fun _ _ => 0) := by
  have h0 : ∀ m : Nat, vrow m (fun _ => 0) = List.replicate m 0 := fun m => by
    apply List.ext_getElem
    · simp [vrow]
    · intro i _ _; simp [vrow]
  apply List.ext_getElem
  · simp [vmat]
  · intro i _ _; simp [vmat, h0]
theorem dart_ends {n : Nat} {l : List (List Int)} (hE : endsIn n l) (d : Nat) (hd : d < 2 * l.length) : ∃ u v : Nat, begAt l d = u ∧ endAt l d = v ∧ u < n ∧ v < n := by
  obtain ⟨_, u, v, hu, hv, hun, hvn⟩ := hE (d / 2) (by omega)
  unfold begAt endAt
  rcases Nat.mod_two_eq_zero_or_one d with h | h
  · rw [h]; exact ⟨u, v, hu, hv, hun, hvn⟩
  · rw [h]; exact ⟨v, u, hv, hu, hvn, hun⟩
def cgM (x y : Int) : Prop := (18446744073709551616 : Int) ∣ x - y
theorem cg_refl (x : Int) : cgM x x := ⟨0, by omega⟩
theorem cg_trans {x y z : Int} (h : cgM x y) (h2 : cgM y z) : cgM x z := by
  obtain ⟨q, h⟩ := h
  obtain ⟨r, h2⟩ := h2
  exact ⟨q + r, by omega⟩
theorem cg_wrap (x : Int) : cgM (wrap64 x) x := by
  unfold cgM wrap64
  exact ⟨-((x + 9223372036854775808) / 18446744073709551616), by omega⟩
theorem cg_add {x y z w : Int} (h : cgM x y) (h2 : cgM z w) : cgM (x + z) (y + w) := by
  obtain ⟨q, h⟩ := h
  obtain ⟨r, h2⟩ := h2
  exact ⟨q + r, by omega⟩
theorem cg_neg {x y : Int} (h : cgM x y) : cgM (-x) (-y) := by
  obtain ⟨q, h⟩ := h
  exact ⟨-q, by omega⟩
theorem cg_mul {x y z w : Int} (h : cgM x y) (h2 : cgM z w) : cgM (x * z) (y * w) := la_mul_dvd_sub h h2
theorem cg_sm {n : Nat} {f g : Nat → Int} (h : ∀ i, i < n → cgM (f i) (g i)) : cgM (la_sm n f) (la_sm n g) := la_sm_dvd h
theorem wrap_range (x : Int) : -9223372036854775808 ≤ wrap64 x ∧ wrap64 x ≤ 9223372036854775807 := by unfold wrap64; omega
theorem cg_eq {x y : Int} (h : cgM x y) (hx : -9223372036854775808 ≤ x ∧ x ≤ 9223372036854775807) (hy : -9223372036854775808 ≤ y ∧ y ≤ 9223372036854775807) : x = y := by
  obtain ⟨q, h⟩ := h
  omega
theorem wrap_of_cg {x y : Int} (h : cgM x y) (hy : -9223372036854775808 ≤ y ∧ y ≤ 9223372036854775807) : wrap64 x = y := cg_eq (cg_trans (cg_wrap x) h) (wrap_range x) hy
/-- One row of a product, made by program. -/
def rtA (f g : Nat → Nat → Int) (i : Nat) : Nat → Nat → Int
  | 0, _ => 0
  | k + 1, j => if f i k = 0 then rtA f g i k j else wrap64 (rtA f g i k j + wrap64 (f i k * g k j))
theorem rtA_cg (f g : Nat → Nat → Int) (i j : Nat) (m : Nat) : cgM (rtA f g i m j) (la_sm m (fun k => f i k * g k j)) := by
  induction m with
  | zero => exact cg_refl _
  | succ m ih =>
    unfold rtA
    simp only [la_sm]
    split
    · case _ h => rw [h]; simpa using ih
    · exact cg_trans (cg_wrap _) (cg_add ih (cg_wrap _))
def rtS (f g : Nat → Nat → Int) (n i k j : Nat) : Nat → Nat → Int := fun r c => if r < i then rtA f g r n c else if r = i then (if c < j then rtA f g i (k + 1) c else rtA f g i k c) else 0
theorem rowsTimes_l2 (n : Nat) (hn : n ≤ 1048576) (f g : Nat → Nat → Int) (i k : Nat) (hi : i < n) (hk : k < n) (hf : f i k ≠ 0) (R : List (List Int))
    (next : Ev (fun q => impl_rowsTimes.l1 q (vmat n g) (vmat n (rtS f g n i (k + 1) 0)) i (vmat n f) n i (vrow n (f i)) n ((k : Int) + 1)) R) :
    ∀ (d j : Nat), n - j = d → j ≤ n → Ev (fun q => impl_rowsTimes.l2 q (vmat n g) (vmat n (rtS f g n i k j)) i (f i k) (vmat n f) n i (vrow n (f i)) n k (vrow n (g k)) n j) R := by
  intro d
  induction d with
  | zero =>
    intro j hd hj
    obtain rfl : j = n := by omega
    refine Ev.step (fun q => by simp only [impl_rowsTimes.l2]; rfl) ?_
    simp only [Int.lt_irrefl, if_false, w64 (show -9223372036854775808 ≤ (k : Int) + 1 by omega) (by omega)]
    refine Ev.congr (fun q => ?_) next
    congr 1
    refine vmat_congr fun r c hr hc => ?_
    unfold rtS
    by_cases h1 : r < i
    · rw [if_pos h1, if_pos h1]
    · rw [if_neg h1, if_neg h1]
      by_cases h2 : r = i
      · rw [if_pos h2, if_pos h2, if_pos hc, if_neg (by omega)]
      · rw [if_neg h2, if_neg h2]
  | succ d ih =>
    intro j hd hj
    have hjn : j < n := by omega
    refine Ev.step (fun q => by simp only [impl_rowsTimes.l2]; rfl) ?_
    simp only [show ((j : Int) < (n : Int)) by omega, show (0 : Int) ≤ (j : Int) by omega, show (0 : Int) ≤ (i : Int) by omega, show ((i : Int) < (n : Int)) by omega, if_true, vrow_length, vmat_length, vmat_row hi, vrow_rd hjn, Int.toNat_natCast, w64 (show -9223372036854775808 ≤ (j : Int) + 1 by omega) (by omega)]
    rw [vrow_set, vmat_set]
    refine Ev.congr (fun q => ?_) (ih (j + 1) (by omega) (by omega))
    rw [show ((j + 1 : Nat) : Int) = (j : Int) + 1 by omega]
    congr 1
    refine vmat_congr fun r c hr hc => ?_
    have hij : rtS f g n i k j i j = rtA f g i k j := by
      unfold rtS; rw [if_neg (by omega), if_pos rfl, if_neg (by omega)]
    by_cases h2 : r = i
    · subst h2
      rw [if_pos rfl]
      by_cases h3 : c = j
      · subst h3
        rw [if_pos rfl, hij]
        simp only [rtS, Nat.lt_irrefl, if_false, if_true, show c < c + 1 by omega]
        show _ = (if f r k = 0 then _ else _)
        rw [if_neg hf]
      · rw [if_neg h3]
        simp only [rtS, Nat.lt_irrefl, if_false, if_true]
        by_cases h4 : c < j
        · rw [if_pos h4, if_pos (by omega)]
        · rw [if_neg h4, if_neg (by omega)]
    · rw [if_neg h2]
      unfold rtS
      by_cases h1 : r < i
      · rw [if_pos h1, if_pos h1]
      · rw [if_neg h1, if_neg h1, if_neg h2, if_neg h2]
theorem rowsTimes_l1 (n : Nat) (hn : n ≤ 1048576) (f g : Nat → Nat → Int) (i : Nat) (hi : i < n) (R : List (List Int))
    (next : Ev (fun q => impl_rowsTimes.l0 q (vmat n g) (vmat n (rtS f g n (i + 1) 0 0)) (vmat n f) n ((i : Int) + 1)) R) :
    ∀ (d k : Nat), n - k = d → k ≤ n → Ev (fun q => impl_rowsTimes.l1 q (vmat n g) (vmat n (rtS f g n i k 0)) i (vmat n f) n i (vrow n (f i)) n k) R := by
  intro d
  induction d with
  | zero =>
    intro k hd hk
    obtain rfl : k = n := by omega
    refine Ev.step (fun q => by simp only [impl_rowsTimes.l1]; rfl) ?_
    simp only [Int.lt_irrefl, if_false, w64 (show -9223372036854775808 ≤ (i : Int) + 1 by omega) (by omega)]
    refine Ev.congr (fun q => ?_) next
    congr 1
    refine vmat_congr fun r c hr hc => ?_
    unfold rtS
    by_cases h1 : r < i
    · rw [if_pos h1, if_pos (by omega)]
    · rw [if_neg h1]
      by_cases h2 : r = i
      · subst h2; rw [if_pos rfl, if_neg (by omega), if_pos (by omega)]
      · rw [if_neg h2, if_neg (by omega)]
        by_cases h3 : r = i + 1
        · rw [if_pos h3, if_neg (by omega)]; rfl
        · rw [if_neg h3]
  | succ d ih =>
    intro k hd hk
    have hkn : k < n := by omega
    refine Ev.step (fun q => by simp only [impl_rowsTimes.l1]; rfl) ?_
    simp only [show ((k : Int) < (n : Int)) by omega, show (0 : Int) ≤ (k : Int) by omega, if_true, vrow_length, vmat_length, vrow_rd hkn, vmat_row hkn, w64 (show -9223372036854775808 ≤ (k : Int) + 1 by omega) (by omega)]
    have h := ih (k + 1) (by omega) (by omega)
    rw [show ((k + 1 : Nat) : Int) = (k : Int) + 1 by omega] at h
    by_cases hf : f i k = 0
    · simp only [hf, if_true]
      refine Ev.congr (fun q => ?_) h
      congr 1
      refine vmat_congr fun r c hr hc => ?_
      unfold rtS
      by_cases h1 : r < i
      · rw [if_pos h1, if_pos h1]
      · rw [if_neg h1, if_neg h1]
        by_cases h2 : r = i
        · rw [if_pos h2, if_pos h2, if_neg (by omega), if_neg (by omega)]
          show _ = (if f i k = 0 then _ else _)
          rw [if_pos hf]
        · rw [if_neg h2, if_neg h2]
    · simp only [hf, if_false]
      exact rowsTimes_l2 n hn f g i k hi hkn hf R h n 0 (by omega) (by omega)
theorem rowsTimes_l0 (n : Nat) (hn : n ≤ 1048576) (f g : Nat → Nat → Int) : ∀ (d i : Nat), n - i = d → i ≤ n → Ev (fun q => impl_rowsTimes.l0 q (vmat n g) (vmat n (rtS f g n i 0 0)) (vmat n f) n i) (vmat n (fun r c => rtA f g r n c)) := by
  intro d
  induction d with
  | zero =>
    intro i hd hi
    obtain rfl : i = n := by omega
    refine Ev.step (fun q => by simp only [impl_rowsTimes.l0]; rfl) ?_
    simp only [Int.lt_irrefl, if_false]
    rw [show vmat i (rtS f g i i 0 0) = vmat i (fun r c => rtA f g r i c) from vmat_congr fun r c hr hc => by unfold rtS; rw [if_pos hr]]
    exact Ev.now _
  | succ d ih =>
    intro i hd hi
    have hin : i < n := by omega
    refine Ev.step (fun q => by simp only [impl_rowsTimes.l0]; rfl) ?_
    simp only [show ((i : Int) < (n : Int)) by omega, show (0 : Int) ≤ (i : Int) by omega, if_true, vmat_length, vmat_row hin, vrow_length]
    have h := ih (i + 1) (by omega) (by omega)
    rw [show ((i + 1 : Nat) : Int) = (i : Int) + 1 by omega] at h
    exact rowsTimes_l1 n hn f g i hin _ h n 0 (by omega) (by omega)
theorem rowsTimes_ev (n : Nat) (hn : n ≤ 1048576) (f g : Nat → Nat → Int) : Ev (fun q => impl_rowsTimes.f q (vmat n f) (vmat n g)) (vmat n (fun r c => rtA f g r n c)) := by
  unfold impl_rowsTimes.f
  simp only [vmat_length]
  refine Ev.bind (square_ev n hn) ?_
  rw [vmat_zero]
  have h := rowsTimes_l0 n hn f g n 0 (by omega) (by omega)
  refine Ev.congr (fun q => ?_) h
  congr 1
  refine vmat_congr fun r c hr hc => ?_
  unfold rtS
  rw [if_neg (by omega)]
  split
  · rw [if_neg (by omega)]; rfl
  · rfl
def trW (h : Nat → Nat → Int) : Nat → Int
  | 0 => 0
  | i + 1 => wrap64 (trW h i + h i i)
theorem trW_cg (h : Nat → Nat → Int) (m : Nat) : cgM (trW h m) (la_sm m (fun i => h i i)) := by
  induction m with
  | zero => exact cg_refl _
  | succ m ih => exact cg_trans (cg_wrap _) (cg_add ih (cg_refl _))
theorem trace_l0 (n : Nat) (hn : n ≤ 1048576) (h : Nat → Nat → Int) : ∀ (d i : Nat), n - i = d → i ≤ n → Ev (fun q => impl_trace.l0 q (trW h i) (vmat n h) n i) (trW h n) := by
  intro d
  induction d with
  | zero =>
    intro i hd hi
    obtain rfl : i = n := by omega
    refine Ev.step (fun q => by simp only [impl_trace.l0]; rfl) ?_
    simp only [Int.lt_irrefl, if_false]
    exact Ev.now _
  | succ d ih =>
    intro i hd hi
    have hin : i < n := by omega
    refine Ev.step (fun q => by simp only [impl_trace.l0]; rfl) ?_
    simp only [show ((i : Int) < (n : Int)) by omega, show (0 : Int) ≤ (i : Int) by omega, if_true, vmat_length, vmat_row hin, vrow_length, vrow_rd hin, w64 (show -9223372036854775808 ≤ (i : Int) + 1 by omega) (by omega)]
    have h := ih (i + 1) (by omega) (by omega)
    rw [show ((i + 1 : Nat) : Int) = (i : Int) + 1 by omega] at h
    exact h
theorem trace_ev (n : Nat) (hn : n ≤ 1048576) (h : Nat → Nat → Int) : Ev (fun q => impl_trace.f q (vmat n h)) (trW h n) := by
  unfold impl_trace.f
  simp only [vmat_length]
  exact trace_l0 n hn h n 0 (by omega) (by omega)
/-- A list without zeros at its end. -/
def trimN (l : List Int) : Nat → List Int
  | 0 => []
  | n + 1 => if rd l n = 0 then trimN l n else l.take (n + 1)
theorem trimN_length (l : List Int) (n : Nat) : (trimN l n).length ≤ n := by
  induction n with
  | zero => simp [trimN]
  | succ n ih =>
    unfold trimN; split
    · omega
    · rw [List.length_take]; omega
theorem trimmed_l0 (l : List Int) (hl : l.length ≤ 1048576) : ∀ n, n ≤ l.length → Ev (fun q => impl_trimmed.l0 q (l.take n)) (trimN l n) := by
  intro n
  induction n with
  | zero =>
    intro _
    refine Ev.step (fun q => by simp only [impl_trimmed.l0]; rfl) ?_
    simp only [List.take_zero, List.length_nil, show ¬ (((0 : Nat) : Int) > 0) by omega, if_false, clone_ev [] (by simp), Option.bind_some, trimN]
    exact Ev.now _
  | succ n ih =>
    intro hn
    refine Ev.step (fun q => by simp only [impl_trimmed.l0]; rfl) ?_
    have hlen : ((l.take (n + 1)).length : Int) = (n : Int) + 1 := by rw [List.length_take]; omega
    have hr : rd (l.take (n + 1)) n = rd l n := by
      unfold rd
      simp only [Int.toNat_natCast, List.getD_eq_getElem?_getD, List.getElem?_take]
      rw [if_pos (by omega)]
    simp only [hlen, show (n : Int) + 1 - 1 = n by omega, w64 (show -9223372036854775808 ≤ (n : Int) by omega) (by omega), show (n : Int) + 1 > 0 by omega, show (0 : Int) ≤ (n : Int) by omega, show (n : Int) < (n : Int) + 1 by omega, show (n : Int) ≤ (n : Int) + 1 by omega, if_true, hr, Int.toNat_natCast, List.take_take, show min n (n + 1) = n by omega]
    rw [show trimN l (n + 1) = if rd l n = 0 then trimN l n else l.take (n + 1) from rfl]
    by_cases h : rd l n = 0
    · simp only [h, if_true]
      exact ih (by omega)
    · simp only [h, if_false, clone_ev (l.take (n + 1)) (by rw [List.length_take]; omega), Option.bind_some]
      exact Ev.now _
theorem trimmed_ev (l : List Int) (hl : l.length ≤ 1048576) : Ev (fun q => impl_trimmed.f q l) (trimN l l.length) := by
  unfold impl_trimmed.f
  have h := trimmed_l0 l hl l.length (Nat.le_refl _)
  rw [List.take_length] at h
  exact h
/-- The rows with one number added in the diagonal. -/
def diS (h : Nat → Nat → Int) (c : Int) (i : Nat) : Nat → Nat → Int := fun r q => if r = q ∧ r < i then wrap64 (h r q + c) else h r q
theorem crange_rd (c : Nat → Int) (n i : Nat) (h : i < n) : rd ((List.range n).map c) i = c i := by
  rw [rd_nat _ _ (by simpa using h)]; simp
theorem determinant_l1 (n : Nat) (hn : n ≤ 1048576) (A h : Nat → Nat → Int) (c : Nat → Int) (m : Nat) (hm : m < n) (R : List Int)
    (next : Ev (fun k => (impl_rowsTimes.f k (vmat n A) (vmat n (diS h (c m) n))).bind fun t119 => ((impl_trace.f k t119).bind fun t122 => (if ((m + 1 : Nat) : Int) = 0 then (none) else (if ((List.range (m + 1)).map c).length < 17592186044416 then (impl_determinant.l0 k (vmat n A) ((List.range (m + 1)).map c ++ [wrap64 (Int.tdiv (wrap64 (-t122)) ((m + 1 : Nat) : Int))]) (vmat n (diS h (c m) n)) (wrap64 (((m + 1 : Nat) : Int) + 1))) else (none))))) R) :
    ∀ (d i : Nat), n - i = d → i ≤ n → Ev (fun k => impl_determinant.l1 k (vmat n A) ((List.range (m + 1)).map c) (vmat n (diS h (c m) i)) ((m + 1 : Nat) : Int) n i) R := by
  intro d
  induction d with
  | zero =>
    intro i hd hi
    obtain rfl : i = n := by omega
    refine Ev.step (fun q => by simp only [impl_determinant.l1]; rfl) ?_
    simp only [Int.lt_irrefl, if_false]
    exact next
  | succ d ih =>
    intro i hd hi
    have hin : i < n := by omega
    refine Ev.step (fun q => by simp only [impl_determinant.l1]; rfl) ?_
    simp only [show ((i : Int) < (n : Int)) by omega, show (0 : Int) ≤ (i : Int) by omega, if_true, vmat_length, vmat_row hin, vrow_length, vrow_rd hin, Int.toNat_natCast, show ((m + 1 : Nat) : Int) - 1 = (m : Int) by omega, w64 (show -9223372036854775808 ≤ (m : Int) by omega) (by omega), show (0 : Int) ≤ (m : Int) by omega, List.length_map, List.length_range, show (m : Int) < ((m + 1 : Nat) : Int) by omega, crange_rd c (m + 1) m (by omega), w64 (show -9223372036854775808 ≤ (i : Int) + 1 by omega) (by omega)]
    rw [vrow_set, vmat_set]
    refine Ev.congr (fun q => ?_) (ih (i + 1) (by omega) (by omega))
    rw [show ((i + 1 : Nat) : Int) = (i : Int) + 1 by omega]
    congr 1
    refine vmat_congr fun r q hr hq => ?_
    unfold diS
    by_cases h1 : r = i
    · subst h1
      rw [if_pos rfl]
      by_cases h2 : q = r
      · subst h2
        rw [if_pos rfl, if_neg (by omega), if_pos ⟨rfl, by omega⟩]
      · rw [if_neg h2, if_neg (fun e => h2 e.1.symm), if_neg (fun e => h2 e.1.symm)]
    · rw [if_neg h1]
      by_cases h2 : r = q ∧ r < i
      · rw [if_pos h2, if_pos ⟨h2.1, by omega⟩]
      · rw [if_neg h2, if_neg (fun e => h2 ⟨e.1, by omega⟩)]
/-- The numbers of a determinant, as a list. -/
def cpL (n : Nat) (A : Nat → Nat → Int) : List Int := (List.range (n + 1)).map (la_cp n A)
theorem cpL_length (n : Nat) (A : Nat → Nat → Int) : (cpL n A).length = n + 1 := by simp [cpL]
theorem determinant_l0 (n : Nat) (hn : n ≤ 1048575) (A : Nat → Nat → Int) (hb : ∀ k : Nat, 1 ≤ k → k ≤ n → -9223372036854775807 ≤ (k : Int) * la_cp n A k ∧ (k : Int) * la_cp n A k ≤ 9223372036854775807) :
    ∀ (d m : Nat), n - m = d → m ≤ n → ∀ h : Nat → Nat → Int, (∀ i j, i < n → j < n → cgM (h i j) (la_flB n A (la_cp n A) m i j)) →
      Ev (fun k => impl_determinant.l0 k (vmat n A) ((List.range (m + 1)).map (la_cp n A)) (vmat n h) ((m + 1 : Nat) : Int)) (trimN (cpL n A) (n + 1)) := by
  intro d
  induction d with
  | zero =>
    intro m hd hm h _
    obtain rfl : m = n := by omega
    refine Ev.step (fun q => by simp only [impl_determinant.l0]; rfl) ?_
    simp only [vmat_length, show ¬ (((m + 1 : Nat) : Int) ≤ (m : Int)) by omega, if_false]
    refine Ev.bind (a := trimN (cpL m A) (m + 1)) ?_ (Ev.now _)
    have h := trimmed_ev (cpL m A) (by rw [cpL_length]; omega)
    rw [cpL_length] at h
    exact h
  | succ d ih =>
    intro m hd hm h hcg
    have hmn : m < n := by omega
    refine Ev.step (fun q => by simp only [impl_determinant.l0]; rfl) ?_
    simp only [vmat_length, show (((m + 1 : Nat) : Int) ≤ (n : Int)) by omega, if_true]
    refine Ev.bind (rowsTimes_ev n (by omega) A h) ?_
    simp only [vmat_length]
    have hg : ∀ i j, i < n → j < n → cgM (diS (fun r c => rtA A h r n c) (la_cp n A m) n i j) (la_flB n A (la_cp n A) (m + 1) i j) := by
      intro i j hi hj
      have h1 : cgM (rtA A h i n j) (la_sm n (fun q => A i q * la_flB n A (la_cp n A) m q j)) := cg_trans (rtA_cg A h i j n) (cg_sm (fun q hq => cg_mul (cg_refl _) (hcg q j hq hj)))
      show cgM (diS _ _ n i j) (la_sm n (fun q => A i q * la_flB n A (la_cp n A) m q j) + (if i = j then la_cp n A m else 0))
      unfold diS
      by_cases e : i = j
      · rw [if_pos ⟨e, hi⟩, if_pos e]
        exact cg_trans (cg_wrap _) (cg_add h1 (cg_refl _))
      · rw [if_neg (fun e2 => e e2.1), if_neg e]
        simpa using h1
    have h0 : vmat n (fun r c => rtA A h r n c) = vmat n (diS (fun r c => rtA A h r n c) (la_cp n A m) 0) := vmat_congr fun r c _ _ => by
      unfold diS; rw [if_neg (by omega)]
    rw [h0]
    refine determinant_l1 n (by omega) A _ (la_cp n A) m hmn _ ?_ n 0 (by omega) (by omega)
    refine Ev.bind (rowsTimes_ev n (by omega) A _) ?_
    refine Ev.bind (trace_ev n (by omega) _) ?_
    have hfl := la_cp_fl n A m hmn
    have hbm := hb (m + 1) (by omega) (by omega)
    have htr : cgM (-(trW (fun r c => rtA A (diS (fun r c => rtA A h r n c) (la_cp n A m) n) r n c) n)) (((m + 1 : Nat) : Int) * la_cp n A (m + 1)) := by
      rw [hfl]
      refine cg_neg (cg_trans (trW_cg _ n) (cg_sm (fun i hi => cg_trans (rtA_cg _ _ i i n) (cg_sm (fun j hj => cg_mul (cg_refl _) (hg j i hj hi))))))
    have hw : wrap64 (-(trW (fun r c => rtA A (diS (fun r c => rtA A h r n c) (la_cp n A m) n) r n c) n)) = ((m + 1 : Nat) : Int) * la_cp n A (m + 1) := wrap_of_cg htr ⟨by omega, by omega⟩
    have hdiv : Int.tdiv (((m + 1 : Nat) : Int) * la_cp n A (m + 1)) ((m + 1 : Nat) : Int) = la_cp n A (m + 1) := Int.mul_tdiv_cancel_left _ (by omega)
    have hsmall : -9223372036854775808 ≤ la_cp n A (m + 1) ∧ la_cp n A (m + 1) ≤ 9223372036854775807 := by
      have h1 : (1 : Int) ≤ ((m + 1 : Nat) : Int) := by omega
      generalize ((m + 1 : Nat) : Int) = t at h1 hbm
      generalize la_cp n A (m + 1) = c at hbm
      constructor
      · rcases Int.lt_or_le c 0 with hc | hc
        · have : t * c ≤ 1 * c := Int.mul_le_mul_of_nonpos_right h1 (by omega)
          omega
        · omega
      · rcases Int.lt_or_le c 0 with hc | hc
        · omega
        · have : 1 * c ≤ t * c := Int.mul_le_mul_of_nonneg_right h1 hc
          omega
    simp only [show ¬ (((m + 1 : Nat) : Int) = 0) by omega, if_false, List.length_map, List.length_range, show m + 1 < 17592186044416 by omega, if_true, hw, hdiv, w64 hsmall.1 hsmall.2, w64 (show -9223372036854775808 ≤ ((m + 1 : Nat) : Int) + 1 by omega) (by omega)]
    have hn2 := ih (m + 1) (by omega) (by omega) _ hg
    refine Ev.congr (fun q => ?_) hn2
    rw [show (List.range (m + 1 + 1)).map (la_cp n A) = (List.range (m + 1)).map (la_cp n A) ++ [la_cp n A (m + 1)] by rw [List.range_succ, List.map_append]; rfl]
    rw [show ((m + 1 + 1 : Nat) : Int) = ((m + 1 : Nat) : Int) + 1 by omega]
theorem determinant_ev (n : Nat) (hn : n ≤ 1048575) (A : Nat → Nat → Int) (hb : ∀ k : Nat, 1 ≤ k → k ≤ n → -9223372036854775807 ≤ (k : Int) * la_cp n A k ∧ (k : Int) * la_cp n A k ≤ 9223372036854775807) :
    Ev (fun k => impl_determinant.f k (vmat n A)) (trimN (cpL n A) (n + 1)) := by
  unfold impl_determinant.f
  simp only [vmat_length]
  refine Ev.bind (square_ev n (by omega)) ?_
  rw [vmat_zero]
  have h := determinant_l0 n hn A hb n 0 (by omega) (by omega) (fun _ _ => 0) (fun i j _ _ => cg_refl _)
  refine Ev.congr (fun q => ?_) h
  rw [show (List.range (0 + 1)).map (la_cp n A) = [1] by simp [List.range_succ, la_cp_zero]]
  rfl
theorem vrow_take {m n : Nat} (h : m ≤ n) (g : Nat → Int) : (vrow n g).take m = vrow m g := by
  unfold vrow
  rw [← List.map_take, List.take_range, Nat.min_eq_left h]
/-- The edge matrix, by its places. -/
def eA (l : List (List Int)) (e f : Nat) : Int := if next l e f = true then 1 else 0
theorem edgeM_vmat (l : List (List Int)) : edgeM l = vmat (2 * l.length) (eA l) := by
  unfold edgeM vmat
  apply List.map_congr_left
  intro e _
  unfold mrow vrow
  apply List.map_congr_left
  intro f hf
  have hf' : f < 2 * l.length := List.mem_range.mp hf
  unfold eA
  simp [hf']
theorem opp_lt {n : Nat} {l : List (List Int)} (hl : n = 2 * l.length) {e : Nat} (he : e < n) : opp e < n := by unfold opp; split <;> omega
theorem opp_ne (e : Nat) : opp e ≠ e := by unfold opp; split <;> omega
theorem begAt_opp (l : List (List Int)) (e : Nat) : begAt l (opp e) = endAt l e := by
  unfold begAt endAt opp
  rcases Nat.mod_two_eq_zero_or_one e with h | h
  · rw [if_pos h, show (e + 1) / 2 = e / 2 by omega, show (e + 1) % 2 = 1 - e % 2 by omega]
  · rw [if_neg (by omega), show (e - 1) / 2 = e / 2 by omega, show (e - 1) % 2 = 1 - e % 2 by omega]
theorem eA_eq (l : List (List Int)) (e f : Nat) : eA l e f = (if begAt l f = endAt l e then 1 else 0) - la_ee (opp e) f := by
  unfold eA next la_ee
  by_cases h1 : f = opp e
  · subst h1
    rw [begAt_opp]; simp
  · by_cases h2 : begAt l f = endAt l e
    · simp [h1, h2]
    · simp [h1, h2, Ne.symm h2]
theorem ab_eA (l : List (List Int)) (e f : Nat) : la_ab (eA l e f) = eA l e f := by unfold eA; split <;> rfl
theorem ee_nonneg (j b : Nat) : 0 ≤ la_ee j b := by unfold la_ee; split <;> omega
theorem sm_ee_le (n j : Nat) : la_sm n (la_ee j) ≤ 1 := by
  by_cases h : j < n
  · rw [la_sm_single j h (fun i _ hne => la_ee_ne hne), la_ee_self]; omega
  · rw [la_sm_zero (fun i hi => la_ee_ne (by omega))]; omega
theorem sm_one_le {n : Nat} {f : Nat → Int} (h0 : ∀ a, a < n → 0 ≤ f a) (h1 : ∀ a, a < n → f a ≤ 1) (h : ∀ a b, a < b → b < n → f a = 0 ∨ f b = 0) : la_sm n f ≤ 1 := by
  induction n with
  | zero => simp [la_sm]
  | succ n ih =>
    simp only [la_sm]
    by_cases e : f n = 0
    · have := ih (fun a ha => h0 a (by omega)) (fun a ha => h1 a (by omega)) (fun a b ha hb => h a b ha (by omega)); omega
    · rw [la_sm_zero (fun i hi => (h i n hi (by omega)).resolve_right e)]
      have := h1 n (by omega); omega
theorem pr_two (p : Nat → Prop) [DecidablePred p] (n : Nat) : ∃ c : Nat, (c : Int) = la_sm n (fun a => if p a then 1 else 0) ∧ la_pr n (fun a => if p a then 20 else 4) = 4 ^ n * 5 ^ c := by
  induction n with
  | zero => exact ⟨0, rfl, rfl⟩
  | succ n ih =>
    obtain ⟨c, h1, h2⟩ := ih
    by_cases h : p n
    · refine ⟨c + 1, ?_, ?_⟩
      · simp only [la_sm, if_pos h]; omega
      · simp only [la_pr, if_pos h, h2, Int.pow_succ]; grind
    · refine ⟨c, ?_, ?_⟩
      · simp only [la_sm, if_neg h]; omega
      · simp only [la_pr, if_neg h, h2, Int.pow_succ]; grind
def isRep (l : List (List Int)) (a : Nat) : Prop := ∀ e, e < a → endAt l e ≠ endAt l a
instance (l : List (List Int)) : DecidablePred (isRep l) := fun _ => inferInstanceAs (Decidable (∀ e, e < _ → _))
theorem rep_ex (l : List (List Int)) (a : Nat) : ∃ r, (isRep l a → r = a) ∧ (¬ isRep l a → r < a ∧ isRep l r ∧ endAt l r = endAt l a) := by
  induction a using Nat.strongRecOn with
  | _ a ih =>
    by_cases h : isRep l a
    · exact ⟨a, fun _ => rfl, fun h2 => absurd h h2⟩
    · have : ∃ e, e < a ∧ endAt l e = endAt l a := by
        apply Classical.byContradiction
        intro hc
        exact h (fun e he h2 => hc ⟨e, he, h2⟩)
      obtain ⟨e, he, h2⟩ := this
      obtain ⟨r, hr1, hr2⟩ := ih e he
      by_cases h3 : isRep l e
      · exact ⟨e, fun h4 => absurd h4 h, fun _ => ⟨he, h3, h2⟩⟩
      · obtain ⟨g1, g2, g3⟩ := hr2 h3
        exact ⟨r, fun h4 => absurd h4 h, fun _ => ⟨by omega, g2, g3.trans h2⟩⟩
theorem edge_norm (l : List (List Int)) (hl : l.length ≤ 10) (hE : ∀ e, e < 2 * l.length → ∃ v : Nat, endAt l e = v ∧ v < 8) (k : Nat) (hk : k ≤ 2 * l.length) :
    la_ab (la_cp (2 * l.length) (eA l) k) ≤ 429496729600000000 := by
  obtain ⟨rep, hrep⟩ := Classical.axiomOfChoice (rep_ex l)
  generalize hn : 2 * l.length = n at hE hk ⊢
  have hn20 : n ≤ 20 := by omega
  let x : Nat → Int := fun a => if isRep l a then 0 else -1
  let P : Nat → Nat → Int := fun a b => la_ee a b + x a * la_ee (rep a) b
  let Q : Nat → Nat → Int := fun a b => la_ng (eA l) a b + x a * la_ng (eA l) (rep a) b
  have hdc : ∀ k, k ≤ n → la_cp n (eA l) k = la_dc n P Q k := by
    intro k hk
    refine la_pv_inj (n := n) (fun u _ => ?_) k hk
    show la_pv n (la_dc n (fun a b => la_ee a b) (la_ng (eA l))) u = _
    rw [← la_det_pv, ← la_det_pv, ← la_det_rows_mix (fun a b => la_ee a b + u * la_ng (eA l) a b) rep x (fun a ha hx => ?_)]
    · refine la_det_congr (fun a b _ _ => ?_)
      show _ = (la_ee a b + x a * la_ee (rep a) b) + u * (la_ng (eA l) a b + x a * la_ng (eA l) (rep a) b)
      grind
    · have h1 : ¬ isRep l a := fun h => hx (if_pos h)
      obtain ⟨g1, g2, g3⟩ := (hrep a).2 h1
      exact ⟨by omega, by omega, if_pos g2⟩
  have hrow : ∀ a, a < n → la_sm n (fun b => la_ab (P a b) + la_ab (Q a b)) ≤ if isRep l a then 20 else 4 := by
    intro a ha
    by_cases h : isRep l a
    · rw [if_pos h]
      have e : la_sm n (fun b => la_ab (P a b) + la_ab (Q a b)) = la_sm n (la_ee a) + la_sm n (fun b => eA l a b) := by
        rw [← la_sm_add]
        refine la_sm_congr (fun b _ => ?_)
        have hx : x a = 0 := if_pos h
        show la_ab (la_ee a b + x a * la_ee (rep a) b) + la_ab (la_ng (eA l) a b + x a * la_ng (eA l) (rep a) b) = _
        rw [hx, Int.zero_mul, Int.zero_mul, Int.add_zero, Int.add_zero]
        congr 1
        · unfold la_ee la_ab; split <;> rfl
        · unfold la_ng
          rw [← ab_eA]
          unfold la_ab; omega
      rw [e]
      have h1 := sm_ee_le n a
      have h2 : la_sm n (fun b => eA l a b) ≤ la_sm n (fun b => 1 - la_ee (opp a) b) := la_sm_le (fun b _ => by
        rw [eA_eq]; split <;> omega)
      rw [la_sm_sub, la_sm_single (n := n) (f := la_ee (opp a)) (opp a) (opp_lt hn.symm ha) (fun i _ hne => la_ee_ne hne), la_ee_self] at h2
      have h3 : ∀ m : Nat, la_sm m (fun _ => (1 : Int)) = m := by
        intro m
        induction m with
        | zero => rfl
        | succ m ih => simp only [la_sm, ih]; omega
      rw [h3] at h2
      omega
    · rw [if_neg h]
      obtain ⟨g1, g2, g3⟩ := (hrep a).2 h
      have hx : x a = -1 := if_neg h
      have e : la_sm n (fun b => la_ab (P a b) + la_ab (Q a b)) ≤ la_sm n (fun b => (la_ee a b + la_ee (rep a) b) + (la_ee (opp a) b + la_ee (opp (rep a)) b)) := by
        refine la_sm_le (fun b _ => ?_)
        show la_ab (la_ee a b + x a * la_ee (rep a) b) + la_ab (la_ng (eA l) a b + x a * la_ng (eA l) (rep a) b) ≤ _
        rw [hx]
        unfold la_ng
        rw [eA_eq, eA_eq, g3]
        have := ee_nonneg a b
        have := ee_nonneg (rep a) b
        have := ee_nonneg (opp a) b
        have := ee_nonneg (opp (rep a)) b
        generalize la_ee a b = e1 at *
        generalize la_ee (rep a) b = e2 at *
        generalize la_ee (opp a) b = e3 at *
        generalize la_ee (opp (rep a)) b = e4 at *
        generalize (if begAt l b = endAt l a then (1 : Int) else 0) = z
        unfold la_ab
        omega
      rw [la_sm_add n (fun b => la_ee a b + la_ee (rep a) b) (fun b => la_ee (opp a) b + la_ee (opp (rep a)) b), la_sm_add n (la_ee a) (la_ee (rep a)), la_sm_add n (la_ee (opp a)) (la_ee (opp (rep a)))] at e
      have := sm_ee_le n a
      have := sm_ee_le n (rep a)
      have := sm_ee_le n (opp a)
      have := sm_ee_le n (opp (rep a))
      omega
  obtain ⟨c, hc1, hc2⟩ := pr_two (isRep l) n
  have hc8 : c ≤ 8 := by
    have h1 : la_sm n (fun a => if isRep l a then (1 : Int) else 0) = la_sm n (fun a => la_sm 8 (fun v => if isRep l a ∧ endAt l a = (v : Int) then 1 else 0)) := by
      refine la_sm_congr (fun a ha => ?_)
      obtain ⟨v, hv1, hv2⟩ := hE a ha
      rw [la_sm_single v hv2 (fun i _ hne => if_neg (fun h2 => hne (by have := h2.2; omega)))]
      by_cases h : isRep l a
      · rw [if_pos h, if_pos ⟨h, hv1⟩]
      · rw [if_neg h, if_neg (fun h2 => h h2.1)]
    rw [la_sm_swap] at h1
    have h2 : la_sm 8 (fun v => la_sm n (fun a => if isRep l a ∧ endAt l a = (v : Int) then (1 : Int) else 0)) ≤ la_sm 8 (fun _ => 1) := la_sm_le (fun v _ => sm_one_le (fun a _ => by split <;> omega) (fun a _ => by split <;> omega) (fun a b hab hb => by
      by_cases h : isRep l b ∧ endAt l b = (v : Int)
      · left
        rw [if_neg]
        rintro ⟨h3, h4⟩
        exact h.1 a hab (h4.trans h.2.symm)
      · right; exact if_neg h))
    have h3 : la_sm 8 (fun _ => (1 : Int)) = 8 := rfl
    omega
  have hb := la_dc_bound (n := n) P Q
  have h1 := la_ab_le_sm (n := n + 1) (la_dc n P Q) k (by omega)
  have h2 : la_pr n (fun a => la_sm n (fun b => la_ab (P a b) + la_ab (Q a b))) ≤ la_pr n (fun a => if isRep l a then 20 else 4) :=
    la_pr_le (fun a _ => la_sm_nonneg (fun b _ => by have := la_ab_nonneg (P a b); have := la_ab_nonneg (Q a b); omega)) hrow
  rw [hc2] at h2
  have h4 : (4 : Int) ^ n * 5 ^ c ≤ 4 ^ 20 * 5 ^ 8 := by
    have p4 : (4 : Int) ^ n ≤ 4 ^ 20 := by
      have := Nat.pow_le_pow_right (n := 4) (by omega) hn20
      exact_mod_cast this
    have p5 : (5 : Int) ^ c ≤ 5 ^ 8 := by
      have := Nat.pow_le_pow_right (n := 5) (by omega) hc8
      exact_mod_cast this
    have q5 : (0 : Int) ≤ 5 ^ c := by
      have : (0 : Nat) ≤ 5 ^ c := Nat.zero_le _
      exact_mod_cast this
    exact Int.mul_le_mul p4 p5 q5 (by decide)
  rw [hdc k hk]
  have h5 : (4 : Int) ^ 20 * 5 ^ 8 = 429496729600000000 := by decide
  omega
theorem isG_endAt {a : Int} {l : List (List Int)} (h : isG a l = true) (e : Nat) (he : e < 2 * l.length) : ∃ v : Nat, endAt l e = v ∧ v < 8 := by
  obtain ⟨n, _, _, hn8, hE⟩ := isG_ends h
  obtain ⟨u, v, _, hv, _, hvn⟩ := dart_ends hE e he
  exact ⟨v, hv, by omega⟩
theorem isG_cp {a : Int} {l : List (List Int)} (h : isG a l = true) (k : Nat) (hk : k ≤ 2 * l.length) : -429496729600000000 ≤ la_cp (2 * l.length) (eA l) k ∧ la_cp (2 * l.length) (eA l) k ≤ 429496729600000000 := by
  have := edge_norm l (isG_len h) (isG_endAt h) k hk
  unfold la_ab at this
  omega
theorem isG_cpk {a : Int} {l : List (List Int)} (h : isG a l = true) (k : Nat) (_ : 1 ≤ k) (hk : k ≤ 2 * l.length) : -9223372036854775807 ≤ (k : Int) * la_cp (2 * l.length) (eA l) k ∧ (k : Int) * la_cp (2 * l.length) (eA l) k ≤ 9223372036854775807 := by
  have h1 := isG_cp h k hk
  have hl := isG_len h
  have hk20 : (k : Int) ≤ 20 := by omega
  generalize la_cp (2 * l.length) (eA l) k = c at h1
  have h2 : (k : Int) * c ≤ k * 429496729600000000 := Int.mul_le_mul_of_nonneg_left h1.2 (by omega)
  have h3 : (k : Int) * (-429496729600000000) ≤ k * c := Int.mul_le_mul_of_nonneg_left h1.1 (by omega)
  omega
theorem reciprocal_ev (a : Int) (l : List (List Int)) (h : isG a l = true) : Ev (fun k => impl_Graph_reciprocal.f k a l) (trimN (cpL (2 * l.length) (eA l)) (2 * l.length + 1)) := by
  have hl := isG_len h
  unfold impl_Graph_reciprocal.f
  refine Ev.bind (edgeMatrix_ev a l hl (isG_two h)) ?_
  rw [edgeM_vmat]
  exact Ev.bind (determinant_ev (2 * l.length) (by omega) (eA l) (isG_cpk h)) (Ev.now _)
theorem tmod_nn {x p : Int} (h : 0 ≤ x) : Int.tmod x p = x % p := Int.tmod_eq_emod_of_nonneg h
/-- The value of the first numbers of a list, by Horner's rule, from the place i on. -/
def hor (f : List Int) (u : Int) : Nat → Nat → Int
  | _, 0 => 0
  | i, d + 1 => rd f i + u * hor f u (i + 1) d
theorem un1_pv (n : Nat) (X : Nat → Nat → Int) (u : Int) : la_det n (la_un1 u X) = la_pv n (la_cp n X) u := by
  have h := la_det_pv (n := n) (fun a b => la_ee a b) (la_ng X) u
  unfold la_cp
  rw [← h]
  refine la_det_congr (fun a b _ _ => ?_)
  unfold la_un1 la_ng
  rw [Int.mul_neg]
  omega
theorem cp_sim {n : Nat} {X H : Nat → Nat → Int} (h : ∀ u : Int, la_det n (la_un1 u X) = la_det n (la_un1 u H)) (k : Nat) : la_cp n X k = la_cp n H k := by
  by_cases hk : k ≤ n
  · exact la_pv_inj (n := n) (fun u _ => by rw [← un1_pv, ← un1_pv]; exact h u) k hk
  · unfold la_cp
    rw [la_dc_top _ _ k (by omega), la_dc_top _ _ k (by omega)]
theorem un1_row {n : Nat} {H : Nat → Nat → Int} {i : Nat} (h : ∀ b, b < n → H i b = 0) (u : Int) (b : Nat) (hb : b < n) : la_un1 u H i b = la_ee i b := by
  unfold la_un1; rw [h b hb, Int.mul_zero, Int.sub_zero]
theorem sw_sk (i a : Nat) : la_sw i (i + 1) (la_sk (i + 1) a) = la_sk i a := by
  unfold la_sw la_sk; (repeat' split) <;> omega
/-- A row of zeros may be left out, with its column. -/
theorem un1_skip_row {n : Nat} (u : Int) : ∀ (d i : Nat) (H : Nat → Nat → Int), n - i = d → i ≤ n → (∀ b, b < n + 1 → H i b = 0) → la_det (n + 1) (la_un1 u H) = la_det n (la_un1 u (fun a b => H (la_sk i a) (la_sk i b))) := by
  intro d
  induction d with
  | zero =>
    intro i H hd hi hz
    obtain rfl : i = n := by omega
    rw [la_det_last_row (la_un1 u H) (fun b hb => by rw [un1_row hz u b (by omega), la_ee_ne (by omega)]), un1_row hz u i (by omega), la_ee_self, Int.one_mul]
    refine la_det_congr fun a b ha hb => ?_
    show la_ee a b - u * H a b = la_ee a b - u * H (la_sk i a) (la_sk i b)
    unfold la_sk
    rw [if_pos ha, if_pos hb]
  | succ d ih =>
    intro i H hd hi hz
    have h := ih (i + 1) (fun a b => H (la_sw i (i + 1) a) (la_sw i (i + 1) b)) (by omega) (by omega) (fun b hb => by
      show H (la_sw i (i + 1) (i + 1)) _ = 0
      rw [show la_sw i (i + 1) (i + 1) = i by unfold la_sw; rw [if_neg (by omega), if_pos rfl]]
      exact hz _ (by unfold la_sw; (repeat' split) <;> omega))
    rw [la_det_similar_swap H i (i + 1) (by omega) (by omega) u] at h
    rw [h]
    refine la_det_congr fun a b _ _ => ?_
    show la_ee a b - u * H (la_sw i (i + 1) (la_sk (i + 1) a)) (la_sw i (i + 1) (la_sk (i + 1) b)) = la_ee a b - u * H (la_sk i a) (la_sk i b)
    rw [sw_sk, sw_sk]
theorem un1_skip_col {n : Nat} (u : Int) : ∀ (d i : Nat) (H : Nat → Nat → Int), n - i = d → i ≤ n → (∀ a, a < n + 1 → H a i = 0) → la_det (n + 1) (la_un1 u H) = la_det n (la_un1 u (fun a b => H (la_sk i a) (la_sk i b))) := by
  intro d
  induction d with
  | zero =>
    intro i H hd hi hz
    obtain rfl : i = n := by omega
    have e : ∀ a, a < i + 1 → la_un1 u H a i = la_ee a i := fun a ha => by unfold la_un1; rw [hz a ha, Int.mul_zero, Int.sub_zero]
    rw [la_det_last_col (la_un1 u H) (fun a ha => by rw [e a (by omega), la_ee_ne (by omega)]), e i (by omega), la_ee_self, Int.one_mul]
    refine la_det_congr fun a b ha hb => ?_
    show la_ee a b - u * H a b = la_ee a b - u * H (la_sk i a) (la_sk i b)
    unfold la_sk
    rw [if_pos ha, if_pos hb]
  | succ d ih =>
    intro i H hd hi hz
    have h := ih (i + 1) (fun a b => H (la_sw i (i + 1) a) (la_sw i (i + 1) b)) (by omega) (by omega) (fun a ha => by
      show H _ (la_sw i (i + 1) (i + 1)) = 0
      rw [show la_sw i (i + 1) (i + 1) = i by unfold la_sw; rw [if_neg (by omega), if_pos rfl]]
      exact hz _ (by unfold la_sw; (repeat' split) <;> omega))
    rw [la_det_similar_swap H i (i + 1) (by omega) (by omega) u] at h
    rw [h]
    refine la_det_congr fun a b _ _ => ?_
    show la_ee a b - u * H (la_sw i (i + 1) (la_sk (i + 1) a)) (la_sw i (i + 1) (la_sk (i + 1) b)) = la_ee a b - u * H (la_sk i a) (la_sk i b)
    rw [sw_sk, sw_sk]
/-- Of two sizes. -/
theorem cp_sim2 {n m : Nat} (hmn : m ≤ n) {X H : Nat → Nat → Int} (h : ∀ u : Int, la_det n (la_un1 u X) = la_det m (la_un1 u H)) (k : Nat) : la_cp n X k = la_cp m H k := by
  have hz : ∀ k, m < k → la_cp m H k = 0 := fun k hk => la_dc_top _ _ k hk
  by_cases hk : k ≤ n
  · exact la_pv_inj (n := n) (fun u _ => by rw [← un1_pv, h u, un1_pv, la_pv_more _ u hmn hz]) k hk
  · rw [hz k (by omega)]
    exact la_dc_top _ _ k (by omega)
/-- The directed edges when edge q is taken out. -/
def skp2 (q a : Nat) : Nat := if a < 2 * q then a else a + 2
theorem sk_skp2 {q r : Nat} (hr : r = 2 * q ∨ r = 2 * q + 1) (a : Nat) : la_sk r (la_sk (2 * q) a) = skp2 q a := by
  unfold la_sk skp2; rcases hr with rfl | rfl <;> (repeat' split) <;> omega
theorem opp_skp2 (q b : Nat) : opp (skp2 q b) = skp2 q (opp b) := by
  unfold opp skp2; (repeat' split) <;> omega
theorem skp2_inj {q a b : Nat} (h : skp2 q a = skp2 q b) : a = b := by
  unfold skp2 at h; (repeat' split at h) <;> omega
theorem erase_row (l : List (List Int)) (q : Nat) (hq : q < l.length) (i : Nat) (hi : i < l.length - 1) : rd_L1 (l.eraseIdx q) (i : Int) = rd_L1 l ((if i < q then i else i + 1 : Nat) : Int) := by
  have hle : (l.eraseIdx q).length = l.length - 1 := List.length_eraseIdx_of_lt hq
  rw [rdL1_nat _ i (by omega), List.getElem_eraseIdx]
  by_cases h : i < q
  · rw [dif_pos h, if_pos h, rdL1_nat l i (by omega)]
  · rw [dif_neg h, if_neg h, rdL1_nat l (i + 1) (by omega)]
theorem erase_endAt (l : List (List Int)) (q : Nat) (hq : q < l.length) (e : Nat) (he : e < 2 * (l.length - 1)) : endAt (l.eraseIdx q) e = endAt l (skp2 q e) ∧ begAt (l.eraseIdx q) e = begAt l (skp2 q e) := by
  have h := erase_row l q hq (e / 2) (by omega)
  have e1 : skp2 q e / 2 = if e / 2 < q then e / 2 else e / 2 + 1 := by unfold skp2; (repeat' split) <;> omega
  have e2 : skp2 q e % 2 = e % 2 := by unfold skp2; (repeat' split) <;> omega
  unfold endAt begAt
  rw [h, e1, e2]
  exact ⟨rfl, rfl⟩
theorem erase_eA (l : List (List Int)) (q : Nat) (hq : q < l.length) (a b : Nat) (ha : a < 2 * (l.length - 1)) (hb : b < 2 * (l.length - 1)) : eA (l.eraseIdx q) a b = eA l (skp2 q a) (skp2 q b) := by
  unfold eA next
  rw [(erase_endAt l q hq a ha).1, (erase_endAt l q hq b hb).2, opp_skp2]
  have e : decide (b = opp a) = decide (skp2 q b = skp2 q (opp a)) := decide_eq_decide.2 ⟨fun h => by rw [h], fun h => skp2_inj h⟩
  rw [e]
/-- A leaf's edge taken out leaves the polynomial. -/
theorem leaf_cp (l : List (List Int)) (w q : Nat) (hq : q < l.length) (h1 : hasV w (rd_L1 l (q : Int)) = true) (hd : degN l l.length w = 1) (ho : ∀ j, j < l.length → j ≠ q → hasV w (rd_L1 l (j : Int)) = false) (k : Nat) :
    la_cp (2 * (l.eraseIdx q).length) (eA (l.eraseIdx q)) k = la_cp (2 * l.length) (eA l) k := by
  have hle : (l.eraseIdx q).length = l.length - 1 := List.length_eraseIdx_of_lt hq
  -- one end of edge q is w, the other isn't
  have hone : ∀ i, i ≤ l.length → q < i → (if rd (rd_L1 l (q : Int)) 0 = (w : Int) then 1 else 0) + (if rd (rd_L1 l (q : Int)) 1 = (w : Int) then 1 else 0) ≤ degN l i w := by
    intro i
    induction i with
    | zero => intro _ h; omega
    | succ i ih =>
      intro hi hqi
      by_cases e : i = q
      · subst e; unfold degN; omega
      · have := ih (by omega) (by omega)
        unfold degN; omega
  have hle1 := hone l.length (Nat.le_refl _) hq
  rw [hd] at hle1
  have hends : (rd (rd_L1 l (q : Int)) 0 = (w : Int) ∧ rd (rd_L1 l (q : Int)) 1 ≠ (w : Int)) ∨ (rd (rd_L1 l (q : Int)) 0 ≠ (w : Int) ∧ rd (rd_L1 l (q : Int)) 1 = (w : Int)) := by
    unfold hasV at h1
    rw [Bool.or_eq_true, decide_eq_true_eq, decide_eq_true_eq] at h1
    by_cases c0 : rd (rd_L1 l (q : Int)) 0 = (w : Int)
    · by_cases c1 : rd (rd_L1 l (q : Int)) 1 = (w : Int)
      · rw [if_pos c0, if_pos c1] at hle1; omega
      · exact .inl ⟨c0, c1⟩
    · rcases h1 with h1 | h1
      · exact absurd h1 c0
      · exact .inr ⟨c0, h1⟩
  -- r ends at w, and no other directed edge does
  obtain ⟨r, hr, hrw, hrb⟩ : ∃ r, (r = 2 * q ∨ r = 2 * q + 1) ∧ endAt l r = (w : Int) ∧ begAt l r ≠ (w : Int) := by
    rcases hends with ⟨c0, c1⟩ | ⟨c0, c1⟩
    · refine ⟨2 * q + 1, .inr rfl, ?_, ?_⟩
      · unfold endAt; rw [show (2 * q + 1) / 2 = q by omega, show 1 - (2 * q + 1) % 2 = 0 by omega]; exact c0
      · unfold begAt; rw [show (2 * q + 1) / 2 = q by omega, show (2 * q + 1) % 2 = 1 by omega]; exact c1
    · refine ⟨2 * q, .inl rfl, ?_, ?_⟩
      · unfold endAt; rw [show (2 * q) / 2 = q by omega, show 1 - (2 * q) % 2 = 1 by omega]; exact c1
      · unfold begAt; rw [show (2 * q) / 2 = q by omega, show (2 * q) % 2 = 0 by omega]; exact c0
  have hopp : opp r = 2 * q ∨ opp r = 2 * q + 1 := by unfold opp; rcases hr with rfl | rfl <;> split <;> omega
  have hor : opp r ≠ r := opp_ne r
  have hbw : ∀ f, f < 2 * l.length → begAt l f = (w : Int) → f = opp r := by
    intro f hf hb
    by_cases e : f / 2 = q
    · by_cases e2 : f = r
      · rw [e2] at hb; exact absurd hb hrb
      · rcases hr with rfl | rfl <;> rcases hopp with h | h <;> omega
    · have := ho (f / 2) (by omega) e
      unfold hasV at this
      rw [Bool.or_eq_false_iff, decide_eq_false_iff_not, decide_eq_false_iff_not] at this
      unfold begAt at hb
      rcases Nat.mod_two_eq_zero_or_one f with hm | hm
      · rw [hm] at hb; exact absurd hb this.1
      · rw [hm] at hb; exact absurd hb this.2
  have hew : ∀ f, f < 2 * l.length → endAt l f = (w : Int) → f = r := by
    intro f hf hb
    have h := hbw (opp f) (opp_lt rfl hf) (by rw [begAt_opp]; exact hb)
    have h2 : opp (opp f) = f := by unfold opp; (repeat' split) <;> omega
    have h3 : opp (opp r) = r := by unfold opp; (repeat' split) <;> omega
    rw [← h2, h, h3]
  have hrow : ∀ b, b < 2 * l.length → eA l r b = 0 := by
    intro b hb
    unfold eA next
    by_cases e : begAt l b = (w : Int)
    · have := hbw b hb e
      simp [this]
    · have : ¬ endAt l r = begAt l b := fun h => e (h.symm.trans hrw)
      simp [this]
  have hcol : ∀ a, a < 2 * l.length → a ≠ r → eA l a (opp r) = 0 := by
    intro a ha har
    unfold eA next
    have : ¬ endAt l a = begAt l (opp r) := fun h => har (hew a ha (by rw [h, begAt_opp]; exact hrw))
    simp [this]
  obtain ⟨m, hm⟩ : ∃ m, l.length = m + 1 := ⟨l.length - 1, by omega⟩
  have hn : 2 * l.length = 2 * m + 1 + 1 := by omega
  refine (cp_sim2 (by omega) (fun u => ?_) k).symm
  rw [hle, hm, show 2 * (m + 1) = 2 * m + 1 + 1 by omega, Nat.add_sub_cancel]
  rw [un1_skip_row u _ r (eA l) rfl (by omega) (fun b hb => hrow b (by omega))]
  have hsk : la_sk r (2 * q) = opp r := by
    unfold la_sk; rcases hr with rfl | rfl
    · rw [if_neg (by omega)]; rcases hopp with h | h <;> omega
    · rw [if_pos (by omega)]; rcases hopp with h | h <;> omega
  rw [un1_skip_col u _ (2 * q) (fun a b => eA l (la_sk r a) (la_sk r b)) rfl (by omega) (fun a ha => by
    show eA l (la_sk r a) (la_sk r (2 * q)) = 0
    rw [hsk]
    exact hcol _ (by unfold la_sk; split <;> omega) (la_sk_ne r a))]
  refine la_det_congr fun a b ha hb => ?_
  show la_ee a b - u * eA l (la_sk r (la_sk (2 * q) a)) (la_sk r (la_sk (2 * q) b)) = la_ee a b - u * eA (l.eraseIdx q) a b
  rw [sk_skp2 hr, sk_skp2 hr, erase_eA l q hq a b (by omega) (by omega)]
theorem sh_inj {w x y : Nat} (hx : x < 8) (hy : y < 8) (hxw : x ≠ w) (hyw : y ≠ w) (h : sh (w : Int) (x : Int) = sh (w : Int) (y : Int)) : x = y := by
  unfold sh at h
  by_cases c1 : (x : Int) > (w : Int)
  · rw [if_pos c1, w64 (by omega) (by omega)] at h
    by_cases c2 : (y : Int) > (w : Int)
    · rw [if_pos c2, w64 (by omega) (by omega)] at h; omega
    · rw [if_neg c2] at h; omega
  · rw [if_neg c1] at h
    by_cases c2 : (y : Int) > (w : Int)
    · rw [if_pos c2, w64 (by omega) (by omega)] at h; omega
    · rw [if_neg c2] at h; omega
/-- Vertices numbered anew leave the edge matrix. -/
theorem shift_eA (n w : Nat) (hn : n ≤ 8) (l : List (List Int)) (hE : endsIn n l) (hw : ∀ j, j < l.length → hasV w (rd_L1 l (j : Int)) = false) (a b : Nat) (ha : a < 2 * l.length) (hb : b < 2 * l.length) : eA (l.map (List.map (sh w))) a b = eA l a b := by
  have hrow : ∀ i, i < l.length → rd_L1 (l.map (List.map (sh w))) (i : Int) = (rd_L1 l (i : Int)).map (sh w) := fun i hi => by
    rw [rdL1_nat _ i (by rw [List.length_map]; exact hi), List.getElem_map, rdL1_nat l i hi]
  have hend : ∀ i z : Nat, i < l.length → z < 2 → ∃ x : Nat, rd (rd_L1 l (i : Int)) (z : Int) = x ∧ x < 8 ∧ x ≠ w ∧ rd (rd_L1 (l.map (List.map (sh w))) (i : Int)) (z : Int) = sh w x := by
    intro i z hi hz
    obtain ⟨h2, x, y, hx, hy, hxn, hyn⟩ := hE i hi
    have hh := hw i hi
    unfold hasV at hh
    rw [Bool.or_eq_false_iff, decide_eq_false_iff_not, decide_eq_false_iff_not, hx, hy] at hh
    rw [hrow i hi, two_form h2, hx, hy]
    rcases (show z = 0 ∨ z = 1 by omega) with rfl | rfl
    · exact ⟨x, rfl, by omega, by omega, rfl⟩
    · exact ⟨y, rfl, by omega, by omega, rfl⟩
  obtain ⟨x, hx, hx8, hxw, hx'⟩ := hend (a / 2) (1 - a % 2) (by omega) (by omega)
  obtain ⟨y, hy, hy8, hyw, hy'⟩ := hend (b / 2) (b % 2) (by omega) (by omega)
  unfold eA next
  have e1 : endAt (l.map (List.map (sh w))) a = sh w x := hx'
  have e2 : begAt (l.map (List.map (sh w))) b = sh w y := hy'
  have e3 : endAt l a = (x : Int) := hx
  have e4 : begAt l b = (y : Int) := hy
  rw [e1, e2, e3, e4]
  have e : decide (sh (w : Int) (x : Int) = sh (w : Int) (y : Int)) = decide ((x : Int) = (y : Int)) := decide_eq_decide.2 ⟨fun h => by rw [sh_inj hx8 hy8 hxw hyw h], fun h => by rw [h]⟩
  rw [e]
/-- One step of the pruning leaves the polynomial. -/
theorem prL_cp (n w : Nat) (hn : n ≤ 8) (l : List (List Int)) (hE : endsIn n l) (hd : degN l l.length w = 1) (k : Nat) : la_cp (2 * (prL w l).length) (eA (prL w l)) k = la_cp (2 * l.length) (eA l) k := by
  obtain ⟨q, hq, hq1, hq2⟩ := degN_one hd
  have e : prL w l = (l.eraseIdx q).map (List.map (sh w)) := by
    unfold prL
    rw [filter_erase (fun e => !(hasV w e)) l q hq (by rw [← rdL1_nat l q hq, hq1]; rfl) (fun j hj hne => by rw [← rdL1_nat l j hj, hq2 j hj hne]; rfl)]
  have hle : (l.eraseIdx q).length = l.length - 1 := List.length_eraseIdx_of_lt hq
  have hrow : ∀ i, i < (l.eraseIdx q).length → ∃ j, j < l.length ∧ j ≠ q ∧ rd_L1 (l.eraseIdx q) (i : Int) = rd_L1 l (j : Int) := fun i hi => by
    refine ⟨if i < q then i else i + 1, by split <;> omega, by split <;> omega, erase_row l q hq i (by omega)⟩
  have hE' : endsIn n (l.eraseIdx q) := fun i hi => by
    obtain ⟨j, hj, _, hr⟩ := hrow i hi
    rw [hr]; exact hE j hj
  have hw' : ∀ i, i < (l.eraseIdx q).length → hasV w (rd_L1 (l.eraseIdx q) (i : Int)) = false := fun i hi => by
    obtain ⟨j, hj, hjq, hr⟩ := hrow i hi
    rw [hr]; exact hq2 j hj hjq
  rw [← leaf_cp l w q hq hq1 hd hq2 k, e, List.length_map]
  refine cp_sim (fun u => la_det_congr fun a b ha hb => ?_) k
  unfold la_un1
  rw [shift_eA n w hn _ hE' hw' a b ha hb]
/-- What the pruning leaves: fewer vertices, none of the degree 1, the same polynomial. -/
def PP (n : Nat) (l : List (List Int)) (R : Int × List (List Int)) : Prop := ∃ m : Nat, R.1 = m ∧ m ≤ n ∧ (1 ≤ n → 1 ≤ m) ∧ endsIn m R.2 ∧ (∀ v, v < m → degN R.2 R.2.length v ≠ 1) ∧ R.2.length ≤ l.length ∧ ∀ k, la_cp (2 * R.2.length) (eA R.2) k = la_cp (2 * l.length) (eA l) k
theorem degN_ge (l : List (List Int)) (q w : Nat) : ∀ i, q < i → (if rd (rd_L1 l (q : Int)) 0 = (w : Int) then 1 else 0) + (if rd (rd_L1 l (q : Int)) 1 = (w : Int) then 1 else 0) ≤ degN l i w := by
  intro i
  induction i with
  | zero => intro h; omega
  | succ i ih =>
    intro hqi
    by_cases e : i = q
    · subst e; unfold degN; omega
    · have := ih (by omega)
      unfold degN; omega
theorem pp_step (n : Nat) (hn : n + 1 ≤ 8) (l : List (List Int)) (hE : endsIn (n + 1) l) (w : Nat) (hw : w < n + 1) (hd : degN l l.length w = 1) (R : Int × List (List Int)) (h : PP n (prL w l) R) : PP (n + 1) l R := by
  obtain ⟨m, e, h1, h2, h3, h4, h5, h6⟩ := h
  refine ⟨m, e, by omega, fun _ => h2 ?_, h3, h4, Nat.le_trans h5 (prL_len _ _), fun k => (h6 k).trans (prL_cp (n + 1) w hn l hE hd k)⟩
  obtain ⟨q, hq, _, _⟩ := degN_one hd
  obtain ⟨_, x, y, hx, hy, hxn, hyn⟩ := hE q hq
  have hg := degN_ge l q w l.length hq
  rw [hd, hx, hy] at hg
  by_cases hn0 : n = 0
  · rw [if_pos (by omega), if_pos (by omega)] at hg; omega
  · omega
theorem prune_all : ∀ (n : Nat), n ≤ 8 → ∀ (l : List (List Int)), l.length ≤ 10 → endsIn n l → ∃ R : Int × List (List Int), Ev (fun k => spec_l02Prune.l0 k 0 n l) R ∧ Ev (fun k => impl_PruneGraph.l0 k n l) (R.1, R.2, 0) ∧ R.2.length ≤ 10 ∧ two R.2 ∧ PP n l R := by
  intro n
  induction n with
  | zero =>
    intro _ l hl hE
    have h2 := ends_two hE
    refine ⟨(0, l), ?_, ?_, hl, h2, 0, rfl, Nat.le_refl _, fun h => h, hE, fun v h => absurd h (by omega), Nat.le_refl _, fun k => rfl⟩
    · refine Ev.step (fun k => by simp only [spec_l02Prune.l0]; rfl) ?_
      simp only [show ¬ ((0 : Int) < ((0 : Nat) : Int)) by omega, if_false]
      exact Ev.now _
    · refine Ev.step (fun k => by simp only [impl_PruneGraph.l0]; rfl) ?_
      refine Ev.bind (degrees_ev 0 (by omega) l (by omega) hE) ?_
      have hi := index_none (degL 0 l l.length) (by rw [degL_length]; unfold maxLen; omega) 1 (fun j h => absurd h (by rw [degL_length]; omega)) _ 0 rfl (by omega)
      refine Ev.bind (show Ev (fun k => slices_Index_int64_int64.f k (degL 0 l l.length) 1) (-1) from hi) ?_
      simp only [show (-1 : Int) < 0 by omega, if_true]
      exact Ev.now _
  | succ n ih =>
    intro hn l hl hE
    have h2 := ends_two hE
    have hx : ∀ x ∈ l, x.length ≤ 1048576 := fun x hx => by have := h2 x hx; omega
    have hdl : (degL (n + 1) l l.length).length = n + 1 := degL_length _ _ _
    have hat : ∀ w (h : w < n + 1), (degL (n + 1) l l.length)[w]'(by rw [hdl]; exact h) = (degN l l.length w : Int) := by
      intro w h
      rw [← rd_nat _ w (by rw [hdl]; exact h)]
      exact degL_rd _ _ _ _ h
    rcases first_or_none (n + 1) (fun w => decide (degN l l.length w = 1)) with ⟨w, hw, hp, hf⟩ | hno
    · have hp' : degN l l.length w = 1 := by simpa using hp
      have hf' : ∀ u, u < w → degN l l.length u ≠ 1 := fun u hu => by simpa using hf u hu
      obtain ⟨R, hs, him, hR1, hR2, hP⟩ := ih (by omega) (prL w l) (Nat.le_trans (prL_len _ _) hl) (by have := prL_ends hn hw hE; simpa using this)
      have hwn : wrap64 (((n + 1 : Nat) : Int) - 1) = (n : Int) := by rw [w64 (by omega) (by omega)]; omega
      refine ⟨R, ?_, ?_, hR1, hR2, pp_step n hn l hE w hw hp' R hP⟩
      · have hscan : ∀ (d u : Nat), w - u = d → u ≤ w → Ev (fun k => spec_l02Prune.l0 k u ((n + 1 : Nat) : Int) l) R := by
          intro d
          induction d with
          | zero =>
            intro u hd hu
            obtain rfl : u = w := by omega
            refine Ev.step (fun k => by simp only [spec_l02Prune.l0]; rfl) ?_
            simp only [show ((u : Int) < ((n + 1 : Nat) : Int)) by omega, if_true]
            refine Ev.bind (l01Degree_ev _ l (by omega) h2 u) ?_
            simp only [hp', show ((1 : Nat) : Int) = 1 from rfl, if_true]
            have h1 := l02Prune_l1 (u : Int) ((n + 1 : Nat) : Int) l (by omega) h2 R (by rw [hwn]; exact hs) _ 0 rfl (by omega)
            exact h1
          | succ d ih2 =>
            intro u hd hu
            have hne := hf' u (by omega)
            refine Ev.step (fun k => by simp only [spec_l02Prune.l0]; rfl) ?_
            simp only [show ((u : Int) < ((n + 1 : Nat) : Int)) by omega, if_true]
            refine Ev.bind (l01Degree_ev _ l (by omega) h2 u) ?_
            simp only [show ¬ ((degN l l.length u : Int) = 1) by omega, if_false, w64 (show -9223372036854775808 ≤ (u : Int) + 1 by omega) (by omega)]
            exact ih2 (u + 1) (by omega) (by omega)
        exact hscan w 0 rfl (by omega)
      · refine Ev.step (fun k => by simp only [impl_PruneGraph.l0]; rfl) ?_
        refine Ev.bind (degrees_ev (n + 1) (by omega) l (by omega) hE) ?_
        have hi := index_first (degL (n + 1) l l.length) (by rw [hdl]; unfold maxLen; omega) 1 w (by rw [hdl]; exact hw) (by rw [hat w hw, hp']; rfl) (fun j hj => by rw [hat j (by omega)]; have := hf' j hj; omega) _ 0 rfl (by omega)
        refine Ev.bind (show Ev (fun k => slices_Index_int64_int64.f k (degL (n + 1) l l.length) 1) (w : Int) from hi) ?_
        simp only [show ¬ ((w : Int) < 0) by omega, if_false]
        obtain ⟨q, hq, hq1, hq2⟩ := degN_one hp'
        have hix : Ev (fun k => impl_PruneGraph_1.f k l (w : Int)) (q : Int) := by
          have h3 := idxM_first (hasV w) (fun k x => slices_Contains_int64_int64.f k x (w : Int)) l q hq (fun x hxm => by
            have h4 := contains_ev x (by have := h2 x hxm; unfold maxLen; omega) (w : Int)
            rw [mem_hasV (h2 x hxm)] at h4
            exact h4) (by rw [← rdL1_nat l q hq]; exact hq1) (fun j hj => by rw [← rdL1_nat l j (by omega)]; exact hq2 j (by omega) (by omega)) 0
          rw [Nat.zero_add] at h3
          exact h3
        refine Ev.bind hix ?_
        refine Ev.bind (deleted_ev _ l (by omega) hx q hq) ?_
        refine Ev.bind (withoutV_ev _ (w : Int) (l.eraseIdx q) (by have := List.length_eraseIdx_le l q; omega) (fun x hxm => hx x (List.mem_of_mem_eraseIdx hxm)) (two_erase h2 q)) ?_
        have e : (l.eraseIdx q).map (List.map (sh w)) = prL w l := by
          unfold prL
          rw [filter_erase (fun e => !(hasV w e)) l q hq (by rw [← rdL1_nat l q hq, hq1]; rfl) (fun j hj hne => by rw [← rdL1_nat l j hj, hq2 j hj hne]; rfl)]
        rw [e]
        simp only [hwn]
        exact him
    · have hno' : ∀ w, w < n + 1 → degN l l.length w ≠ 1 := fun w hw => by simpa using hno w hw
      refine ⟨(((n + 1 : Nat) : Int), l), ?_, ?_, hl, h2, n + 1, rfl, Nat.le_refl _, fun h => h, hE, fun v hv => hno' v hv, Nat.le_refl _, fun k => rfl⟩
      · have hscan : ∀ (d u : Nat), n + 1 - u = d → u ≤ n + 1 → Ev (fun k => spec_l02Prune.l0 k u ((n + 1 : Nat) : Int) l) (((n + 1 : Nat) : Int), l) := by
          intro d
          induction d with
          | zero =>
            intro u hd hu
            obtain rfl : u = n + 1 := by omega
            refine Ev.step (fun k => by simp only [spec_l02Prune.l0]; rfl) ?_
            simp only [Int.lt_irrefl, if_false]
            exact Ev.now _
          | succ d ih2 =>
            intro u hd hu
            have hne := hno' u (by omega)
            refine Ev.step (fun k => by simp only [spec_l02Prune.l0]; rfl) ?_
            simp only [show ((u : Int) < ((n + 1 : Nat) : Int)) by omega, if_true]
            refine Ev.bind (l01Degree_ev _ l (by omega) h2 u) ?_
            simp only [show ¬ ((degN l l.length u : Int) = 1) by omega, if_false, w64 (show -9223372036854775808 ≤ (u : Int) + 1 by omega) (by omega)]
            exact ih2 (u + 1) (by omega) (by omega)
        exact hscan (n + 1) 0 rfl (by omega)
      · refine Ev.step (fun k => by simp only [impl_PruneGraph.l0]; rfl) ?_
        refine Ev.bind (degrees_ev (n + 1) (by omega) l (by omega) hE) ?_
        have hi := index_none (degL (n + 1) l l.length) (by rw [hdl]; unfold maxLen; omega) 1 (fun j h => by rw [hat j (by rw [← hdl]; exact h)]; have := hno' j (by rw [← hdl]; exact h); omega) _ 0 rfl (by omega)
        refine Ev.bind (show Ev (fun k => slices_Index_int64_int64.f k (degL (n + 1) l l.length) 1) (-1) from hi) ?_
        simp only [show (-1 : Int) < 0 by omega, if_true]
        exact Ev.now _
theorem isG_back {m : Nat} (h1 : 1 ≤ m) (h8 : m ≤ 8) {l : List (List Int)} (hl : l.length ≤ 10) (hE : endsIn m l) : isG m l = true := by
  unfold isG
  simp only [Bool.and_eq_true, decide_eq_true_eq, List.all_eq_true]
  refine ⟨by omega, by omega, hl, fun x hx => ?_⟩
  obtain ⟨i, hi, rfl⟩ := List.getElem_of_mem hx
  obtain ⟨h2, u, v, hu, hv, hun, hvn⟩ := hE i hi
  rw [rdL1_nat l i hi] at h2 hu hv
  unfold edgeIn endIn
  rw [hu, hv, w64 (by omega) (by omega)]
  simp only [Bool.and_eq_true, decide_eq_true_eq]
  omega
/-- Numbers 0 at the end don't matter to what is trimmed. -/
theorem trimN_vrow (c : Nat → Int) : ∀ (d m : Nat), (∀ k, m < k → c k = 0) → trimN (vrow (m + d + 1) c) (m + d + 1) = trimN (vrow (m + 1) c) (m + 1) := by
  intro d
  induction d with
  | zero => intro m _; rfl
  | succ d ih =>
    intro m hz
    rw [← ih m hz]
    have h0 : rd (vrow (m + (d + 1) + 1) c) ((m + (d + 1) : Nat) : Int) = 0 := by rw [vrow_rd (by omega)]; exact hz _ (by omega)
    show (if rd (vrow (m + (d + 1) + 1) c) ((m + (d + 1) : Nat) : Int) = 0 then trimN (vrow (m + (d + 1) + 1) c) (m + (d + 1)) else _) = _
    rw [if_pos h0]
    have key : ∀ k, k ≤ m + d + 1 → trimN (vrow (m + (d + 1) + 1) c) k = trimN (vrow (m + d + 1) c) k := by
      intro k
      induction k with
      | zero => intro _; rfl
      | succ k ihk =>
        intro hk
        show (if rd (vrow (m + (d + 1) + 1) c) (k : Int) = 0 then trimN (vrow (m + (d + 1) + 1) c) k else (vrow (m + (d + 1) + 1) c).take (k + 1)) = (if rd (vrow (m + d + 1) c) (k : Int) = 0 then trimN (vrow (m + d + 1) c) k else (vrow (m + d + 1) c).take (k + 1))
        rw [vrow_rd (by omega), vrow_rd (by omega), ihk (by omega), vrow_take (by omega), vrow_take (by omega)]
    exact key _ (by omega)
theorem and30 (X : Int) : 0 ≤ Go.bits .and .u64 X 1073741823 ∧ Go.bits .and .u64 X 1073741823 ≤ 1073741823 := by
  have h : (BitVec.ofInt 64 X &&& BitVec.ofInt 64 1073741823).toNat ≤ 1073741823 := by
    rw [BitVec.toNat_and]
    exact Nat.and_le_right
  have e : Go.bits .and .u64 X 1073741823 = IntKind.u64.wrap ((BitVec.ofInt 64 X &&& BitVec.ofInt 64 1073741823).toNat : Int) := rfl
  rw [e, IntKind.wrap_u64]
  omega
/-- What the code of a draw holds: bytes. -/
def bytesOK (s : List Int) : Prop := s.length ≤ maxLen ∧ ∀ x ∈ s, 0 ≤ x ∧ x ≤ 255
theorem next_ev {s : List Int} (hs : bytesOK s) (t h n : Int) (ht : 0 ≤ t ∧ t ≤ s.length) : ∃ x t' h', spec_l01Next.f s t h n = some (x, t', h') ∧ (0 ≤ t' ∧ t' ≤ s.length) ∧ (n < 1 → x = 0) ∧ (1 ≤ n → 0 ≤ x ∧ x < n) := by
  have hm : s.length ≤ 9223372036854775807 := hs.1
  unfold spec_l01Next.f
  by_cases h1 : n < 1
  · rw [if_pos h1]
    exact ⟨0, t, h, rfl, ht, fun _ => rfl, fun h2 => by omega⟩
  · rw [if_neg h1]
    generalize (IntKind.u64.wrap ((IntKind.u64.wrap (h * 6364136223846793005)) + 1442695040888963407)) = h'
    obtain ⟨a0, a1⟩ := and30 (h' / 2147483648)
    generalize Go.bits .and .u64 (h' / 2147483648) 1073741823 = y at a0 a1 ⊢
    rw [w64 (n := y) (by omega) (by omega)]
    by_cases h2 : t < (s.length : Int)
    · obtain ⟨i, rfl⟩ : ∃ i : Nat, t = i := ⟨t.toNat, by omega⟩
      have hi : i < s.length := by omega
      have hb := hs.2 s[i] (List.getElem_mem hi)
      rw [if_pos h2, if_pos ht.1, if_neg (by omega), rd_nat s i hi, w64 (n := s[i]) (by omega) (by omega), w64 (n := y + s[i]) (by omega) (by omega), w64 (n := (i : Int) + 1) (by omega) (by omega), tmod_nn (by omega)]
      exact ⟨_, _, _, rfl, ⟨by omega, by omega⟩, fun h3 => absurd h3 h1, fun h3 => ⟨Int.emod_nonneg _ (by omega), Int.emod_lt_of_pos _ (by omega)⟩⟩
    · rw [if_neg h2, if_neg (by omega), tmod_nn a0]
      exact ⟨_, _, _, rfl, ht, fun h3 => absurd h3 h1, fun h3 => ⟨Int.emod_nonneg _ (by omega), Int.emod_lt_of_pos _ (by omega)⟩⟩
theorem pick_ev {s : List Int} (hs : bytesOK s) (t h : Int) (l : List Int) (hl : 0 < l.length) (ht : 0 ≤ t ∧ t ≤ s.length) : ∃ x t' h', spec_l01Pick.f s t h l = some (x, t', h') ∧ (0 ≤ t' ∧ t' ≤ s.length) ∧ x ∈ l := by
  obtain ⟨x, t', h', e, h1, _, h2⟩ := next_ev hs t h (l.length : Int) ht
  have h2 := h2 (by omega)
  obtain ⟨i, rfl⟩ : ∃ i : Nat, x = i := ⟨x.toNat, by omega⟩
  unfold spec_l01Pick.f
  rw [e, Option.bind_some]
  simp only [h2.1, h2.2, if_true]
  refine ⟨_, _, _, rfl, h1, ?_⟩
  rw [rd_nat l i (by omega)]
  exact List.getElem_mem _
/-- A drawn graph: few edges, short rows. -/
def drawOK (m r : Nat) (l : List (List Int)) : Prop := l.length ≤ m ∧ ∀ x ∈ l, x.length ≤ r
theorem drawOK_snoc {m r : Nat} {l : List (List Int)} (h : drawOK m r l) (hl : l.length < m) (x : List Int) (hx : x.length ≤ r) : drawOK m r (l ++ [x]) :=
  ⟨by rw [List.length_append]; show _ + 1 ≤ _; omega, fun y hy => by
    rcases List.mem_append.1 hy with hy | hy
    · exact h.2 y hy
    · rw [List.mem_singleton.1 hy]; exact hx⟩
theorem drawOK_small {l : List (List Int)} (h : drawOK 11 3 l) : l.length ≤ 1048576 ∧ ∀ x ∈ l, x.length ≤ 1048576 := ⟨Nat.le_trans h.1 (by decide), fun x hx => Nat.le_trans (h.2 x hx) (by decide)⟩
theorem drawOK_more {l : List (List Int)} (h : drawOK 10 2 l) : drawOK 11 3 l := ⟨Nat.le_trans h.1 (by decide), fun x hx => Nat.le_trans (h.2 x hx) (by decide)⟩
/-- What a draw of a graph answers. -/
def GraphDrawn (m r : Nat) (s : List Int) (f : Nat → Option (Int × (List (List Int)) × Int × Int)) : Prop := ∃ (a : Int) (l : List (List Int)) (t h : Int), Ev f (a, l, t, h) ∧ drawOK m r l ∧ 0 ≤ t ∧ t ≤ s.length
theorem GraphDrawn.step_ {m r : Nat} {s : List Int} {g f : Nat → Option (Int × (List (List Int)) × Int × Int)} (h : ∀ k, g (k + 1) = f k) (H : GraphDrawn m r s f) : GraphDrawn m r s g := by
  obtain ⟨a, l, t, h', e, r⟩ := H
  exact ⟨a, l, t, h', Ev.step h e, r⟩
theorem drawOf_l1 {s : List Int} (hs : bytesOK s) (size edges : Int) (h1 : 1 ≤ size ∧ size ≤ 8) (he : 0 ≤ edges ∧ edges ≤ 10) (a : Int) : ∀ (d : Nat) (c t h : Int) (l : List (List Int)), c ≤ d → 0 ≤ c → c ≤ 10 → drawOK 10 2 l → l.length ≤ 10 → 0 ≤ t ∧ t ≤ s.length → GraphDrawn 10 2 s (fun k => spec_l01DrawOf.l1 k size edges c s t h a l) := by
  intro d
  induction d with
  | zero =>
    intro c t h l hc hc0 _ hl hl10 ht
    refine GraphDrawn.step_ (fun k => by simp only [spec_l01DrawOf.l1]; rfl) ?_
    simp only [show ¬ (c > 0) by omega, if_false]
    refine GraphDrawn.step_ (fun k => by simp only [spec_l01DrawOf.j3]; rfl) ?_
    simp only [Bool.false_eq_true, if_false]
    exact ⟨a, l, t, h, Ev.now _, hl, ht⟩
  | succ d ih =>
    intro c t h l hc hc0 hc10 hl hl10 ht
    have stop : GraphDrawn 10 2 s (fun k => spec_l01DrawOf.j3 k size edges c false s t h a l) := by
      refine GraphDrawn.step_ (fun k => by simp only [spec_l01DrawOf.j3]; rfl) ?_
      simp only [Bool.false_eq_true, if_false]
      exact ⟨a, l, t, h, Ev.now _, hl, ht⟩
    refine GraphDrawn.step_ (fun k => by simp only [spec_l01DrawOf.l1]; rfl) ?_
    by_cases hc1 : c > 0
    · simp only [hc1, if_true]
      by_cases hb : (l.length : Int) < edges
      · simp only [hb, decide_true]
        refine GraphDrawn.step_ (fun k => by simp only [spec_l01DrawOf.j3]; rfl) ?_
        obtain ⟨x, t1, g1, e1, b1, _, r1⟩ := next_ev hs t h size ht
        obtain ⟨y, t2, g2, e2, b2, _, r2⟩ := next_ev hs t1 g1 size b1
        have hcap : l.length < 5864062014805 := by omega
        have cont : ∀ (z : List Int) (t' h' : Int), z.length ≤ 2 → 0 ≤ t' ∧ t' ≤ s.length → GraphDrawn 10 2 s (fun k => spec_l01DrawOf.l1 k size edges (c - 1) s t' h' a (l ++ [z])) := fun z t' h' hz ht' =>
          ih (c - 1) t' h' (l ++ [z]) (by omega) (by omega) (by omega) (drawOK_snoc hl (by omega) z hz) (by rw [List.length_append]; show l.length + 1 ≤ 10; omega) ht'
        simp only [e1, e2, Option.bind_some, hcap, if_true, w64 (show -9223372036854775808 ≤ c - 1 by omega) (by omega)]
        by_cases hxy : x = y
        · obtain ⟨q, t3, g3, e3, b3, _, r3⟩ := next_ev hs t2 g2 3 b2
          simp only [hxy, if_true, e3, Option.bind_some]
          by_cases hq : q > 0
          · simp only [hq, if_true, show ¬ (size = 0) by omega, if_false]
            exact cont _ _ _ (by simp) b3
          · simp only [hq, if_false]
            exact cont _ _ _ (by simp) b3
        · simp only [hxy, if_false]
          exact cont _ _ _ (by simp) b2
      · simp only [hb, decide_false]
        exact stop
    · simp only [hc1, if_false]
      exact stop
theorem drawOf_l0 {s : List Int} (hs : bytesOK s) (size edges : Int) (h1 : 1 ≤ size ∧ size ≤ 8) (he : 0 ≤ edges ∧ edges ≤ 10) (j : Bool) (a : Int) : ∀ (d : Nat) (v t h : Int) (l : List (List Int)), size - v ≤ d → 1 ≤ v → v ≤ 9 → drawOK 10 2 l → l.length ≤ 10 → 0 ≤ t ∧ t ≤ s.length → GraphDrawn 10 2 s (fun k => spec_l01DrawOf.l0 k size edges j v s t h a l) := by
  intro d
  induction d with
  | zero =>
    intro v t h l hv hv1 hv9 hl hl10 ht
    refine GraphDrawn.step_ (fun k => by simp only [spec_l01DrawOf.l0]; rfl) ?_
    simp only [show ¬ (v < size) by omega, if_false]
    refine GraphDrawn.step_ (fun k => by simp only [spec_l01DrawOf.j1]; rfl) ?_
    obtain ⟨x, t1, g1, e1, b1, z1, r1⟩ := next_ev hs t h (edges + 1) ht
    simp only [Bool.false_eq_true, if_false, w64 (show -9223372036854775808 ≤ edges + 1 by omega) (by omega), e1, Option.bind_some]
    have hx := r1 (by omega)
    exact drawOf_l1 hs size edges h1 he a 10 x t1 g1 l (by omega) (by omega) (by omega) hl hl10 b1
  | succ d ih =>
    intro v t h l hv hv1 hv9 hl hl10 ht
    have stop : GraphDrawn 10 2 s (fun k => spec_l01DrawOf.j1 k size edges j v false s t h a l) := by
      refine GraphDrawn.step_ (fun k => by simp only [spec_l01DrawOf.j1]; rfl) ?_
      obtain ⟨x, t1, g1, e1, b1, z1, r1⟩ := next_ev hs t h (edges + 1) ht
      simp only [Bool.false_eq_true, if_false, w64 (show -9223372036854775808 ≤ edges + 1 by omega) (by omega), e1, Option.bind_some]
      have hx := r1 (by omega)
      exact drawOf_l1 hs size edges h1 he a 10 x t1 g1 l (by omega) (by omega) (by omega) hl hl10 b1
    refine GraphDrawn.step_ (fun k => by simp only [spec_l01DrawOf.l0]; rfl) ?_
    by_cases hc : v < size
    · simp only [hc, if_true]
      cases j with
      | false => simp only [Bool.false_eq_true, if_false]; exact stop
      | true =>
        simp only [if_true]
        by_cases hb : (l.length : Int) < edges
        · simp only [hb, decide_true]
          refine GraphDrawn.step_ (fun k => by simp only [spec_l01DrawOf.j1]; rfl) ?_
          obtain ⟨x, t1, g1, e1, b1, _, r1⟩ := next_ev hs t h v ht
          obtain ⟨y, t2, g2, e2, b2, _, r2⟩ := next_ev hs t1 g1 2 b1
          have hcap : l.length < 5864062014805 := by omega
          have cont : ∀ (z : List Int), z.length ≤ 2 → GraphDrawn 10 2 s (fun k => spec_l01DrawOf.l0 k size edges true (v + 1) s t2 g2 a (l ++ [z])) := fun z hz =>
            ih (v + 1) t2 g2 (l ++ [z]) (by omega) (by omega) (by omega) (drawOK_snoc hl (by omega) z hz) (by rw [List.length_append]; show l.length + 1 ≤ 10; omega) b2
          simp only [e1, e2, Option.bind_some, hcap, if_true, w64 (show -9223372036854775808 ≤ v + 1 by omega) (by omega)]
          by_cases hy : y = 0
          · simp only [hy, if_true]; exact cont _ (by simp)
          · simp only [hy, if_false]; exact cont _ (by simp)
        · simp only [hb, decide_false]; exact stop
    · simp only [hc, if_false]; exact stop
theorem drawOf_ev {s : List Int} (hs : bytesOK s) (size edges t h : Int) (h1 : 1 ≤ size ∧ size ≤ 8) (he : 0 ≤ edges ∧ edges ≤ 10) (ht : 0 ≤ t ∧ t ≤ s.length) : GraphDrawn 10 2 s (fun k => spec_l01DrawOf.f k s t h size edges) := by
  obtain ⟨x, t1, g1, e1, b1, _, _⟩ := next_ev hs t h 3 ht
  unfold spec_l01DrawOf.f
  simp only [e1, Option.bind_some]
  exact drawOf_l0 hs size edges h1 he _ size 8 1 t1 g1 [] (by omega) (by omega) (by omega) ⟨by simp, fun x hx => by cases hx⟩ (by simp) b1
def namesL : List ByteArray := (spec_l01Names.f).getD []
theorem names_eq : spec_l01Names.f = some namesL := rfl
theorem names_len : namesL.length = 14 := by kernel_rfl
theorem named_all : ((List.range 14).all fun i : Nat => match spec_l01Named.f 64 (rdOf ByteArray.empty namesL (i : Int)) with | some r => decide (r.2.1.length ≤ 10) && r.2.1.all (fun x => decide (x.length ≤ 2)) | none => false) = true := by kernel_rfl
theorem named_ev (i : Nat) (hi : i < 14) : ∃ (a : Int) (l : List (List Int)) (b : Bool), Ev (fun k => spec_l01Named.f k (rdOf ByteArray.empty namesL (i : Int))) (a, l, b) ∧ drawOK 10 2 l := by
  have h := List.all_eq_true.1 named_all i (List.mem_range.2 hi)
  cases e : spec_l01Named.f 64 (rdOf ByteArray.empty namesL (i : Int)) with
  | none => rw [e] at h; cases h
  | some r =>
    rw [e] at h
    simp only [Bool.and_eq_true, decide_eq_true_eq, List.all_eq_true] at h
    exact ⟨r.1, r.2.1, r.2.2, Ev.of (fun k => spec_l01Named.mono _ k) e, ⟨h.1, h.2⟩⟩
theorem draw_ev {s : List Int} (hs : bytesOK s) (t h : Int) (ht : 0 ≤ t ∧ t ≤ s.length) : ∃ (a : Int) (l : List (List Int)) (t' h' : Int), Ev (fun k => spec_l01Draw.f k s t h) (a, l, t', h') ∧ drawOK 10 2 l ∧ 0 ≤ t' ∧ t' ≤ s.length := by
  obtain ⟨x, t1, g1, e1, b1, _, _⟩ := next_ev hs t h 4 ht
  unfold spec_l01Draw.f
  by_cases hx : x = 0
  · obtain ⟨i, t2, g2, e2, b2, _, r2⟩ := next_ev hs t1 g1 14 b1
    have r2 := r2 (by omega)
    obtain ⟨q, rfl⟩ : ∃ q : Nat, i = q := ⟨i.toNat, by omega⟩
    obtain ⟨a, l, b, en, hl⟩ := named_ev q (by omega)
    refine ⟨a, l, t2, g2, ?_, hl, b2⟩
    simp only [e1, Option.bind_some, hx, if_true, names_eq, names_len, show ((14 : Nat) : Int) = 14 from rfl, e2, r2.1, r2.2]
    exact Ev.bind en (Ev.now _)
  · obtain ⟨y, t2, g2, e2, b2, _, r2⟩ := next_ev hs t1 g1 8 b1
    have r2 := r2 (by omega)
    have hw : wrap64 (1 + y) = 1 + y := w64 (by omega) (by omega)
    obtain ⟨z, t3, g3, e3, b3, r3⟩ := pick_ev hs t2 g2 [1, 2, 3, 3, 4, 4, 5, 6, wrap64 (1 + y)] (by simp) b2
    obtain ⟨m, t4, g4, e4, b4, r4⟩ := pick_ev hs t3 g3 [2, 4, 6, 6, 8, 10] (by simp) b3
    have hz : 1 ≤ z ∧ z ≤ 8 := by
      rw [hw] at r3
      simp only [List.mem_cons, List.not_mem_nil, or_false] at r3
      omega
    have hm : 0 ≤ m ∧ m ≤ 10 := by
      simp only [List.mem_cons, List.not_mem_nil, or_false] at r4
      omega
    obtain ⟨a, l, t5, g5, ed, hl, b5⟩ := drawOf_ev hs z m t4 g4 hz hm b4
    refine ⟨a, l, t5, g5, ?_, hl, b5⟩
    simp only [e1, Option.bind_some, hx, if_false, e2, e3, e4]
    exact Ev.bind ed (Ev.now _)
theorem bad_l0 (s : List Int) (t h a : Int) (ht : 0 ≤ t ∧ t ≤ s.length) : ∀ (d : Nat) (l : List (List Int)), 11 - l.length ≤ d → drawOK 11 3 l → GraphDrawn 11 3 s (fun k => spec_l01Bad.l0 k s t h a l) := by
  intro d
  induction d with
  | zero =>
    intro l hd hl
    refine GraphDrawn.step_ (fun k => by simp only [spec_l01Bad.l0]; rfl) ?_
    simp only [show ¬ ((l.length : Int) ≤ 10) by omega, if_false]
    exact ⟨a, l, t, h, Ev.now _, hl, ht⟩
  | succ d ih =>
    intro l hd hl
    refine GraphDrawn.step_ (fun k => by simp only [spec_l01Bad.l0]; rfl) ?_
    by_cases hc : (l.length : Int) ≤ 10
    · simp only [hc, if_true, show l.length < 5864062014805 by omega]
      exact ih _ (by rw [List.length_append]; show 11 - (l.length + 1) ≤ d; omega) (drawOK_snoc hl (by omega) _ (by simp))
    · simp only [hc, if_false]
      exact ⟨a, l, t, h, Ev.now _, hl, ht⟩
theorem bad_ev {s : List Int} (hs : bytesOK s) (t h a : Int) (l : List (List Int)) (hl : drawOK 10 2 l) (ht : 0 ≤ t ∧ t ≤ s.length) : GraphDrawn 11 3 s (fun k => spec_l01Bad.f k s t h a l) := by
  have hd : drawOK 11 3 l := drawOK_more hl
  have hl1 := hl.1
  obtain ⟨x, t1, g1, e1, b1, _, r1⟩ := next_ev hs t h 40 ht
  obtain ⟨c1, c2⟩ := drawOK_small hd
  unfold spec_l01Bad.f
  simp only [e1, Option.bind_some]
  by_cases h0 : x = 0
  · obtain ⟨z, t2, g2, e2, b2, _⟩ := pick_ev hs t1 g1 [0, 9, wrap64 (a - 1)] (by simp) b1
    simp only [h0, if_true, e2, Option.bind_some]
    exact ⟨_, _, _, _, Ev.now _, hd, b2⟩
  · simp only [h0, if_false]
    by_cases h1 : x = 1
    · simp only [h1, if_true]
      refine ⟨a, l ++ [[0, a]], t1, g1, Ev.bind (l01Copy_ev a l c1 c2) ?_, drawOK_snoc hd (by omega) _ (by simp), b1⟩
      simp only [show l.length < 5864062014805 by omega, if_true]
      exact Ev.now _
    · simp only [h1, if_false]
      by_cases h2 : x = 2
      · simp only [h2, if_true]
        by_cases hn : (l.length : Int) > 0
        · obtain ⟨i, t2, g2, e2, b2, _, r2⟩ := next_ev hs t1 g1 (l.length : Int) b1
          have r2 := r2 (by omega)
          obtain ⟨q, rfl⟩ : ∃ q : Nat, i = q := ⟨i.toNat, by omega⟩
          have hq : q < l.length := by omega
          have hx := hl.2 l[q] (List.getElem_mem hq)
          refine ⟨a, l.set q (rd_L1 l (q : Int) ++ [0]), t2, g2, Ev.bind (l01Copy_ev a l c1 c2) ?_, ⟨by rw [List.length_set]; omega, fun y hy => ?_⟩, b2⟩
          · simp only [hn, if_true, e2, Option.bind_some, r2.1, r2.2, show (rd_L1 l (q : Int)).length < 17592186044416 by rw [rdL1_nat l q hq]; omega, Int.toNat_natCast]
            exact Ev.now _
          · rcases List.mem_or_eq_of_mem_set hy with hy | hy
            · exact hd.2 y hy
            · rw [hy, List.length_append, rdL1_nat l q hq]; show _ + 1 ≤ 3; omega
        · refine ⟨a, l, t1, g1, Ev.bind (l01Copy_ev a l c1 c2) ?_, hd, b1⟩
          simp only [hn, if_false]
          exact Ev.now _
      · simp only [h2, if_false]
        by_cases h3 : x = 3
        · simp only [h3, if_true]
          obtain ⟨a', l', t2, g2, e2, hl', b2⟩ := bad_l0 s t1 g1 a b1 11 l (by omega) hd
          exact ⟨a', l', t2, g2, Ev.bind (l01Copy_ev a l c1 c2) e2, hl', b2⟩
        · simp only [h3, if_false]
          exact ⟨a, l, t1, g1, Ev.now _, hd, b1⟩
theorem from_l0 (s z : List Int) : ∀ (d i : Nat) (t h : Int), s.length - i = d → i ≤ s.length → s.length ≤ maxLen → ∃ h', Ev (fun k => spec_l01From.l0 k s i z t h) (z, t, h') := by
  intro d
  induction d with
  | zero =>
    intro i t h hd hi _
    refine ⟨h, Ev.step (fun k => by simp only [spec_l01From.l0]; rfl) ?_⟩
    simp only [show ¬ ((i : Int) < (s.length : Int)) by omega, if_false]
    exact Ev.now _
  | succ d ih =>
    intro i t h hd hi hm
    by_cases h4 : (i : Int) < 4096
    · obtain ⟨h', e⟩ := ih (i + 1) t (IntKind.u64.wrap ((IntKind.u64.wrap ((IntKind.u64.wrap (h * 1099511628211)) + (IntKind.u64.wrap (rd s (i : Int))))) + 109)) (by omega) (by omega) hm
      refine ⟨h', Ev.step (fun k => by simp only [spec_l01From.l0]; rfl) ?_⟩
      rw [show ((i + 1 : Nat) : Int) = (i : Int) + 1 by omega] at e
      simp only [show ((i : Int) < (s.length : Int)) by omega, if_true, h4, show (0 : Int) ≤ (i : Int) by omega, w64 (show -9223372036854775808 ≤ (i : Int) + 1 by omega) (by omega)]
      exact e
    · refine ⟨h, Ev.step (fun k => by simp only [spec_l01From.l0]; rfl) ?_⟩
      simp only [show ((i : Int) < (s.length : Int)) by omega, if_true, h4, if_false]
      exact Ev.now _
theorem from_ev {s : List Int} (hs : bytesOK s) : ∃ h, Ev (fun k => spec_l01From.f k s) (s, 0, h) := by
  unfold spec_l01From.f
  exact from_l0 s s s.length 0 0 _ (by omega) (by omega) hs.1
theorem spoil_ev {s : List Int} (hs : bytesOK s) (t h : Int) (ht : 0 ≤ t ∧ t ≤ s.length) : GraphDrawn 11 3 s (fun k => spec_l01Spoil.f k s t h) := by
  obtain ⟨a, l, t1, h1, e1, d1, b1⟩ := draw_ev hs t h ht
  obtain ⟨a2, l2, t2, h2, e2, d2, b2⟩ := bad_ev hs t1 h1 a l d1 b1
  exact ⟨a2, l2, t2, h2, Ev.bind e1 (Ev.bind e2 (Ev.now _)), d2, b2⟩
theorem likeInts_l0 (l : List Int) (hl : l.length ≤ 1048576) : ∀ (d i : Nat), l.length - i = d → i ≤ l.length → Ev (fun k => laws_likeInts.l0 k l l i) true := by
  intro d
  induction d with
  | zero =>
    intro i hd hi
    refine Ev.step (fun k => by simp only [laws_likeInts.l0]; rfl) ?_
    simp only [show ¬ ((i : Int) < (l.length : Int)) by omega, if_false]
    exact Ev.now _
  | succ d ih =>
    intro i hd hi
    refine Ev.step (fun k => by simp only [laws_likeInts.l0]; rfl) ?_
    simp only [show ((i : Int) < (l.length : Int)) by omega, show (0 : Int) ≤ (i : Int) by omega, if_true, w64 (show -9223372036854775808 ≤ (i : Int) + 1 by omega) (by omega)]
    exact ih (i + 1) (by omega) (by omega)
theorem likeInts_ev (l : List Int) (hl : l.length ≤ 1048576) : Ev (fun k => laws_likeInts.f k l l) true := by
  unfold laws_likeInts.f
  simp only [if_true]
  exact likeInts_l0 l hl l.length 0 (by omega) (by omega)
theorem rows9_l0 (l : List (List Int)) (hl : l.length ≤ 1048576) (hx : ∀ x ∈ l, x.length ≤ 1048576) : ∀ (d i : Nat), l.length - i = d → i ≤ l.length → Ev (fun k => laws_rows9.l0 k l l i) true := by
  intro d
  induction d with
  | zero =>
    intro i hd hi
    refine Ev.step (fun k => by simp only [laws_rows9.l0]; rfl) ?_
    simp only [show ¬ ((i : Int) < (l.length : Int)) by omega, if_false]
    exact Ev.now _
  | succ d ih =>
    intro i hd hi
    have hil : i < l.length := by omega
    refine Ev.step (fun k => by simp only [laws_rows9.l0]; rfl) ?_
    simp only [show ((i : Int) < (l.length : Int)) by omega, show (0 : Int) ≤ (i : Int) by omega, if_true, w64 (show -9223372036854775808 ≤ (i : Int) + 1 by omega) (by omega)]
    refine Ev.bind (likeInts_ev (rd_L1 l (i : Int)) (by rw [rdL1_nat l i hil]; exact hx _ (List.getElem_mem hil))) ?_
    simp only [if_true]
    exact ih (i + 1) (by omega) (by omega)
theorem rows9_ev (l : List (List Int)) (hl : l.length ≤ 1048576) (hx : ∀ x ∈ l, x.length ≤ 1048576) : Ev (fun k => laws_rows9.f k l l) true := by
  unfold laws_rows9.f
  simp only [if_true]
  exact rows9_l0 l hl hx l.length 0 (by omega) (by omega)
theorem graph9_ev (a : Int) (l : List (List Int)) (hl : l.length ≤ 1048576) (hx : ∀ x ∈ l, x.length ≤ 1048576) : Ev (fun k => laws_graph9.f k a l a l) true := by
  unfold laws_graph9.f
  simp only [if_true]
  exact Ev.bind (rows9_ev l hl hx) (Ev.now _)
theorem equal_l0 (l : List Int) (hl : l.length ≤ 1048576) : ∀ (d i : Nat), l.length - i = d → i ≤ l.length → Ev (fun k => slices_Equal_int64_int64.l0 k l l (l.length : Int) i) true := by
  intro d
  induction d with
  | zero =>
    intro i hd hi
    refine Ev.step (fun k => by simp only [slices_Equal_int64_int64.l0]; rfl) ?_
    simp only [show ¬ ((i : Int) < (l.length : Int)) by omega, if_false]
    exact Ev.now _
  | succ d ih =>
    intro i hd hi
    refine Ev.step (fun k => by simp only [slices_Equal_int64_int64.l0]; rfl) ?_
    simp only [show ((i : Int) < (l.length : Int)) by omega, show (0 : Int) ≤ (i : Int) by omega, if_true, w64 (show -9223372036854775808 ≤ (i : Int) + 1 by omega) (by omega)]
    exact ih (i + 1) (by omega) (by omega)
theorem equal_ev (l : List Int) (hl : l.length ≤ 1048576) : Ev (fun k => slices_Equal_int64_int64.f k l l) true := by
  unfold slices_Equal_int64_int64.f
  simp only [if_true]
  exact equal_l0 l hl l.length 0 (by omega) (by omega)
theorem bytes_ok {s : List Int} (hm : s.length ≤ maxLen) (hb : ∀ x ∈ s, (Lit.int .u8 x).wf = true) : bytesOK s := ⟨hm, fun x hx => by
  have h := hb x hx
  simp [Lit.wf, IntKind.min, IntKind.max, IntKind.signed, IntKind.bits] at h
  omega⟩


end Go.Proofs.Ytjgdibhalmcigaa.D
namespace Go.Proofs.Ytjgdibhalmcigaa.Pure
open Go.RowKit Go.Proofs.YtjgdibhalmcigaaW.PrintWords Go.Proofs.YtjgdibhalmcigaaW.PrintLast Go.Proofs.YtjgdibhalmcigaaW.PrintMore Go.Proofs.Ytjgdibhalmcigaa.D
theorem recip_pruned {l L : List (List Int)} (hlen : L.length ≤ l.length) (h : ∀ k, la_cp (2 * L.length) (eA L) k = la_cp (2 * l.length) (eA l) k) : trimN (cpL (2 * L.length) (eA L)) (2 * L.length + 1) = trimN (cpL (2 * l.length) (eA l)) (2 * l.length + 1) := by
  have e1 : cpL (2 * L.length) (eA L) = vrow (2 * L.length + 1) (la_cp (2 * l.length) (eA l)) := vrow_congr fun k _ => h k
  have e2 : cpL (2 * l.length) (eA l) = vrow (2 * l.length + 1) (la_cp (2 * l.length) (eA l)) := rfl
  obtain ⟨d, hd⟩ : ∃ d, 2 * l.length = 2 * L.length + d := ⟨2 * l.length - 2 * L.length, by omega⟩
  have hz : ∀ k, 2 * L.length < k → la_cp (2 * l.length) (eA l) k = 0 := fun k hk => by rw [← h k]; exact la_dc_top _ _ k hk
  have ht := trimN_vrow (la_cp (2 * l.length) (eA l)) d (2 * L.length) hz
  rw [← hd] at ht
  rw [e1, e2, ht]
theorem areEqualZetas_ev {a b : Int} {l L : List (List Int)} (hl : l.length ≤ maxLen) (hL : L.length ≤ maxLen) (h1 : isG a l = true) (h2 : isG b L = true) (hlen : L.length ≤ l.length) (h : ∀ k, la_cp (2 * L.length) (eA L) k = la_cp (2 * l.length) (eA l) k) : Ev (fun k => impl_AreEqualZetas.f k a l b L) (true, 0) := by
  have hl10 := isG_len h1
  unfold impl_AreEqualZetas.f
  refine Ev.bind (impl_IsGraph_ev a l hl) ?_
  simp only [h1, if_true]
  refine Ev.bind (impl_IsGraph_ev b L hL) ?_
  simp only [h2, Bool.not_true]
  refine Ev.step (fun k => by simp only [impl_AreEqualZetas.j0]; rfl) ?_
  simp only [Bool.false_eq_true, if_false]
  refine Ev.bind (reciprocal_ev a l h1) (Ev.bind (reciprocal_ev b L h2) ?_)
  rw [recip_pruned hlen h]
  exact Ev.bind (equal_ev _ (by have := trimN_length (cpL (2 * l.length) (eA l)) (2 * l.length + 1); omega)) (Ev.now _)
theorem pruning_l0 (m : Nat) (hm : m ≤ 8) (L : List (List Int)) (hno : ∀ v, v < m → degN L L.length v ≠ 1) (a b : Int) (l : List (List Int)) (h : Ev (fun k => impl_AreEqualZetas.f k a l b L) (true, 0)) : ∀ (d i : Nat), m - i = d → i ≤ m → Ev (fun k => laws_FnPruning.l0 k (degL m L L.length) i a l b L) true := by
  intro d
  induction d with
  | zero =>
    intro i hd hi
    refine Ev.step (fun k => by simp only [laws_FnPruning.l0]; rfl) ?_
    simp only [degL_length, show ¬ ((i : Int) < (m : Int)) by omega, if_false]
    refine Ev.bind h ?_
    simp only [if_true]
    exact Ev.now _
  | succ d ih =>
    intro i hd hi
    have hn := hno i (by omega)
    refine Ev.step (fun k => by simp only [laws_FnPruning.l0]; rfl) ?_
    simp only [degL_length, show ((i : Int) < (m : Int)) by omega, show (0 : Int) ≤ (i : Int) by omega, if_true, degL_rd m L L.length i (by omega), show ¬ ((degN L L.length i : Int) = 1) by omega, if_false, w64 (show -9223372036854775808 ≤ (i : Int) + 1 by omega) (by omega)]
    exact ih (i + 1) (by omega) (by omega)
theorem FnPruning : laws_FnPruning.Pure := by
  intro s hm _ hb
  have hs := bytes_ok hm hb
  refine Ev.rounds (r := true) ?_
  unfold laws_FnPruning.f laws_big.f
  simp only [Option.bind_some]
  by_cases hbig : (s.length : Int) > 4096
  · simp only [hbig, decide_true, if_true]; exact Ev.now _
  · simp only [hbig, decide_false, Bool.false_eq_true, if_false]
    obtain ⟨h0, e0⟩ := from_ev hs
    obtain ⟨a, l, t', h', es, hd, _⟩ := spoil_ev hs 0 h0 ⟨by omega, by omega⟩
    have ed : Ev (fun k => spec_DrawPruneGraph.f k s) (a, l) := Ev.bind e0 (Ev.bind es (Ev.now _))
    refine Ev.bind ed ?_
    obtain ⟨c1, c2⟩ := drawOK_small hd
    have hl : l.length ≤ maxLen := Nat.le_trans c1 (by decide)
    cases hg : isG a l with
    | false =>
      have ei : Ev (fun k => impl_PruneGraph.f k a l) (0, [], 1) := by
        unfold impl_PruneGraph.f
        refine Ev.bind (impl_IsGraph_ev a l hl) ?_
        rw [hg]; simp only [Bool.false_eq_true, if_false]; exact Ev.now _
      have ep : Ev (fun k => spec_PruneGraph.f k a l) (0, [], 1) := by
        unfold spec_PruneGraph.f
        refine Ev.bind (spec_l01Is_ev a l hl) ?_
        rw [hg]; simp only [Bool.false_eq_true, if_false]; exact Ev.now _
      refine Ev.bind ei (Ev.bind ep ?_)
      simp only [if_true]
      refine Ev.bind (graph9_ev 0 [] (by simp) (fun x hx => by cases hx)) ?_
      refine Ev.step (fun k => by simp only [laws_FnPruning.j0]; rfl) ?_
      simp only [Bool.not_true, Bool.false_eq_true, if_false, show ¬ ((1 : Int) = 0) by omega, List.length_nil, show (((0 : Nat) : Int) == 0) = true from rfl]
      exact Ev.now _
    | true =>
      obtain ⟨n, rfl, h1, h8, hE⟩ := isG_ends hg
      have hsm := isG_small hg
      obtain ⟨R, hsp, him, hR1, hR2, m, em, m1, m2, mE, mn, ml, mc⟩ := prune_all n h8 l (isG_len hg) hE
      obtain ⟨R1, L⟩ := R
      simp only at hsp him hR1 hR2 em mE mn ml mc
      subst em
      have hG := isG_back (m2 h1) (by omega) hR1 mE
      have ei : Ev (fun k => impl_PruneGraph.f k n l) ((m : Int), L, 0) := by
        unfold impl_PruneGraph.f
        refine Ev.bind (impl_IsGraph_ev n l hl) ?_
        rw [hg]; simp only [if_true]
        exact Ev.bind (own_ev n l hsm.1 hsm.2) him
      have ep : Ev (fun k => spec_PruneGraph.f k n l) ((m : Int), L, 0) := by
        unfold spec_PruneGraph.f
        refine Ev.bind (spec_l01Is_ev n l hl) ?_
        rw [hg]; simp only [if_true]
        refine Ev.bind (show Ev (fun k => spec_l02Prune.f k n l) ((m : Int), L) from ?_) (Ev.now _)
        unfold spec_l02Prune.f
        exact Ev.bind (l01Copy_ev n l hsm.1 hsm.2) hsp
      have hL : L.length ≤ maxLen := Nat.le_trans hR1 (by decide)
      refine Ev.bind ei (Ev.bind ep ?_)
      simp only [if_true]
      refine Ev.bind (graph9_ev m L (by omega) (fun x hx => by have := hR2 x hx; omega)) ?_
      refine Ev.step (fun k => by simp only [laws_FnPruning.j0]; rfl) ?_
      simp only [Bool.not_true, Bool.false_eq_true, if_false, if_true]
      have edg : Ev (fun k => impl_DegreesOf.f k m L) (degL m L L.length, 0) := by
        unfold impl_DegreesOf.f
        refine Ev.bind (impl_IsGraph_ev m L hL) ?_
        rw [hG]; simp only [if_true]
        exact Ev.bind (degrees_ev m (by omega) L (by omega) mE) (Ev.now _)
      refine Ev.bind edg ?_
      simp only [if_true]
      refine Ev.bind (impl_IsGraph_ev m L hL) ?_
      rw [hG]
      simp only [if_true, show ¬ ((m : Int) > (n : Int)) by omega, decide_false]
      refine Ev.step (fun k => by simp only [laws_FnPruning.j1]; rfl) ?_
      simp only [Bool.false_eq_true, if_false]
      exact pruning_l0 m (by omega) L mn n m l (areEqualZetas_ev hl hL hg hG ml mc) m 0 (by omega) (by omega)

end Go.Proofs.Ytjgdibhalmcigaa.Pure
