/- Plain lemmas on the Lean functions that FnExactQuotientOfCover reaches, and its pure statement. No condition. -/
import Derived.Test.YtoebojnhchocaaaALib
namespace Go.Proofs.Ytoebojnhchocaaa.A
open Go.RowKit Go.Proofs.YtoebojnhchocaaaW.PrintWords Go.Proofs.YtoebojnhchocaaaW.PrintLast Go.Proofs.YtoebojnhchocaaaW.PrintMore
set_option linter.unusedVariables false
set_option linter.unusedSimpArgs false
theorem determinant_ev (n : Nat) (hn : n ≤ 1048575) (A : Nat → Nat → Int) (hb : ∀ k : Nat, 1 ≤ k → k ≤ n → -9223372036854775807 ≤ (k : Int) * la_cp n A k ∧ (k : Int) * la_cp n A k ≤ 9223372036854775807) :
    Ev (fun k => F132.f k (vmat n A)) (trimN (cpL n A) (n + 1)) := by
  unfold F132.f
  simp only [vmat_length]
  refine Ev.bind (square_ev n (by omega)) ?_
  rw [vmat_zero]
  have h := determinant_l0 n hn A hb n 0 (by omega) (by omega) (fun _ _ => 0) (fun i j _ _ => cg_refl _)
  refine Ev.congr (fun q => ?_) h
  rw [show (List.range (0 + 1)).map (la_cp n A) = [1] by simp [List.range_succ, la_cp_zero]]
  rfl
theorem vrow_snoc (n : Nat) (g : Nat → Int) : vrow n g ++ [g n] = vrow (n + 1) g := by
  unfold vrow; rw [List.range_succ, List.map_append]; rfl
theorem vrow_take {m n : Nat} (h : m ≤ n) (g : Nat → Int) : (vrow n g).take m = vrow m g := by
  unfold vrow
  rw [← List.map_take, List.take_range, Nat.min_eq_left h]
theorem spec_l01Own_ev (l : List Int) (h : l.length ≤ 1048576) : F173.f l = some l := by
  unfold F173.f
  simp only [Option.bind_some, List.length_nil, List.nil_append, show 0 + l.length < 17592186044416 by omega, if_true]
theorem l01Trim_l0 (l : List Int) (hl : l.length ≤ 1048576) : ∀ n : Nat, n ≤ l.length → Ev (fun q => F160.l0 q l n) (trimN l n) := by
  intro n
  induction n with
  | zero =>
    intro _
    refine Ev.step (fun q => by simp only [F160.l0]; rfl) ?_
    simp only [show ¬ (((0 : Nat) : Int) > 0) by omega, if_false, show (0 : Int) ≤ ((0 : Nat) : Int) by omega, show ((0 : Nat) : Int) ≤ (l.length : Int) by omega, if_true, Int.toNat_natCast, List.take_zero, spec_l01Own_ev [] (by simp), Option.bind_some, trimN]
    exact Ev.now _
  | succ n ih =>
    intro hn
    refine Ev.step (fun q => by simp only [F160.l0]; rfl) ?_
    simp only [show ((n + 1 : Nat) : Int) > 0 by omega, show ((n + 1 : Nat) : Int) - 1 = n by omega, w64 (show -9223372036854775808 ≤ (n : Int) by omega) (by omega), show (0 : Int) ≤ (n : Int) by omega, show (n : Int) < (l.length : Int) by omega, show (0 : Int) ≤ ((n + 1 : Nat) : Int) by omega, show ((n + 1 : Nat) : Int) ≤ (l.length : Int) by omega, if_true, Int.toNat_natCast]
    rw [show trimN l (n + 1) = if rd l n = 0 then trimN l n else l.take (n + 1) from rfl]
    by_cases h : rd l n = 0
    · simp only [h, if_true]
      exact ih (by omega)
    · simp only [h, if_false, spec_l01Own_ev (l.take (n + 1)) (by rw [List.length_take]; omega), Option.bind_some]
      exact Ev.now _
theorem l01Trim_ev (l : List Int) (hl : l.length ≤ 1048576) : Ev (fun q => F160.f q l) (trimN l l.length) := l01Trim_l0 l hl l.length (Nat.le_refl _)
theorem berk_l4 (n : Nat) (hn : n ≤ 1048575) (A : Nat → Nat → Int) (x3 x5 x10 : List Int) (C : Nat → Int) (x8 x9 : Int) (r i : Nat) (hr : r < n) (hi : i < r) (h10 : x10.length = i) (R : List Int)
    (next : ∀ v, cgM v (la_sm r (fun j => A i j * C j)) → Ev (fun k => F136.l3 k (vmat n A) x3 r x5 (vrow r C) x8 x9 (x10 ++ [v]) ((i : Int) + 1)) R) :
    ∀ (d j : Nat), r - j = d → j ≤ r → ∀ v, cgM v (la_sm j (fun j => A i j * C j)) → Ev (fun k => F136.l4 k (vmat n A) x3 r x5 (vrow r C) x8 x9 x10 i v j) R := by
  intro d
  induction d with
  | zero =>
    intro j hd hj v hv
    obtain rfl : j = r := by omega
    refine Ev.step (fun q => by simp only [F136.l4]; rfl) ?_
    simp only [Int.lt_irrefl, if_false, h10, show i < 17592186044416 by omega, if_true, w64 (show -9223372036854775808 ≤ (i : Int) + 1 by omega) (by omega)]
    exact next v hv
  | succ d ih =>
    intro j hd hj v hv
    have hjr : j < r := by omega
    refine Ev.step (fun q => by simp only [F136.l4]; rfl) ?_
    simp only [show ((j : Int) < (r : Int)) by omega, show (0 : Int) ≤ (j : Int) by omega, show (0 : Int) ≤ (i : Int) by omega, vmat_length, show ((i : Int) < (n : Int)) by omega, if_true, vmat_row (show i < n by omega), vrow_length, show ((j : Int) < (n : Int)) by omega, vrow_rd (show j < n by omega), vrow_rd hjr, w64 (show -9223372036854775808 ≤ (j : Int) + 1 by omega) (by omega)]
    have h := ih (j + 1) (by omega) (by omega) (wrap64 (v + wrap64 (A i j * C j))) (cg_trans (cg_wrap _) (cg_add hv (cg_wrap _)))
    rw [show ((j + 1 : Nat) : Int) = (j : Int) + 1 by omega] at h
    exact h
theorem berk_l3 (n : Nat) (hn : n ≤ 1048575) (A : Nat → Nat → Int) (x3 x5 : List Int) (C : Nat → Int) (x8 : Int) (r : Nat) (hr : r < n) (h5 : x5.length < 17592186044416) (R : List Int)
    (next : ∀ (v : Int) (C' : Nat → Int), cgM v (la_sm r (fun j => A r j * C j)) → (∀ i, i < r → cgM (C' i) (la_sm r (fun j => A i j * C j))) → Ev (fun k => F136.l2 k (vmat n A) x3 r (x5 ++ [wrap64 (-v)]) (vrow r C') (wrap64 (x8 + 1))) R) :
    ∀ (d i : Nat), r - i = d → i ≤ r → ∀ (v : Int) (C' : Nat → Int), cgM v (la_sm i (fun j => A r j * C j)) → (∀ l, l < i → cgM (C' l) (la_sm r (fun j => A l j * C j))) → Ev (fun k => F136.l3 k (vmat n A) x3 r x5 (vrow r C) x8 v (vrow i C') i) R := by
  intro d
  induction d with
  | zero =>
    intro i hd hi v C' hv hC
    obtain rfl : i = r := by omega
    refine Ev.step (fun q => by simp only [F136.l3]; rfl) ?_
    simp only [Int.lt_irrefl, if_false, h5, if_true]
    exact next v C' hv hC
  | succ d ih =>
    intro i hd hi v C' hv hC
    have hir : i < r := by omega
    refine Ev.step (fun q => by simp only [F136.l3]; rfl) ?_
    simp only [show ((i : Int) < (r : Int)) by omega, show (0 : Int) ≤ (i : Int) by omega, show (0 : Int) ≤ (r : Int) by omega, vmat_length, show ((r : Int) < (n : Int)) by omega, if_true, vmat_row hr, vrow_length, show ((i : Int) < (n : Int)) by omega, vrow_rd (show i < n by omega), vrow_rd hir]
    refine berk_l4 n hn A x3 x5 (vrow i C') C x8 _ r i hr hir (vrow_length _ _) R (fun w hw => ?_) r 0 (by omega) (by omega) 0 (cg_refl _)
    have h := ih (i + 1) (by omega) (by omega) (wrap64 (v + wrap64 (A r i * C i))) (fun l => if l < i then C' l else w) (cg_trans (cg_wrap _) (cg_add hv (cg_wrap _))) (fun l hl => by
      by_cases e : l < i
      · simp only [if_pos e]; exact hC l e
      · simp only [if_neg e]
        obtain rfl : l = i := by omega
        exact hw)
    refine Ev.congr (fun q => ?_) h
    rw [show ((i + 1 : Nat) : Int) = (i : Int) + 1 by omega, ← vrow_snoc]
    rw [if_neg (Nat.lt_irrefl i)]
    congr 2
    exact vrow_congr fun j hj => by rw [if_pos hj]
theorem berk_l2 (n : Nat) (hn : n ≤ 1048575) (A : Nat → Nat → Int) (x3 : List Int) (r : Nat) (hr : r < n) (R : List Int)
    (next : ∀ T : Nat → Int, (∀ j, j < r + 2 → cgM (T j) (la_turnB r A j)) → Ev (fun k => F136.l5 k (vmat n A) x3 r (vrow (r + 2) T) (vrow (r + 2) (fun _ => 0)) 0) R) :
    ∀ (d k : Nat), r - k = d → k ≤ r → ∀ (T C : Nat → Int), (∀ j, j < k + 2 → cgM (T j) (la_turnB r A j)) → (∀ i, i < r → cgM (C i) (la_colp r A (fun i => A i r) k i)) → Ev (fun q => F136.l2 q (vmat n A) x3 r (vrow (k + 2) T) (vrow r C) k) R := by
  intro d
  induction d with
  | zero =>
    intro k hd hk T C hT hC
    obtain rfl : k = r := by omega
    refine Ev.step (fun q => by simp only [F136.l2]; rfl) ?_
    simp only [Int.lt_irrefl, if_false, w64 (show -9223372036854775808 ≤ (k : Int) + 2 by omega) (by omega), show (0 : Int) ≤ (k : Int) + 2 by omega, show ((k : Int) + 2).toNat = k + 2 by omega, show k + 2 ≤ 35184372088832 by omega, if_true]
    rw [show List.replicate (k + 2) (0 : Int) = vrow (k + 2) (fun _ => 0) by
      apply List.ext_getElem
      · simp [vrow]
      · intro i _ _; simp [vrow]]
    exact next T hT
  | succ d ih =>
    intro k hd hk T C hT hC
    have hkr : k < r := by omega
    refine Ev.step (fun q => by simp only [F136.l2]; rfl) ?_
    simp only [show ((k : Int) < (r : Int)) by omega, if_true]
    have h := berk_l3 n hn A x3 (vrow (k + 2) T) C k r hr (by rw [vrow_length]; omega) R (fun v C' hv hC' => ?_) r 0 (by omega) (by omega) 0 (fun _ => 0) (cg_refl _) (fun l hl => by omega)
    · exact h
    · have h := ih (k + 1) (by omega) (by omega) (fun j => if j < k + 2 then T j else wrap64 (-v)) C' (fun j hj => by
        by_cases e : j < k + 2
        · simp only [if_pos e]; exact hT j e
        · simp only [if_neg e]
          obtain rfl : j = k + 2 := by omega
          show cgM _ (-la_sm r (fun i => A r i * la_colp r A (fun i => A i r) k i))
          exact cg_trans (cg_wrap _) (cg_neg (cg_trans hv (cg_sm (fun i hi => cg_mul (cg_refl _) (hC i hi)))))) (fun i hi => by
        show cgM _ (la_sm r (fun j => A i j * la_colp r A (fun i => A i r) k j))
        exact cg_trans (hC' i hi) (cg_sm (fun j hj => cg_mul (cg_refl _) (hC j hj))))
      refine Ev.congr (fun q => ?_) h
      rw [w64 (show -9223372036854775808 ≤ (k : Int) + 1 by omega) (by omega), show ((k + 1 : Nat) : Int) = (k : Int) + 1 by omega, show k + 1 + 2 = (k + 2) + 1 by omega, ← vrow_snoc (k + 2) (fun j => if j < k + 2 then T j else wrap64 (-v))]
      simp only [if_neg (Nat.lt_irrefl (k + 2))]
      congr 2
      exact vrow_congr fun j hj => by rw [if_pos hj]
theorem berk_l1 (n : Nat) (hn : n ≤ 1048575) (A : Nat → Nat → Int) (x3 x5 : List Int) (r : Nat) (hr : r < n) (R : List Int)
    (next : Ev (fun k => F136.l2 k (vmat n A) x3 r x5 (vrow r (fun i => A i r)) 0) R) :
    ∀ (d i : Nat), r - i = d → i ≤ r → Ev (fun k => F136.l1 k (vmat n A) x3 r x5 (vrow i (fun i => A i r)) i) R := by
  intro d
  induction d with
  | zero =>
    intro i hd hi
    obtain rfl : i = r := by omega
    refine Ev.step (fun q => by simp only [F136.l1]; rfl) ?_
    simp only [Int.lt_irrefl, if_false]
    exact next
  | succ d ih =>
    intro i hd hi
    have hir : i < r := by omega
    refine Ev.step (fun q => by simp only [F136.l1]; rfl) ?_
    simp only [show ((i : Int) < (r : Int)) by omega, show (0 : Int) ≤ (i : Int) by omega, show (0 : Int) ≤ (r : Int) by omega, vmat_length, show ((i : Int) < (n : Int)) by omega, show ((r : Int) < (n : Int)) by omega, if_true, vmat_row (show i < n by omega), vrow_length, show i < 17592186044416 by omega, vrow_rd hr, w64 (show -9223372036854775808 ≤ (i : Int) + 1 by omega) (by omega)]
    have h := ih (i + 1) (by omega) (by omega)
    rw [show ((i + 1 : Nat) : Int) = (i : Int) + 1 by omega, ← vrow_snoc] at h
    exact h
def btS (r : Nat) (A : Nat → Nat → Int) (m : Nat) (j : Nat) : Int := la_sm j (fun l => la_turnB r A (m - l) * la_cp r A l)
theorem berk_l6 (n : Nat) (hn : n ≤ 1048575) (A : Nat → Nat → Int) (r i : Nat) (hr : r < n) (hi : i < r + 2) (c T : Nat → Int) (hT : ∀ j, j < r + 2 → cgM (T j) (la_turnB r A j)) (hc : ∀ l, l ≤ r → cgM (c l) (la_cp r A l)) (R : List Int)
    (next : ∀ M : Nat → Int, (∀ m, m ≤ i → cgM (M m) (la_cp (r + 1) A m)) → (∀ m, i < m → M m = 0) → (∀ m, -9223372036854775808 ≤ M m ∧ M m ≤ 9223372036854775807) → Ev (fun k => F136.l5 k (vmat n A) (vrow (r + 1) c) r (vrow (r + 2) T) (vrow (r + 2) M) ((i : Int) + 1)) R) :
    ∀ (d j : Nat), r + 1 - j = d → j ≤ i + 1 → j ≤ r + 1 → ∀ M : Nat → Int, (∀ m, m < i → cgM (M m) (la_cp (r + 1) A m)) → cgM (M i) (btS r A i j) → (∀ m, i < m → M m = 0) → (∀ m, -9223372036854775808 ≤ M m ∧ M m ≤ 9223372036854775807) → Ev (fun k => F136.l6 k (vmat n A) (vrow (r + 1) c) r (vrow (r + 2) T) (vrow (r + 2) M) i j) R := by
  have fin : ∀ j, j ≤ i + 1 → (j = i + 1 ∨ j = r + 1) → btS r A i j = la_cp (r + 1) A i := by
    intro j hj1 hj
    rw [la_cp_berkowitz r A i (by omega)]
    rcases hj with rfl | rfl
    · rfl
    · unfold btS
      refine (la_sm_ext (by omega) (fun l h1 h2 => ?_)).symm
      rw [show la_cp r A l = 0 from la_dc_top _ _ l (by omega)]; simp
  have nx : ∀ j, j ≤ i + 1 → (j = i + 1 ∨ j = r + 1) → ∀ M : Nat → Int, (∀ m, m < i → cgM (M m) (la_cp (r + 1) A m)) → cgM (M i) (btS r A i j) → (∀ m, i < m → M m = 0) → (∀ m, -9223372036854775808 ≤ M m ∧ M m ≤ 9223372036854775807) → Ev (fun k => F136.l5 k (vmat n A) (vrow (r + 1) c) r (vrow (r + 2) T) (vrow (r + 2) M) ((i : Int) + 1)) R := by
    intro j hj1 hj M h1 h2 h3 h4
    refine next M (fun m hm => ?_) h3 h4
    by_cases e : m = i
    · subst e; rw [← fin j hj1 hj]; exact h2
    · exact h1 m (by omega)
  intro d
  induction d with
  | zero =>
    intro j hd hj1 hj2 M h1 h2 h3 h4
    obtain rfl : j = r + 1 := by omega
    refine Ev.step (fun q => by simp only [F136.l6]; rfl) ?_
    simp only [vrow_length, Int.lt_irrefl, if_false, w64 (show -9223372036854775808 ≤ (i : Int) + 1 by omega) (by omega)]
    exact nx _ hj1 (Or.inr rfl) M h1 h2 h3 h4
  | succ d ih =>
    intro j hd hj1 hj2 M h1 h2 h3 h4
    have hjr : j < r + 1 := by omega
    refine Ev.step (fun q => by simp only [F136.l6]; rfl) ?_
    by_cases hji : j ≤ i
    · simp only [vrow_length, show ((j : Int) < ((r + 1 : Nat) : Int)) by omega, show ((j : Int) ≤ (i : Int)) by omega, show (0 : Int) ≤ (i : Int) by omega, show ((i : Int) < ((r + 2 : Nat) : Int)) by omega, show (0 : Int) ≤ (j : Int) by omega, if_true, show (i : Int) - (j : Int) = ((i - j : Nat) : Int) by omega, w64 (show -9223372036854775808 ≤ ((i - j : Nat) : Int) by omega) (by omega), show (0 : Int) ≤ ((i - j : Nat) : Int) by omega, show ((i - j : Nat) : Int) < ((r + 2 : Nat) : Int) by omega, vrow_rd hi, vrow_rd hjr, vrow_rd (show i - j < r + 2 by omega), Int.toNat_natCast, w64 (show -9223372036854775808 ≤ (j : Int) + 1 by omega) (by omega)]
      rw [vrow_set]
      have h := ih (j + 1) (by omega) (by omega) (by omega) (fun m => if m = i then wrap64 (M i + wrap64 (T (i - j) * c j)) else M m) (fun m hm => by simp only [if_neg (show m ≠ i by omega)]; exact h1 m hm) (by
        simp only [if_true]
        show cgM _ (btS r A i j + la_turnB r A (i - j) * la_cp r A j)
        exact cg_trans (cg_wrap _) (cg_add h2 (cg_trans (cg_wrap _) (cg_mul (hT _ (by omega)) (hc _ (by omega)))))) (fun m hm => by simp only [if_neg (show m ≠ i by omega)]; exact h3 m hm) (fun m => by
        by_cases e : m = i
        · simp only [if_pos e]; exact wrap_range _
        · simp only [if_neg e]; exact h4 m)
      rw [show ((j + 1 : Nat) : Int) = (j : Int) + 1 by omega] at h
      exact h
    · simp only [vrow_length, show ((j : Int) < ((r + 1 : Nat) : Int)) by omega, show ¬ ((j : Int) ≤ (i : Int)) by omega, if_true, if_false, w64 (show -9223372036854775808 ≤ (i : Int) + 1 by omega) (by omega)]
      exact nx j hj1 (Or.inl (by omega)) M h1 h2 h3 h4
theorem berk_l5 (n : Nat) (hn : n ≤ 1048575) (A : Nat → Nat → Int) (r : Nat) (hr : r < n) (c T : Nat → Int) (hT : ∀ j, j < r + 2 → cgM (T j) (la_turnB r A j)) (hc : ∀ l, l ≤ r → cgM (c l) (la_cp r A l)) (R : List Int)
    (next : ∀ M : Nat → Int, (∀ m, m ≤ r + 1 → cgM (M m) (la_cp (r + 1) A m)) → (∀ m, -9223372036854775808 ≤ M m ∧ M m ≤ 9223372036854775807) → Ev (fun k => F136.l0 k (vmat n A) (vrow (r + 2) M) ((r : Int) + 1)) R) :
    ∀ (d i : Nat), r + 2 - i = d → i ≤ r + 2 → ∀ M : Nat → Int, (∀ m, m < i → cgM (M m) (la_cp (r + 1) A m)) → (∀ m, i ≤ m → M m = 0) → (∀ m, -9223372036854775808 ≤ M m ∧ M m ≤ 9223372036854775807) → Ev (fun k => F136.l5 k (vmat n A) (vrow (r + 1) c) r (vrow (r + 2) T) (vrow (r + 2) M) i) R := by
  intro d
  induction d with
  | zero =>
    intro i hd hi M h1 h3 h4
    obtain rfl : i = r + 2 := by omega
    refine Ev.step (fun q => by simp only [F136.l5]; rfl) ?_
    simp only [vrow_length, Int.lt_irrefl, if_false, w64 (show -9223372036854775808 ≤ (r : Int) + 1 by omega) (by omega)]
    exact next M (fun m hm => h1 m (by omega)) h4
  | succ d ih =>
    intro i hd hi M h1 h3 h4
    have hir : i < r + 2 := by omega
    refine Ev.step (fun q => by simp only [F136.l5]; rfl) ?_
    simp only [vrow_length, show ((i : Int) < ((r + 2 : Nat) : Int)) by omega, if_true]
    refine berk_l6 n hn A r i hr hir c T hT hc R (fun M' g1 g3 g4 => ?_) (r + 1) 0 (by omega) (by omega) (by omega) M h1 (by rw [h3 i (by omega)]; exact cg_refl _) (fun m hm => h3 m (by omega)) h4
    have h := ih (i + 1) (by omega) (by omega) M' (fun m hm => g1 m (by omega)) (fun m hm => g3 m (by omega)) g4
    rw [show ((i + 1 : Nat) : Int) = (i : Int) + 1 by omega] at h
    exact h
theorem berk_l0 (n : Nat) (hn : n ≤ 1048574) (A : Nat → Nat → Int) : ∀ (d r : Nat), n - r = d → r ≤ n → ∀ c : Nat → Int, (∀ l, l ≤ r → cgM (c l) (la_cp r A l)) → (∀ m, -9223372036854775808 ≤ c m ∧ c m ≤ 9223372036854775807) →
    Ev (fun k => F136.l0 k (vmat n A) (vrow (r + 1) c) r) (trimN (vrow (n + 1) (fun l => wrap64 (la_cp n A l))) (n + 1)) := by
  intro d
  induction d with
  | zero =>
    intro r hd hr c hc hw
    obtain rfl : r = n := by omega
    refine Ev.step (fun q => by simp only [F136.l0]; rfl) ?_
    simp only [vmat_length, Int.lt_irrefl, if_false]
    refine Ev.bind (a := trimN (vrow (r + 1) (fun l => wrap64 (la_cp r A l))) (r + 1)) ?_ (Ev.now _)
    have h := l01Trim_ev (vrow (r + 1) c) (by rw [vrow_length]; omega)
    rw [vrow_length] at h
    rw [show vrow (r + 1) (fun l => wrap64 (la_cp r A l)) = vrow (r + 1) c from vrow_congr fun l hl => (wrap_of_cg (cg_symm (hc l (by omega))) (hw l))]
    exact h
  | succ d ih =>
    intro r hd hr c hc hw
    have hrn : r < n := by omega
    refine Ev.step (fun q => by simp only [F136.l0]; rfl) ?_
    simp only [vmat_length, show ((r : Int) < (n : Int)) by omega, show (0 : Int) ≤ (r : Int) by omega, if_true, vmat_row hrn, vrow_length, vrow_rd hrn]
    refine berk_l1 n (by omega) A _ _ r hrn _ ?_ r 0 (by omega) (by omega)
    have h := berk_l2 n (by omega) A (vrow (r + 1) c) r hrn (trimN (vrow (n + 1) (fun l => wrap64 (la_cp n A l))) (n + 1)) (fun T hT => ?_) r 0 (by omega) (by omega) (fun j => if j = 0 then 1 else wrap64 (-A r r)) (fun i => A i r) (fun j hj => by
      by_cases e : j = 0
      · subst e; simp only [if_true]; exact cg_refl _
      · obtain rfl : j = 1 := by omega
        simp only [if_neg (show ¬ (1 = 0) by omega)]
        exact cg_wrap _) (fun i _ => cg_refl _)
    · exact h
    · refine berk_l5 n (by omega) A r hrn c T hT hc _ (fun M g1 g4 => ?_) (r + 2) 0 (by omega) (by omega) (fun _ => 0) (fun m hm => by omega) (fun _ _ => rfl) (fun _ => by omega)
      have h := ih (r + 1) (by omega) (by omega) M (fun l hl => g1 l hl) g4
      rw [show ((r + 1 : Nat) : Int) = (r : Int) + 1 by omega] at h
      exact h
theorem berkowitz_ev (n : Nat) (hn : n ≤ 1048574) (A : Nat → Nat → Int) : Ev (fun k => F136.f k (vmat n A)) (trimN (vrow (n + 1) (fun l => wrap64 (la_cp n A l))) (n + 1)) := by
  unfold F136.f
  exact berk_l0 n hn A n 0 (by omega) (by omega) (fun _ => 1) (fun l hl => by
    obtain rfl : l = 0 := by omega
    rw [la_cp_zero]; exact cg_refl _) (fun _ => by omega)
/-- The edge matrix, by its places. -/
def eA (l : List (List Int)) (e f : Nat) : Int := if next l e f = true then 1 else 0
theorem edgeM_vmat (l : List (List Int)) : edgeM l = vmat (2 * l.length) (eA l) := by
  unfold edgeM vmat
  apply List.map_congr_left
  intro e _
  unfold mrow vrow
  apply List.map_congr_left
  intro f hf
  have hf' : f < 2 * l.length := List.mem_range.mp hf
  unfold eA
  simp [hf']
theorem opp_lt {n : Nat} {l : List (List Int)} (hl : n = 2 * l.length) {e : Nat} (he : e < n) : opp e < n := by unfold opp; split <;> omega
theorem begAt_opp (l : List (List Int)) (e : Nat) : begAt l (opp e) = endAt l e := by
  unfold begAt endAt opp
  rcases Nat.mod_two_eq_zero_or_one e with h | h
  · rw [if_pos h, show (e + 1) / 2 = e / 2 by omega, show (e + 1) % 2 = 1 - e % 2 by omega]
  · rw [if_neg (by omega), show (e - 1) / 2 = e / 2 by omega, show (e - 1) % 2 = 1 - e % 2 by omega]
theorem eA_eq (l : List (List Int)) (e f : Nat) : eA l e f = (if begAt l f = endAt l e then 1 else 0) - la_ee (opp e) f := by
  unfold eA next la_ee
  by_cases h1 : f = opp e
  · subst h1
    rw [begAt_opp]; simp
  · by_cases h2 : begAt l f = endAt l e
    · simp [h1, h2]
    · simp [h1, h2, Ne.symm h2]
theorem ab_eA (l : List (List Int)) (e f : Nat) : la_ab (eA l e f) = eA l e f := by unfold eA; split <;> rfl
theorem ee_nonneg (j b : Nat) : 0 ≤ la_ee j b := by unfold la_ee; split <;> omega
theorem sm_ee_le (n j : Nat) : la_sm n (la_ee j) ≤ 1 := by
  by_cases h : j < n
  · rw [la_sm_single j h (fun i _ hne => la_ee_ne hne), la_ee_self]; omega
  · rw [la_sm_zero (fun i hi => la_ee_ne (by omega))]; omega
theorem sm_one_le {n : Nat} {f : Nat → Int} (h0 : ∀ a, a < n → 0 ≤ f a) (h1 : ∀ a, a < n → f a ≤ 1) (h : ∀ a b, a < b → b < n → f a = 0 ∨ f b = 0) : la_sm n f ≤ 1 := by
  induction n with
  | zero => simp [la_sm]
  | succ n ih =>
    simp only [la_sm]
    by_cases e : f n = 0
    · have := ih (fun a ha => h0 a (by omega)) (fun a ha => h1 a (by omega)) (fun a b ha hb => h a b ha (by omega)); omega
    · rw [la_sm_zero (fun i hi => (h i n hi (by omega)).resolve_right e)]
      have := h1 n (by omega); omega
theorem pr_two (p : Nat → Prop) [DecidablePred p] (n : Nat) : ∃ c : Nat, (c : Int) = la_sm n (fun a => if p a then 1 else 0) ∧ la_pr n (fun a => if p a then 20 else 4) = 4 ^ n * 5 ^ c := by
  induction n with
  | zero => exact ⟨0, rfl, rfl⟩
  | succ n ih =>
    obtain ⟨c, h1, h2⟩ := ih
    by_cases h : p n
    · refine ⟨c + 1, ?_, ?_⟩
      · simp only [la_sm, if_pos h]; omega
      · simp only [la_pr, if_pos h, h2, Int.pow_succ]; grind
    · refine ⟨c, ?_, ?_⟩
      · simp only [la_sm, if_neg h]; omega
      · simp only [la_pr, if_neg h, h2, Int.pow_succ]; grind
def isRep (l : List (List Int)) (a : Nat) : Prop := ∀ e, e < a → endAt l e ≠ endAt l a
instance (l : List (List Int)) : DecidablePred (isRep l) := fun _ => inferInstanceAs (Decidable (∀ e, e < _ → _))
theorem rep_ex (l : List (List Int)) (a : Nat) : ∃ r, (isRep l a → r = a) ∧ (¬ isRep l a → r < a ∧ isRep l r ∧ endAt l r = endAt l a) := by
  induction a using Nat.strongRecOn with
  | _ a ih =>
    by_cases h : isRep l a
    · exact ⟨a, fun _ => rfl, fun h2 => absurd h h2⟩
    · have : ∃ e, e < a ∧ endAt l e = endAt l a := by
        apply Classical.byContradiction
        intro hc
        exact h (fun e he h2 => hc ⟨e, he, h2⟩)
      obtain ⟨e, he, h2⟩ := this
      obtain ⟨r, hr1, hr2⟩ := ih e he
      by_cases h3 : isRep l e
      · exact ⟨e, fun h4 => absurd h4 h, fun _ => ⟨he, h3, h2⟩⟩
      · obtain ⟨g1, g2, g3⟩ := hr2 h3
        exact ⟨r, fun h4 => absurd h4 h, fun _ => ⟨by omega, g2, g3.trans h2⟩⟩
theorem edge_norm (l : List (List Int)) (hl : l.length ≤ 10) (hE : ∀ e, e < 2 * l.length → ∃ v : Nat, endAt l e = v ∧ v < 8) (k : Nat) (hk : k ≤ 2 * l.length) :
    la_ab (la_cp (2 * l.length) (eA l) k) ≤ 429496729600000000 := by
  obtain ⟨rep, hrep⟩ := Classical.axiomOfChoice (rep_ex l)
  generalize hn : 2 * l.length = n at hE hk ⊢
  have hn20 : n ≤ 20 := by omega
  let x : Nat → Int := fun a => if isRep l a then 0 else -1
  let P : Nat → Nat → Int := fun a b => la_ee a b + x a * la_ee (rep a) b
  let Q : Nat → Nat → Int := fun a b => la_ng (eA l) a b + x a * la_ng (eA l) (rep a) b
  have hdc : ∀ k, k ≤ n → la_cp n (eA l) k = la_dc n P Q k := by
    intro k hk
    refine la_pv_inj (n := n) (fun u _ => ?_) k hk
    show la_pv n (la_dc n (fun a b => la_ee a b) (la_ng (eA l))) u = _
    rw [← la_det_pv, ← la_det_pv, ← la_det_rows_mix (fun a b => la_ee a b + u * la_ng (eA l) a b) rep x (fun a ha hx => ?_)]
    · refine la_det_congr (fun a b _ _ => ?_)
      show _ = (la_ee a b + x a * la_ee (rep a) b) + u * (la_ng (eA l) a b + x a * la_ng (eA l) (rep a) b)
      grind
    · have h1 : ¬ isRep l a := fun h => hx (if_pos h)
      obtain ⟨g1, g2, g3⟩ := (hrep a).2 h1
      exact ⟨by omega, by omega, if_pos g2⟩
  have hrow : ∀ a, a < n → la_sm n (fun b => la_ab (P a b) + la_ab (Q a b)) ≤ if isRep l a then 20 else 4 := by
    intro a ha
    by_cases h : isRep l a
    · rw [if_pos h]
      have e : la_sm n (fun b => la_ab (P a b) + la_ab (Q a b)) = la_sm n (la_ee a) + la_sm n (fun b => eA l a b) := by
        rw [← la_sm_add]
        refine la_sm_congr (fun b _ => ?_)
        have hx : x a = 0 := if_pos h
        show la_ab (la_ee a b + x a * la_ee (rep a) b) + la_ab (la_ng (eA l) a b + x a * la_ng (eA l) (rep a) b) = _
        rw [hx, Int.zero_mul, Int.zero_mul, Int.add_zero, Int.add_zero]
        congr 1
        · unfold la_ee la_ab; split <;> rfl
        · unfold la_ng
          rw [← ab_eA]
          unfold la_ab; omega
      rw [e]
      have h1 := sm_ee_le n a
      have h2 : la_sm n (fun b => eA l a b) ≤ la_sm n (fun b => 1 - la_ee (opp a) b) := la_sm_le (fun b _ => by
        rw [eA_eq]; split <;> omega)
      rw [la_sm_sub, la_sm_single (n := n) (f := la_ee (opp a)) (opp a) (opp_lt hn.symm ha) (fun i _ hne => la_ee_ne hne), la_ee_self] at h2
      have h3 : ∀ m : Nat, la_sm m (fun _ => (1 : Int)) = m := by
        intro m
        induction m with
        | zero => rfl
        | succ m ih => simp only [la_sm, ih]; omega
      rw [h3] at h2
      omega
    · rw [if_neg h]
      obtain ⟨g1, g2, g3⟩ := (hrep a).2 h
      have hx : x a = -1 := if_neg h
      have e : la_sm n (fun b => la_ab (P a b) + la_ab (Q a b)) ≤ la_sm n (fun b => (la_ee a b + la_ee (rep a) b) + (la_ee (opp a) b + la_ee (opp (rep a)) b)) := by
        refine la_sm_le (fun b _ => ?_)
        show la_ab (la_ee a b + x a * la_ee (rep a) b) + la_ab (la_ng (eA l) a b + x a * la_ng (eA l) (rep a) b) ≤ _
        rw [hx]
        unfold la_ng
        rw [eA_eq, eA_eq, g3]
        have := ee_nonneg a b
        have := ee_nonneg (rep a) b
        have := ee_nonneg (opp a) b
        have := ee_nonneg (opp (rep a)) b
        generalize la_ee a b = e1 at *
        generalize la_ee (rep a) b = e2 at *
        generalize la_ee (opp a) b = e3 at *
        generalize la_ee (opp (rep a)) b = e4 at *
        generalize (if begAt l b = endAt l a then (1 : Int) else 0) = z
        unfold la_ab
        omega
      rw [la_sm_add n (fun b => la_ee a b + la_ee (rep a) b) (fun b => la_ee (opp a) b + la_ee (opp (rep a)) b), la_sm_add n (la_ee a) (la_ee (rep a)), la_sm_add n (la_ee (opp a)) (la_ee (opp (rep a)))] at e
      have := sm_ee_le n a
      have := sm_ee_le n (rep a)
      have := sm_ee_le n (opp a)
      have := sm_ee_le n (opp (rep a))
      omega
  obtain ⟨c, hc1, hc2⟩ := pr_two (isRep l) n
  have hc8 : c ≤ 8 := by
    have h1 : la_sm n (fun a => if isRep l a then (1 : Int) else 0) = la_sm n (fun a => la_sm 8 (fun v => if isRep l a ∧ endAt l a = (v : Int) then 1 else 0)) := by
      refine la_sm_congr (fun a ha => ?_)
      obtain ⟨v, hv1, hv2⟩ := hE a ha
      rw [la_sm_single v hv2 (fun i _ hne => if_neg (fun h2 => hne (by have := h2.2; omega)))]
      by_cases h : isRep l a
      · rw [if_pos h, if_pos ⟨h, hv1⟩]
      · rw [if_neg h, if_neg (fun h2 => h h2.1)]
    rw [la_sm_swap] at h1
    have h2 : la_sm 8 (fun v => la_sm n (fun a => if isRep l a ∧ endAt l a = (v : Int) then (1 : Int) else 0)) ≤ la_sm 8 (fun _ => 1) := la_sm_le (fun v _ => sm_one_le (fun a _ => by split <;> omega) (fun a _ => by split <;> omega) (fun a b hab hb => by
      by_cases h : isRep l b ∧ endAt l b = (v : Int)
      · left
        rw [if_neg]
        rintro ⟨h3, h4⟩
        exact h.1 a hab (h4.trans h.2.symm)
      · right; exact if_neg h))
    have h3 : la_sm 8 (fun _ => (1 : Int)) = 8 := rfl
    omega
  have hb := la_dc_bound (n := n) P Q
  have h1 := la_ab_le_sm (n := n + 1) (la_dc n P Q) k (by omega)
  have h2 : la_pr n (fun a => la_sm n (fun b => la_ab (P a b) + la_ab (Q a b))) ≤ la_pr n (fun a => if isRep l a then 20 else 4) :=
    la_pr_le (fun a _ => la_sm_nonneg (fun b _ => by have := la_ab_nonneg (P a b); have := la_ab_nonneg (Q a b); omega)) hrow
  rw [hc2] at h2
  have h4 : (4 : Int) ^ n * 5 ^ c ≤ 4 ^ 20 * 5 ^ 8 := by
    have p4 : (4 : Int) ^ n ≤ 4 ^ 20 := by
      have := Nat.pow_le_pow_right (n := 4) (by omega) hn20
      exact_mod_cast this
    have p5 : (5 : Int) ^ c ≤ 5 ^ 8 := by
      have := Nat.pow_le_pow_right (n := 5) (by omega) hc8
      exact_mod_cast this
    have q5 : (0 : Int) ≤ 5 ^ c := by
      have : (0 : Nat) ≤ 5 ^ c := Nat.zero_le _
      exact_mod_cast this
    exact Int.mul_le_mul p4 p5 q5 (by decide)
  rw [hdc k hk]
  have h5 : (4 : Int) ^ 20 * 5 ^ 8 = 429496729600000000 := by decide
  omega
theorem isG_endAt {a : Int} {l : List (List Int)} (h : isG a l = true) (e : Nat) (he : e < 2 * l.length) : ∃ v : Nat, endAt l e = v ∧ v < 8 := by
  obtain ⟨n, _, _, hn8, hE⟩ := isG_ends h
  obtain ⟨u, v, _, hv, _, hvn⟩ := dart_ends hE e he
  exact ⟨v, hv, by omega⟩
theorem isG_cp {a : Int} {l : List (List Int)} (h : isG a l = true) (k : Nat) (hk : k ≤ 2 * l.length) : -429496729600000000 ≤ la_cp (2 * l.length) (eA l) k ∧ la_cp (2 * l.length) (eA l) k ≤ 429496729600000000 := by
  have := edge_norm l (isG_len h) (isG_endAt h) k hk
  unfold la_ab at this
  omega
theorem isG_cpk {a : Int} {l : List (List Int)} (h : isG a l = true) (k : Nat) (_ : 1 ≤ k) (hk : k ≤ 2 * l.length) : -9223372036854775807 ≤ (k : Int) * la_cp (2 * l.length) (eA l) k ∧ (k : Int) * la_cp (2 * l.length) (eA l) k ≤ 9223372036854775807 := by
  have h1 := isG_cp h k hk
  have hl := isG_len h
  have hk20 : (k : Int) ≤ 20 := by omega
  generalize la_cp (2 * l.length) (eA l) k = c at h1
  have h2 : (k : Int) * c ≤ k * 429496729600000000 := Int.mul_le_mul_of_nonneg_left h1.2 (by omega)
  have h3 : (k : Int) * (-429496729600000000) ≤ k * c := Int.mul_le_mul_of_nonneg_left h1.1 (by omega)
  omega
theorem reciprocal_ev (a : Int) (l : List (List Int)) (h : isG a l = true) : Ev (fun k => F86.f k a l) (trimN (cpL (2 * l.length) (eA l)) (2 * l.length + 1)) := by
  have hl := isG_len h
  unfold F86.f
  refine Ev.bind (edgeMatrix_ev a l hl (isG_two h)) ?_
  rw [edgeM_vmat]
  exact Ev.bind (determinant_ev (2 * l.length) (by omega) (eA l) (isG_cpk h)) (Ev.now _)
theorem at_ev (l : List Int) (k : Nat) : F166.f l k = some (rd l k) := by
  unfold F166.f
  by_cases h : (k : Int) < (l.length : Int)
  · rw [if_pos h, if_pos (by omega)]
  · rw [if_neg h]
    congr 1
    unfold rd
    rw [Int.toNat_natCast, List.getD_eq_getElem?_getD, List.getElem?_eq_none (by omega)]
    rfl
theorem un1_pv (n : Nat) (X : Nat → Nat → Int) (u : Int) : la_det n (la_un1 u X) = la_pv n (la_cp n X) u := by
  have h := la_det_pv (n := n) (fun a b => la_ee a b) (la_ng X) u
  unfold la_cp
  rw [← h]
  refine la_det_congr (fun a b _ _ => ?_)
  unfold la_un1 la_ng
  rw [Int.mul_neg]
  omega
theorem l02Matrix_l1 (a : Int) (l : List (List Int)) (hl : l.length ≤ 10) (h2 : two l) (x3 : List (List Int)) (hx : x3.length < 1048576) (R : List (List Int)) (e : Nat) (he : e < 2 * l.length)
    (hR : Ev (fun k => F135.l0 k (x3 ++ [mrow (2 * l.length) (next l e) (2 * l.length)]) ((2 * l.length : Nat) : Int) ((e : Int) + 1) a l) R) :
    ∀ (d f : Nat), 2 * l.length - f = d → f ≤ 2 * l.length → Ev (fun k => F135.l1 k x3 ((2 * l.length : Nat) : Int) e (mrow (2 * l.length) (next l e) f) (endAt l e) f a l) R := by
  intro d
  induction d with
  | zero =>
    intro f hd hf
    obtain rfl : f = 2 * l.length := by omega
    refine Ev.step (fun k => by simp only [F135.l1]; rfl) ?_
    simp only [Int.lt_irrefl, if_false, show x3.length < 5864062014805 by omega, if_true, w64 (show -9223372036854775808 ≤ (e : Int) + 1 by omega) (by omega)]
    exact hR
  | succ d ih =>
    intro f hd hf
    have hfl : f < 2 * l.length := by omega
    refine Ev.step (fun k => by simp only [F135.l1]; rfl) ?_
    have h := ih (f + 1) (by omega) (by omega)
    simp only [show ((f : Int) < ((2 * l.length : Nat) : Int)) by omega, if_true, l01Ends_eq a l (by omega) h2 f hfl, Option.bind_some, show (0 : Int) ≤ (f : Int) by omega, mrow_length, Int.toNat_natCast, xor1 e (by omega), w64 (show -9223372036854775808 ≤ (f : Int) + 1 by omega) (by omega)]
    have hn : next l e f = (decide (endAt l e = begAt l f) && !decide (f = opp e)) := rfl
    by_cases h3 : begAt l f = endAt l e
    · simp only [h3, if_true]
      by_cases h4 : f = opp e
      · simp only [eq_true (show (f : Int) = ((opp e : Nat) : Int) by omega), if_true]
        rw [mrow_miss _ _ _ (show next l e f = false by rw [hn]; simp [h3, h4.symm])]
        exact h
      · simp only [show ¬ ((f : Int) = ((opp e : Nat) : Int)) by omega, if_false]
        rw [mrow_hit _ _ _ hfl (show next l e f = true by rw [hn]; simp [h3, h4])]
        exact h
    · simp only [h3, if_false]
      rw [mrow_miss _ _ _ (show next l e f = false by rw [hn]; simp [Ne.symm h3])]
      exact h
theorem l02Matrix_l0 (a : Int) (l : List (List Int)) (hl : l.length ≤ 10) (h2 : two l) : ∀ (d e : Nat), 2 * l.length - e = d → e ≤ 2 * l.length → Ev (fun k => F135.l0 k ((edgeM l).take e) ((2 * l.length : Nat) : Int) e a l) (edgeM l) := by
  have hlen : (edgeM l).length = 2 * l.length := by simp [edgeM]
  intro d
  induction d with
  | zero =>
    intro e hd he
    refine Ev.step (fun k => by simp only [F135.l0]; rfl) ?_
    simp only [show ¬ ((e : Int) < ((2 * l.length : Nat) : Int)) by omega, if_false]
    rw [List.take_of_length_le (by omega)]
    exact Ev.now _
  | succ d ih =>
    intro e hd he
    have hel : e < 2 * l.length := by omega
    refine Ev.step (fun k => by simp only [F135.l0]; rfl) ?_
    simp only [show ((e : Int) < ((2 * l.length : Nat) : Int)) by omega, show (0 : Int) ≤ ((2 * l.length : Nat) : Int) by omega, show 2 * l.length ≤ 35184372088832 by omega, if_true, Int.toNat_natCast, l01Ends_eq a l (by omega) h2 e hel, Option.bind_some]
    rw [← mrow_zero (2 * l.length) (next l e)]
    refine l02Matrix_l1 a l hl h2 ((edgeM l).take e) (by rw [List.length_take]; omega) (edgeM l) e hel ?_ (2 * l.length) 0 (by omega) (by omega)
    have h := ih (e + 1) (by omega) (by omega)
    have e1 : (edgeM l).take (e + 1) = (edgeM l).take e ++ [mrow (2 * l.length) (next l e) (2 * l.length)] := by
      rw [List.take_succ_eq_append_getElem (by omega)]
      simp [edgeM]
    rw [e1] at h
    exact h
theorem l02Matrix_ev (a : Int) (l : List (List Int)) (hl : l.length ≤ 10) (h2 : two l) : Ev (fun k => F135.f k a l) (edgeM l) := by
  unfold F135.f
  rw [w64 (by omega) (by omega), show 2 * (l.length : Int) = ((2 * l.length : Nat) : Int) by omega]
  exact l02Matrix_l0 a l hl h2 (2 * l.length) 0 (by omega) (by omega)
theorem equal_l0 (l : List Int) (hl : l.length ≤ 1048576) : ∀ (d i : Nat), l.length - i = d → i ≤ l.length → Ev (fun k => F95.l0 k l l (l.length : Int) i) true := by
  intro d
  induction d with
  | zero =>
    intro i hd hi
    refine Ev.step (fun k => by simp only [F95.l0]; rfl) ?_
    simp only [show ¬ ((i : Int) < (l.length : Int)) by omega, if_false]
    exact Ev.now _
  | succ d ih =>
    intro i hd hi
    refine Ev.step (fun k => by simp only [F95.l0]; rfl) ?_
    simp only [show ((i : Int) < (l.length : Int)) by omega, show (0 : Int) ≤ (i : Int) by omega, if_true, w64 (show -9223372036854775808 ≤ (i : Int) + 1 by omega) (by omega)]
    exact ih (i + 1) (by omega) (by omega)
theorem equal_ev (l : List Int) (hl : l.length ≤ 1048576) : Ev (fun k => F95.f k l l) true := by
  unfold F95.f
  simp only [if_true]
  exact equal_l0 l hl l.length 0 (by omega) (by omega)
/-- Numbers 0 at the end don't matter to what is trimmed. -/
theorem trimN_vrow (c : Nat → Int) : ∀ (d m : Nat), (∀ k, m < k → c k = 0) → trimN (vrow (m + d + 1) c) (m + d + 1) = trimN (vrow (m + 1) c) (m + 1) := by
  intro d
  induction d with
  | zero => intro m _; rfl
  | succ d ih =>
    intro m hz
    rw [← ih m hz]
    have h0 : rd (vrow (m + (d + 1) + 1) c) ((m + (d + 1) : Nat) : Int) = 0 := by rw [vrow_rd (by omega)]; exact hz _ (by omega)
    show (if rd (vrow (m + (d + 1) + 1) c) ((m + (d + 1) : Nat) : Int) = 0 then trimN (vrow (m + (d + 1) + 1) c) (m + (d + 1)) else _) = _
    rw [if_pos h0]
    have key : ∀ k, k ≤ m + d + 1 → trimN (vrow (m + (d + 1) + 1) c) k = trimN (vrow (m + d + 1) c) k := by
      intro k
      induction k with
      | zero => intro _; rfl
      | succ k ihk =>
        intro hk
        show (if rd (vrow (m + (d + 1) + 1) c) (k : Int) = 0 then trimN (vrow (m + (d + 1) + 1) c) k else (vrow (m + (d + 1) + 1) c).take (k + 1)) = (if rd (vrow (m + d + 1) c) (k : Int) = 0 then trimN (vrow (m + d + 1) c) k else (vrow (m + d + 1) c).take (k + 1))
        rw [vrow_rd (by omega), vrow_rd (by omega), ihk (by omega), vrow_take (by omega), vrow_take (by omega)]
    exact key _ (by omega)
theorem sm_succ (n : Nat) (f : Nat → Int) : la_sm (n + 1) f = la_sm n f + f n := rfl
/-- Rows that stay, added to rows that none takes. -/
theorem det_rowops {n : Nat} (M X : Nat → Nat → Int) (hX : ∀ a l, a < n → l < n → X a l ≠ 0 → ∀ r, r < n → X l r = 0) : ∀ j, j ≤ n → la_det n (fun a b => M a b + la_sm j (fun l => X a l * M l b)) = la_det n M := by
  intro j
  induction j with
  | zero =>
    intro _
    exact la_det_congr fun a b _ _ => by show M a b + 0 = M a b; omega
  | succ j ih =>
    intro hj
    have hjj : X j j = 0 := by
      by_cases h : X j j = 0
      · exact h
      · exact hX j j (by omega) (by omega) h j (by omega)
    rw [← ih (by omega), ← la_det_rows_addmul (fun a b => M a b + la_sm j (fun l => X a l * M l b)) j (by omega) (fun a => X a j) hjj]
    refine la_det_congr fun a b ha hb => ?_
    show M a b + (la_sm j (fun l => X a l * M l b) + X a j * M j b) = M a b + la_sm j (fun l => X a l * M l b) + X a j * (M j b + la_sm j (fun l => X j l * M l b))
    by_cases h : X a j = 0
    · rw [h, Int.zero_mul, Int.zero_mul]; omega
    · rw [la_sm_zero (f := fun l => X j l * M l b) (fun l hl => by rw [hX a j ha (by omega) h l (by omega), Int.zero_mul]), Int.add_zero]
      omega
/-- Columns likewise. -/
theorem det_colops {n : Nat} (M Y : Nat → Nat → Int) (hY : ∀ l b, l < n → b < n → Y l b ≠ 0 → ∀ r, r < n → Y r l = 0) : ∀ j, j ≤ n → la_det n (fun a b => M a b + la_sm j (fun l => Y l b * M a l)) = la_det n M := by
  intro j
  induction j with
  | zero =>
    intro _
    exact la_det_congr fun a b _ _ => by show M a b + 0 = M a b; omega
  | succ j ih =>
    intro hj
    have hjj : Y j j = 0 := by
      by_cases h : Y j j = 0
      · exact h
      · exact hY j j (by omega) (by omega) h j (by omega)
    rw [← ih (by omega), ← la_det_cols_addmul (fun a b => M a b + la_sm j (fun l => Y l b * M a l)) j (by omega) (fun b => Y j b) hjj]
    refine la_det_congr fun a b ha hb => ?_
    show M a b + (la_sm j (fun l => Y l b * M a l) + Y j b * M a j) = M a b + la_sm j (fun l => Y l b * M a l) + Y j b * (M a j + la_sm j (fun l => Y l j * M a l))
    by_cases h : Y j b = 0
    · rw [h, Int.zero_mul, Int.zero_mul]; omega
    · rw [la_sm_zero (f := fun l => Y l j * M a l) (fun l hl => by rw [hY j b (by omega) hb h l (by omega), Int.zero_mul]), Int.add_zero]
      omega
/-- The determinant of a matrix in two blocks. -/
theorem det_block (q : Nat) : ∀ (p : Nat) (M : Nat → Nat → Int), (∀ a b, p ≤ a → a < p + q → b < p → M a b = 0) → la_det (p + q) M = la_det p M * la_det q (fun a b => M (p + a) (p + b)) := by
  intro p
  induction p with
  | zero =>
    intro M _
    rw [Nat.zero_add, show la_det 0 M = 1 from rfl, Int.one_mul]
    exact la_det_congr fun a b _ _ => by rw [Nat.zero_add, Nat.zero_add]
  | succ p ih =>
    intro M h
    rw [show p + 1 + q = p + q + 1 by omega, la_det_succ, la_det_succ, la_sm_ext (n := p + 1) (m := p + q + 1) (by omega) (fun i h1 h2 => by rw [h i 0 (by omega) (by omega) (by omega), Int.mul_zero, Int.zero_mul]), Int.mul_comm, ← la_sm_mul]
    refine la_sm_congr fun i hi => ?_
    rw [ih _ (fun a b h1 h2 h3 => by rw [show la_sk i a = a + 1 from if_neg (by omega)]; exact h (a + 1) (b + 1) (by omega) (by omega) (by omega))]
    rw [la_det_congr (n := q) (N := fun a b => M (p + 1 + a) (p + 1 + b)) (fun a b _ _ => by rw [show la_sk i (p + a) = p + a + 1 from if_neg (by omega), show p + a + 1 = p + 1 + a by omega, show p + b + 1 = p + 1 + b by omega]), ← Int.mul_assoc, Int.mul_comm]
def sw2 (j m a : Nat) : Nat := if a = j then m else if a = m then j else a
theorem sw2_lt {j m n a : Nat} (hj : j < n) (hm : m < n) (ha : a < n) : sw2 j m a < n := by unfold sw2; (repeat' split) <;> omega
theorem sw2_sw2 (j m a : Nat) : sw2 j m (sw2 j m a) = a := by unfold sw2; (repeat' split) <;> omega
theorem det_sw2 {n : Nat} (K : Nat → Nat → Int) (j m : Nat) (hj : j < n) (hm : m < n) (hjm : j ≠ m) : la_det n (fun a b => K (sw2 j m a) (sw2 j m b)) = la_det n K := by
  have h1 := la_det_swap K j m hj hm hjm
  have h2 := la_det_col_swap (fun a b => K (sw2 j m a) b) j m hj hm hjm
  have e1 : la_rr (la_rr K j (K m)) m (K j) = fun a b => K (sw2 j m a) b := by
    funext a b
    unfold la_rr sw2
    by_cases e : a = m
    · subst e; rw [if_pos rfl, if_neg (fun e => hjm e.symm), if_pos rfl]
    · rw [if_neg e]
      by_cases e2 : a = j
      · rw [if_pos e2, if_pos e2]
      · rw [if_neg e2, if_neg e2, if_neg e]
  have e2 : la_rc (la_rc (fun a b => K (sw2 j m a) b) j (fun a => K (sw2 j m a) m)) m (fun a => K (sw2 j m a) j) = fun a b => K (sw2 j m a) (sw2 j m b) := by
    funext a b
    unfold la_rc
    by_cases e : b = m
    · subst e; rw [if_pos rfl, show sw2 j b b = j from by unfold sw2; rw [if_neg (fun e => hjm e.symm), if_pos rfl]]
    · rw [if_neg e]
      by_cases e2 : b = j
      · rw [if_pos e2, show sw2 j m b = m from if_pos e2]
      · rw [if_neg e2, show sw2 j m b = b from by unfold sw2; rw [if_neg e2, if_neg e]]
  rw [e1] at h1
  rw [e2, h1] at h2
  rw [h2]
  omega
/-- Rows and columns put in another order, both the same. -/
theorem det_perm (n : Nat) : ∀ (m : Nat), m ≤ n → ∀ (s r : Nat → Nat) (M : Nat → Nat → Int), (∀ a, a < n → s a < n ∧ r (s a) = a) → (∀ b, b < n → r b < n ∧ s (r b) = b) → (∀ a, m ≤ a → a < n → s a = a) → la_det n (fun a b => M (s a) (s b)) = la_det n M := by
  intro m
  induction m with
  | zero =>
    intro _ s r M _ _ h
    exact la_det_congr fun a b ha hb => by rw [h a (by omega) ha, h b (by omega) hb]
  | succ m ih =>
    intro hm s r M h1 h2 h3
    obtain ⟨hj, hsj⟩ := h2 m (by omega)
    by_cases e : r m = m
    · refine ih (by omega) s r M h1 h2 (fun a ha han => ?_)
      by_cases e2 : a = m
      · subst e2; rw [e] at hsj; exact hsj
      · exact h3 a (by omega) han
    · have hjm : r m < m := by
        by_cases e2 : r m < m
        · exact e2
        · have := h3 (r m) (by omega) hj
          rw [hsj] at this
          exact absurd this.symm e
      have i1 := ih (by omega) (fun a => s (sw2 (r m) m a)) (fun b => sw2 (r m) m (r b)) M (fun a ha => by
        obtain ⟨g1, g2⟩ := h1 _ (sw2_lt hj (show m < n by omega) ha)
        exact ⟨g1, by rw [g2, sw2_sw2]⟩) (fun b hb => by
        obtain ⟨g1, g2⟩ := h2 b hb
        exact ⟨sw2_lt hj (by omega) g1, by rw [sw2_sw2]; exact g2⟩) (fun a ha han => by
        by_cases e2 : a = m
        · subst e2
          rw [show sw2 (r a) a a = r a from by unfold sw2; rw [if_neg (fun e3 => e e3.symm), if_pos rfl]]
          exact hsj
        · rw [show sw2 (r m) m a = a from by unfold sw2; rw [if_neg (by omega), if_neg e2]]
          exact h3 a (by omega) han)
      rw [← i1, ← det_sw2 (fun a b => M (s (sw2 (r m) m a)) (s (sw2 (r m) m b))) (r m) m hj (by omega) e]
      exact la_det_congr fun a b _ _ => by rw [sw2_sw2, sw2_sw2]
/-- Polynomials multiplied. -/
def cv (f g : Nat → Int) (k : Nat) : Int := la_sm (k + 1) (fun i => f i * g (k - i))
theorem cv_zero (f g : Nat → Int) : cv f g 0 = f 0 * g 0 := by
  show 0 + f 0 * g (0 - 0) = _
  rw [Int.zero_add]
theorem cv_succ (f g : Nat → Int) (k : Nat) : cv f g (k + 1) = f 0 * g (k + 1) + cv (fun i => f (i + 1)) g k := by
  unfold cv
  rw [la_sm_succ']
  congr 1
  exact la_sm_congr fun i hi => by rw [show k + 1 - (i + 1) = k - i by omega]
theorem pv_cv (q : Nat) (g : Nat → Int) (hg : ∀ k, q < k → g k = 0) (u : Int) : ∀ (p : Nat) (f : Nat → Int), (∀ k, p < k → f k = 0) → la_pv p f u * la_pv q g u = la_pv (p + q) (cv f g) u := by
  intro p
  induction p with
  | zero =>
    intro f hf
    rw [Nat.zero_add, show la_pv 0 f u = f 0 from by show 0 + f 0 * u ^ 0 = f 0; rw [Int.pow_zero]; omega, ← la_pv_mul]
    refine la_pv_congr u fun k _ => ?_
    cases k with
    | zero => rw [cv_zero]
    | succ k =>
      rw [cv_succ, show cv (fun i => f (i + 1)) g k = 0 from la_sm_zero fun i _ => by show f (i + 1) * g (k - i) = 0; rw [hf (i + 1) (by omega), Int.zero_mul]]
      omega
  | succ p ih =>
    intro f hf
    have h1 := ih (fun k => f (k + 1)) (fun k hk => hf (k + 1) (by omega))
    have h2 := la_pv_more (n := q) (m := p + q + 1) g u (by omega) hg
    rw [la_pv_head, Int.add_mul, Int.mul_assoc, h1, ← la_pv_up, ← h2, ← la_pv_mul, ← la_pv_add, show p + 1 + q = p + q + 1 by omega]
    refine la_pv_congr u fun k _ => ?_
    cases k with
    | zero =>
      rw [cv_zero]
      show f 0 * g 0 + 0 = _
      omega
    | succ k =>
      rw [cv_succ]
      rfl
theorem cp_mul {N p q : Nat} (hN : N = p + q) {T A R : Nat → Nat → Int} (h : ∀ u : Int, la_det N (la_un1 u T) = la_det p (la_un1 u A) * la_det q (la_un1 u R)) (k : Nat) : la_cp N T k = cv (la_cp p A) (la_cp q R) k := by
  subst hN
  have hp : ∀ k, p < k → la_cp p A k = 0 := fun k hk => la_dc_top _ _ k hk
  have hq : ∀ k, q < k → la_cp q R k = 0 := fun k hk => la_dc_top _ _ k hk
  by_cases hk : k ≤ p + q
  · exact la_pv_inj (n := p + q) (fun u _ => by rw [← un1_pv, h u, un1_pv, un1_pv, pv_cv q _ hq u p _ hp]) k hk
  · rw [show la_cp (p + q) T k = 0 from la_dc_top _ _ k (by omega)]
    refine (la_sm_zero fun i hi => ?_).symm
    by_cases h1 : p < i
    · rw [hp i h1, Int.zero_mul]
    · rw [hq (k - i) (by omega), Int.mul_zero]
/-- A sum over d sheets of p places each. -/
theorem sm_sheets (p : Nat) : ∀ (d : Nat) (f : Nat → Int), la_sm (d * p) f = la_sm d (fun j => la_sm p (fun e => f (j * p + e))) := by
  intro d
  induction d with
  | zero => intro f; rw [Nat.zero_mul]; rfl
  | succ d ih =>
    intro f
    rw [Nat.succ_mul, la_sm_split, ih, sm_succ]
/-- Places of a cover's directed edges: by sheets. H: who follows whom; A: below, on the base. -/
def shH (p : Nat) (E B : Nat → Int) (op : Nat → Nat) (bs es : Nat → Nat → Nat) (a b : Nat) : Int :=
  (if B (b % p) = E (a % p) ∧ bs (b % p) (b / p) = es (a % p) (a / p) then 1 else 0) - (if b % p = op (a % p) ∧ b / p = a / p then 1 else 0)
def shA (E B : Nat → Int) (op : Nat → Nat) (e f : Nat) : Int := (if B f = E e then 1 else 0) - (if f = op e then 1 else 0)
def shR (p : Nat) (E B : Nat → Int) (op : Nat → Nat) (bs es : Nat → Nat → Nat) (a b : Nat) : Int := shH p E B op bs es (p + a) (p + b) - shH p E B op bs es ((p + a) % p) (p + b)
theorem sheet_at {p e : Nat} (j : Nat) (he : e < p) : (j * p + e) % p = e ∧ (j * p + e) / p = j := by
  constructor
  · rw [Nat.add_comm, Nat.add_mul_mod_self_right, Nat.mod_eq_of_lt he]
  · rw [Nat.add_comm, Nat.add_mul_div_right _ _ (by omega), Nat.div_eq_of_lt he, Nat.zero_add]
theorem sheet_lt {p d a : Nat} (ha : a < d * p) : a % p < p ∧ a / p < d := by
  have hp : 0 < p := by
    rcases Nat.eq_zero_or_pos p with h | h
    · rw [h, Nat.mul_zero] at ha; omega
    · exact h
  exact ⟨Nat.mod_lt _ hp, Nat.div_lt_of_lt_mul (by rw [Nat.mul_comm]; exact ha)⟩
theorem sheet_eq {p a : Nat} : a / p * p + a % p = a := by rw [Nat.mul_comm]; exact Nat.div_add_mod a p
/-- All sheets' places over one place, together: the base. -/
theorem sheets_sum {p d : Nat} {E B : Nat → Int} {op : Nat → Nat} {bs es : Nat → Nat → Nat} (he : ∀ e i, e < p → i < d → es e i < d) (hb : ∀ f s, f < p → s < d → ∃ j, j < d ∧ ∀ i, i < d → (bs f i = s ↔ i = j)) (u : Int) (a b : Nat) (ha : a < d * p) (hbp : b < p) :
    la_sm d (fun j => la_un1 u (shH p E B op bs es) a (j * p + b)) = la_un1 u (shA E B op) (a % p) b := by
  obtain ⟨h1, h2⟩ := sheet_lt ha
  obtain ⟨j0, hj0, hj⟩ := hb b (es (a % p) (a / p)) hbp (he _ _ h1 h2)
  have e1 : ∀ j, j < d → la_un1 u (shH p E B op bs es) a (j * p + b) = ((if a % p = b then (if j = a / p then 1 else 0) else 0) - u * (if B b = E (a % p) then (if j = j0 then 1 else 0) else 0)) + u * (if b = op (a % p) then (if j = a / p then 1 else 0) else 0) := by
    intro j hjd
    obtain ⟨g1, g2⟩ := sheet_at j hbp
    have e2 : la_ee a (j * p + b) = if a % p = b then (if j = a / p then 1 else 0) else 0 := by
      unfold la_ee
      by_cases h : j * p + b = a
      · rw [if_pos h]
        subst h
        rw [g1, g2, if_pos rfl, if_pos rfl]
      · rw [if_neg h]
        by_cases h3 : a % p = b
        · rw [if_pos h3, if_neg (fun h4 => h (by rw [h4, ← h3]; exact sheet_eq))]
        · rw [if_neg h3]
    unfold la_un1 shH
    rw [e2, g1, g2]
    have e3 : (if B b = E (a % p) ∧ bs b j = es (a % p) (a / p) then (1 : Int) else 0) = if B b = E (a % p) then (if j = j0 then 1 else 0) else 0 := by
      by_cases h3 : B b = E (a % p)
      · rw [if_pos h3]
        by_cases h4 : j = j0
        · rw [if_pos h4, if_pos ⟨h3, (hj j hjd).2 h4⟩]
        · rw [if_neg h4, if_neg (fun h => h4 ((hj j hjd).1 h.2))]
      · rw [if_neg h3, if_neg (fun h => h3 h.1)]
    have e4 : (if b = op (a % p) ∧ j = a / p then (1 : Int) else 0) = if b = op (a % p) then (if j = a / p then 1 else 0) else 0 := by
      by_cases h3 : b = op (a % p)
      · rw [if_pos h3]
        by_cases h4 : j = a / p
        · rw [if_pos h4, if_pos ⟨h3, h4⟩]
        · rw [if_neg h4, if_neg (fun h => h4 h.2)]
      · rw [if_neg h3, if_neg (fun h => h3 h.1)]
    rw [e3, e4, Int.mul_sub]
    omega
  have one : ∀ (c : Prop) [Decidable c] (k : Nat), k < d → la_sm d (fun j => if c then (if j = k then (1 : Int) else 0) else 0) = if c then 1 else 0 := by
    intro c _ k hk
    rw [la_sm_single k hk (fun i _ hne => by rw [if_neg hne]; split <;> rfl), if_pos rfl]
  rw [la_sm_congr e1, la_sm_add, la_sm_sub, la_sm_mul, la_sm_mul, one _ _ h2, one _ _ hj0, one _ _ h2]
  unfold la_un1 shA la_ee
  rw [Int.mul_sub, show (if a % p = b then (1 : Int) else 0) = if b = a % p then 1 else 0 from by
    by_cases h : a % p = b
    · rw [if_pos h, if_pos h.symm]
    · rw [if_neg h, if_neg (fun e => h e.symm)]]
  omega
/-- The determinant of a cover is the base's times another. -/
theorem sheets_det {p d : Nat} {E B : Nat → Int} {op : Nat → Nat} {bs es : Nat → Nat → Nat} (he : ∀ e i, e < p → i < d + 1 → es e i < d + 1) (hb : ∀ f s, f < p → s < d + 1 → ∃ j, j < d + 1 ∧ ∀ i, i < d + 1 → (bs f i = s ↔ i = j)) (u : Int) :
    la_det (p + d * p) (la_un1 u (shH p E B op bs es)) = la_det p (la_un1 u (shA E B op)) * la_det (d * p) (la_un1 u (shR p E B op bs es)) := by
  generalize hM : la_un1 u (shH p E B op bs es) = M
  have hN : (d + 1) * p = p + d * p := by rw [Nat.succ_mul]; omega
  let Y : Nat → Nat → Int := fun l b => if b < p ∧ p ≤ l ∧ l % p = b then 1 else 0
  let X : Nat → Nat → Int := fun a l => if p ≤ a ∧ l < p ∧ a % p = l then -1 else 0
  have hY := det_colops (n := p + d * p) M Y (fun l b _ _ h r _ => by
    have h1 : b < p ∧ p ≤ l ∧ l % p = b := by
      by_cases g : b < p ∧ p ≤ l ∧ l % p = b
      · exact g
      · exact absurd (if_neg g) h
    exact if_neg (fun h2 => by omega)) (p + d * p) (Nat.le_refl _)
  rw [← hY]
  generalize hM1 : (fun a b => M a b + la_sm (p + d * p) (fun l => Y l b * M a l)) = M1
  have hX := det_rowops (n := p + d * p) M1 X (fun a l _ _ h r _ => by
    have h1 : p ≤ a ∧ l < p ∧ a % p = l := by
      by_cases g : p ≤ a ∧ l < p ∧ a % p = l
      · exact g
      · exact absurd (if_neg g) h
    exact if_neg (fun h2 => by omega)) (p + d * p) (Nat.le_refl _)
  rw [← hX]
  -- the columns below p: all sheets together
  have c1 : ∀ a b, a < p + d * p → b < p → M1 a b = la_un1 u (shA E B op) (a % p) b := by
    intro a b ha hbp
    rw [← sheets_sum (d := d + 1) (bs := bs) (es := es) he hb u a b (by rw [hN]; exact ha) hbp, hM, ← hM1]
    show M a b + la_sm (p + d * p) (fun l => Y l b * M a l) = _
    rw [la_sm_succ', Nat.zero_mul, Nat.zero_add, la_sm_split, la_sm_zero (n := p) (fun l hl => by
      show (if b < p ∧ p ≤ l ∧ l % p = b then (1 : Int) else 0) * M a l = 0
      rw [if_neg (by omega), Int.zero_mul]), Int.zero_add, sm_sheets]
    congr 1
    refine la_sm_congr fun j _ => ?_
    rw [la_sm_single b hbp (fun i hi hne => by
      show (if b < p ∧ p ≤ p + (j * p + i) ∧ (p + (j * p + i)) % p = b then (1 : Int) else 0) * M a (p + (j * p + i)) = 0
      rw [if_neg (fun h => hne (by rw [Nat.add_mod_left, (sheet_at j hi).1] at h; exact h.2.2)), Int.zero_mul])]
    show (if b < p ∧ p ≤ p + (j * p + b) ∧ (p + (j * p + b)) % p = b then (1 : Int) else 0) * M a (p + (j * p + b)) = _
    rw [if_pos ⟨hbp, by omega, by rw [Nat.add_mod_left, (sheet_at j hbp).1]⟩, Int.one_mul, show (j + 1) * p + b = p + (j * p + b) from by rw [Nat.succ_mul]; omega]
  -- the other columns stay
  have c2 : ∀ a b, p ≤ b → M1 a b = M a b := by
    intro a b hbp
    rw [← hM1]
    show M a b + la_sm (p + d * p) (fun l => Y l b * M a l) = _
    rw [la_sm_zero (fun l _ => by
      show (if b < p ∧ p ≤ l ∧ l % p = b then (1 : Int) else 0) * M a l = 0
      rw [if_neg (by omega), Int.zero_mul]), Int.add_zero]
  -- rows
  have r1 : ∀ a b, a < p → M1 a b + la_sm (p + d * p) (fun l => X a l * M1 l b) = M1 a b := by
    intro a b ha
    rw [la_sm_zero (fun l _ => by
      show (if p ≤ a ∧ l < p ∧ a % p = l then (-1 : Int) else 0) * M1 l b = 0
      rw [if_neg (by omega), Int.zero_mul]), Int.add_zero]
  have r2 : ∀ a b, p ≤ a → a < p + d * p → M1 a b + la_sm (p + d * p) (fun l => X a l * M1 l b) = M1 a b - M1 (a % p) b := by
    intro a b hpa ha
    have hm : a % p < p := (sheet_lt (d := d + 1) (by rw [hN]; exact ha)).1
    rw [la_sm_single (a % p) (by omega) (fun l _ hne => by
      show (if p ≤ a ∧ l < p ∧ a % p = l then (-1 : Int) else 0) * M1 l b = 0
      rw [if_neg (fun h => hne h.2.2.symm), Int.zero_mul])]
    show M1 a b + (if p ≤ a ∧ a % p < p ∧ a % p = a % p then (-1 : Int) else 0) * M1 (a % p) b = _
    rw [if_pos ⟨hpa, hm, rfl⟩]
    omega
  rw [det_block (d * p) p _ (fun a b h1 h2 h3 => by
    rw [r2 a b h1 h2, c1 a b h2 h3, c1 (a % p) b (by have := (sheet_lt (d := d + 1) (a := a) (p := p) (by rw [hN]; exact h2)).1; omega) h3, Nat.mod_mod]
    omega)]
  congr 1
  · refine la_det_congr fun a b ha hb2 => ?_
    rw [r1 a b ha, c1 a b (by omega) hb2, Nat.mod_eq_of_lt ha]
  · refine la_det_congr fun a b ha hb2 => ?_
    rw [r2 (p + a) (p + b) (by omega) (by omega), c2 _ _ (by omega), c2 _ _ (by omega), ← hM]
    have hm : (p + a) % p < p := (sheet_lt (d := d + 1) (a := p + a) (p := p) (by rw [hN]; omega)).1
    unfold la_un1 shR
    rw [la_ee_ne (show p + b ≠ (p + a) % p by omega), show la_ee (p + a) (p + b) = la_ee a b from by unfold la_ee; by_cases h : b = a <;> simp [h], Int.mul_sub]
    omega
def tJ (t : List (List Int)) (k i : Nat) : Nat := (rd (rd_L1 t (k : Int)) (i : Int)).toNat
/-- On which sheet a lifted edge begins and ends. -/
def bsD (t : List (List Int)) (e i : Nat) : Nat := if e % 2 = 0 then i else tJ t (e / 2) i
def esD (t : List (List Int)) (e i : Nat) : Nat := if e % 2 = 0 then tJ t (e / 2) i else i
theorem rdL1_left (xs ys : List (List Int)) (i : Nat) (h : i < xs.length) : rd_L1 (xs ++ ys) (i : Int) = rd_L1 xs (i : Int) := by
  rw [rdL1_nat _ _ (by rw [List.length_append]; omega), rdL1_nat _ _ h, List.getElem_append_left h]
theorem rdL1_right (xs ys : List (List Int)) (i : Nat) (h : i < ys.length) : rd_L1 (xs ++ ys) ((xs.length + i : Nat) : Int) = rd_L1 ys (i : Int) := by
  rw [rdL1_nat _ _ (by rw [List.length_append]; omega), rdL1_nat _ _ h, List.getElem_append_right (by omega)]
  congr 1
  omega
theorem derL_at (n : Nat) (l t : List (List Int)) : ∀ K k i, k < K → i < n → rd_L1 (derL n l t K) ((k * n + i : Nat) : Int) = derE n l t k i := by
  intro K
  induction K with
  | zero => intro k i h; omega
  | succ K ih =>
    intro k i hk hi
    have hlen := derL_length n l t K
    show rd_L1 (derL n l t K ++ (List.range n).map (derE n l t K)) _ = _
    by_cases e : k < K
    · have h2 : (k + 1) * n ≤ K * n := Nat.mul_le_mul_right n (by omega)
      rw [Nat.succ_mul] at h2
      rw [rdL1_left _ _ _ (by omega)]
      exact ih k i e hi
    · obtain rfl : k = K := by omega
      rw [show ((k * n + i : Nat) : Int) = (((derL n l t k).length + i : Nat) : Int) by rw [hlen], rdL1_right _ _ _ (by simpa using hi), rdL1_nat _ _ (by simpa using hi)]
      simp
theorem derE_val {a n : Nat} (ha : a ≤ 8) (hn : n ≤ 4) {l t : List (List Int)} (hE : endsIn a l) (hlt : t.length = l.length) (ht : ∀ x ∈ t, isOrd n x = true) (k i : Nat) (hk : k < l.length) (hi : i < n) : ∃ u v : Nat, rd (rd_L1 l (k : Int)) 0 = u ∧ rd (rd_L1 l (k : Int)) 1 = v ∧ derE n l t k i = [((u * n + i : Nat) : Int), ((v * n + tJ t k i : Nat) : Int)] ∧ tJ t k i < n := by
  obtain ⟨hx, u, v, hu, hv, hua, hva⟩ := hE k hk
  have hm : t[k]'(by omega) ∈ t := List.getElem_mem _
  obtain ⟨h1, h2, h3⟩ := (isOrd_iff n _).1 (ht _ hm)
  have hki : i < (t[k]'(by omega)).length := by omega
  have h4 := h3 _ (List.getElem_mem hki)
  have hj : rd (rd_L1 t (k : Int)) (i : Int) = (tJ t k i : Int) ∧ tJ t k i < n := by
    unfold tJ
    rw [rdL1_nat t k (by omega), rd_nat _ i hki]
    exact ⟨by omega, by omega⟩
  have b1 : u * n ≤ 7 * 4 := Nat.mul_le_mul (by omega) hn
  have b2 : v * n ≤ 7 * 4 := Nat.mul_le_mul (by omega) hn
  refine ⟨u, v, hu, hv, ?_, hj.2⟩
  have c1 : (u : Int) * (n : Int) = ((u * n : Nat) : Int) := by simp
  have c2 : (v : Int) * (n : Int) = ((v * n : Nat) : Int) := by simp
  unfold derE
  rw [hu, hv, hj.1, c1, c2]
  rw [w64 (show -9223372036854775808 ≤ ((u * n : Nat) : Int) by omega) (by omega), w64 (show -9223372036854775808 ≤ ((v * n : Nat) : Int) by omega) (by omega)]
  rw [w64 (by omega) (by omega), w64 (by omega) (by omega)]
  simp
/-- Directed edges by sheets: the place of the a-th, and back. -/
def sD (d m a : Nat) : Nat := 2 * ((a % (2 * m)) / 2 * d + a / (2 * m)) + a % (2 * m) % 2
def rD (d m a : Nat) : Nat := a / 2 % d * (2 * m) + (2 * (a / 2 / d) + a % 2)
theorem sD_parts (d m a : Nat) : sD d m a / 2 = (a % (2 * m)) / 2 * d + a / (2 * m) ∧ sD d m a % 2 = a % (2 * m) % 2 := by
  unfold sD
  generalize (a % (2 * m)) / 2 * d + a / (2 * m) = X
  omega
theorem sD_ok {d m a : Nat} (ha : a < d * (2 * m)) : sD d m a < 2 * (m * d) ∧ rD d m (sD d m a) = a := by
  obtain ⟨h1, h2⟩ := sheet_lt ha
  obtain ⟨g1, g2⟩ := sD_parts d m a
  have h3 : (a % (2 * m) / 2 + 1) * d ≤ m * d := Nat.mul_le_mul_right d (by omega)
  rw [Nat.succ_mul] at h3
  obtain ⟨k1, k2⟩ := sheet_at (p := d) (a % (2 * m) / 2) h2
  refine ⟨?_, ?_⟩
  · have := Nat.div_add_mod (sD d m a) 2
    omega
  · unfold rD
    rw [g1, g2, k1, k2, show 2 * (a % (2 * m) / 2) + a % (2 * m) % 2 = a % (2 * m) by omega]
    exact sheet_eq
theorem rD_ok {d m b : Nat} (hd : 0 < d) (hb : b < 2 * (m * d)) : rD d m b < d * (2 * m) ∧ sD d m (rD d m b) = b := by
  obtain ⟨h1, h2⟩ := sheet_lt (p := d) (d := m) (a := b / 2) (by omega)
  have he : 2 * (b / 2 / d) + b % 2 < 2 * m := by omega
  obtain ⟨k1, k2⟩ := sheet_at (p := 2 * m) (b / 2 % d) he
  have h3 : (b / 2 % d + 1) * (2 * m) ≤ d * (2 * m) := Nat.mul_le_mul_right _ (by omega)
  rw [Nat.succ_mul] at h3
  refine ⟨by unfold rD; omega, ?_⟩
  unfold sD
  rw [show rD d m b = b / 2 % d * (2 * m) + (2 * (b / 2 / d) + b % 2) from rfl, k1, k2, show (2 * (b / 2 / d) + b % 2) / 2 = b / 2 / d by omega, show (2 * (b / 2 / d) + b % 2) % 2 = b % 2 by omega, show b / 2 / d * d + b / 2 % d = b / 2 from sheet_eq]
  omega
theorem pair_rd (x y : Nat) : rd [(x : Int), (y : Int)] ((0 : Nat) : Int) = x ∧ rd [(x : Int), (y : Int)] ((1 : Nat) : Int) = y := ⟨rfl, rfl⟩
/-- The ends of a lifted edge. -/
theorem der_ends {a n : Nat} (ha : a ≤ 8) (hn : n ≤ 4) {l t : List (List Int)} (hE : endsIn a l) (hlt : t.length = l.length) (ht : ∀ x ∈ t, isOrd n x = true) (b : Nat) (hb : b < n * (2 * l.length)) :
    ∃ x y : Nat, begAt l (b % (2 * l.length)) = x ∧ endAt l (b % (2 * l.length)) = y ∧ begAt (derL n l t l.length) (sD n l.length b) = ((x * n + bsD t (b % (2 * l.length)) (b / (2 * l.length)) : Nat) : Int) ∧ endAt (derL n l t l.length) (sD n l.length b) = ((y * n + esD t (b % (2 * l.length)) (b / (2 * l.length)) : Nat) : Int) ∧ bsD t (b % (2 * l.length)) (b / (2 * l.length)) < n ∧ esD t (b % (2 * l.length)) (b / (2 * l.length)) < n := by
  obtain ⟨h1, h2⟩ := sheet_lt hb
  obtain ⟨g1, g2⟩ := sD_parts n l.length b
  generalize hi : b / (2 * l.length) = i at *
  generalize hv : b % (2 * l.length) = e at *
  obtain ⟨u, v, hu, hv2, hd, hj⟩ := derE_val ha hn hE hlt ht (e / 2) i (by omega) h2
  have hr := derL_at n l t l.length (e / 2) i (by omega) h2
  rw [hd] at hr
  rcases Nat.mod_two_eq_zero_or_one e with h0 | h0
  · refine ⟨u, v, ?_, ?_, ?_, ?_, ?_, ?_⟩
    · unfold begAt; rw [h0]; exact hu
    · unfold endAt; rw [h0]; exact hv2
    · unfold begAt bsD; rw [g1, g2, hr, h0, if_pos rfl]; exact (pair_rd _ _).1
    · unfold endAt esD; rw [g1, g2, hr, h0, if_pos rfl]; exact (pair_rd _ _).2
    · unfold bsD; rw [if_pos h0]; exact h2
    · unfold esD; rw [if_pos h0]; exact hj
  · refine ⟨v, u, ?_, ?_, ?_, ?_, ?_, ?_⟩
    · unfold begAt; rw [h0]; exact hv2
    · unfold endAt; rw [h0]; exact hu
    · unfold begAt bsD; rw [g1, g2, hr, h0, if_neg (by omega)]; exact (pair_rd _ _).2
    · unfold endAt esD; rw [g1, g2, hr, h0, if_neg (by omega)]; exact (pair_rd _ _).1
    · unfold bsD; rw [if_neg (by omega)]; exact hj
    · unfold esD; rw [if_neg (by omega)]; exact h2
theorem opp_parts (e : Nat) : opp e / 2 = e / 2 ∧ opp e % 2 = 1 - e % 2 := by unfold opp; split <;> omega
theorem der_eA {a n : Nat} (ha : a ≤ 8) (hn : n ≤ 4) {l t : List (List Int)} (hE : endsIn a l) (hlt : t.length = l.length) (ht : ∀ x ∈ t, isOrd n x = true) (b c : Nat) (hb : b < n * (2 * l.length)) (hc : c < n * (2 * l.length)) :
    eA (derL n l t l.length) (sD n l.length b) (sD n l.length c) = shH (2 * l.length) (endAt l) (begAt l) opp (bsD t) (esD t) b c := by
  obtain ⟨x, y, hx, hy, hbx, hey, hbs, hes⟩ := der_ends ha hn hE hlt ht b hb
  obtain ⟨x', y', hx', hy', hbx', hey', hbs', hes'⟩ := der_ends ha hn hE hlt ht c hc
  obtain ⟨g1, g2⟩ := sD_parts n l.length b
  obtain ⟨g1', g2'⟩ := sD_parts n l.length c
  obtain ⟨h1, h2⟩ := sheet_lt hb
  obtain ⟨h1', h2'⟩ := sheet_lt hc
  rw [eA_eq, hbx', hey]
  unfold shH
  rw [hx', hy]
  have e1 : (((x' * n + bsD t (c % (2 * l.length)) (c / (2 * l.length)) : Nat) : Int) = ((y * n + esD t (b % (2 * l.length)) (b / (2 * l.length)) : Nat) : Int)) ↔ ((x' : Int) = (y : Int) ∧ bsD t (c % (2 * l.length)) (c / (2 * l.length)) = esD t (b % (2 * l.length)) (b / (2 * l.length))) := by
    obtain ⟨k1, k2⟩ := sheet_at (p := n) x' hbs'
    obtain ⟨k3, k4⟩ := sheet_at (p := n) y hes
    constructor
    · intro h
      have h3 : x' * n + bsD t (c % (2 * l.length)) (c / (2 * l.length)) = y * n + esD t (b % (2 * l.length)) (b / (2 * l.length)) := by omega
      rw [h3] at k1 k2
      exact ⟨by omega, by omega⟩
    · rintro ⟨h3, h4⟩
      rw [h4, show x' = y by omega]
  have e2 : sD n l.length c = opp (sD n l.length b) ↔ (c % (2 * l.length) = opp (b % (2 * l.length)) ∧ c / (2 * l.length) = b / (2 * l.length)) := by
    obtain ⟨o1, o2⟩ := opp_parts (sD n l.length b)
    obtain ⟨o3, o4⟩ := opp_parts (b % (2 * l.length))
    obtain ⟨k1, k2⟩ := sheet_at (p := n) (c % (2 * l.length) / 2) h2'
    obtain ⟨k3, k4⟩ := sheet_at (p := n) (b % (2 * l.length) / 2) h2
    constructor
    · intro h
      have h3 : sD n l.length c / 2 = sD n l.length b / 2 := by rw [h, o1]
      have h4 : sD n l.length c % 2 = 1 - sD n l.length b % 2 := by rw [h, o2]
      rw [g1, g1'] at h3
      rw [g2, g2'] at h4
      rw [h3] at k1 k2
      exact ⟨by omega, by omega⟩
    · rintro ⟨h3, h4⟩
      have h5 : c % (2 * l.length) / 2 = b % (2 * l.length) / 2 := by rw [h3, o3]
      have h6 : sD n l.length c / 2 = opp (sD n l.length b) / 2 := by rw [o1, g1, g1', h5, h4]
      have h7 : sD n l.length c % 2 = opp (sD n l.length b) % 2 := by rw [o2, g2, g2', h3, o4]
      omega
  unfold la_ee
  by_cases c1 : (x' : Int) = (y : Int) ∧ bsD t (c % (2 * l.length)) (c / (2 * l.length)) = esD t (b % (2 * l.length)) (b / (2 * l.length))
  · rw [if_pos (e1.2 c1), if_pos c1]
    by_cases c2 : c % (2 * l.length) = opp (b % (2 * l.length)) ∧ c / (2 * l.length) = b / (2 * l.length)
    · rw [if_pos (e2.2 c2), if_pos c2]
    · rw [if_neg (fun h => c2 (e2.1 h)), if_neg c2]
  · rw [if_neg (fun h => c1 (e1.1 h)), if_neg c1]
    by_cases c2 : c % (2 * l.length) = opp (b % (2 * l.length)) ∧ c / (2 * l.length) = b / (2 * l.length)
    · rw [if_pos (e2.2 c2), if_pos c2]
    · rw [if_neg (fun h => c2 (e2.1 h)), if_neg c2]
theorem tJ_perm {n : Nat} {t : List (List Int)} (ht : ∀ x ∈ t, isOrd n x = true) (k : Nat) (hk : k < t.length) (s : Nat) (hs : s < n) : ∃ j, j < n ∧ ∀ i, i < n → (tJ t k i = s ↔ i = j) := by
  obtain ⟨h1, h2, h3⟩ := (isOrd_iff n _).1 (ht _ (List.getElem_mem hk))
  have hv : ∀ i (hi : i < n), tJ t k i = ((t[k]'hk)[i]'(by omega)).toNat := fun i hi => by
    unfold tJ
    rw [rdL1_nat t k hk, rd_nat _ i (by omega)]
  have inj : ∀ i j, i < n → j < n → tJ t k i = tJ t k j → i = j := by
    intro i j hi hj h
    rw [hv i hi, hv j hj] at h
    have a1 := h3 _ (List.getElem_mem (show i < (t[k]'hk).length by omega))
    have a2 := h3 _ (List.getElem_mem (show j < (t[k]'hk).length by omega))
    have ne := List.pairwise_iff_getElem.1 h2
    by_cases g : i < j
    · exact absurd (show (t[k]'hk)[i]'(by omega) = (t[k]'hk)[j]'(by omega) by omega) (ne i j (by omega) (by omega) g)
    · by_cases g2 : j < i
      · exact absurd (show (t[k]'hk)[j]'(by omega) = (t[k]'hk)[i]'(by omega) by omega) (ne j i (by omega) (by omega) g2)
      · omega
  have lt : ∀ i, i < n → tJ t k i < n := by
    intro i hi
    rw [hv i hi]
    have a1 := h3 _ (List.getElem_mem (show i < (t[k]'hk).length by omega))
    omega
  -- a one to one map of n places takes every value
  have onto : ∀ (m : Nat) (f : Nat → Nat), (∀ i, i < m → f i < m) → (∀ i j, i < m → j < m → f i = f j → i = j) → ∀ v, v < m → ∃ j, j < m ∧ f j = v := by
    intro m
    induction m with
    | zero => intro f _ _ v hv; omega
    | succ m ih =>
      intro f hf hi v hv
      by_cases e : f m = v
      · exact ⟨m, by omega, e⟩
      · have hm := hf m (by omega)
        obtain ⟨j, hj, hfj⟩ := ih (fun i => if f i = m then f m else f i) (fun i him => by
          have a1 := hf i (by omega)
          have a2 : f i ≠ f m := fun h => by have := hi i m (by omega) (by omega) h; omega
          show (if f i = m then f m else f i) < m
          by_cases g : f i = m
          · rw [if_pos g]; omega
          · rw [if_neg g]; omega) (fun i j hi1 hj1 h => by
          have a1 : f i ≠ f m := fun h => by have := hi i m (by omega) (by omega) h; omega
          have a2 : f j ≠ f m := fun h => by have := hi j m (by omega) (by omega) h; omega
          have h' : (if f i = m then f m else f i) = (if f j = m then f m else f j) := h
          refine hi i j (by omega) (by omega) ?_
          by_cases g : f i = m <;> by_cases g2 : f j = m
          · omega
          · rw [if_pos g, if_neg g2] at h'; exact absurd h'.symm a2
          · rw [if_neg g, if_pos g2] at h'; exact absurd h' a1
          · rw [if_neg g, if_neg g2] at h'; exact h') (if v = m then f m else v) (by split <;> omega)
        have hfj' : (if f j = m then f m else f j) = if v = m then f m else v := hfj
        refine ⟨j, by omega, ?_⟩
        have a2 : f j ≠ f m := fun h => by have := hi j m (by omega) (by omega) h; omega
        by_cases g : f j = m <;> by_cases g2 : v = m
        · omega
        · rw [if_pos g, if_neg g2] at hfj'; exact absurd hfj' e
        · rw [if_neg g, if_pos g2] at hfj'; exact absurd hfj' a2
        · rw [if_neg g, if_neg g2] at hfj'; exact hfj'
  obtain ⟨j, hj, hs2⟩ := onto n (tJ t k) lt inj s hs
  exact ⟨j, hj, fun i hi => ⟨fun h => inj i j hi hj (by rw [h, hs2]), fun h => by rw [h, hs2]⟩⟩
def resR (l t : List (List Int)) : Nat → Nat → Int := shR (2 * l.length) (endAt l) (begAt l) opp (bsD t) (esD t)
theorem der_det {a d : Nat} (ha : a ≤ 8) (hd : d + 1 ≤ 4) {l t : List (List Int)} (hE : endsIn a l) (hlt : t.length = l.length) (ht : ∀ x ∈ t, isOrd (d + 1) x = true) (u : Int) :
    la_det (2 * (derL (d + 1) l t l.length).length) (la_un1 u (eA (derL (d + 1) l t l.length))) = la_det (2 * l.length) (la_un1 u (eA l)) * la_det (d * (2 * l.length)) (la_un1 u (resR l t)) := by
  have hN : (d + 1) * (2 * l.length) = 2 * (l.length * (d + 1)) := by rw [Nat.mul_comm, Nat.mul_assoc]
  have hN2 : (d + 1) * (2 * l.length) = 2 * l.length + d * (2 * l.length) := by rw [Nat.succ_mul]; omega
  have h := sheets_det (p := 2 * l.length) (d := d) (E := endAt l) (B := begAt l) (op := opp) (bs := bsD t) (es := esD t) (fun e i he hi => by
    have h1 := sheet_at (p := 2 * l.length) i he
    have h3 : (i + 1) * (2 * l.length) ≤ (d + 1) * (2 * l.length) := Nat.mul_le_mul_right _ hi
    rw [Nat.succ_mul] at h3
    obtain ⟨_, _, _, _, _, _, _, h2⟩ := der_ends ha hd hE hlt ht (i * (2 * l.length) + e) (by omega)
    rw [h1.1, h1.2] at h2
    exact h2) (fun f s hf hs => by
    unfold bsD
    by_cases g : f % 2 = 0
    · exact ⟨s, hs, fun i _ => by rw [if_pos g]⟩
    · obtain ⟨j, hj, hji⟩ := tJ_perm ht (f / 2) (by omega) s hs
      exact ⟨j, hj, fun i hi => by rw [if_neg g]; exact hji i hi⟩) u
  have hp := det_perm (2 * (l.length * (d + 1))) _ (Nat.le_refl _) (sD (d + 1) l.length) (rD (d + 1) l.length) (la_un1 u (eA (derL (d + 1) l t l.length))) (fun b hb => sD_ok (by omega)) (fun b hb => by
    obtain ⟨h1, h2⟩ := rD_ok (show 0 < d + 1 by omega) hb
    exact ⟨by omega, h2⟩) (fun b h1 h2 => by omega)
  rw [derL_length, ← hp, ← hN, hN2, show la_un1 u (eA l) = la_un1 u (shA (endAt l) (begAt l) opp) from by
    funext e f
    unfold la_un1 shA
    rw [eA_eq]
    rfl, resR, ← h]
  refine la_det_congr fun b c hb hc => ?_
  unfold la_un1
  rw [der_eA ha hd hE hlt ht b c (by omega) (by omega)]
  congr 1
  unfold la_ee
  by_cases e : c = b
  · rw [e, if_pos rfl, if_pos rfl]
  · rw [if_neg e, if_neg (fun h2 => e (by rw [← (sD_ok (d := d + 1) (m := l.length) (a := c) (by omega)).2, h2, (sD_ok (d := d + 1) (m := l.length) (a := b) (by omega)).2]))]
theorem pr_succ (n : Nat) (f : Nat → Int) : la_pr (n + 1) f = la_pr n f * f n := rfl
theorem pr_mul (n : Nat) (f g : Nat → Int) : la_pr n (fun i => f i * g i) = la_pr n f * la_pr n g := by
  induction n with
  | zero => rfl
  | succ n ih =>
    rw [pr_succ, pr_succ, pr_succ, ih, Int.mul_assoc, Int.mul_assoc]
    congr 1
    rw [← Int.mul_assoc, Int.mul_comm (la_pr n g), Int.mul_assoc]
theorem pr_ones {n : Nat} {f : Nat → Int} (h : ∀ i, i < n → f i = 1) : la_pr n f = 1 := by
  induction n with
  | zero => rfl
  | succ n ih => rw [pr_succ, ih (fun i hi => h i (by omega)), h n (by omega)]; rfl
theorem pr_pow (n : Nat) (K : Int) : la_pr n (fun _ => K) = K ^ n := by
  induction n with
  | zero => rw [Int.pow_zero]; rfl
  | succ n ih => rw [pr_succ, ih, Int.pow_succ]
theorem pr_at {n : Nat} (c : Nat) (hc : c < n) (x : Int) : la_pr n (fun v => if c = v then x else 1) = x := by
  induction n with
  | zero => omega
  | succ n ih =>
    rw [pr_succ]
    by_cases e : c = n
    · subst e
      rw [pr_ones (fun i hi => if_neg (by omega)), if_pos rfl, Int.one_mul]
    · rw [ih (by omega), if_neg e, Int.mul_one]
/-- A product over d sheets whose factors the place below tells. -/
theorem pr_sheets (p : Nat) (w : Nat → Int) (d : Nat) : la_pr (d * p) (fun a => w (a % p)) = la_pr p w ^ d := by
  have split : ∀ (n m : Nat) (f : Nat → Int), la_pr (n + m) f = la_pr n f * la_pr m (fun i => f (n + i)) := by
    intro n m f
    induction m with
    | zero => rw [Nat.add_zero]; exact (Int.mul_one _).symm
    | succ m ih => rw [show n + (m + 1) = n + m + 1 by omega, pr_succ, pr_succ, ih, Int.mul_assoc]
  induction d with
  | zero => rw [Nat.zero_mul, Int.pow_zero]; rfl
  | succ d ih =>
    rw [Nat.succ_mul, split, ih, Int.pow_succ]
    congr 1
    exact la_pr_congr fun i hi => by rw [(sheet_at d hi).1]
def cntC (cls : Nat → Nat) (v : Nat) : Nat → Nat
  | 0 => 0
  | n + 1 => cntC cls v n + (if cls n = v then 1 else 0)
theorem cntC_le (cls : Nat → Nat) (v : Nat) : ∀ n, cntC cls v n ≤ n := by
  intro n
  induction n with
  | zero => exact Nat.le_refl _
  | succ n ih => unfold cntC; split <;> omega
theorem pr_classes (C : Nat) (cls : Nat → Nat) (w : Nat → Int) : ∀ n, (∀ e, e < n → cls e < C) → la_pr n w = la_pr C (fun v => la_pr n (fun e => if cls e = v then w e else 1)) := by
  intro n
  induction n with
  | zero => intro _; exact (pr_ones (fun _ _ => rfl)).symm
  | succ n ih =>
    intro h
    rw [pr_succ, ih (fun e he => h e (by omega)), show (fun v => la_pr (n + 1) (fun e => if cls e = v then w e else 1)) = fun v => la_pr n (fun e => if cls e = v then w e else 1) * (if cls n = v then w n else 1) from rfl, pr_mul, pr_at (cls n) (h n (by omega))]
theorem class_pr (cls : Nat → Nat) (v : Nat) (A B : Int) : ∀ n, la_pr n (fun e => if cls e = v then (if cntC cls v e = 0 then A else B) else 1) = if cntC cls v n = 0 then 1 else A * B ^ (cntC cls v n - 1) := by
  intro n
  induction n with
  | zero => rfl
  | succ n ih =>
    rw [pr_succ, ih]
    by_cases h : cls n = v
    · have e : cntC cls v (n + 1) = cntC cls v n + 1 := by show _ + _ = _; rw [if_pos h]
      rw [if_pos h, e, if_neg (show ¬ cntC cls v n + 1 = 0 by omega), Nat.add_sub_cancel]
      by_cases h2 : cntC cls v n = 0
      · rw [if_pos h2, if_pos h2, h2, Int.pow_zero, Int.one_mul, Int.mul_one]
      · rw [if_neg h2, if_neg h2, Int.mul_assoc, ← Int.pow_succ, show (cntC cls v n - 1).succ = cntC cls v n by omega]
    · have e : cntC cls v (n + 1) = cntC cls v n := by show _ + _ = _; rw [if_neg h]; omega
      rw [if_neg h, e, Int.mul_one]
/-- The weights of all places, by classes: each class's first weighs A, its others B. -/
theorem weigh (C : Nat) (cls : Nat → Nat) (A : Nat → Int) (B K : Int) (hK : 0 ≤ K) (hB : 0 ≤ B) (n : Nat) (hc : ∀ e, e < n → cls e < C) (hA : ∀ a, 1 ≤ a → a ≤ n → 0 ≤ A a ∧ A a * B ^ (a - 1) ≤ K ^ a) :
    la_pr n (fun e => if cntC cls (cls e) e = 0 then A (cntC cls (cls e) n) else B) ≤ K ^ n := by
  rw [← pr_pow n K, pr_classes C cls _ n hc, pr_classes C cls (fun _ => K) n hc]
  have e1 : ∀ v, la_pr n (fun e => if cls e = v then (if cntC cls (cls e) e = 0 then A (cntC cls (cls e) n) else B) else 1) = if cntC cls v n = 0 then 1 else A (cntC cls v n) * B ^ (cntC cls v n - 1) := by
    intro v
    rw [← class_pr cls v (A (cntC cls v n)) B n]
    refine la_pr_congr fun e _ => ?_
    by_cases h : cls e = v
    · rw [if_pos h, if_pos h, h]
    · rw [if_neg h, if_neg h]
  have e2 : ∀ v, la_pr n (fun e => if cls e = v then K else 1) = if cntC cls v n = 0 then 1 else K * K ^ (cntC cls v n - 1) := by
    intro v
    rw [← class_pr cls v K K n]
    refine la_pr_congr fun e _ => ?_
    by_cases h : cntC cls v e = 0
    · rw [if_pos h]
    · rw [if_neg h]
  refine la_pr_le (fun v _ => ?_) (fun v _ => ?_)
  · rw [e1 v]
    by_cases h : cntC cls v n = 0
    · rw [if_pos h]; decide
    · rw [if_neg h]
      exact Int.mul_nonneg (hA _ (by omega) (cntC_le _ _ _)).1 (Int.pow_nonneg hB)
  · rw [e1 v, e2 v]
    by_cases h : cntC cls v n = 0
    · rw [if_pos h, if_pos h]; exact Int.le_refl _
    · rw [if_neg h, if_neg h]
      have := (hA _ (show 1 ≤ cntC cls v n by omega) (cntC_le _ _ _)).2
      rw [show K * K ^ (cntC cls v n - 1) = K ^ cntC cls v n from by rw [Int.mul_comm, ← Int.pow_succ, show (cntC cls v n - 1).succ = cntC cls v n by omega]]
      exact this
def topK (d : Nat) : Int := if d = 0 then 5 else if d = 1 then 31 else if d = 2 then 310 else 5600
/-- The weights of a cover's edges, in numbers. -/
theorem weights_ok : ∀ d : Nat, d < 4 → ∀ a : Nat, 1 ≤ a → a * (d + 1) ≤ 20 → (((a : Int) * (1 + 2 * a) ^ d) * (4 * 6 ^ d) ^ (a - 1)) ≤ (topK d) ^ a := by
  have key : ((List.range 4).all fun d => (List.range 21).all fun a => decide (a = 0) || decide (20 < a * (d + 1)) || decide ((((a : Int) * (1 + 2 * a) ^ d) * (4 * 6 ^ d) ^ (a - 1)) ≤ (topK d) ^ a)) = true := by kernel_rfl
  intro d hd a h1 h2
  have ha : a ≤ 20 := Nat.le_trans (Nat.le_mul_of_pos_right a (by omega)) h2
  have := List.all_eq_true.1 (List.all_eq_true.1 key d (List.mem_range.2 hd)) a (List.mem_range.2 (by omega))
  simp only [Bool.or_eq_true, decide_eq_true_eq] at this
  rcases this with (h | h) | h
  · omega
  · omega
  · exact h
theorem weights_top : ∀ d : Nat, d < 4 → ∀ m : Nat, m * (d + 1) ≤ 10 → (topK d) ^ (2 * m) ≤ 1000000000000000 := by
  have key : ((List.range 4).all fun d => (List.range 11).all fun m => decide (10 < m * (d + 1)) || decide ((topK d) ^ (2 * m) ≤ 1000000000000000)) = true := by kernel_rfl
  intro d hd m h2
  have ha : m ≤ 10 := Nat.le_trans (Nat.le_mul_of_pos_right m (by omega)) h2
  have := List.all_eq_true.1 (List.all_eq_true.1 key d (List.mem_range.2 hd)) m (List.mem_range.2 (by omega))
  simp only [Bool.or_eq_true, decide_eq_true_eq] at this
  rcases this with h | h
  · omega
  · exact h
/-- What a matrix's coefficients come to, all together, behind operations on rows. -/
theorem cp_bound {n : Nat} (A X : Nat → Nat → Int) (hX : ∀ a l, a < n → l < n → X a l ≠ 0 → ∀ r, r < n → X l r = 0) (w : Nat → Int)
    (hw : ∀ a, a < n → la_sm n (fun b => la_ab (la_ee a b + la_sm n (fun l => X a l * la_ee l b)) + la_ab (A a b + la_sm n (fun l => X a l * A l b))) ≤ w a) :
    la_sm (n + 1) (fun k => la_ab (la_cp n A k)) ≤ la_pr n w := by
  have hdc : ∀ k, k ≤ n → la_cp n A k = la_dc n (fun a b => la_ee a b + la_sm n (fun l => X a l * la_ee l b)) (fun a b => -(A a b + la_sm n (fun l => X a l * A l b))) k := by
    intro k hk
    refine la_pv_inj (n := n) (fun u _ => ?_) k hk
    rw [← un1_pv, ← la_det_pv, ← det_rowops (la_un1 u A) X hX n (Nat.le_refl _)]
    refine la_det_congr fun a b _ _ => ?_
    unfold la_un1
    rw [show (fun l => X a l * (la_ee l b - u * A l b)) = fun l => X a l * la_ee l b - u * (X a l * A l b) from by
      funext l
      rw [Int.mul_sub, ← Int.mul_assoc, Int.mul_comm (X a l) u, Int.mul_assoc], la_sm_sub, la_sm_mul, Int.mul_neg, Int.mul_add]
    omega
  rw [la_sm_congr (g := fun k => la_ab (la_dc n (fun a b => la_ee a b + la_sm n (fun l => X a l * la_ee l b)) (fun a b => -(A a b + la_sm n (fun l => X a l * A l b))) k)) (fun k hk => by rw [hdc k (by omega)])]
  refine Int.le_trans (la_dc_bound _ _) (la_pr_le (fun a _ => la_sm_nonneg fun b _ => ?_) (fun a ha => ?_))
  · have h1 := la_ab_nonneg (la_ee a b + la_sm n (fun l => X a l * la_ee l b))
    have h2 := la_ab_nonneg (-(A a b + la_sm n (fun l => X a l * A l b)))
    omega
  · refine Int.le_trans (la_sm_le fun b _ => ?_) (hw a ha)
    rw [show la_ab (-(A a b + la_sm n (fun l => X a l * A l b))) = la_ab (A a b + la_sm n (fun l => X a l * A l b)) from by unfold la_ab; omega]
    exact Int.le_refl _
theorem cntC_ex (cls : Nat → Nat) (v : Nat) : ∀ n, cntC cls v n ≠ 0 → ∃ r, r < n ∧ cls r = v ∧ cntC cls v r = 0 := by
  intro n
  induction n with
  | zero => intro h; exact absurd rfl h
  | succ n ih =>
    intro h
    by_cases h2 : cntC cls v n = 0
    · by_cases h3 : cls n = v
      · exact ⟨n, by omega, h3, h2⟩
      · exact absurd (show cntC cls v (n + 1) = 0 by show _ + _ = _; rw [h2, if_neg h3]) h
    · obtain ⟨r, h3, h4, h5⟩ := ih h2
      exact ⟨r, by omega, h4, h5⟩
def clE (l : List (List Int)) (e : Nat) : Nat := (endAt l e).toNat
def fstE (l : List (List Int)) (e : Nat) : Prop := cntC (clE l) (clE l e) e = 0
instance (l : List (List Int)) : DecidablePred (fstE l) := fun _ => inferInstanceAs (Decidable (_ = _))
theorem clE_eq {n : Nat} {l : List (List Int)} (hE : endsIn n l) {e f : Nat} (he : e < 2 * l.length) (hf : f < 2 * l.length) : clE l e = clE l f ↔ endAt l e = endAt l f := by
  obtain ⟨_, v, _, h1, _, _⟩ := dart_ends hE e he
  obtain ⟨_, v', _, h2, _, _⟩ := dart_ends hE f hf
  unfold clE
  rw [h1, h2]
  omega
theorem rpE_ex {n : Nat} {l : List (List Int)} (hE : endsIn n l) (e : Nat) : ∃ r, e < 2 * l.length → (fstE l e → r = e) ∧ (¬ fstE l e → r < e ∧ endAt l r = endAt l e ∧ fstE l r) := by
  by_cases he : e < 2 * l.length
  · by_cases h : fstE l e
    · exact ⟨e, fun _ => ⟨fun _ => rfl, fun h2 => absurd h h2⟩⟩
    · obtain ⟨r, h1, h2, h3⟩ := cntC_ex (clE l) (clE l e) e h
      exact ⟨r, fun _ => ⟨fun h4 => absurd h4 h, fun _ => ⟨h1, (clE_eq hE (by omega) he).1 h2, by unfold fstE; rw [h2]; exact h3⟩⟩⟩
  · exact ⟨0, fun h => absurd h he⟩
theorem beg_end (l : List (List Int)) (x : Int) : ∀ m, la_sm (2 * m) (fun f => if begAt l f = x then (1 : Int) else 0) = la_sm (2 * m) (fun f => if endAt l f = x then 1 else 0) := by
  intro m
  induction m with
  | zero => rfl
  | succ m ih =>
    have h1 := begAt_opp l (2 * m)
    have h2 := begAt_opp l (2 * m + 1)
    rw [show opp (2 * m) = 2 * m + 1 from by unfold opp; split <;> omega] at h1
    rw [show opp (2 * m + 1) = 2 * m from by unfold opp; split <;> omega] at h2
    rw [show 2 * (m + 1) = 2 * m + 1 + 1 by omega, sm_succ, sm_succ, sm_succ, sm_succ, ih, h1, h2]
    omega
theorem end_cnt {n : Nat} {l : List (List Int)} (hE : endsIn n l) {e : Nat} (he : e < 2 * l.length) : ∀ k, k ≤ 2 * l.length → la_sm k (fun f => if endAt l f = endAt l e then (1 : Int) else 0) = (cntC (clE l) (clE l e) k : Int) := by
  intro k
  induction k with
  | zero => intro _; rfl
  | succ k ih =>
    intro hk
    rw [sm_succ, ih (by omega)]
    have h := clE_eq hE (show k < 2 * l.length by omega) he
    show _ = ((cntC (clE l) (clE l e) k + (if clE l k = clE l e then 1 else 0) : Nat) : Int)
    by_cases g : endAt l k = endAt l e
    · rw [if_pos g, if_pos (h.2 g)]; omega
    · rw [if_neg g, if_neg (fun g2 => g (h.1 g2))]; omega
/-- How many edges begin where e ends. -/
def dgE (l : List (List Int)) (e : Nat) : Nat := cntC (clE l) (clE l e) (2 * l.length)
theorem beg_cnt {n : Nat} {l : List (List Int)} (hE : endsIn n l) {e : Nat} (he : e < 2 * l.length) : la_sm (2 * l.length) (fun f => if begAt l f = endAt l e then (1 : Int) else 0) = (dgE l e : Int) := by
  rw [beg_end]
  exact end_cnt hE he _ (Nat.le_refl _)
theorem ab_ee (a b : Nat) : la_ab (la_ee a b) = la_ee a b := by unfold la_ee la_ab; split <;> rfl
/-- The base's rows. -/
theorem g_bound {n : Nat} {l : List (List Int)} (hE : endsIn n l) : la_sm (2 * l.length + 1) (fun k => la_ab (la_cp (2 * l.length) (eA l) k)) ≤ la_pr (2 * l.length) (fun e => if fstE l e then (dgE l e : Int) else 4) := by
  obtain ⟨rp, hrp⟩ := Classical.axiomOfChoice (rpE_ex hE)
  generalize hp : 2 * l.length = p at hrp ⊢
  have hX0 : ∀ a l', a < p → l' < p → (if fstE l a then (0 : Int) else if l' = rp a then -1 else 0) ≠ 0 → fstE l l' := by
    intro a l' ha _ h
    by_cases g : fstE l a
    · exact absurd (if_pos g) h
    · rw [if_neg g] at h
      by_cases g2 : l' = rp a
      · rw [g2]; exact (((hrp a ha).2 g).2).2
      · exact absurd (if_neg g2) h
  refine cp_bound (eA l) (fun a b => if fstE l a then 0 else if b = rp a then -1 else 0) (fun a l' ha hl' h r _ => if_pos (hX0 a l' ha hl' h)) _ (fun a ha => ?_)
  by_cases h : fstE l a
  · rw [if_pos h]
    have e1 : ∀ b, la_sm p (fun l' => (if fstE l a then (0 : Int) else if l' = rp a then -1 else 0) * la_ee l' b) = 0 := fun b => la_sm_zero fun i _ => by rw [if_pos h, Int.zero_mul]
    have e2 : ∀ b, la_sm p (fun l' => (if fstE l a then (0 : Int) else if l' = rp a then -1 else 0) * eA l l' b) = 0 := fun b => la_sm_zero fun i _ => by rw [if_pos h, Int.zero_mul]
    have e3 : la_sm p (fun b => la_ab (la_ee a b + la_sm p (fun l' => (if fstE l a then (0 : Int) else if l' = rp a then -1 else 0) * la_ee l' b)) + la_ab (eA l a b + la_sm p (fun l' => (if fstE l a then (0 : Int) else if l' = rp a then -1 else 0) * eA l l' b))) = la_sm p (la_ee a) + la_sm p (fun b => (if begAt l b = endAt l a then 1 else 0) - la_ee (opp a) b) := by
      rw [← la_sm_add]
      refine la_sm_congr fun b _ => ?_
      rw [e1, e2, Int.add_zero, Int.add_zero, ab_ee, ab_eA, eA_eq]
    have h1 := sm_ee_le p a
    have h2 := beg_cnt hE (e := a) (by omega)
    rw [hp] at h2
    rw [e3, la_sm_sub, h2, la_sm_single (n := p) (f := la_ee (opp a)) (opp a) (opp_lt hp.symm ha) (fun i _ hne => la_ee_ne hne), la_ee_self]
    omega
  · rw [if_neg h]
    obtain ⟨g1, g2, g3⟩ := (hrp a ha).2 h
    have e1 : ∀ b, la_sm p (fun l' => (if fstE l a then (0 : Int) else if l' = rp a then -1 else 0) * la_ee l' b) = -(la_ee (rp a) b) := fun b => by
      rw [la_sm_single (rp a) (by omega) (fun i _ hne => by rw [if_neg h, if_neg hne, Int.zero_mul]), if_neg h, if_pos rfl]; omega
    have e2 : ∀ b, la_sm p (fun l' => (if fstE l a then (0 : Int) else if l' = rp a then -1 else 0) * eA l l' b) = -(eA l (rp a) b) := fun b => by
      rw [la_sm_single (rp a) (by omega) (fun i _ hne => by rw [if_neg h, if_neg hne, Int.zero_mul]), if_neg h, if_pos rfl]; omega
    have e3 : la_sm p (fun b => la_ab (la_ee a b + la_sm p (fun l' => (if fstE l a then (0 : Int) else if l' = rp a then -1 else 0) * la_ee l' b)) + la_ab (eA l a b + la_sm p (fun l' => (if fstE l a then (0 : Int) else if l' = rp a then -1 else 0) * eA l l' b))) ≤ la_sm p (fun b => (la_ee a b + la_ee (rp a) b) + (la_ee (opp a) b + la_ee (opp (rp a)) b)) := by
      refine la_sm_le fun b _ => ?_
      rw [e1, e2, eA_eq, eA_eq, g2]
      have q1 := ee_nonneg a b
      have q2 := ee_nonneg (rp a) b
      have q3 := ee_nonneg (opp a) b
      have q4 := ee_nonneg (opp (rp a)) b
      unfold la_ab
      omega
    have h1 := sm_ee_le p a
    have h2 := sm_ee_le p (rp a)
    have h3 := sm_ee_le p (opp a)
    have h4 := sm_ee_le p (opp (rp a))
    have e4 : la_sm p (fun b => (la_ee a b + la_ee (rp a) b) + (la_ee (opp a) b + la_ee (opp (rp a)) b)) = (la_sm p (la_ee a) + la_sm p (la_ee (rp a))) + (la_sm p (la_ee (opp a)) + la_sm p (la_ee (opp (rp a)))) := by
      rw [la_sm_add, la_sm_add, la_sm_add]
    rw [e4] at e3
    omega
/-- Another's rows: who follows on a's sheet, but not on the first. -/
def cF (l t : List (List Int)) (e i b : Nat) : Int := if begAt l (b % (2 * l.length)) = endAt l e then (if bsD t (b % (2 * l.length)) (b / (2 * l.length) + 1) = esD t e i then 1 else 0) - (if bsD t (b % (2 * l.length)) (b / (2 * l.length) + 1) = esD t e 0 then 1 else 0) else 0
theorem resR_at (l t : List (List Int)) (a b : Nat) (hp : 0 < 2 * l.length) : resR l t a b = cF l t (a % (2 * l.length)) (a / (2 * l.length) + 1) b - la_ee (a / (2 * l.length) * (2 * l.length) + opp (a % (2 * l.length))) b := by
  have ha : a % (2 * l.length) < 2 * l.length := Nat.mod_lt _ hp
  have ho := opp_lt (n := 2 * l.length) rfl ha
  obtain ⟨k1, k2⟩ := sheet_at (p := 2 * l.length) (a / (2 * l.length)) ho
  unfold resR shR shH
  rw [Nat.add_mod_left, Nat.add_div_left _ hp, Nat.add_mod_left, Nat.add_div_left _ hp, Nat.mod_mod, Nat.div_eq_of_lt ha]
  generalize hf : b % (2 * l.length) = f
  generalize hj : b / (2 * l.length) = j
  generalize he : a % (2 * l.length) = e at *
  generalize hi : a / (2 * l.length) = i at *
  have e1 : la_ee (i * (2 * l.length) + opp e) b = if f = opp e ∧ j.succ = i.succ then 1 else 0 := by
    unfold la_ee
    by_cases h : b = i * (2 * l.length) + opp e
    · rw [if_pos h, if_pos ⟨by rw [← hf, h, k1], by rw [← hj, h, k2]⟩]
    · rw [if_neg h, if_neg (fun g => h (by
        have := sheet_eq (p := 2 * l.length) (a := b)
        rw [hf, hj, g.1, show j = i by omega] at this
        exact this.symm))]
  unfold cF
  rw [hf, hj, e1]
  have e2 : (if f = opp e ∧ j.succ = 0 then (1 : Int) else 0) = 0 := if_neg (by omega)
  rw [e2]
  by_cases c : begAt l f = endAt l e
  · rw [if_pos c]
    have e3 : ∀ s, (if begAt l f = endAt l e ∧ bsD t f j.succ = s then (1 : Int) else 0) = if bsD t f (j + 1) = s then 1 else 0 := fun s => by
      by_cases g : bsD t f (j + 1) = s
      · rw [if_pos ⟨c, g⟩, if_pos g]
      · rw [if_neg (fun g2 => g g2.2), if_neg g]
    rw [e3, e3]
    show _ = (if bsD t f (j + 1) = esD t e (i + 1) then (1 : Int) else 0) - _ - _
    omega
  · have e4 : ∀ s, (if begAt l f = endAt l e ∧ bsD t f j.succ = s then (1 : Int) else 0) = 0 := fun s => if_neg (fun g => c g.1)
    rw [if_neg c, e4, e4]
    omega
/-- A few ones, laid out. -/
theorem sm_laid (q d : Nat) (z : Nat → Int) (x : Nat → Nat) (h0 : ∀ j, j < d → 0 ≤ z j) (h1 : la_sm d z ≤ 1) : la_sm q (fun b => la_sm d (fun j => z j * la_ee (x j) b)) ≤ 1 := by
  rw [la_sm_swap]
  refine Int.le_trans (la_sm_le fun j hj => ?_) h1
  rw [la_sm_mul]
  have h2 := sm_ee_le q (x j)
  have h3 : la_sm q (fun b => la_ee (x j) b) ≤ 1 := h2
  have h4 := Int.mul_le_mul_of_nonneg_left h3 (h0 j hj)
  rw [Int.mul_one] at h4
  exact h4
theorem bs_opp (t : List (List Int)) (e j : Nat) : bsD t (opp e) j = esD t e j := by
  obtain ⟨h1, h2⟩ := opp_parts e
  unfold bsD esD
  rw [h1, h2]
  rcases Nat.mod_two_eq_zero_or_one e with h | h
  · rw [h, if_neg (by omega), if_pos rfl]
  · rw [h, if_pos (by omega), if_neg (by omega)]
theorem bs_one {n : Nat} {l t : List (List Int)} (hlt : t.length = l.length) (ht : ∀ x ∈ t, isOrd n x = true) (f s : Nat) (hf : f < 2 * l.length) (hs : s < n) : ∃ j, j < n ∧ ∀ i, i < n → (bsD t f i = s ↔ i = j) := by
  unfold bsD
  by_cases g : f % 2 = 0
  · exact ⟨s, hs, fun i _ => by rw [if_pos g]⟩
  · obtain ⟨j, hj, hji⟩ := tJ_perm ht (f / 2) (by omega) s hs
    exact ⟨j, hj, fun i hi => by rw [if_neg g]; exact hji i hi⟩
theorem es_one {n : Nat} {l t : List (List Int)} (hlt : t.length = l.length) (ht : ∀ x ∈ t, isOrd n x = true) (f s : Nat) (hf : f < 2 * l.length) (hs : s < n) : ∃ j, j < n ∧ ∀ i, i < n → (esD t f i = s ↔ i = j) := by
  obtain ⟨j, h1, h2⟩ := bs_one hlt ht (opp f) s (opp_lt rfl hf) hs
  exact ⟨j, h1, fun i hi => by rw [← bs_opp]; exact h2 i hi⟩
/-- Ones at one value of a one to one map. -/
theorem sm_hit {n d : Nat} (hd : d + 1 = n) (g : Nat → Nat) (hg : ∀ s, s < n → ∃ j, j < n ∧ ∀ i, i < n → (g i = s ↔ i = j)) (s : Nat) (hs : s < n) : la_sm d (fun j => if g (j + 1) = s then (1 : Int) else 0) ≤ 1 := by
  obtain ⟨j0, h1, h2⟩ := hg s hs
  refine sm_one_le (fun a _ => by split <;> omega) (fun a _ => by split <;> omega) (fun a b hab hb => ?_)
  by_cases e : g (a + 1) = s
  · refine .inr (if_neg fun e2 => ?_)
    have := (h2 (a + 1) (by omega)).1 e
    have := (h2 (b + 1) (by omega)).1 e2
    omega
  · exact .inl (if_neg e)
def cS (l t : List (List Int)) (e s b : Nat) : Int := if begAt l (b % (2 * l.length)) = endAt l e then (if bsD t (b % (2 * l.length)) (b / (2 * l.length) + 1) = s then 1 else 0) else 0
theorem cS_two (l t : List (List Int)) (e s b : Nat) : cS l t e s b = 0 ∨ cS l t e s b = 1 := by unfold cS; (repeat' split) <;> simp
theorem cF_cS (l t : List (List Int)) (e i b : Nat) : cF l t e i b = cS l t e (esD t e i) b - cS l t e (esD t e 0) b := by
  unfold cF cS
  by_cases h : begAt l (b % (2 * l.length)) = endAt l e
  · rw [if_pos h, if_pos h, if_pos h]
  · rw [if_neg h, if_neg h, if_neg h]; rfl
theorem cS_sum {n d : Nat} (hd : d + 1 = n) {N : Nat} {l t : List (List Int)} (hE : endsIn N l) (hlt : t.length = l.length) (ht : ∀ x ∈ t, isOrd n x = true) {e : Nat} (he : e < 2 * l.length) (s : Nat) (hs : s < n) : la_sm (d * (2 * l.length)) (cS l t e s) ≤ dgE l e := by
  rw [sm_sheets, la_sm_swap, ← beg_cnt hE he]
  refine la_sm_le fun f hf => ?_
  by_cases h : begAt l f = endAt l e
  · rw [if_pos h]
    have h1 := sm_hit hd (bsD t f) (fun s hs => bs_one hlt ht f s hf hs) s hs
    refine Int.le_trans (la_sm_le fun j _ => ?_) h1
    obtain ⟨k1, k2⟩ := sheet_at (p := 2 * l.length) j hf
    unfold cS
    rw [k1, k2, if_pos h]
    exact Int.le_refl _
  · rw [if_neg h, la_sm_zero fun j _ => by
      obtain ⟨k1, _⟩ := sheet_at (p := 2 * l.length) j hf
      unfold cS
      rw [k1, if_neg h]]
    exact Int.le_refl _
/-- The other's rows: what stands for one end together. -/
theorem res_hit {n d : Nat} (hd : d + 1 = n) {l t : List (List Int)} (hlt : t.length = l.length) (ht : ∀ x ∈ t, isOrd n x = true) {e r : Nat} (hr : r < 2 * l.length) (her : endAt l r = endAt l e) (s : Nat) (hs : s < n) (b : Nat) :
    la_sm d (fun j => (if esD t r (j + 1) = s then (1 : Int) else 0) * resR l t (j * (2 * l.length) + r) b) = cS l t e s b - cS l t e (esD t r 0) b - la_sm d (fun j => (if esD t r (j + 1) = s then (1 : Int) else 0) * la_ee (j * (2 * l.length) + opp r) b) := by
  have hc : ∀ s, cS l t r s b = cS l t e s b := fun s => by unfold cS; rw [her]
  rw [la_sm_congr (g := fun j => (if esD t r (j + 1) = s then (1 : Int) else 0) * cF l t r (j + 1) b - (if esD t r (j + 1) = s then (1 : Int) else 0) * la_ee (j * (2 * l.length) + opp r) b) (fun j _ => by
    obtain ⟨k1, k2⟩ := sheet_at (p := 2 * l.length) j hr
    rw [resR_at l t _ b (by omega), k1, k2, Int.mul_sub]), la_sm_sub]
  congr 1
  obtain ⟨j0, h1, h2⟩ := es_one hlt ht r s hr hs
  rcases Nat.eq_zero_or_pos j0 with h0 | h0
  · subst h0
    have h3 : esD t r 0 = s := (h2 0 (by omega)).2 rfl
    rw [la_sm_zero (fun j hj => by rw [if_neg (fun h => by have := (h2 (j + 1) (by omega)).1 h; omega), Int.zero_mul]), h3]
    omega
  · obtain ⟨j1, rfl⟩ : ∃ j1, j0 = j1 + 1 := ⟨j0 - 1, by omega⟩
    have h3 : esD t r (j1 + 1) = s := (h2 (j1 + 1) h1).2 rfl
    rw [la_sm_single j1 (by omega) (fun j hj hne => by rw [if_neg (fun h => hne (by have := (h2 (j + 1) (by omega)).1 h; omega)), Int.zero_mul]), if_pos h3, Int.one_mul, cF_cS, hc, hc, h3]
theorem sm_add3 (q : Nat) (f g h : Nat → Int) : la_sm q (fun b => f b + (g b + h b)) = la_sm q f + (la_sm q g + la_sm q h) := by rw [la_sm_add, la_sm_add]
theorem sm_add6 (q : Nat) (f g h f' g' h' : Nat → Int) : la_sm q (fun b => (f b + (g b + h b)) + (f' b + (g' b + h' b))) = (la_sm q f + (la_sm q g + la_sm q h)) + (la_sm q f' + (la_sm q g' + la_sm q h')) := by rw [la_sm_add, sm_add3, sm_add3]
theorem h_bound {n d N : Nat} (hd : d + 1 = n) {l t : List (List Int)} (hE : endsIn N l) (hlt : t.length = l.length) (ht : ∀ x ∈ t, isOrd n x = true) (hes : ∀ e i, e < 2 * l.length → i < n → esD t e i < n) :
    la_sm (d * (2 * l.length) + 1) (fun k => la_ab (la_cp (d * (2 * l.length)) (resR l t) k)) ≤ la_pr (d * (2 * l.length)) (fun a => if fstE l (a % (2 * l.length)) then 1 + 2 * (dgE l (a % (2 * l.length)) : Int) else 6) := by
  obtain ⟨rp, hrp⟩ := Classical.axiomOfChoice (rpE_ex hE)
  let X : Nat → Nat → Int := fun a b => if fstE l (a % (2 * l.length)) ∨ b % (2 * l.length) ≠ rp (a % (2 * l.length)) then 0 else (if esD t (rp (a % (2 * l.length))) (b / (2 * l.length) + 1) = esD t (a % (2 * l.length)) 0 then 1 else 0) - (if esD t (rp (a % (2 * l.length))) (b / (2 * l.length) + 1) = esD t (a % (2 * l.length)) (a / (2 * l.length) + 1) then 1 else 0)
  refine cp_bound (resR l t) X (fun a b ha hb h r _ => ?_) _ (fun a ha => ?_)
  · by_cases g : fstE l (a % (2 * l.length)) ∨ b % (2 * l.length) ≠ rp (a % (2 * l.length))
    · exact absurd (if_pos g) h
    · have g1 : ¬ fstE l (a % (2 * l.length)) := fun h => g (.inl h)
      have g2 : b % (2 * l.length) = rp (a % (2 * l.length)) := by
        by_cases e : b % (2 * l.length) = rp (a % (2 * l.length))
        · exact e
        · exact absurd (.inr e) g
      have g3 := (((hrp _ (sheet_lt ha).1).2 g1).2).2
      rw [← g2] at g3
      exact if_pos (.inl g3)
  · obtain ⟨he, hi⟩ := sheet_lt ha
    have hp : 0 < 2 * l.length := by omega
    have hq : ∀ x, la_sm (d * (2 * l.length)) (la_ee x) ≤ 1 := fun x => sm_ee_le _ x
    by_cases h : fstE l (a % (2 * l.length))
    · have z : ∀ (φ : Nat → Int), la_sm (d * (2 * l.length)) (fun j => X a j * φ j) = 0 := fun φ => la_sm_zero fun j _ => by
        show (if fstE l (a % (2 * l.length)) ∨ j % (2 * l.length) ≠ rp (a % (2 * l.length)) then (0 : Int) else _) * φ j = 0
        rw [if_pos (.inl h), Int.zero_mul]
      rw [if_pos h]
      have h1 := cS_sum hd hE hlt ht he (esD t (a % (2 * l.length)) (a / (2 * l.length) + 1)) (hes _ _ he (by omega))
      have h2 := cS_sum hd hE hlt ht he (esD t (a % (2 * l.length)) 0) (hes _ _ he (by omega))
      have h3 : la_sm (d * (2 * l.length)) (fun b => la_ab (la_ee a b + la_sm (d * (2 * l.length)) (fun j => X a j * la_ee j b)) + la_ab (resR l t a b + la_sm (d * (2 * l.length)) (fun j => X a j * resR l t j b))) ≤ la_sm (d * (2 * l.length)) (fun b => la_ee a b + (cS l t (a % (2 * l.length)) (esD t (a % (2 * l.length)) (a / (2 * l.length) + 1)) b + cS l t (a % (2 * l.length)) (esD t (a % (2 * l.length)) 0) b)) := by
        refine la_sm_le fun b _ => ?_
        rw [z, z, Int.add_zero, Int.add_zero, ab_ee, resR_at l t a b hp, cF_cS]
        have c1 := cS_two l t (a % (2 * l.length)) (esD t (a % (2 * l.length)) (a / (2 * l.length) + 1)) b
        have c2 := cS_two l t (a % (2 * l.length)) (esD t (a % (2 * l.length)) 0) b
        by_cases g : b = a / (2 * l.length) * (2 * l.length) + opp (a % (2 * l.length))
        · have c3 : cS l t (a % (2 * l.length)) (esD t (a % (2 * l.length)) (a / (2 * l.length) + 1)) b = 1 := by
            obtain ⟨k1, k2⟩ := sheet_at (p := 2 * l.length) (a / (2 * l.length)) (opp_lt (n := 2 * l.length) rfl he)
            unfold cS
            rw [g, k1, k2, begAt_opp, bs_opp, if_pos rfl, if_pos rfl]
          rw [c3, ← g, la_ee_self]
          unfold la_ab
          omega
        · rw [la_ee_ne g]
          unfold la_ab
          omega
      have h4 := hq a
      refine Int.le_trans h3 (Int.le_trans (Int.le_of_eq (sm_add3 _ (la_ee a) (cS l t (a % (2 * l.length)) (esD t (a % (2 * l.length)) (a / (2 * l.length) + 1))) (cS l t (a % (2 * l.length)) (esD t (a % (2 * l.length)) 0)))) ?_)
      omega
    · obtain ⟨g1, g2, g3⟩ := (hrp _ he).2 h
      rw [if_neg h]
      generalize hee : a % (2 * l.length) = e at *
      generalize hii : a / (2 * l.length) = i at *
      generalize hrr : rp e = r at *
      have hs1 := hes e 0 he (by omega)
      have hs2 := hes e (i + 1) he (by omega)
      have z : ∀ (φ : Nat → Int), la_sm (d * (2 * l.length)) (fun j => X a j * φ j) = la_sm d (fun j => (if esD t r (j + 1) = esD t e 0 then (1 : Int) else 0) * φ (j * (2 * l.length) + r)) - la_sm d (fun j => (if esD t r (j + 1) = esD t e (i + 1) then (1 : Int) else 0) * φ (j * (2 * l.length) + r)) := by
        intro φ
        rw [sm_sheets, ← la_sm_sub]
        refine la_sm_congr fun j _ => ?_
        have hX : ∀ x, x < 2 * l.length → X a (j * (2 * l.length) + x) = if fstE l e ∨ x ≠ r then 0 else (if esD t r (j + 1) = esD t e 0 then 1 else 0) - (if esD t r (j + 1) = esD t e (i + 1) then 1 else 0) := by
          intro x hx
          obtain ⟨k1, k2⟩ := sheet_at (p := 2 * l.length) j hx
          show (if fstE l (a % (2 * l.length)) ∨ (j * (2 * l.length) + x) % (2 * l.length) ≠ rp (a % (2 * l.length)) then (0 : Int) else _) = _
          rw [k1, k2, hee, hii, hrr]
        rw [la_sm_single r (by omega) (fun x hx hne => by rw [hX x hx, if_pos (.inr hne), Int.zero_mul]), hX r (by omega), if_neg (fun g => g.elim h (fun g => g rfl)), Int.sub_mul]
      have h3 : la_sm (d * (2 * l.length)) (fun b => la_ab (la_ee a b + la_sm (d * (2 * l.length)) (fun j => X a j * la_ee j b)) + la_ab (resR l t a b + la_sm (d * (2 * l.length)) (fun j => X a j * resR l t j b))) ≤
          la_sm (d * (2 * l.length)) (fun b => (la_ee a b + (la_sm d (fun j => (if esD t r (j + 1) = esD t e 0 then (1 : Int) else 0) * la_ee (j * (2 * l.length) + r) b) + la_sm d (fun j => (if esD t r (j + 1) = esD t e (i + 1) then (1 : Int) else 0) * la_ee (j * (2 * l.length) + r) b))) + (la_ee (i * (2 * l.length) + opp e) b + (la_sm d (fun j => (if esD t r (j + 1) = esD t e 0 then (1 : Int) else 0) * la_ee (j * (2 * l.length) + opp r) b) + la_sm d (fun j => (if esD t r (j + 1) = esD t e (i + 1) then (1 : Int) else 0) * la_ee (j * (2 * l.length) + opp r) b)))) := by
        refine la_sm_le fun b _ => ?_
        rw [z, z, res_hit hd hlt ht (by omega) g2 _ hs1 b, res_hit hd hlt ht (by omega) g2 _ hs2 b, resR_at l t a b hp, hee, hii, cF_cS]
        have nn : ∀ (s : Nat) (x : Nat → Nat), 0 ≤ la_sm d (fun j => (if esD t r (j + 1) = s then (1 : Int) else 0) * la_ee (x j) b) := fun s x => la_sm_nonneg fun j _ => Int.mul_nonneg (by split <;> omega) (ee_nonneg _ _)
        have n1 := nn (esD t e 0) (fun j => j * (2 * l.length) + r)
        have n2 := nn (esD t e (i + 1)) (fun j => j * (2 * l.length) + r)
        have n3 := nn (esD t e 0) (fun j => j * (2 * l.length) + opp r)
        have n4 := nn (esD t e (i + 1)) (fun j => j * (2 * l.length) + opp r)
        have n5 := ee_nonneg a b
        have n6 := ee_nonneg (i * (2 * l.length) + opp e) b
        unfold la_ab
        omega
      have hit : ∀ s, s < n → ∀ x : Nat → Nat, la_sm (d * (2 * l.length)) (fun b => la_sm d (fun j => (if esD t r (j + 1) = s then (1 : Int) else 0) * la_ee (x j) b)) ≤ 1 := fun s hs x => sm_laid _ d _ x (fun j _ => by split <;> omega) (sm_hit hd (esD t r) (fun s hs => es_one hlt ht r s (by omega) hs) s hs)
      have b1 := hit _ hs1 (fun j => j * (2 * l.length) + r)
      have b2 := hit _ hs2 (fun j => j * (2 * l.length) + r)
      have b3 := hit _ hs1 (fun j => j * (2 * l.length) + opp r)
      have b4 := hit _ hs2 (fun j => j * (2 * l.length) + opp r)
      have b5 : la_sm (d * (2 * l.length)) (fun b => la_ee a b) ≤ 1 := hq a
      have b6 : la_sm (d * (2 * l.length)) (fun b => la_ee (i * (2 * l.length) + opp e) b) ≤ 1 := hq _
      refine Int.le_trans h3 (Int.le_trans (Int.le_of_eq (sm_add6 _ (la_ee a) (fun b => la_sm d (fun j => (if esD t r (j + 1) = esD t e 0 then (1 : Int) else 0) * la_ee (j * (2 * l.length) + r) b)) (fun b => la_sm d (fun j => (if esD t r (j + 1) = esD t e (i + 1) then (1 : Int) else 0) * la_ee (j * (2 * l.length) + r) b)) (la_ee (i * (2 * l.length) + opp e)) (fun b => la_sm d (fun j => (if esD t r (j + 1) = esD t e 0 then (1 : Int) else 0) * la_ee (j * (2 * l.length) + opp r) b)) (fun b => la_sm d (fun j => (if esD t r (j + 1) = esD t e (i + 1) then (1 : Int) else 0) * la_ee (j * (2 * l.length) + opp r) b)))) ?_)
      have b7 := hq a
      have b8 := hq (i * (2 * l.length) + opp e)
      omega
theorem pr_powd (n : Nat) (v : Nat → Int) (d : Nat) : la_pr n (fun e => v e ^ d) = la_pr n v ^ d := by
  induction d with
  | zero => rw [Int.pow_zero]; exact pr_ones fun i _ => Int.pow_zero _
  | succ d ih =>
    rw [Int.pow_succ, ← ih, ← pr_mul]
    exact la_pr_congr fun i _ => Int.pow_succ _ _
theorem both_bound {n d N : Nat} (hd : d + 1 = n) (hn : n ≤ 4) (hN : N ≤ 8) {l t : List (List Int)} (hm : l.length * n ≤ 10) (hE : endsIn N l) (hlt : t.length = l.length) (ht : ∀ x ∈ t, isOrd n x = true) (hes : ∀ e i, e < 2 * l.length → i < n → esD t e i < n) :
    la_sm (2 * l.length + 1) (fun k => la_ab (la_cp (2 * l.length) (eA l) k)) * la_sm (d * (2 * l.length) + 1) (fun k => la_ab (la_cp (d * (2 * l.length)) (resR l t) k)) ≤ 1000000000000000 := by
  have h1 := g_bound hE
  have h2 := h_bound hd hE hlt ht hes
  have h3 := pr_sheets (2 * l.length) (fun e => if fstE l e then 1 + 2 * (dgE l e : Int) else 6) d
  rw [h3, ← pr_powd] at h2
  have n1 : 0 ≤ la_sm (d * (2 * l.length) + 1) (fun k => la_ab (la_cp (d * (2 * l.length)) (resR l t) k)) := la_sm_nonneg fun k _ => la_ab_nonneg _
  have n2 : 0 ≤ la_pr (2 * l.length) (fun e => if fstE l e then (dgE l e : Int) else 4) := la_pr_nonneg fun e _ => by split <;> omega
  refine Int.le_trans (Int.mul_le_mul h1 h2 n1 n2) ?_
  rw [← pr_mul]
  have h4 := weigh 8 (clE l) (fun a => (a : Int) * (1 + 2 * a) ^ d) (4 * 6 ^ d) (topK d) (by unfold topK; (repeat' split) <;> decide) (Int.mul_nonneg (by decide) (Int.pow_nonneg (by decide))) (2 * l.length) (fun e he => by
    obtain ⟨_, v, _, hv, _, hvn⟩ := dart_ends hE e he
    unfold clE
    rw [hv]
    omega) (fun a h5 h6 => by
    have h7 : a * n ≤ 2 * l.length * n := Nat.mul_le_mul_right n h6
    rw [Nat.mul_assoc] at h7
    exact ⟨Int.mul_nonneg (by omega) (Int.pow_nonneg (by omega)), weights_ok d (by omega) a h5 (by rw [hd]; omega)⟩)
  refine Int.le_trans (Int.le_of_eq (la_pr_congr fun e _ => ?_)) (Int.le_trans h4 (weights_top d (by omega) l.length (by rw [hd]; exact hm)))
  by_cases g : fstE l e
  · rw [if_pos g, if_pos g, if_pos (show cntC (clE l) (clE l e) e = 0 from g)]
    rfl
  · rw [if_neg g, if_neg g, if_neg (show ¬ cntC (clE l) (clE l e) e = 0 from g)]
/-- Terms of a product, all together. -/
theorem cv_bound {p q : Nat} {f g : Nat → Int} (hf : ∀ k, p < k → f k = 0) (hg : ∀ k, q < k → g k = 0) {B : Int} (h : la_sm (p + 1) (fun k => la_ab (f k)) * la_sm (q + 1) (fun k => la_ab (g k)) ≤ B) (k : Nat) : la_sm (k + 1) (fun i => la_ab (f i * g (k - i))) ≤ B := by
  have h1 : ∀ j, la_ab (g j) ≤ la_sm (q + 1) (fun k => la_ab (g k)) := fun j => by
    by_cases e : j ≤ q
    · have := la_ab_le_sm g j (show j < q + 1 by omega)
      exact this
    · rw [hg j (by omega), la_ab_zero]
      exact la_sm_nonneg fun k _ => la_ab_nonneg _
  have h2 : la_sm (k + 1) (fun i => la_ab (f i)) ≤ la_sm (p + 1) (fun i => la_ab (f i)) := by
    by_cases e : p ≤ k
    · rw [la_sm_ext (n := p + 1) (m := k + 1) (f := fun i => la_ab (f i)) (by omega) (fun i h3 _ => by rw [hf i (by omega), la_ab_zero])]
      exact Int.le_refl _
    · have h3 := la_sm_split (k + 1) (p - k) (fun i => la_ab (f i))
      rw [show k + 1 + (p - k) = p + 1 by omega] at h3
      have h4 : 0 ≤ la_sm (p - k) (fun i => la_ab (f (k + 1 + i))) := la_sm_nonneg fun _ _ => la_ab_nonneg _
      omega
  refine Int.le_trans (la_sm_le (g := fun i => la_sm (q + 1) (fun k => la_ab (g k)) * la_ab (f i)) fun i _ => ?_) ?_
  · rw [la_ab_mul, Int.mul_comm]
    exact Int.mul_le_mul_of_nonneg_right (h1 _) (la_ab_nonneg _)
  · rw [la_sm_mul, Int.mul_comm]
    exact Int.le_trans (Int.mul_le_mul_of_nonneg_right h2 (la_sm_nonneg fun _ _ => la_ab_nonneg _)) h
theorem trim_top {f : Nat → Int} {a n : Nat} (h : a ≤ n) (ha : f a ≠ 0) (hz : ∀ k, a < k → f k = 0) : trimN (vrow (n + 1) f) (n + 1) = vrow (a + 1) f := by
  obtain ⟨d, rfl⟩ : ∃ d, n = a + d := ⟨n - a, by omega⟩
  rw [trimN_vrow f d a hz]
  unfold trimN
  rw [if_neg (by rw [vrow_rd (show a < a + 1 by omega)]; exact ha), List.take_of_length_le (by rw [vrow_length]; exact Nat.le_refl _)]
theorem deg_ex {f : Nat → Int} (h0 : f 0 ≠ 0) : ∀ n, (∀ k, n < k → f k = 0) → ∃ a, a ≤ n ∧ f a ≠ 0 ∧ ∀ k, a < k → f k = 0 := by
  intro n
  induction n with
  | zero => intro h; exact ⟨0, Nat.le_refl _, h0, h⟩
  | succ n ih =>
    intro h
    by_cases e : f (n + 1) = 0
    · obtain ⟨a, h1, h2, h3⟩ := ih (fun k hk => by
        by_cases e2 : k = n + 1
        · rw [e2]; exact e
        · exact h k (by omega))
      exact ⟨a, by omega, h2, h3⟩
    · exact ⟨n + 1, Nat.le_refl _, e, h⟩
theorem cv_zeros {g h : Nat → Int} {c b : Nat} (hg : ∀ k, c < k → g k = 0) (hh : ∀ k, b < k → h k = 0) (k : Nat) (hk : c + b < k) : cv g h k = 0 := by
  refine la_sm_zero fun i _ => ?_
  by_cases e : c < i
  · rw [hg i e, Int.zero_mul]
  · rw [hh (k - i) (by omega), Int.mul_zero]
theorem cv_last {g h : Nat → Int} {c b : Nat} (hg : ∀ k, c < k → g k = 0) (hh : ∀ k, b < k → h k = 0) : cv g h (c + b) = g c * h b := by
  unfold cv
  rw [la_sm_single c (by omega) (fun i _ hne => by
    by_cases e : c < i
    · rw [hg i e, Int.zero_mul]
    · rw [hh (c + b - i) (by omega), Int.mul_zero]), show c + b - c = b by omega]
theorem cv_comm {g h : Nat → Int} {c b : Nat} (hg : ∀ k, c < k → g k = 0) (hh : ∀ k, b < k → h k = 0) (k : Nat) : cv h g k = cv g h k := by
  by_cases e : k ≤ c + b
  · refine la_pv_inj (n := c + b) (fun u _ => ?_) k e
    rw [← pv_cv b h hh u c g hg, show c + b = b + c by omega, ← pv_cv c g hg u b h hh, Int.mul_comm]
  · rw [cv_zeros hg hh k (by omega), cv_zeros hh hg k (by omega)]
theorem absolute_eq (y : Int) (h : -1000000000000000 ≤ y ∧ y ≤ 1000000000000000) : F165.f y = some (la_ab y) := by
  unfold F165.f mx la_ab
  rw [w64 (show -9223372036854775808 ≤ -y by omega) (by omega)]
  congr 1
  split <;> omega
theorem isSmall_eq (y : Int) : F218.f y = some (decide (-1000000000000000 ≤ y) && decide (y ≤ 1000000000000000)) := by
  unfold F218.f
  rw [within_eq]
  rfl
theorem plusTimes_ev (x y z : Int) (hx : -1000000000000000 ≤ x ∧ x ≤ 1000000000000000) (hy : la_ab y ≤ 1000000000000000) (hz : la_ab z ≤ 1000000000000000) (hyz : la_ab (y * z) ≤ 1000000000000000) (hs : la_ab (x + y * z) ≤ 1000000000000000) : Ev (fun k => F167.f k x y z) (x + y * z, true) := by
  have yes : y * z = 0 → Ev (fun k => F167.j0 k x y z true) (x + y * z, true) := by
    intro h
    refine Ev.step (fun k => by simp only [F167.j0]; rfl) ?_
    simp only [if_true]
    rw [h, Int.add_zero]
    exact Ev.now _
  unfold F167.f
  by_cases h1 : y = 0
  · simp only [h1, if_true]
    have h := yes (by rw [h1, Int.zero_mul])
    rw [h1] at h
    exact h
  · simp only [h1, if_false]
    by_cases h2 : z = 0
    · rw [show (z == 0) = true from beq_iff_eq.2 h2]
      exact yes (by rw [h2, Int.mul_zero])
    · rw [show (z == 0) = false from beq_eq_false_iff_ne.2 h2]
      refine Ev.step (fun k => by simp only [F167.j0]; rfl) ?_
      have hy2 : -1000000000000000 ≤ y ∧ y ≤ 1000000000000000 := by unfold la_ab at hy; omega
      have hz2 : -1000000000000000 ≤ z ∧ z ≤ 1000000000000000 := by unfold la_ab at hz; omega
      have hp2 : -1000000000000000 ≤ y * z ∧ y * z ≤ 1000000000000000 := by unfold la_ab at hyz; omega
      have hs2 : -1000000000000000 ≤ x + y * z ∧ x + y * z ≤ 1000000000000000 := by unfold la_ab at hs; omega
      have hz3 : 0 < la_ab z := by unfold la_ab; omega
      rw [la_ab_mul] at hyz
      have hdv : la_ab y ≤ 1000000000000000 / la_ab z := (Int.le_ediv_iff_mul_le hz3).2 hyz
      have hd2 : 1000000000000000 / la_ab z ≤ 1000000000000000 := Int.ediv_le_self _ (by decide)
      have hd3 := la_ab_nonneg y
      simp only [Bool.false_eq_true, if_false, absolute_eq y hy2, absolute_eq z hz2, Option.bind_some, show ¬ (la_ab z = 0) by omega, w64 (show -9223372036854775808 ≤ 1000000000000000 / la_ab z by omega) (by omega), show ¬ (la_ab y > 1000000000000000 / la_ab z) by omega, isSmall_eq]
      rw [w64 (show -9223372036854775808 ≤ y * z by omega) (by omega), w64 (show -9223372036854775808 ≤ x + y * z by omega) (by omega), decide_eq_true hs2.1, decide_eq_true hs2.2]
      exact Ev.now _
theorem isWhole_ev {f : Nat → Int} {a : Nat} (ha : a < 40) (hf : ∀ k, k ≤ a → la_ab (f k) ≤ 1000000000000000) (h0 : f a ≠ 0) : Ev (fun k => F217.f k (vrow (a + 1) f)) true := by
  have hl : (vrow (a + 1) f).length = a + 1 := vrow_length _ _
  have main : ∀ d i, a + 1 - i = d → i ≤ a + 1 → Ev (fun k => F217.l0 k (vrow (a + 1) f) (vrow (a + 1) f) ((a + 1 : Nat) : Int) i) true := by
    intro d
    induction d with
    | zero =>
      intro i hd hi
      obtain rfl : i = a + 1 := by omega
      refine Ev.step (fun k => by simp only [F217.l0]; rfl) ?_
      have e1 : wrap64 (((a + 1 : Nat) : Int) - 1) = ((a : Nat) : Int) := by rw [w64 (by omega) (by omega)]; omega
      simp only [hl, Int.lt_irrefl, if_false, show (((a + 1 : Nat) : Int) ≤ 40) by omega, if_true, show ¬ (((a + 1 : Nat) : Int) = 0) by omega, e1, show (0 : Int) ≤ (a : Int) by omega, show ((a : Int) < ((a + 1 : Nat) : Int)) by omega, vrow_rd (show a < a + 1 by omega)]
      rw [show (f a != 0) = true from bne_iff_ne.2 h0]
      exact Ev.now _
    | succ d ih =>
      intro i hd hi
      have h1 := ih (i + 1) (by omega) (by omega)
      have h2 := hf i (by omega)
      refine Ev.step (fun k => by simp only [F217.l0]; rfl) ?_
      simp only [hl, show ((i : Int) < ((a + 1 : Nat) : Int)) by omega, if_true, show (0 : Int) ≤ (i : Int) by omega, vrow_rd (show i < a + 1 by omega), isSmall_eq, Option.bind_some, w64 (show -9223372036854775808 ≤ (i : Int) + 1 by omega) (by omega)]
      rw [decide_eq_true (show -1000000000000000 ≤ f i by unfold la_ab at h2; omega), decide_eq_true (show f i ≤ 1000000000000000 by unfold la_ab at h2; omega)]
      exact h1
  unfold F217.f
  rw [hl]
  exact main (a + 1) 0 (by omega) (by omega)
/-- The product of two polynomials, reckoned place by place. -/
theorem multiply_ev {g h : Nat → Int} {c b : Nat} (hcb : c + b < 40) (hg : ∀ k, c < k → g k = 0) (hh : ∀ k, b < k → h k = 0) (hB : ∀ k, la_sm (k + 1) (fun i => la_ab (h i * g (k - i))) ≤ 1000000000000000) (hgB : ∀ k, la_ab (g k) ≤ 1000000000000000) (hhB : ∀ k, la_ab (h k) ≤ 1000000000000000) :
    Ev (fun k => F169.f k (vrow (b + 1) h) (vrow (c + 1) g)) (vrow (c + b + 1) (cv h g), true) := by
  have hlh : (vrow (b + 1) h).length = b + 1 := vrow_length _ _
  have hlg : (vrow (c + 1) g).length = c + 1 := vrow_length _ _
  have e0 : wrap64 (wrap64 (((b + 1 : Nat) : Int) + ((c + 1 : Nat) : Int)) - 1) = ((c + b + 1 : Nat) : Int) := by
    rw [w64 (show -9223372036854775808 ≤ ((b + 1 : Nat) : Int) + ((c + 1 : Nat) : Int) by omega) (by omega), w64 (by omega) (by omega)]; omega
  have hpart : ∀ k j, j ≤ k + 1 → la_ab (la_sm j (fun r => h r * g (k - r))) ≤ 1000000000000000 := by
    intro k j hj
    refine Int.le_trans (la_ab_sm j _) (Int.le_trans ?_ (hB k))
    have h3 := la_sm_split j (k + 1 - j) (fun i => la_ab (h i * g (k - i)))
    rw [show j + (k + 1 - j) = k + 1 by omega] at h3
    have h4 : 0 ≤ la_sm (k + 1 - j) (fun i => la_ab (h (j + i) * g (k - (j + i)))) := la_sm_nonneg fun _ _ => la_ab_nonneg _
    omega
  have inner : ∀ (kk : Nat), kk < c + b + 1 → ∀ (R : List Int × Bool), Ev (fun k => F169.l0 k (vrow (b + 1) h) (vrow (c + 1) g) (vrow (kk + 1) (cv h g)) ((c + b + 1 : Nat) : Int) ((kk + 1 : Nat) : Int)) R →
      ∀ d j, min kk b + 1 - j = d → kk - c ≤ j → j ≤ min kk b + 1 → Ev (fun k => F169.l1 k (vrow (b + 1) h) (vrow (c + 1) g) (vrow kk (cv h g)) kk (la_sm j (fun r => h r * g (kk - r))) j ((c + b + 1 : Nat) : Int) kk) R := by
    intro kk hkk R next d
    have em : mn (kk : Int) (wrap64 (((b + 1 : Nat) : Int) - 1)) = ((min kk b : Nat) : Int) := by
      rw [w64 (by omega) (by omega)]
      unfold mn
      split <;> omega
    induction d with
    | zero =>
      intro j hd hlo hj
      obtain rfl : j = min kk b + 1 := by omega
      refine Ev.step (fun k => by simp only [F169.l1]; rfl) ?_
      simp only [hlh, em, show ¬ (((min kk b + 1 : Nat) : Int) ≤ ((min kk b : Nat) : Int)) by omega, if_false, vrow_length, show kk < 17592186044416 by omega, if_true, w64 (show -9223372036854775808 ≤ (kk : Int) + 1 by omega) (by omega)]
      rw [show vrow kk (cv h g) ++ [la_sm (min kk b + 1) (fun r => h r * g (kk - r))] = vrow (kk + 1) (cv h g) from by
        unfold vrow
        rw [List.range_succ, List.map_append]
        congr 1
        show [_] = [_]
        congr 1
        unfold cv
        exact (la_sm_ext (n := min kk b + 1) (m := kk + 1) (by omega) (fun i h1 h2 => by rw [hh i (by omega), Int.zero_mul])).symm]
      exact next
    | succ d ih =>
      intro j hd hlo hj
      have h1 := ih (j + 1) (by omega) (by omega) (by omega)
      have p1 := hpart kk j (by omega)
      have p2 := hpart kk (j + 1) (by omega)
      have p3 : la_ab (h j * g (kk - j)) ≤ 1000000000000000 := Int.le_trans (la_ab_le_sm (fun i => h i * g (kk - i)) j (show j < kk + 1 by omega)) (hB kk)
      rw [sm_succ] at p2
      have e1 : wrap64 ((kk : Int) - (j : Int)) = ((kk - j : Nat) : Int) := by rw [w64 (by omega) (by omega)]; omega
      refine Ev.step (fun k => by simp only [F169.l1]; rfl) ?_
      simp only [hlh, hlg, em, show ((j : Int) ≤ ((min kk b : Nat) : Int)) by omega, if_true, show (0 : Int) ≤ (j : Int) by omega, show ((j : Int) < ((b + 1 : Nat) : Int)) by omega, e1, show (0 : Int) ≤ ((kk - j : Nat) : Int) by omega, show (((kk - j : Nat) : Int) < ((c + 1 : Nat) : Int)) by omega, vrow_rd (show j < b + 1 by omega), vrow_rd (show kk - j < c + 1 by omega), w64 (show -9223372036854775808 ≤ (j : Int) + 1 by omega) (by omega)]
      refine Ev.bind (plusTimes_ev _ _ _ (by unfold la_ab at p1; omega) (hhB j) (hgB _) p3 p2) ?_
      simp only [if_true]
      exact h1
  have outer : ∀ d kk, c + b + 1 - kk = d → kk ≤ c + b + 1 → Ev (fun k => F169.l0 k (vrow (b + 1) h) (vrow (c + 1) g) (vrow kk (cv h g)) ((c + b + 1 : Nat) : Int) kk) (vrow (c + b + 1) (cv h g), true) := by
    intro d
    induction d with
    | zero =>
      intro kk hd hk
      obtain rfl : kk = c + b + 1 := by omega
      refine Ev.step (fun k => by simp only [F169.l0]; rfl) ?_
      simp only [Int.lt_irrefl, if_false]
      exact Ev.now _
    | succ d ih =>
      intro kk hd hk
      have h1 := inner kk (by omega) _ (ih (kk + 1) (by omega) (by omega)) (min kk b + 1 - (kk - c)) (kk - c) rfl (Nat.le_refl _) (by omega)
      have e1 : mx 0 (wrap64 (wrap64 ((kk : Int) - ((c + 1 : Nat) : Int)) + 1)) = ((kk - c : Nat) : Int) := by
        rw [w64 (show -9223372036854775808 ≤ (kk : Int) - ((c + 1 : Nat) : Int) by omega) (by omega), w64 (by omega) (by omega)]
        unfold mx
        split <;> omega
      refine Ev.step (fun k => by simp only [F169.l0]; rfl) ?_
      simp only [show ((kk : Int) < ((c + b + 1 : Nat) : Int)) by omega, if_true, hlg, e1]
      rw [la_sm_zero (n := kk - c) (f := fun r => h r * g (kk - r)) (fun i hi => by rw [hg (kk - i) (by omega), Int.mul_zero])] at h1
      exact h1
  unfold F169.f
  simp only [hlh, show ¬ (((b + 1 : Nat) : Int) = 0) by omega, if_false, hlg, show (((c + 1 : Nat) : Int) == 0) = false from beq_eq_false_iff_ne.2 (by omega)]
  refine Ev.step (fun k => by simp only [F169.j0]; rfl) ?_
  simp only [hlh, hlg, Bool.false_eq_true, if_false, e0, show ¬ (((c + b + 1 : Nat) : Int) > 40) by omega]
  exact outer (c + b + 1) 0 (by omega) (by omega)
/-- What is left of a coefficient when the first ones are taken off. -/
def ow (g h : Nat → Int) (kk i : Nat) : Int := la_sm (kk + 1) (fun r => if r = 0 ∨ i ≤ r then g r * h (kk - r) else 0)
theorem ow_one (g h : Nat → Int) (kk : Nat) : ow g h kk 1 = cv g h kk := la_sm_congr fun r _ => if_pos (by omega)
theorem ow_succ (g h : Nat → Int) {kk i : Nat} (h1 : 1 ≤ i) (h2 : i ≤ kk) : ow g h kk (i + 1) = ow g h kk i - g i * h (kk - i) := by
  have e : ow g h kk i - ow g h kk (i + 1) = g i * h (kk - i) := by
    unfold ow
    rw [← la_sm_sub, la_sm_single i (show i < kk + 1 by omega) (fun r _ hne => by
      by_cases e : r = 0 ∨ i ≤ r
      · rw [if_pos e, if_pos (by omega)]; omega
      · rw [if_neg e, if_neg (by omega)]; rfl), if_pos (.inr (Nat.le_refl _)), if_neg (by omega)]
    omega
  omega
theorem ow_last {g h : Nat → Int} {c : Nat} (hg : ∀ k, c < k → g k = 0) {kk i : Nat} (hi : min kk c + 1 = i) : ow g h kk i = g 0 * h kk := by
  unfold ow
  rw [la_sm_single 0 (by omega) (fun r hr hne => by
    by_cases e : i ≤ r
    · rw [if_pos (.inr e), hg r (by omega), Int.zero_mul]
    · rw [if_neg (fun e2 => e2.elim hne e)]), if_pos (.inl rfl), Nat.sub_zero]
theorem ow_bound {g h : Nat → Int} {B : Int} (hB : ∀ k, la_sm (k + 1) (fun i => la_ab (g i * h (k - i))) ≤ B) (kk i : Nat) : la_ab (ow g h kk i) ≤ B := by
  refine Int.le_trans (la_ab_sm _ _) (Int.le_trans (la_sm_le fun r _ => ?_) (hB kk))
  by_cases e : r = 0 ∨ i ≤ r
  · simp only [if_pos e]; exact Int.le_refl _
  · simp only [if_neg e]; exact la_ab_nonneg _
theorem vrow_more (n : Nat) (h : Nat → Int) : vrow n h ++ [h n] = vrow (n + 1) h := by
  unfold vrow
  rw [List.range_succ, List.map_append]
  rfl
theorem divideWhole_ev {g h : Nat → Int} {c b : Nat} (hcb : c + b ≤ 20) (hg0 : g 0 = 1) (hh0 : h 0 = 1) (hg : ∀ k, c < k → g k = 0) (hh : ∀ k, b < k → h k = 0) (hgc : g c ≠ 0) (hhb : h b ≠ 0) (hB : ∀ k, la_sm (k + 1) (fun i => la_ab (g i * h (k - i))) ≤ 1000000000000000) (hB2 : ∀ k, la_sm (k + 1) (fun i => la_ab (h i * g (k - i))) ≤ 1000000000000000) :
    Ev (fun k => F85.f k (vrow (c + b + 1) (cv g h)) (vrow (c + 1) g)) (vrow (b + 1) h, 0) := by
  have hlf : (vrow (c + b + 1) (cv g h)).length = c + b + 1 := vrow_length _ _
  have hlg : (vrow (c + 1) g).length = c + 1 := vrow_length _ _
  have hgB : ∀ k, la_ab (g k) ≤ 1000000000000000 := fun k => by
    have := la_ab_le_sm (fun i => g i * h (k - i)) k (show k < k + 1 by omega)
    rw [Nat.sub_self, hh0, Int.mul_one] at this
    exact Int.le_trans this (hB k)
  have hhB : ∀ k, la_ab (h k) ≤ 1000000000000000 := fun k => by
    have := la_ab_le_sm (fun i => g i * h (k - i)) 0 (show 0 < k + 1 by omega)
    rw [Nat.sub_zero, hg0, Int.one_mul] at this
    exact Int.le_trans this (hB k)
  have hfB : ∀ k, la_ab (cv g h k) ≤ 1000000000000000 := fun k => Int.le_trans (la_ab_sm _ _) (hB k)
  have hne : cv g h (c + b) ≠ 0 := by
    rw [cv_last hg hh]
    exact Int.mul_ne_zero hgc hhb
  have wF := isWhole_ev (f := cv g h) (a := c + b) (by omega) (fun k _ => hfB k) hne
  have wG := isWhole_ev (f := g) (a := c) (by omega) (fun k _ => hgB k) hgc
  have hm : Ev (fun k => F169.f k (vrow (b + 1) h) (vrow (c + 1) g)) (vrow (c + b + 1) (cv g h), true) := by
    have := multiply_ev (g := g) (h := h) (c := c) (b := b) (by omega) hg hh hB2 hgB hhB
    rw [show cv h g = cv g h from funext fun k => cv_comm hg hh k] at this
    exact this
  have fin : Ev (fun k => F85.j3 k (vrow (c + b + 1) (cv g h)) (vrow (c + 1) g) (vrow (b + 1) h)) (vrow (b + 1) h, 0) := by
    refine Ev.step (fun k => by simp only [F85.j3]; rfl) ?_
    have ht := trimmed_ev (vrow (b + 1) h) (by rw [vrow_length]; omega)
    rw [vrow_length, trim_top (Nat.le_refl b) hhb hh] at ht
    refine Ev.bind ht (Ev.bind hm ?_)
    simp only [if_true]
    refine Ev.bind (equal_ev _ (by rw [vrow_length]; omega)) ?_
    simp only [if_true]
    exact Ev.now _
  have e0 : mx 0 (wrap64 (wrap64 (((c + b + 1 : Nat) : Int) - ((c + 1 : Nat) : Int)) + 1)) = ((b + 1 : Nat) : Int) := by
    rw [w64 (show -9223372036854775808 ≤ ((c + b + 1 : Nat) : Int) - ((c + 1 : Nat) : Int) by omega) (by omega), w64 (by omega) (by omega)]
    unfold mx
    split <;> omega
  have inner : ∀ kk, kk < b + 1 → Ev (fun k => F85.l0 k (vrow (c + b + 1) (cv g h)) (vrow (c + 1) g) (vrow (kk + 1) h) ((b + 1 : Nat) : Int) ((kk + 1 : Nat) : Int)) (vrow (b + 1) h, 0) →
      ∀ d i, min kk c + 1 - i = d → 1 ≤ i → i ≤ min kk c + 1 → Ev (fun k => F85.l1 k (vrow (c + b + 1) (cv g h)) (vrow (c + 1) g) (vrow kk h) kk (ow g h kk i) i ((b + 1 : Nat) : Int) kk) (vrow (b + 1) h, 0) := by
    intro kk hkk next d
    have em : mn (kk : Int) (wrap64 (((c + 1 : Nat) : Int) - 1)) = ((min kk c : Nat) : Int) := by
      rw [w64 (by omega) (by omega)]
      unfold mn
      split <;> omega
    induction d with
    | zero =>
      intro i hd h1 hi
      have hi2 : min kk c + 1 = i := by omega
      have hk := hhB kk
      refine Ev.step (fun k => by simp only [F85.l1]; rfl) ?_
      have hr0 : rd (vrow (c + 1) g) 0 = 1 := by
        have := vrow_rd (g := g) (show 0 < c + 1 by omega)
        rw [hg0] at this
        exact this
      simp only [hlg, em, show ¬ ((i : Int) ≤ ((min kk c : Nat) : Int)) by omega, if_false, show (0 : Int) < ((c + 1 : Nat) : Int) by omega, if_true, vrow_length, show kk < 17592186044416 by omega, hr0, Int.mul_one, ow_last hg hi2, hg0, Int.one_mul]
      rw [w64 (show -9223372036854775808 ≤ h kk by unfold la_ab at hk; omega) (by unfold la_ab at hk; omega), w64 (show -9223372036854775808 ≤ (kk : Int) + 1 by omega) (by omega), vrow_more]
      exact next
    | succ d ih =>
      intro i hd h1 hi
      have h2 := ih (i + 1) (by omega) (by omega) (by omega)
      have p1 := ow_bound hB kk i
      have p2 := ow_bound hB kk (i + 1)
      have p3 : la_ab (g i * h (kk - i)) ≤ 1000000000000000 := Int.le_trans (la_ab_le_sm (fun r => g r * h (kk - r)) i (show i < kk + 1 by omega)) (hB kk)
      have p4 := hgB i
      rw [ow_succ g h h1 (by omega)] at p2 h2
      have e1 : wrap64 ((kk : Int) - (i : Int)) = ((kk - i : Nat) : Int) := by rw [w64 (by omega) (by omega)]; omega
      have e2 : ow g h kk i - g i * h (kk - i) = ow g h kk i + -(g i) * h (kk - i) := by rw [Int.neg_mul]; omega
      rw [e2] at p2 h2
      refine Ev.step (fun k => by simp only [F85.l1]; rfl) ?_
      simp only [hlg, em, show ((i : Int) ≤ ((min kk c : Nat) : Int)) by omega, if_true, show (0 : Int) ≤ (i : Int) by omega, show ((i : Int) < ((c + 1 : Nat) : Int)) by omega, e1, show (0 : Int) ≤ ((kk - i : Nat) : Int) by omega, vrow_length, show (((kk - i : Nat) : Int) < (kk : Int)) by omega, vrow_rd (show i < c + 1 by omega), vrow_rd (show kk - i < kk by omega), w64 (show -9223372036854775808 ≤ -(g i) by unfold la_ab at p4; omega) (by unfold la_ab at p4; omega), w64 (show -9223372036854775808 ≤ (i : Int) + 1 by omega) (by omega)]
      refine Ev.bind (plusTimes_ev _ _ _ (by unfold la_ab at p1; omega) (by unfold la_ab at p4 ⊢; omega) (hhB _) (by rw [Int.neg_mul]; unfold la_ab at p3 ⊢; omega) p2) ?_
      simp only [if_true]
      exact h2
  have outer : ∀ d kk, b + 1 - kk = d → kk ≤ b + 1 → Ev (fun k => F85.l0 k (vrow (c + b + 1) (cv g h)) (vrow (c + 1) g) (vrow kk h) ((b + 1 : Nat) : Int) kk) (vrow (b + 1) h, 0) := by
    intro d
    induction d with
    | zero =>
      intro kk hd hk
      obtain rfl : kk = b + 1 := by omega
      refine Ev.step (fun k => by simp only [F85.l0]; rfl) ?_
      simp only [Int.lt_irrefl, if_false, hlf, show ¬ (((c + b + 1 : Nat) : Int) = 0) by omega]
      exact fin
    | succ d ih =>
      intro kk hd hk
      have h1 := inner kk (by omega) (ih (kk + 1) (by omega) (by omega)) (min kk c + 1 - 1) 1 rfl (by omega) (by omega)
      refine Ev.step (fun k => by simp only [F85.l0]; rfl) ?_
      simp only [show ((kk : Int) < ((b + 1 : Nat) : Int)) by omega, if_true, at_ev, Option.bind_some, vrow_rd (show kk < c + b + 1 by omega)]
      rw [ow_one] at h1
      exact h1
  unfold F85.f
  have hw : Ev (fun k => F164.f k [vrow (c + b + 1) (cv g h), vrow (c + 1) g]) true := by
    obtain ⟨r, h1, h2⟩ := idxM_ev (fun _ => false) (fun k x => (F217.f k x).map not) [vrow (c + b + 1) (cv g h), vrow (c + 1) g] (fun x hx => by
      have : Ev (fun k => F217.f k x) true := by
        rcases List.mem_cons.1 hx with rfl | hx
        · exact wF
        · rw [List.mem_singleton.1 hx]; exact wG
      obtain ⟨K, hK⟩ := this
      exact ⟨K, fun k hk => by
        have h3 : F217.f k x = some true := hK k hk
        show (F217.f k x).map not = some false
        rw [h3]
        rfl⟩) 0
    unfold F164.f
    refine Ev.bind h1 ?_
    rw [h2]
    exact Ev.now _
  refine Ev.bind hw ?_
  have ha0 : F166.f (vrow (c + 1) g) 0 = some 1 := by
    have := at_ev (vrow (c + 1) g) 0
    rw [vrow_rd (show 0 < c + 1 by omega), hg0] at this
    exact this
  simp only [if_true, ha0, Option.bind_some, absolute_eq 1 (by omega), show la_ab 1 = 1 from rfl, hlf, hlg, show (((c + b + 1 : Nat) : Int) > 0) by omega, show ¬ (((c + b + 1 : Nat) : Int) < ((c + 1 : Nat) : Int)) by omega, if_false]
  refine Ev.step (fun k => by simp only [F85.j0]; rfl) ?_
  rw [hlf, hlg, e0]
  exact outer (b + 1) 0 (by omega) (by omega)
/-- A product without regard to limits: it answers. -/
theorem l01Times_ex (x y : List Int) (hx : 1 ≤ x.length) (hy : 1 ≤ y.length) (n : Nat) (hn : x.length + y.length = n + 1) (hl : n ≤ 1000) : ∃ R, Ev (fun k => F159.f k x y) R := by
  have outer : ∀ d i z, x.length - i = d → i ≤ x.length → z.length = n → ∃ R, Ev (fun k => F159.l0 k x y z i) R := by
    intro d
    induction d with
    | zero =>
      intro i z hd hi hz
      obtain rfl : i = x.length := by omega
      refine ⟨trimN z z.length, Ev.step (fun k => by simp only [F159.l0]; rfl) ?_⟩
      simp only [Int.lt_irrefl, if_false]
      exact Ev.bind (l01Trim_ev z (by omega)) (Ev.now _)
    | succ d ih =>
      intro i z hd hi hz
      have inner : ∀ e j z, y.length - j = e → j ≤ y.length → z.length = n → ∃ R, Ev (fun k => F159.l1 k x y z i j) R := by
        intro e
        induction e with
        | zero =>
          intro j z he hj hz
          obtain rfl : j = y.length := by omega
          obtain ⟨R, hR⟩ := ih (i + 1) z (by omega) (by omega) hz
          refine ⟨R, Ev.step (fun k => by simp only [F159.l1]; rfl) ?_⟩
          simp only [Int.lt_irrefl, if_false, w64 (show -9223372036854775808 ≤ (i : Int) + 1 by omega) (by omega)]
          exact hR
        | succ e ihe =>
          intro j z he hj hz
          have p1 : y.length - (j + 1) = e := by omega
          have p2 : j + 1 ≤ y.length := by omega
          have p3 : (z.set (i + j) (wrap64 (rd z ((i + j : Nat) : Int) + wrap64 (rd x (i : Int) * rd y (j : Int))))).length = n := by rw [List.length_set]; exact hz
          have f1 : ((j : Int) < (y.length : Int)) := by omega
          have f2 : (0 : Int) ≤ ((i + j : Nat) : Int) := by omega
          have f3 : (((i + j : Nat) : Int) < (z.length : Int)) := by omega
          have f4 : (0 : Int) ≤ (i : Int) := by omega
          have f5 : ((i : Int) < (x.length : Int)) := by omega
          have f6 : (0 : Int) ≤ (j : Int) := by omega
          have q1 : -9223372036854775808 ≤ (j : Int) + 1 := by omega
          have q2 : (j : Int) + 1 ≤ 9223372036854775807 := by omega
          have q3 : -9223372036854775808 ≤ (i : Int) + (j : Int) := by omega
          have q4 : (i : Int) + (j : Int) ≤ 9223372036854775807 := by omega
          have f7 : wrap64 ((j : Int) + 1) = ((j + 1 : Nat) : Int) := w64 q1 q2
          have e1 : wrap64 ((i : Int) + (j : Int)) = ((i + j : Nat) : Int) := w64 q3 q4
          obtain ⟨R, hR⟩ := ihe (j + 1) (z.set (i + j) (wrap64 (rd z ((i + j : Nat) : Int) + wrap64 (rd x (i : Int) * rd y (j : Int))))) p1 p2 p3
          refine ⟨R, Ev.step (fun k => by simp only [F159.l1]; rfl) ?_⟩
          simp only [f1, if_true, e1, f2, f3, f4, f5, f6, Int.toNat_natCast, f7]
          exact hR
      obtain ⟨R, hR⟩ := inner y.length 0 z (by omega) (by omega) hz
      refine ⟨R, Ev.step (fun k => by simp only [F159.l0]; rfl) ?_⟩
      simp only [show ((i : Int) < (x.length : Int)) by omega, if_true]
      exact hR
  obtain ⟨R, hR⟩ := outer x.length 0 (List.replicate (n) 0) (by omega) (by omega) (by simp)
  refine ⟨R, ?_⟩
  have e0 : wrap64 (wrap64 ((x.length : Int) + (y.length : Int)) - 1) = (n : Int) := by
    rw [w64 (show -9223372036854775808 ≤ (x.length : Int) + (y.length : Int) by omega) (by omega), w64 (by omega) (by omega)]; omega
  unfold F159.f
  simp only [show ¬ ((x.length : Int) = 0) by omega, if_false, show ((y.length : Int) == 0) = false from beq_eq_false_iff_ne.2 (by omega)]
  refine Ev.step (fun k => by simp only [F159.j0]; rfl) ?_
  simp only [Bool.false_eq_true, if_false, e0, show (0 : Int) ≤ (n : Int) by omega, if_true, Int.toNat_natCast, show n ≤ 35184372088832 by omega]
  exact hR
theorem l01Divide_ev {g h : Nat → Int} {c b : Nat} (hcb : c + b ≤ 20) (hg0 : g 0 = 1) (hg : ∀ k, c < k → g k = 0) (hh : ∀ k, b < k → h k = 0) (hhb : h b ≠ 0) (hB : ∀ k, la_sm (k + 1) (fun i => la_ab (g i * h (k - i))) ≤ 1000000000000000) :
    ∃ B, Ev (fun k => F81.f k (vrow (c + b + 1) (cv g h)) (vrow (c + 1) g)) (vrow (b + 1) h, B) := by
  have hlf : (vrow (c + b + 1) (cv g h)).length = c + b + 1 := vrow_length _ _
  have hlg : (vrow (c + 1) g).length = c + 1 := vrow_length _ _
  have hlh : (vrow (b + 1) h).length = b + 1 := vrow_length _ _
  have trim : Ev (fun k => F160.f k (vrow (b + 1) h)) (vrow (b + 1) h) := by
    have := l01Trim_ev (vrow (b + 1) h) (by omega)
    rw [hlh, trim_top (Nat.le_refl b) hhb hh] at this
    exact this
  obtain ⟨T, hT⟩ := l01Times_ex (vrow (b + 1) h) (vrow (c + 1) g) (by omega) (by omega) (c + b + 1) (by omega) (by omega)
  have same : ∀ d i z, c + b + 1 - i = d → i ≤ c + b + 1 → (z = true → T.length = c + b + 1) → ∃ B, Ev (fun k => F81.l2 k (vrow (c + b + 1) (cv g h)) (vrow (b + 1) h) T z i) (vrow (b + 1) h, B) := by
    intro d
    induction d with
    | zero =>
      intro i z hd hi hz
      obtain rfl : i = c + b + 1 := by omega
      refine ⟨z, Ev.step (fun k => by simp only [F81.l2]; rfl) ?_⟩
      simp only [hlf, Int.lt_irrefl, if_false]
      exact Ev.bind trim (Ev.now _)
    | succ d ih =>
      intro i z hd hi hz
      cases z with
      | false =>
        refine ⟨false, Ev.step (fun k => by simp only [F81.l2]; rfl) ?_⟩
        simp only [hlf, show ((i : Int) < ((c + b + 1 : Nat) : Int)) by omega, if_true, Bool.false_eq_true, if_false]
        exact Ev.bind trim (Ev.now _)
      | true =>
        have h3 := hz rfl
        obtain ⟨B, hR⟩ := ih (i + 1) (rd T (i : Int) == rd (vrow (c + b + 1) (cv g h)) (i : Int)) (by omega) (by omega) (fun _ => h3)
        refine ⟨B, Ev.step (fun k => by simp only [F81.l2]; rfl) ?_⟩
        simp only [hlf, show ((i : Int) < ((c + b + 1 : Nat) : Int)) by omega, if_true, show (0 : Int) ≤ (i : Int) by omega, show ((i : Int) < (T.length : Int)) by omega, w64 (show -9223372036854775808 ≤ (i : Int) + 1 by omega) (by omega)]
        exact hR
  obtain ⟨B, hS⟩ := same (c + b + 1) 0 ((T.length : Int) == ((vrow (c + b + 1) (cv g h)).length : Int)) (by omega) (by omega) (fun h3 => by
    have := beq_iff_eq.1 h3
    omega)
  refine ⟨B, ?_⟩
  have fin : Ev (fun k => (F159.f k (vrow (b + 1) h) (vrow (c + 1) g)).bind fun t => F81.l2 k (vrow (c + b + 1) (cv g h)) (vrow (b + 1) h) t ((t.length : Int) == ((vrow (c + b + 1) (cv g h)).length : Int)) 0) (vrow (b + 1) h, B) := Ev.bind hT hS
  have e0 : wrap64 (((c + b + 1 : Nat) : Int) - ((c + 1 : Nat) : Int)) = (b : Int) := by rw [w64 (by omega) (by omega)]; omega
  have hr0 : rd (vrow (c + 1) g) 0 = 1 := by
    have := vrow_rd (g := g) (show 0 < c + 1 by omega)
    rw [hg0] at this
    exact this
  have put : ∀ kk, kk < b + 1 → ∀ i, min kk c + 1 = i → vrow kk h ++ [wrap64 (ow g h kk i * rd (vrow (c + 1) g) 0)] = vrow (kk + 1) h := by
    intro kk hk i hi
    have h4 : la_ab (h kk) ≤ 1000000000000000 := by
      have := ow_bound hB kk i
      rw [ow_last hg hi, hg0, Int.one_mul] at this
      exact this
    rw [hr0, Int.mul_one, ow_last hg hi, hg0, Int.one_mul, w64 (show -9223372036854775808 ≤ h kk by unfold la_ab at h4; omega) (by unfold la_ab at h4; omega), vrow_more]
  have inner : ∀ kk, kk < b + 1 → Ev (fun k => F81.l0 k (vrow (c + b + 1) (cv g h)) (vrow (c + 1) g) (vrow (kk + 1) h) ((kk + 1 : Nat) : Int)) (vrow (b + 1) h, B) →
      ∀ d i, min kk c + 1 - i = d → 1 ≤ i → i ≤ min kk c + 1 → Ev (fun k => F81.l1 k (vrow (c + b + 1) (cv g h)) (vrow (c + 1) g) (vrow kk h) kk (ow g h kk i) i) (vrow (b + 1) h, B) := by
    intro kk hkk next d
    induction d with
    | zero =>
      intro i hd h1 hi
      have hi2 : min kk c + 1 = i := by omega
      refine Ev.step (fun k => by simp only [F81.l1]; rfl) ?_
      by_cases e : (i : Int) ≤ (kk : Int)
      · simp only [e, if_true, hlg, show ¬ ((i : Int) < ((c + 1 : Nat) : Int)) by omega, if_false, show (0 : Int) < ((c + 1 : Nat) : Int) by omega, vrow_length, show kk < 17592186044416 by omega, put kk hkk i hi2, w64 (show -9223372036854775808 ≤ (kk : Int) + 1 by omega) (by omega)]
        exact next
      · simp only [e, if_false, hlg, show (0 : Int) < ((c + 1 : Nat) : Int) by omega, if_true, vrow_length, show kk < 17592186044416 by omega, put kk hkk i hi2, w64 (show -9223372036854775808 ≤ (kk : Int) + 1 by omega) (by omega)]
        exact next
    | succ d ih =>
      intro i hd h1 hi
      have h2 := ih (i + 1) (by omega) (by omega) (by omega)
      have p1 := ow_bound hB kk i
      have p2 := ow_bound hB kk (i + 1)
      have p3 : la_ab (g i * h (kk - i)) ≤ 1000000000000000 := Int.le_trans (la_ab_le_sm (fun r => g r * h (kk - r)) i (show i < kk + 1 by omega)) (hB kk)
      rw [ow_succ g h h1 (by omega)] at p2 h2
      have e1 : wrap64 ((kk : Int) - (i : Int)) = ((kk - i : Nat) : Int) := by rw [w64 (by omega) (by omega)]; omega
      refine Ev.step (fun k => by simp only [F81.l1]; rfl) ?_
      simp only [show ((i : Int) ≤ (kk : Int)) by omega, if_true, hlg, show ((i : Int) < ((c + 1 : Nat) : Int)) by omega, show (0 : Int) ≤ (i : Int) by omega, e1, show (0 : Int) ≤ ((kk - i : Nat) : Int) by omega, vrow_length, show (((kk - i : Nat) : Int) < (kk : Int)) by omega, vrow_rd (show i < c + 1 by omega), vrow_rd (show kk - i < kk by omega), w64 (show -9223372036854775808 ≤ (i : Int) + 1 by omega) (by omega)]
      rw [w64 (show -9223372036854775808 ≤ g i * h (kk - i) by unfold la_ab at p3; omega) (by unfold la_ab at p3; omega), w64 (show -9223372036854775808 ≤ ow g h kk i - g i * h (kk - i) by unfold la_ab at p2; omega) (by unfold la_ab at p2; omega)]
      exact h2
  have outer : ∀ d kk, b + 1 - kk = d → kk ≤ b + 1 → Ev (fun k => F81.l0 k (vrow (c + b + 1) (cv g h)) (vrow (c + 1) g) (vrow kk h) kk) (vrow (b + 1) h, B) := by
    intro d
    induction d with
    | zero =>
      intro kk hd hk
      obtain rfl : kk = b + 1 := by omega
      refine Ev.step (fun k => by simp only [F81.l0]; rfl) ?_
      simp only [hlf, hlg, e0, show ¬ (((b + 1 : Nat) : Int) ≤ (b : Int)) by omega, if_false]
      rw [hlf] at fin
      exact fin
    | succ d ih =>
      intro kk hd hk
      have h1 := inner kk (by omega) (ih (kk + 1) (by omega) (by omega)) (min kk c + 1 - 1) 1 rfl (by omega) (by omega)
      refine Ev.step (fun k => by simp only [F81.l0]; rfl) ?_
      simp only [hlf, hlg, e0, show ((kk : Int) ≤ (b : Int)) by omega, if_true, show (0 : Int) ≤ (kk : Int) by omega, show ((kk : Int) < ((c + b + 1 : Nat) : Int)) by omega, vrow_rd (show kk < c + b + 1 by omega)]
      rw [ow_one] at h1
      exact h1
  unfold F81.f
  simp only [hlf, hlg, show ¬ (((c + b + 1 : Nat) : Int) = 0) by omega, if_false, show ¬ (((c + b + 1 : Nat) : Int) < ((c + 1 : Nat) : Int)) by omega]
  exact outer (b + 1) 0 (by omega) (by omega)
theorem l02Reciprocal_ev (a : Int) (l : List (List Int)) (h : isG a l = true) : Ev (fun k => F82.f k a l) (trimN (cpL (2 * l.length) (eA l)) (2 * l.length + 1)) := by
  have hl := isG_len h
  unfold F82.f
  refine Ev.bind (l02Matrix_ev a l hl (isG_two h)) ?_
  rw [edgeM_vmat]
  have h1 := berkowitz_ev (2 * l.length) (by omega) (eA l)
  rw [show vrow (2 * l.length + 1) (fun m => wrap64 (la_cp (2 * l.length) (eA l) m)) = cpL (2 * l.length) (eA l) from vrow_congr fun k hk => by
    have := isG_cp h k (by omega)
    exact w64 (by omega) (by omega)] at h1
  exact Ev.bind h1 (Ev.now _)
theorem isG_of {n : Nat} {l : List (List Int)} (h1 : 1 ≤ n) (h8 : n ≤ 8) (hl : l.length ≤ 10) (hE : endsIn n l) : isG (n : Int) l = true := by
  unfold isG
  simp only [Bool.and_eq_true, decide_eq_true_eq, List.all_eq_true]
  refine ⟨by omega, by omega, hl, fun x hx => ?_⟩
  obtain ⟨i, hi, rfl⟩ := List.getElem_of_mem hx
  obtain ⟨h2, u, v, hu, hv, hun, hvn⟩ := hE i hi
  rw [rdL1_nat l i hi] at h2 hu hv
  unfold edgeIn endIn
  rw [hu, hv, w64 (show -9223372036854775808 ≤ (n : Int) - 1 by omega) (by omega)]
  simp only [Bool.and_eq_true, decide_eq_true_eq]
  omega
/-- Both quotients, where the derived graph is a graph. -/
theorem quot_both {n m : Nat} {l t : List (List Int)} (hn1 : 1 ≤ n) (hn8 : n ≤ 8) (hm1 : 1 ≤ m) (hm4 : m ≤ 4) (hg : isG (n : Int) l = true) (hlt : t.length = l.length) (hE : endsIn n l) (ho : ∀ x ∈ t, isOrd m x = true) (hA : n * m ≤ 8) (hD : l.length * m ≤ 10) :
    ∃ (r : List Int) (B : Bool), r.length ≤ 1048576 ∧
      Ev (fun k => (F82.f k ((n * m : Nat) : Int) (derL m l t l.length)).bind fun x => (F82.f k n l).bind fun y => (F81.f k x y).bind fun z => some (z.1, (0 : Int))) (r, 0) ∧
      Ev (fun k => (F86.f k ((n * m : Nat) : Int) (derL m l t l.length)).bind fun x => (F86.f k n l).bind fun y => (F85.f k x y).bind fun z => some (z.1, z.2)) (r, 0) := by
  obtain ⟨d, rfl⟩ : ∃ d, m = d + 1 := ⟨m - 1, by omega⟩
  have hDE := derL_ends hn8 hm4 hE hlt ho
  have b1 : 1 * 1 ≤ n * (d + 1) := Nat.mul_le_mul hn1 hm1
  have hlen := derL_length (d + 1) l t l.length
  have hgD : isG ((n * (d + 1) : Nat) : Int) (derL (d + 1) l t l.length) = true := isG_of (by omega) hA (by omega) hDE
  have hes : ∀ e i, e < 2 * l.length → i < d + 1 → esD t e i < d + 1 := fun e i he hi => by
    have h1 := sheet_at (p := 2 * l.length) i he
    have h3 : (i + 1) * (2 * l.length) ≤ (d + 1) * (2 * l.length) := Nat.mul_le_mul_right _ hi
    rw [Nat.succ_mul] at h3
    have hN : (d + 1) * (2 * l.length) = 2 * (l.length * (d + 1)) := by rw [Nat.mul_comm, Nat.mul_assoc]
    obtain ⟨_, _, _, _, _, _, _, h2⟩ := der_ends hn8 hm4 hE hlt ho (i * (2 * l.length) + e) (by omega)
    rw [h1.1, h1.2] at h2
    exact h2
  have hb := both_bound (n := d + 1) (d := d) (N := n) rfl hm4 hn8 hD hE hlt ho hes
  have hdet := der_det hn8 hm4 hE hlt ho
  have hNN : 2 * (derL (d + 1) l t l.length).length = 2 * l.length + d * (2 * l.length) := by
    rw [hlen, ← Nat.mul_assoc, Nat.mul_succ, Nat.add_comm, Nat.mul_comm d]
  have hmul := cp_mul (N := 2 * (derL (d + 1) l t l.length).length) (p := 2 * l.length) (q := d * (2 * l.length)) hNN hdet
  have hl20 : 2 * l.length + d * (2 * l.length) ≤ 20 := by rw [← hNN, hlen]; omega
  generalize hgf : la_cp (2 * l.length) (eA l) = g at hb hmul
  generalize hhf : la_cp (d * (2 * l.length)) (resR l t) = h at hb hmul
  have hgz : ∀ k, 2 * l.length < k → g k = 0 := fun k hk => by rw [← hgf]; exact la_dc_top _ _ k hk
  have hhz : ∀ k, d * (2 * l.length) < k → h k = 0 := fun k hk => by rw [← hhf]; exact la_dc_top _ _ k hk
  have hg0 : g 0 = 1 := by rw [← hgf]; exact la_cp_zero _ _
  have hh0 : h 0 = 1 := by rw [← hhf]; exact la_cp_zero _ _
  obtain ⟨c, hc, hgc, hgt⟩ := deg_ex (f := g) (by rw [hg0]; decide) _ hgz
  obtain ⟨b, hbb, hhb, hht⟩ := deg_ex (f := h) (by rw [hh0]; decide) _ hhz
  have hB : ∀ k, la_sm (k + 1) (fun i => la_ab (g i * h (k - i))) ≤ 1000000000000000 := cv_bound hgz hhz hb
  have hB2 : ∀ k, la_sm (k + 1) (fun i => la_ab (h i * g (k - i))) ≤ 1000000000000000 := cv_bound hhz hgz (by rw [Int.mul_comm]; exact hb)
  have eg : trimN (cpL (2 * l.length) (eA l)) (2 * l.length + 1) = vrow (c + 1) g := by
    rw [show cpL (2 * l.length) (eA l) = vrow (2 * l.length + 1) g from by rw [← hgf]; rfl]
    exact trim_top hc hgc hgt
  have ef : trimN (cpL (2 * (derL (d + 1) l t l.length).length) (eA (derL (d + 1) l t l.length))) (2 * (derL (d + 1) l t l.length).length + 1) = vrow (c + b + 1) (cv g h) := by
    rw [show cpL (2 * (derL (d + 1) l t l.length).length) (eA (derL (d + 1) l t l.length)) = vrow (2 * (derL (d + 1) l t l.length).length + 1) (cv g h) from vrow_congr fun k _ => hmul k]
    exact trim_top (by omega) (by rw [cv_last hgt hht]; exact Int.mul_ne_zero hgc hhb) (fun k hk => cv_zeros hgt hht k hk)
  obtain ⟨B, hdiv⟩ := l01Divide_ev (g := g) (h := h) (c := c) (b := b) (by omega) hg0 hgt hht hhb hB
  have hdw := divideWhole_ev (g := g) (h := h) (c := c) (b := b) (by omega) hg0 hh0 hgt hht hgc hhb hB hB2
  refine ⟨vrow (b + 1) h, B, by rw [vrow_length]; omega, ?_, ?_⟩
  · have h1 := l02Reciprocal_ev _ _ hgD
    have h2 := l02Reciprocal_ev _ _ hg
    rw [ef] at h1
    rw [eg] at h2
    exact Ev.bind h1 (Ev.bind h2 (Ev.bind hdiv (Ev.now _)))
  · have h1 := reciprocal_ev _ _ hgD
    have h2 := reciprocal_ev _ _ hg
    rw [ef] at h1
    rw [eg] at h2
    exact Ev.bind h1 (Ev.bind h2 (Ev.bind hdw (Ev.now _)))
theorem main_FnExactQuotientOfCover (a : Int) (l : List (List Int)) (s : Int) (t : List (List Int)) (_ : (Lit.int .i64 a).wf = true) (hl : l.length ≤ maxLen) (_ : ∀ x ∈ l, x.length ≤ maxLen ∧ ∀ n ∈ x, (Lit.int .i64 n).wf = true) (_ : (Lit.int .i64 s).wf = true) (ht : t.length ≤ maxLen) (hty : ∀ x ∈ t, x.length ≤ maxLen ∧ ∀ n ∈ x, (Lit.int .i64 n).wf = true) :
    ∃ (r : List Int) (c : Int), Ev (fun k => F15.f k a l s t) (r, c) ∧ Ev (fun k => F17.f k a l s t) (r, c) ∧ r.length ≤ 1048576 := by
  have hx : ∀ x ∈ t, x.length ≤ maxLen := fun x h => (hty x h).1
  have bad : ∀ c : Int, c ≠ 0 → Ev (fun k => F80.f k a l s t) (0, [], c) → Ev (fun k => F84.f k a l s t) (0, [], c) → ∃ (r : List Int) (c : Int), Ev (fun k => F15.f k a l s t) (r, c) ∧ Ev (fun k => F17.f k a l s t) (r, c) ∧ r.length ≤ 1048576 := fun c hc h1 h2 => by
    refine ⟨[], c, ?_, ?_, by simp⟩
    · unfold F15.f
      refine Ev.bind h1 ?_
      simp only [if_neg hc]
      exact Ev.now _
    · unfold F17.f
      refine Ev.bind h2 ?_
      simp only [if_neg hc]
      exact Ev.now _
  cases h : isCov a l s t with
  | false =>
    refine bad 1 (by decide) ?_ ?_
    · unfold F80.f
      refine Ev.bind (l04Is_ev a l s t hl ht) ?_
      rw [h]
      simp only [Bool.false_eq_true, if_false]
      exact Ev.now _
    · unfold F84.f
      refine Ev.bind (isCover_ev a l s t hl ht hx) ?_
      rw [h]
      simp only [Bool.false_eq_true, if_false]
      exact Ev.now _
  | true =>
    obtain ⟨n, m, rfl, rfl, hn1, hn8, hm1, hm4, hg, hlt, hE, ho⟩ := isCov_open h
    have hl10 := isG_len hg
    have hs := spec_der_ev m hm4 n l t (by omega) hlt (isG_two hg) (fun x hx => ((isOrd_iff m x).1 (ho x hx)).1)
    have hi := impl_der_ev m hm4 n l t (by omega) hlt (isG_two hg) (fun x hx => ((isOrd_iff m x).1 (ho x hx)).1)
    have b : n * m ≤ 8 * 4 := Nat.mul_le_mul hn8 hm4
    have e1 : wrap64 ((n : Int) * (m : Int)) = ((n * m : Nat) : Int) := by
      rw [show (n : Int) * (m : Int) = ((n * m : Nat) : Int) by simp]
      exact w64 (by omega) (by omega)
    rw [e1] at hs hi
    have hspec : ∀ R : Int × List (List Int) × Int, Ev (fun _ => if ((n * m : Nat) : Int) > 8 then some (0, [], 3) else if ((derL m l t l.length).length : Int) > 10 then some (0, [], 3) else some (((n * m : Nat) : Int), derL m l t l.length, 0)) R → Ev (fun k => F80.f k n l m t) R := by
      intro R hR
      unfold F80.f
      refine Ev.bind (l04Is_ev n l m t hl ht) ?_
      rw [h]
      simp only [if_true]
      exact Ev.bind hs hR
    have himpl : ∀ R : Int × List (List Int) × Int, Ev (fun _ => if ((n * m : Nat) : Int) > 8 then some (0, [], 3) else if ((derL m l t l.length).length : Int) > 10 then some (0, [], 3) else some (((n * m : Nat) : Int), derL m l t l.length, 0)) R → Ev (fun k => F84.f k n l m t) R := by
      intro R hR
      unfold F84.f
      refine Ev.bind (isCover_ev n l m t hl ht hx) ?_
      rw [h]
      simp only [if_true]
      exact Ev.bind hi hR
    by_cases h8 : ((n * m : Nat) : Int) > 8
    · exact bad 3 (by decide) (hspec _ (by simp only [h8, if_true]; exact Ev.now _)) (himpl _ (by simp only [h8, if_true]; exact Ev.now _))
    · by_cases h10 : ((derL m l t l.length).length : Int) > 10
      · exact bad 3 (by decide) (hspec _ (by simp only [h8, h10, if_false, if_true]; exact Ev.now _)) (himpl _ (by simp only [h8, h10, if_false, if_true]; exact Ev.now _))
      · have h1 := hspec _ (by simp only [h8, h10, if_false]; exact Ev.now _)
        have h2 := himpl _ (by simp only [h8, h10, if_false]; exact Ev.now _)
        obtain ⟨r, B, hr, q1, q2⟩ := quot_both hn1 hn8 hm1 hm4 hg hlt hE ho (by omega) (by rw [derL_length] at h10; omega)
        refine ⟨r, 0, ?_, ?_, hr⟩
        · unfold F15.f
          refine Ev.bind h1 ?_
          simp only [if_true]
          exact q1
        · unfold F17.f
          refine Ev.bind h2 ?_
          simp only [if_true]
          exact q2


end Go.Proofs.Ytoebojnhchocaaa.A
namespace Go.Proofs.Ytoebojnhchocaaa.Pure
open Go.RowKit Go.Proofs.YtoebojnhchocaaaW.PrintWords Go.Proofs.YtoebojnhchocaaaW.PrintLast Go.Proofs.YtoebojnhchocaaaW.PrintMore Go.Proofs.Ytoebojnhchocaaa.A
theorem FnExactQuotientOfCover : laws_FnExactQuotientOfCover.Pure := by
  intro a0 l0 s0 t0 w0 hm0 hx0 ws0 hmt0 hxt0 
  have hy0 : ∀ x ∈ l0, x.length ≤ maxLen := fun x h => (hx0 x h).1
  have hyt0 : ∀ x ∈ t0, x.length ≤ maxLen := fun x h => (hxt0 x h).1
  obtain ⟨z0, ez0, z03⟩ := szCover_ev a0 l0 s0 t0 hm0 hy0 hmt0 hyt0
  by_cases hn0 : z0 < 0
  · obtain ⟨k, hk⟩ := Ev.rounds ez0
    exact Or.inl ⟨k, z0, hn0, hk⟩
  · refine Or.inr ?_
    obtain ⟨⟨hl0, hs0⟩, hlt0, hst0⟩ := z03 (by omega)
    obtain ⟨r0l, r1a, es, ei, br0l⟩ := main_FnExactQuotientOfCover a0 l0 s0 t0 w0 hm0 hx0 ws0 hmt0 hxt0
    have tt0 := tot_small l0 hl0 hs0
    have ttt0 := tot_small t0 hlt0 hst0
    obtain ⟨k0, eFG0⟩ := toCover_ev a0 l0 s0 t0 hl0 hs0 hlt0 hst0
    obtain ⟨k1, eFQ0⟩ := eqCover_ev a0 l0 s0 t0 hm0 hy0 hmt0 hyt0
    obtain ⟨k2, eFZ0⟩ := ez0
    obtain ⟨k3, eFS⟩ := es
    obtain ⟨k4, eFI⟩ := ei
    obtain ⟨k5, eFE0⟩ := eqInt64S_ev r0l (Nat.le_trans br0l (by unfold maxLen; omega))
    obtain ⟨k6, eFM0l⟩ := markInt64SS_ev l0 (1) hl0 hs0 (by omega) (by omega)
    obtain ⟨k7, eFM0t⟩ := markInt64SS_ev t0 (1 + (tot l0 : Int)) hlt0 hst0 (by omega) (by omega)
    obtain ⟨k8, eFN0l⟩ := markInt64S_ev r0l (1) br0l (by omega) (by omega)
    obtain ⟨k9, eFH0⟩ := heldInt64S_ev r0l.length (1) br0l (by omega) (by omega)
    exact ⟨k0 + k1 + k2 + k3 + k4 + k5 + k6 + k7 + k8 + k9, z0, r0l, r1a, 1 + (tot l0 : Int), mkSS l0 (1), 1 + (tot l0 : Int) + (tot t0 : Int), mkSS t0 (1 + (tot l0 : Int)), 1 + (r0l.length : Int), mkS r0l.length (1), by omega, by omega, by omega, eFG0 _ (by omega), eFQ0 _ (by omega), eFZ0 _ (by omega), eFS _ (by omega), eFI _ (by omega), eFE0 _ (by omega), eFM0l _ (by omega), eFM0t _ (by omega), eFN0l _ (by omega), eFH0 _ (by omega)⟩

end Go.Proofs.Ytoebojnhchocaaa.Pure
