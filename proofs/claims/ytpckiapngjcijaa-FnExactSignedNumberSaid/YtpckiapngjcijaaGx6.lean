/- The functions that one law reaches, each as a Lean function, and that Go's call comes to what it says. Condition of each: that the Lean function answers (is not none). -/
import Derived.Test.YtpckiapngjcijaaGx0
import Derived.Test.YtpckiapngjcijaaGx5
namespace Go.Proofs.Ytpckiapngjcijaa.G
open Go.RowKit Go.Proofs.YtpckiapngjcijaaW.PrintWords Go.Proofs.YtpckiapngjcijaaW.PrintLast Go.Proofs.YtpckiapngjcijaaW.PrintMore
attribute [local go_sem] max2_int min2_int max_two min_two max_three min_three max_four min_four   -- for this text's walks alone
set_option linter.unusedVariables false
set_option linter.unusedSimpArgs false

/-! ### spec_l10Signed: function 105 -/
mutual
def spec_l10Signed.l0 : Nat → List Int → List (List Int) → Int → Int → List (List Int) → Option ((List (List Int)))
  | 0, _, _, _, _, _ => none
  | k + 1, x1, x5, x6, x102000, x102001 => if x6 < x102000 then (if 0 ≤ x102000 then (if (x102000 : Int).toNat ≤ 35184372088832 then ((some (List.replicate (x102000 : Int).toNat 0 : List Int)).bind fun y105 => ((spec_l01Degree.f k x102000 x102001 x6).bind fun t108 => (if 0 ≤ x6 then (if x6 < (y105.length : Int) then (if x5.length < 5864062014805 then (spec_l10Signed.l0 k x1 (x5 ++ [(y105.set (x6 : Int).toNat t108)]) (wrap64 (x6 + 1)) x102000 x102001) else (none)) else (none)) else (none)))) else (none)) else (none)) else (spec_l10Signed.l1 k x1 x5 0 x102000 x102001)
def spec_l10Signed.l1 : Nat → List Int → List (List Int) → Int → Int → List (List Int) → Option ((List (List Int)))
  | 0, _, _, _, _, _ => none
  | k + 1, x1, x5, x8, x102000, x102001 => if x8 < (x102001.length : Int) then (if 0 ≤ x8 then (if 0 < ((rd_L1 x102001 x8).length : Int) then (if 1 < ((rd_L1 x102001 x8).length : Int) then (if 0 ≤ (rd (rd_L1 x102001 x8) 0) then (if (rd (rd_L1 x102001 x8) 0) < (x5.length : Int) then (if 0 ≤ (rd (rd_L1 x102001 x8) 1) then (if (rd (rd_L1 x102001 x8) 1) < ((rd_L1 x5 (rd (rd_L1 x102001 x8) 0)).length : Int) then (if x8 < (x1.length : Int) then ((some (x5.set ((rd (rd_L1 x102001 x8) 0) : Int).toNat ((rd_L1 x5 (rd (rd_L1 x102001 x8) 0)).set ((rd (rd_L1 x102001 x8) 1) : Int).toNat (wrap64 ((rd (rd_L1 x5 (rd (rd_L1 x102001 x8) 0)) (rd (rd_L1 x102001 x8) 1)) - (rd x1 x8)))) : List (List Int))).bind fun y122 => (if (rd (rd_L1 x102001 x8) 1) < (x5.length : Int) then (if (rd (rd_L1 x102001 x8) 0) < ((rd_L1 y122 (rd (rd_L1 x102001 x8) 1)).length : Int) then (spec_l10Signed.l1 k x1 (y122.set ((rd (rd_L1 x102001 x8) 1) : Int).toNat ((rd_L1 y122 (rd (rd_L1 x102001 x8) 1)).set ((rd (rd_L1 x102001 x8) 0) : Int).toNat (wrap64 ((rd (rd_L1 y122 (rd (rd_L1 x102001 x8) 1)) (rd (rd_L1 x102001 x8) 0)) - (rd x1 x8))))) (wrap64 (x8 + 1)) x102000 x102001) else (none)) else (none))) else (none)) else (none)) else (none)) else (none)) else (none)) else (none)) else (none)) else (none)) else (some x5)
end
def spec_l10Signed.f (k : Nat) (a0_0 : Int) (l0_1 : List (List Int)) (l1 : List Int) : Option ((List (List Int))) := spec_l10Signed.l0 k l1 (([] : List (List Int))) 0 a0_0 l0_1
theorem spec_l10Signed.mono_l : ∀ k, (∀ y0 y1 y2 y3 y4, LeO (spec_l10Signed.l0 k y0 y1 y2 y3 y4) (spec_l10Signed.l0 (k + 1) y0 y1 y2 y3 y4)) ∧ (∀ y0 y1 y2 y3 y4, LeO (spec_l10Signed.l1 k y0 y1 y2 y3 y4) (spec_l10Signed.l1 (k + 1) y0 y1 y2 y3 y4))
  | 0 => ⟨fun _ _ _ _ _ r h => by simp [spec_l10Signed.l0] at h, fun _ _ _ _ _ r h => by simp [spec_l10Signed.l1] at h⟩
  | k + 1 => by
    obtain ⟨ih0, ih1⟩ := spec_l10Signed.mono_l k
    refine ⟨?_, ?_⟩
    · intro y0 y1 y2 y3 y4
      unfold spec_l10Signed.l0
      repeat' first
      | (with_reducible exact ih0 _ _ _ _ _)
      | (with_reducible exact ih1 _ _ _ _ _)
      | (with_reducible exact spec_l01Degree.mono _ _ _ _)
      | (with_reducible exact LeO.refl _)
      | (with_reducible exact LeO.none _)
      | (with_reducible refine LeO.ite ?_ ?_)
      | (with_reducible refine LeO.bind ?_ (fun _ => ?_))
      | exact ih0 _ _ _ _ _
      | exact ih1 _ _ _ _ _
      | exact spec_l01Degree.mono _ _ _ _
      | exact LeO.none _
      | refine LeO.ite ?_ ?_
      | refine LeO.bind ?_ (fun _ => ?_)
    · intro y0 y1 y2 y3 y4
      unfold spec_l10Signed.l1
      repeat' first
      | (with_reducible exact ih0 _ _ _ _ _)
      | (with_reducible exact ih1 _ _ _ _ _)
      | (with_reducible exact spec_l01Degree.mono _ _ _ _)
      | (with_reducible exact LeO.refl _)
      | (with_reducible exact LeO.none _)
      | (with_reducible refine LeO.ite ?_ ?_)
      | (with_reducible refine LeO.bind ?_ (fun _ => ?_))
      | exact ih0 _ _ _ _ _
      | exact ih1 _ _ _ _ _
      | exact spec_l01Degree.mono _ _ _ _
      | exact LeO.none _
      | refine LeO.ite ?_ ?_
      | refine LeO.bind ?_ (fun _ => ?_)
theorem spec_l10Signed.mono : ∀ a0 a1 a2 k, LeO (spec_l10Signed.f k a0 a1 a2) (spec_l10Signed.f (k + 1) a0 a1 a2) := by
  intro a0 a1 a2 k
  obtain ⟨ih0, ih1⟩ := spec_l10Signed.mono_l k
  unfold spec_l10Signed.f
  repeat' first
      | (with_reducible exact ih0 _ _ _ _ _)
      | (with_reducible exact ih1 _ _ _ _ _)
      | (with_reducible exact spec_l01Degree.mono _ _ _ _)
      | (with_reducible exact LeO.refl _)
      | (with_reducible exact LeO.none _)
      | (with_reducible refine LeO.ite ?_ ?_)
      | (with_reducible refine LeO.bind ?_ (fun _ => ?_))
      | exact ih0 _ _ _ _ _
      | exact ih1 _ _ _ _ _
      | exact spec_l01Degree.mono _ _ _ _
      | exact LeO.none _
      | refine LeO.ite ?_ ?_
      | refine LeO.bind ?_ (fun _ => ?_)
def spec_l10Signed.T11 : Bool × List (List Nat × List Nat) := (true, [([], []), ([0], [0]), ([], []), ([1, 2], [1, 2]), ([3], [3]), ([4], [4]), ([5], [5]), ([], []), ([7], [7]), ([], []), ([8, 9], [8, 9]), ([10], [10]), ([11], [11]), ([12], [12]), ([6, 0, 1, 2, 3, 4, 5, 6], [6]), ([13, 14, 0, 1, 2, 3, 4, 5, 6, 7, 8, 9, 10, 11, 12, 13, 14], [13])])
def spec_l10Signed.B11 : List Nat := [0, 1, 0, 7, 15, 31, 63, 0, 128, 0, 896, 1920, 3968, 8064, 127, 32767]
theorem spec_l10Signed.tab11 : rtab .any (opsOf Try.f105 11) = spec_l10Signed.T11 := by kernel_rfl
theorem spec_l10Signed.bits11 : waitsOk spec_l10Signed.T11.2 spec_l10Signed.B11 = true := by kernel_rfl
def spec_l10Signed.T13 : Bool × List (List Nat × List Nat) := (true, [([], []), ([], []), ([], []), ([], []), ([2, 3], [2, 3]), ([4], [4]), ([], []), ([], []), ([6, 7], [6, 7]), ([8], [8]), ([5, 9], [5, 9]), ([0, 1, 0, 1, 2, 3, 4, 5, 6, 7, 8, 9, 10], [0, 1]), ([11, 10, 0, 1, 2, 3, 4, 5, 6, 7, 8, 9, 10], [10, 11])])
def spec_l10Signed.B13 : List Nat := [0, 0, 0, 0, 12, 28, 0, 0, 192, 448, 1020, 2047, 4095]
theorem spec_l10Signed.tab13 : rtab .any (opsOf Try.f105 13) = spec_l10Signed.T13 := by kernel_rfl
theorem spec_l10Signed.bits13 : waitsOk spec_l10Signed.T13.2 spec_l10Signed.B13 = true := by kernel_rfl
def spec_l10Signed.T15 : Bool × List (List Nat × List Nat) := (true, [([], []), ([], []), ([], []), ([], []), ([2, 3], [2, 3]), ([4], [4]), ([], []), ([], []), ([6, 7], [6, 7]), ([8], [8]), ([5, 9], [5, 9]), ([0, 1, 0, 1, 2, 3, 4, 5, 6, 7, 8, 9, 10], [0, 1]), ([11, 10, 0, 1, 2, 3, 4, 5, 6, 7, 8, 9, 10], [10, 11])])
def spec_l10Signed.B15 : List Nat := [0, 0, 0, 0, 12, 28, 0, 0, 192, 448, 1020, 2047, 4095]
theorem spec_l10Signed.tab15 : rtab .any (opsOf Try.f105 15) = spec_l10Signed.T15 := by kernel_rfl
theorem spec_l10Signed.bits15 : waitsOk spec_l10Signed.T15.2 spec_l10Signed.B15 = true := by kernel_rfl
set_option maxHeartbeats 8000000 in
set_option maxRecDepth 100000 in
theorem spec_l10Signed.calls (k : Nat) (a0_0 : Int) (A0_1 : Option Addr) (c0_1 : Nat) (l0_1 : List (List Int)) (A1 : Option Addr) (c1 : Nat) (l1 : List Int) (r : List (List Int)) (w : World) (hr0_1 : Kd.C (Kd.slice 2 (Kd.int .i64)) w A0_1 l0_1.length l0_1) (hc0_1 : l0_1.length ≤ c0_1) (hr1 : Kd.C (Kd.int .i64) w A1 l1.length l1) (hc1 : l1.length ≤ c1) (h : spec_l10Signed.f k a0_0 l0_1 l1 = some r) :
    Calls Try.prog 105 #[.agg #[.int .i64 a0_0, .slice A0_1 l0_1.length c0_1], .slice A1 l1.length c1] w fun e w' => ∃ v0_ : Value, e = .returned (v0_) ∧ Kd.S (Kd.slice 2 (Kd.int .i64)) 43 w' w.heap.size (fun _ => True) v0_ r ∧ Below w.heap.size w w' := by
  have hu26 := Try.underlying26
  have HR0_1 := Aside0.mk hr0_1
  have HC0_1 := Aside0.mk hc0_1
  clear hr0_1 hc0_1
  have HR1 := Aside0.mk hr1
  have HC1 := Aside0.mk hc1
  clear hr1 hc1
  have HB := Aside0.mk (Below.refl w.heap.size w)
  have H : (spec_l10Signed.l0 k l1 (([] : List (List Int))) 0 a0_0 l0_1) = some r := h
  clear h
  obtain ⟨y102, hy102⟩ : ∃ y_ : List (List Int), y_ = (([] : List (List Int))) := ⟨_, rfl⟩
  replace H : (spec_l10Signed.l0 k l1 y102 0 a0_0 l0_1) = some r := by first | (rw [hy102]; with_reducible exact H) | (have H2_ := (Option.bind_some _ _).symm.trans H; rw [hy102]; with_reducible exact H2_) | (have H2_ := (Option.bind_some _ _).symm.trans H; with_reducible exact H2_) | with_reducible exact H | (rw [hy102]; exact H) | exact H
  have Ny102 := Aside0.mk hy102
  clear hy102
  have H' := Aside0.mk H
  clear H
  go_enter Try.func105, Try.ntmps105
  go_wp2_with (first | ((with_reducible refine gate_dst (N := 2) rfl ?_); refine box_event ?hg (N := 2) ?hd (cs := #[.int .i64 a0_0, .slice A0_1 l0_1.length c0_1]) (t := 26) ?hr ?_; (case hd => rfl); (case hg => rfl); (case hr => first | (go_simp; done) | (go_simp; rfl)); intro gb101 hg w3 hbox hb; have n0_ := Aside0.mk (below_step bl hb); have n1_ := Aside0.mk (hbox); have n2_ := Aside0.mk ((by rw [hg]; exact (below_size bl) : w.heap.size ≤ gb101)); have n3_ := Aside0.mk ((by rw [hg]; exact (below_size bl) : w.heap.size ≤ gb101)); clear HB; have HB := n0_; have BK101 := n1_; have GW101 := n2_; have GE101 := n3_; clear n0_ n1_ n2_ n3_; clear hb hbox hg) | ((with_reducible refine gate_dst (N := 13) rfl ?_); refine Kd.S_lit (Kd.slice 2 (Kd.int .i64)) _ 43 ?hg (N := 13) ?hd (xs := ([] : List (List Int))) (inner := []) (ok := fun _ => True) (okp := fun _ => True) ?hr ?hp (fun _ hk => hk) trivial (Below.refl _ _) (Nat.le_refl _) (by simp) ?_; (case hd => rfl); (case hg => rfl); (case hr => first | (go_simp; done) | (go_simp; rfl)); (case hp => exact (Reps.none _ _)); intro v103 w4 ho5 hb hg_ hnew_; clear hg_ hnew_; (first | rw [← Ny102.out] at ho5 | (simp only [Int.reduceToNat] at ho5; rw [← Ny102.out] at ho5)); have n0_ := Aside0.mk (Kd.S_lower ho5 (below_size bl)); have n1_ := Aside0.mk (blk_below (g := gb101) (o := .cells #[.int .i64 a0_0, .slice A0_1 l0_1.length c0_1] 26 (0, 0)) bk hb); have n2_ := Aside0.mk (below_step bl hb); clear BK101; clear HB; have HO104 := n0_; have BK101 := n1_; have HB := n2_; clear n0_ n1_ n2_; clear hb ho5))
  go_loopg [5, 6] k (fun kq v5 v6 w' => ∃ (x5_1 : List (List Int)) (x6_1 : Int), v6 = .int .i64 x6_1 ∧ Aside0 (spec_l10Signed.l0 kq l1 x5_1 x6_1 a0_0 l0_1 = some r) ∧ Aside0 (kq ≤ k) ∧ Aside0 (Kd.S (Kd.slice 2 (Kd.int .i64)) 43 w' w.heap.size (fun _ => True) v5 x5_1) ∧ Aside0 (w'.heap[gb101]? = some (.cells #[.int .i64 a0_0, (.slice A0_1 l0_1.length c0_1)] 26 (0, 0))) ∧ Aside0 (Below w.heap.size w w'))
  case atStart => exact ⟨(y102), (0), rs, H', ⟨Nat.le_refl _⟩, ⟨by (with_reducible repeat (first | apply Kd.S_alloc | apply Kd.S_drewN | apply Kd.S_drew)); exact HO104.out⟩, ⟨bk⟩, ⟨bl⟩⟩
  case round =>
    clear H'
    (try clear c1); (try clear p2)
    obtain ⟨x5_1, x6_1, rfl, HA, HK1, HO_5, BK101, HB⟩ := hrel
    cases gk with
    | zero => exact absurd HA.out (by simp [spec_l10Signed.l0])
    | succ k1 =>
      have H := HA.out
      clear HA
      simp only [spec_l10Signed.l0] at H
      by_cases c6 : x6_1 < a0_0
      case neg =>
        rw [if_neg c6] at H
        have c6b0 : decide (x6_1 < a0_0) = false := decide_eq_false c6
        clear c6
        have H' := Aside0.mk H
        clear H
        have hcz22_0 : wr.cell? ⟨gb101, 0, none⟩ = some (.int .i64 a0_0) := (blk_cell BK101.out 0).trans rfl
        have hcz22_1 : wr.cell? ⟨gb101, 1, none⟩ = some (.slice A0_1 l0_1.length c0_1) := (blk_cell BK101.out 1).trans rfl
        have hfz22_0 := blk_frozen BK101.out 0
        have hfz22_1 := blk_frozen BK101.out 1
        go_wp2
        go_loopg [8] k1 (fun kq v8 w' => ∃ (x5_2 : List (List Int)) (x8_2 : Int), v8 = .int .i64 x8_2 ∧ Aside0 (spec_l10Signed.l1 kq l1 x5_2 x8_2 a0_0 l0_1 = some r) ∧ Aside0 (kq ≤ k1) ∧ Aside0 (Kd.S (Kd.slice 2 (Kd.int .i64)) 43 w' w.heap.size (fun _ => True) u5 x5_2) ∧ Aside0 (w'.heap[gb101]? = some (.cells #[.int .i64 a0_0, (.slice A0_1 l0_1.length c0_1)] 26 (0, 0))) ∧ Aside0 (Below w.heap.size w w'))
        case atStart => exact ⟨(x5_1), (0), rs, H', ⟨Nat.le_refl _⟩, ⟨by (with_reducible repeat (first | apply Kd.S_alloc | apply Kd.S_drewN | apply Kd.S_drew)); exact HO_5.out⟩, ⟨bk⟩, ⟨bl⟩⟩
        case round =>
          clear H'
          (try clear c1); (try clear p1); (try clear q1); (try clear hx1); (try clear p2); (try clear c6); (try clear c6b0); (try clear p6); (try clear c7); (try clear c7b0); (try clear c7b1); (try clear c8); (try clear c8b0); (try clear c8b1); (try clear c10); (try clear c10b0); (try clear c11); (try clear c11b0); (try clear p12); (try clear q12); (try clear hx12); (try clear hf12); (try clear c13); (try clear hcz14_0); (try clear hcz14_1); (try clear hcz17_0); (try clear hcz17_1); (try clear hcz22_0); (try clear hcz22_1); (try clear hfz14_0); (try clear hfz14_1); (try clear hfz17_0); (try clear hfz17_1); (try clear hfz22_0); (try clear hfz22_1); (try clear hx12_0); (try clear p12); (try clear p2); (try clear q12)
          obtain ⟨x5_2, x8_2, rfl, HA, HK2, HO_5, BK101, HB⟩ := hrel
          cases gk with
          | zero => exact absurd HA.out (by simp [spec_l10Signed.l1])
          | succ k2 =>
            have H := HA.out
            clear HA
            simp only [spec_l10Signed.l1] at H
            by_cases c23 : x8_2 < (l0_1.length : Int)
            case neg =>
              rw [if_neg c23] at H
              have c23b0 : decide (x8_2 < (l0_1.length : Int)) = false := decide_eq_false c23
              clear c23
              obtain rfl := Option.some.inj H
              have hcz46_0 : wr.cell? ⟨gb101, 0, none⟩ = some (.int .i64 a0_0) := (blk_cell BK101.out 0).trans rfl
              have hcz46_1 : wr.cell? ⟨gb101, 1, none⟩ = some (.slice A0_1 l0_1.length c0_1) := (blk_cell BK101.out 1).trans rfl
              have hfz46_0 := blk_frozen BK101.out 0
              have hfz46_1 := blk_frozen BK101.out 1
              go_wp2
              go_ret
              exact ⟨_, by first | rfl | (simp [errW_none, errW_some] <;> rfl) | (simp [*, errW_none, errW_some] <;> rfl), by (with_reducible repeat (first | apply Kd.S_alloc | apply Kd.S_drewN | apply Kd.S_drew)); exact HO_5.out, bl⟩
            rw [if_pos c23] at H
            have c23b0 : decide (x8_2 < (l0_1.length : Int)) = true := decide_eq_true c23
            clear c23
            by_cases c24 : 0 ≤ x8_2
            case neg => rw [if_neg c24] at H; exact absurd H (by simp)
            rw [if_pos c24] at H
            have c24b0 : decide (0 ≤ x8_2) = true := decide_eq_true c24
            clear c24
            by_cases c25 : 0 < ((rd_L1 l0_1 x8_2).length : Int)
            case neg => rw [if_neg c25] at H; exact absurd H (by simp)
            rw [if_pos c25] at H
            have c25b0 : decide (0 < ((rd_L1 l0_1 x8_2).length : Int)) = true := decide_eq_true c25
            have c25b1 : decide (0 < (rd_L1 l0_1 x8_2).length) = true := decide_eq_true (by omega)
            clear c25
            by_cases c26 : 1 < ((rd_L1 l0_1 x8_2).length : Int)
            case neg => rw [if_neg c26] at H; exact absurd H (by simp)
            rw [if_pos c26] at H
            have c26b0 : decide (1 < ((rd_L1 l0_1 x8_2).length : Int)) = true := decide_eq_true c26
            have c26b1 : decide (1 < (rd_L1 l0_1 x8_2).length) = true := decide_eq_true (by omega)
            clear c26
            by_cases c27 : 0 ≤ (rd (rd_L1 l0_1 x8_2) 0)
            case neg => rw [if_neg c27] at H; exact absurd H (by simp)
            rw [if_pos c27] at H
            have c27b0 : decide (0 ≤ (rd (rd_L1 l0_1 x8_2) 0)) = true := decide_eq_true c27
            clear c27
            by_cases c28 : (rd (rd_L1 l0_1 x8_2) 0) < (x5_2.length : Int)
            case neg => rw [if_neg c28] at H; exact absurd H (by simp)
            rw [if_pos c28] at H
            have c28b0 : decide ((rd (rd_L1 l0_1 x8_2) 0) < (x5_2.length : Int)) = true := decide_eq_true c28
            clear c28
            by_cases c29 : 0 ≤ (rd (rd_L1 l0_1 x8_2) 1)
            case neg => rw [if_neg c29] at H; exact absurd H (by simp)
            rw [if_pos c29] at H
            have c29b0 : decide (0 ≤ (rd (rd_L1 l0_1 x8_2) 1)) = true := decide_eq_true c29
            clear c29
            by_cases c30 : (rd (rd_L1 l0_1 x8_2) 1) < ((rd_L1 x5_2 (rd (rd_L1 l0_1 x8_2) 0)).length : Int)
            case neg => rw [if_neg c30] at H; exact absurd H (by simp)
            rw [if_pos c30] at H
            have c30b0 : decide ((rd (rd_L1 l0_1 x8_2) 1) < ((rd_L1 x5_2 (rd (rd_L1 l0_1 x8_2) 0)).length : Int)) = true := decide_eq_true c30
            clear c30
            by_cases c31 : x8_2 < (l1.length : Int)
            case neg => rw [if_neg c31] at H; exact absurd H (by simp)
            rw [if_pos c31] at H
            have c31b0 : decide (x8_2 < (l1.length : Int)) = true := decide_eq_true c31
            clear c31
            obtain ⟨y120, hy120⟩ : ∃ y_ : List Int, y_ = ((rd_L1 x5_2 (rd (rd_L1 l0_1 x8_2) 0)).set ((rd (rd_L1 l0_1 x8_2) 1) : Int).toNat (wrap64 ((rd (rd_L1 x5_2 (rd (rd_L1 l0_1 x8_2) 0)) (rd (rd_L1 l0_1 x8_2) 1)) - (rd l1 x8_2)))) := ⟨_, rfl⟩
            replace H : ((some (x5_2.set ((rd (rd_L1 l0_1 x8_2) 0) : Int).toNat y120 : List (List Int))).bind fun y122 => (if (rd (rd_L1 l0_1 x8_2) 1) < (x5_2.length : Int) then (if (rd (rd_L1 l0_1 x8_2) 0) < ((rd_L1 y122 (rd (rd_L1 l0_1 x8_2) 1)).length : Int) then (spec_l10Signed.l1 k2 l1 (y122.set ((rd (rd_L1 l0_1 x8_2) 1) : Int).toNat ((rd_L1 y122 (rd (rd_L1 l0_1 x8_2) 1)).set ((rd (rd_L1 l0_1 x8_2) 0) : Int).toNat (wrap64 ((rd (rd_L1 y122 (rd (rd_L1 l0_1 x8_2) 1)) (rd (rd_L1 l0_1 x8_2) 0)) - (rd l1 x8_2))))) (wrap64 (x8_2 + 1)) a0_0 l0_1) else (none)) else (none))) = some r := by first | (rw [hy120]; with_reducible exact H) | (have H2_ := (Option.bind_some _ _).symm.trans H; rw [hy120]; with_reducible exact H2_) | (have H2_ := (Option.bind_some _ _).symm.trans H; with_reducible exact H2_) | with_reducible exact H | (rw [hy120]; exact H) | exact H
            have Ny120 := Aside0.mk hy120
            clear hy120
            obtain ⟨y122, hy122⟩ : ∃ y_ : List (List Int), y_ = (x5_2.set ((rd (rd_L1 l0_1 x8_2) 0) : Int).toNat y120) := ⟨_, rfl⟩
            replace H : (if (rd (rd_L1 l0_1 x8_2) 1) < (x5_2.length : Int) then (if (rd (rd_L1 l0_1 x8_2) 0) < ((rd_L1 y122 (rd (rd_L1 l0_1 x8_2) 1)).length : Int) then (spec_l10Signed.l1 k2 l1 (y122.set ((rd (rd_L1 l0_1 x8_2) 1) : Int).toNat ((rd_L1 y122 (rd (rd_L1 l0_1 x8_2) 1)).set ((rd (rd_L1 l0_1 x8_2) 0) : Int).toNat (wrap64 ((rd (rd_L1 y122 (rd (rd_L1 l0_1 x8_2) 1)) (rd (rd_L1 l0_1 x8_2) 0)) - (rd l1 x8_2))))) (wrap64 (x8_2 + 1)) a0_0 l0_1) else (none)) else (none)) = some r := by first | (rw [hy122]; with_reducible exact H) | (have H2_ := (Option.bind_some _ _).symm.trans H; rw [hy122]; with_reducible exact H2_) | (have H2_ := (Option.bind_some _ _).symm.trans H; with_reducible exact H2_) | with_reducible exact H | (rw [hy122]; exact H) | exact H
            have Ny122 := Aside0.mk hy122
            clear hy122
            by_cases c33 : (rd (rd_L1 l0_1 x8_2) 1) < (x5_2.length : Int)
            case neg => rw [if_neg c33] at H; exact absurd H (by simp)
            rw [if_pos c33] at H
            have c33b0 : decide ((rd (rd_L1 l0_1 x8_2) 1) < (x5_2.length : Int)) = true := decide_eq_true c33
            clear c33
            by_cases c34 : (rd (rd_L1 l0_1 x8_2) 0) < ((rd_L1 y122 (rd (rd_L1 l0_1 x8_2) 1)).length : Int)
            case neg => rw [if_neg c34] at H; exact absurd H (by simp)
            rw [if_pos c34] at H
            have c34b0 : decide ((rd (rd_L1 l0_1 x8_2) 0) < ((rd_L1 y122 (rd (rd_L1 l0_1 x8_2) 1)).length : Int)) = true := decide_eq_true c34
            clear c34
            obtain ⟨y126, hy126⟩ : ∃ y_ : List Int, y_ = ((rd_L1 y122 (rd (rd_L1 l0_1 x8_2) 1)).set ((rd (rd_L1 l0_1 x8_2) 0) : Int).toNat (wrap64 ((rd (rd_L1 y122 (rd (rd_L1 l0_1 x8_2) 1)) (rd (rd_L1 l0_1 x8_2) 0)) - (rd l1 x8_2)))) := ⟨_, rfl⟩
            replace H : (spec_l10Signed.l1 k2 l1 (y122.set ((rd (rd_L1 l0_1 x8_2) 1) : Int).toNat y126) (wrap64 (x8_2 + 1)) a0_0 l0_1) = some r := by first | (rw [hy126]; with_reducible exact H) | (have H2_ := (Option.bind_some _ _).symm.trans H; rw [hy126]; with_reducible exact H2_) | (have H2_ := (Option.bind_some _ _).symm.trans H; with_reducible exact H2_) | with_reducible exact H | (rw [hy126]; exact H) | exact H
            have Ny126 := Aside0.mk hy126
            clear hy126
            obtain ⟨y128, hy128⟩ : ∃ y_ : List (List Int), y_ = (y122.set ((rd (rd_L1 l0_1 x8_2) 1) : Int).toNat y126) := ⟨_, rfl⟩
            replace H : (spec_l10Signed.l1 k2 l1 y128 (wrap64 (x8_2 + 1)) a0_0 l0_1) = some r := by first | (rw [hy128]; with_reducible exact H) | (have H2_ := (Option.bind_some _ _).symm.trans H; rw [hy128]; with_reducible exact H2_) | (have H2_ := (Option.bind_some _ _).symm.trans H; with_reducible exact H2_) | with_reducible exact H | (rw [hy128]; exact H) | exact H
            have Ny128 := Aside0.mk hy128
            clear hy128
            have H' := Aside0.mk H
            clear H
            have hcz36_0 : wr.cell? ⟨gb101, 0, none⟩ = some (.int .i64 a0_0) := (blk_cell BK101.out 0).trans rfl
            have hcz36_1 : wr.cell? ⟨gb101, 1, none⟩ = some (.slice A0_1 l0_1.length c0_1) := (blk_cell BK101.out 1).trans rfl
            have hfz36_0 := blk_frozen BK101.out 0
            have hfz36_1 := blk_frozen BK101.out 1
            try go_wp2
            have n0_ := Aside0.mk (Kd.S_drew HO_5.out)
            have n1_ := Aside0.mk (blk_drew BK101.out)
            have n2_ := Aside0.mk (below_drew1 HB.out)
            clear HO_5
            clear BK101
            clear HB
            have HO_5 := n0_
            have BK101 := n1_
            have HB := n2_
            clear n0_ n1_ n2_
            have p113 : 0 ≤ (x8_2 : Int) := oD
            have q113 : x8_2 < (l0_1.length : Int) := oD
            obtain ⟨ad113, A113_0, c113_0, e113, hx113_0, hl113_0, hi113_0⟩ := at_L1 HR0_1.out x8_2 p113 q113
            have hw113_0 := hx113_0
            cases e113
            replace hx113_0 := hbc HB hx113_0
            have HR113_0 := Aside0.mk hi113_0
            have HC113_0 := Aside0.mk hl113_0
            clear hi113_0 hl113_0
            replace p113 := eq_true p113
            replace q113 := eq_true q113
            have p114 : 0 ≤ (0 : Int) := (by omega)
            have q114 : 0 < ((rd_L1 l0_1 x8_2).length : Int) := oD
            obtain ⟨ad114, e114, hx114_0⟩ := Kd.at_int HR113_0.out 0 p114 q114
            have hw114_0 := hx114_0
            (try rw [show ((0 : Int)).toNat = 0 from rfl] at hw114_0)
            (try rw [show 0 * 1 = 0 from rfl] at hw114_0)
            (try rw [Addr.add_zero'] at hw114_0)
            cases e114
            have qi114 : (0 < (rd_L1 l0_1 x8_2).length) = True := eq_true (by omega)
            (try rw [show ((0 : Int)).toNat = 0 from rfl] at hx114_0)
            (try rw [Addr.add_zero'] at hx114_0)
            replace hx114_0 := hbc HB hx114_0
            replace p114 := eq_true p114
            replace q114 := eq_true q114
            have p115 : 0 ≤ (x8_2 : Int) := oD
            have q115 : x8_2 < (l0_1.length : Int) := oD
            obtain ⟨ad115, A115_0, c115_0, e115, hx115_0, hl115_0, hi115_0⟩ := at_L1 HR0_1.out x8_2 p115 q115
            have hw115_0 := hx115_0
            obtain rfl : ad113 = ad115 := (by injection e115)
            replace hx115_0 := hbc HB hx115_0
            have HR115_0 := Aside0.mk hi115_0
            have HC115_0 := Aside0.mk hl115_0
            clear hi115_0 hl115_0
            replace p115 := eq_true p115
            replace q115 := eq_true q115
            have ea_ := Option.some.inj (hx113_0.symm.trans hx115_0)
            injection ea_ with ea_ en_ ec_
            subst ea_
            subst ec_
            clear en_
            have p116 : 0 ≤ (1 : Int) := (by omega)
            have q116 : 1 < ((rd_L1 l0_1 x8_2).length : Int) := oD
            obtain ⟨ad116, e116, hx116_0⟩ := Kd.at_int HR115_0.out 1 p116 q116
            have hw116_0 := hx116_0
            (try rw [show ((1 : Int)).toNat = 1 from rfl] at hw116_0)
            (try rw [show 1 * 1 = 1 from rfl] at hw116_0)
            (try simp only [Nat.reduceMul, Nat.reduceEqDiff, Go.Addr.add, ↓reduceIte] at hw116_0)
            obtain rfl : ad114 = ad116 := (by injection e116)
            (try simp only [show (1 : Int).toNat = 1 from rfl, Nat.reduceMul, Nat.reduceEqDiff, Go.Addr.add, ↓reduceIte] at hx116_0)
            have qi116 : (1 < (rd_L1 l0_1 x8_2).length) = True := eq_true (by omega)
            (try rw [show ((1 : Int)).toNat = 1 from rfl] at hx116_0)
            replace hx116_0 := hbc HB hx116_0
            replace p116 := eq_true p116
            replace q116 := eq_true q116
            refine start_ (n := 16) (S := fun w' => w'.cell? ⟨gb101, 0, none⟩ = some (.int .i64 a0_0) ∧ w'.cell? ⟨gb101, 1, none⟩ = some (.slice (some ad113) l0_1.length c0_1) ∧ w'.cell? (ad113.add (x8_2).toNat) = some (.slice (some ad114) (rd_L1 l0_1 x8_2).length c113_0) ∧ w'.cell? ad114 = some (.int .i64 (rd (rd_L1 l0_1 x8_2) 0)) ∧ w'.cell? (ad113.add (x8_2).toNat) = some (.slice (some ad114) (rd_L1 l0_1 x8_2).length c113_0) ∧ w'.cell? ⟨ad114.block, ad114.off + 1, none⟩ = some (.int .i64 (rd (rd_L1 l0_1 x8_2) 1))) (ds := []) #[false, false, false, false, false, false, false, false, false, false, false, false, false, false, false, false] (by kernel_rfl) rfl rfl ⟨(blk_cell BK101.out 0).trans rfl, (blk_cell BK101.out 1).trans rfl, (hbc HB hw113_0), (hbc HB hw114_0), (hbc HB hw115_0), (hbc HB hw116_0)⟩ (fun hHeld => ?_); refine with_tabW spec_l10Signed.tab11 spec_l10Signed.bits11 (fun HT_ HW_ => ?_)
            generalize wr.drew = w37 at HO_5 BK101 HB HR113_0 HR115_0 hx113_0 hx114_0 hx115_0 hx116_0 hHeld ⊢
            refine pure_ (i := 0) (N := some 40) (v := ?_) (a' := ?_) #[true, false, false, false, false, false, false, false, false, false, false, false, false, false, false, false] rfl rfl (any_of HT_.out (by kernel_rfl)) (fun _ _ _ h => h) (Or.inl ⟨by rfl, ?_⟩) ?_ ?_
            rotate_left; · intro w'; go_simp; with_reducible rfl
            rotate_left; · simp only [Act.put, zI, zZ, zS, i64_w, i32_w]; rfl
            refine pure_ (i := 2) (N := some 42) (v := ?_) (a' := ?_) #[true, false, true, false, false, false, false, false, false, false, false, false, false, false, false, false] rfl rfl (any_of HT_.out (by kernel_rfl)) (fun _ _ _ h => h) (Or.inl ⟨by rfl, ?_⟩) ?_ ?_
            rotate_left; · intro w'; go_simp; with_reducible rfl
            rotate_left; · simp only [Act.put, zI, zZ, zS, i64_w, i32_w]; rfl
            refine pure_ (i := 7) (N := some 47) (v := ?_) (a' := ?_) #[true, false, true, false, false, false, false, true, false, false, false, false, false, false, false, false] rfl rfl (any_of HT_.out (by kernel_rfl)) (fun _ _ _ h => h) (Or.inl ⟨by rfl, ?_⟩) ?_ ?_
            rotate_left; · intro w'; go_simp; with_reducible rfl
            rotate_left; · simp only [Act.put, zI, zZ, zS, i64_w, i32_w]; rfl
            refine pure_ (i := 9) (N := some 49) (v := ?_) (a' := ?_) #[true, false, true, false, false, false, false, true, false, true, false, false, false, false, false, false] rfl rfl (any_of HT_.out (by kernel_rfl)) (fun _ _ _ h => h) (Or.inl ⟨by rfl, ?_⟩) ?_ ?_
            rotate_left; · intro w'; go_simp; with_reducible rfl
            rotate_left; · simp only [Act.put, zI, zZ, zS, i64_w, i32_w]; rfl
            refine take_ (i := 1) (N := some 41) (v := ?_) (a' := ?_) #[true, true, true, false, false, false, false, true, false, true, false, false, false, false, false, false] rfl rfl (take_ofW HT_.out HW_.out (by kernel_rfl)) (fun _ _ _ h => h) (Or.inl ⟨by rfl, ?_⟩) hHeld ?_ ?_
            rotate_left; · rintro w' ⟨s0, s1, s2, s3, s4, s5⟩; go_simp; with_reducible rfl
            rotate_left; · simp only [Act.put, zI, zZ, zS, i64_w, i32_w]; rfl
            refine pure_ (i := 3) (N := some 43) (v := ?_) (a' := ?_) #[true, true, true, true, false, false, false, true, false, true, false, false, false, false, false, false] rfl rfl (any_of HT_.out (by kernel_rfl)) (fun _ _ _ h => h) (Or.inl ⟨by rfl, ?_⟩) ?_ ?_
            rotate_left; · intro w'; go_simp; with_reducible rfl
            rotate_left; · simp only [Act.put, zI, zZ, zS, i64_w, i32_w]; rfl
            refine take_ (i := 4) (N := some 44) (v := ?_) (a' := ?_) #[true, true, true, true, true, false, false, true, false, true, false, false, false, false, false, false] rfl rfl (take_ofW HT_.out HW_.out (by kernel_rfl)) (fun _ _ _ h => h) (Or.inl ⟨by rfl, ?_⟩) hHeld ?_ ?_
            rotate_left; · rintro w' ⟨s0, s1, s2, s3, s4, s5⟩; go_simp; with_reducible rfl
            rotate_left; · simp only [Act.put, zI, zZ, zS, i64_w, i32_w]; rfl
            refine pure_ (i := 5) (N := some 45) (v := ?_) (a' := ?_) #[true, true, true, true, true, true, false, true, false, true, false, false, false, false, false, false] rfl rfl (any_of HT_.out (by kernel_rfl)) (fun _ _ _ h => h) (Or.inl ⟨by rfl, ?_⟩) ?_ ?_
            rotate_left; · intro w'; go_simp; with_reducible rfl
            rotate_left; · simp only [Act.put, zI, zZ, zS, i64_w, i32_w]; rfl
            refine take_ (i := 6) (N := some 46) (v := ?_) (a' := ?_) #[true, true, true, true, true, true, true, true, false, true, false, false, false, false, false, false] rfl rfl (take_ofW HT_.out HW_.out (by kernel_rfl)) (fun _ _ _ h => h) (Or.inl ⟨by rfl, ?_⟩) hHeld ?_ ?_
            rotate_left; · rintro w' ⟨s0, s1, s2, s3, s4, s5⟩; go_simp; with_reducible rfl
            rotate_left; · simp only [Act.put, zI, zZ, zS, i64_w, i32_w]; rfl
            refine pure_ (i := 14) (N := some 9) (v := ?_) (a' := ?_) #[true, true, true, true, true, true, true, true, false, true, false, false, false, false, true, false] rfl rfl (any_of HT_.out (by kernel_rfl)) (fun _ _ _ h => h) (Or.inl ⟨by rfl, ?_⟩) ?_ ?_
            rotate_left; · intro w'; go_simp; with_reducible rfl
            rotate_left; · simp only [Act.put, zI, zZ, zS, i64_w, i32_w]; rfl
            refine take_ (i := 8) (N := some 48) (v := ?_) (a' := ?_) #[true, true, true, true, true, true, true, true, true, true, false, false, false, false, true, false] rfl rfl (take_ofW HT_.out HW_.out (by kernel_rfl)) (fun _ _ _ h => h) (Or.inl ⟨by rfl, ?_⟩) hHeld ?_ ?_
            rotate_left; · rintro w' ⟨s0, s1, s2, s3, s4, s5⟩; go_simp; with_reducible rfl
            rotate_left; · simp only [Act.put, zI, zZ, zS, i64_w, i32_w]; rfl
            refine pure_ (i := 10) (N := some 50) (v := ?_) (a' := ?_) #[true, true, true, true, true, true, true, true, true, true, true, false, false, false, true, false] rfl rfl (any_of HT_.out (by kernel_rfl)) (fun _ _ _ h => h) (Or.inl ⟨by rfl, ?_⟩) ?_ ?_
            rotate_left; · intro w'; go_simp; with_reducible rfl
            rotate_left; · simp only [Act.put, zI, zZ, zS, i64_w, i32_w]; rfl
            refine take_ (i := 11) (N := some 51) (v := ?_) (a' := ?_) #[true, true, true, true, true, true, true, true, true, true, true, true, false, false, true, false] rfl rfl (take_ofW HT_.out HW_.out (by kernel_rfl)) (fun _ _ _ h => h) (Or.inl ⟨by rfl, ?_⟩) hHeld ?_ ?_
            rotate_left; · rintro w' ⟨s0, s1, s2, s3, s4, s5⟩; go_simp; with_reducible rfl
            rotate_left; · simp only [Act.put, zI, zZ, zS, i64_w, i32_w]; rfl
            refine pure_ (i := 12) (N := some 52) (v := ?_) (a' := ?_) #[true, true, true, true, true, true, true, true, true, true, true, true, true, false, true, false] rfl rfl (any_of HT_.out (by kernel_rfl)) (fun _ _ _ h => h) (Or.inl ⟨by rfl, ?_⟩) ?_ ?_
            rotate_left; · intro w'; go_simp; with_reducible rfl
            rotate_left; · simp only [Act.put, zI, zZ, zS, i64_w, i32_w]; rfl
            refine take_ (i := 13) (N := some 53) (v := ?_) (a' := ?_) #[true, true, true, true, true, true, true, true, true, true, true, true, true, true, true, false] rfl rfl (take_ofW HT_.out HW_.out (by kernel_rfl)) (fun _ _ _ h => h) (Or.inl ⟨by rfl, ?_⟩) hHeld ?_ ?_
            rotate_left; · rintro w' ⟨s0, s1, s2, s3, s4, s5⟩; go_simp; with_reducible rfl
            rotate_left; · simp only [Act.put, zI, zZ, zS, i64_w, i32_w]; rfl
            refine pure_ (i := 15) (N := some 10) (v := ?_) (a' := ?_) #[true, true, true, true, true, true, true, true, true, true, true, true, true, true, true, true] rfl rfl (any_of HT_.out (by kernel_rfl)) (fun _ _ _ h => h) (Or.inl ⟨by rfl, ?_⟩) ?_ ?_
            rotate_left; · intro w'; go_simp; with_reducible rfl
            rotate_left; · simp only [Act.put, zI, zZ, zS, i64_w, i32_w]; rfl
            refine done_ (done_of HT_.out (by kernel_rfl)) ?_
            obtain ⟨Ao38, co38, eo38⟩ := Kd.S_slice HO_5.out
            subst eo38
            have p117 : 0 ≤ ((rd (rd_L1 l0_1 x8_2) 0) : Int) := oD
            have q117 : (rd (rd_L1 l0_1 x8_2) 0) < (x5_2.length : Int) := oD
            obtain ⟨ad117, A117_0, c117_0, e117, hx117_0, hl117_0, hi117_0⟩ := at_L1 (Kd.S_reads' HO_5.out).2.2 (rd (rd_L1 l0_1 x8_2) 0) p117 q117
            cases e117
            obtain ⟨ce117, hce117, hMe117, hcc117⟩ := Kd.S_get HO_5.out [] (rd (rd_L1 l0_1 x8_2) 0) p117 (by first | exact q117 | exact oD | (have e_ := (Kd.S_reads' HO_5.out).1; omega))
            obtain ⟨ve117_0, rfl, ge117_0⟩ := hMe117
            have hv117_0 := hcc117 0 _ rfl
            rw [Nat.add_zero, show ((Kd.slice 2 (Kd.int .i64))).sz = 1 from rfl, Nat.mul_one] at hv117_0
            replace hv117_0 := Option.some.inj (hv117_0.symm.trans hx117_0)
            rw [hv117_0] at ge117_0
            have HL117_0 := Aside0.mk (show Kd.R (Kd.int .i64) 2 _ _ _ _ (rd_L1 x5_2 (rd (rd_L1 l0_1 x8_2) 0)) from ge117_0)
            clear hv117_0 ge117_0
            have HX117_0 := Aside0.mk hx117_0
            clear hcc117 hce117
            have HR117_0 := Aside0.mk hi117_0
            have HC117_0 := Aside0.mk hl117_0
            clear hi117_0 hl117_0
            replace p117 := eq_true p117
            replace q117 := eq_true q117
            try go_wp2
            have n0_ := Aside0.mk (Kd.S_drew HO_5.out)
            have n1_ := Aside0.mk (Kd.R_drew HL117_0.out)
            have n2_ := Aside0.mk (blk_drew BK101.out)
            have n3_ := Aside0.mk (Kd.C_drew HR117_0.out)
            have n4_ := Aside0.mk ((show (w37.drew).cell? _ = some _ from HX117_0.out))
            have n5_ := Aside0.mk (below_drew1 HB.out)
            clear HO_5
            clear HL117_0
            clear BK101
            clear HR117_0
            clear HX117_0
            clear HB
            have HO_5 := n0_
            have HL117_0 := n1_
            have BK101 := n2_
            have HR117_0 := n3_
            have HX117_0 := n4_
            have HB := n5_
            clear n0_ n1_ n2_ n3_ n4_ n5_
            have p118 : 0 ≤ ((rd (rd_L1 l0_1 x8_2) 1) : Int) := oD
            have q118 : (rd (rd_L1 l0_1 x8_2) 1) < ((rd_L1 x5_2 (rd (rd_L1 l0_1 x8_2) 0)).length : Int) := oD
            obtain ⟨ad118, e118, hx118_0⟩ := Kd.at_int (by repeat (first | (with_reducible exact HR117_0.out) | (with_reducible refine Kd.C_alloc ?_ _) | (with_reducible refine Kd.C_drewN ?_ _) | (with_reducible refine Kd.C_drew ?_) | exact HR117_0.out)) (rd (rd_L1 l0_1 x8_2) 1) p118 q118
            cases e118
            replace p118 := eq_true p118
            replace q118 := eq_true q118
            have p119 : 0 ≤ (x8_2 : Int) := oD
            have q119 : x8_2 < (l1.length : Int) := oD
            obtain ⟨ad119, e119, hx119_0⟩ := Kd.at_int HR1.out x8_2 p119 q119
            have hw119_0 := hx119_0
            cases e119
            replace hx119_0 := hbc HB hx119_0
            replace p119 := eq_true p119
            replace q119 := eq_true q119
            have p32 : 0 ≤ ((rd (rd_L1 l0_1 x8_2) 1) : Int) := oD
            have q32 : ((rd (rd_L1 l0_1 x8_2) 1) : Int) < (((rd_L1 x5_2 (rd (rd_L1 l0_1 x8_2) 0)).length : Int) : Int) := oD
            obtain ⟨go32, co32, eo32, gb32, gl32, cl32, HG32⟩ := Kd.R_form HL117_0.out (by omega)
            (first | cases eo32 | (injection eo32 with ea_ en_ ec_; (first | subst ea_ | (injection ea_ with ea_; subst ea_)); subst ec_; clear en_))
            (first | simp only [add_plain] at hx118_0 | skip)
            have GB32 := Aside0.mk gb32
            have GG32 := Aside0.mk HG32
            clear gb32 gl32 HG32
            (first | simp only [add_plain] at hx118_0 | skip)
            obtain ⟨hx32_0, hf32_0⟩ := Kd.R_celln 0 HL117_0.out ((rd (rd_L1 l0_1 x8_2) 1) : Int) p32 q32
            replace p32 := eq_true p32
            replace q32 := eq_true q32
            have hq40 : ((rd (rd_L1 l0_1 x8_2) 0) : Int) < (x5_2.length : Int) := (by have h_ : ((rd (rd_L1 l0_1 x8_2) 0) : Int) < ((x5_2.length : Int) : Int) := oD; first | exact h_ | (have e_ := (Kd.S_reads' HO_5.out).1; omega) | simpa only [List.length_set, List.length_set] using h_)
            obtain ⟨oki40, ce40, hcl40, hM40, hcc40, hok40, hbk40⟩ := Kd.S_borrow HO_5.out [] ((rd (rd_L1 l0_1 x8_2) 0) : Int) oD (by first | exact hq40 | (have e_ := (Kd.S_reads' HO_5.out).1; omega))
            obtain ⟨ve40_0, rfl, ge40_0⟩ := hM40
            have hv40 := hcc40 0 _ rfl
            rw [Nat.add_zero, show ((Kd.slice 2 (Kd.int .i64))).sz = 1 from rfl, Nat.mul_one] at hv40
            replace hv40 := Option.some.inj (hv40.symm.trans HX117_0.out)
            subst hv40
            clear hcc40 hcl40
            replace ge40_0 := (show Kd.R (Kd.int .i64) 2 _ _ _ _ (rd_L1 x5_2 (rd (rd_L1 l0_1 x8_2) 0)) from ge40_0)
            have HP40 := Kd.R_putg ge40_0 ((rd (rd_L1 l0_1 x8_2) 1) : Int) (wrap64 ((rd (rd_L1 x5_2 (rd (rd_L1 l0_1 x8_2) 0)) (rd (rd_L1 l0_1 x8_2) 1)) - (rd l1 x8_2)))
            have HXp40 := Aside0.mk (cell_grown HP40.2 HX117_0.out (cell_ne (hok40 _ (ge40_0.1 _ rfl)).2))
            rw [← Ny120.out] at HP40
            have HPr40 := Aside0.mk HP40.1
            have HS40 := hbk40 HP40.2 (fun k_ e_ => by injection e_ with e_; subst e_; exact ge40_0.1 _ rfl) (x' := y120) (Kd.M_row HP40.1)
            rw [← Ny122.out] at HS40
            have HQ40 := Aside0.mk HS40
            clear HP40 HS40 hbk40 hok40
            refine start_ (n := 13) (S := fun w' => w'.cell? ⟨go32, ((rd (rd_L1 l0_1 x8_2) 1)).toNat, none⟩ = some (.int .i64 (rd (rd_L1 x5_2 (rd (rd_L1 l0_1 x8_2) 0)) (rd (rd_L1 l0_1 x8_2) 1))) ∧ w'.cell? (ad119.add (x8_2).toNat) = some (.int .i64 (rd l1 x8_2))) (ds := [12]) #[false, false, false, false, false, false, false, false, false, false, false, false, false] (by kernel_rfl) rfl rfl ⟨hx118_0, (hbc HB hw119_0)⟩ (fun hHeld => ?_); refine with_tabW spec_l10Signed.tab13 spec_l10Signed.bits13 (fun HT_ HW_ => ?_)
            generalize w37.drew = w39 at HO_5 HL117_0 BK101 HR117_0 HX117_0 HB GG32 HQ40 hf32_0 hx118_0 hx119_0 hx32_0 hHeld ⊢
            refine pure_ (i := 0) (N := some 58) (v := ?_) (a' := ?_) #[true, false, false, false, false, false, false, false, false, false, false, false, false] rfl rfl (any_of HT_.out (by kernel_rfl)) (fun _ _ _ h => h) (Or.inl ⟨by rfl, ?_⟩) ?_ ?_
            rotate_left; · intro w'; go_simp; with_reducible rfl
            rotate_left; · simp only [Act.put, zI, zZ, zS, i64_w, i32_w]; rfl
            refine pure_ (i := 1) (N := some 59) (v := ?_) (a' := ?_) #[true, true, false, false, false, false, false, false, false, false, false, false, false] rfl rfl (any_of HT_.out (by kernel_rfl)) (fun _ _ _ h => h) (Or.inl ⟨by rfl, ?_⟩) ?_ ?_
            rotate_left; · intro w'; go_simp; with_reducible rfl
            rotate_left; · simp only [Act.put, zI, zZ, zS, i64_w, i32_w]; rfl
            refine pure_ (i := 2) (N := some 60) (v := ?_) (a' := ?_) #[true, true, true, false, false, false, false, false, false, false, false, false, false] rfl rfl (any_of HT_.out (by kernel_rfl)) (fun _ _ _ h => h) (Or.inl ⟨by rfl, ?_⟩) ?_ ?_
            rotate_left; · intro w'; go_simp; with_reducible rfl
            rotate_left; · simp only [Act.put, zI, zZ, zS, i64_w, i32_w]; rfl
            refine pure_ (i := 3) (N := some 61) (v := ?_) (a' := ?_) #[true, true, true, true, false, false, false, false, false, false, false, false, false] rfl rfl (any_of HT_.out (by kernel_rfl)) (fun _ _ _ h => h) (Or.inl ⟨by rfl, ?_⟩) ?_ ?_
            rotate_left; · intro w'; go_simp; with_reducible rfl
            rotate_left; · simp only [Act.put, zI, zZ, zS, i64_w, i32_w]; rfl
            refine pure_ (i := 4) (N := some 62) (v := ?_) (a' := ?_) #[true, true, true, true, true, false, false, false, false, false, false, false, false] rfl rfl (any_of HT_.out (by kernel_rfl)) (fun _ _ _ h => h) (Or.inl ⟨by rfl, ?_⟩) ?_ ?_
            rotate_left; · intro w'; go_simp; with_reducible rfl
            rotate_left; · simp only [Act.put, zI, zZ, zS, i64_w, i32_w]; rfl
            refine pure_ (i := 6) (N := some 64) (v := ?_) (a' := ?_) #[true, true, true, true, true, false, true, false, false, false, false, false, false] rfl rfl (any_of HT_.out (by kernel_rfl)) (fun _ _ _ h => h) (Or.inl ⟨by rfl, ?_⟩) ?_ ?_
            rotate_left; · intro w'; go_simp; with_reducible rfl
            rotate_left; · simp only [Act.put, zI, zZ, zS, i64_w, i32_w]; rfl
            refine pure_ (i := 7) (N := some 65) (v := ?_) (a' := ?_) #[true, true, true, true, true, false, true, true, false, false, false, false, false] rfl rfl (any_of HT_.out (by kernel_rfl)) (fun _ _ _ h => h) (Or.inl ⟨by rfl, ?_⟩) ?_ ?_
            rotate_left; · intro w'; go_simp; with_reducible rfl
            rotate_left; · simp only [Act.put, zI, zZ, zS, i64_w, i32_w]; rfl
            refine pure_ (i := 8) (N := some 66) (v := ?_) (a' := ?_) #[true, true, true, true, true, false, true, true, true, false, false, false, false] rfl rfl (any_of HT_.out (by kernel_rfl)) (fun _ _ _ h => h) (Or.inl ⟨by rfl, ?_⟩) ?_ ?_
            rotate_left; · intro w'; go_simp; with_reducible rfl
            rotate_left; · simp only [Act.put, zI, zZ, zS, i64_w, i32_w]; rfl
            refine take_ (i := 5) (N := some 63) (v := ?_) (a' := ?_) #[true, true, true, true, true, true, true, true, true, false, false, false, false] rfl rfl (take_ofW HT_.out HW_.out (by kernel_rfl)) (fun _ _ _ h => h) (Or.inl ⟨by rfl, ?_⟩) hHeld ?_ ?_
            rotate_left; · rintro w' ⟨s0, s1⟩; go_simp; with_reducible rfl
            rotate_left; · simp only [Act.put, zI, zZ, zS, i64_w, i32_w]; rfl
            refine take_ (i := 9) (N := some 67) (v := ?_) (a' := ?_) #[true, true, true, true, true, true, true, true, true, true, false, false, false] rfl rfl (take_ofW HT_.out HW_.out (by kernel_rfl)) (fun _ _ _ h => h) (Or.inl ⟨by rfl, ?_⟩) hHeld ?_ ?_
            rotate_left; · rintro w' ⟨s0, s1⟩; go_simp; with_reducible rfl
            rotate_left; · simp only [Act.put, zI, zZ, zS, i64_w, i32_w]; rfl
            refine pure_ (i := 10) (N := some 68) (v := ?_) (a' := ?_) #[true, true, true, true, true, true, true, true, true, true, true, false, false] rfl rfl (any_of HT_.out (by kernel_rfl)) (fun _ _ _ h => h) (Or.inl ⟨by rfl, ?_⟩) ?_ ?_
            rotate_left; · intro w'; go_simp; with_reducible rfl
            rotate_left; · simp only [Act.put, zI, zZ, zS, i64_w, i32_w]; rfl
            refine pure_ (i := 11) (N := some 69) (v := ?_) (a' := ?_) #[true, true, true, true, true, true, true, true, true, true, true, true, false] rfl rfl (any_of HT_.out (by kernel_rfl)) (fun _ _ _ h => h) (Or.inl ⟨by rfl, ?_⟩) ?_ ?_
            rotate_left; · intro w'; go_simp; with_reducible rfl
            rotate_left; · simp only [Act.put, zI, zZ, zS, i64_w, i32_w]; rfl
            refine last_ (i := 12) (N := none) #[true, true, true, true, true, true, true, true, true, true, true, true, true] rfl rfl (one_of HT_.out (by kernel_rfl)) (by decide) (fun K hK => ?_)
            refine skip_ (w1 := ?_) (by rfl) rfl ?_ ?_
            rotate_left; · go_simp; rfl
            refine hK.out _ _ ?_
            clear hK K
            refine done_ (done_of HT_.out (by kernel_rfl)) ?_
            have n0_ : Aside0 (Kd.S (Kd.slice 2 (Kd.int .i64)) 43 (w39.setCell ⟨go32, ((rd (rd_L1 l0_1 x8_2) 1) : Int).toNat, none⟩ (.int .i64 (wrap64 ((rd (rd_L1 x5_2 (rd (rd_L1 l0_1 x8_2) 0)) (rd (rd_L1 l0_1 x8_2) 1)) - (rd l1 x8_2))))) w.heap.size (fun _ => True) (.slice (some ad117) x5_2.length co38) y122) := ⟨by (with_reducible repeat (first | apply Kd.S_alloc | apply Kd.S_drewN | apply Kd.S_drew)); exact HQ40.out⟩
            have n1_ : Aside0 ((w39.setCell ⟨go32, ((rd (rd_L1 l0_1 x8_2) 1) : Int).toNat, none⟩ (.int .i64 (wrap64 ((rd (rd_L1 x5_2 (rd (rd_L1 l0_1 x8_2) 0)) (rd (rd_L1 l0_1 x8_2) 1)) - (rd l1 x8_2))))).heap[gb101]? = some (.cells #[.int .i64 a0_0, .slice (some ad113) l0_1.length c0_1] 26 (0, 0))) := ⟨by (with_reducible repeat (first | refine blk_drewN ?_ _ | refine blk_drew ?_ | refine blk_alloc ?_ _)); refine blk_far ?_ (by have h_ := Kd.R_ne HL117_0.out BK101.out (by decide); intro e_; exact h_ (by rw [e_]; rfl)) _; (with_reducible repeat (first | refine blk_drewN ?_ _ | refine blk_drew ?_ | refine blk_alloc ?_ _)); exact BK101.out⟩
            have n2_ : Aside0 (Below w.heap.size w (w39.setCell ⟨go32, ((rd (rd_L1 l0_1 x8_2) 1) : Int).toNat, none⟩ (.int .i64 (wrap64 ((rd (rd_L1 x5_2 (rd (rd_L1 l0_1 x8_2) 0)) (rd (rd_L1 l0_1 x8_2) 1)) - (rd l1 x8_2)))))) := ⟨by repeat (first | (with_reducible first | exact HB.out | apply below_alloc | apply pw_below_drewN | apply below_drew1 | refine below_set ?_ GB32.out | refine below_set ?_ GE101.out) | exact HB.out)⟩
            (try clear HO_5)
            (try clear BK101)
            (try clear HB)
            generalize (w39.setCell ⟨go32, ((rd (rd_L1 l0_1 x8_2) 1) : Int).toNat, none⟩ (.int .i64 (wrap64 ((rd (rd_L1 x5_2 (rd (rd_L1 l0_1 x8_2) 0)) (rd (rd_L1 l0_1 x8_2) 1)) - (rd l1 x8_2))))) = w42 at n0_ n1_ n2_ ⊢
            have HO_5 := n0_
            have BK101 := n1_
            have HB := n2_
            clear n0_ n1_ n2_
            have p123 : 0 ≤ ((rd (rd_L1 l0_1 x8_2) 1) : Int) := oD
            have q123 : (rd (rd_L1 l0_1 x8_2) 1) < (y122.length : Int) := (by have h_ : ((rd (rd_L1 l0_1 x8_2) 1) : Int) < ((x5_2.length : Int) : Int) := oD; first | (have e_ := (Kd.S_reads' HO_5.out).1; omega) | simpa only [Ny122.out, List.length_set] using h_)
            have ql123 : (((rd (rd_L1 l0_1 x8_2) 1) : Int) < ((x5_2.length : Int) : Int)) = True := eq_true oD
            obtain ⟨ad123, A123_0, c123_0, e123, hx123_0, hl123_0, hi123_0⟩ := at_L1 (Kd.S_reads' HO_5.out).2.2 (rd (rd_L1 l0_1 x8_2) 1) p123 q123
            obtain rfl : ad117 = ad123 := (by injection e123)
            obtain ⟨ce123, hce123, hMe123, hcc123⟩ := Kd.S_get HO_5.out [] (rd (rd_L1 l0_1 x8_2) 1) p123 (by first | exact q123 | exact oD | (have e_ := (Kd.S_reads' HO_5.out).1; omega))
            obtain ⟨ve123_0, rfl, ge123_0⟩ := hMe123
            have hv123_0 := hcc123 0 _ rfl
            rw [Nat.add_zero, show ((Kd.slice 2 (Kd.int .i64))).sz = 1 from rfl, Nat.mul_one] at hv123_0
            replace hv123_0 := Option.some.inj (hv123_0.symm.trans hx123_0)
            rw [hv123_0] at ge123_0
            have HL123_0 := Aside0.mk (show Kd.R (Kd.int .i64) 2 _ _ _ _ (rd_L1 y122 (rd (rd_L1 l0_1 x8_2) 1)) from ge123_0)
            clear hv123_0 ge123_0
            have HX123_0 := Aside0.mk hx123_0
            clear hcc123 hce123
            have HR123_0 := Aside0.mk hi123_0
            have HC123_0 := Aside0.mk hl123_0
            clear hi123_0 hl123_0
            replace p123 := eq_true p123
            replace q123 := eq_true q123
            try go_wp2
            have n0_ := Aside0.mk (Kd.S_drew HO_5.out)
            have n1_ := Aside0.mk (Kd.R_drew HL123_0.out)
            have n2_ := Aside0.mk (blk_drew BK101.out)
            have n3_ := Aside0.mk (Kd.C_drew HR123_0.out)
            have n4_ := Aside0.mk ((show (w42.drew).cell? _ = some _ from HX123_0.out))
            have n5_ := Aside0.mk (below_drew1 HB.out)
            clear HO_5
            clear HL123_0
            clear BK101
            clear HR123_0
            clear HX123_0
            clear HB
            have HO_5 := n0_
            have HL123_0 := n1_
            have BK101 := n2_
            have HR123_0 := n3_
            have HX123_0 := n4_
            have HB := n5_
            clear n0_ n1_ n2_ n3_ n4_ n5_
            have p124 : 0 ≤ ((rd (rd_L1 l0_1 x8_2) 0) : Int) := oD
            have q124 : (rd (rd_L1 l0_1 x8_2) 0) < ((rd_L1 y122 (rd (rd_L1 l0_1 x8_2) 1)).length : Int) := oD
            obtain ⟨ad124, e124, hx124_0⟩ := Kd.at_int (by repeat (first | (with_reducible exact HR123_0.out) | (with_reducible refine Kd.C_alloc ?_ _) | (with_reducible refine Kd.C_drewN ?_ _) | (with_reducible refine Kd.C_drew ?_) | exact HR123_0.out)) (rd (rd_L1 l0_1 x8_2) 0) p124 q124
            cases e124
            replace p124 := eq_true p124
            replace q124 := eq_true q124
            have p125 : 0 ≤ (x8_2 : Int) := oD
            have q125 : x8_2 < (l1.length : Int) := oD
            obtain ⟨ad125, e125, hx125_0⟩ := Kd.at_int HR1.out x8_2 p125 q125
            have hw125_0 := hx125_0
            obtain rfl : ad119 = ad125 := (by injection e125)
            replace hx125_0 := hbc HB hx125_0
            replace p125 := eq_true p125
            replace q125 := eq_true q125
            have p35 : 0 ≤ ((rd (rd_L1 l0_1 x8_2) 0) : Int) := oD
            have q35 : ((rd (rd_L1 l0_1 x8_2) 0) : Int) < (((rd_L1 y122 (rd (rd_L1 l0_1 x8_2) 1)).length : Int) : Int) := oD
            obtain ⟨go35, co35, eo35, gb35, gl35, cl35, HG35⟩ := Kd.R_form HL123_0.out (by omega)
            (first | cases eo35 | (injection eo35 with ea_ en_ ec_; (first | subst ea_ | (injection ea_ with ea_; subst ea_)); subst ec_; clear en_))
            (first | simp only [add_plain] at hx124_0 | skip)
            have GB35 := Aside0.mk gb35
            have GG35 := Aside0.mk HG35
            clear gb35 gl35 HG35
            (first | simp only [add_plain] at hx124_0 | skip)
            obtain ⟨hx35_0, hf35_0⟩ := Kd.R_celln 0 HL123_0.out ((rd (rd_L1 l0_1 x8_2) 0) : Int) p35 q35
            replace p35 := eq_true p35
            replace q35 := eq_true q35
            have hq44 : ((rd (rd_L1 l0_1 x8_2) 1) : Int) < (y122.length : Int) := (by have h_ : ((rd (rd_L1 l0_1 x8_2) 1) : Int) < ((x5_2.length : Int) : Int) := oD; first | exact h_ | (have e_ := (Kd.S_reads' HO_5.out).1; omega) | simpa only [Ny122.out, List.length_set] using h_)
            obtain ⟨oki44, ce44, hcl44, hM44, hcc44, hok44, hbk44⟩ := Kd.S_borrow HO_5.out [] ((rd (rd_L1 l0_1 x8_2) 1) : Int) oD (by first | exact hq44 | (have e_ := (Kd.S_reads' HO_5.out).1; omega))
            obtain ⟨ve44_0, rfl, ge44_0⟩ := hM44
            have hv44 := hcc44 0 _ rfl
            rw [Nat.add_zero, show ((Kd.slice 2 (Kd.int .i64))).sz = 1 from rfl, Nat.mul_one] at hv44
            replace hv44 := Option.some.inj (hv44.symm.trans HX123_0.out)
            subst hv44
            clear hcc44 hcl44
            replace ge44_0 := (show Kd.R (Kd.int .i64) 2 _ _ _ _ (rd_L1 y122 (rd (rd_L1 l0_1 x8_2) 1)) from ge44_0)
            have HP44 := Kd.R_putg ge44_0 ((rd (rd_L1 l0_1 x8_2) 0) : Int) (wrap64 ((rd (rd_L1 y122 (rd (rd_L1 l0_1 x8_2) 1)) (rd (rd_L1 l0_1 x8_2) 0)) - (rd l1 x8_2)))
            have HXp44 := Aside0.mk (cell_grown HP44.2 HX123_0.out (cell_ne (hok44 _ (ge44_0.1 _ rfl)).2))
            rw [← Ny126.out] at HP44
            have HPr44 := Aside0.mk HP44.1
            have HS44 := hbk44 HP44.2 (fun k_ e_ => by injection e_ with e_; subst e_; exact ge44_0.1 _ rfl) (x' := y126) (Kd.M_row HP44.1)
            rw [← Ny128.out] at HS44
            have HQ44 := Aside0.mk HS44
            clear HP44 HS44 hbk44 hok44
            refine start_ (n := 13) (S := fun w' => w'.cell? ⟨go35, ((rd (rd_L1 l0_1 x8_2) 0)).toNat, none⟩ = some (.int .i64 (rd (rd_L1 y122 (rd (rd_L1 l0_1 x8_2) 1)) (rd (rd_L1 l0_1 x8_2) 0))) ∧ w'.cell? (ad119.add (x8_2).toNat) = some (.int .i64 (rd l1 x8_2))) (ds := [12]) #[false, false, false, false, false, false, false, false, false, false, false, false, false] (by kernel_rfl) rfl rfl ⟨hx124_0, (hbc HB hw125_0)⟩ (fun hHeld => ?_); refine with_tabW spec_l10Signed.tab15 spec_l10Signed.bits15 (fun HT_ HW_ => ?_)
            generalize w42.drew = w43 at HO_5 HL123_0 BK101 HR123_0 HX123_0 HB GG35 HQ44 hf35_0 hx124_0 hx125_0 hx35_0 hHeld ⊢
            refine pure_ (i := 0) (N := some 74) (v := ?_) (a' := ?_) #[true, false, false, false, false, false, false, false, false, false, false, false, false] rfl rfl (any_of HT_.out (by kernel_rfl)) (fun _ _ _ h => h) (Or.inl ⟨by rfl, ?_⟩) ?_ ?_
            rotate_left; · intro w'; go_simp; with_reducible rfl
            rotate_left; · simp only [Act.put, zI, zZ, zS, i64_w, i32_w]; rfl
            refine pure_ (i := 1) (N := some 75) (v := ?_) (a' := ?_) #[true, true, false, false, false, false, false, false, false, false, false, false, false] rfl rfl (any_of HT_.out (by kernel_rfl)) (fun _ _ _ h => h) (Or.inl ⟨by rfl, ?_⟩) ?_ ?_
            rotate_left; · intro w'; go_simp; with_reducible rfl
            rotate_left; · simp only [Act.put, zI, zZ, zS, i64_w, i32_w]; rfl
            refine pure_ (i := 2) (N := some 76) (v := ?_) (a' := ?_) #[true, true, true, false, false, false, false, false, false, false, false, false, false] rfl rfl (any_of HT_.out (by kernel_rfl)) (fun _ _ _ h => h) (Or.inl ⟨by rfl, ?_⟩) ?_ ?_
            rotate_left; · intro w'; go_simp; with_reducible rfl
            rotate_left; · simp only [Act.put, zI, zZ, zS, i64_w, i32_w]; rfl
            refine pure_ (i := 3) (N := some 77) (v := ?_) (a' := ?_) #[true, true, true, true, false, false, false, false, false, false, false, false, false] rfl rfl (any_of HT_.out (by kernel_rfl)) (fun _ _ _ h => h) (Or.inl ⟨by rfl, ?_⟩) ?_ ?_
            rotate_left; · intro w'; go_simp; with_reducible rfl
            rotate_left; · simp only [Act.put, zI, zZ, zS, i64_w, i32_w]; rfl
            refine pure_ (i := 4) (N := some 78) (v := ?_) (a' := ?_) #[true, true, true, true, true, false, false, false, false, false, false, false, false] rfl rfl (any_of HT_.out (by kernel_rfl)) (fun _ _ _ h => h) (Or.inl ⟨by rfl, ?_⟩) ?_ ?_
            rotate_left; · intro w'; go_simp; with_reducible rfl
            rotate_left; · simp only [Act.put, zI, zZ, zS, i64_w, i32_w]; rfl
            refine pure_ (i := 6) (N := some 80) (v := ?_) (a' := ?_) #[true, true, true, true, true, false, true, false, false, false, false, false, false] rfl rfl (any_of HT_.out (by kernel_rfl)) (fun _ _ _ h => h) (Or.inl ⟨by rfl, ?_⟩) ?_ ?_
            rotate_left; · intro w'; go_simp; with_reducible rfl
            rotate_left; · simp only [Act.put, zI, zZ, zS, i64_w, i32_w]; rfl
            refine pure_ (i := 7) (N := some 81) (v := ?_) (a' := ?_) #[true, true, true, true, true, false, true, true, false, false, false, false, false] rfl rfl (any_of HT_.out (by kernel_rfl)) (fun _ _ _ h => h) (Or.inl ⟨by rfl, ?_⟩) ?_ ?_
            rotate_left; · intro w'; go_simp; with_reducible rfl
            rotate_left; · simp only [Act.put, zI, zZ, zS, i64_w, i32_w]; rfl
            refine pure_ (i := 8) (N := some 82) (v := ?_) (a' := ?_) #[true, true, true, true, true, false, true, true, true, false, false, false, false] rfl rfl (any_of HT_.out (by kernel_rfl)) (fun _ _ _ h => h) (Or.inl ⟨by rfl, ?_⟩) ?_ ?_
            rotate_left; · intro w'; go_simp; with_reducible rfl
            rotate_left; · simp only [Act.put, zI, zZ, zS, i64_w, i32_w]; rfl
            refine take_ (i := 5) (N := some 79) (v := ?_) (a' := ?_) #[true, true, true, true, true, true, true, true, true, false, false, false, false] rfl rfl (take_ofW HT_.out HW_.out (by kernel_rfl)) (fun _ _ _ h => h) (Or.inl ⟨by rfl, ?_⟩) hHeld ?_ ?_
            rotate_left; · rintro w' ⟨s0, s1⟩; go_simp; with_reducible rfl
            rotate_left; · simp only [Act.put, zI, zZ, zS, i64_w, i32_w]; rfl
            refine take_ (i := 9) (N := some 83) (v := ?_) (a' := ?_) #[true, true, true, true, true, true, true, true, true, true, false, false, false] rfl rfl (take_ofW HT_.out HW_.out (by kernel_rfl)) (fun _ _ _ h => h) (Or.inl ⟨by rfl, ?_⟩) hHeld ?_ ?_
            rotate_left; · rintro w' ⟨s0, s1⟩; go_simp; with_reducible rfl
            rotate_left; · simp only [Act.put, zI, zZ, zS, i64_w, i32_w]; rfl
            refine pure_ (i := 10) (N := some 84) (v := ?_) (a' := ?_) #[true, true, true, true, true, true, true, true, true, true, true, false, false] rfl rfl (any_of HT_.out (by kernel_rfl)) (fun _ _ _ h => h) (Or.inl ⟨by rfl, ?_⟩) ?_ ?_
            rotate_left; · intro w'; go_simp; with_reducible rfl
            rotate_left; · simp only [Act.put, zI, zZ, zS, i64_w, i32_w]; rfl
            refine pure_ (i := 11) (N := some 85) (v := ?_) (a' := ?_) #[true, true, true, true, true, true, true, true, true, true, true, true, false] rfl rfl (any_of HT_.out (by kernel_rfl)) (fun _ _ _ h => h) (Or.inl ⟨by rfl, ?_⟩) ?_ ?_
            rotate_left; · intro w'; go_simp; with_reducible rfl
            rotate_left; · simp only [Act.put, zI, zZ, zS, i64_w, i32_w]; rfl
            refine last_ (i := 12) (N := none) #[true, true, true, true, true, true, true, true, true, true, true, true, true] rfl rfl (one_of HT_.out (by kernel_rfl)) (by decide) (fun K hK => ?_)
            refine skip_ (w1 := ?_) (by rfl) rfl ?_ ?_
            rotate_left; · go_simp; rfl
            refine hK.out _ _ ?_
            clear hK K
            refine done_ (done_of HT_.out (by kernel_rfl)) ?_
            try go_wp2
            go_roundg k2
            case measure => have := HK1.out; have := HK2.out; omega
            case rel => exact ⟨(y128), (wrap64 (x8_2 + 1)), rs, H', ⟨by have := HK1.out; have := HK2.out; omega⟩, ⟨by (with_reducible repeat (first | apply Kd.S_alloc | apply Kd.S_drewN | apply Kd.S_drew)); exact HQ44.out⟩, ⟨by (with_reducible repeat (first | refine blk_drewN ?_ _ | refine blk_drew ?_ | refine blk_alloc ?_ _)); refine blk_far ?_ (by have h_ := Kd.R_ne HL123_0.out BK101.out (by decide); intro e_; exact h_ (by rw [e_]; rfl)) _; (with_reducible repeat (first | refine blk_drewN ?_ _ | refine blk_drew ?_ | refine blk_alloc ?_ _)); exact BK101.out⟩, ⟨by repeat (first | (with_reducible first | exact HB.out | apply below_alloc | apply pw_below_drewN | apply below_drew1 | refine below_set ?_ GB35.out | refine below_set ?_ GE101.out) | exact HB.out)⟩⟩
      rw [if_pos c6] at H
      have c6b0 : decide (x6_1 < a0_0) = true := decide_eq_true c6
      clear c6
      by_cases c7 : 0 ≤ a0_0
      case neg => rw [if_neg c7] at H; exact absurd H (by simp)
      rw [if_pos c7] at H
      have c7b0 := eq_true c7
      have c7b1 : decide (0 ≤ a0_0) = true := decide_eq_true c7
      clear c7
      by_cases c8 : (a0_0 : Int).toNat ≤ 35184372088832
      case neg => rw [if_neg c8] at H; exact absurd H (by simp)
      rw [if_pos c8] at H
      have c8b0 := eq_true c8
      have c8b1 : decide ((a0_0 : Int).toNat ≤ 35184372088832) = true := decide_eq_true c8
      clear c8
      obtain ⟨y105, hy105⟩ : ∃ y_ : List Int, y_ = (List.replicate (a0_0 : Int).toNat 0) := ⟨_, rfl⟩
      replace H : ((spec_l01Degree.f k1 a0_0 l0_1 x6_1).bind fun t108 => (if 0 ≤ x6_1 then (if x6_1 < (y105.length : Int) then (if x5_1.length < 5864062014805 then (spec_l10Signed.l0 k1 l1 (x5_1 ++ [(y105.set (x6_1 : Int).toNat t108)]) (wrap64 (x6_1 + 1)) a0_0 l0_1) else (none)) else (none)) else (none))) = some r := by first | (rw [hy105]; with_reducible exact H) | (have H2_ := (Option.bind_some _ _).symm.trans H; rw [hy105]; with_reducible exact H2_) | (have H2_ := (Option.bind_some _ _).symm.trans H; with_reducible exact H2_) | with_reducible exact H | (rw [hy105]; exact H) | exact H
      have Ny105 := Aside0.mk hy105
      clear hy105
      replace H := Option.bind_eq_some_iff.mp H
      obtain ⟨t108, A90, H⟩ := H
      replace H : (if 0 ≤ x6_1 then (if x6_1 < (y105.length : Int) then (if x5_1.length < 5864062014805 then (spec_l10Signed.l0 k1 l1 (x5_1 ++ [(y105.set (x6_1 : Int).toNat t108)]) (wrap64 (x6_1 + 1)) a0_0 l0_1) else (none)) else (none)) else (none)) = some r := H
      have A9 := Aside0.mk A90
      clear A90
      by_cases c10 : 0 ≤ x6_1
      case neg => rw [if_neg c10] at H; exact absurd H (by simp)
      rw [if_pos c10] at H
      have c10b0 : decide (0 ≤ x6_1) = true := decide_eq_true c10
      clear c10
      by_cases c11 : x6_1 < (y105.length : Int)
      case neg => rw [if_neg c11] at H; exact absurd H (by simp)
      rw [if_pos c11] at H
      have c11b0 : decide (x6_1 < (y105.length : Int)) = true := decide_eq_true c11
      clear c11
      obtain ⟨y109, hy109⟩ : ∃ y_ : List Int, y_ = (y105.set (x6_1 : Int).toNat t108) := ⟨_, rfl⟩
      replace H : (if x5_1.length < 5864062014805 then (spec_l10Signed.l0 k1 l1 (x5_1 ++ [y109]) (wrap64 (x6_1 + 1)) a0_0 l0_1) else (none)) = some r := by first | (rw [hy109]; with_reducible exact H) | (have H2_ := (Option.bind_some _ _).symm.trans H; rw [hy109]; with_reducible exact H2_) | (have H2_ := (Option.bind_some _ _).symm.trans H; with_reducible exact H2_) | with_reducible exact H | (rw [hy109]; exact H) | exact H
      have Ny109 := Aside0.mk hy109
      clear hy109
      by_cases c13 : x5_1.length < 5864062014805
      case neg => rw [if_neg c13] at H; exact absurd H (by simp)
      rw [if_pos c13] at H
      have LMc13 := Aside0.mk c13
      clear c13
      obtain ⟨y110, hy110⟩ : ∃ y_ : List (List Int), y_ = (x5_1 ++ [y109]) := ⟨_, rfl⟩
      replace H : (spec_l10Signed.l0 k1 l1 y110 (wrap64 (x6_1 + 1)) a0_0 l0_1) = some r := by first | (rw [hy110]; with_reducible exact H) | (have H2_ := (Option.bind_some _ _).symm.trans H; rw [hy110]; with_reducible exact H2_) | (have H2_ := (Option.bind_some _ _).symm.trans H; with_reducible exact H2_) | with_reducible exact H | (rw [hy110]; exact H) | exact H
      have Ny110 := Aside0.mk hy110
      clear hy110
      have H' := Aside0.mk H
      clear H
      have hcz14_0 : wr.cell? ⟨gb101, 0, none⟩ = some (.int .i64 a0_0) := (blk_cell BK101.out 0).trans rfl
      have hcz14_1 : wr.cell? ⟨gb101, 1, none⟩ = some (.slice A0_1 l0_1.length c0_1) := (blk_cell BK101.out 1).trans rfl
      have hfz14_0 := blk_frozen BK101.out 0
      have hfz14_1 := blk_frozen BK101.out 1
      go_wp2_with (first | ((with_reducible refine gate_dst (N := 22) rfl ?_); refine Kd.R_make (Kd.int .i64) _ 2 rfl (N := 22) rfl 43 _ _ rfl a0_0 rfl rfl Try.underlying43 (.int .i64 0) 8 info2 rfl (by decide) (by omega) 0 (ok := fun _ => True) (okp := fun _ => True) rfl (fun _ hk => hk) trivial oD (Nat.le_trans (Nat.mul_le_mul_right _ (oD : a0_0.toNat ≤ 35184372088832)) (by omega)) (Below.refl _ _) (Nat.le_refl _) ?_; intro v106 w15 ho16 hb hg_ hnew_; clear hg_ hnew_; (first | rw [← Ny105.out] at ho16 | (simp only [Int.reduceToNat] at ho16; rw [← Ny105.out] at ho16)); have n0_ := Aside0.mk (Kd.S_elder' (by (with_reducible repeat (first | apply Kd.S_alloc | apply Kd.S_drewN | apply Kd.S_drew)); exact HO_5.out) (Kd.R_base ho16) hb); have n1_ := Aside0.mk (Kd.R_lower ho16 (below_size bl)); have n2_ := Aside0.mk (blk_below (g := gb101) (o := .cells #[.int .i64 a0_0, .slice A0_1 l0_1.length c0_1] 26 (0, 0)) bk hb); have n3_ := Aside0.mk (below_step bl hb); clear HO_5; clear BK101; clear HB; have HO_5 := n0_; have HO107 := n1_; have BK101 := n2_; have HB := n3_; clear n0_ n1_ n2_ n3_; clear hb ho16; have hcz17_0 : w15.cell? ⟨gb101, 0, none⟩ = some (.int .i64 a0_0) := (blk_cell BK101.out 0).trans rfl; have hcz17_1 : w15.cell? ⟨gb101, 1, none⟩ = some (.slice A0_1 l0_1.length c0_1) := (blk_cell BK101.out 1).trans rfl; have hfz17_0 := blk_frozen BK101.out 0; have hfz17_1 := blk_frozen BK101.out 1) | ((with_reducible refine gate_callee (f := 111) rfl ?_); refine goesL_ (some 27) rfl rfl Try.func111 (by kernel_rfl) rfl #[.agg #[.int .i64 a0_0, .slice A0_1 l0_1.length c0_1], .int .i64 x6_1] rfl gm ?_; (with_reducible refine (spec_l01Degree.calls k1 a0_0 _ _ l0_1 x6_1 t108 _ ?side1 ?side2 A9.out).mono ?_); (case side1 => repeat (first | exact (Kd.C_below HR0_1.out HB.out) | (with_reducible refine Kd.C_alloc ?_ _) | (with_reducible refine Kd.C_drewN ?_ _) | (with_reducible refine Kd.C_drew ?_))); (case side2 => exact HC0_1.out); rintro e w18 ⟨rfl, hb⟩; refine ⟨_, rfl, ?_⟩; have n0_ := Aside0.mk (Kd.S_below (by (with_reducible repeat (first | apply Kd.S_alloc | apply Kd.S_drewN | apply Kd.S_drew)); exact HO_5.out) hb); have n1_ := Aside0.mk (Kd.R_below (by (with_reducible repeat (first | apply Kd.R_alloc | apply Kd.R_drewN | apply Kd.R_drew)); exact HO107.out) hb); have n2_ := Aside0.mk (blk_below (g := gb101) (o := .cells #[.int .i64 a0_0, .slice A0_1 l0_1.length c0_1] 26 (0, 0)) bk hb); have n3_ := Aside0.mk (below_step bl hb); clear HO_5; clear HO107; clear BK101; clear HB; have HO_5 := n0_; have HO107 := n1_; have BK101 := n2_; have HB := n3_; clear n0_ n1_ n2_ n3_; (try clear hb); (try clear hb2); (try clear hk); (try clear hi); have p12 : 0 ≤ (x6_1 : Int) := oD; have q12 : (x6_1 : Int) < ((y105.length : Int) : Int) := oD; obtain ⟨go12, co12, eo12, gb12, gl12, cl12, HG12⟩ := Kd.R_form HO107.out (by omega); (first | cases eo12 | (injection eo12 with ea_ en_ ec_; (first | subst ea_ | (injection ea_ with ea_; subst ea_)); subst ec_; clear en_)); have GB12 := Aside0.mk gb12; have GG12 := Aside0.mk HG12; clear gb12 gl12 HG12; obtain ⟨hx12_0, hf12_0⟩ := Kd.R_celln 0 HO107.out (x6_1 : Int) p12 q12; replace p12 := eq_true p12; replace q12 := eq_true q12; obtain ⟨hy19_, hz19_⟩ := Kd.R_celln 0 HO107.out (x6_1 : Int) oD oD; have HP19 := Kd.R_putg HO107.out (x6_1 : Int) t108) | ((with_reducible refine gate_store (t := 2) (p := 28) rfl ?_); refine store_event (t := 2) (p := 28) (v := ?vo_w20) (w1 := (w18.setCell ⟨go12, (x6_1 : Int).toNat, none⟩ (.int .i64 t108))) ?hg ?ho ?hn ?hr ?_; (case ho => rfl); (case hg => rfl); (case hn => rfl); (case hr => first | (go_simp; done) | (go_simp; rfl)); intro w20 hw; have hg : w18.grownBy w20 (some go12) := (by rw [hw]; exact HP19.2); have hp_ : Kd.R (Kd.int .i64) 2 w20 w.heap.size (fun _ => True) (.slice (some ⟨go12, 0, none⟩) y105.length co12) y109 := (by rw [hw, Ny109.out]; exact HP19.1); clear HP19; have n0_ := Aside0.mk (Kd.S_after (v := (.slice (some ⟨go12, 0, none⟩) y105.length co12)) (v1 := (.slice (some ⟨go12, 0, none⟩) y105.length co12)) (ok := (fun _ => True)) (by (with_reducible repeat (first | apply Kd.S_alloc | apply Kd.S_drewN | apply Kd.S_drew)); exact HO_5.out) hg (.inl rfl)); have n1_ := Aside0.mk (blk_grown (g := gb101) (o := .cells #[.int .i64 a0_0, .slice A0_1 l0_1.length c0_1] 26 (0, 0)) bk hg (Kd.R_ne HO107.out BK101.out (by decide))); have n2_ := Aside0.mk (hp_); have n3_ := Aside0.mk ((by rw [hw]; exact below_set (HB.out) GB12.out : Below w.heap.size w w20)); clear HO_5; clear BK101; clear HO107; clear HB; have HO_5 := n0_; have BK101 := n1_; have HO107 := n2_; have HB := n3_; clear n0_ n1_ n2_ n3_; clear hg hw hp_) | ((with_reducible refine gate_builtin (b := .append) (xs := #[.tmp 29, .tmp 31]) rfl ?_); at_builtin; refine Kd.S_append (Kd.slice 2 (Kd.int .i64)) (w0 := w) w.heap.size rfl (.tmp 29) (.tmp 31) 22 43 (.slice none 0 0) 24 rfl Try.underlying22 info43 rfl (by decide) (by omega) u5 x5_1 y109 [.slice (some ⟨go12, 0, none⟩) y105.length co12] (fun _ => True) (fun k_ => some k_ = (.slice (some ⟨go12, 0, none⟩) y105.length co12 : Value).ownBlock) rfl rfl ?aP (fun k_ hk_ => ((Kd.R_mono (ok' := fun k_ => ((fun _ => True)) k_ ∧ some k_ ≠ (u5 : Value).ownBlock) (Kd.R_apart' (HO107.out) (Kd.S_typed HO_5.out) (by decide)) (fun k_ hk => ⟨trivial, hk.2⟩))).1 k_ hk_.symm) ?aF ?aO ?aB ?aS ?aL ?_; (case aP => exact Kd.M_row (Kd.R_mono (Kd.R_tight rfl (Kd.R_mono (ok' := fun k_ => ((fun _ => True)) k_ ∧ some k_ ≠ (u5 : Value).ownBlock) (Kd.R_apart' (HO107.out) (Kd.S_typed HO_5.out) (by decide)) (fun k_ hk => ⟨trivial, hk.2⟩))) (fun _ h_ => h_))); (case aB => exact bl); (case aF => exact (fun _ _ => trivial)); (case aO => exact (by (with_reducible repeat (first | apply Kd.S_alloc | apply Kd.S_drewN | apply Kd.S_drew)); exact Kd.S_mono HO_5.out (fun k_ hk => ⟨trivial, fun e_ => hk.2 e_⟩))); (case aS => exact (below_size bl)); (case aL => have := LMc13.out; omega); intro v111 w21 ho hb hg hat; rw [← Ny110.out] at ho; have n0_ := Aside0.mk (blk_grown (g := gb101) (o := .cells #[.int .i64 a0_0, .slice A0_1 l0_1.length c0_1] 26 (0, 0)) bk hg (Kd.S_ne HO_5.out BK101.out (by decide))); have n1_ := Aside0.mk (hb); have n2_ := Aside0.mk (ho); clear BK101; clear HB; clear HO_5; clear HO107; have BK101 := n0_; have HB := n1_; have HO112 := n2_; clear n0_ n1_ n2_; clear ho hb hg hat))
      go_roundg k1
      case measure => have := HK1.out; omega
      case rel => exact ⟨(y110), (wrap64 (x6_1 + 1)), rs, H', ⟨by have := HK1.out; omega⟩, ⟨by (with_reducible repeat (first | apply Kd.S_alloc | apply Kd.S_drewN | apply Kd.S_drew)); exact HO112.out⟩, ⟨bk⟩, ⟨bl⟩⟩
end Go.Proofs.Ytpckiapngjcijaa.G
