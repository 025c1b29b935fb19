/- The functions that one law reaches, each as a Lean function, and that Go's call comes to what it says. Condition of each: that the Lean function answers (is not none). -/
import Derived.Test.YtpckiapngjcijaaGx0
import Derived.Test.YtpckiapngjcijaaGx2
import Derived.Test.YtpckiapngjcijaaGx4
import Derived.Test.YtpckiapngjcijaaGx6
namespace Go.Proofs.Ytpckiapngjcijaa.G
open Go.RowKit Go.Proofs.YtpckiapngjcijaaW.PrintWords Go.Proofs.YtpckiapngjcijaaW.PrintLast Go.Proofs.YtpckiapngjcijaaW.PrintMore
attribute [local go_sem] max2_int min2_int max_two min_two max_three min_three max_four min_four   -- for this text's walks alone
set_option linter.unusedVariables false
set_option linter.unusedSimpArgs false

/-! ### spec_SignedNumber: function 51 -/
def spec_SignedNumber.f (k : Nat) (a0_0 : Int) (l0_1 : List (List Int)) (l1 : List Int) : Option (Int × Int) := (spec_l04Signs.f k a0_0 l0_1 l1).bind fun t102 => (if t102 = 0 then ((spec_l10Signed.f k a0_0 l0_1 l1).bind fun t103 => ((spec_l01Berkowitz.f k t103).bind fun t106 => (if (t106.length : Int) = (wrap64 (a0_0 + 1)) then (if 0 ≤ a0_0 then (if a0_0 < (t106.length : Int) then (if (Int.tmod a0_0 2) = 1 then (some (wrap64 (-(rd t106 a0_0)), 0)) else (some (rd t106 a0_0, 0))) else (none)) else (none)) else (some (0, 0))))) else (some (0, t102)))
theorem spec_SignedNumber.mono : ∀ a0 a1 a2 k, LeO (spec_SignedNumber.f k a0 a1 a2) (spec_SignedNumber.f (k + 1) a0 a1 a2) := by
  intro a0 a1 a2 k
  unfold spec_SignedNumber.f
  repeat' first
      | (with_reducible exact spec_l01Berkowitz.mono _ _)
      | (with_reducible exact spec_l04Signs.mono _ _ _ _)
      | (with_reducible exact spec_l10Signed.mono _ _ _ _)
      | (with_reducible exact LeO.refl _)
      | (with_reducible exact LeO.none _)
      | (with_reducible refine LeO.ite ?_ ?_)
      | (with_reducible refine LeO.bind ?_ (fun _ => ?_))
      | exact spec_l01Berkowitz.mono _ _
      | exact spec_l04Signs.mono _ _ _ _
      | exact spec_l10Signed.mono _ _ _ _
      | exact LeO.none _
      | refine LeO.ite ?_ ?_
      | refine LeO.bind ?_ (fun _ => ?_)
set_option maxHeartbeats 8000000 in
set_option maxRecDepth 100000 in
theorem spec_SignedNumber.calls (k : Nat) (a0_0 : Int) (A0_1 : Option Addr) (c0_1 : Nat) (l0_1 : List (List Int)) (A1 : Option Addr) (c1 : Nat) (l1 : List Int) (r1 : Int) (r2 : Int) (w : World) (hr0_1 : Kd.C (Kd.slice 2 (Kd.int .i64)) w A0_1 l0_1.length l0_1) (hc0_1 : l0_1.length ≤ c0_1) (hr1 : Kd.C (Kd.int .i64) w A1 l1.length l1) (hc1 : l1.length ≤ c1) (h : spec_SignedNumber.f k a0_0 l0_1 l1 = some (r1, r2)) :
    Calls Try.prog 51 #[.agg #[.int .i64 a0_0, .slice A0_1 l0_1.length c0_1], .slice A1 l1.length c1] w fun e w' => e = .returned (.tuple #[.int .i64 r1, .int .i64 r2]) ∧ Below w.heap.size w w' := by
  have hu26 := Try.underlying26
  have HR0_1 := Aside0.mk hr0_1
  have HC0_1 := Aside0.mk hc0_1
  clear hr0_1 hc0_1
  have HR1 := Aside0.mk hr1
  have HC1 := Aside0.mk hc1
  clear hr1 hc1
  have HB := Aside0.mk (Below.refl w.heap.size w)
  have H : ((spec_l04Signs.f k a0_0 l0_1 l1).bind fun t102 => (if t102 = 0 then ((spec_l10Signed.f k a0_0 l0_1 l1).bind fun t103 => ((spec_l01Berkowitz.f k t103).bind fun t106 => (if (t106.length : Int) = (wrap64 (a0_0 + 1)) then (if 0 ≤ a0_0 then (if a0_0 < (t106.length : Int) then (if (Int.tmod a0_0 2) = 1 then (some (wrap64 (-(rd t106 a0_0)), 0)) else (some (rd t106 a0_0, 0))) else (none)) else (none)) else (some (0, 0))))) else (some (0, t102)))) = some (r1, r2) := h
  clear h
  replace H := Option.bind_eq_some_iff.mp H
  obtain ⟨t102, A30, H⟩ := H
  replace H : (if t102 = 0 then ((spec_l10Signed.f k a0_0 l0_1 l1).bind fun t103 => ((spec_l01Berkowitz.f k t103).bind fun t106 => (if (t106.length : Int) = (wrap64 (a0_0 + 1)) then (if 0 ≤ a0_0 then (if a0_0 < (t106.length : Int) then (if (Int.tmod a0_0 2) = 1 then (some (wrap64 (-(rd t106 a0_0)), 0)) else (some (rd t106 a0_0, 0))) else (none)) else (none)) else (some (0, 0))))) else (some (0, t102))) = some (r1, r2) := H
  have A3 := Aside0.mk A30
  clear A30
  by_cases c4 : t102 = 0
  case neg =>
    rw [if_neg c4] at H
    have c4b0 : (t102 == 0) = false := beq_eq_false_iff_ne.mpr c4
    have c4b1 : (t102 != 0) = true := bne_iff_ne.mpr c4
    simp only [Option.some.injEq, Prod.mk.injEq] at H
    obtain ⟨rfl, rfl⟩ := H
    go_enter Try.func51, Try.ntmps51
    go_wp2_with (first | ((with_reducible refine gate_dst (N := 2) rfl ?_); refine box_event ?hg (N := 2) ?hd (cs := #[.int .i64 a0_0, .slice A0_1 l0_1.length c0_1]) (t := 26) ?hr ?_; (case hd => rfl); (case hg => rfl); (case hr => first | (go_simp; done) | (go_simp; rfl)); intro gb101 hg w38 hbox hb; have n0_ := Aside0.mk (below_step bl hb); have n1_ := Aside0.mk (hbox); have n2_ := Aside0.mk ((by rw [hg]; exact (below_size bl) : w.heap.size ≤ gb101)); have n3_ := Aside0.mk ((by rw [hg]; exact (below_size bl) : w.heap.size ≤ gb101)); clear HB; have HB := n0_; have BK101 := n1_; have GW101 := n2_; have GE101 := n3_; clear n0_ n1_ n2_ n3_; clear hb hbox hg; have hcz39_0 : w38.cell? ⟨gb101, 0, none⟩ = some (.int .i64 a0_0) := (blk_cell BK101.out 0).trans rfl; have hcz39_1 : w38.cell? ⟨gb101, 1, none⟩ = some (.slice A0_1 l0_1.length c0_1) := (blk_cell BK101.out 1).trans rfl; have hfz39_0 := blk_frozen BK101.out 0; have hfz39_1 := blk_frozen BK101.out 1) | ((with_reducible refine gate_callee (f := 80) rfl ?_); refine goesL_ (some 11) rfl rfl Try.func80 (by kernel_rfl) rfl #[.agg #[.int .i64 a0_0, .slice A0_1 l0_1.length c0_1], .slice A1 l1.length c1] rfl gm ?_; (with_reducible refine (spec_l04Signs.calls k a0_0 _ _ l0_1 _ _ l1 t102 _ ?side1 ?side2 ?side3 ?side4 A3.out).mono ?_); (case side1 => repeat (first | exact (Kd.C_below HR0_1.out HB.out) | (with_reducible refine Kd.C_alloc ?_ _) | (with_reducible refine Kd.C_drewN ?_ _) | (with_reducible refine Kd.C_drew ?_))); (case side2 => exact HC0_1.out); (case side3 => repeat (first | exact (Kd.C_below HR1.out HB.out) | (with_reducible refine Kd.C_alloc ?_ _) | (with_reducible refine Kd.C_drewN ?_ _) | (with_reducible refine Kd.C_drew ?_))); (case side4 => exact HC1.out); rintro e w40 ⟨rfl, hb⟩; refine ⟨_, rfl, ?_⟩; have n0_ := Aside0.mk (blk_below (g := gb101) (o := .cells #[.int .i64 a0_0, .slice A0_1 l0_1.length c0_1] 26 (0, 0)) bk hb); have n1_ := Aside0.mk (below_step bl hb); clear BK101; clear HB; have BK101 := n0_; have HB := n1_; clear n0_ n1_; (try clear hb); (try clear hb2); (try clear hk); (try clear hi)))
    go_ret2
    exact ⟨by first | rfl | (simp [errW_none, errW_some] <;> rfl) | (simp [*, errW_none, errW_some] <;> rfl), bl⟩
  rw [if_pos c4] at H
  have c4b0 : (t102 == 0) = true := beq_iff_eq.mpr c4
  have c4b1 : (t102 != 0) = false := bne_eq_false_iff_eq.mpr c4
  clear c4
  replace H := Option.bind_eq_some_iff.mp H
  obtain ⟨t103, A50, H⟩ := H
  replace H : ((spec_l01Berkowitz.f k t103).bind fun t106 => (if (t106.length : Int) = (wrap64 (a0_0 + 1)) then (if 0 ≤ a0_0 then (if a0_0 < (t106.length : Int) then (if (Int.tmod a0_0 2) = 1 then (some (wrap64 (-(rd t106 a0_0)), 0)) else (some (rd t106 a0_0, 0))) else (none)) else (none)) else (some (0, 0)))) = some (r1, r2) := H
  have A5 := Aside0.mk A50
  clear A50
  replace H := Option.bind_eq_some_iff.mp H
  obtain ⟨t106, A60, H⟩ := H
  replace H : (if (t106.length : Int) = (wrap64 (a0_0 + 1)) then (if 0 ≤ a0_0 then (if a0_0 < (t106.length : Int) then (if (Int.tmod a0_0 2) = 1 then (some (wrap64 (-(rd t106 a0_0)), 0)) else (some (rd t106 a0_0, 0))) else (none)) else (none)) else (some (0, 0))) = some (r1, r2) := H
  have A6 := Aside0.mk A60
  clear A60
  by_cases c7 : (t106.length : Int) = (wrap64 (a0_0 + 1))
  case neg =>
    rw [if_neg c7] at H
    have c7b0 : ((t106.length : Int) == (wrap64 (a0_0 + 1))) = false := beq_eq_false_iff_ne.mpr c7
    have c7b1 : ((t106.length : Int) != (wrap64 (a0_0 + 1))) = true := bne_iff_ne.mpr c7
    simp only [Option.some.injEq, Prod.mk.injEq] at H
    obtain ⟨rfl, rfl⟩ := H
    go_enter Try.func51, Try.ntmps51
    go_wp2_with (first | ((with_reducible refine gate_dst (N := 2) rfl ?_); refine box_event ?hg (N := 2) ?hd (cs := #[.int .i64 a0_0, .slice A0_1 l0_1.length c0_1]) (t := 26) ?hr ?_; (case hd => rfl); (case hg => rfl); (case hr => first | (go_simp; done) | (go_simp; rfl)); intro gb101 hg w29 hbox hb; have n0_ := Aside0.mk (below_step bl hb); have n1_ := Aside0.mk (hbox); have n2_ := Aside0.mk ((by rw [hg]; exact (below_size bl) : w.heap.size ≤ gb101)); have n3_ := Aside0.mk ((by rw [hg]; exact (below_size bl) : w.heap.size ≤ gb101)); clear HB; have HB := n0_; have BK101 := n1_; have GW101 := n2_; have GE101 := n3_; clear n0_ n1_ n2_ n3_; clear hb hbox hg; have hcz30_0 : w29.cell? ⟨gb101, 0, none⟩ = some (.int .i64 a0_0) := (blk_cell BK101.out 0).trans rfl; have hcz30_1 : w29.cell? ⟨gb101, 1, none⟩ = some (.slice A0_1 l0_1.length c0_1) := (blk_cell BK101.out 1).trans rfl; have hfz30_0 := blk_frozen BK101.out 0; have hfz30_1 := blk_frozen BK101.out 1) | ((with_reducible refine gate_callee (f := 80) rfl ?_); refine goesL_ (some 11) rfl rfl Try.func80 (by kernel_rfl) rfl #[.agg #[.int .i64 a0_0, .slice A0_1 l0_1.length c0_1], .slice A1 l1.length c1] rfl gm ?_; (with_reducible refine (spec_l04Signs.calls k a0_0 _ _ l0_1 _ _ l1 t102 _ ?side1 ?side2 ?side3 ?side4 A3.out).mono ?_); (case side1 => repeat (first | exact (Kd.C_below HR0_1.out HB.out) | (with_reducible refine Kd.C_alloc ?_ _) | (with_reducible refine Kd.C_drewN ?_ _) | (with_reducible refine Kd.C_drew ?_))); (case side2 => exact HC0_1.out); (case side3 => repeat (first | exact (Kd.C_below HR1.out HB.out) | (with_reducible refine Kd.C_alloc ?_ _) | (with_reducible refine Kd.C_drewN ?_ _) | (with_reducible refine Kd.C_drew ?_))); (case side4 => exact HC1.out); rintro e w31 ⟨rfl, hb⟩; refine ⟨_, rfl, ?_⟩; have n0_ := Aside0.mk (blk_below (g := gb101) (o := .cells #[.int .i64 a0_0, .slice A0_1 l0_1.length c0_1] 26 (0, 0)) bk hb); have n1_ := Aside0.mk (below_step bl hb); clear BK101; clear HB; have BK101 := n0_; have HB := n1_; clear n0_ n1_; (try clear hb); (try clear hb2); (try clear hk); (try clear hi); have hcz32_0 : w31.cell? ⟨gb101, 0, none⟩ = some (.int .i64 a0_0) := (blk_cell BK101.out 0).trans rfl; have hcz32_1 : w31.cell? ⟨gb101, 1, none⟩ = some (.slice A0_1 l0_1.length c0_1) := (blk_cell BK101.out 1).trans rfl; have hfz32_0 := blk_frozen BK101.out 0; have hfz32_1 := blk_frozen BK101.out 1) | ((with_reducible refine gate_callee (f := 105) rfl ?_); refine goesL_ (some 17) rfl rfl Try.func105 (by kernel_rfl) rfl #[.agg #[.int .i64 a0_0, .slice A0_1 l0_1.length c0_1], .slice A1 l1.length c1] rfl gm ?_; (with_reducible refine (spec_l10Signed.calls k a0_0 _ _ l0_1 _ _ l1 t103 _ ?side1 ?side2 ?side3 ?side4 A5.out).mono ?_); (case side1 => repeat (first | exact (Kd.C_below HR0_1.out HB.out) | (with_reducible refine Kd.C_alloc ?_ _) | (with_reducible refine Kd.C_drewN ?_ _) | (with_reducible refine Kd.C_drew ?_))); (case side2 => exact HC0_1.out); (case side3 => repeat (first | exact (Kd.C_below HR1.out HB.out) | (with_reducible refine Kd.C_alloc ?_ _) | (with_reducible refine Kd.C_drewN ?_ _) | (with_reducible refine Kd.C_drew ?_))); (case side4 => exact HC1.out); rintro e w33 ⟨v104, rfl, ho0, hb⟩; refine ⟨_, rfl, ?_⟩; have n0_ := Aside0.mk (Kd.S_lower ho0 (below_size bl)); have n1_ := Aside0.mk (blk_below (g := gb101) (o := .cells #[.int .i64 a0_0, .slice A0_1 l0_1.length c0_1] 26 (0, 0)) bk hb); have n2_ := Aside0.mk (below_step bl hb); clear BK101; clear HB; have HO105 := n0_; have BK101 := n1_; have HB := n2_; clear n0_ n1_ n2_; (try clear hb); (try clear hb2); (try clear hk); (try clear hi); (try clear ho0); obtain ⟨Ao34, co34, eo34⟩ := Kd.S_slice HO105.out; subst eo34) | ((with_reducible refine gate_callee (f := 104) rfl ?_); refine goesL_ (some 18) rfl rfl Try.func104 (by kernel_rfl) rfl #[.slice Ao34 t103.length co34] rfl gm ?_; (with_reducible refine (spec_l01Berkowitz.calls k _ _ t103 t106 _ ?side1 ?side2 A6.out).mono ?_); (case side1 => repeat (first | exact (Kd.S_reads' HO105.out).2.2 | (with_reducible refine Kd.C_alloc ?_ _) | (with_reducible refine Kd.C_drewN ?_ _) | (with_reducible refine Kd.C_drew ?_))); (case side2 => exact (Kd.S_reads' HO105.out).2.1); rintro e w35 ⟨v107, rfl, ho0, hb⟩; refine ⟨_, rfl, ?_⟩; have n0_ := Aside0.mk (Kd.S_elder' (by (with_reducible repeat (first | apply Kd.S_alloc | apply Kd.S_drewN | apply Kd.S_drew)); exact HO105.out) (Kd.R_base ho0) hb); have n1_ := Aside0.mk (Kd.R_lower ho0 (below_size bl)); have n2_ := Aside0.mk (blk_below (g := gb101) (o := .cells #[.int .i64 a0_0, .slice A0_1 l0_1.length c0_1] 26 (0, 0)) bk hb); have n3_ := Aside0.mk (below_step bl hb); clear HO105; clear BK101; clear HB; have HO105 := n0_; have HO108 := n1_; have BK101 := n2_; have HB := n3_; clear n0_ n1_ n2_ n3_; (try clear hb); (try clear hb2); (try clear hk); (try clear hi); (try clear ho0); obtain ⟨Ao36, co36, eo36⟩ := Kd.R_slice HO108.out; subst eo36; have hcz37_0 : w35.cell? ⟨gb101, 0, none⟩ = some (.int .i64 a0_0) := (blk_cell BK101.out 0).trans rfl; have hcz37_1 : w35.cell? ⟨gb101, 1, none⟩ = some (.slice A0_1 l0_1.length c0_1) := (blk_cell BK101.out 1).trans rfl; have hfz37_0 := blk_frozen BK101.out 0; have hfz37_1 := blk_frozen BK101.out 1))
    go_ret2
    exact ⟨by first | rfl | (simp [errW_none, errW_some] <;> rfl) | (simp [*, errW_none, errW_some] <;> rfl), bl⟩
  rw [if_pos c7] at H
  have c7b0 : ((t106.length : Int) == (wrap64 (a0_0 + 1))) = true := beq_iff_eq.mpr c7
  have c7b1 : ((t106.length : Int) != (wrap64 (a0_0 + 1))) = false := bne_eq_false_iff_eq.mpr c7
  clear c7
  by_cases c8 : 0 ≤ a0_0
  case neg => rw [if_neg c8] at H; exact absurd H (by simp)
  rw [if_pos c8] at H
  have c8b0 : decide (0 ≤ a0_0) = true := decide_eq_true c8
  clear c8
  by_cases c9 : a0_0 < (t106.length : Int)
  case neg => rw [if_neg c9] at H; exact absurd H (by simp)
  rw [if_pos c9] at H
  have c9b0 : decide (a0_0 < (t106.length : Int)) = true := decide_eq_true c9
  clear c9
  by_cases c10 : (Int.tmod a0_0 2) = 1
  case neg =>
    rw [if_neg c10] at H
    have c10b0 : ((Int.tmod a0_0 2) == 1) = false := beq_eq_false_iff_ne.mpr c10
    have c10b1 : ((Int.tmod a0_0 2) != 1) = true := bne_iff_ne.mpr c10
    simp only [Option.some.injEq, Prod.mk.injEq] at H
    obtain ⟨rfl, rfl⟩ := H
    go_enter Try.func51, Try.ntmps51
    go_wp2_with (first | ((with_reducible refine gate_dst (N := 2) rfl ?_); refine box_event ?hg (N := 2) ?hd (cs := #[.int .i64 a0_0, .slice A0_1 l0_1.length c0_1]) (t := 26) ?hr ?_; (case hd => rfl); (case hg => rfl); (case hr => first | (go_simp; done) | (go_simp; rfl)); intro gb101 hg w20 hbox hb; have n0_ := Aside0.mk (below_step bl hb); have n1_ := Aside0.mk (hbox); have n2_ := Aside0.mk ((by rw [hg]; exact (below_size bl) : w.heap.size ≤ gb101)); have n3_ := Aside0.mk ((by rw [hg]; exact (below_size bl) : w.heap.size ≤ gb101)); clear HB; have HB := n0_; have BK101 := n1_; have GW101 := n2_; have GE101 := n3_; clear n0_ n1_ n2_ n3_; clear hb hbox hg; have hcz21_0 : w20.cell? ⟨gb101, 0, none⟩ = some (.int .i64 a0_0) := (blk_cell BK101.out 0).trans rfl; have hcz21_1 : w20.cell? ⟨gb101, 1, none⟩ = some (.slice A0_1 l0_1.length c0_1) := (blk_cell BK101.out 1).trans rfl; have hfz21_0 := blk_frozen BK101.out 0; have hfz21_1 := blk_frozen BK101.out 1) | ((with_reducible refine gate_callee (f := 80) rfl ?_); refine goesL_ (some 11) rfl rfl Try.func80 (by kernel_rfl) rfl #[.agg #[.int .i64 a0_0, .slice A0_1 l0_1.length c0_1], .slice A1 l1.length c1] rfl gm ?_; (with_reducible refine (spec_l04Signs.calls k a0_0 _ _ l0_1 _ _ l1 t102 _ ?side1 ?side2 ?side3 ?side4 A3.out).mono ?_); (case side1 => repeat (first | exact (Kd.C_below HR0_1.out HB.out) | (with_reducible refine Kd.C_alloc ?_ _) | (with_reducible refine Kd.C_drewN ?_ _) | (with_reducible refine Kd.C_drew ?_))); (case side2 => exact HC0_1.out); (case side3 => repeat (first | exact (Kd.C_below HR1.out HB.out) | (with_reducible refine Kd.C_alloc ?_ _) | (with_reducible refine Kd.C_drewN ?_ _) | (with_reducible refine Kd.C_drew ?_))); (case side4 => exact HC1.out); rintro e w22 ⟨rfl, hb⟩; refine ⟨_, rfl, ?_⟩; have n0_ := Aside0.mk (blk_below (g := gb101) (o := .cells #[.int .i64 a0_0, .slice A0_1 l0_1.length c0_1] 26 (0, 0)) bk hb); have n1_ := Aside0.mk (below_step bl hb); clear BK101; clear HB; have BK101 := n0_; have HB := n1_; clear n0_ n1_; (try clear hb); (try clear hb2); (try clear hk); (try clear hi); have hcz23_0 : w22.cell? ⟨gb101, 0, none⟩ = some (.int .i64 a0_0) := (blk_cell BK101.out 0).trans rfl; have hcz23_1 : w22.cell? ⟨gb101, 1, none⟩ = some (.slice A0_1 l0_1.length c0_1) := (blk_cell BK101.out 1).trans rfl; have hfz23_0 := blk_frozen BK101.out 0; have hfz23_1 := blk_frozen BK101.out 1) | ((with_reducible refine gate_callee (f := 105) rfl ?_); refine goesL_ (some 17) rfl rfl Try.func105 (by kernel_rfl) rfl #[.agg #[.int .i64 a0_0, .slice A0_1 l0_1.length c0_1], .slice A1 l1.length c1] rfl gm ?_; (with_reducible refine (spec_l10Signed.calls k a0_0 _ _ l0_1 _ _ l1 t103 _ ?side1 ?side2 ?side3 ?side4 A5.out).mono ?_); (case side1 => repeat (first | exact (Kd.C_below HR0_1.out HB.out) | (with_reducible refine Kd.C_alloc ?_ _) | (with_reducible refine Kd.C_drewN ?_ _) | (with_reducible refine Kd.C_drew ?_))); (case side2 => exact HC0_1.out); (case side3 => repeat (first | exact (Kd.C_below HR1.out HB.out) | (with_reducible refine Kd.C_alloc ?_ _) | (with_reducible refine Kd.C_drewN ?_ _) | (with_reducible refine Kd.C_drew ?_))); (case side4 => exact HC1.out); rintro e w24 ⟨v104, rfl, ho0, hb⟩; refine ⟨_, rfl, ?_⟩; have n0_ := Aside0.mk (Kd.S_lower ho0 (below_size bl)); have n1_ := Aside0.mk (blk_below (g := gb101) (o := .cells #[.int .i64 a0_0, .slice A0_1 l0_1.length c0_1] 26 (0, 0)) bk hb); have n2_ := Aside0.mk (below_step bl hb); clear BK101; clear HB; have HO105 := n0_; have BK101 := n1_; have HB := n2_; clear n0_ n1_ n2_; (try clear hb); (try clear hb2); (try clear hk); (try clear hi); (try clear ho0); obtain ⟨Ao25, co25, eo25⟩ := Kd.S_slice HO105.out; subst eo25) | ((with_reducible refine gate_callee (f := 104) rfl ?_); refine goesL_ (some 18) rfl rfl Try.func104 (by kernel_rfl) rfl #[.slice Ao25 t103.length co25] rfl gm ?_; (with_reducible refine (spec_l01Berkowitz.calls k _ _ t103 t106 _ ?side1 ?side2 A6.out).mono ?_); (case side1 => repeat (first | exact (Kd.S_reads' HO105.out).2.2 | (with_reducible refine Kd.C_alloc ?_ _) | (with_reducible refine Kd.C_drewN ?_ _) | (with_reducible refine Kd.C_drew ?_))); (case side2 => exact (Kd.S_reads' HO105.out).2.1); rintro e w26 ⟨v107, rfl, ho0, hb⟩; refine ⟨_, rfl, ?_⟩; have n0_ := Aside0.mk (Kd.S_elder' (by (with_reducible repeat (first | apply Kd.S_alloc | apply Kd.S_drewN | apply Kd.S_drew)); exact HO105.out) (Kd.R_base ho0) hb); have n1_ := Aside0.mk (Kd.R_lower ho0 (below_size bl)); have n2_ := Aside0.mk (blk_below (g := gb101) (o := .cells #[.int .i64 a0_0, .slice A0_1 l0_1.length c0_1] 26 (0, 0)) bk hb); have n3_ := Aside0.mk (below_step bl hb); clear HO105; clear BK101; clear HB; have HO105 := n0_; have HO108 := n1_; have BK101 := n2_; have HB := n3_; clear n0_ n1_ n2_ n3_; (try clear hb); (try clear hb2); (try clear hk); (try clear hi); (try clear ho0); obtain ⟨Ao27, co27, eo27⟩ := Kd.R_slice HO108.out; subst eo27; have hcz28_0 : w26.cell? ⟨gb101, 0, none⟩ = some (.int .i64 a0_0) := (blk_cell BK101.out 0).trans rfl; have hcz28_1 : w26.cell? ⟨gb101, 1, none⟩ = some (.slice A0_1 l0_1.length c0_1) := (blk_cell BK101.out 1).trans rfl; have hfz28_0 := blk_frozen BK101.out 0; have hfz28_1 := blk_frozen BK101.out 1; have p109 : 0 ≤ (a0_0 : Int) := oD; have q109 : a0_0 < (t106.length : Int) := oD; obtain ⟨ad109, e109, hx109_0⟩ := Kd.at_int (Kd.R_reads' HO108.out).2.2 a0_0 p109 q109; cases e109; replace p109 := eq_true p109; replace q109 := eq_true q109))
    go_ret2
    exact ⟨by first | rfl | (simp [errW_none, errW_some] <;> rfl) | (simp [*, errW_none, errW_some] <;> rfl), bl⟩
  rw [if_pos c10] at H
  have c10b0 : ((Int.tmod a0_0 2) == 1) = true := beq_iff_eq.mpr c10
  have c10b1 : ((Int.tmod a0_0 2) != 1) = false := bne_eq_false_iff_eq.mpr c10
  clear c10
  simp only [Option.some.injEq, Prod.mk.injEq] at H
  obtain ⟨rfl, rfl⟩ := H
  go_enter Try.func51, Try.ntmps51
  go_wp2_with (first | ((with_reducible refine gate_dst (N := 2) rfl ?_); refine box_event ?hg (N := 2) ?hd (cs := #[.int .i64 a0_0, .slice A0_1 l0_1.length c0_1]) (t := 26) ?hr ?_; (case hd => rfl); (case hg => rfl); (case hr => first | (go_simp; done) | (go_simp; rfl)); intro gb101 hg w11 hbox hb; have n0_ := Aside0.mk (below_step bl hb); have n1_ := Aside0.mk (hbox); have n2_ := Aside0.mk ((by rw [hg]; exact (below_size bl) : w.heap.size ≤ gb101)); have n3_ := Aside0.mk ((by rw [hg]; exact (below_size bl) : w.heap.size ≤ gb101)); clear HB; have HB := n0_; have BK101 := n1_; have GW101 := n2_; have GE101 := n3_; clear n0_ n1_ n2_ n3_; clear hb hbox hg; have hcz12_0 : w11.cell? ⟨gb101, 0, none⟩ = some (.int .i64 a0_0) := (blk_cell BK101.out 0).trans rfl; have hcz12_1 : w11.cell? ⟨gb101, 1, none⟩ = some (.slice A0_1 l0_1.length c0_1) := (blk_cell BK101.out 1).trans rfl; have hfz12_0 := blk_frozen BK101.out 0; have hfz12_1 := blk_frozen BK101.out 1) | ((with_reducible refine gate_callee (f := 80) rfl ?_); refine goesL_ (some 11) rfl rfl Try.func80 (by kernel_rfl) rfl #[.agg #[.int .i64 a0_0, .slice A0_1 l0_1.length c0_1], .slice A1 l1.length c1] rfl gm ?_; (with_reducible refine (spec_l04Signs.calls k a0_0 _ _ l0_1 _ _ l1 t102 _ ?side1 ?side2 ?side3 ?side4 A3.out).mono ?_); (case side1 => repeat (first | exact (Kd.C_below HR0_1.out HB.out) | (with_reducible refine Kd.C_alloc ?_ _) | (with_reducible refine Kd.C_drewN ?_ _) | (with_reducible refine Kd.C_drew ?_))); (case side2 => exact HC0_1.out); (case side3 => repeat (first | exact (Kd.C_below HR1.out HB.out) | (with_reducible refine Kd.C_alloc ?_ _) | (with_reducible refine Kd.C_drewN ?_ _) | (with_reducible refine Kd.C_drew ?_))); (case side4 => exact HC1.out); rintro e w13 ⟨rfl, hb⟩; refine ⟨_, rfl, ?_⟩; have n0_ := Aside0.mk (blk_below (g := gb101) (o := .cells #[.int .i64 a0_0, .slice A0_1 l0_1.length c0_1] 26 (0, 0)) bk hb); have n1_ := Aside0.mk (below_step bl hb); clear BK101; clear HB; have BK101 := n0_; have HB := n1_; clear n0_ n1_; (try clear hb); (try clear hb2); (try clear hk); (try clear hi); have hcz14_0 : w13.cell? ⟨gb101, 0, none⟩ = some (.int .i64 a0_0) := (blk_cell BK101.out 0).trans rfl; have hcz14_1 : w13.cell? ⟨gb101, 1, none⟩ = some (.slice A0_1 l0_1.length c0_1) := (blk_cell BK101.out 1).trans rfl; have hfz14_0 := blk_frozen BK101.out 0; have hfz14_1 := blk_frozen BK101.out 1) | ((with_reducible refine gate_callee (f := 105) rfl ?_); refine goesL_ (some 17) rfl rfl Try.func105 (by kernel_rfl) rfl #[.agg #[.int .i64 a0_0, .slice A0_1 l0_1.length c0_1], .slice A1 l1.length c1] rfl gm ?_; (with_reducible refine (spec_l10Signed.calls k a0_0 _ _ l0_1 _ _ l1 t103 _ ?side1 ?side2 ?side3 ?side4 A5.out).mono ?_); (case side1 => repeat (first | exact (Kd.C_below HR0_1.out HB.out) | (with_reducible refine Kd.C_alloc ?_ _) | (with_reducible refine Kd.C_drewN ?_ _) | (with_reducible refine Kd.C_drew ?_))); (case side2 => exact HC0_1.out); (case side3 => repeat (first | exact (Kd.C_below HR1.out HB.out) | (with_reducible refine Kd.C_alloc ?_ _) | (with_reducible refine Kd.C_drewN ?_ _) | (with_reducible refine Kd.C_drew ?_))); (case side4 => exact HC1.out); rintro e w15 ⟨v104, rfl, ho0, hb⟩; refine ⟨_, rfl, ?_⟩; have n0_ := Aside0.mk (Kd.S_lower ho0 (below_size bl)); have n1_ := Aside0.mk (blk_below (g := gb101) (o := .cells #[.int .i64 a0_0, .slice A0_1 l0_1.length c0_1] 26 (0, 0)) bk hb); have n2_ := Aside0.mk (below_step bl hb); clear BK101; clear HB; have HO105 := n0_; have BK101 := n1_; have HB := n2_; clear n0_ n1_ n2_; (try clear hb); (try clear hb2); (try clear hk); (try clear hi); (try clear ho0); obtain ⟨Ao16, co16, eo16⟩ := Kd.S_slice HO105.out; subst eo16) | ((with_reducible refine gate_callee (f := 104) rfl ?_); refine goesL_ (some 18) rfl rfl Try.func104 (by kernel_rfl) rfl #[.slice Ao16 t103.length co16] rfl gm ?_; (with_reducible refine (spec_l01Berkowitz.calls k _ _ t103 t106 _ ?side1 ?side2 A6.out).mono ?_); (case side1 => repeat (first | exact (Kd.S_reads' HO105.out).2.2 | (with_reducible refine Kd.C_alloc ?_ _) | (with_reducible refine Kd.C_drewN ?_ _) | (with_reducible refine Kd.C_drew ?_))); (case side2 => exact (Kd.S_reads' HO105.out).2.1); rintro e w17 ⟨v107, rfl, ho0, hb⟩; refine ⟨_, rfl, ?_⟩; have n0_ := Aside0.mk (Kd.S_elder' (by (with_reducible repeat (first | apply Kd.S_alloc | apply Kd.S_drewN | apply Kd.S_drew)); exact HO105.out) (Kd.R_base ho0) hb); have n1_ := Aside0.mk (Kd.R_lower ho0 (below_size bl)); have n2_ := Aside0.mk (blk_below (g := gb101) (o := .cells #[.int .i64 a0_0, .slice A0_1 l0_1.length c0_1] 26 (0, 0)) bk hb); have n3_ := Aside0.mk (below_step bl hb); clear HO105; clear BK101; clear HB; have HO105 := n0_; have HO108 := n1_; have BK101 := n2_; have HB := n3_; clear n0_ n1_ n2_ n3_; (try clear hb); (try clear hb2); (try clear hk); (try clear hi); (try clear ho0); obtain ⟨Ao18, co18, eo18⟩ := Kd.R_slice HO108.out; subst eo18; have hcz19_0 : w17.cell? ⟨gb101, 0, none⟩ = some (.int .i64 a0_0) := (blk_cell BK101.out 0).trans rfl; have hcz19_1 : w17.cell? ⟨gb101, 1, none⟩ = some (.slice A0_1 l0_1.length c0_1) := (blk_cell BK101.out 1).trans rfl; have hfz19_0 := blk_frozen BK101.out 0; have hfz19_1 := blk_frozen BK101.out 1; have p109 : 0 ≤ (a0_0 : Int) := oD; have q109 : a0_0 < (t106.length : Int) := oD; obtain ⟨ad109, e109, hx109_0⟩ := Kd.at_int (Kd.R_reads' HO108.out).2.2 a0_0 p109 q109; cases e109; replace p109 := eq_true p109; replace q109 := eq_true q109))
  go_ret2
  exact ⟨by first | rfl | (simp [errW_none, errW_some] <;> rfl) | (simp [*, errW_none, errW_some] <;> rfl), bl⟩
/-! ### impl_within: function 112 -/
def impl_within.f (a0 : Int) (a1 : Int) (a2 : Int) : Option (Bool) := if a0 ≥ a1 then (some (decide (a0 ≤ a2))) else (some false)
set_option maxHeartbeats 8000000 in
set_option maxRecDepth 100000 in
theorem impl_within.calls (a0 : Int) (a1 : Int) (a2 : Int) (r : Bool) (w : World) (h : impl_within.f a0 a1 a2 = some r) :
    Calls Try.prog 112 #[.int .i64 a0, .int .i64 a1, .int .i64 a2] w fun e w' => e = .returned (.bool r) ∧ Drawn0 w w' := by
  have H : (if a0 ≥ a1 then (some (decide (a0 ≤ a2))) else (some false)) = some r := h
  clear h
  by_cases c4 : a0 ≥ a1
  case neg =>
    rw [if_neg c4] at H
    have c4b0 : decide (a1 ≤ a0) = false := decide_eq_false c4
    clear c4
    obtain rfl := Option.some.inj H
    go_enter Try.func112, Try.ntmps112
    go_wp2
    go_ret
    exact ⟨by first | rfl | (simp; done) | (simp [*]; done), by repeat (first | exact Drawn0.refl _ | apply Drawn0.step)⟩
  rw [if_pos c4] at H
  have c4b0 : decide (a1 ≤ a0) = true := decide_eq_true c4
  clear c4
  obtain rfl := Option.some.inj H
  go_enter Try.func112, Try.ntmps112
  go_wp2
  go_ret
  exact ⟨by first | rfl | (simp; done) | (simp [*]; done), by repeat (first | exact Drawn0.refl _ | apply Drawn0.step)⟩
/-! ### impl_IsGraph: function 57 -/
def impl_IsGraph.l0 : Nat → List (List Int) → Int → Int → Int → List (List Int) → Option (Bool)
  | 0, _, _, _, _, _ => none
  | k + 1, x6, x7, x8, x102000, x102001 => if x8 < x7 then (if 0 ≤ x8 then (if x8 < (x6.length : Int) then (if ((rd_L1 x6 x8).length : Int) = 2 then (if 0 < ((rd_L1 x6 x8).length : Int) then ((impl_within.f (rd (rd_L1 x6 x8) 0) 0 (wrap64 (x102000 - 1))).bind fun t105 => (if t105 = true then (if 1 < ((rd_L1 x6 x8).length : Int) then ((impl_within.f (rd (rd_L1 x6 x8) 1) 0 (wrap64 (x102000 - 1))).bind fun t107 => (if t107 = true then (impl_IsGraph.l0 k x6 x7 (wrap64 (x8 + 1)) x102000 x102001) else (some false))) else (none)) else (some false))) else (none)) else (some false)) else (none)) else (none)) else ((impl_within.f x102000 1 8).bind fun t102 => (if t102 = true then (some (decide ((x102001.length : Int) ≤ 10))) else (some false)))
def impl_IsGraph.f (k : Nat) (a0_0 : Int) (l0_1 : List (List Int)) : Option (Bool) := impl_IsGraph.l0 k l0_1 (l0_1.length : Int) 0 a0_0 l0_1
theorem impl_IsGraph.mono_l : ∀ k, (∀ y0 y1 y2 y3 y4, LeO (impl_IsGraph.l0 k y0 y1 y2 y3 y4) (impl_IsGraph.l0 (k + 1) y0 y1 y2 y3 y4))
  | 0 => fun _ _ _ _ _ r h => by simp [impl_IsGraph.l0] at h
  | k + 1 => by
    have ih0 := impl_IsGraph.mono_l k
    · intro y0 y1 y2 y3 y4
      unfold impl_IsGraph.l0
      repeat' first
      | (with_reducible exact ih0 _ _ _ _ _)
      | (with_reducible exact LeO.refl _)
      | (with_reducible exact LeO.none _)
      | (with_reducible refine LeO.ite ?_ ?_)
      | (with_reducible refine LeO.bind ?_ (fun _ => ?_))
      | exact ih0 _ _ _ _ _
      | exact LeO.none _
      | refine LeO.ite ?_ ?_
      | refine LeO.bind ?_ (fun _ => ?_)
theorem impl_IsGraph.mono : ∀ a0 a1 k, LeO (impl_IsGraph.f k a0 a1) (impl_IsGraph.f (k + 1) a0 a1) := by
  intro a0 a1 k
  have ih0 := impl_IsGraph.mono_l k
  unfold impl_IsGraph.f
  repeat' first
      | (with_reducible exact ih0 _ _ _ _ _)
      | (with_reducible exact LeO.refl _)
      | (with_reducible exact LeO.none _)
      | (with_reducible refine LeO.ite ?_ ?_)
      | (with_reducible refine LeO.bind ?_ (fun _ => ?_))
      | exact ih0 _ _ _ _ _
      | exact LeO.none _
      | refine LeO.ite ?_ ?_
      | refine LeO.bind ?_ (fun _ => ?_)
set_option maxHeartbeats 8000000 in
set_option maxRecDepth 100000 in
theorem impl_IsGraph.calls (k : Nat) (a0_0 : Int) (A0_1 : Option Addr) (c0_1 : Nat) (l0_1 : List (List Int)) (r : Bool) (w : World) (hr0_1 : Kd.C (Kd.slice 2 (Kd.int .i64)) w A0_1 l0_1.length l0_1) (hc0_1 : l0_1.length ≤ c0_1) (h : impl_IsGraph.f k a0_0 l0_1 = some r) :
    Calls Try.prog 57 #[.agg #[.int .i64 a0_0, .slice A0_1 l0_1.length c0_1]] w fun e w' => e = .returned (.bool r) ∧ Below w.heap.size w w' := by
  have hu26 := Try.underlying26
  have HR0_1 := Aside0.mk hr0_1
  have HC0_1 := Aside0.mk hc0_1
  clear hr0_1 hc0_1
  have HB := Aside0.mk (Below.refl w.heap.size w)
  have H : (impl_IsGraph.l0 k l0_1 (l0_1.length : Int) 0 a0_0 l0_1) = some r := h
  clear h
  have H' := Aside0.mk H
  clear H
  go_enter Try.func57, Try.ntmps57
  go_wp2_with (first | ((with_reducible refine gate_dst (N := 1) rfl ?_); (try (refine gate_guard (by rfl) ?_; dsimp only)); refine box_event ?hg (N := 1) ?hd (cs := #[.int .i64 a0_0, .slice A0_1 l0_1.length c0_1]) (t := 26) ?hr ?_; (case hd => rfl); (case hg => rfl); (case hr => first | (go_simp; done) | (go_simp; rfl)); intro gb101 hg w2 hbox hb; have n0_ := Aside0.mk (below_step bl hb); have n1_ := Aside0.mk (hbox); have n2_ := Aside0.mk ((by rw [hg]; exact (below_size bl) : w.heap.size ≤ gb101)); have n3_ := Aside0.mk ((by rw [hg]; exact (below_size bl) : w.heap.size ≤ gb101)); clear HB; have HB := n0_; have BK101 := n1_; have GW101 := n2_; have GE101 := n3_; clear n0_ n1_ n2_ n3_; clear hb hbox hg; have hcz3_0 : w2.cell? ⟨gb101, 0, none⟩ = some (.int .i64 a0_0) := (blk_cell BK101.out 0).trans rfl; have hcz3_1 : w2.cell? ⟨gb101, 1, none⟩ = some (.slice A0_1 l0_1.length c0_1) := (blk_cell BK101.out 1).trans rfl; have hfz3_0 := blk_frozen BK101.out 0; have hfz3_1 := blk_frozen BK101.out 1))
  repeat (go_quiet (first | ((with_reducible refine gate_dst (N := 1) rfl ?_); (try (refine gate_guard (by rfl) ?_; dsimp only)); refine box_event ?hg (N := 1) ?hd (cs := #[.int .i64 a0_0, .slice A0_1 l0_1.length c0_1]) (t := 26) ?hr ?_; (case hd => rfl); (case hg => rfl); (case hr => first | (go_simp; done) | (go_simp; rfl)); intro gb101 hg w2 hbox hb; have n0_ := Aside0.mk (below_step bl hb); have n1_ := Aside0.mk (hbox); have n2_ := Aside0.mk ((by rw [hg]; exact (below_size bl) : w.heap.size ≤ gb101)); have n3_ := Aside0.mk ((by rw [hg]; exact (below_size bl) : w.heap.size ≤ gb101)); clear HB; have HB := n0_; have BK101 := n1_; have GW101 := n2_; have GE101 := n3_; clear n0_ n1_ n2_ n3_; clear hb hbox hg; have hcz3_0 : w2.cell? ⟨gb101, 0, none⟩ = some (.int .i64 a0_0) := (blk_cell BK101.out 0).trans rfl; have hcz3_1 : w2.cell? ⟨gb101, 1, none⟩ = some (.slice A0_1 l0_1.length c0_1) := (blk_cell BK101.out 1).trans rfl; have hfz3_0 := blk_frozen BK101.out 0; have hfz3_1 := blk_frozen BK101.out 1)); try go_wp2_with (first | ((with_reducible refine gate_dst (N := 1) rfl ?_); (try (refine gate_guard (by rfl) ?_; dsimp only)); refine box_event ?hg (N := 1) ?hd (cs := #[.int .i64 a0_0, .slice A0_1 l0_1.length c0_1]) (t := 26) ?hr ?_; (case hd => rfl); (case hg => rfl); (case hr => first | (go_simp; done) | (go_simp; rfl)); intro gb101 hg w2 hbox hb; have n0_ := Aside0.mk (below_step bl hb); have n1_ := Aside0.mk (hbox); have n2_ := Aside0.mk ((by rw [hg]; exact (below_size bl) : w.heap.size ≤ gb101)); have n3_ := Aside0.mk ((by rw [hg]; exact (below_size bl) : w.heap.size ≤ gb101)); clear HB; have HB := n0_; have BK101 := n1_; have GW101 := n2_; have GE101 := n3_; clear n0_ n1_ n2_ n3_; clear hb hbox hg; have hcz3_0 : w2.cell? ⟨gb101, 0, none⟩ = some (.int .i64 a0_0) := (blk_cell BK101.out 0).trans rfl; have hcz3_1 : w2.cell? ⟨gb101, 1, none⟩ = some (.slice A0_1 l0_1.length c0_1) := (blk_cell BK101.out 1).trans rfl; have hfz3_0 := blk_frozen BK101.out 0; have hfz3_1 := blk_frozen BK101.out 1)))
  go_loopg [8] k (fun kq v8 w' => ∃ (x8_1 : Int), v8 = .int .i64 x8_1 ∧ Aside0 (impl_IsGraph.l0 kq l0_1 (l0_1.length : Int) x8_1 a0_0 l0_1 = some r) ∧ Aside0 (kq ≤ k) ∧ Aside0 (w'.heap[gb101]? = some (.cells #[.int .i64 a0_0, (.slice A0_1 l0_1.length c0_1)] 26 (0, 0))) ∧ Aside0 (Below w.heap.size w w'))
  case atStart => exact ⟨(0), rs, H', ⟨Nat.le_refl _⟩, ⟨bk⟩, ⟨bl⟩⟩
  case round =>
    clear H'
    (try clear p2); (try clear hcz3_0); (try clear hcz3_1); (try clear hfz3_0); (try clear hfz3_1)
    obtain ⟨x8_1, rfl, HA, HK1, BK101, HB⟩ := hrel
    cases gk with
    | zero => exact absurd HA.out (by simp [impl_IsGraph.l0])
    | succ k1 =>
      have H := HA.out
      clear HA
      simp only [impl_IsGraph.l0] at H
      by_cases c4 : x8_1 < (l0_1.length : Int)
      case neg =>
        rw [if_neg c4] at H
        have c4b0 : decide (x8_1 < (l0_1.length : Int)) = false := decide_eq_false c4
        clear c4
        replace H := Option.bind_eq_some_iff.mp H
        obtain ⟨t102, A170, H⟩ := H
        replace H : (if t102 = true then (some (decide ((l0_1.length : Int) ≤ 10))) else (some false)) = some r := H
        have A17 := Aside0.mk A170
        clear A170
        by_cases c18 : t102 = true
        case neg =>
          replace c18 := Bool.eq_false_iff.mpr c18
          subst c18
          have H1 : (some false) = some r := by rw [if_neg (show ¬ (false = true) by decide)] at H; exact H
          clear H
          have H := H1
          clear H1
          obtain rfl := Option.some.inj H
          have hcz20_0 : wr.cell? ⟨gb101, 0, none⟩ = some (.int .i64 a0_0) := (blk_cell BK101.out 0).trans rfl
          have hcz20_1 : wr.cell? ⟨gb101, 1, none⟩ = some (.slice A0_1 l0_1.length c0_1) := (blk_cell BK101.out 1).trans rfl
          have hfz20_0 := blk_frozen BK101.out 0
          have hfz20_1 := blk_frozen BK101.out 1
          go_wp2_with (first | (go_at_call 112; (with_reducible refine (impl_within.calls a0_0 1 8 false _ A17.out).mono ?_); rintro e w' ⟨rfl, ⟨nd, rfl⟩⟩; (try first | exact ⟨rfl, _, World.drewN_drewN _ _ _⟩ | exact ⟨rfl, _, Eq.trans (World.drewN_drewN _ _ _) (congrArg (World.drewN _) (Nat.add_assoc _ _ _))⟩)))
          repeat (go_quiet (first | (go_at_call 112; (with_reducible refine (impl_within.calls a0_0 1 8 false _ A17.out).mono ?_); rintro e w' ⟨rfl, ⟨nd, rfl⟩⟩; (try first | exact ⟨rfl, _, World.drewN_drewN _ _ _⟩ | exact ⟨rfl, _, Eq.trans (World.drewN_drewN _ _ _) (congrArg (World.drewN _) (Nat.add_assoc _ _ _))⟩))); try go_wp2_with (first | (go_at_call 112; (with_reducible refine (impl_within.calls a0_0 1 8 false _ A17.out).mono ?_); rintro e w' ⟨rfl, ⟨nd, rfl⟩⟩; (try first | exact ⟨rfl, _, World.drewN_drewN _ _ _⟩ | exact ⟨rfl, _, Eq.trans (World.drewN_drewN _ _ _) (congrArg (World.drewN _) (Nat.add_assoc _ _ _))⟩))))
          go_ret
          exact ⟨by first | rfl | (simp [errW_none, errW_some] <;> rfl) | (simp [*, errW_none, errW_some] <;> rfl), bl⟩
        subst c18
        have H1 : (some (decide ((l0_1.length : Int) ≤ 10))) = some r := by rw [if_pos rfl] at H; exact H
        clear H
        have H := H1
        clear H1
        obtain rfl := Option.some.inj H
        have hcz19_0 : wr.cell? ⟨gb101, 0, none⟩ = some (.int .i64 a0_0) := (blk_cell BK101.out 0).trans rfl
        have hcz19_1 : wr.cell? ⟨gb101, 1, none⟩ = some (.slice A0_1 l0_1.length c0_1) := (blk_cell BK101.out 1).trans rfl
        have hfz19_0 := blk_frozen BK101.out 0
        have hfz19_1 := blk_frozen BK101.out 1
        go_wp2_with (first | (go_at_call 112; (with_reducible refine (impl_within.calls a0_0 1 8 true _ A17.out).mono ?_); rintro e w' ⟨rfl, ⟨nd, rfl⟩⟩; (try first | exact ⟨rfl, _, World.drewN_drewN _ _ _⟩ | exact ⟨rfl, _, Eq.trans (World.drewN_drewN _ _ _) (congrArg (World.drewN _) (Nat.add_assoc _ _ _))⟩)))
        repeat (go_quiet (first | (go_at_call 112; (with_reducible refine (impl_within.calls a0_0 1 8 true _ A17.out).mono ?_); rintro e w' ⟨rfl, ⟨nd, rfl⟩⟩; (try first | exact ⟨rfl, _, World.drewN_drewN _ _ _⟩ | exact ⟨rfl, _, Eq.trans (World.drewN_drewN _ _ _) (congrArg (World.drewN _) (Nat.add_assoc _ _ _))⟩))); try go_wp2_with (first | (go_at_call 112; (with_reducible refine (impl_within.calls a0_0 1 8 true _ A17.out).mono ?_); rintro e w' ⟨rfl, ⟨nd, rfl⟩⟩; (try first | exact ⟨rfl, _, World.drewN_drewN _ _ _⟩ | exact ⟨rfl, _, Eq.trans (World.drewN_drewN _ _ _) (congrArg (World.drewN _) (Nat.add_assoc _ _ _))⟩))))
        go_ret
        exact ⟨by first | rfl | (simp [errW_none, errW_some] <;> rfl) | (simp [*, errW_none, errW_some] <;> rfl), bl⟩
      rw [if_pos c4] at H
      have c4b0 : decide (x8_1 < (l0_1.length : Int)) = true := decide_eq_true c4
      clear c4
      by_cases c5 : 0 ≤ x8_1
      case neg => rw [if_neg c5] at H; exact absurd H (by simp)
      rw [if_pos c5] at H
      have c5b0 : decide (0 ≤ x8_1) = true := decide_eq_true c5
      clear c5
      by_cases c6 : x8_1 < (l0_1.length : Int)
      case neg => rw [if_neg c6] at H; exact absurd H (by simp)
      rw [if_pos c6] at H
      have c6b0 : decide (x8_1 < (l0_1.length : Int)) = true := decide_eq_true c6
      clear c6
      by_cases c7 : ((rd_L1 l0_1 x8_1).length : Int) = 2
      case neg =>
        rw [if_neg c7] at H
        have c7b0 : (((rd_L1 l0_1 x8_1).length : Int) == 2) = false := beq_eq_false_iff_ne.mpr c7
        have c7b1 : (((rd_L1 l0_1 x8_1).length : Int) != 2) = true := bne_iff_ne.mpr c7
        obtain rfl := Option.some.inj H
        have p103 : 0 ≤ (x8_1 : Int) := oD
        have q103 : x8_1 < (l0_1.length : Int) := oD
        obtain ⟨ad103, A103_0, c103_0, e103, hx103_0, hl103_0, hi103_0⟩ := at_L1 HR0_1.out x8_1 p103 q103
        cases e103
        replace hx103_0 := hbc HB hx103_0
        have HR103_0 := Aside0.mk hi103_0
        have HC103_0 := Aside0.mk hl103_0
        clear hi103_0 hl103_0
        replace p103 := eq_true p103
        replace q103 := eq_true q103
        go_wp2
        repeat (go_quiet (fail); try go_wp2)
        go_ret
        exact ⟨by first | rfl | (simp [errW_none, errW_some] <;> rfl) | (simp [*, errW_none, errW_some] <;> rfl), bl⟩
      rw [if_pos c7] at H
      have c7b0 : (((rd_L1 l0_1 x8_1).length : Int) == 2) = true := beq_iff_eq.mpr c7
      have c7b1 : (((rd_L1 l0_1 x8_1).length : Int) != 2) = false := bne_eq_false_iff_eq.mpr c7
      clear c7
      by_cases c8 : 0 < ((rd_L1 l0_1 x8_1).length : Int)
      case neg => rw [if_neg c8] at H; exact absurd H (by simp)
      rw [if_pos c8] at H
      have c8b0 : decide (0 < ((rd_L1 l0_1 x8_1).length : Int)) = true := decide_eq_true c8
      have c8b1 : decide (0 < (rd_L1 l0_1 x8_1).length) = true := decide_eq_true (by omega)
      clear c8
      replace H := Option.bind_eq_some_iff.mp H
      obtain ⟨t105, A90, H⟩ := H
      replace H : (if t105 = true then (if 1 < ((rd_L1 l0_1 x8_1).length : Int) then ((impl_within.f (rd (rd_L1 l0_1 x8_1) 1) 0 (wrap64 (a0_0 - 1))).bind fun t107 => (if t107 = true then (impl_IsGraph.l0 k1 l0_1 (l0_1.length : Int) (wrap64 (x8_1 + 1)) a0_0 l0_1) else (some false))) else (none)) else (some false)) = some r := H
      have A9 := Aside0.mk A90
      clear A90
      by_cases c10 : t105 = true
      case neg =>
        replace c10 := Bool.eq_false_iff.mpr c10
        subst c10
        have H1 : (some false) = some r := by rw [if_neg (show ¬ (false = true) by decide)] at H; exact H
        clear H
        have H := H1
        clear H1
        obtain rfl := Option.some.inj H
        have p103 : 0 ≤ (x8_1 : Int) := oD
        have q103 : x8_1 < (l0_1.length : Int) := oD
        obtain ⟨ad103, A103_0, c103_0, e103, hx103_0, hl103_0, hi103_0⟩ := at_L1 HR0_1.out x8_1 p103 q103
        cases e103
        replace hx103_0 := hbc HB hx103_0
        have HR103_0 := Aside0.mk hi103_0
        have HC103_0 := Aside0.mk hl103_0
        clear hi103_0 hl103_0
        replace p103 := eq_true p103
        replace q103 := eq_true q103
        have p104 : 0 ≤ (0 : Int) := (by omega)
        have q104 : 0 < ((rd_L1 l0_1 x8_1).length : Int) := oD
        obtain ⟨ad104, e104, hx104_0⟩ := Kd.at_int HR103_0.out 0 p104 q104
        cases e104
        have qi104 : (0 < (rd_L1 l0_1 x8_1).length) = True := eq_true (by omega)
        (try rw [show ((0 : Int)).toNat = 0 from rfl] at hx104_0)
        (try rw [Addr.add_zero'] at hx104_0)
        replace hx104_0 := hbc HB hx104_0
        replace p104 := eq_true p104
        replace q104 := eq_true q104
        have hcz16_0 : wr.cell? ⟨gb101, 0, none⟩ = some (.int .i64 a0_0) := (blk_cell BK101.out 0).trans rfl
        have hcz16_1 : wr.cell? ⟨gb101, 1, none⟩ = some (.slice (some ad103) l0_1.length c0_1) := (blk_cell BK101.out 1).trans rfl
        have hfz16_0 := blk_frozen BK101.out 0
        have hfz16_1 := blk_frozen BK101.out 1
        go_wp2_with (first | (go_at_call 112; (with_reducible refine (impl_within.calls (rd (rd_L1 l0_1 x8_1) 0) 0 (wrap64 (a0_0 - 1)) false _ A9.out).mono ?_); rintro e w' ⟨rfl, ⟨nd, rfl⟩⟩; (try first | exact ⟨rfl, _, World.drewN_drewN _ _ _⟩ | exact ⟨rfl, _, Eq.trans (World.drewN_drewN _ _ _) (congrArg (World.drewN _) (Nat.add_assoc _ _ _))⟩)))
        repeat (go_quiet (first | (go_at_call 112; (with_reducible refine (impl_within.calls (rd (rd_L1 l0_1 x8_1) 0) 0 (wrap64 (a0_0 - 1)) false _ A9.out).mono ?_); rintro e w' ⟨rfl, ⟨nd, rfl⟩⟩; (try first | exact ⟨rfl, _, World.drewN_drewN _ _ _⟩ | exact ⟨rfl, _, Eq.trans (World.drewN_drewN _ _ _) (congrArg (World.drewN _) (Nat.add_assoc _ _ _))⟩))); try go_wp2_with (first | (go_at_call 112; (with_reducible refine (impl_within.calls (rd (rd_L1 l0_1 x8_1) 0) 0 (wrap64 (a0_0 - 1)) false _ A9.out).mono ?_); rintro e w' ⟨rfl, ⟨nd, rfl⟩⟩; (try first | exact ⟨rfl, _, World.drewN_drewN _ _ _⟩ | exact ⟨rfl, _, Eq.trans (World.drewN_drewN _ _ _) (congrArg (World.drewN _) (Nat.add_assoc _ _ _))⟩))))
        go_ret
        exact ⟨by first | rfl | (simp [errW_none, errW_some] <;> rfl) | (simp [*, errW_none, errW_some] <;> rfl), bl⟩
      subst c10
      have H1 : (if 1 < ((rd_L1 l0_1 x8_1).length : Int) then ((impl_within.f (rd (rd_L1 l0_1 x8_1) 1) 0 (wrap64 (a0_0 - 1))).bind fun t107 => (if t107 = true then (impl_IsGraph.l0 k1 l0_1 (l0_1.length : Int) (wrap64 (x8_1 + 1)) a0_0 l0_1) else (some false))) else (none)) = some r := by rw [if_pos rfl] at H; exact H
      clear H
      have H := H1
      clear H1
      by_cases c11 : 1 < ((rd_L1 l0_1 x8_1).length : Int)
      case neg => rw [if_neg c11] at H; exact absurd H (by simp)
      rw [if_pos c11] at H
      have c11b0 : decide (1 < ((rd_L1 l0_1 x8_1).length : Int)) = true := decide_eq_true c11
      have c11b1 : decide (1 < (rd_L1 l0_1 x8_1).length) = true := decide_eq_true (by omega)
      clear c11
      replace H := Option.bind_eq_some_iff.mp H
      obtain ⟨t107, A120, H⟩ := H
      replace H : (if t107 = true then (impl_IsGraph.l0 k1 l0_1 (l0_1.length : Int) (wrap64 (x8_1 + 1)) a0_0 l0_1) else (some false)) = some r := H
      have A12 := Aside0.mk A120
      clear A120
      by_cases c13 : t107 = true
      case neg =>
        replace c13 := Bool.eq_false_iff.mpr c13
        subst c13
        have H1 : (some false) = some r := by rw [if_neg (show ¬ (false = true) by decide)] at H; exact H
        clear H
        have H := H1
        clear H1
        obtain rfl := Option.some.inj H
        have p103 : 0 ≤ (x8_1 : Int) := oD
        have q103 : x8_1 < (l0_1.length : Int) := oD
        obtain ⟨ad103, A103_0, c103_0, e103, hx103_0, hl103_0, hi103_0⟩ := at_L1 HR0_1.out x8_1 p103 q103
        cases e103
        replace hx103_0 := hbc HB hx103_0
        have HR103_0 := Aside0.mk hi103_0
        have HC103_0 := Aside0.mk hl103_0
        clear hi103_0 hl103_0
        replace p103 := eq_true p103
        replace q103 := eq_true q103
        have p104 : 0 ≤ (0 : Int) := (by omega)
        have q104 : 0 < ((rd_L1 l0_1 x8_1).length : Int) := oD
        obtain ⟨ad104, e104, hx104_0⟩ := Kd.at_int HR103_0.out 0 p104 q104
        cases e104
        have qi104 : (0 < (rd_L1 l0_1 x8_1).length) = True := eq_true (by omega)
        (try rw [show ((0 : Int)).toNat = 0 from rfl] at hx104_0)
        (try rw [Addr.add_zero'] at hx104_0)
        replace hx104_0 := hbc HB hx104_0
        replace p104 := eq_true p104
        replace q104 := eq_true q104
        have hcz15_0 : wr.cell? ⟨gb101, 0, none⟩ = some (.int .i64 a0_0) := (blk_cell BK101.out 0).trans rfl
        have hcz15_1 : wr.cell? ⟨gb101, 1, none⟩ = some (.slice (some ad103) l0_1.length c0_1) := (blk_cell BK101.out 1).trans rfl
        have hfz15_0 := blk_frozen BK101.out 0
        have hfz15_1 := blk_frozen BK101.out 1
        have p106 : 0 ≤ (1 : Int) := (by omega)
        have q106 : 1 < ((rd_L1 l0_1 x8_1).length : Int) := oD
        obtain ⟨ad106, e106, hx106_0⟩ := Kd.at_int HR103_0.out 1 p106 q106
        obtain rfl : ad104 = ad106 := (by injection e106)
        (try simp only [show (1 : Int).toNat = 1 from rfl, Nat.reduceMul, Nat.reduceEqDiff, Go.Addr.add, ↓reduceIte] at hx106_0)
        have qi106 : (1 < (rd_L1 l0_1 x8_1).length) = True := eq_true (by omega)
        (try rw [show ((1 : Int)).toNat = 1 from rfl] at hx106_0)
        replace hx106_0 := hbc HB hx106_0
        replace p106 := eq_true p106
        replace q106 := eq_true q106
        go_wp2_with (first | (go_at_call 112; (with_reducible refine (impl_within.calls (rd (rd_L1 l0_1 x8_1) 0) 0 (wrap64 (a0_0 - 1)) true _ A9.out).mono ?_); rintro e w' ⟨rfl, ⟨nd, rfl⟩⟩; (try first | exact ⟨rfl, _, World.drewN_drewN _ _ _⟩ | exact ⟨rfl, _, Eq.trans (World.drewN_drewN _ _ _) (congrArg (World.drewN _) (Nat.add_assoc _ _ _))⟩)) | (go_at_call 112; (with_reducible refine (impl_within.calls (rd (rd_L1 l0_1 x8_1) 1) 0 (wrap64 (a0_0 - 1)) false _ A12.out).mono ?_); rintro e w' ⟨rfl, ⟨nd, rfl⟩⟩; (try first | exact ⟨rfl, _, World.drewN_drewN _ _ _⟩ | exact ⟨rfl, _, Eq.trans (World.drewN_drewN _ _ _) (congrArg (World.drewN _) (Nat.add_assoc _ _ _))⟩)))
        repeat (go_quiet (first | (go_at_call 112; (with_reducible refine (impl_within.calls (rd (rd_L1 l0_1 x8_1) 0) 0 (wrap64 (a0_0 - 1)) true _ A9.out).mono ?_); rintro e w' ⟨rfl, ⟨nd, rfl⟩⟩; (try first | exact ⟨rfl, _, World.drewN_drewN _ _ _⟩ | exact ⟨rfl, _, Eq.trans (World.drewN_drewN _ _ _) (congrArg (World.drewN _) (Nat.add_assoc _ _ _))⟩)) | (go_at_call 112; (with_reducible refine (impl_within.calls (rd (rd_L1 l0_1 x8_1) 1) 0 (wrap64 (a0_0 - 1)) false _ A12.out).mono ?_); rintro e w' ⟨rfl, ⟨nd, rfl⟩⟩; (try first | exact ⟨rfl, _, World.drewN_drewN _ _ _⟩ | exact ⟨rfl, _, Eq.trans (World.drewN_drewN _ _ _) (congrArg (World.drewN _) (Nat.add_assoc _ _ _))⟩))); try go_wp2_with (first | (go_at_call 112; (with_reducible refine (impl_within.calls (rd (rd_L1 l0_1 x8_1) 0) 0 (wrap64 (a0_0 - 1)) true _ A9.out).mono ?_); rintro e w' ⟨rfl, ⟨nd, rfl⟩⟩; (try first | exact ⟨rfl, _, World.drewN_drewN _ _ _⟩ | exact ⟨rfl, _, Eq.trans (World.drewN_drewN _ _ _) (congrArg (World.drewN _) (Nat.add_assoc _ _ _))⟩)) | (go_at_call 112; (with_reducible refine (impl_within.calls (rd (rd_L1 l0_1 x8_1) 1) 0 (wrap64 (a0_0 - 1)) false _ A12.out).mono ?_); rintro e w' ⟨rfl, ⟨nd, rfl⟩⟩; (try first | exact ⟨rfl, _, World.drewN_drewN _ _ _⟩ | exact ⟨rfl, _, Eq.trans (World.drewN_drewN _ _ _) (congrArg (World.drewN _) (Nat.add_assoc _ _ _))⟩))))
        go_ret
        exact ⟨by first | rfl | (simp [errW_none, errW_some] <;> rfl) | (simp [*, errW_none, errW_some] <;> rfl), bl⟩
      subst c13
      have H1 : (impl_IsGraph.l0 k1 l0_1 (l0_1.length : Int) (wrap64 (x8_1 + 1)) a0_0 l0_1) = some r := by rw [if_pos rfl] at H; exact H
      clear H
      have H := H1
      clear H1
      have H' := Aside0.mk H
      clear H
      have p103 : 0 ≤ (x8_1 : Int) := oD
      have q103 : x8_1 < (l0_1.length : Int) := oD
      obtain ⟨ad103, A103_0, c103_0, e103, hx103_0, hl103_0, hi103_0⟩ := at_L1 HR0_1.out x8_1 p103 q103
      cases e103
      replace hx103_0 := hbc HB hx103_0
      have HR103_0 := Aside0.mk hi103_0
      have HC103_0 := Aside0.mk hl103_0
      clear hi103_0 hl103_0
      replace p103 := eq_true p103
      replace q103 := eq_true q103
      have p104 : 0 ≤ (0 : Int) := (by omega)
      have q104 : 0 < ((rd_L1 l0_1 x8_1).length : Int) := oD
      obtain ⟨ad104, e104, hx104_0⟩ := Kd.at_int HR103_0.out 0 p104 q104
      cases e104
      have qi104 : (0 < (rd_L1 l0_1 x8_1).length) = True := eq_true (by omega)
      (try rw [show ((0 : Int)).toNat = 0 from rfl] at hx104_0)
      (try rw [Addr.add_zero'] at hx104_0)
      replace hx104_0 := hbc HB hx104_0
      replace p104 := eq_true p104
      replace q104 := eq_true q104
      have hcz14_0 : wr.cell? ⟨gb101, 0, none⟩ = some (.int .i64 a0_0) := (blk_cell BK101.out 0).trans rfl
      have hcz14_1 : wr.cell? ⟨gb101, 1, none⟩ = some (.slice (some ad103) l0_1.length c0_1) := (blk_cell BK101.out 1).trans rfl
      have hfz14_0 := blk_frozen BK101.out 0
      have hfz14_1 := blk_frozen BK101.out 1
      have p106 : 0 ≤ (1 : Int) := (by omega)
      have q106 : 1 < ((rd_L1 l0_1 x8_1).length : Int) := oD
      obtain ⟨ad106, e106, hx106_0⟩ := Kd.at_int HR103_0.out 1 p106 q106
      obtain rfl : ad104 = ad106 := (by injection e106)
      (try simp only [show (1 : Int).toNat = 1 from rfl, Nat.reduceMul, Nat.reduceEqDiff, Go.Addr.add, ↓reduceIte] at hx106_0)
      have qi106 : (1 < (rd_L1 l0_1 x8_1).length) = True := eq_true (by omega)
      (try rw [show ((1 : Int)).toNat = 1 from rfl] at hx106_0)
      replace hx106_0 := hbc HB hx106_0
      replace p106 := eq_true p106
      replace q106 := eq_true q106
      go_wp2_with (first | (go_at_call 112; (with_reducible refine (impl_within.calls (rd (rd_L1 l0_1 x8_1) 0) 0 (wrap64 (a0_0 - 1)) true _ A9.out).mono ?_); rintro e w' ⟨rfl, ⟨nd, rfl⟩⟩; (try first | exact ⟨rfl, _, World.drewN_drewN _ _ _⟩ | exact ⟨rfl, _, Eq.trans (World.drewN_drewN _ _ _) (congrArg (World.drewN _) (Nat.add_assoc _ _ _))⟩)) | (go_at_call 112; (with_reducible refine (impl_within.calls (rd (rd_L1 l0_1 x8_1) 1) 0 (wrap64 (a0_0 - 1)) true _ A12.out).mono ?_); rintro e w' ⟨rfl, ⟨nd, rfl⟩⟩; (try first | exact ⟨rfl, _, World.drewN_drewN _ _ _⟩ | exact ⟨rfl, _, Eq.trans (World.drewN_drewN _ _ _) (congrArg (World.drewN _) (Nat.add_assoc _ _ _))⟩)))
      repeat (go_quiet (first | (go_at_call 112; (with_reducible refine (impl_within.calls (rd (rd_L1 l0_1 x8_1) 0) 0 (wrap64 (a0_0 - 1)) true _ A9.out).mono ?_); rintro e w' ⟨rfl, ⟨nd, rfl⟩⟩; (try first | exact ⟨rfl, _, World.drewN_drewN _ _ _⟩ | exact ⟨rfl, _, Eq.trans (World.drewN_drewN _ _ _) (congrArg (World.drewN _) (Nat.add_assoc _ _ _))⟩)) | (go_at_call 112; (with_reducible refine (impl_within.calls (rd (rd_L1 l0_1 x8_1) 1) 0 (wrap64 (a0_0 - 1)) true _ A12.out).mono ?_); rintro e w' ⟨rfl, ⟨nd, rfl⟩⟩; (try first | exact ⟨rfl, _, World.drewN_drewN _ _ _⟩ | exact ⟨rfl, _, Eq.trans (World.drewN_drewN _ _ _) (congrArg (World.drewN _) (Nat.add_assoc _ _ _))⟩))); try go_wp2_with (first | (go_at_call 112; (with_reducible refine (impl_within.calls (rd (rd_L1 l0_1 x8_1) 0) 0 (wrap64 (a0_0 - 1)) true _ A9.out).mono ?_); rintro e w' ⟨rfl, ⟨nd, rfl⟩⟩; (try first | exact ⟨rfl, _, World.drewN_drewN _ _ _⟩ | exact ⟨rfl, _, Eq.trans (World.drewN_drewN _ _ _) (congrArg (World.drewN _) (Nat.add_assoc _ _ _))⟩)) | (go_at_call 112; (with_reducible refine (impl_within.calls (rd (rd_L1 l0_1 x8_1) 1) 0 (wrap64 (a0_0 - 1)) true _ A12.out).mono ?_); rintro e w' ⟨rfl, ⟨nd, rfl⟩⟩; (try first | exact ⟨rfl, _, World.drewN_drewN _ _ _⟩ | exact ⟨rfl, _, Eq.trans (World.drewN_drewN _ _ _) (congrArg (World.drewN _) (Nat.add_assoc _ _ _))⟩))))
      go_roundg k1
      case measure => have := HK1.out; omega
      case rel => exact ⟨(wrap64 (x8_1 + 1)), rs, H', ⟨by have := HK1.out; omega⟩, ⟨bk⟩, ⟨bl⟩⟩
-- NOT PRINTED: function 75 (impl_graphCode)

/-! ### impl_Graph_areSigns: function 83 -/

def badSign (x : Int) : Bool := x != 1 && x != -1
theorem sg_pred (x : Int) (w1 : World) : Calls Try.prog 127 #[.int .i64 x] w1 fun e w' => e = .returned (.bool (badSign x)) ∧ Drawn0 w1 w' := by
  by_cases h1 : (x != 1) = true
  case neg =>
    have h2 : (x != 1) = false := by simpa using h1
    have HX : Aside0 (badSign x = false) := ⟨by unfold badSign; rw [h2]; rfl⟩
    clear h1
    go_enter Try.func127, Try.ntmps127
    go_wp2
    go_ret
    exact ⟨by rw [HX.out]; rfl, by repeat (first | exact Drawn0.refl _ | apply Drawn0.step)⟩
  have HX : Aside0 (badSign x = (x != -1)) := ⟨by unfold badSign; rw [h1]; rfl⟩
  go_enter Try.func127, Try.ntmps127
  go_wp2
  go_ret
  exact ⟨by rw [HX.out]; rfl, by repeat (first | exact Drawn0.refl _ | apply Drawn0.step)⟩
theorem sg_idx (p : Int → Bool) (A : Option Addr) (c : Nat) (l : List Int) (w : World) (hr : Kd.C (Kd.int .i64) w A l.length l)
  (hp : ∀ x w1, Below w.heap.size w w1 → Calls Try.prog 127 #[.int .i64 x] w1 fun e w' => e = .returned (.bool (p x)) ∧ Below w1.heap.size w1 w') :
  Calls Try.prog 160 #[.slice A l.length c, .func (.func 127) #[] #[]] w fun e w' => e = .returned (.int .i64 (idxFrom p l 0)) ∧ Below w.heap.size w w' := by
  have HR := Aside0.mk hr
  have HP := Aside0.mk hp
  have hlen : l.length ≤ 9223372036854775807 := hr.2.1
  clear hr hp
  go_enter Try.func160, Try.ntmps160
  go_wp2_with fail
  go_loopw [8] (fun i wr => ∃ k : Nat, k ≤ l.length ∧ i = .int .i64 k ∧ Aside0 (idxFrom p (l.drop k) k = idxFrom p l 0) ∧ Aside0 (Below w.heap.size w wr)) (fun i _ => l.length - (intOf i).toNat)
  case atStart => exact ⟨0, Nat.zero_le _, rfl, ⟨by simp⟩, ⟨Below.refl _ _⟩⟩
  case round =>
    obtain ⟨k, hk, rfl, HI, HB⟩ := hrel
    by_cases hlt : k < l.length
    case neg =>
      have HD : Aside0 (idxFrom p l 0 = -1) := ⟨by rw [← HI.out, List.drop_of_length_le (by omega)]; rfl⟩
      have hb : decide (k < l.length) = false := by simp; omega
      go_wp2
      go_ret
      exact ⟨by rw [HD.out]; rfl, HB.out⟩
    obtain ⟨ad, e, hcell⟩ := Kd.at_int (Kd.C_below HR.out HB.out) k (by omega) (by omega)
    cases e
    rw [Int.toNat_natCast] at hcell
    cases hpx : p (rd l k) with
    | true =>
      have HD : Aside0 (idxFrom p l 0 = k) := ⟨by rw [← HI.out, idxFrom_drop p l k hlt, hpx]; rfl⟩
      have HX := Aside0.mk hpx
      clear hpx
      go_wp2_with (go_at_call 127; refine (HP.out _ _ HB.out).mono ?_; rw [HX.out]; rintro e w' ⟨rfl, hb_⟩; have HB2 := Aside0.mk (below_step HB.out hb_); clear hb_)
      go_ret
      exact ⟨by rw [HD.out]; rfl, HB2.out⟩
    | false =>
      have HD : Aside0 (idxFrom p (l.drop (k+1)) (k+1) = idxFrom p l 0) := ⟨by rw [← HI.out, idxFrom_drop p l k hlt, hpx]; rfl⟩
      have HX := Aside0.mk hpx
      clear hpx
      go_wp2_with (go_at_call 127; refine (HP.out _ _ HB.out).mono ?_; rw [HX.out]; rintro e w' ⟨rfl, hb_⟩; have HB2 := Aside0.mk (below_step HB.out hb_); clear hb_)
      go_roundw
      case rel => exact ⟨k+1, by omega, by go_num, HD, HB2⟩
      case measure => simp [intOf]; omega
theorem sg_cont (p : Int → Bool) (A : Option Addr) (c : Nat) (l : List Int) (w : World) (hr : Kd.C (Kd.int .i64) w A l.length l)
  (hp : ∀ x w1, Below w.heap.size w w1 → Calls Try.prog 127 #[.int .i64 x] w1 fun e w' => e = .returned (.bool (p x)) ∧ Below w1.heap.size w1 w') :
  Calls Try.prog 122 #[.slice A l.length c, .func (.func 127) #[] #[]] w fun e w' => e = .returned (.bool (l.any p)) ∧ Below w.heap.size w w' := by
  have HC := sg_idx p A c l w hr hp
  have HX : Aside0 (l.any p = decide (0 ≤ idxFrom p l 0)) := ⟨(idxFrom_any p l 0).symm⟩
  have HC' := Aside0.mk HC
  clear HC hr hp
  go_enter Try.func122, Try.ntmps122
  go_wp2_with (go_at_call 160; refine HC'.out.mono ?_; rintro e w' ⟨rfl, hb_⟩; have HB2 := Aside0.mk hb_; clear hb_)
  go_ret
  exact ⟨by rw [HX.out]; rfl, HB2.out⟩
def impl_Graph_areSigns.f (a0_0 : Int) (l0_1 : List (List Int)) (l1 : List Int) : Option Bool := some (decide ((l1.length : Int) = (l0_1.length : Int)) && !(l1.any badSign))
set_option maxHeartbeats 8000000 in
set_option maxRecDepth 100000 in
theorem impl_Graph_areSigns.calls (a0_0 : Int) (A0_1 : Option Addr) (c0_1 : Nat) (l0_1 : List (List Int)) (A1 : Option Addr) (c1 : Nat) (l1 : List Int) (r : Bool) (w : World) (hr0_1 : Kd.C (Kd.slice 2 (Kd.int .i64)) w A0_1 l0_1.length l0_1) (hc0_1 : l0_1.length ≤ c0_1) (hr1 : Kd.C (Kd.int .i64) w A1 l1.length l1) (hc1 : l1.length ≤ c1) (h : impl_Graph_areSigns.f a0_0 l0_1 l1 = some r) :
    Calls Try.prog 83 #[.agg #[.int .i64 a0_0, .slice A0_1 l0_1.length c0_1], .slice A1 l1.length c1] w fun e w' => e = .returned (.bool r) ∧ Below w.heap.size w w' := by
  have HR := Aside0.mk hr1
  clear hr0_1 hr1
  obtain rfl := Option.some.inj h
  clear h
  by_cases hl : ((l1.length : Int) == (l0_1.length : Int)) = true
  case neg =>
    have hl' : ((l1.length : Int) == (l0_1.length : Int)) = false := by simpa using hl
    have HX : Aside0 ((decide ((l1.length : Int) = (l0_1.length : Int)) && !(l1.any badSign)) = false) := ⟨by simp at hl; simp [hl]⟩
    clear hl
    go_enter Try.func83, Try.ntmps83
    go_wp2
    go_ret
    exact ⟨by rw [HX.out]; rfl, ((Below.refl _ _).alloc (Nat.le_refl _) _)⟩
  have HX : Aside0 ((decide ((l1.length : Int) = (l0_1.length : Int)) && !(l1.any badSign)) = !(l1.any badSign)) := ⟨by simp at hl; simp [hl]⟩
  have HC := fun W h => sg_cont badSign A1 c1 l1 W h (fun x w1 _ => (sg_pred x w1).mono fun e w' ⟨h1, h2⟩ => ⟨h1, h2.below⟩)
  have HC' := Aside0.mk HC
  clear HC
  go_enter Try.func83, Try.ntmps83
  go_wp2_with (go_at_call 122; refine (HC'.out _ (Kd.C_alloc HR.out _)).mono ?_; rintro e w' ⟨rfl, hb_⟩; have HB2 := Aside0.mk (below_step ((Below.refl _ _).alloc (Nat.le_refl _) _) hb_); clear hb_)
  go_ret
  exact ⟨by rw [HX.out]; rfl, HB2.out⟩
/-! ### impl_SignedNumber_1: function 106 -/
def impl_SignedNumber_1.f (k : Nat) (a0_0 : Int) (l0_1 : List (List Int)) (a1_0 : Int) (l1_1 : List (List Int)) (l2 : List Int) : Option Int :=
  (impl_IsGraph.f k a0_0 l0_1).bind fun b => if b = true then ((impl_Graph_areSigns.f a1_0 l1_1 l2).bind fun q0 => if q0 = true then some 0 else some 2) else some 1
theorem impl_SignedNumber_1.mono : ∀ a0 a1 a2 a3 a4 k, LeO (impl_SignedNumber_1.f k a0 a1 a2 a3 a4) (impl_SignedNumber_1.f (k + 1) a0 a1 a2 a3 a4) := by
  intro a0 a1 a2 a3 a4 k
  unfold impl_SignedNumber_1.f
  repeat' first
      | (with_reducible exact impl_IsGraph.mono _ _ _)
      | (with_reducible exact LeO.refl _)
      | (with_reducible exact LeO.none _)
      | (with_reducible refine LeO.ite ?_ ?_)
      | (with_reducible refine LeO.bind ?_ (fun _ => ?_))
      | exact impl_IsGraph.mono _ _ _
      | exact LeO.none _
      | refine LeO.ite ?_ ?_
      | refine LeO.bind ?_ (fun _ => ?_)
set_option maxHeartbeats 8000000 in
set_option maxRecDepth 100000 in
theorem impl_SignedNumber_1.calls {b1 : Nat} {b2 : Nat} (k : Nat) (a0_0 : Int) (A0_1 : Option Addr) (c0_1 : Nat) (l0_1 : List (List Int)) (a1_0 : Int) (A1_1 : Option Addr) (c1_1 : Nat) (l1_1 : List (List Int)) (A2 : Option Addr) (c2 : Nat) (l2 : List Int) (r : Int) (w : World) (hr0_1 : Kd.C (Kd.slice 2 (Kd.int .i64)) w A0_1 l0_1.length l0_1) (hc0_1 : l0_1.length ≤ c0_1) (hr1_1 : Kd.C (Kd.slice 2 (Kd.int .i64)) w A1_1 l1_1.length l1_1) (hc1_1 : l1_1.length ≤ c1_1) (hr2 : Kd.C (Kd.int .i64) w A2 l2.length l2) (hc2 : l2.length ≤ c2) (hb1 : w.heap[b1]? = some (.cells #[.int .i64 a1_0, .slice A1_1 l1_1.length c1_1] 26 (0, 0))) (hb2 : w.heap[b2]? = some (.cells #[.slice A2 l2.length c2] 43 (0, 0))) (h : impl_SignedNumber_1.f k a0_0 l0_1 a1_0 l1_1 l2 = some r) :
    Calls Try.prog 75 #[.agg #[.int .i64 a0_0, .slice A0_1 l0_1.length c0_1], .func (.func 106) #[] #[.pointer (some ⟨b1, 0, none⟩), .pointer (some ⟨b2, 0, none⟩)]] w fun e w' => e = .returned (.int .i64 r) ∧ Below w.heap.size w w' := by
  have HR0 := Aside0.mk hr0_1
  clear hr0_1
  have HR1 := Aside0.mk hr1_1
  clear hr1_1
  have HR2 := Aside0.mk hr2
  clear hr2
  have BK1 := Aside0.mk hb1
  have BZ1 := blk_lt hb1
  clear hb1
  have BK2 := Aside0.mk hb2
  have BZ2 := blk_lt hb2
  clear hb2
  unfold impl_SignedNumber_1.f at h
  obtain ⟨b, hb, h⟩ := Option.bind_eq_some_iff.mp h
  have HG := fun W (hw : Below w.heap.size w W) => impl_IsGraph.calls k a0_0 A0_1 c0_1 l0_1 b W (Kd.C_below HR0.out hw) hc0_1 hb
  have HG' := Aside0.mk HG
  clear HG hb
  cases b with
  | false =>
    simp only [Bool.false_eq_true, if_false, Option.some.injEq] at h
    subst h
    go_enter Try.func75, Try.ntmps75
    go_wp2_with (first | (go_at_call 57; refine (HG'.out _ (by repeat (first | exact Below.refl _ _ | apply below_alloc | apply pw_below_drewN))).mono ?_; rintro e w1 ⟨rfl, hb1⟩; have HB1 := Aside0.mk (below_step (by repeat (first | exact Below.refl _ _ | apply below_alloc | apply pw_below_drewN)) hb1 : Below w.heap.size w w1); clear hb1; have hcz_w1_1_0 : w1.cell? ⟨b1, 0, none⟩ = some (.int .i64 a1_0) := (blk_cell (blk_below BK1.out HB1.out) 0).trans rfl; have hfz_w1_1_0 := blk_frozen (blk_below BK1.out HB1.out) 0; have hcz_w1_1_1 : w1.cell? ⟨b1, 1, none⟩ = some (.slice A1_1 l1_1.length c1_1) := (blk_cell (blk_below BK1.out HB1.out) 1).trans rfl; have hfz_w1_1_1 := blk_frozen (blk_below BK1.out HB1.out) 1; have hcz_w1_2_0 : w1.cell? ⟨b2, 0, none⟩ = some (.slice A2 l2.length c2) := (blk_cell (blk_below BK2.out HB1.out) 0).trans rfl; have hfz_w1_2_0 := blk_frozen (blk_below BK2.out HB1.out) 0) | go_in)
    go_ret
    exact ⟨by first | rfl | (simp; done) | (simp [*]; done), by repeat (first | exact HB1.out | apply below_alloc | apply pw_below_drewN | apply below_drew1)⟩
  | true =>
    simp only [if_true] at h
    obtain ⟨q0, hq0, h⟩ := Option.bind_eq_some_iff.mp h
    have HQ0 := fun W (hw : Below w.heap.size w W) => impl_Graph_areSigns.calls a1_0 A1_1 c1_1 l1_1 A2 c2 l2 q0 W (Kd.C_below HR1.out hw) hc1_1 (Kd.C_below HR2.out hw) hc2 hq0
    have HQ0' := Aside0.mk HQ0
    clear HQ0 hq0
    cases q0 with
    | false =>
      simp only [Bool.false_eq_true, if_false, Option.some.injEq] at h
      subst h
      go_enter Try.func75, Try.ntmps75
      go_wp2_with (first | (go_at_call 57; refine (HG'.out _ (by repeat (first | exact Below.refl _ _ | apply below_alloc | apply pw_below_drewN))).mono ?_; rintro e w1 ⟨rfl, hb1⟩; have HB1 := Aside0.mk (below_step (by repeat (first | exact Below.refl _ _ | apply below_alloc | apply pw_below_drewN)) hb1 : Below w.heap.size w w1); clear hb1; have hcz_w1_1_0 : w1.cell? ⟨b1, 0, none⟩ = some (.int .i64 a1_0) := (blk_cell (blk_below BK1.out HB1.out) 0).trans rfl; have hfz_w1_1_0 := blk_frozen (blk_below BK1.out HB1.out) 0; have hcz_w1_1_1 : w1.cell? ⟨b1, 1, none⟩ = some (.slice A1_1 l1_1.length c1_1) := (blk_cell (blk_below BK1.out HB1.out) 1).trans rfl; have hfz_w1_1_1 := blk_frozen (blk_below BK1.out HB1.out) 1; have hcz_w1_2_0 : w1.cell? ⟨b2, 0, none⟩ = some (.slice A2 l2.length c2) := (blk_cell (blk_below BK2.out HB1.out) 0).trans rfl; have hfz_w1_2_0 := blk_frozen (blk_below BK2.out HB1.out) 0) | (go_at_call 83; refine (HQ0'.out _ (by repeat (first | exact HB1.out | apply below_alloc | apply pw_below_drewN))).mono ?_; rintro e w2 ⟨rfl, hb_⟩; have HB2 := Aside0.mk (below_step (by repeat (first | exact HB1.out | apply below_alloc | apply pw_below_drewN)) hb_ : Below w.heap.size w w2); clear hb_; have hcz_w2_1_0 : w2.cell? ⟨b1, 0, none⟩ = some (.int .i64 a1_0) := (blk_cell (blk_below BK1.out HB2.out) 0).trans rfl; have hfz_w2_1_0 := blk_frozen (blk_below BK1.out HB2.out) 0; have hcz_w2_1_1 : w2.cell? ⟨b1, 1, none⟩ = some (.slice A1_1 l1_1.length c1_1) := (blk_cell (blk_below BK1.out HB2.out) 1).trans rfl; have hfz_w2_1_1 := blk_frozen (blk_below BK1.out HB2.out) 1; have hcz_w2_2_0 : w2.cell? ⟨b2, 0, none⟩ = some (.slice A2 l2.length c2) := (blk_cell (blk_below BK2.out HB2.out) 0).trans rfl; have hfz_w2_2_0 := blk_frozen (blk_below BK2.out HB2.out) 0) | go_in)
      go_ret
      exact ⟨by first | rfl | (simp; done) | (simp [*]; done), by repeat (first | exact HB2.out | apply below_alloc | apply pw_below_drewN | apply below_drew1)⟩
    | true =>
      simp only [if_true] at h
      simp only [Option.some.injEq] at h
      subst h
      go_enter Try.func75, Try.ntmps75
      go_wp2_with (first | (go_at_call 57; refine (HG'.out _ (by repeat (first | exact Below.refl _ _ | apply below_alloc | apply pw_below_drewN))).mono ?_; rintro e w1 ⟨rfl, hb1⟩; have HB1 := Aside0.mk (below_step (by repeat (first | exact Below.refl _ _ | apply below_alloc | apply pw_below_drewN)) hb1 : Below w.heap.size w w1); clear hb1; have hcz_w1_1_0 : w1.cell? ⟨b1, 0, none⟩ = some (.int .i64 a1_0) := (blk_cell (blk_below BK1.out HB1.out) 0).trans rfl; have hfz_w1_1_0 := blk_frozen (blk_below BK1.out HB1.out) 0; have hcz_w1_1_1 : w1.cell? ⟨b1, 1, none⟩ = some (.slice A1_1 l1_1.length c1_1) := (blk_cell (blk_below BK1.out HB1.out) 1).trans rfl; have hfz_w1_1_1 := blk_frozen (blk_below BK1.out HB1.out) 1; have hcz_w1_2_0 : w1.cell? ⟨b2, 0, none⟩ = some (.slice A2 l2.length c2) := (blk_cell (blk_below BK2.out HB1.out) 0).trans rfl; have hfz_w1_2_0 := blk_frozen (blk_below BK2.out HB1.out) 0) | (go_at_call 83; refine (HQ0'.out _ (by repeat (first | exact HB1.out | apply below_alloc | apply pw_below_drewN))).mono ?_; rintro e w2 ⟨rfl, hb_⟩; have HB2 := Aside0.mk (below_step (by repeat (first | exact HB1.out | apply below_alloc | apply pw_below_drewN)) hb_ : Below w.heap.size w w2); clear hb_; have hcz_w2_1_0 : w2.cell? ⟨b1, 0, none⟩ = some (.int .i64 a1_0) := (blk_cell (blk_below BK1.out HB2.out) 0).trans rfl; have hfz_w2_1_0 := blk_frozen (blk_below BK1.out HB2.out) 0; have hcz_w2_1_1 : w2.cell? ⟨b1, 1, none⟩ = some (.slice A1_1 l1_1.length c1_1) := (blk_cell (blk_below BK1.out HB2.out) 1).trans rfl; have hfz_w2_1_1 := blk_frozen (blk_below BK1.out HB2.out) 1; have hcz_w2_2_0 : w2.cell? ⟨b2, 0, none⟩ = some (.slice A2 l2.length c2) := (blk_cell (blk_below BK2.out HB2.out) 0).trans rfl; have hfz_w2_2_0 := blk_frozen (blk_below BK2.out HB2.out) 0) | go_in)
      go_ret
      exact ⟨by first | rfl | (simp; done) | (simp [*]; done), by repeat (first | exact HB2.out | apply below_alloc | apply pw_below_drewN | apply below_drew1)⟩

-- NOT PRINTED: function 61 (slices_IndexFunc_int64_int64)

/-! ### slices_Clone_int64_int64: function 113 -/
theorem clone_nil (w : World) (a : Option Addr) (n c : Nat) : (binOp .eql 43 (.slice a n c) (.slice none 0 0)).run Try.prog w = .ok (.bool a.isNone) w := Lib.run_eql_slice_nil w _ _ a n c 0 0 Try.underlying43
def slices_Clone_int64_int64.f (l0 : List Int) : Option (List Int) := if l0.length < 17592186044416 then some l0 else none
set_option maxHeartbeats 8000000 in
set_option maxRecDepth 100000 in
theorem slices_Clone_int64_int64.calls (A0 : Option Addr) (c0 : Nat) (l0 : List Int) (r : List Int) (w : World) (hr0 : Kd.C (Kd.int .i64) w A0 l0.length l0) (hc0 : l0.length ≤ c0) (h : slices_Clone_int64_int64.f l0 = some r) :
    Calls Try.prog 113 #[.slice A0 l0.length c0] w fun e w' => ∃ v0_ : Value, e = .returned (v0_) ∧ Kd.R (Kd.int .i64) 2 w' w.heap.size (fun _ => True) v0_ r ∧ Below w.heap.size w w' := by
  have HR0 := Aside0.mk hr0
  have HC0 := Aside0.mk hc0
  clear hr0 hc0
  unfold slices_Clone_int64_int64.f at h
  by_cases c2 : l0.length < 17592186044416
  case neg =>
    rw [if_neg c2] at h
    exact absurd h (by simp)
  rw [if_pos c2] at h
  obtain rfl := Option.some.inj h
  clear h
  cases A0 with
  | none =>
    have hn : l0 = [] := by
      by_cases hz : l0.length = 0
      case neg =>
        obtain ⟨ad, e, _⟩ := Kd.at_int HR0.out 0 (by omega) (by omega)
        cases e
      exact List.eq_nil_of_length_eq_zero hz
    subst hn
    have q_ := clone_nil
    go_enter Try.func113, Try.ntmps113
    go_wp2
    go_ret
    exact ⟨_, rfl, Kd.R_nil _ _ _ _ _, Below.refl _ _⟩
  | some ad =>
    have HB := Aside0.mk (Below.refl w.heap.size w)
    have LMc2 := Aside0.mk c2
    clear c2
    have q_ := clone_nil
    go_enter Try.func113, Try.ntmps113
    go_wp2_with (first | ((with_reducible refine gate_dst (N := 5) rfl ?_); refine Kd.R_lit (Kd.int .i64) _ 2 ?hg (N := 5) ?hd (xs := ([] : List Int)) (inner := []) (ok := fun _ => True) (okp := fun _ => True) ?hr ?hp (fun _ hk => hk) trivial (Below.refl _ _) (Nat.le_refl _) (by simp) ?_; (case hd => rfl); (case hg => rfl); (case hr => first | (go_simp; done) | (go_simp; rfl)); (case hp => exact (Reps.none _ _)); intro v102 w3 ho4 hb hg_ hnew_; clear hg_ hnew_; have n0_ := Aside0.mk (Kd.R_lower ho4 (below_size bl)); have n1_ := Aside0.mk (below_step bl hb); clear HB; have HO103 := n0_; have HB := n1_; clear n0_ n1_; clear hb ho4) | ((with_reducible refine gate_builtin (b := .append) (xs := #[.tmp 5, .tmp 6]) rfl ?_); at_builtin; refine Kd.R_append_rows (Kd.int .i64) (w0 := w) w.heap.size rfl (.tmp 5) (.tmp 6) 43 2 (.int .i64 0) 8 rfl Try.underlying43 info2 rfl (by decide) (by omega) v102 ([] : List Int) l0 _ _ _ (fun _ => True) (fun _ => False) rfl rfl ?aO ?aR (fun _ _ h => h) (fun _ h => h.elim) ?aF ?aB ?aS ?aL ?_; (case aR => repeat (first | exact (Kd.C_below HR0.out HB.out) | (with_reducible refine Kd.C_alloc ?_ _) | (with_reducible refine Kd.C_drewN ?_ _) | (with_reducible refine Kd.C_drew ?_))); (case aB => exact bl); (case aF => exact (fun _ _ => trivial)); (case aO => exact (by (with_reducible repeat (first | apply Kd.R_alloc | apply Kd.R_drewN | apply Kd.R_drew)); exact HO103.out)); (case aS => exact (below_size bl)); (case aL => have := LMc2.out; simp; omega); intro v105 w5 ho hb hg hat; rw [List.nil_append] at ho; have n0_ := Aside0.mk (hb); have n1_ := Aside0.mk (ho); clear HB; clear HO103; have HB := n0_; have HO106 := n1_; clear n0_ n1_; clear ho hb hg hat))
    go_ret
    exact ⟨_, by first | rfl | (simp; done), by (with_reducible repeat (first | apply Kd.R_alloc | apply Kd.R_drewN | apply Kd.R_drew)); exact HO106.out, bl⟩
/-! ### impl_wholeDeterminant_1: function 154 -/
theorem wd_pred {b1 : Nat} (A : Option Addr) (c : Nat) (l : List Int) (a : Int) (r : Bool) (w : World) (hr : Kd.C (Kd.int .i64) w A l.length l) (hb : w.heap[b1]? = some (.cells #[.int .i64 a] 3 (0, 0))) (h : (if 0 ≤ a then (if a < (l.length : Int) then some (rd l a != 0) else none) else none) = some r) :
    Calls Try.prog 154 #[.slice A l.length c, .pointer (some ⟨b1, 0, none⟩)] w fun e w' => e = .returned (.bool r) ∧ Drawn0 w w' := by
  by_cases h0 : 0 ≤ a
  case neg =>
    rw [if_neg h0] at h; cases h
  rw [if_pos h0] at h
  by_cases h1 : a < (l.length : Int)
  case neg =>
    rw [if_neg h1] at h; cases h
  rw [if_pos h1] at h
  obtain rfl := Option.some.inj h
  obtain ⟨ad, e, hcell⟩ := Kd.at_int hr a h0 h1
  subst e
  have hq2 : w.cell? ⟨b1, 0, none⟩ = some (.int .i64 a) := (blk_cell hb 0).trans rfl
  have hf2 := blk_frozen hb 0
  have c0b : decide (0 ≤ a) = true := decide_eq_true h0
  have c1b : decide (a < (l.length : Int)) = true := decide_eq_true h1
  have c0p := eq_true h0
  have c1p := eq_true h1
  clear hr hb h h0 h1
  go_enter Try.func154, Try.ntmps154
  go_wp2
  go_ret
  exact ⟨by first | rfl | (simp; done) | (simp [*]; done), by repeat (first | exact Drawn0.refl _ | apply Drawn0.step)⟩
theorem wd_idx (p : List Int → Option Bool) (b1 : Nat) (A : Option Addr) (c : Nat) (l : List (List Int)) (R : Int) (w : World) (hr : Kd.C (Kd.slice 2 (Kd.int .i64)) w A l.length l)
  (hp : ∀ (A' : Option Addr) (c' : Nat) (x : List Int) (b : Bool) w1, Below w.heap.size w w1 → Kd.C (Kd.int .i64) w1 A' x.length x → x.length ≤ c' → p x = some b → Calls Try.prog 154 #[.slice A' x.length c', .pointer (some ⟨b1, 0, none⟩)] w1 fun e w' => e = .returned (.bool b) ∧ Below w1.heap.size w1 w') (h : idxM p l 0 = some R) :
  Calls Try.prog 61 #[.slice A l.length c, .func (.func 154) #[] #[.pointer (some ⟨b1, 0, none⟩)]] w fun e w' => e = .returned (.int .i64 R) ∧ Below w.heap.size w w' := by
  have HR := Aside0.mk hr
  have HP := Aside0.mk hp
  have H' := Aside0.mk h
  have hlen : l.length ≤ 9223372036854775807 := hr.2.1
  clear hr hp h
  go_enter Try.func61, Try.ntmps61
  go_wp2_with fail
  go_loopw [8] (fun i wr => ∃ k : Nat, k ≤ l.length ∧ i = .int .i64 k ∧ Aside0 (idxM p (l.drop k) k = some R) ∧ Aside0 (Below w.heap.size w wr)) (fun i _ => l.length - (intOf i).toNat)
  case atStart => exact ⟨0, Nat.zero_le _, rfl, ⟨by simpa using H'.out⟩, ⟨Below.refl _ _⟩⟩
  case round =>
    clear H'
    obtain ⟨k, hk, rfl, HI, HB⟩ := hrel
    by_cases hlt : k < l.length
    case neg =>
      have hI := HI.out
      rw [List.drop_of_length_le (by omega)] at hI
      simp only [idxM, Option.some.injEq] at hI
      subst hI
      have hb : decide (k < l.length) = false := by simp; omega
      go_wp2
      go_ret
      exact ⟨rfl, HB.out⟩
    have hI := HI.out
    rw [List.drop_eq_getElem_cons hlt] at hI
    simp only [idxM] at hI
    obtain ⟨b, hb, hI⟩ := Option.bind_eq_some_iff.mp hI
    obtain ⟨ad, A', c', e, hcell, hlc, hC⟩ := at_L1 (Kd.C_below HR.out HB.out) (k : Int) (by omega) (by omega)
    cases e
    rw [Int.toNat_natCast] at hcell
    have hx : rd_L1 l (k : Int) = l[k] := by simp [rd_L1, List.getD_eq_getElem?_getD, hlt]
    rw [hx] at hcell hlc hC
    have HCX := Aside0.mk hC
    have HLX := Aside0.mk hlc
    have HBX := Aside0.mk hb
    clear hC hlc hb hx
    cases b with
    | true =>
      simp only [if_true, Option.some.injEq] at hI
      subst hI
      go_wp2_with (go_at_call 154; refine (HP.out _ _ _ true _ HB.out HCX.out HLX.out HBX.out).mono ?_; rintro e w' ⟨rfl, hb_⟩; have HB2 := Aside0.mk (below_step HB.out hb_); clear hb_)
      go_ret
      exact ⟨rfl, HB2.out⟩
    | false =>
      simp only [Bool.false_eq_true, if_false] at hI
      have HD := Aside0.mk hI
      clear hI
      go_wp2_with (go_at_call 154; refine (HP.out _ _ _ false _ HB.out HCX.out HLX.out HBX.out).mono ?_; rintro e w' ⟨rfl, hb_⟩; have HB2 := Aside0.mk (below_step HB.out hb_); clear hb_)
      go_roundw
      case rel => exact ⟨k+1, by omega, by go_num, HD, HB2⟩
      case measure => simp [intOf]; omega
def impl_wholeDeterminant_1.f (k : Nat) (l0 : List (List Int)) (a1 : Int) : Option Int := idxM (fun x => if 0 ≤ a1 then (if a1 < (x.length : Int) then some (rd x a1 != 0) else none) else none) l0 0
theorem impl_wholeDeterminant_1.mono : ∀ a0 a1 k, LeO (impl_wholeDeterminant_1.f k a0 a1) (impl_wholeDeterminant_1.f (k + 1) a0 a1) := fun _ _ _ _ h => h
set_option maxHeartbeats 8000000 in
set_option maxRecDepth 100000 in
theorem impl_wholeDeterminant_1.calls {b1 : Nat} (k : Nat) (A0 : Option Addr) (c0 : Nat) (l0 : List (List Int)) (a1 : Int) (r : Int) (w : World) (hr0 : Kd.C (Kd.slice 2 (Kd.int .i64)) w A0 l0.length l0) (hc0 : l0.length ≤ c0) (hb1 : w.heap[b1]? = some (.cells #[.int .i64 a1] 3 (0, 0))) (h : impl_wholeDeterminant_1.f k l0 a1 = some r) :
    Calls Try.prog 61 #[.slice A0 l0.length c0, .func (.func 154) #[] #[.pointer (some ⟨b1, 0, none⟩)]] w fun e w' => e = .returned (.int .i64 r) ∧ Below w.heap.size w w' := by
  unfold impl_wholeDeterminant_1.f at h
  refine wd_idx (fun x => if 0 ≤ a1 then (if a1 < (x.length : Int) then some (rd x a1 != 0) else none) else none) b1 A0 c0 l0 r w hr0 (fun A' c' x b w1 hw1 hC hc hx => ?_) h
  exact (wd_pred A' c' x a1 b w1 hC (blk_below hb1 hw1) hx).mono fun e w' ⟨h1, h2⟩ => ⟨h1, h2.below⟩

end Go.Proofs.Ytpckiapngjcijaa.G
