/- The functions that one law reaches, each as a Lean function, and that Go's call comes to what it says. Condition of each: that the Lean function answers (is not none). -/
import Derived.Test.YtjgdibhalmcigaaCx0
import Derived.Test.YtjgdibhalmcigaaCx10
namespace Go.Proofs.Ytjgdibhalmcigaa.C
open Go.RowKit Go.Proofs.YtjgdibhalmcigaaW.PrintWords Go.Proofs.YtjgdibhalmcigaaW.PrintLast Go.Proofs.YtjgdibhalmcigaaW.PrintMore
attribute [local go_sem] max2_int min2_int max_two min_two max_three min_three max_four min_four   -- for this text's walks alone
set_option linter.unusedVariables false
set_option linter.unusedSimpArgs false

/-! ### impl_Graph_edgeMatrix: function 82 -/
mutual
def impl_Graph_edgeMatrix.l0 : Nat → List (List Int) → Int → Int → Int → List (List Int) → Option ((List (List Int)))
  | 0, _, _, _, _, _ => none
  | k + 1, x3, x16, x17, x102000, x102001 => if x17 < x16 then ((impl_Graph_ends.f x102000 x102001 x17).bind fun bt107 => ((impl_Graph_size.f x102000 x102001).bind fun t109 => (impl_Graph_edgeMatrix.l1 k x3 x17 bt107.2 x16 x17 (wrap64 (2 * t109)) 0 x102000 x102001))) else (some x3)
def impl_Graph_edgeMatrix.l1 : Nat → List (List Int) → Int → Int → Int → Int → Int → Int → Int → List (List Int) → Option ((List (List Int)))
  | 0, _, _, _, _, _, _, _, _, _ => none
  | k + 1, x3, x4, x6, x16, x17, x28, x29, x102000, x102001 => if x29 < x28 then ((impl_Graph_ends.f x102000 x102001 x29).bind fun bt110 => (if bt110.1 = x6 then (if x29 = (Go.bits .xor .i64 x4 1) then (impl_Graph_edgeMatrix.l1 k x3 x4 x6 x16 x17 x28 (wrap64 (x29 + 1)) x102000 x102001) else (if 0 ≤ x4 then (if x4 < (x3.length : Int) then (if 0 ≤ x29 then (if x29 < ((rd_L1 x3 x4).length : Int) then (impl_Graph_edgeMatrix.l1 k (x3.set (x4 : Int).toNat ((rd_L1 x3 x4).set (x29 : Int).toNat 1)) x4 x6 x16 x17 x28 (wrap64 (x29 + 1)) x102000 x102001) else (none)) else (none)) else (none)) else (none))) else (impl_Graph_edgeMatrix.l1 k x3 x4 x6 x16 x17 x28 (wrap64 (x29 + 1)) x102000 x102001))) else (impl_Graph_edgeMatrix.l0 k x3 x16 (wrap64 (x17 + 1)) x102000 x102001)
end
def impl_Graph_edgeMatrix.f (k : Nat) (a0_0 : Int) (l0_1 : List (List Int)) : Option ((List (List Int))) := (impl_Graph_size.f a0_0 l0_1).bind fun t102 => ((impl_square.f k (wrap64 (2 * t102))).bind fun t103 => ((impl_Graph_size.f a0_0 l0_1).bind fun t106 => (impl_Graph_edgeMatrix.l0 k t103 (wrap64 (2 * t106)) 0 a0_0 l0_1)))
theorem impl_Graph_edgeMatrix.mono_l : ∀ k, (∀ y0 y1 y2 y3 y4, LeO (impl_Graph_edgeMatrix.l0 k y0 y1 y2 y3 y4) (impl_Graph_edgeMatrix.l0 (k + 1) y0 y1 y2 y3 y4)) ∧ (∀ y0 y1 y2 y3 y4 y5 y6 y7 y8, LeO (impl_Graph_edgeMatrix.l1 k y0 y1 y2 y3 y4 y5 y6 y7 y8) (impl_Graph_edgeMatrix.l1 (k + 1) y0 y1 y2 y3 y4 y5 y6 y7 y8))
  | 0 => ⟨fun _ _ _ _ _ r h => by simp [impl_Graph_edgeMatrix.l0] at h, fun _ _ _ _ _ _ _ _ _ r h => by simp [impl_Graph_edgeMatrix.l1] at h⟩
  | k + 1 => by
    obtain ⟨ih0, ih1⟩ := impl_Graph_edgeMatrix.mono_l k
    refine ⟨?_, ?_⟩
    · intro y0 y1 y2 y3 y4
      unfold impl_Graph_edgeMatrix.l0
      repeat' first
      | (with_reducible exact ih0 _ _ _ _ _)
      | (with_reducible exact ih1 _ _ _ _ _ _ _ _ _)
      | (with_reducible exact impl_square.mono _ _)
      | (with_reducible exact LeO.refl _)
      | (with_reducible exact LeO.none _)
      | (with_reducible refine LeO.ite ?_ ?_)
      | (with_reducible refine LeO.bind ?_ (fun _ => ?_))
      | exact ih0 _ _ _ _ _
      | exact ih1 _ _ _ _ _ _ _ _ _
      | exact impl_square.mono _ _
      | exact LeO.none _
      | refine LeO.ite ?_ ?_
      | refine LeO.bind ?_ (fun _ => ?_)
    · intro y0 y1 y2 y3 y4 y5 y6 y7 y8
      unfold impl_Graph_edgeMatrix.l1
      repeat' first
      | (with_reducible exact ih0 _ _ _ _ _)
      | (with_reducible exact ih1 _ _ _ _ _ _ _ _ _)
      | (with_reducible exact impl_square.mono _ _)
      | (with_reducible exact LeO.refl _)
      | (with_reducible exact LeO.none _)
      | (with_reducible refine LeO.ite ?_ ?_)
      | (with_reducible refine LeO.bind ?_ (fun _ => ?_))
      | exact ih0 _ _ _ _ _
      | exact ih1 _ _ _ _ _ _ _ _ _
      | exact impl_square.mono _ _
      | exact LeO.none _
      | refine LeO.ite ?_ ?_
      | refine LeO.bind ?_ (fun _ => ?_)
theorem impl_Graph_edgeMatrix.mono : ∀ a0 a1 k, LeO (impl_Graph_edgeMatrix.f k a0 a1) (impl_Graph_edgeMatrix.f (k + 1) a0 a1) := by
  intro a0 a1 k
  obtain ⟨ih0, ih1⟩ := impl_Graph_edgeMatrix.mono_l k
  unfold impl_Graph_edgeMatrix.f
  repeat' first
      | (with_reducible exact ih0 _ _ _ _ _)
      | (with_reducible exact ih1 _ _ _ _ _ _ _ _ _)
      | (with_reducible exact impl_square.mono _ _)
      | (with_reducible exact LeO.refl _)
      | (with_reducible exact LeO.none _)
      | (with_reducible refine LeO.ite ?_ ?_)
      | (with_reducible refine LeO.bind ?_ (fun _ => ?_))
      | exact ih0 _ _ _ _ _
      | exact ih1 _ _ _ _ _ _ _ _ _
      | exact impl_square.mono _ _
      | exact LeO.none _
      | refine LeO.ite ?_ ?_
      | refine LeO.bind ?_ (fun _ => ?_)
set_option maxHeartbeats 8000000 in
set_option maxRecDepth 100000 in
theorem impl_Graph_edgeMatrix.calls (k : Nat) (a0_0 : Int) (A0_1 : Option Addr) (c0_1 : Nat) (l0_1 : List (List Int)) (r : List (List Int)) (w : World) (hr0_1 : Kd.C (Kd.slice 2 (Kd.int .i64)) w A0_1 l0_1.length l0_1) (hc0_1 : l0_1.length ≤ c0_1) (h : impl_Graph_edgeMatrix.f k a0_0 l0_1 = some r) :
    Calls Try.prog 82 #[.agg #[.int .i64 a0_0, .slice A0_1 l0_1.length c0_1]] w fun e w' => ∃ v0_ : Value, e = .returned (v0_) ∧ Kd.S (Kd.slice 2 (Kd.int .i64)) 32 w' w.heap.size (fun _ => True) v0_ r ∧ Below w.heap.size w w' := by
  have hu28 := Try.underlying28
  have HR0_1 := Aside0.mk hr0_1
  have HC0_1 := Aside0.mk hc0_1
  clear hr0_1 hc0_1
  have HB := Aside0.mk (Below.refl w.heap.size w)
  have H : ((impl_Graph_size.f a0_0 l0_1).bind fun t102 => ((impl_square.f k (wrap64 (2 * t102))).bind fun t103 => ((impl_Graph_size.f a0_0 l0_1).bind fun t106 => (impl_Graph_edgeMatrix.l0 k t103 (wrap64 (2 * t106)) 0 a0_0 l0_1)))) = some r := h
  clear h
  replace H := Option.bind_eq_some_iff.mp H
  obtain ⟨t102, A20, H⟩ := H
  replace H : ((impl_square.f k (wrap64 (2 * t102))).bind fun t103 => ((impl_Graph_size.f a0_0 l0_1).bind fun t106 => (impl_Graph_edgeMatrix.l0 k t103 (wrap64 (2 * t106)) 0 a0_0 l0_1))) = some r := H
  have A2 := Aside0.mk A20
  clear A20
  replace H := Option.bind_eq_some_iff.mp H
  obtain ⟨t103, A30, H⟩ := H
  replace H : ((impl_Graph_size.f a0_0 l0_1).bind fun t106 => (impl_Graph_edgeMatrix.l0 k t103 (wrap64 (2 * t106)) 0 a0_0 l0_1)) = some r := H
  have A3 := Aside0.mk A30
  clear A30
  replace H := Option.bind_eq_some_iff.mp H
  obtain ⟨t106, A40, H⟩ := H
  replace H : (impl_Graph_edgeMatrix.l0 k t103 (wrap64 (2 * t106)) 0 a0_0 l0_1) = some r := H
  have A4 := Aside0.mk A40
  clear A40
  have H' := Aside0.mk H
  clear H
  go_enter Try.func82, Try.ntmps82
  go_wp2_with (first | ((with_reducible refine gate_dst (N := 1) rfl ?_); refine box_event ?hg (N := 1) ?hd (cs := #[.int .i64 a0_0, .slice A0_1 l0_1.length c0_1]) (t := 28) ?hr ?_; (case hd => rfl); (case hg => rfl); (case hr => first | (go_simp; done) | (go_simp; rfl)); intro gb101 hg w5 hbox hb; have n0_ := Aside0.mk (below_step bl hb); have n1_ := Aside0.mk (hbox); have n2_ := Aside0.mk ((by rw [hg]; exact (below_size bl) : w.heap.size ≤ gb101)); have n3_ := Aside0.mk ((by rw [hg]; exact (below_size bl) : w.heap.size ≤ gb101)); clear HB; have HB := n0_; have BK101 := n1_; have GW101 := n2_; have GE101 := n3_; clear n0_ n1_ n2_ n3_; clear hb hbox hg; have hcz6_0 : w5.cell? ⟨gb101, 0, none⟩ = some (.int .i64 a0_0) := (blk_cell BK101.out 0).trans rfl; have hcz6_1 : w5.cell? ⟨gb101, 1, none⟩ = some (.slice A0_1 l0_1.length c0_1) := (blk_cell BK101.out 1).trans rfl; have hfz6_0 := blk_frozen BK101.out 0; have hfz6_1 := blk_frozen BK101.out 1) | ((with_reducible refine gate_callee (f := 91) rfl ?_); refine goesL_ (some 11) rfl rfl Try.func91 (by kernel_rfl) rfl #[.agg #[.int .i64 a0_0, .slice A0_1 l0_1.length c0_1]] rfl gm ?_; (with_reducible refine (impl_Graph_size.calls a0_0 _ _ l0_1 t102 _ ?side1 ?side2 A2.out).mono ?_); (case side1 => repeat (first | exact (Kd.C_below HR0_1.out HB.out) | (with_reducible refine Kd.C_alloc ?_ _) | (with_reducible refine Kd.C_drewN ?_ _) | (with_reducible refine Kd.C_drew ?_))); (case side2 => exact HC0_1.out); rintro e w7 ⟨rfl, hb⟩; refine ⟨_, rfl, ?_⟩; have n0_ := Aside0.mk (blk_below (g := gb101) (o := .cells #[.int .i64 a0_0, .slice A0_1 l0_1.length c0_1] 28 (0, 0)) bk hb); have n1_ := Aside0.mk (below_step bl hb); clear BK101; clear HB; have BK101 := n0_; have HB := n1_; clear n0_ n1_; (try clear hb); (try clear hb2); (try clear hk); (try clear hi)) | ((with_reducible refine gate_callee (f := 119) rfl ?_); refine goesL_ (some 13) rfl rfl Try.func119 (by kernel_rfl) rfl #[.int .i64 (wrap64 (2 * t102))] rfl gm ?_; (with_reducible refine (impl_square.calls k (wrap64 (2 * t102)) t103 _ A3.out).mono ?_); rintro e w8 ⟨v104, rfl, ho0, hb⟩; refine ⟨_, rfl, ?_⟩; have n0_ := Aside0.mk (Kd.S_lower ho0 (below_size bl)); have n1_ := Aside0.mk (blk_below (g := gb101) (o := .cells #[.int .i64 a0_0, .slice A0_1 l0_1.length c0_1] 28 (0, 0)) bk hb); have n2_ := Aside0.mk (below_step bl hb); clear BK101; clear HB; have HO105 := n0_; have BK101 := n1_; have HB := n2_; clear n0_ n1_ n2_; (try clear hb); (try clear hb2); (try clear hk); (try clear hi); (try clear ho0); have hcz9_0 : w8.cell? ⟨gb101, 0, none⟩ = some (.int .i64 a0_0) := (blk_cell BK101.out 0).trans rfl; have hcz9_1 : w8.cell? ⟨gb101, 1, none⟩ = some (.slice A0_1 l0_1.length c0_1) := (blk_cell BK101.out 1).trans rfl; have hfz9_0 := blk_frozen BK101.out 0; have hfz9_1 := blk_frozen BK101.out 1) | ((with_reducible refine gate_callee (f := 91) rfl ?_); refine goesL_ (some 15) rfl rfl Try.func91 (by kernel_rfl) rfl #[.agg #[.int .i64 a0_0, .slice A0_1 l0_1.length c0_1]] rfl gm ?_; (with_reducible refine (impl_Graph_size.calls a0_0 _ _ l0_1 t106 _ ?side1 ?side2 A4.out).mono ?_); (case side1 => repeat (first | exact (Kd.C_below HR0_1.out HB.out) | (with_reducible refine Kd.C_alloc ?_ _) | (with_reducible refine Kd.C_drewN ?_ _) | (with_reducible refine Kd.C_drew ?_))); (case side2 => exact HC0_1.out); rintro e w10 ⟨rfl, hb⟩; refine ⟨_, rfl, ?_⟩; have n0_ := Aside0.mk (Kd.S_below (by (with_reducible repeat (first | apply Kd.S_alloc | apply Kd.S_drewN | apply Kd.S_drew)); exact HO105.out) hb); have n1_ := Aside0.mk (blk_below (g := gb101) (o := .cells #[.int .i64 a0_0, .slice A0_1 l0_1.length c0_1] 28 (0, 0)) bk hb); have n2_ := Aside0.mk (below_step bl hb); clear HO105; clear BK101; clear HB; have HO105 := n0_; have BK101 := n1_; have HB := n2_; clear n0_ n1_ n2_; (try clear hb); (try clear hb2); (try clear hk); (try clear hi)))
  go_loopg [17] k (fun kq v17 w' => ∃ (x3_1 : List (List Int)) (x17_1 : Int), v17 = .int .i64 x17_1 ∧ Aside0 (impl_Graph_edgeMatrix.l0 kq x3_1 (wrap64 (2 * t106)) x17_1 a0_0 l0_1 = some r) ∧ Aside0 (kq ≤ k) ∧ Aside0 (Kd.S (Kd.slice 2 (Kd.int .i64)) 32 w' w.heap.size (fun _ => True) v104 x3_1) ∧ Aside0 (w'.heap[gb101]? = some (.cells #[.int .i64 a0_0, (.slice A0_1 l0_1.length c0_1)] 28 (0, 0))) ∧ Aside0 (Below w.heap.size w w'))
  case atStart => exact ⟨(t103), (0), rs, H', ⟨Nat.le_refl _⟩, ⟨by (with_reducible repeat (first | apply Kd.S_alloc | apply Kd.S_drewN | apply Kd.S_drew)); exact HO105.out⟩, ⟨bk⟩, ⟨bl⟩⟩
  case round =>
    clear H'
    (try clear c1); (try clear p2); (try clear p6); (try clear c8); (try clear c9); (try clear hcz6_0); (try clear hcz6_1); (try clear hcz9_0); (try clear hcz9_1); (try clear hfz6_0); (try clear hfz6_1); (try clear hfz9_0); (try clear hfz9_1)
    obtain ⟨x3_1, x17_1, rfl, HA, HK1, HO_3, BK101, HB⟩ := hrel
    cases gk with
    | zero => exact absurd HA.out (by simp [impl_Graph_edgeMatrix.l0])
    | succ k1 =>
      have H := HA.out
      clear HA
      simp only [impl_Graph_edgeMatrix.l0] at H
      by_cases c11 : x17_1 < (wrap64 (2 * t106))
      case neg =>
        rw [if_neg c11] at H
        have c11b0 : decide (x17_1 < (wrap64 (2 * t106))) = false := decide_eq_false c11
        clear c11
        obtain rfl := Option.some.inj H
        go_wp2
        go_ret
        exact ⟨_, by first | rfl | (simp [errW_none, errW_some] <;> rfl) | (simp [*, errW_none, errW_some] <;> rfl), by (with_reducible repeat (first | apply Kd.S_alloc | apply Kd.S_drewN | apply Kd.S_drew)); exact HO_3.out, bl⟩
      rw [if_pos c11] at H
      have c11b0 : decide (x17_1 < (wrap64 (2 * t106))) = true := decide_eq_true c11
      clear c11
      replace H := Option.bind_eq_some_iff.mp H
      obtain ⟨⟨t107, t108⟩, A120, H⟩ := H
      replace H : ((impl_Graph_size.f a0_0 l0_1).bind fun t109 => (impl_Graph_edgeMatrix.l1 k1 x3_1 x17_1 t108 (wrap64 (2 * t106)) x17_1 (wrap64 (2 * t109)) 0 a0_0 l0_1)) = some r := H
      have A12 := Aside0.mk A120
      clear A120
      replace H := Option.bind_eq_some_iff.mp H
      obtain ⟨t109, A130, H⟩ := H
      replace H : (impl_Graph_edgeMatrix.l1 k1 x3_1 x17_1 t108 (wrap64 (2 * t106)) x17_1 (wrap64 (2 * t109)) 0 a0_0 l0_1) = some r := H
      have A13 := Aside0.mk A130
      clear A130
      have H' := Aside0.mk H
      clear H
      have hcz14_0 : wr.cell? ⟨gb101, 0, none⟩ = some (.int .i64 a0_0) := (blk_cell BK101.out 0).trans rfl
      have hcz14_1 : wr.cell? ⟨gb101, 1, none⟩ = some (.slice A0_1 l0_1.length c0_1) := (blk_cell BK101.out 1).trans rfl
      have hfz14_0 := blk_frozen BK101.out 0
      have hfz14_1 := blk_frozen BK101.out 1
      go_wp2_with (first | ((with_reducible refine gate_callee (f := 122) rfl ?_); refine goesL_ (some 23) rfl rfl Try.func122 (by kernel_rfl) rfl #[.agg #[.int .i64 a0_0, .slice A0_1 l0_1.length c0_1], .int .i64 x17_1] rfl gm ?_; (with_reducible refine (impl_Graph_ends.calls a0_0 _ _ l0_1 x17_1 t107 t108 _ ?side1 ?side2 A12.out).mono ?_); (case side1 => repeat (first | exact (Kd.C_below HR0_1.out HB.out) | (with_reducible refine Kd.C_alloc ?_ _) | (with_reducible refine Kd.C_drewN ?_ _) | (with_reducible refine Kd.C_drew ?_))); (case side2 => exact HC0_1.out); rintro e w15 ⟨rfl, hb⟩; refine ⟨_, rfl, ?_⟩; have n0_ := Aside0.mk (Kd.S_below (by (with_reducible repeat (first | apply Kd.S_alloc | apply Kd.S_drewN | apply Kd.S_drew)); exact HO_3.out) hb); have n1_ := Aside0.mk (blk_below (g := gb101) (o := .cells #[.int .i64 a0_0, .slice A0_1 l0_1.length c0_1] 28 (0, 0)) bk hb); have n2_ := Aside0.mk (below_step bl hb); clear HO_3; clear BK101; clear HB; have HO_3 := n0_; have BK101 := n1_; have HB := n2_; clear n0_ n1_ n2_; (try clear hb); (try clear hb2); (try clear hk); (try clear hi); have hcz16_0 : w15.cell? ⟨gb101, 0, none⟩ = some (.int .i64 a0_0) := (blk_cell BK101.out 0).trans rfl; have hcz16_1 : w15.cell? ⟨gb101, 1, none⟩ = some (.slice A0_1 l0_1.length c0_1) := (blk_cell BK101.out 1).trans rfl; have hfz16_0 := blk_frozen BK101.out 0; have hfz16_1 := blk_frozen BK101.out 1) | ((with_reducible refine gate_callee (f := 91) rfl ?_); refine goesL_ (some 27) rfl rfl Try.func91 (by kernel_rfl) rfl #[.agg #[.int .i64 a0_0, .slice A0_1 l0_1.length c0_1]] rfl gm ?_; (with_reducible refine (impl_Graph_size.calls a0_0 _ _ l0_1 t109 _ ?side1 ?side2 A13.out).mono ?_); (case side1 => repeat (first | exact (Kd.C_below HR0_1.out HB.out) | (with_reducible refine Kd.C_alloc ?_ _) | (with_reducible refine Kd.C_drewN ?_ _) | (with_reducible refine Kd.C_drew ?_))); (case side2 => exact HC0_1.out); rintro e w17 ⟨rfl, hb⟩; refine ⟨_, rfl, ?_⟩; have n0_ := Aside0.mk (Kd.S_below (by (with_reducible repeat (first | apply Kd.S_alloc | apply Kd.S_drewN | apply Kd.S_drew)); exact HO_3.out) hb); have n1_ := Aside0.mk (blk_below (g := gb101) (o := .cells #[.int .i64 a0_0, .slice A0_1 l0_1.length c0_1] 28 (0, 0)) bk hb); have n2_ := Aside0.mk (below_step bl hb); clear HO_3; clear BK101; clear HB; have HO_3 := n0_; have BK101 := n1_; have HB := n2_; clear n0_ n1_ n2_; (try clear hb); (try clear hb2); (try clear hk); (try clear hi)))
      go_loopg [29] k1 (fun kq v29 w' => ∃ (x3_2 : List (List Int)) (x29_2 : Int), v29 = .int .i64 x29_2 ∧ Aside0 (impl_Graph_edgeMatrix.l1 kq x3_2 x17_1 t108 (wrap64 (2 * t106)) x17_1 (wrap64 (2 * t109)) x29_2 a0_0 l0_1 = some r) ∧ Aside0 (kq ≤ k1) ∧ Aside0 (Kd.S (Kd.slice 2 (Kd.int .i64)) 32 w' w.heap.size (fun _ => True) v104 x3_2) ∧ Aside0 (w'.heap[gb101]? = some (.cells #[.int .i64 a0_0, (.slice A0_1 l0_1.length c0_1)] 28 (0, 0))) ∧ Aside0 (Below w.heap.size w w'))
      case atStart => exact ⟨(x3_1), (0), rs, H', ⟨Nat.le_refl _⟩, ⟨by (with_reducible repeat (first | apply Kd.S_alloc | apply Kd.S_drewN | apply Kd.S_drew)); exact HO_3.out⟩, ⟨bk⟩, ⟨bl⟩⟩
      case round =>
        clear H'
        (try clear c1); (try clear p2); (try clear p6); (try clear c8); (try clear c9); (try clear c11); (try clear c11b0); (try clear c12); (try clear hcz14_0); (try clear hcz14_1); (try clear hcz16_0); (try clear hcz16_1); (try clear hcz6_0); (try clear hcz6_1); (try clear hcz9_0); (try clear hcz9_1); (try clear hfz14_0); (try clear hfz14_1); (try clear hfz16_0); (try clear hfz16_1); (try clear hfz6_0); (try clear hfz6_1); (try clear hfz9_0); (try clear hfz9_1); (try clear p2); (try clear p6)
        obtain ⟨x3_2, x29_2, rfl, HA, HK2, HO_3, BK101, HB⟩ := hrel
        cases gk with
        | zero => exact absurd HA.out (by simp [impl_Graph_edgeMatrix.l1])
        | succ k2 =>
          have H := HA.out
          clear HA
          simp only [impl_Graph_edgeMatrix.l1] at H
          by_cases c18 : x29_2 < (wrap64 (2 * t109))
          case neg =>
            rw [if_neg c18] at H
            have c18b0 : decide (x29_2 < (wrap64 (2 * t109))) = false := decide_eq_false c18
            clear c18
            have H' := Aside0.mk H
            clear H
            go_wp2
            go_roundg k2
            case measure => have := HK1.out; have := HK2.out; omega
            case rel => exact ⟨(x3_2), (wrap64 (x17_1 + 1)), rs, H', ⟨by have := HK1.out; have := HK2.out; omega⟩, ⟨by (with_reducible repeat (first | apply Kd.S_alloc | apply Kd.S_drewN | apply Kd.S_drew)); exact HO_3.out⟩, ⟨bk⟩, ⟨bl⟩⟩
          rw [if_pos c18] at H
          have c18b0 : decide (x29_2 < (wrap64 (2 * t109))) = true := decide_eq_true c18
          clear c18
          replace H := Option.bind_eq_some_iff.mp H
          obtain ⟨⟨t110, t111⟩, A190, H⟩ := H
          replace H : (if t110 = t108 then (if x29_2 = (Go.bits .xor .i64 x17_1 1) then (impl_Graph_edgeMatrix.l1 k2 x3_2 x17_1 t108 (wrap64 (2 * t106)) x17_1 (wrap64 (2 * t109)) (wrap64 (x29_2 + 1)) a0_0 l0_1) else (if 0 ≤ x17_1 then (if x17_1 < (x3_2.length : Int) then (if 0 ≤ x29_2 then (if x29_2 < ((rd_L1 x3_2 x17_1).length : Int) then (impl_Graph_edgeMatrix.l1 k2 (x3_2.set (x17_1 : Int).toNat ((rd_L1 x3_2 x17_1).set (x29_2 : Int).toNat 1)) x17_1 t108 (wrap64 (2 * t106)) x17_1 (wrap64 (2 * t109)) (wrap64 (x29_2 + 1)) a0_0 l0_1) else (none)) else (none)) else (none)) else (none))) else (impl_Graph_edgeMatrix.l1 k2 x3_2 x17_1 t108 (wrap64 (2 * t106)) x17_1 (wrap64 (2 * t109)) (wrap64 (x29_2 + 1)) a0_0 l0_1)) = some r := H
          have A19 := Aside0.mk A190
          clear A190
          by_cases c20 : t110 = t108
          case neg =>
            rw [if_neg c20] at H
            have c20b0 : (t110 == t108) = false := beq_eq_false_iff_ne.mpr c20
            have c20b1 : (t110 != t108) = true := bne_iff_ne.mpr c20
            have H' := Aside0.mk H
            clear H
            have hcz34_0 : wr.cell? ⟨gb101, 0, none⟩ = some (.int .i64 a0_0) := (blk_cell BK101.out 0).trans rfl
            have hcz34_1 : wr.cell? ⟨gb101, 1, none⟩ = some (.slice A0_1 l0_1.length c0_1) := (blk_cell BK101.out 1).trans rfl
            have hfz34_0 := blk_frozen BK101.out 0
            have hfz34_1 := blk_frozen BK101.out 1
            go_wp2_with (first | ((with_reducible refine gate_callee (f := 122) rfl ?_); refine goesL_ (some 35) rfl rfl Try.func122 (by kernel_rfl) rfl #[.agg #[.int .i64 a0_0, .slice A0_1 l0_1.length c0_1], .int .i64 x29_2] rfl gm ?_; (with_reducible refine (impl_Graph_ends.calls a0_0 _ _ l0_1 x29_2 t110 t111 _ ?side1 ?side2 A19.out).mono ?_); (case side1 => repeat (first | exact (Kd.C_below HR0_1.out HB.out) | (with_reducible refine Kd.C_alloc ?_ _) | (with_reducible refine Kd.C_drewN ?_ _) | (with_reducible refine Kd.C_drew ?_))); (case side2 => exact HC0_1.out); rintro e w35 ⟨rfl, hb⟩; refine ⟨_, rfl, ?_⟩; have n0_ := Aside0.mk (Kd.S_below (by (with_reducible repeat (first | apply Kd.S_alloc | apply Kd.S_drewN | apply Kd.S_drew)); exact HO_3.out) hb); have n1_ := Aside0.mk (blk_below (g := gb101) (o := .cells #[.int .i64 a0_0, .slice A0_1 l0_1.length c0_1] 28 (0, 0)) bk hb); have n2_ := Aside0.mk (below_step bl hb); clear HO_3; clear BK101; clear HB; have HO_3 := n0_; have BK101 := n1_; have HB := n2_; clear n0_ n1_ n2_; (try clear hb); (try clear hb2); (try clear hk); (try clear hi)))
            go_roundg k2
            case measure => have := HK1.out; have := HK2.out; omega
            case rel => exact ⟨(x3_2), (wrap64 (x29_2 + 1)), rs, H', ⟨by have := HK1.out; have := HK2.out; omega⟩, ⟨by (with_reducible repeat (first | apply Kd.S_alloc | apply Kd.S_drewN | apply Kd.S_drew)); exact HO_3.out⟩, ⟨bk⟩, ⟨bl⟩⟩
          rw [if_pos c20] at H
          have c20b0 : (t110 == t108) = true := beq_iff_eq.mpr c20
          have c20b1 : (t110 != t108) = false := bne_eq_false_iff_eq.mpr c20
          clear c20
          by_cases c21 : x29_2 = (Go.bits .xor .i64 x17_1 1)
          case neg =>
            rw [if_neg c21] at H
            have c21b0 : (x29_2 == (Go.bits .xor .i64 x17_1 1)) = false := beq_eq_false_iff_ne.mpr c21
            have c21b1 : (x29_2 != (Go.bits .xor .i64 x17_1 1)) = true := bne_iff_ne.mpr c21
            by_cases c24 : 0 ≤ x17_1
            case neg => rw [if_neg c24] at H; exact absurd H (by simp)
            rw [if_pos c24] at H
            have c24b0 : decide (0 ≤ x17_1) = true := decide_eq_true c24
            clear c24
            by_cases c25 : x17_1 < (x3_2.length : Int)
            case neg => rw [if_neg c25] at H; exact absurd H (by simp)
            rw [if_pos c25] at H
            have c25b0 : decide (x17_1 < (x3_2.length : Int)) = true := decide_eq_true c25
            clear c25
            by_cases c26 : 0 ≤ x29_2
            case neg => rw [if_neg c26] at H; exact absurd H (by simp)
            rw [if_pos c26] at H
            have c26b0 : decide (0 ≤ x29_2) = true := decide_eq_true c26
            clear c26
            by_cases c27 : x29_2 < ((rd_L1 x3_2 x17_1).length : Int)
            case neg => rw [if_neg c27] at H; exact absurd H (by simp)
            rw [if_pos c27] at H
            have c27b0 : decide (x29_2 < ((rd_L1 x3_2 x17_1).length : Int)) = true := decide_eq_true c27
            clear c27
            obtain ⟨y113, hy113⟩ : ∃ y_ : List Int, y_ = ((rd_L1 x3_2 x17_1).set (x29_2 : Int).toNat 1) := ⟨_, rfl⟩
            replace H : (impl_Graph_edgeMatrix.l1 k2 (x3_2.set (x17_1 : Int).toNat y113) x17_1 t108 (wrap64 (2 * t106)) x17_1 (wrap64 (2 * t109)) (wrap64 (x29_2 + 1)) a0_0 l0_1) = some r := by first | (rw [hy113]; with_reducible exact H) | (have H2_ := (Option.bind_some _ _).symm.trans H; rw [hy113]; with_reducible exact H2_) | (have H2_ := (Option.bind_some _ _).symm.trans H; with_reducible exact H2_) | with_reducible exact H | (rw [hy113]; exact H) | exact H
            have Ny113 := Aside0.mk hy113
            clear hy113
            obtain ⟨y115, hy115⟩ : ∃ y_ : List (List Int), y_ = (x3_2.set (x17_1 : Int).toNat y113) := ⟨_, rfl⟩
            replace H : (impl_Graph_edgeMatrix.l1 k2 y115 x17_1 t108 (wrap64 (2 * t106)) x17_1 (wrap64 (2 * t109)) (wrap64 (x29_2 + 1)) a0_0 l0_1) = some r := by first | (rw [hy115]; with_reducible exact H) | (have H2_ := (Option.bind_some _ _).symm.trans H; rw [hy115]; with_reducible exact H2_) | (have H2_ := (Option.bind_some _ _).symm.trans H; with_reducible exact H2_) | with_reducible exact H | (rw [hy115]; exact H) | exact H
            have Ny115 := Aside0.mk hy115
            clear hy115
            have H' := Aside0.mk H
            clear H
            have hcz29_0 : wr.cell? ⟨gb101, 0, none⟩ = some (.int .i64 a0_0) := (blk_cell BK101.out 0).trans rfl
            have hcz29_1 : wr.cell? ⟨gb101, 1, none⟩ = some (.slice A0_1 l0_1.length c0_1) := (blk_cell BK101.out 1).trans rfl
            have hfz29_0 := blk_frozen BK101.out 0
            have hfz29_1 := blk_frozen BK101.out 1
            go_wp2_with (first | ((with_reducible refine gate_callee (f := 122) rfl ?_); refine goesL_ (some 35) rfl rfl Try.func122 (by kernel_rfl) rfl #[.agg #[.int .i64 a0_0, .slice A0_1 l0_1.length c0_1], .int .i64 x29_2] rfl gm ?_; (with_reducible refine (impl_Graph_ends.calls a0_0 _ _ l0_1 x29_2 t110 t111 _ ?side1 ?side2 A19.out).mono ?_); (case side1 => repeat (first | exact (Kd.C_below HR0_1.out HB.out) | (with_reducible refine Kd.C_alloc ?_ _) | (with_reducible refine Kd.C_drewN ?_ _) | (with_reducible refine Kd.C_drew ?_))); (case side2 => exact HC0_1.out); rintro e w30 ⟨rfl, hb⟩; refine ⟨_, rfl, ?_⟩; have n0_ := Aside0.mk (Kd.S_below (by (with_reducible repeat (first | apply Kd.S_alloc | apply Kd.S_drewN | apply Kd.S_drew)); exact HO_3.out) hb); have n1_ := Aside0.mk (blk_below (g := gb101) (o := .cells #[.int .i64 a0_0, .slice A0_1 l0_1.length c0_1] 28 (0, 0)) bk hb); have n2_ := Aside0.mk (below_step bl hb); clear HO_3; clear BK101; clear HB; have HO_3 := n0_; have BK101 := n1_; have HB := n2_; clear n0_ n1_ n2_; (try clear hb); (try clear hb2); (try clear hk); (try clear hi); obtain ⟨Ao31, co31, eo31⟩ := Kd.S_slice HO_3.out; subst eo31; have p112 : 0 ≤ (x17_1 : Int) := oD; have q112 : x17_1 < (x3_2.length : Int) := oD; obtain ⟨ad112, A112_0, c112_0, e112, hx112_0, hl112_0, hi112_0⟩ := at_L1 (Kd.S_reads' HO_3.out).2.2 x17_1 p112 q112; cases e112; obtain ⟨ce112, hce112, hMe112, hcc112⟩ := Kd.S_get HO_3.out [] x17_1 p112 (by first | exact q112 | exact oD | (have e_ := (Kd.S_reads' HO_3.out).1; omega)); obtain ⟨ve112_0, rfl, ge112_0⟩ := hMe112; have hv112_0 := hcc112 0 _ rfl; rw [Nat.add_zero, show ((Kd.slice 2 (Kd.int .i64))).sz = 1 from rfl, Nat.mul_one] at hv112_0; replace hv112_0 := Option.some.inj (hv112_0.symm.trans hx112_0); rw [hv112_0] at ge112_0; have HL112_0 := Aside0.mk (show Kd.R (Kd.int .i64) 2 _ _ _ _ (rd_L1 x3_2 x17_1) from ge112_0); clear hv112_0 ge112_0; have HX112_0 := Aside0.mk hx112_0; clear hcc112 hce112; have HR112_0 := Aside0.mk hi112_0; have HC112_0 := Aside0.mk hl112_0; clear hi112_0 hl112_0; replace p112 := eq_true p112; replace q112 := eq_true q112; have p28 : 0 ≤ (x29_2 : Int) := oD; have q28 : (x29_2 : Int) < (((rd_L1 x3_2 x17_1).length : Int) : Int) := oD; obtain ⟨go28, co28, eo28, gb28, gl28, cl28, HG28⟩ := Kd.R_form HL112_0.out (by omega); (first | cases eo28 | (injection eo28 with ea_ en_ ec_; (first | subst ea_ | (injection ea_ with ea_; subst ea_)); subst ec_; clear en_)); have GB28 := Aside0.mk gb28; have GG28 := Aside0.mk HG28; clear gb28 gl28 HG28; obtain ⟨hx28_0, hf28_0⟩ := Kd.R_celln 0 HL112_0.out (x29_2 : Int) p28 q28; replace p28 := eq_true p28; replace q28 := eq_true q28; have hq32 : (x17_1 : Int) < (x3_2.length : Int) := (by have h_ : (x17_1 : Int) < ((x3_2.length : Int) : Int) := oD; first | exact h_ | (have e_ := (Kd.S_reads' HO_3.out).1; omega) | simpa only [List.length_set, List.length_set] using h_); obtain ⟨oki32, ce32, hcl32, hM32, hcc32, hok32, hbk32⟩ := Kd.S_borrow HO_3.out [] (x17_1 : Int) oD (by first | exact hq32 | (have e_ := (Kd.S_reads' HO_3.out).1; omega)); obtain ⟨ve32_0, rfl, ge32_0⟩ := hM32; have hv32 := hcc32 0 _ rfl; rw [Nat.add_zero, show ((Kd.slice 2 (Kd.int .i64))).sz = 1 from rfl, Nat.mul_one] at hv32; replace hv32 := Option.some.inj (hv32.symm.trans HX112_0.out); subst hv32; clear hcc32 hcl32; replace ge32_0 := (show Kd.R (Kd.int .i64) 2 _ _ _ _ (rd_L1 x3_2 x17_1) from ge32_0); have HP32 := Kd.R_putg ge32_0 (x29_2 : Int) 1) | ((with_reducible refine gate_store (t := 2) (p := 52) rfl ?_); refine store_event (t := 2) (p := 52) (v := ?vo_w33) (w1 := (w30.setCell ⟨go28, (x29_2 : Int).toNat, none⟩ (.int .i64 1))) ?hg ?ho ?hn ?hr ?_; (case ho => rfl); (case hg => rfl); (case hn => rfl); (case hr => first | (go_simp; done) | (go_simp; rfl)); intro w33 hw; have hg : w30.grownBy w33 (some go28) := (by rw [hw]; exact HP32.2); have hz_ : Kd.R (Kd.int .i64) 2 w33 w.heap.size oki32 (.slice (some ⟨go28, 0, none⟩) (rd_L1 x3_2 x17_1).length c112_0) y113 := (by rw [hw, Ny113.out]; exact HP32.1); have hp_ : Kd.S (Kd.slice 2 (Kd.int .i64)) 32 w33 w.heap.size (fun _ => True) (.slice (some ad112) x3_2.length co31) y115 := (by rw [Ny115.out]; exact hbk32 hg (fun k_ e_ => by injection e_ with e_; subst e_; exact ge32_0.1 _ rfl) (Kd.M_row hz_)); have hm_ := Kd.R_mono hz_ hok32; clear HP32 hbk32; have n0_ := Aside0.mk (hp_); have n1_ := Aside0.mk (blk_grown (g := gb101) (o := .cells #[.int .i64 a0_0, .slice A0_1 l0_1.length c0_1] 28 (0, 0)) bk hg (Kd.R_ne HL112_0.out BK101.out (by decide))); have n2_ := Aside0.mk (cell_grown hg HX112_0.out (cell_ne (hok32 _ (ge32_0.1 _ rfl)).2)); have n3_ := Aside0.mk ((by rw [hw]; exact below_set (HB.out) GB28.out : Below w.heap.size w w33)); have n4_ := Aside0.mk (hm_); have n5_ := Aside0.mk ((Kd.R_reads' hm_).2.1); clear HO_3; clear BK101; clear HX112_0; clear HB; clear HL112_0; have HO_3 := n0_; have BK101 := n1_; have HX112_0 := n2_; have HB := n3_; have HL116 := n4_; have HC114 := n5_; clear n0_ n1_ n2_ n3_ n4_ n5_; clear hg hw hp_ hz_ hm_ hok32))
            go_roundg k2
            case measure => have := HK1.out; have := HK2.out; omega
            case rel => exact ⟨(y115), (wrap64 (x29_2 + 1)), rs, H', ⟨by have := HK1.out; have := HK2.out; omega⟩, ⟨by (with_reducible repeat (first | apply Kd.S_alloc | apply Kd.S_drewN | apply Kd.S_drew)); exact HO_3.out⟩, ⟨bk⟩, ⟨bl⟩⟩
          rw [if_pos c21] at H
          have c21b0 : (x29_2 == (Go.bits .xor .i64 x17_1 1)) = true := beq_iff_eq.mpr c21
          have c21b1 : (x29_2 != (Go.bits .xor .i64 x17_1 1)) = false := bne_eq_false_iff_eq.mpr c21
          clear c21
          have H' := Aside0.mk H
          clear H
          have hcz22_0 : wr.cell? ⟨gb101, 0, none⟩ = some (.int .i64 a0_0) := (blk_cell BK101.out 0).trans rfl
          have hcz22_1 : wr.cell? ⟨gb101, 1, none⟩ = some (.slice A0_1 l0_1.length c0_1) := (blk_cell BK101.out 1).trans rfl
          have hfz22_0 := blk_frozen BK101.out 0
          have hfz22_1 := blk_frozen BK101.out 1
          go_wp2_with (first | ((with_reducible refine gate_callee (f := 122) rfl ?_); refine goesL_ (some 35) rfl rfl Try.func122 (by kernel_rfl) rfl #[.agg #[.int .i64 a0_0, .slice A0_1 l0_1.length c0_1], .int .i64 x29_2] rfl gm ?_; (with_reducible refine (impl_Graph_ends.calls a0_0 _ _ l0_1 x29_2 t110 t111 _ ?side1 ?side2 A19.out).mono ?_); (case side1 => repeat (first | exact (Kd.C_below HR0_1.out HB.out) | (with_reducible refine Kd.C_alloc ?_ _) | (with_reducible refine Kd.C_drewN ?_ _) | (with_reducible refine Kd.C_drew ?_))); (case side2 => exact HC0_1.out); rintro e w23 ⟨rfl, hb⟩; refine ⟨_, rfl, ?_⟩; have n0_ := Aside0.mk (Kd.S_below (by (with_reducible repeat (first | apply Kd.S_alloc | apply Kd.S_drewN | apply Kd.S_drew)); exact HO_3.out) hb); have n1_ := Aside0.mk (blk_below (g := gb101) (o := .cells #[.int .i64 a0_0, .slice A0_1 l0_1.length c0_1] 28 (0, 0)) bk hb); have n2_ := Aside0.mk (below_step bl hb); clear HO_3; clear BK101; clear HB; have HO_3 := n0_; have BK101 := n1_; have HB := n2_; clear n0_ n1_ n2_; (try clear hb); (try clear hb2); (try clear hk); (try clear hi)))
          go_roundg k2
          case measure => have := HK1.out; have := HK2.out; omega
          case rel => exact ⟨(x3_2), (wrap64 (x29_2 + 1)), rs, H', ⟨by have := HK1.out; have := HK2.out; omega⟩, ⟨by (with_reducible repeat (first | apply Kd.S_alloc | apply Kd.S_drewN | apply Kd.S_drew)); exact HO_3.out⟩, ⟨bk⟩, ⟨bl⟩⟩
/-! ### impl_Graph_weighted: function 56 -/
mutual
def impl_Graph_weighted.l0 : Nat → List Int → List (List Int) → Int → Int → Option ((List (List Int)))
  | 0, _, _, _, _ => none
  | k + 1, x1, x5, x12, x13 => if x13 < x12 then (if 0 ≤ x13 then (if x13 < (x5.length : Int) then (impl_Graph_weighted.l1 k x1 x5 x12 x13 ((rd_L1 x5 x13).length : Int) 0) else (none)) else (none)) else (some x5)
def impl_Graph_weighted.l1 : Nat → List Int → List (List Int) → Int → Int → Int → Int → Option ((List (List Int)))
  | 0, _, _, _, _, _, _ => none
  | k + 1, x1, x5, x12, x13, x18, x19 => if x19 < x18 then (if 0 ≤ x19 then (if x19 < ((rd_L1 x5 x13).length : Int) then (if x19 < (x1.length : Int) then (impl_Graph_weighted.l1 k x1 (x5.set (x13 : Int).toNat ((rd_L1 x5 x13).set (x19 : Int).toNat (wrap64 ((rd (rd_L1 x5 x13) x19) * (rd x1 x19))))) x12 x13 x18 (wrap64 (x19 + 1))) else (none)) else (none)) else (none)) else (impl_Graph_weighted.l0 k x1 x5 x12 (wrap64 (x13 + 1)))
end
def impl_Graph_weighted.f (k : Nat) (a0_0 : Int) (l0_1 : List (List Int)) (l1 : List Int) : Option ((List (List Int))) := (impl_Graph_edgeMatrix.f k a0_0 l0_1).bind fun t102 => (impl_Graph_weighted.l0 k l1 t102 (t102.length : Int) 0)
theorem impl_Graph_weighted.mono_l : ∀ k, (∀ y0 y1 y2 y3, LeO (impl_Graph_weighted.l0 k y0 y1 y2 y3) (impl_Graph_weighted.l0 (k + 1) y0 y1 y2 y3)) ∧ (∀ y0 y1 y2 y3 y4 y5, LeO (impl_Graph_weighted.l1 k y0 y1 y2 y3 y4 y5) (impl_Graph_weighted.l1 (k + 1) y0 y1 y2 y3 y4 y5))
  | 0 => ⟨fun _ _ _ _ r h => by simp [impl_Graph_weighted.l0] at h, fun _ _ _ _ _ _ r h => by simp [impl_Graph_weighted.l1] at h⟩
  | k + 1 => by
    obtain ⟨ih0, ih1⟩ := impl_Graph_weighted.mono_l k
    refine ⟨?_, ?_⟩
    · intro y0 y1 y2 y3
      unfold impl_Graph_weighted.l0
      repeat' first
      | (with_reducible exact ih0 _ _ _ _)
      | (with_reducible exact ih1 _ _ _ _ _ _)
      | (with_reducible exact impl_Graph_edgeMatrix.mono _ _ _)
      | (with_reducible exact LeO.refl _)
      | (with_reducible exact LeO.none _)
      | (with_reducible refine LeO.ite ?_ ?_)
      | (with_reducible refine LeO.bind ?_ (fun _ => ?_))
      | exact ih0 _ _ _ _
      | exact ih1 _ _ _ _ _ _
      | exact impl_Graph_edgeMatrix.mono _ _ _
      | exact LeO.none _
      | refine LeO.ite ?_ ?_
      | refine LeO.bind ?_ (fun _ => ?_)
    · intro y0 y1 y2 y3 y4 y5
      unfold impl_Graph_weighted.l1
      repeat' first
      | (with_reducible exact ih0 _ _ _ _)
      | (with_reducible exact ih1 _ _ _ _ _ _)
      | (with_reducible exact impl_Graph_edgeMatrix.mono _ _ _)
      | (with_reducible exact LeO.refl _)
      | (with_reducible exact LeO.none _)
      | (with_reducible refine LeO.ite ?_ ?_)
      | (with_reducible refine LeO.bind ?_ (fun _ => ?_))
      | exact ih0 _ _ _ _
      | exact ih1 _ _ _ _ _ _
      | exact impl_Graph_edgeMatrix.mono _ _ _
      | exact LeO.none _
      | refine LeO.ite ?_ ?_
      | refine LeO.bind ?_ (fun _ => ?_)
theorem impl_Graph_weighted.mono : ∀ a0 a1 a2 k, LeO (impl_Graph_weighted.f k a0 a1 a2) (impl_Graph_weighted.f (k + 1) a0 a1 a2) := by
  intro a0 a1 a2 k
  obtain ⟨ih0, ih1⟩ := impl_Graph_weighted.mono_l k
  unfold impl_Graph_weighted.f
  repeat' first
      | (with_reducible exact ih0 _ _ _ _)
      | (with_reducible exact ih1 _ _ _ _ _ _)
      | (with_reducible exact impl_Graph_edgeMatrix.mono _ _ _)
      | (with_reducible exact LeO.refl _)
      | (with_reducible exact LeO.none _)
      | (with_reducible refine LeO.ite ?_ ?_)
      | (with_reducible refine LeO.bind ?_ (fun _ => ?_))
      | exact ih0 _ _ _ _
      | exact ih1 _ _ _ _ _ _
      | exact impl_Graph_edgeMatrix.mono _ _ _
      | exact LeO.none _
      | refine LeO.ite ?_ ?_
      | refine LeO.bind ?_ (fun _ => ?_)
def impl_Graph_weighted.T8 : Bool × List (List Nat × List Nat) := (true, [([], []), ([], []), ([0, 1], [0, 1]), ([2], [2]), ([], []), ([], []), ([4, 5], [4, 5]), ([6], [6]), ([3, 7], [3, 7]), ([0, 1, 0, 1, 2, 3, 4, 5, 6, 7, 8], [0, 1]), ([9, 8, 0, 1, 2, 3, 4, 5, 6, 7, 8], [8, 9])])
def impl_Graph_weighted.B8 : List Nat := [0, 0, 3, 7, 0, 0, 48, 112, 255, 511, 1023]
theorem impl_Graph_weighted.tab8 : rtab .any (opsOf Try.f56 8) = impl_Graph_weighted.T8 := by kernel_rfl
theorem impl_Graph_weighted.bits8 : waitsOk impl_Graph_weighted.T8.2 impl_Graph_weighted.B8 = true := by kernel_rfl
set_option maxHeartbeats 8000000 in
set_option maxRecDepth 100000 in
theorem impl_Graph_weighted.calls (k : Nat) (a0_0 : Int) (A0_1 : Option Addr) (c0_1 : Nat) (l0_1 : List (List Int)) (A1 : Option Addr) (c1 : Nat) (l1 : List Int) (r : List (List Int)) (w : World) (hr0_1 : Kd.C (Kd.slice 2 (Kd.int .i64)) w A0_1 l0_1.length l0_1) (hc0_1 : l0_1.length ≤ c0_1) (hr1 : Kd.C (Kd.int .i64) w A1 l1.length l1) (hc1 : l1.length ≤ c1) (h : impl_Graph_weighted.f k a0_0 l0_1 l1 = some r) :
    Calls Try.prog 56 #[.agg #[.int .i64 a0_0, .slice A0_1 l0_1.length c0_1], .slice A1 l1.length c1] w fun e w' => ∃ v0_ : Value, e = .returned (v0_) ∧ Kd.S (Kd.slice 2 (Kd.int .i64)) 32 w' w.heap.size (fun _ => True) v0_ r ∧ Below w.heap.size w w' := by
  have hu28 := Try.underlying28
  have HR0_1 := Aside0.mk hr0_1
  have HC0_1 := Aside0.mk hc0_1
  clear hr0_1 hc0_1
  have HR1 := Aside0.mk hr1
  have HC1 := Aside0.mk hc1
  clear hr1 hc1
  have HB := Aside0.mk (Below.refl w.heap.size w)
  have H : ((impl_Graph_edgeMatrix.f k a0_0 l0_1).bind fun t102 => (impl_Graph_weighted.l0 k l1 t102 (t102.length : Int) 0)) = some r := h
  clear h
  replace H := Option.bind_eq_some_iff.mp H
  obtain ⟨t102, A30, H⟩ := H
  replace H : (impl_Graph_weighted.l0 k l1 t102 (t102.length : Int) 0) = some r := H
  have A3 := Aside0.mk A30
  clear A30
  have H' := Aside0.mk H
  clear H
  go_enter Try.func56, Try.ntmps56
  go_wp2_with (first | ((with_reducible refine gate_dst (N := 2) rfl ?_); refine box_event ?hg (N := 2) ?hd (cs := #[.int .i64 a0_0, .slice A0_1 l0_1.length c0_1]) (t := 28) ?hr ?_; (case hd => rfl); (case hg => rfl); (case hr => first | (go_simp; done) | (go_simp; rfl)); intro gb101 hg w4 hbox hb; have n0_ := Aside0.mk (below_step bl hb); have n1_ := Aside0.mk (hbox); have n2_ := Aside0.mk ((by rw [hg]; exact (below_size bl) : w.heap.size ≤ gb101)); have n3_ := Aside0.mk ((by rw [hg]; exact (below_size bl) : w.heap.size ≤ gb101)); clear HB; have HB := n0_; have BK101 := n1_; have GW101 := n2_; have GE101 := n3_; clear n0_ n1_ n2_ n3_; clear hb hbox hg; have hcz5_0 : w4.cell? ⟨gb101, 0, none⟩ = some (.int .i64 a0_0) := (blk_cell BK101.out 0).trans rfl; have hcz5_1 : w4.cell? ⟨gb101, 1, none⟩ = some (.slice A0_1 l0_1.length c0_1) := (blk_cell BK101.out 1).trans rfl; have hfz5_0 := blk_frozen BK101.out 0; have hfz5_1 := blk_frozen BK101.out 1) | ((with_reducible refine gate_callee (f := 82) rfl ?_); refine goesL_ (some 10) rfl rfl Try.func82 (by kernel_rfl) rfl #[.agg #[.int .i64 a0_0, .slice A0_1 l0_1.length c0_1]] rfl gm ?_; (with_reducible refine (impl_Graph_edgeMatrix.calls k a0_0 _ _ l0_1 t102 _ ?side1 ?side2 A3.out).mono ?_); (case side1 => repeat (first | exact (Kd.C_below HR0_1.out HB.out) | (with_reducible refine Kd.C_alloc ?_ _) | (with_reducible refine Kd.C_drewN ?_ _) | (with_reducible refine Kd.C_drew ?_))); (case side2 => exact HC0_1.out); rintro e w6 ⟨v103, rfl, ho0, hb⟩; refine ⟨_, rfl, ?_⟩; have n0_ := Aside0.mk (Kd.S_lower ho0 (below_size bl)); have n1_ := Aside0.mk (blk_below (g := gb101) (o := .cells #[.int .i64 a0_0, .slice A0_1 l0_1.length c0_1] 28 (0, 0)) bk hb); have n2_ := Aside0.mk (below_step bl hb); clear BK101; clear HB; have HO104 := n0_; have BK101 := n1_; have HB := n2_; clear n0_ n1_ n2_; (try clear hb); (try clear hb2); (try clear hk); (try clear hi); (try clear ho0); obtain ⟨Ao7, co7, eo7⟩ := Kd.S_slice HO104.out; subst eo7))
  go_loopg [13] k (fun kq v13 w' => ∃ (x5_1 : List (List Int)) (x13_1 : Int), v13 = .int .i64 x13_1 ∧ Aside0 (impl_Graph_weighted.l0 kq l1 x5_1 (t102.length : Int) x13_1 = some r) ∧ Aside0 (kq ≤ k) ∧ Aside0 (Kd.S (Kd.slice 2 (Kd.int .i64)) 32 w' w.heap.size (fun _ => True) (.slice Ao7 t102.length co7) x5_1) ∧ Aside0 (w'.heap[gb101]? = some (.cells #[.int .i64 a0_0, (.slice A0_1 l0_1.length c0_1)] 28 (0, 0))) ∧ Aside0 (Below w.heap.size w w'))
  case atStart => exact ⟨(t102), (0), rs, H', ⟨Nat.le_refl _⟩, ⟨by (with_reducible repeat (first | apply Kd.S_alloc | apply Kd.S_drewN | apply Kd.S_drew)); exact HO104.out⟩, ⟨bk⟩, ⟨bl⟩⟩
  case round =>
    clear H'
    (try clear c1); (try clear p2); (try clear c5); (try clear hcz5_0); (try clear hcz5_1); (try clear hfz5_0); (try clear hfz5_1)
    obtain ⟨x5_1, x13_1, rfl, HA, HK1, HO_5, BK101, HB⟩ := hrel
    have hl5_1 := (Kd.S_reads' HO_5.out).1
    rw [hl5_1] at HO_5
    (try simp only [hl5_1])
    (try simp only [hl5_1] at BK101)
    cases gk with
    | zero => exact absurd HA.out (by simp [impl_Graph_weighted.l0])
    | succ k1 =>
      have H := HA.out
      clear HA
      simp only [impl_Graph_weighted.l0] at H
      by_cases c8 : x13_1 < (t102.length : Int)
      case neg =>
        rw [if_neg c8] at H
        have c8b0 : decide (x13_1 < (t102.length : Int)) = false := decide_eq_false c8
        (try simp only [hl5_1] at c8b0)
        clear c8
        obtain rfl := Option.some.inj H
        go_wp2
        go_ret
        exact ⟨_, by first | rfl | (simp [errW_none, errW_some] <;> rfl) | (simp [*, errW_none, errW_some] <;> rfl), by (with_reducible repeat (first | apply Kd.S_alloc | apply Kd.S_drewN | apply Kd.S_drew)); exact HO_5.out, bl⟩
      rw [if_pos c8] at H
      have c8b0 : decide (x13_1 < (t102.length : Int)) = true := decide_eq_true c8
      (try simp only [hl5_1] at c8b0)
      clear c8
      by_cases c9 : 0 ≤ x13_1
      case neg => rw [if_neg c9] at H; exact absurd H (by simp)
      rw [if_pos c9] at H
      have c9b0 : decide (0 ≤ x13_1) = true := decide_eq_true c9
      clear c9
      by_cases c10 : x13_1 < (x5_1.length : Int)
      case neg => rw [if_neg c10] at H; exact absurd H (by simp)
      rw [if_pos c10] at H
      have c10b0 : decide (x13_1 < (x5_1.length : Int)) = true := decide_eq_true c10
      (try simp only [hl5_1] at c10b0)
      clear c10
      have H' := Aside0.mk H
      clear H
      have p105 : 0 ≤ (x13_1 : Int) := oD
      have q105 : x13_1 < (x5_1.length : Int) := oD
      obtain ⟨ad105, A105_0, c105_0, e105, hx105_0, hl105_0, hi105_0⟩ := at_L1 (Kd.S_reads' HO_5.out).2.2 x13_1 p105 q105
      cases e105
      obtain ⟨ce105, hce105, hMe105, hcc105⟩ := Kd.S_get HO_5.out [] x13_1 p105 (by first | exact q105 | exact oD | (have e_ := (Kd.S_reads' HO_5.out).1; omega))
      obtain ⟨ve105_0, rfl, ge105_0⟩ := hMe105
      have hv105_0 := hcc105 0 _ rfl
      rw [Nat.add_zero, show ((Kd.slice 2 (Kd.int .i64))).sz = 1 from rfl, Nat.mul_one] at hv105_0
      replace hv105_0 := Option.some.inj (hv105_0.symm.trans hx105_0)
      rw [hv105_0] at ge105_0
      have HL105_0 := Aside0.mk (show Kd.R (Kd.int .i64) 2 _ _ _ _ (rd_L1 x5_1 x13_1) from ge105_0)
      clear hv105_0 ge105_0
      have HX105_0 := Aside0.mk hx105_0
      clear hcc105 hce105
      have HR105_0 := Aside0.mk hi105_0
      have HC105_0 := Aside0.mk hl105_0
      clear hi105_0 hl105_0
      replace p105 := eq_true p105
      replace q105 := eq_true q105
      go_wp2
      generalize hgz7_2 : (.slice A105_0 (rd_L1 x5_1 x13_1).length c105_0 : Value) = vz7_2
      have HGZ7_2 := Aside0.mk hgz7_2
      clear hgz7_2
      go_loopg [19] k1 (fun kq v19 w' => ∃ (x5_2 : List (List Int)) (x19_2 : Int), v19 = .int .i64 x19_2 ∧ Aside0 (impl_Graph_weighted.l1 kq l1 x5_2 (t102.length : Int) x13_1 ((rd_L1 x5_1 x13_1).length : Int) x19_2 = some r) ∧ Aside0 (kq ≤ k1) ∧ Aside0 (HdrOf w' (.slice (some ad105) x5_1.length co7) x13_1 vz7_2) ∧ Aside0 (Kd.S (Kd.slice 2 (Kd.int .i64)) 32 w' w.heap.size (fun _ => True) (.slice (some ad105) x5_1.length co7) x5_2) ∧ Aside0 (w'.heap[gb101]? = some (.cells #[.int .i64 a0_0, (.slice A0_1 l0_1.length c0_1)] 28 (0, 0))) ∧ Aside0 (Below w.heap.size w w'))
      case atStart => exact ⟨(x5_1), (0), rs, H', ⟨Nat.le_refl _⟩, ⟨by (with_reducible repeat (first | apply HdrOf.alloc | apply HdrOf.drewN | apply HdrOf.drew)); first | exact ⟨_, _, _, rfl, (by first | exact of_eq_true p105 | exact hdr_lo HH_7.out | omega), (by first | exact of_eq_true q105 | exact hdr_hi HH_7.out | (have h_ := of_eq_true q105; omega) | (have h_ := hdr_hi HH_7.out; omega)), HX105_0.out⟩ | (rw [← HGZ7_2.out]; exact ⟨_, _, _, rfl, (by first | exact of_eq_true p105 | exact hdr_lo HH_7.out | omega), (by first | exact of_eq_true q105 | exact hdr_hi HH_7.out | (have h_ := of_eq_true q105; omega) | (have h_ := hdr_hi HH_7.out; omega)), HX105_0.out⟩)⟩, ⟨by (try simp only [hl5_1]); (with_reducible repeat (first | apply Kd.S_alloc | apply Kd.S_drewN | apply Kd.S_drew)); exact HO_5.out⟩, ⟨by (try simp only [hl5_1]); (with_reducible repeat (first | refine blk_drewN ?_ _ | refine blk_drew ?_ | refine blk_alloc ?_ _)); exact BK101.out⟩, ⟨bl⟩⟩
      case round =>
        clear H'
        (try clear c1); (try clear p1); (try clear q1); (try clear hx1); (try clear p2); (try clear c5); (try clear c8); (try clear c8b0); (try clear c9); (try clear c9b0); (try clear c10); (try clear c10b0); (try clear p10); (try clear q10); (try clear hx10); (try clear hcz5_0); (try clear hcz5_1); (try clear hfz5_0); (try clear hfz5_1); (try clear hx105_0); (try clear p105); (try clear p2); (try clear q105)
        obtain ⟨x5_2, x19_2, rfl, HA, HK2, HH_7, HO_5, BK101, HB⟩ := hrel
        have hl5_2 := (Kd.S_reads' HO_5.out).1
        rw [hl5_2] at HO_5
        (try simp only [hl5_2])
        (try simp only [hl5_2] at BK101)
        cases gk with
        | zero => exact absurd HA.out (by simp [impl_Graph_weighted.l1])
        | succ k2 =>
          have H := HA.out
          clear HA
          simp only [impl_Graph_weighted.l1] at H
          by_cases c11 : x19_2 < ((rd_L1 x5_1 x13_1).length : Int)
          case neg =>
            rw [if_neg c11] at H
            have c11b0 : decide (x19_2 < ((rd_L1 x5_1 x13_1).length : Int)) = false := decide_eq_false c11
            (try simp only [hl5_1, hl5_2] at c11b0)
            clear c11
            have H' := Aside0.mk H
            clear H
            have hza106 : decide (0 ≤ x13_1) = true := decide_eq_true (hdr_lo HH_7.out)
            have hzb106 : decide (x13_1 < (x5_2.length : Int)) = true := decide_eq_true (by have h_ := hdr_hi HH_7.out; have e_ := (Kd.S_reads' HO_5.out).1; omega)
            have p106 : 0 ≤ (x13_1 : Int) := oD
            have q106 : x13_1 < (x5_2.length : Int) := oD
            obtain ⟨ad106, A106_0, c106_0, e106, hx106_0, hl106_0, hi106_0⟩ := at_L1 (Kd.S_reads' HO_5.out).2.2 x13_1 p106 q106
            obtain rfl : ad105 = ad106 := (by injection e106)
            obtain ⟨ce106, hce106, hMe106, hcc106⟩ := Kd.S_get HO_5.out [] x13_1 p106 (by first | exact q106 | exact oD | (have e_ := (Kd.S_reads' HO_5.out).1; omega))
            obtain ⟨ve106_0, rfl, ge106_0⟩ := hMe106
            have hv106_0 := hcc106 0 _ rfl
            rw [Nat.add_zero, show ((Kd.slice 2 (Kd.int .i64))).sz = 1 from rfl, Nat.mul_one] at hv106_0
            replace hv106_0 := Option.some.inj (hv106_0.symm.trans hx106_0)
            rw [hv106_0] at ge106_0
            have HL106_0 := Aside0.mk (show Kd.R (Kd.int .i64) 2 _ _ _ _ (rd_L1 x5_2 x13_1) from ge106_0)
            clear hv106_0 ge106_0
            have HX106_0 := Aside0.mk hx106_0
            clear hcc106 hce106
            have HR106_0 := Aside0.mk hi106_0
            have HC106_0 := Aside0.mk hl106_0
            clear hi106_0 hl106_0
            replace p106 := eq_true p106
            replace q106 := eq_true q106
            obtain rfl := hdr_eq HH_7.out HX106_0.out
            go_wp2
            (try simp only [← hl5_1, ← hl5_2])
            first | go_roundg k2 | ((try (have e_ := HGZ7_2.out; injection e_ with e1_ e2_ e3_; subst e1_ e3_)); go_roundg k2)
            case measure => have := HK1.out; have := HK2.out; omega
            case rel => exact ⟨(x5_2), (wrap64 (x13_1 + 1)), rs, H', ⟨by have := HK1.out; have := HK2.out; omega⟩, ⟨by (try simp only [hl5_1]); (try simp only [hl5_2]); (with_reducible repeat (first | apply Kd.S_alloc | apply Kd.S_drewN | apply Kd.S_drew)); exact HO_5.out⟩, ⟨by (try simp only [hl5_1]); (try simp only [hl5_2]); (with_reducible repeat (first | refine blk_drewN ?_ _ | refine blk_drew ?_ | refine blk_alloc ?_ _)); exact BK101.out⟩, ⟨bl⟩⟩
          rw [if_pos c11] at H
          have c11b0 : decide (x19_2 < ((rd_L1 x5_1 x13_1).length : Int)) = true := decide_eq_true c11
          (try simp only [hl5_1, hl5_2] at c11b0)
          clear c11
          by_cases c12 : 0 ≤ x19_2
          case neg => rw [if_neg c12] at H; exact absurd H (by simp)
          rw [if_pos c12] at H
          have c12b0 : decide (0 ≤ x19_2) = true := decide_eq_true c12
          clear c12
          by_cases c13 : x19_2 < ((rd_L1 x5_2 x13_1).length : Int)
          case neg => rw [if_neg c13] at H; exact absurd H (by simp)
          rw [if_pos c13] at H
          have c13b0 : decide (x19_2 < ((rd_L1 x5_2 x13_1).length : Int)) = true := decide_eq_true c13
          (try simp only [hl5_1, hl5_2] at c13b0)
          clear c13
          by_cases c14 : x19_2 < (l1.length : Int)
          case neg => rw [if_neg c14] at H; exact absurd H (by simp)
          rw [if_pos c14] at H
          have c14b0 : decide (x19_2 < (l1.length : Int)) = true := decide_eq_true c14
          (try simp only [hl5_1, hl5_2] at c14b0)
          clear c14
          obtain ⟨y109, hy109⟩ : ∃ y_ : List Int, y_ = ((rd_L1 x5_2 x13_1).set (x19_2 : Int).toNat (wrap64 ((rd (rd_L1 x5_2 x13_1) x19_2) * (rd l1 x19_2)))) := ⟨_, rfl⟩
          replace H : (impl_Graph_weighted.l1 k2 l1 (x5_2.set (x13_1 : Int).toNat y109) (t102.length : Int) x13_1 ((rd_L1 x5_1 x13_1).length : Int) (wrap64 (x19_2 + 1))) = some r := by first | (rw [hy109]; with_reducible exact H) | (have H2_ := (Option.bind_some _ _).symm.trans H; rw [hy109]; with_reducible exact H2_) | (have H2_ := (Option.bind_some _ _).symm.trans H; with_reducible exact H2_) | with_reducible exact H | (rw [hy109]; exact H) | exact H
          have Ny109 := Aside0.mk hy109
          clear hy109
          obtain ⟨y111, hy111⟩ : ∃ y_ : List (List Int), y_ = (x5_2.set (x13_1 : Int).toNat y109) := ⟨_, rfl⟩
          replace H : (impl_Graph_weighted.l1 k2 l1 y111 (t102.length : Int) x13_1 ((rd_L1 x5_1 x13_1).length : Int) (wrap64 (x19_2 + 1))) = some r := by first | (rw [hy111]; with_reducible exact H) | (have H2_ := (Option.bind_some _ _).symm.trans H; rw [hy111]; with_reducible exact H2_) | (have H2_ := (Option.bind_some _ _).symm.trans H; with_reducible exact H2_) | with_reducible exact H | (rw [hy111]; exact H) | exact H
          have Ny111 := Aside0.mk hy111
          clear hy111
          have H' := Aside0.mk H
          clear H
          have hza106 : decide (0 ≤ x13_1) = true := decide_eq_true (hdr_lo HH_7.out)
          have hzb106 : decide (x13_1 < (x5_2.length : Int)) = true := decide_eq_true (by have h_ := hdr_hi HH_7.out; have e_ := (Kd.S_reads' HO_5.out).1; omega)
          have p106 : 0 ≤ (x13_1 : Int) := oD
          have q106 : x13_1 < (x5_2.length : Int) := oD
          obtain ⟨ad106, A106_0, c106_0, e106, hx106_0, hl106_0, hi106_0⟩ := at_L1 (Kd.S_reads' HO_5.out).2.2 x13_1 p106 q106
          obtain rfl : ad105 = ad106 := (by injection e106)
          obtain ⟨ce106, hce106, hMe106, hcc106⟩ := Kd.S_get HO_5.out [] x13_1 p106 (by first | exact q106 | exact oD | (have e_ := (Kd.S_reads' HO_5.out).1; omega))
          obtain ⟨ve106_0, rfl, ge106_0⟩ := hMe106
          have hv106_0 := hcc106 0 _ rfl
          rw [Nat.add_zero, show ((Kd.slice 2 (Kd.int .i64))).sz = 1 from rfl, Nat.mul_one] at hv106_0
          replace hv106_0 := Option.some.inj (hv106_0.symm.trans hx106_0)
          rw [hv106_0] at ge106_0
          have HL106_0 := Aside0.mk (show Kd.R (Kd.int .i64) 2 _ _ _ _ (rd_L1 x5_2 x13_1) from ge106_0)
          clear hv106_0 ge106_0
          have HX106_0 := Aside0.mk hx106_0
          clear hcc106 hce106
          have HR106_0 := Aside0.mk hi106_0
          have HC106_0 := Aside0.mk hl106_0
          clear hi106_0 hl106_0
          replace p106 := eq_true p106
          replace q106 := eq_true q106
          obtain rfl := hdr_eq HH_7.out HX106_0.out
          try go_wp2
          have n0_ := Aside0.mk (Kd.S_drew HO_5.out)
          have n1_ := Aside0.mk (Kd.R_drew HL106_0.out)
          have n2_ := Aside0.mk (blk_drew BK101.out)
          have n3_ := Aside0.mk (Kd.C_drew HR106_0.out)
          have n4_ := Aside0.mk ((show (wr.drew).cell? _ = some _ from HX106_0.out))
          have n5_ := Aside0.mk (below_drew1 HB.out)
          clear HO_5
          clear HL106_0
          clear BK101
          clear HR106_0
          clear HX106_0
          clear HB
          have HO_5 := n0_
          have HL106_0 := n1_
          have BK101 := n2_
          have HR106_0 := n3_
          have HX106_0 := n4_
          have HB := n5_
          clear n0_ n1_ n2_ n3_ n4_ n5_
          have p107 : 0 ≤ (x19_2 : Int) := oD
          have q107 : x19_2 < ((rd_L1 x5_2 x13_1).length : Int) := oD
          obtain ⟨ad107, e107, hx107_0⟩ := Kd.at_int (by repeat (first | (with_reducible exact HR106_0.out) | (with_reducible refine Kd.C_alloc ?_ _) | (with_reducible refine Kd.C_drewN ?_ _) | (with_reducible refine Kd.C_drew ?_) | exact HR106_0.out)) x19_2 p107 q107
          cases e107
          replace p107 := eq_true p107
          replace q107 := eq_true q107
          have p108 : 0 ≤ (x19_2 : Int) := oD
          have q108 : x19_2 < (l1.length : Int) := oD
          obtain ⟨ad108, e108, hx108_0⟩ := Kd.at_int HR1.out x19_2 p108 q108
          have hw108_0 := hx108_0
          cases e108
          replace hx108_0 := hbc HB hx108_0
          replace p108 := eq_true p108
          replace q108 := eq_true q108
          have p15 : 0 ≤ (x19_2 : Int) := oD
          have q15 : (x19_2 : Int) < (((rd_L1 x5_2 x13_1).length : Int) : Int) := oD
          obtain ⟨go15, co15, eo15, gb15, gl15, cl15, HG15⟩ := Kd.R_form HL106_0.out (by omega)
          (first | cases eo15 | (injection eo15 with ea_ en_ ec_; (first | subst ea_ | (injection ea_ with ea_; subst ea_)); subst ec_; clear en_))
          (first | simp only [add_plain] at hx107_0 | skip)
          have GB15 := Aside0.mk gb15
          have GG15 := Aside0.mk HG15
          clear gb15 gl15 HG15
          (first | simp only [add_plain] at hx107_0 | skip)
          obtain ⟨hx15_0, hf15_0⟩ := Kd.R_celln 0 HL106_0.out (x19_2 : Int) p15 q15
          replace p15 := eq_true p15
          replace q15 := eq_true q15
          have hq17 : (x13_1 : Int) < (x5_2.length : Int) := (by have h_ : (x13_1 : Int) < ((x5_2.length : Int) : Int) := oD; first | exact h_ | (have e_ := (Kd.S_reads' HO_5.out).1; omega) | simpa only [List.length_set, List.length_set] using h_)
          obtain ⟨oki17, ce17, hcl17, hM17, hcc17, hok17, hbk17⟩ := Kd.S_borrow HO_5.out [] (x13_1 : Int) oD (by first | exact hq17 | (have e_ := (Kd.S_reads' HO_5.out).1; omega))
          obtain ⟨ve17_0, rfl, ge17_0⟩ := hM17
          have hv17 := hcc17 0 _ rfl
          rw [Nat.add_zero, show ((Kd.slice 2 (Kd.int .i64))).sz = 1 from rfl, Nat.mul_one] at hv17
          replace hv17 := Option.some.inj (hv17.symm.trans HX106_0.out)
          subst hv17
          clear hcc17 hcl17
          replace ge17_0 := (show Kd.R (Kd.int .i64) 2 _ _ _ _ (rd_L1 x5_2 x13_1) from ge17_0)
          have HP17 := Kd.R_putg ge17_0 (x19_2 : Int) (wrap64 ((rd (rd_L1 x5_2 x13_1) x19_2) * (rd l1 x19_2)))
          have HXp17 := Aside0.mk (cell_grown HP17.2 HX106_0.out (cell_ne (hok17 _ (ge17_0.1 _ rfl)).2))
          rw [← Ny109.out] at HP17
          have HPr17 := Aside0.mk HP17.1
          have HS17 := hbk17 HP17.2 (fun k_ e_ => by injection e_ with e_; subst e_; exact ge17_0.1 _ rfl) (x' := y109) (Kd.M_row HP17.1)
          rw [← Ny111.out] at HS17
          have HQ17 := Aside0.mk HS17
          clear HP17 HS17 hbk17 hok17
          refine start_ (n := 11) (S := fun w' => w'.cell? ⟨go15, (x19_2).toNat, none⟩ = some (.int .i64 (rd (rd_L1 x5_2 x13_1) x19_2)) ∧ w'.cell? (ad108.add (x19_2).toNat) = some (.int .i64 (rd l1 x19_2))) (ds := [10]) #[false, false, false, false, false, false, false, false, false, false, false] (by kernel_rfl) rfl rfl ⟨hx107_0, (hbc HB hw108_0)⟩ (fun hHeld => ?_); refine with_tabW impl_Graph_weighted.tab8 impl_Graph_weighted.bits8 (fun HT_ HW_ => ?_)
          generalize wr.drew = w16 at HO_5 HL106_0 BK101 HR106_0 HX106_0 HB GG15 HQ17 HXp17 hf15_0 hx107_0 hx108_0 hx15_0 hHeld ⊢
          refine pure_ (i := 0) (N := some 22) (v := ?_) (a' := ?_) #[true, false, false, false, false, false, false, false, false, false, false] rfl rfl (any_of HT_.out (by kernel_rfl)) (fun _ _ _ h => h) (Or.inl ⟨by rfl, ?_⟩) ?_ ?_
          rotate_left; · intro w'; go_simp; with_reducible rfl
          rotate_left; · simp only [Act.put, zI, zZ, zS, i64_w, i32_w]; rfl
          refine pure_ (i := 1) (N := some 23) (v := ?_) (a' := ?_) #[true, true, false, false, false, false, false, false, false, false, false] rfl rfl (any_of HT_.out (by kernel_rfl)) (fun _ _ _ h => h) (Or.inl ⟨by rfl, ?_⟩) ?_ ?_
          rotate_left; · intro w'; go_simp; with_reducible rfl
          rotate_left; · simp only [Act.put, zI, zZ, zS, i64_w, i32_w]; rfl
          refine pure_ (i := 2) (N := some 24) (v := ?_) (a' := ?_) #[true, true, true, false, false, false, false, false, false, false, false] rfl rfl (any_of HT_.out (by kernel_rfl)) (fun _ _ _ h => h) (Or.inl ⟨by rfl, ?_⟩) ?_ ?_
          rotate_left; · intro w'; go_simp; with_reducible rfl
          rotate_left; · simp only [Act.put, zI, zZ, zS, i64_w, i32_w]; rfl
          refine pure_ (i := 4) (N := some 26) (v := ?_) (a' := ?_) #[true, true, true, false, true, false, false, false, false, false, false] rfl rfl (any_of HT_.out (by kernel_rfl)) (fun _ _ _ h => h) (Or.inl ⟨by rfl, ?_⟩) ?_ ?_
          rotate_left; · intro w'; go_simp; with_reducible rfl
          rotate_left; · simp only [Act.put, zI, zZ, zS, i64_w, i32_w]; rfl
          refine pure_ (i := 5) (N := some 27) (v := ?_) (a' := ?_) #[true, true, true, false, true, true, false, false, false, false, false] rfl rfl (any_of HT_.out (by kernel_rfl)) (fun _ _ _ h => h) (Or.inl ⟨by rfl, ?_⟩) ?_ ?_
          rotate_left; · intro w'; go_simp; with_reducible rfl
          rotate_left; · simp only [Act.put, zI, zZ, zS, i64_w, i32_w]; rfl
          refine pure_ (i := 6) (N := some 28) (v := ?_) (a' := ?_) #[true, true, true, false, true, true, true, false, false, false, false] rfl rfl (any_of HT_.out (by kernel_rfl)) (fun _ _ _ h => h) (Or.inl ⟨by rfl, ?_⟩) ?_ ?_
          rotate_left; · intro w'; go_simp; with_reducible rfl
          rotate_left; · simp only [Act.put, zI, zZ, zS, i64_w, i32_w]; rfl
          refine take_ (i := 3) (N := some 25) (v := ?_) (a' := ?_) #[true, true, true, true, true, true, true, false, false, false, false] rfl rfl (take_ofW HT_.out HW_.out (by kernel_rfl)) (fun _ _ _ h => h) (Or.inl ⟨by rfl, ?_⟩) hHeld ?_ ?_
          rotate_left; · rintro w' ⟨s0, s1⟩; go_simp; with_reducible rfl
          rotate_left; · simp only [Act.put, zI, zZ, zS, i64_w, i32_w]; rfl
          refine take_ (i := 7) (N := some 29) (v := ?_) (a' := ?_) #[true, true, true, true, true, true, true, true, false, false, false] rfl rfl (take_ofW HT_.out HW_.out (by kernel_rfl)) (fun _ _ _ h => h) (Or.inl ⟨by rfl, ?_⟩) hHeld ?_ ?_
          rotate_left; · rintro w' ⟨s0, s1⟩; go_simp; with_reducible rfl
          rotate_left; · simp only [Act.put, zI, zZ, zS, i64_w, i32_w]; rfl
          refine pure_ (i := 8) (N := some 30) (v := ?_) (a' := ?_) #[true, true, true, true, true, true, true, true, true, false, false] rfl rfl (any_of HT_.out (by kernel_rfl)) (fun _ _ _ h => h) (Or.inl ⟨by rfl, ?_⟩) ?_ ?_
          rotate_left; · intro w'; go_simp; with_reducible rfl
          rotate_left; · simp only [Act.put, zI, zZ, zS, i64_w, i32_w]; rfl
          refine pure_ (i := 9) (N := some 31) (v := ?_) (a' := ?_) #[true, true, true, true, true, true, true, true, true, true, false] rfl rfl (any_of HT_.out (by kernel_rfl)) (fun _ _ _ h => h) (Or.inl ⟨by rfl, ?_⟩) ?_ ?_
          rotate_left; · intro w'; go_simp; with_reducible rfl
          rotate_left; · simp only [Act.put, zI, zZ, zS, i64_w, i32_w]; rfl
          refine last_ (i := 10) (N := none) #[true, true, true, true, true, true, true, true, true, true, true] rfl rfl (one_of HT_.out (by kernel_rfl)) (by decide) (fun K hK => ?_)
          refine skip_ (w1 := ?_) (by rfl) rfl ?_ ?_
          rotate_left; · go_simp; rfl
          refine hK.out _ _ ?_
          clear hK K
          refine done_ (done_of HT_.out (by kernel_rfl)) ?_
          try go_wp2
          (try simp only [← hl5_2])
          first | go_roundg k2 | ((try (have e_ := HGZ7_2.out; injection e_ with e1_ e2_ e3_; subst e1_ e3_)); go_roundg k2)
          case measure => have := HK1.out; have := HK2.out; omega
          case rel => exact ⟨(y111), (wrap64 (x19_2 + 1)), rs, H', ⟨by have := HK1.out; have := HK2.out; omega⟩, ⟨by (with_reducible repeat (first | apply HdrOf.alloc | apply HdrOf.drewN | apply HdrOf.drew)); first | exact ⟨_, _, _, rfl, (by first | exact of_eq_true p106 | exact hdr_lo HH_7.out | omega), (by first | exact of_eq_true q106 | exact hdr_hi HH_7.out | (have h_ := of_eq_true q106; omega) | (have h_ := hdr_hi HH_7.out; omega)), HXp17.out⟩ | (rw [← HGZ7_2.out]; exact ⟨_, _, _, rfl, (by first | exact of_eq_true p106 | exact hdr_lo HH_7.out | omega), (by first | exact of_eq_true q106 | exact hdr_hi HH_7.out | (have h_ := of_eq_true q106; omega) | (have h_ := hdr_hi HH_7.out; omega)), HXp17.out⟩)⟩, ⟨by (try simp only [hl5_1]); (try simp only [hl5_2]); (with_reducible repeat (first | apply Kd.S_alloc | apply Kd.S_drewN | apply Kd.S_drew)); exact HQ17.out⟩, ⟨by (try simp only [hl5_1]); (try simp only [hl5_2]); (with_reducible repeat (first | refine blk_drewN ?_ _ | refine blk_drew ?_ | refine blk_alloc ?_ _)); refine blk_far ?_ (by have h_ := Kd.R_ne HL106_0.out BK101.out (by decide); intro e_; exact h_ (by rw [e_]; rfl)) _; (with_reducible repeat (first | refine blk_drewN ?_ _ | refine blk_drew ?_ | refine blk_alloc ?_ _)); exact BK101.out⟩, ⟨by repeat (first | (with_reducible first | exact HB.out | apply below_alloc | apply pw_below_drewN | apply below_drew1 | refine below_set ?_ GB15.out | refine below_set ?_ GE101.out) | exact HB.out)⟩⟩
end Go.Proofs.Ytjgdibhalmcigaa.C
