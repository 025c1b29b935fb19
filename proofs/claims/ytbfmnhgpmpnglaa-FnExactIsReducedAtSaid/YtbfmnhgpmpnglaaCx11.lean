/- The functions that one law reaches, each as a Lean function, and that Go's call comes to what it says. Condition of each: that the Lean function answers (is not none). -/
import Derived.Test.YtbfmnhgpmpnglaaCx0
import Derived.Test.YtbfmnhgpmpnglaaCx9
import Derived.Test.YtbfmnhgpmpnglaaCx10
namespace Go.Proofs.Ytbfmnhgpmpnglaa.C
open Go.RowKit Go.Proofs.YtbfmnhgpmpnglaaW.PrintWords Go.Proofs.YtbfmnhgpmpnglaaW.PrintLast Go.Proofs.YtbfmnhgpmpnglaaW.PrintMore
attribute [local go_sem] max2_int min2_int max_two min_two max_three min_three max_four min_four   -- for this text's walks alone
set_option linter.unusedVariables false
set_option linter.unusedSimpArgs false

/-! ### slices_Clone_int64_int64: function 157 -/
theorem clone_nil (w : World) (a : Option Addr) (n c : Nat) : (binOp .eql 34 (.slice a n c) (.slice none 0 0)).run Try.prog w = .ok (.bool a.isNone) w := Lib.run_eql_slice_nil w _ _ a n c 0 0 Try.underlying34
def slices_Clone_int64_int64.f (l0 : List Int) : Option (List Int) := if l0.length < 17592186044416 then some l0 else none
set_option maxHeartbeats 8000000 in
set_option maxRecDepth 100000 in
theorem slices_Clone_int64_int64.calls (A0 : Option Addr) (c0 : Nat) (l0 : List Int) (r : List Int) (w : World) (hr0 : Kd.C (Kd.int .i64) w A0 l0.length l0) (hc0 : l0.length ≤ c0) (h : slices_Clone_int64_int64.f l0 = some r) :
    Calls Try.prog 157 #[.slice A0 l0.length c0] w fun e w' => ∃ v0_ : Value, e = .returned (v0_) ∧ Kd.R (Kd.int .i64) 2 w' w.heap.size (fun _ => True) v0_ r ∧ Below w.heap.size w w' := by
  have HR0 := Aside0.mk hr0
  have HC0 := Aside0.mk hc0
  clear hr0 hc0
  unfold slices_Clone_int64_int64.f at h
  by_cases c2 : l0.length < 17592186044416
  case neg =>
    rw [if_neg c2] at h
    exact absurd h (by simp)
  rw [if_pos c2] at h
  obtain rfl := Option.some.inj h
  clear h
  cases A0 with
  | none =>
    have hn : l0 = [] := by
      by_cases hz : l0.length = 0
      case neg =>
        obtain ⟨ad, e, _⟩ := Kd.at_int HR0.out 0 (by omega) (by omega)
        cases e
      exact List.eq_nil_of_length_eq_zero hz
    subst hn
    have q_ := clone_nil
    go_enter Try.func157, Try.ntmps157
    go_wp2
    go_ret
    exact ⟨_, rfl, Kd.R_nil _ _ _ _ _, Below.refl _ _⟩
  | some ad =>
    have HB := Aside0.mk (Below.refl w.heap.size w)
    have LMc2 := Aside0.mk c2
    clear c2
    have q_ := clone_nil
    go_enter Try.func157, Try.ntmps157
    go_wp2_with (first | ((with_reducible refine gate_dst (N := 5) rfl ?_); refine Kd.R_lit (Kd.int .i64) _ 2 ?hg (N := 5) ?hd (xs := ([] : List Int)) (inner := []) (ok := fun _ => True) (okp := fun _ => True) ?hr ?hp (fun _ hk => hk) trivial (Below.refl _ _) (Nat.le_refl _) (by simp) ?_; (case hd => rfl); (case hg => rfl); (case hr => first | (go_simp; done) | (go_simp; rfl)); (case hp => exact (Reps.none _ _)); intro v102 w3 ho4 hb hg_ hnew_; clear hg_ hnew_; have n0_ := Aside0.mk (Kd.R_lower ho4 (below_size bl)); have n1_ := Aside0.mk (below_step bl hb); clear HB; have HO103 := n0_; have HB := n1_; clear n0_ n1_; clear hb ho4) | ((with_reducible refine gate_builtin (b := .append) (xs := #[.tmp 5, .tmp 6]) rfl ?_); at_builtin; refine Kd.R_append_rows (Kd.int .i64) (w0 := w) w.heap.size rfl (.tmp 5) (.tmp 6) 34 2 (.int .i64 0) 8 rfl Try.underlying34 info2 rfl (by decide) (by omega) v102 ([] : List Int) l0 _ _ _ (fun _ => True) (fun _ => False) rfl rfl ?aO ?aR (fun _ _ h => h) (fun _ h => h.elim) ?aF ?aB ?aS ?aL ?_; (case aR => repeat (first | exact (Kd.C_below HR0.out HB.out) | (with_reducible refine Kd.C_alloc ?_ _) | (with_reducible refine Kd.C_drewN ?_ _) | (with_reducible refine Kd.C_drew ?_))); (case aB => exact bl); (case aF => exact (fun _ _ => trivial)); (case aO => exact (by (with_reducible repeat (first | apply Kd.R_alloc | apply Kd.R_drewN | apply Kd.R_drew)); exact HO103.out)); (case aS => exact (below_size bl)); (case aL => have := LMc2.out; simp; omega); intro v105 w5 ho hb hg hat; rw [List.nil_append] at ho; have n0_ := Aside0.mk (hb); have n1_ := Aside0.mk (ho); clear HB; clear HO103; have HB := n0_; have HO106 := n1_; clear n0_ n1_; clear ho hb hg hat))
    go_ret
    exact ⟨_, by first | rfl | (simp; done), by (with_reducible repeat (first | apply Kd.R_alloc | apply Kd.R_drewN | apply Kd.R_drew)); exact HO106.out, bl⟩
/-! ### impl_Graph_fired: function 137 -/
mutual
def impl_Graph_fired.l0 : Nat → List Int → List Int → List (List Int) → Int → Int → Option (List Int)
  | 0, _, _, _, _, _ => none
  | k + 1, x2, x7, x15, x16, x17 => if x17 < x16 then (if 0 ≤ x17 then (if x17 < (x15.length : Int) then (impl_Graph_fired.l1 k x2 x7 x17 x15 x16 x17 ((rd_L1 x15 x17).length : Int) 0) else (none)) else (none)) else (some x7)
def impl_Graph_fired.l1 : Nat → List Int → List Int → Int → List (List Int) → Int → Int → Int → Int → Option (List Int)
  | 0, _, _, _, _, _, _, _, _ => none
  | k + 1, x2, x7, x8, x15, x16, x17, x23, x24 => if x24 < x23 then (if 0 ≤ x24 then (if x24 < ((rd_L1 x15 x8).length : Int) then (if x24 < (x7.length : Int) then (if 0 ≤ x8 then (if x8 < (x2.length : Int) then (impl_Graph_fired.l1 k x2 (x7.set (x24 : Int).toNat (wrap64 ((rd x7 x24) - (wrap64 ((rd (rd_L1 x15 x8) x24) * (rd x2 x8)))))) x8 x15 x16 x17 x23 (wrap64 (x24 + 1))) else (none)) else (none)) else (none)) else (none)) else (none)) else (impl_Graph_fired.l0 k x2 x7 x15 x16 (wrap64 (x17 + 1)))
end
def impl_Graph_fired.f (k : Nat) (a0_0 : Int) (l0_1 : List (List Int)) (l1 : List Int) (l2 : List Int) : Option (List Int) := (slices_Clone_int64_int64.f l1).bind fun t102 => ((impl_Graph_laplacian.f k a0_0 l0_1).bind fun t105 => (impl_Graph_fired.l0 k l2 t102 t105 (t105.length : Int) 0))
theorem impl_Graph_fired.mono_l : ∀ k, (∀ y0 y1 y2 y3 y4, LeO (impl_Graph_fired.l0 k y0 y1 y2 y3 y4) (impl_Graph_fired.l0 (k + 1) y0 y1 y2 y3 y4)) ∧ (∀ y0 y1 y2 y3 y4 y5 y6 y7, LeO (impl_Graph_fired.l1 k y0 y1 y2 y3 y4 y5 y6 y7) (impl_Graph_fired.l1 (k + 1) y0 y1 y2 y3 y4 y5 y6 y7))
  | 0 => ⟨fun _ _ _ _ _ r h => by simp [impl_Graph_fired.l0] at h, fun _ _ _ _ _ _ _ _ r h => by simp [impl_Graph_fired.l1] at h⟩
  | k + 1 => by
    obtain ⟨ih0, ih1⟩ := impl_Graph_fired.mono_l k
    refine ⟨?_, ?_⟩
    · intro y0 y1 y2 y3 y4
      unfold impl_Graph_fired.l0
      repeat' first
      | (with_reducible exact ih0 _ _ _ _ _)
      | (with_reducible exact ih1 _ _ _ _ _ _ _ _)
      | (with_reducible exact impl_Graph_laplacian.mono _ _ _)
      | (with_reducible exact LeO.refl _)
      | (with_reducible exact LeO.none _)
      | (with_reducible refine LeO.ite ?_ ?_)
      | (with_reducible refine LeO.bind ?_ (fun _ => ?_))
      | exact ih0 _ _ _ _ _
      | exact ih1 _ _ _ _ _ _ _ _
      | exact impl_Graph_laplacian.mono _ _ _
      | exact LeO.none _
      | refine LeO.ite ?_ ?_
      | refine LeO.bind ?_ (fun _ => ?_)
    · intro y0 y1 y2 y3 y4 y5 y6 y7
      unfold impl_Graph_fired.l1
      repeat' first
      | (with_reducible exact ih0 _ _ _ _ _)
      | (with_reducible exact ih1 _ _ _ _ _ _ _ _)
      | (with_reducible exact impl_Graph_laplacian.mono _ _ _)
      | (with_reducible exact LeO.refl _)
      | (with_reducible exact LeO.none _)
      | (with_reducible refine LeO.ite ?_ ?_)
      | (with_reducible refine LeO.bind ?_ (fun _ => ?_))
      | exact ih0 _ _ _ _ _
      | exact ih1 _ _ _ _ _ _ _ _
      | exact impl_Graph_laplacian.mono _ _ _
      | exact LeO.none _
      | refine LeO.ite ?_ ?_
      | refine LeO.bind ?_ (fun _ => ?_)
theorem impl_Graph_fired.mono : ∀ a0 a1 a2 a3 k, LeO (impl_Graph_fired.f k a0 a1 a2 a3) (impl_Graph_fired.f (k + 1) a0 a1 a2 a3) := by
  intro a0 a1 a2 a3 k
  obtain ⟨ih0, ih1⟩ := impl_Graph_fired.mono_l k
  unfold impl_Graph_fired.f
  repeat' first
      | (with_reducible exact ih0 _ _ _ _ _)
      | (with_reducible exact ih1 _ _ _ _ _ _ _ _)
      | (with_reducible exact impl_Graph_laplacian.mono _ _ _)
      | (with_reducible exact LeO.refl _)
      | (with_reducible exact LeO.none _)
      | (with_reducible refine LeO.ite ?_ ?_)
      | (with_reducible refine LeO.bind ?_ (fun _ => ?_))
      | exact ih0 _ _ _ _ _
      | exact ih1 _ _ _ _ _ _ _ _
      | exact impl_Graph_laplacian.mono _ _ _
      | exact LeO.none _
      | refine LeO.ite ?_ ?_
      | refine LeO.bind ?_ (fun _ => ?_)
def impl_Graph_fired.T8 : Bool × List (List Nat × List Nat) := (true, [([], []), ([], []), ([0, 1], [0, 1]), ([2], [2]), ([], []), ([], []), ([], []), ([5, 6], [5, 6]), ([7], [7]), ([4, 8], [4, 8]), ([3, 9], [3, 9]), ([0, 1, 0, 1, 2, 3, 4, 5, 6, 7, 8, 9, 10], [0, 1]), ([11, 10, 0, 1, 2, 3, 4, 5, 6, 7, 8, 9, 10], [10, 11])])
def impl_Graph_fired.B8 : List Nat := [0, 0, 3, 7, 0, 0, 0, 96, 224, 496, 1023, 2047, 4095]
theorem impl_Graph_fired.tab8 : rtab .any (opsOf Try.f137 8) = impl_Graph_fired.T8 := by kernel_rfl
theorem impl_Graph_fired.bits8 : waitsOk impl_Graph_fired.T8.2 impl_Graph_fired.B8 = true := by kernel_rfl
set_option maxHeartbeats 8000000 in
set_option maxRecDepth 100000 in
theorem impl_Graph_fired.calls (k : Nat) (a0_0 : Int) (A0_1 : Option Addr) (c0_1 : Nat) (l0_1 : List (List Int)) (A1 : Option Addr) (c1 : Nat) (l1 : List Int) (A2 : Option Addr) (c2 : Nat) (l2 : List Int) (r : List Int) (w : World) (hr0_1 : Kd.C (Kd.slice 2 (Kd.int .i64)) w A0_1 l0_1.length l0_1) (hc0_1 : l0_1.length ≤ c0_1) (hr1 : Kd.C (Kd.int .i64) w A1 l1.length l1) (hc1 : l1.length ≤ c1) (hr2 : Kd.C (Kd.int .i64) w A2 l2.length l2) (hc2 : l2.length ≤ c2) (h : impl_Graph_fired.f k a0_0 l0_1 l1 l2 = some r) :
    Calls Try.prog 137 #[.agg #[.int .i64 a0_0, .slice A0_1 l0_1.length c0_1], .slice A1 l1.length c1, .slice A2 l2.length c2] w fun e w' => ∃ v0_ : Value, e = .returned (v0_) ∧ Kd.R (Kd.int .i64) 2 w' w.heap.size (fun _ => True) v0_ r ∧ Below w.heap.size w w' := by
  have hu28 := Try.underlying28
  have HR0_1 := Aside0.mk hr0_1
  have HC0_1 := Aside0.mk hc0_1
  clear hr0_1 hc0_1
  have HR1 := Aside0.mk hr1
  have HC1 := Aside0.mk hc1
  clear hr1 hc1
  have HR2 := Aside0.mk hr2
  have HC2 := Aside0.mk hc2
  clear hr2 hc2
  have HB := Aside0.mk (Below.refl w.heap.size w)
  have H : ((slices_Clone_int64_int64.f l1).bind fun t102 => ((impl_Graph_laplacian.f k a0_0 l0_1).bind fun t105 => (impl_Graph_fired.l0 k l2 t102 t105 (t105.length : Int) 0))) = some r := h
  clear h
  replace H := Option.bind_eq_some_iff.mp H
  obtain ⟨t102, A40, H⟩ := H
  replace H : ((impl_Graph_laplacian.f k a0_0 l0_1).bind fun t105 => (impl_Graph_fired.l0 k l2 t102 t105 (t105.length : Int) 0)) = some r := H
  have A4 := Aside0.mk A40
  clear A40
  replace H := Option.bind_eq_some_iff.mp H
  obtain ⟨t105, A50, H⟩ := H
  replace H : (impl_Graph_fired.l0 k l2 t102 t105 (t105.length : Int) 0) = some r := H
  have A5 := Aside0.mk A50
  clear A50
  have H' := Aside0.mk H
  clear H
  go_enter Try.func137, Try.ntmps137
  go_wp2_with (first | ((with_reducible refine gate_dst (N := 3) rfl ?_); refine box_event ?hg (N := 3) ?hd (cs := #[.int .i64 a0_0, .slice A0_1 l0_1.length c0_1]) (t := 28) ?hr ?_; (case hd => rfl); (case hg => rfl); (case hr => first | (go_simp; done) | (go_simp; rfl)); intro gb101 hg w6 hbox hb; have n0_ := Aside0.mk (below_step bl hb); have n1_ := Aside0.mk (hbox); have n2_ := Aside0.mk ((by rw [hg]; exact (below_size bl) : w.heap.size ≤ gb101)); have n3_ := Aside0.mk ((by rw [hg]; exact (below_size bl) : w.heap.size ≤ gb101)); clear HB; have HB := n0_; have BK101 := n1_; have GW101 := n2_; have GE101 := n3_; clear n0_ n1_ n2_ n3_; clear hb hbox hg) | ((with_reducible refine gate_callee (f := 157) rfl ?_); refine goesL_ (some 13) rfl rfl Try.func157 (by kernel_rfl) rfl #[.slice A1 l1.length c1] rfl gm ?_; (with_reducible refine (slices_Clone_int64_int64.calls _ _ l1 t102 _ ?side1 ?side2 A4.out).mono ?_); (case side1 => repeat (first | exact (Kd.C_below HR1.out HB.out) | (with_reducible refine Kd.C_alloc ?_ _) | (with_reducible refine Kd.C_drewN ?_ _) | (with_reducible refine Kd.C_drew ?_))); (case side2 => exact HC1.out); rintro e w7 ⟨v103, rfl, ho0, hb⟩; refine ⟨_, rfl, ?_⟩; have n0_ := Aside0.mk (Kd.R_lower ho0 (below_size bl)); have n1_ := Aside0.mk (blk_below (g := gb101) (o := .cells #[.int .i64 a0_0, .slice A0_1 l0_1.length c0_1] 28 (0, 0)) bk hb); have n2_ := Aside0.mk (below_step bl hb); clear BK101; clear HB; have HO104 := n0_; have BK101 := n1_; have HB := n2_; clear n0_ n1_ n2_; (try clear hb); (try clear hb2); (try clear hk); (try clear hi); (try clear ho0); have hcz8_0 : w7.cell? ⟨gb101, 0, none⟩ = some (.int .i64 a0_0) := (blk_cell BK101.out 0).trans rfl; have hcz8_1 : w7.cell? ⟨gb101, 1, none⟩ = some (.slice A0_1 l0_1.length c0_1) := (blk_cell BK101.out 1).trans rfl; have hfz8_0 := blk_frozen BK101.out 0; have hfz8_1 := blk_frozen BK101.out 1) | ((with_reducible refine gate_callee (f := 112) rfl ?_); refine goesL_ (some 15) rfl rfl Try.func112 (by kernel_rfl) rfl #[.agg #[.int .i64 a0_0, .slice A0_1 l0_1.length c0_1]] rfl gm ?_; (with_reducible refine (impl_Graph_laplacian.calls k a0_0 _ _ l0_1 t105 _ ?side1 ?side2 A5.out).mono ?_); (case side1 => repeat (first | exact (Kd.C_below HR0_1.out HB.out) | (with_reducible refine Kd.C_alloc ?_ _) | (with_reducible refine Kd.C_drewN ?_ _) | (with_reducible refine Kd.C_drew ?_))); (case side2 => exact HC0_1.out); rintro e w9 ⟨v106, rfl, ho0, hb⟩; refine ⟨_, rfl, ?_⟩; have n0_ := Aside0.mk (Kd.R_below (by (with_reducible repeat (first | apply Kd.R_alloc | apply Kd.R_drewN | apply Kd.R_drew)); exact HO104.out) hb); have n1_ := Aside0.mk (Kd.S_lower (Kd.S_new' ho0 (Kd.R_lt (by (with_reducible repeat (first | apply Kd.R_alloc | apply Kd.R_drewN | apply Kd.R_drew)); exact HO104.out))) (below_size bl)); have n2_ := Aside0.mk (blk_below (g := gb101) (o := .cells #[.int .i64 a0_0, .slice A0_1 l0_1.length c0_1] 28 (0, 0)) bk hb); have n3_ := Aside0.mk (below_step bl hb); clear HO104; clear BK101; clear HB; have HO104 := n0_; have HO107 := n1_; have BK101 := n2_; have HB := n3_; clear n0_ n1_ n2_ n3_; (try clear hb); (try clear hb2); (try clear hk); (try clear hi); (try clear ho0); obtain ⟨Ao10, co10, eo10⟩ := Kd.S_slice HO107.out; subst eo10))
  go_loopg [17] k (fun kq v17 w' => ∃ (x7_1 : List Int) (x17_1 : Int), v17 = .int .i64 x17_1 ∧ Aside0 (impl_Graph_fired.l0 kq l2 x7_1 t105 (t105.length : Int) x17_1 = some r) ∧ Aside0 (kq ≤ k) ∧ Aside0 (Kd.R (Kd.int .i64) 2 w' w.heap.size (fun _ => True) v103 x7_1) ∧ Aside0 (Kd.S (Kd.slice 2 (Kd.int .i64)) 34 w' w.heap.size (fun k_ => some k_ ≠ (v103 : Value).ownBlock) (.slice Ao10 t105.length co10) t105) ∧ Aside0 (w'.heap[gb101]? = some (.cells #[.int .i64 a0_0, (.slice A0_1 l0_1.length c0_1)] 28 (0, 0))) ∧ Aside0 (Below w.heap.size w w'))
  case atStart => exact ⟨(t102), (0), rs, H', ⟨Nat.le_refl _⟩, ⟨by (with_reducible repeat (first | apply Kd.R_alloc | apply Kd.R_drewN | apply Kd.R_drew)); exact HO104.out⟩, ⟨by (with_reducible repeat (first | apply Kd.S_alloc | apply Kd.S_drewN | apply Kd.S_drew)); exact Kd.S_mono HO107.out (fun _ hk => hk.2)⟩, ⟨bk⟩, ⟨bl⟩⟩
  case round =>
    clear H'
    (try clear c1); (try clear c2); (try clear p2); (try clear hcz8_0); (try clear hcz8_1); (try clear hfz8_0); (try clear hfz8_1)
    obtain ⟨x7_1, x17_1, rfl, HA, HK1, HO_7, HO_15, BK101, HB⟩ := hrel
    cases gk with
    | zero => exact absurd HA.out (by simp [impl_Graph_fired.l0])
    | succ k1 =>
      have H := HA.out
      clear HA
      simp only [impl_Graph_fired.l0] at H
      by_cases c11 : x17_1 < (t105.length : Int)
      case neg =>
        rw [if_neg c11] at H
        have c11b0 : decide (x17_1 < (t105.length : Int)) = false := decide_eq_false c11
        clear c11
        obtain rfl := Option.some.inj H
        go_wp2
        go_ret
        exact ⟨_, by first | rfl | (simp [errW_none, errW_some] <;> rfl) | (simp [*, errW_none, errW_some] <;> rfl), by (with_reducible repeat (first | apply Kd.R_alloc | apply Kd.R_drewN | apply Kd.R_drew)); exact HO_7.out, bl⟩
      rw [if_pos c11] at H
      have c11b0 : decide (x17_1 < (t105.length : Int)) = true := decide_eq_true c11
      clear c11
      by_cases c12 : 0 ≤ x17_1
      case neg => rw [if_neg c12] at H; exact absurd H (by simp)
      rw [if_pos c12] at H
      have c12b0 : decide (0 ≤ x17_1) = true := decide_eq_true c12
      clear c12
      by_cases c13 : x17_1 < (t105.length : Int)
      case neg => rw [if_neg c13] at H; exact absurd H (by simp)
      rw [if_pos c13] at H
      have c13b0 : decide (x17_1 < (t105.length : Int)) = true := decide_eq_true c13
      clear c13
      have H' := Aside0.mk H
      clear H
      have p108 : 0 ≤ (x17_1 : Int) := oD
      have q108 : x17_1 < (t105.length : Int) := oD
      obtain ⟨ad108, A108_0, c108_0, e108, hx108_0, hl108_0, hi108_0⟩ := at_L1 (Kd.S_reads' HO_15.out).2.2 x17_1 p108 q108
      cases e108
      obtain ⟨ce108, hce108, hMe108, hcc108⟩ := Kd.S_get HO_15.out [] x17_1 p108 (by first | exact q108 | exact oD | (have e_ := (Kd.S_reads' HO_15.out).1; omega))
      obtain ⟨ve108_0, rfl, ge108_0⟩ := hMe108
      have hv108_0 := hcc108 0 _ rfl
      rw [Nat.add_zero, show ((Kd.slice 2 (Kd.int .i64))).sz = 1 from rfl, Nat.mul_one] at hv108_0
      replace hv108_0 := Option.some.inj (hv108_0.symm.trans hx108_0)
      rw [hv108_0] at ge108_0
      have HL108_0 := Aside0.mk (show Kd.R (Kd.int .i64) 2 _ _ _ _ (rd_L1 t105 x17_1) from ge108_0)
      clear hv108_0 ge108_0
      have HX108_0 := Aside0.mk hx108_0
      clear hcc108 hce108
      have HR108_0 := Aside0.mk hi108_0
      have HC108_0 := Aside0.mk hl108_0
      clear hi108_0 hl108_0
      replace p108 := eq_true p108
      replace q108 := eq_true q108
      go_wp2
      generalize hgz9_2 : (.slice A108_0 (rd_L1 t105 x17_1).length c108_0 : Value) = vz9_2
      have HGZ9_2 := Aside0.mk hgz9_2
      clear hgz9_2
      go_loopg [24] k1 (fun kq v24 w' => ∃ (x7_2 : List Int) (x24_2 : Int), v24 = .int .i64 x24_2 ∧ Aside0 (impl_Graph_fired.l1 kq l2 x7_2 x17_1 t105 (t105.length : Int) x17_1 ((rd_L1 t105 x17_1).length : Int) x24_2 = some r) ∧ Aside0 (kq ≤ k1) ∧ Aside0 (HdrOf w' (.slice (some ad108) t105.length co10) x17_1 vz9_2) ∧ Aside0 (Kd.R (Kd.int .i64) 2 w' w.heap.size (fun _ => True) v103 x7_2) ∧ Aside0 (Kd.S (Kd.slice 2 (Kd.int .i64)) 34 w' w.heap.size (fun k_ => some k_ ≠ (v103 : Value).ownBlock) (.slice (some ad108) t105.length co10) t105) ∧ Aside0 (w'.heap[gb101]? = some (.cells #[.int .i64 a0_0, (.slice A0_1 l0_1.length c0_1)] 28 (0, 0))) ∧ Aside0 (Below w.heap.size w w'))
      case atStart => exact ⟨(x7_1), (0), rs, H', ⟨Nat.le_refl _⟩, ⟨by (with_reducible repeat (first | apply HdrOf.alloc | apply HdrOf.drewN | apply HdrOf.drew)); first | exact ⟨_, _, _, rfl, (by first | exact of_eq_true p108 | exact hdr_lo HH_9.out | omega), (by first | exact of_eq_true q108 | exact hdr_hi HH_9.out | (have h_ := of_eq_true q108; omega) | (have h_ := hdr_hi HH_9.out; omega)), HX108_0.out⟩ | (rw [← HGZ9_2.out]; exact ⟨_, _, _, rfl, (by first | exact of_eq_true p108 | exact hdr_lo HH_9.out | omega), (by first | exact of_eq_true q108 | exact hdr_hi HH_9.out | (have h_ := of_eq_true q108; omega) | (have h_ := hdr_hi HH_9.out; omega)), HX108_0.out⟩)⟩, ⟨by (with_reducible repeat (first | apply Kd.R_alloc | apply Kd.R_drewN | apply Kd.R_drew)); exact HO_7.out⟩, ⟨by (with_reducible repeat (first | apply Kd.S_alloc | apply Kd.S_drewN | apply Kd.S_drew)); exact HO_15.out⟩, ⟨bk⟩, ⟨bl⟩⟩
      case round =>
        clear H'
        (try clear c1); (try clear p1); (try clear q1); (try clear hx1); (try clear c2); (try clear p2); (try clear c10); (try clear p10); (try clear q10); (try clear hx10); (try clear c11); (try clear c11b0); (try clear c12); (try clear c12b0); (try clear c13); (try clear c13b0); (try clear hcz8_0); (try clear hcz8_1); (try clear hfz8_0); (try clear hfz8_1); (try clear hx108_0); (try clear p108); (try clear p2); (try clear q108)
        obtain ⟨x7_2, x24_2, rfl, HA, HK2, HH_9, HO_7, HO_15, BK101, HB⟩ := hrel
        cases gk with
        | zero => exact absurd HA.out (by simp [impl_Graph_fired.l1])
        | succ k2 =>
          have H := HA.out
          clear HA
          simp only [impl_Graph_fired.l1] at H
          by_cases c14 : x24_2 < ((rd_L1 t105 x17_1).length : Int)
          case neg =>
            rw [if_neg c14] at H
            have c14b0 : decide (x24_2 < ((rd_L1 t105 x17_1).length : Int)) = false := decide_eq_false c14
            clear c14
            have H' := Aside0.mk H
            clear H
            have hza109 : decide (0 ≤ x17_1) = true := decide_eq_true (hdr_lo HH_9.out)
            have hzb109 : decide (x17_1 < (t105.length : Int)) = true := decide_eq_true (by have h_ := hdr_hi HH_9.out; have e_ := (Kd.S_reads' HO_15.out).1; omega)
            have p109 : 0 ≤ (x17_1 : Int) := oD
            have q109 : x17_1 < (t105.length : Int) := oD
            obtain ⟨ad109, A109_0, c109_0, e109, hx109_0, hl109_0, hi109_0⟩ := at_L1 (Kd.S_reads' HO_15.out).2.2 x17_1 p109 q109
            obtain rfl : ad108 = ad109 := (by injection e109)
            obtain ⟨ce109, hce109, hMe109, hcc109⟩ := Kd.S_get HO_15.out [] x17_1 p109 (by first | exact q109 | exact oD | (have e_ := (Kd.S_reads' HO_15.out).1; omega))
            obtain ⟨ve109_0, rfl, ge109_0⟩ := hMe109
            have hv109_0 := hcc109 0 _ rfl
            rw [Nat.add_zero, show ((Kd.slice 2 (Kd.int .i64))).sz = 1 from rfl, Nat.mul_one] at hv109_0
            replace hv109_0 := Option.some.inj (hv109_0.symm.trans hx109_0)
            rw [hv109_0] at ge109_0
            have HL109_0 := Aside0.mk (show Kd.R (Kd.int .i64) 2 _ _ _ _ (rd_L1 t105 x17_1) from ge109_0)
            clear hv109_0 ge109_0
            have HX109_0 := Aside0.mk hx109_0
            clear hcc109 hce109
            have HR109_0 := Aside0.mk hi109_0
            have HC109_0 := Aside0.mk hl109_0
            clear hi109_0 hl109_0
            replace p109 := eq_true p109
            replace q109 := eq_true q109
            obtain rfl := hdr_eq HH_9.out HX109_0.out
            go_wp2
            first | go_roundg k2 | ((try (have e_ := HGZ9_2.out; injection e_ with e1_ e2_ e3_; subst e1_ e3_)); go_roundg k2)
            case measure => have := HK1.out; have := HK2.out; omega
            case rel => exact ⟨(x7_2), (wrap64 (x17_1 + 1)), rs, H', ⟨by have := HK1.out; have := HK2.out; omega⟩, ⟨by (with_reducible repeat (first | apply Kd.R_alloc | apply Kd.R_drewN | apply Kd.R_drew)); exact HO_7.out⟩, ⟨by (with_reducible repeat (first | apply Kd.S_alloc | apply Kd.S_drewN | apply Kd.S_drew)); exact HO_15.out⟩, ⟨bk⟩, ⟨bl⟩⟩
          rw [if_pos c14] at H
          have c14b0 : decide (x24_2 < ((rd_L1 t105 x17_1).length : Int)) = true := decide_eq_true c14
          clear c14
          by_cases c15 : 0 ≤ x24_2
          case neg => rw [if_neg c15] at H; exact absurd H (by simp)
          rw [if_pos c15] at H
          have c15b0 : decide (0 ≤ x24_2) = true := decide_eq_true c15
          clear c15
          by_cases c16 : x24_2 < ((rd_L1 t105 x17_1).length : Int)
          case neg => rw [if_neg c16] at H; exact absurd H (by simp)
          rw [if_pos c16] at H
          have c16b0 : decide (x24_2 < ((rd_L1 t105 x17_1).length : Int)) = true := decide_eq_true c16
          clear c16
          by_cases c17 : x24_2 < (x7_2.length : Int)
          case neg => rw [if_neg c17] at H; exact absurd H (by simp)
          rw [if_pos c17] at H
          have c17b0 : decide (x24_2 < (x7_2.length : Int)) = true := decide_eq_true c17
          clear c17
          by_cases c18 : 0 ≤ x17_1
          case neg => rw [if_neg c18] at H; exact absurd H (by simp)
          rw [if_pos c18] at H
          have c18b0 : decide (0 ≤ x17_1) = true := decide_eq_true c18
          clear c18
          by_cases c19 : x17_1 < (l2.length : Int)
          case neg => rw [if_neg c19] at H; exact absurd H (by simp)
          rw [if_pos c19] at H
          have c19b0 : decide (x17_1 < (l2.length : Int)) = true := decide_eq_true c19
          clear c19
          obtain ⟨y113, hy113⟩ : ∃ y_ : List Int, y_ = (x7_2.set (x24_2 : Int).toNat (wrap64 ((rd x7_2 x24_2) - (wrap64 ((rd (rd_L1 t105 x17_1) x24_2) * (rd l2 x17_1)))))) := ⟨_, rfl⟩
          replace H : (impl_Graph_fired.l1 k2 l2 y113 x17_1 t105 (t105.length : Int) x17_1 ((rd_L1 t105 x17_1).length : Int) (wrap64 (x24_2 + 1))) = some r := by first | (rw [hy113]; with_reducible exact H) | (have H2_ := (Option.bind_some _ _).symm.trans H; rw [hy113]; with_reducible exact H2_) | (have H2_ := (Option.bind_some _ _).symm.trans H; with_reducible exact H2_) | with_reducible exact H | (rw [hy113]; exact H) | exact H
          have Ny113 := Aside0.mk hy113
          clear hy113
          have H' := Aside0.mk H
          clear H
          have hza109 : decide (0 ≤ x17_1) = true := decide_eq_true (hdr_lo HH_9.out)
          have hzb109 : decide (x17_1 < (t105.length : Int)) = true := decide_eq_true (by have h_ := hdr_hi HH_9.out; have e_ := (Kd.S_reads' HO_15.out).1; omega)
          have p109 : 0 ≤ (x17_1 : Int) := oD
          have q109 : x17_1 < (t105.length : Int) := oD
          obtain ⟨ad109, A109_0, c109_0, e109, hx109_0, hl109_0, hi109_0⟩ := at_L1 (Kd.S_reads' HO_15.out).2.2 x17_1 p109 q109
          obtain rfl : ad108 = ad109 := (by injection e109)
          obtain ⟨ce109, hce109, hMe109, hcc109⟩ := Kd.S_get HO_15.out [] x17_1 p109 (by first | exact q109 | exact oD | (have e_ := (Kd.S_reads' HO_15.out).1; omega))
          obtain ⟨ve109_0, rfl, ge109_0⟩ := hMe109
          have hv109_0 := hcc109 0 _ rfl
          rw [Nat.add_zero, show ((Kd.slice 2 (Kd.int .i64))).sz = 1 from rfl, Nat.mul_one] at hv109_0
          replace hv109_0 := Option.some.inj (hv109_0.symm.trans hx109_0)
          rw [hv109_0] at ge109_0
          have HL109_0 := Aside0.mk (show Kd.R (Kd.int .i64) 2 _ _ _ _ (rd_L1 t105 x17_1) from ge109_0)
          clear hv109_0 ge109_0
          have HX109_0 := Aside0.mk hx109_0
          clear hcc109 hce109
          have HR109_0 := Aside0.mk hi109_0
          have HC109_0 := Aside0.mk hl109_0
          clear hi109_0 hl109_0
          replace p109 := eq_true p109
          replace q109 := eq_true q109
          obtain rfl := hdr_eq HH_9.out HX109_0.out
          have p110 : 0 ≤ (x24_2 : Int) := oD
          have q110 : x24_2 < ((rd_L1 t105 x17_1).length : Int) := oD
          obtain ⟨ad110, e110, hx110_0⟩ := Kd.at_int (by repeat (first | (with_reducible exact HR109_0.out) | (with_reducible refine Kd.C_alloc ?_ _) | (with_reducible refine Kd.C_drewN ?_ _) | (with_reducible refine Kd.C_drew ?_) | exact HR109_0.out)) x24_2 p110 q110
          cases e110
          replace p110 := eq_true p110
          replace q110 := eq_true q110
          try go_wp2
          have n0_ := Aside0.mk (Kd.R_drew HO_7.out)
          have n1_ := Aside0.mk (Kd.S_drew HO_15.out)
          have n2_ := Aside0.mk (Kd.R_drew HL109_0.out)
          have n3_ := Aside0.mk (blk_drew BK101.out)
          have n4_ := Aside0.mk (Kd.C_drew HR109_0.out)
          have n5_ := Aside0.mk ((show (wr.drew).cell? _ = some _ from HX109_0.out))
          have n6_ := Aside0.mk (below_drew1 HB.out)
          clear HO_7
          clear HO_15
          clear HL109_0
          clear BK101
          clear HR109_0
          clear HX109_0
          clear HB
          have HO_7 := n0_
          have HO_15 := n1_
          have HL109_0 := n2_
          have BK101 := n3_
          have HR109_0 := n4_
          have HX109_0 := n5_
          have HB := n6_
          clear n0_ n1_ n2_ n3_ n4_ n5_ n6_
          obtain ⟨Ao22, co22, eo22⟩ := Kd.R_slice HO_7.out
          (first | subst eo22 | (injection eo22 with f1_ f2_ f3_; have f4_ := f1_.symm; have f5_ := f3_.symm; clear f1_ f2_ f3_; subst f4_; subst f5_))
          have p111 : 0 ≤ (x24_2 : Int) := oD
          have q111 : x24_2 < (x7_2.length : Int) := oD
          obtain ⟨ad111, e111, hx111_0⟩ := Kd.at_int (Kd.R_reads' HO_7.out).2.2 x24_2 p111 q111
          cases e111
          replace p111 := eq_true p111
          replace q111 := eq_true q111
          have p112 : 0 ≤ (x17_1 : Int) := oD
          have q112 : x17_1 < (l2.length : Int) := oD
          obtain ⟨ad112, e112, hx112_0⟩ := Kd.at_int HR2.out x17_1 p112 q112
          have hw112_0 := hx112_0
          cases e112
          replace hx112_0 := hbc HB hx112_0
          replace p112 := eq_true p112
          replace q112 := eq_true q112
          have p20 : 0 ≤ (x24_2 : Int) := oD
          have q20 : (x24_2 : Int) < ((x7_2.length : Int) : Int) := oD
          obtain ⟨go20, co20, eo20, gb20, gl20, cl20, HG20⟩ := Kd.R_form HO_7.out (by omega)
          (first | cases eo20 | (injection eo20 with ea_ en_ ec_; (first | subst ea_ | (injection ea_ with ea_; subst ea_)); subst ec_; clear en_))
          have GB20 := Aside0.mk gb20
          have GG20 := Aside0.mk HG20
          clear gb20 gl20 HG20
          (first | simp only [add_plain] at hx111_0 | skip)
          obtain ⟨hx20_0, hf20_0⟩ := Kd.R_celln 0 HO_7.out (x24_2 : Int) p20 q20
          replace p20 := eq_true p20
          replace q20 := eq_true q20
          have HP23 := Kd.R_putn HO_7.out (x24_2 : Int) (wrap64 ((rd x7_2 x24_2) - (wrap64 ((rd (rd_L1 t105 x17_1) x24_2) * (rd l2 x17_1)))))
          rw [← Ny113.out] at HP23
          have HQ23 := Aside0.mk HP23
          clear HP23
          refine start_ (n := 13) (S := fun w' => w'.cell? ⟨go20, (x24_2).toNat, none⟩ = some (.int .i64 (rd x7_2 x24_2)) ∧ w'.cell? (ad112.add (x17_1).toNat) = some (.int .i64 (rd l2 x17_1))) (ds := [12]) #[false, false, false, false, false, false, false, false, false, false, false, false, false] (by kernel_rfl) rfl rfl ⟨hx111_0, (hbc HB hw112_0)⟩ (fun hHeld => ?_); refine with_tabW impl_Graph_fired.tab8 impl_Graph_fired.bits8 (fun HT_ HW_ => ?_)
          generalize wr.drew = w21 at HO_7 HO_15 HL109_0 BK101 HR109_0 HX109_0 HB GG20 HQ23 hf20_0 hx111_0 hx112_0 hx20_0 hHeld ⊢
          refine pure_ (i := 0) (N := some 29) (v := ?_) (a' := ?_) #[true, false, false, false, false, false, false, false, false, false, false, false, false] rfl rfl (any_of HT_.out (by kernel_rfl)) (fun _ _ _ h => h) (Or.inl ⟨by rfl, ?_⟩) ?_ ?_
          rotate_left; · intro w'; go_simp; with_reducible rfl
          rotate_left; · simp only [Act.put, zI, zZ, zS, i64_w, i32_w]; rfl
          refine pure_ (i := 1) (N := some 30) (v := ?_) (a' := ?_) #[true, true, false, false, false, false, false, false, false, false, false, false, false] rfl rfl (any_of HT_.out (by kernel_rfl)) (fun _ _ _ h => h) (Or.inl ⟨by rfl, ?_⟩) ?_ ?_
          rotate_left; · intro w'; go_simp; with_reducible rfl
          rotate_left; · simp only [Act.put, zI, zZ, zS, i64_w, i32_w]; rfl
          refine pure_ (i := 2) (N := some 31) (v := ?_) (a' := ?_) #[true, true, true, false, false, false, false, false, false, false, false, false, false] rfl rfl (any_of HT_.out (by kernel_rfl)) (fun _ _ _ h => h) (Or.inl ⟨by rfl, ?_⟩) ?_ ?_
          rotate_left; · intro w'; go_simp; with_reducible rfl
          rotate_left; · simp only [Act.put, zI, zZ, zS, i64_w, i32_w]; rfl
          refine pure_ (i := 4) (N := some 33) (v := ?_) (a' := ?_) #[true, true, true, false, true, false, false, false, false, false, false, false, false] rfl rfl (any_of HT_.out (by kernel_rfl)) (fun _ _ _ h => h) (Or.inl ⟨by rfl, ?_⟩) ?_ ?_
          rotate_left; · intro w'; go_simp; with_reducible rfl
          rotate_left; · simp only [Act.put, zI, zZ, zS, i64_w, i32_w]; rfl
          refine pure_ (i := 5) (N := some 34) (v := ?_) (a' := ?_) #[true, true, true, false, true, true, false, false, false, false, false, false, false] rfl rfl (any_of HT_.out (by kernel_rfl)) (fun _ _ _ h => h) (Or.inl ⟨by rfl, ?_⟩) ?_ ?_
          rotate_left; · intro w'; go_simp; with_reducible rfl
          rotate_left; · simp only [Act.put, zI, zZ, zS, i64_w, i32_w]; rfl
          refine pure_ (i := 6) (N := some 35) (v := ?_) (a' := ?_) #[true, true, true, false, true, true, true, false, false, false, false, false, false] rfl rfl (any_of HT_.out (by kernel_rfl)) (fun _ _ _ h => h) (Or.inl ⟨by rfl, ?_⟩) ?_ ?_
          rotate_left; · intro w'; go_simp; with_reducible rfl
          rotate_left; · simp only [Act.put, zI, zZ, zS, i64_w, i32_w]; rfl
          refine pure_ (i := 7) (N := some 36) (v := ?_) (a' := ?_) #[true, true, true, false, true, true, true, true, false, false, false, false, false] rfl rfl (any_of HT_.out (by kernel_rfl)) (fun _ _ _ h => h) (Or.inl ⟨by rfl, ?_⟩) ?_ ?_
          rotate_left; · intro w'; go_simp; with_reducible rfl
          rotate_left; · simp only [Act.put, zI, zZ, zS, i64_w, i32_w]; rfl
          refine take_ (i := 3) (N := some 32) (v := ?_) (a' := ?_) #[true, true, true, true, true, true, true, true, false, false, false, false, false] rfl rfl (take_ofW HT_.out HW_.out (by kernel_rfl)) (fun _ _ _ h => h) (Or.inl ⟨by rfl, ?_⟩) hHeld ?_ ?_
          rotate_left; · rintro w' ⟨s0, s1⟩; go_simp; with_reducible rfl
          rotate_left; · simp only [Act.put, zI, zZ, zS, i64_w, i32_w]; rfl
          refine take_ (i := 8) (N := some 37) (v := ?_) (a' := ?_) #[true, true, true, true, true, true, true, true, true, false, false, false, false] rfl rfl (take_ofW HT_.out HW_.out (by kernel_rfl)) (fun _ _ _ h => h) (Or.inl ⟨by rfl, ?_⟩) hHeld ?_ ?_
          rotate_left; · rintro w' ⟨s0, s1⟩; go_simp; with_reducible rfl
          rotate_left; · simp only [Act.put, zI, zZ, zS, i64_w, i32_w]; rfl
          refine pure_ (i := 9) (N := some 38) (v := ?_) (a' := ?_) #[true, true, true, true, true, true, true, true, true, true, false, false, false] rfl rfl (any_of HT_.out (by kernel_rfl)) (fun _ _ _ h => h) (Or.inl ⟨by rfl, ?_⟩) ?_ ?_
          rotate_left; · intro w'; go_simp; with_reducible rfl
          rotate_left; · simp only [Act.put, zI, zZ, zS, i64_w, i32_w]; rfl
          refine pure_ (i := 10) (N := some 39) (v := ?_) (a' := ?_) #[true, true, true, true, true, true, true, true, true, true, true, false, false] rfl rfl (any_of HT_.out (by kernel_rfl)) (fun _ _ _ h => h) (Or.inl ⟨by rfl, ?_⟩) ?_ ?_
          rotate_left; · intro w'; go_simp; with_reducible rfl
          rotate_left; · simp only [Act.put, zI, zZ, zS, i64_w, i32_w]; rfl
          refine pure_ (i := 11) (N := some 40) (v := ?_) (a' := ?_) #[true, true, true, true, true, true, true, true, true, true, true, true, false] rfl rfl (any_of HT_.out (by kernel_rfl)) (fun _ _ _ h => h) (Or.inl ⟨by rfl, ?_⟩) ?_ ?_
          rotate_left; · intro w'; go_simp; with_reducible rfl
          rotate_left; · simp only [Act.put, zI, zZ, zS, i64_w, i32_w]; rfl
          refine last_ (i := 12) (N := none) #[true, true, true, true, true, true, true, true, true, true, true, true, true] rfl rfl (one_of HT_.out (by kernel_rfl)) (by decide) (fun K hK => ?_)
          refine skip_ (w1 := ?_) (by rfl) rfl ?_ ?_
          rotate_left; · go_simp; rfl
          refine hK.out _ _ ?_
          clear hK K
          refine done_ (done_of HT_.out (by kernel_rfl)) ?_
          try go_wp2
          first | go_roundg k2 | ((try (have e_ := HGZ9_2.out; injection e_ with e1_ e2_ e3_; subst e1_ e3_)); go_roundg k2)
          case measure => have := HK1.out; have := HK2.out; omega
          case rel => exact ⟨(y113), (wrap64 (x24_2 + 1)), rs, H', ⟨by have := HK1.out; have := HK2.out; omega⟩, ⟨by (with_reducible repeat (first | apply HdrOf.alloc | apply HdrOf.drewN | apply HdrOf.drew)); (try refine HdrOf.set ?_ (Kd.S_typed HO_15.out) (Kd.R_typed HO_7.out) rfl (by decide)); first | exact ⟨_, _, _, rfl, (by first | exact of_eq_true p109 | exact hdr_lo HH_9.out | omega), (by first | exact of_eq_true q109 | exact hdr_hi HH_9.out | (have h_ := of_eq_true q109; omega) | (have h_ := hdr_hi HH_9.out; omega)), HX109_0.out⟩ | (rw [← HGZ9_2.out]; exact ⟨_, _, _, rfl, (by first | exact of_eq_true p109 | exact hdr_lo HH_9.out | omega), (by first | exact of_eq_true q109 | exact hdr_hi HH_9.out | (have h_ := of_eq_true q109; omega) | (have h_ := hdr_hi HH_9.out; omega)), HX109_0.out⟩)⟩, ⟨by (with_reducible repeat (first | apply Kd.R_alloc | apply Kd.R_drewN | apply Kd.R_drew)); exact HQ23.out⟩, ⟨by (with_reducible repeat (first | apply Kd.S_alloc | apply Kd.S_drewN | apply Kd.S_drew)); exact Kd.S_mono (Kd.S_far (p := ⟨go20, (x24_2 : Int).toNat, none⟩) (Kd.S_mono HO_15.out (fun k_ hk => (⟨hk, fun e_ => hk (by rw [e_]; rfl)⟩ : _ ∧ k_ ≠ go20))) (fun _ hk => hk.2) (.int .i64 (wrap64 ((rd x7_2 x24_2) - (wrap64 ((rd (rd_L1 t105 x17_1) x24_2) * (rd l2 x17_1))))))) (fun _ hk => hk.1)⟩, ⟨by (with_reducible repeat (first | refine blk_drewN ?_ _ | refine blk_drew ?_ | refine blk_alloc ?_ _)); refine blk_far ?_ (by have h_ := Kd.R_ne HO_7.out BK101.out (by decide); intro e_; exact h_ (by rw [e_]; rfl)) _; (with_reducible repeat (first | refine blk_drewN ?_ _ | refine blk_drew ?_ | refine blk_alloc ?_ _)); exact BK101.out⟩, ⟨by repeat (first | (with_reducible first | exact HB.out | apply below_alloc | apply pw_below_drewN | apply below_drew1 | refine below_set ?_ GB20.out | refine below_set ?_ GE101.out) | exact HB.out)⟩⟩
/-! ### impl_Graph_legal: function 104 -/
mutual
def impl_Graph_legal.l0 : Nat → List Int → Int → Int → Int → Int → List (List Int) → Option (List Int)
  | 0, _, _, _, _, _, _ => none
  | k + 1, x1, x2, x15, x16, x102000, x102001 => if x16 < x15 then (if x16 = 0 then (impl_Graph_legal.j1 k x1 x2 x16 x15 x16 true x102000 x102001) else (if 0 ≤ x2 then (impl_Graph_legal.j1 k x1 x2 x16 x15 x16 ((Go.bits .and .i64 (shr .i64 x16 x2) 1) == 1) x102000 x102001) else (none))) else (some ([] : List Int))
def impl_Graph_legal.j1 : Nat → List Int → Int → Int → Int → Int → Bool → Int → List (List Int) → Option (List Int)
  | 0, _, _, _, _, _, _, _, _ => none
  | k + 1, x1, x2, x7, x15, x16, x27, x102000, x102001 => if x27 = true then (impl_Graph_legal.l0 k x1 x2 x15 (wrap64 (x16 + 1)) x102000 x102001) else (if 0 ≤ x102000 then (if (x102000 : Int).toNat ≤ 35184372088832 then ((some (List.replicate (x102000 : Int).toNat 0 : List Int)).bind fun y102 => (impl_Graph_legal.l1 k x1 x2 x7 y102 x15 x16 (y102.length : Int) 0 x102000 x102001)) else (none)) else (none))
def impl_Graph_legal.l1 : Nat → List Int → Int → Int → List Int → Int → Int → Int → Int → Int → List (List Int) → Option (List Int)
  | 0, _, _, _, _, _, _, _, _, _, _ => none
  | k + 1, x1, x2, x7, x8, x15, x16, x32, x33, x102000, x102001 => if x33 < x32 then (if 0 ≤ x33 then (if x33 < (x8.length : Int) then (impl_Graph_legal.l1 k x1 x2 x7 (x8.set (x33 : Int).toNat (Go.bits .and .i64 (shr .i64 x7 x33) 1)) x15 x16 x32 (wrap64 (x33 + 1)) x102000 x102001) else (none)) else (none)) else ((impl_Graph_fired.f k x102000 x102001 x1 x8).bind fun t106 => (impl_Graph_legal.l2 k x1 x2 x8 true x15 x16 t106 (t106.length : Int) 0 x102000 x102001))
def impl_Graph_legal.l2 : Nat → List Int → Int → List Int → Bool → Int → Int → List Int → Int → Int → Int → List (List Int) → Option (List Int)
  | 0, _, _, _, _, _, _, _, _, _, _, _ => none
  | k + 1, x1, x2, x8, x10, x15, x16, x47, x48, x49, x102000, x102001 => if x49 < x48 then (if 0 ≤ x49 then (if x49 < (x47.length : Int) then (if x10 = true then (if x49 < (x8.length : Int) then (if (rd x8 x49) = 0 then (impl_Graph_legal.l2 k x1 x2 x8 true x15 x16 x47 x48 (wrap64 (x49 + 1)) x102000 x102001) else (impl_Graph_legal.l2 k x1 x2 x8 (decide ((rd x47 x49) ≥ 0)) x15 x16 x47 x48 (wrap64 (x49 + 1)) x102000 x102001)) else (none)) else (impl_Graph_legal.l2 k x1 x2 x8 false x15 x16 x47 x48 (wrap64 (x49 + 1)) x102000 x102001)) else (none)) else (none)) else (if x10 = true then (if x8 = [] then none else some x8) else (impl_Graph_legal.l0 k x1 x2 x15 (wrap64 (x16 + 1)) x102000 x102001))
end
def impl_Graph_legal.f (k : Nat) (a0_0 : Int) (l0_1 : List (List Int)) (l1 : List Int) (a2 : Int) : Option (List Int) := if 0 ≤ a0_0 then (impl_Graph_legal.l0 k l1 a2 (shl .i64 1 a0_0) 0 a0_0 l0_1) else (none)
theorem impl_Graph_legal.mono_l : ∀ k, (∀ y0 y1 y2 y3 y4 y5, LeO (impl_Graph_legal.l0 k y0 y1 y2 y3 y4 y5) (impl_Graph_legal.l0 (k + 1) y0 y1 y2 y3 y4 y5)) ∧ (∀ y0 y1 y2 y3 y4 y5 y6 y7, LeO (impl_Graph_legal.j1 k y0 y1 y2 y3 y4 y5 y6 y7) (impl_Graph_legal.j1 (k + 1) y0 y1 y2 y3 y4 y5 y6 y7)) ∧ (∀ y0 y1 y2 y3 y4 y5 y6 y7 y8 y9, LeO (impl_Graph_legal.l1 k y0 y1 y2 y3 y4 y5 y6 y7 y8 y9) (impl_Graph_legal.l1 (k + 1) y0 y1 y2 y3 y4 y5 y6 y7 y8 y9)) ∧ (∀ y0 y1 y2 y3 y4 y5 y6 y7 y8 y9 y10, LeO (impl_Graph_legal.l2 k y0 y1 y2 y3 y4 y5 y6 y7 y8 y9 y10) (impl_Graph_legal.l2 (k + 1) y0 y1 y2 y3 y4 y5 y6 y7 y8 y9 y10))
  | 0 => ⟨fun _ _ _ _ _ _ r h => by simp [impl_Graph_legal.l0] at h, fun _ _ _ _ _ _ _ _ r h => by simp [impl_Graph_legal.j1] at h, fun _ _ _ _ _ _ _ _ _ _ r h => by simp [impl_Graph_legal.l1] at h, fun _ _ _ _ _ _ _ _ _ _ _ r h => by simp [impl_Graph_legal.l2] at h⟩
  | k + 1 => by
    obtain ⟨ih0, ih1, ih2, ih3⟩ := impl_Graph_legal.mono_l k
    refine ⟨?_, ?_, ?_, ?_⟩
    · intro y0 y1 y2 y3 y4 y5
      unfold impl_Graph_legal.l0
      repeat' first
      | (with_reducible exact ih0 _ _ _ _ _ _)
      | (with_reducible exact ih1 _ _ _ _ _ _ _ _)
      | (with_reducible exact ih2 _ _ _ _ _ _ _ _ _ _)
      | (with_reducible exact ih3 _ _ _ _ _ _ _ _ _ _ _)
      | (with_reducible exact impl_Graph_fired.mono _ _ _ _ _)
      | (with_reducible exact LeO.refl _)
      | (with_reducible exact LeO.none _)
      | (with_reducible refine LeO.ite ?_ ?_)
      | (with_reducible refine LeO.bind ?_ (fun _ => ?_))
      | exact ih0 _ _ _ _ _ _
      | exact ih1 _ _ _ _ _ _ _ _
      | exact ih2 _ _ _ _ _ _ _ _ _ _
      | exact ih3 _ _ _ _ _ _ _ _ _ _ _
      | exact impl_Graph_fired.mono _ _ _ _ _
      | exact LeO.none _
      | refine LeO.ite ?_ ?_
      | refine LeO.bind ?_ (fun _ => ?_)
    · intro y0 y1 y2 y3 y4 y5 y6 y7
      unfold impl_Graph_legal.j1
      repeat' first
      | (with_reducible exact ih0 _ _ _ _ _ _)
      | (with_reducible exact ih1 _ _ _ _ _ _ _ _)
      | (with_reducible exact ih2 _ _ _ _ _ _ _ _ _ _)
      | (with_reducible exact ih3 _ _ _ _ _ _ _ _ _ _ _)
      | (with_reducible exact impl_Graph_fired.mono _ _ _ _ _)
      | (with_reducible exact LeO.refl _)
      | (with_reducible exact LeO.none _)
      | (with_reducible refine LeO.ite ?_ ?_)
      | (with_reducible refine LeO.bind ?_ (fun _ => ?_))
      | exact ih0 _ _ _ _ _ _
      | exact ih1 _ _ _ _ _ _ _ _
      | exact ih2 _ _ _ _ _ _ _ _ _ _
      | exact ih3 _ _ _ _ _ _ _ _ _ _ _
      | exact impl_Graph_fired.mono _ _ _ _ _
      | exact LeO.none _
      | refine LeO.ite ?_ ?_
      | refine LeO.bind ?_ (fun _ => ?_)
    · intro y0 y1 y2 y3 y4 y5 y6 y7 y8 y9
      unfold impl_Graph_legal.l1
      repeat' first
      | (with_reducible exact ih0 _ _ _ _ _ _)
      | (with_reducible exact ih1 _ _ _ _ _ _ _ _)
      | (with_reducible exact ih2 _ _ _ _ _ _ _ _ _ _)
      | (with_reducible exact ih3 _ _ _ _ _ _ _ _ _ _ _)
      | (with_reducible exact impl_Graph_fired.mono _ _ _ _ _)
      | (with_reducible exact LeO.refl _)
      | (with_reducible exact LeO.none _)
      | (with_reducible refine LeO.ite ?_ ?_)
      | (with_reducible refine LeO.bind ?_ (fun _ => ?_))
      | exact ih0 _ _ _ _ _ _
      | exact ih1 _ _ _ _ _ _ _ _
      | exact ih2 _ _ _ _ _ _ _ _ _ _
      | exact ih3 _ _ _ _ _ _ _ _ _ _ _
      | exact impl_Graph_fired.mono _ _ _ _ _
      | exact LeO.none _
      | refine LeO.ite ?_ ?_
      | refine LeO.bind ?_ (fun _ => ?_)
    · intro y0 y1 y2 y3 y4 y5 y6 y7 y8 y9 y10
      unfold impl_Graph_legal.l2
      repeat' first
      | (with_reducible exact ih0 _ _ _ _ _ _)
      | (with_reducible exact ih1 _ _ _ _ _ _ _ _)
      | (with_reducible exact ih2 _ _ _ _ _ _ _ _ _ _)
      | (with_reducible exact ih3 _ _ _ _ _ _ _ _ _ _ _)
      | (with_reducible exact impl_Graph_fired.mono _ _ _ _ _)
      | (with_reducible exact LeO.refl _)
      | (with_reducible exact LeO.none _)
      | (with_reducible refine LeO.ite ?_ ?_)
      | (with_reducible refine LeO.bind ?_ (fun _ => ?_))
      | exact ih0 _ _ _ _ _ _
      | exact ih1 _ _ _ _ _ _ _ _
      | exact ih2 _ _ _ _ _ _ _ _ _ _
      | exact ih3 _ _ _ _ _ _ _ _ _ _ _
      | exact impl_Graph_fired.mono _ _ _ _ _
      | exact LeO.none _
      | refine LeO.ite ?_ ?_
      | refine LeO.bind ?_ (fun _ => ?_)
theorem impl_Graph_legal.mono : ∀ a0 a1 a2 a3 k, LeO (impl_Graph_legal.f k a0 a1 a2 a3) (impl_Graph_legal.f (k + 1) a0 a1 a2 a3) := by
  intro a0 a1 a2 a3 k
  obtain ⟨ih0, ih1, ih2, ih3⟩ := impl_Graph_legal.mono_l k
  unfold impl_Graph_legal.f
  repeat' first
      | (with_reducible exact ih0 _ _ _ _ _ _)
      | (with_reducible exact ih1 _ _ _ _ _ _ _ _)
      | (with_reducible exact ih2 _ _ _ _ _ _ _ _ _ _)
      | (with_reducible exact ih3 _ _ _ _ _ _ _ _ _ _ _)
      | (with_reducible exact impl_Graph_fired.mono _ _ _ _ _)
      | (with_reducible exact LeO.refl _)
      | (with_reducible exact LeO.none _)
      | (with_reducible refine LeO.ite ?_ ?_)
      | (with_reducible refine LeO.bind ?_ (fun _ => ?_))
      | exact ih0 _ _ _ _ _ _
      | exact ih1 _ _ _ _ _ _ _ _
      | exact ih2 _ _ _ _ _ _ _ _ _ _
      | exact ih3 _ _ _ _ _ _ _ _ _ _ _
      | exact impl_Graph_fired.mono _ _ _ _ _
      | exact LeO.none _
      | refine LeO.ite ?_ ?_
      | refine LeO.bind ?_ (fun _ => ?_)
set_option maxHeartbeats 8000000 in
set_option maxRecDepth 100000 in
theorem impl_Graph_legal.calls (k : Nat) (a0_0 : Int) (A0_1 : Option Addr) (c0_1 : Nat) (l0_1 : List (List Int)) (A1 : Option Addr) (c1 : Nat) (l1 : List Int) (a2 : Int) (r : List Int) (w : World) (hr0_1 : Kd.C (Kd.slice 2 (Kd.int .i64)) w A0_1 l0_1.length l0_1) (hc0_1 : l0_1.length ≤ c0_1) (hr1 : Kd.C (Kd.int .i64) w A1 l1.length l1) (hc1 : l1.length ≤ c1) (h : impl_Graph_legal.f k a0_0 l0_1 l1 a2 = some r) :
    Calls Try.prog 104 #[.agg #[.int .i64 a0_0, .slice A0_1 l0_1.length c0_1], .slice A1 l1.length c1, .int .i64 a2] w fun e w' => ∃ v0_ : Value, e = .returned (v0_) ∧ (r = [] → v0_ = .slice none 0 0) ∧ Kd.R (Kd.int .i64) 2 w' w.heap.size (fun _ => True) v0_ r ∧ Below w.heap.size w w' := by
  have hu28 := Try.underlying28
  have HR0_1 := Aside0.mk hr0_1
  have HC0_1 := Aside0.mk hc0_1
  clear hr0_1 hc0_1
  have HR1 := Aside0.mk hr1
  have HC1 := Aside0.mk hc1
  clear hr1 hc1
  have HB := Aside0.mk (Below.refl w.heap.size w)
  have H : (if 0 ≤ a0_0 then (impl_Graph_legal.l0 k l1 a2 (shl .i64 1 a0_0) 0 a0_0 l0_1) else (none)) = some r := h
  clear h
  by_cases c4 : 0 ≤ a0_0
  case neg => rw [if_neg c4] at H; exact absurd H (by simp)
  rw [if_pos c4] at H
  have c4b0 := eq_true c4
  have c4b1 : decide (0 ≤ a0_0) = true := decide_eq_true c4
  clear c4
  obtain ⟨ji5, hji5⟩ : ∃ j_ : Int, (shl .i64 1 a0_0) = j_ := ⟨_, rfl⟩
  replace H : (impl_Graph_legal.l0 k l1 a2 ji5 0 a0_0 l0_1) = some r := by first | (rw [hji5] at H; exact H) | (simp only [hji5] at H ⊢; exact H)
  have hji5_ : (IntKind.i64.wrap (1 * 2 ^ min a0_0.toNat 64)) = ji5 := hji5
  have hji5z : a0_0 ≤ 64 → (IntKind.i64.wrap (1 * 2 ^ a0_0.toNat)) = ji5 := shl_small hji5
  have hji5u : (IntKind.i64.wrap (2 ^ min a0_0.toNat 64)) = ji5 := by have h_ := hji5_; rw [Int.one_mul] at h_; exact h_
  have hji5v : a0_0 ≤ 64 → (IntKind.i64.wrap (2 ^ a0_0.toNat)) = ji5 := fun hle_ => by have h_ := hji5z hle_; rw [Int.one_mul] at h_; exact h_
  have hji5y : (wrap64 (1 * 2 ^ min a0_0.toNat 64)) = ji5 := (i64_w _).symm.trans hji5_
  have hji5x : a0_0 ≤ 64 → (wrap64 (1 * 2 ^ a0_0.toNat)) = ji5 := fun h_ => (i64_w _).symm.trans (hji5z h_)
  have H' := Aside0.mk H
  clear H
  go_enter Try.func104, Try.ntmps104
  go_wp2_with (first | ((with_reducible refine gate_dst (N := 3) rfl ?_); refine box_event ?hg (N := 3) ?hd (cs := #[.int .i64 a0_0, .slice A0_1 l0_1.length c0_1]) (t := 28) ?hr ?_; (case hd => rfl); (case hg => rfl); (case hr => first | (go_simp; done) | (go_simp; rfl)); intro gb101 hg w6 hbox hb; have n0_ := Aside0.mk (below_step bl hb); have n1_ := Aside0.mk (hbox); have n2_ := Aside0.mk ((by rw [hg]; exact (below_size bl) : w.heap.size ≤ gb101)); have n3_ := Aside0.mk ((by rw [hg]; exact (below_size bl) : w.heap.size ≤ gb101)); clear HB; have HB := n0_; have BK101 := n1_; have GW101 := n2_; have GE101 := n3_; clear n0_ n1_ n2_ n3_; clear hb hbox hg; have hcz7_0 : w6.cell? ⟨gb101, 0, none⟩ = some (.int .i64 a0_0) := (blk_cell BK101.out 0).trans rfl; have hcz7_1 : w6.cell? ⟨gb101, 1, none⟩ = some (.slice A0_1 l0_1.length c0_1) := (blk_cell BK101.out 1).trans rfl; have hfz7_0 := blk_frozen BK101.out 0; have hfz7_1 := blk_frozen BK101.out 1))
  go_loopg [16] k (fun kq v16 w' => ∃ (x16_1 : Int), v16 = .int .i64 x16_1 ∧ Aside0 (impl_Graph_legal.l0 kq l1 a2 ji5 x16_1 a0_0 l0_1 = some r) ∧ Aside0 (kq ≤ k) ∧ Aside0 (w'.heap[gb101]? = some (.cells #[.int .i64 a0_0, (.slice A0_1 l0_1.length c0_1)] 28 (0, 0))) ∧ Aside0 (Below w.heap.size w w'))
  case atStart => exact ⟨(0), rs, H', ⟨Nat.le_refl _⟩, ⟨bk⟩, ⟨bl⟩⟩
  case round =>
    clear H'
    (try clear c1); (try clear p2); (try clear c4); (try clear c4b0); (try clear c4b1); (try clear p6); (try clear hcz7_0); (try clear hcz7_1); (try clear hfz7_0); (try clear hfz7_1)
    obtain ⟨x16_1, rfl, HA, HK1, BK101, HB⟩ := hrel
    cases gk with
    | zero => exact absurd HA.out (by simp [impl_Graph_legal.l0])
    | succ k1 =>
      have H := HA.out
      clear HA
      simp only [impl_Graph_legal.l0] at H
      by_cases c8 : x16_1 < ji5
      case neg =>
        rw [if_neg c8] at H
        have c8b0 : decide (x16_1 < ji5) = false := decide_eq_false c8
        clear c8
        obtain rfl := Option.some.inj H
        go_wp2
        go_ret
        exact ⟨_, by first | rfl | (simp [errW_none, errW_some] <;> rfl) | (simp only [← hji5]; first | rfl | (simp [errW_none, errW_some] <;> rfl)) | (simp [*, errW_none, errW_some] <;> rfl), rfl, by first | exact Kd.R_nil _ _ _ _ _ | exact Kd.N_nil _ _ _ _ _ | exact Kd.V_nil _ _ _ _ _ | exact Kd.Q_nil _ _ _ _ _ | exact Kd.S_nil _ _ _ _ _, bl⟩
      rw [if_pos c8] at H
      have c8b0 : decide (x16_1 < ji5) = true := decide_eq_true c8
      clear c8
      have HC9 := Aside0.mk H
      clear H
      go_upto_region 4 with (fail)
      go_cut [27] (fun v27 wc => ∃ (kq : Nat) (x27_8 : Bool), v27 = .bool x27_8 ∧ Aside0 (impl_Graph_legal.j1 kq l1 a2 x16_1 ji5 x16_1 x27_8 a0_0 l0_1 = some r) ∧ Aside0 (kq ≤ k1) ∧ Aside0 (wc.heap[gb101]? = some (.cells #[.int .i64 a0_0, (.slice A0_1 l0_1.length c0_1)] 28 (0, 0))) ∧ Aside0 (Below w.heap.size w wc))
      case first =>
        have H := HC9.out
        clear HC9
        by_cases c10 : x16_1 = 0
        case neg =>
          rw [if_neg c10] at H
          have c10b0 : (x16_1 == 0) = false := beq_eq_false_iff_ne.mpr c10
          have c10b1 : (x16_1 != 0) = true := bne_iff_ne.mpr c10
          (first | rw [c10b0] | (simp only [i64_w, i32_w]; rw [c10b0]) | skip)
          by_cases c11 : 0 ≤ a2
          case neg => rw [if_neg c11] at H; exact absurd H (by simp)
          rw [if_pos c11] at H
          have c11b0 := eq_true c11
          have c11b1 : decide (0 ≤ a2) = true := decide_eq_true c11
          clear c11
          obtain ⟨ji12, hji12⟩ : ∃ j_ : Int, (shr .i64 x16_1 a2) = j_ := ⟨_, rfl⟩
          replace H : (impl_Graph_legal.j1 k1 l1 a2 x16_1 ji5 x16_1 ((Go.bits .and .i64 (ji12) 1) == 1) a0_0 l0_1) = some r := by first | (rw [hji12] at H; exact H) | (simp only [hji12] at H ⊢; exact H)
          have hji12_ : (x16_1 / 2 ^ min a2.toNat 64) = ji12 := hji12
          have hji12z : a2 ≤ 64 → (x16_1 / 2 ^ a2.toNat) = ji12 := shr_small hji12
          have H' := Aside0.mk H
          clear H
          go_wp2
          go_meet
          case rel => exact ⟨_, (((Go.bits .and .i64 (ji12) 1) == 1)), (by first | rfl | (simp; done) | (simp only [← hji12] <;> (first | rfl | simp)) | (simp [*]; done)), (by first | exact H' | (rw [hji12]; exact H') | (rw [hji22]; exact H') | (rw [hji5]; exact H')), ⟨by have := HK1.out; first | omega | exact Nat.le_refl _⟩, ⟨bk⟩, ⟨bl⟩⟩
        rw [if_pos c10] at H
        have c10b0 : (x16_1 == 0) = true := beq_iff_eq.mpr c10
        have c10b1 : (x16_1 != 0) = false := bne_eq_false_iff_eq.mpr c10
        clear c10
        (first | rw [c10b0] | (simp only [i64_w, i32_w]; rw [c10b0]) | skip)
        have H' := Aside0.mk H
        clear H
        go_wp2
        go_meet
        case rel => exact ⟨_, (true), rs, (by first | exact H' | (rw [hji12]; exact H') | (rw [hji22]; exact H') | (rw [hji5]; exact H')), ⟨by have := HK1.out; first | omega | exact Nat.le_refl _⟩, ⟨bk⟩, ⟨bl⟩⟩
      case rest =>
        clear HC9
        (try clear c1); (try clear p2); (try clear c4); (try clear c4b0); (try clear c4b1); (try clear p6); (try clear c8); (try clear c8b0); (try clear c10); (try clear c10b0); (try clear c10b1); (try clear c11); (try clear c11b0); (try clear c11b1); (try clear hcz7_0); (try clear hcz7_1); (try clear hfz7_0); (try clear hfz7_1); (try clear p2); (try clear p6)
        obtain ⟨kq, x27_8, rfl, HA, HJ8, BK101, HB⟩ := hcut
        cases kq with
        | zero => exact absurd HA.out (by simp [impl_Graph_legal.j1])
        | succ kj8 =>
          have H := HA.out
          clear HA
          simp only [impl_Graph_legal.j1] at H
          by_cases c13 : x27_8 = true
          case neg =>
            replace c13 := Bool.eq_false_iff.mpr c13
            subst c13
            have H1 : (if 0 ≤ a0_0 then (if (a0_0 : Int).toNat ≤ 35184372088832 then ((some (List.replicate (a0_0 : Int).toNat 0 : List Int)).bind fun y102 => (impl_Graph_legal.l1 kj8 l1 a2 x16_1 y102 ji5 x16_1 (y102.length : Int) 0 a0_0 l0_1)) else (none)) else (none)) = some r := by rw [if_neg (show ¬ (false = true) by decide)] at H; exact H
            clear H
            have H := H1
            clear H1
            by_cases c14 : 0 ≤ a0_0
            case neg => rw [if_neg c14] at H; exact absurd H (by simp)
            rw [if_pos c14] at H
            have c14b0 := eq_true c14
            have c14b1 : decide (0 ≤ a0_0) = true := decide_eq_true c14
            clear c14
            by_cases c15 : (a0_0 : Int).toNat ≤ 35184372088832
            case neg => rw [if_neg c15] at H; exact absurd H (by simp)
            rw [if_pos c15] at H
            have c15b0 := eq_true c15
            have c15b1 : decide ((a0_0 : Int).toNat ≤ 35184372088832) = true := decide_eq_true c15
            clear c15
            obtain ⟨y102, hy102⟩ : ∃ y_ : List Int, y_ = (List.replicate (a0_0 : Int).toNat 0) := ⟨_, rfl⟩
            replace H : (impl_Graph_legal.l1 kj8 l1 a2 x16_1 y102 ji5 x16_1 (y102.length : Int) 0 a0_0 l0_1) = some r := by first | (rw [hy102]; with_reducible exact H) | (have H2_ := (Option.bind_some _ _).symm.trans H; rw [hy102]; with_reducible exact H2_) | (have H2_ := (Option.bind_some _ _).symm.trans H; with_reducible exact H2_) | with_reducible exact H | (rw [hy102]; exact H) | exact H
            have Ny102 := Aside0.mk hy102
            clear hy102
            have H' := Aside0.mk H
            clear H
            have hcz16_0 : wc.cell? ⟨gb101, 0, none⟩ = some (.int .i64 a0_0) := (blk_cell BK101.out 0).trans rfl
            have hcz16_1 : wc.cell? ⟨gb101, 1, none⟩ = some (.slice A0_1 l0_1.length c0_1) := (blk_cell BK101.out 1).trans rfl
            have hfz16_0 := blk_frozen BK101.out 0
            have hfz16_1 := blk_frozen BK101.out 1
            go_wp2_with (first | ((with_reducible refine gate_dst (N := 30) rfl ?_); refine Kd.R_make (Kd.int .i64) _ 2 rfl (N := 30) rfl 34 _ _ rfl a0_0 rfl rfl Try.underlying34 (.int .i64 0) 8 info2 rfl (by decide) (by omega) 0 (ok := fun _ => True) (okp := fun _ => True) rfl (fun _ hk => hk) trivial oD (Nat.le_trans (Nat.mul_le_mul_right _ (oD : a0_0.toNat ≤ 35184372088832)) (by omega)) (Below.refl _ _) (Nat.le_refl _) ?_; intro v103 w17 ho18 hb hg_ hnew_; clear hg_ hnew_; (first | rw [← Ny102.out] at ho18 | (simp only [Int.reduceToNat] at ho18; rw [← Ny102.out] at ho18)); have n0_ := Aside0.mk (Kd.R_lower ho18 (below_size bl)); have n1_ := Aside0.mk (blk_below (g := gb101) (o := .cells #[.int .i64 a0_0, .slice A0_1 l0_1.length c0_1] 28 (0, 0)) bk hb); have n2_ := Aside0.mk (below_step bl hb); clear BK101; clear HB; have HO104 := n0_; have BK101 := n1_; have HB := n2_; clear n0_ n1_ n2_; clear hb ho18; obtain ⟨Ao19, co19, eo19⟩ := Kd.R_slice HO104.out; subst eo19))
            go_loopg [33] kj8 (fun kq v33 w' => ∃ (x8_3 : List Int) (x33_3 : Int), v33 = .int .i64 x33_3 ∧ Aside0 (impl_Graph_legal.l1 kq l1 a2 x16_1 x8_3 ji5 x16_1 (y102.length : Int) x33_3 a0_0 l0_1 = some r) ∧ Aside0 (kq ≤ kj8) ∧ Aside0 (Kd.R (Kd.int .i64) 2 w' w.heap.size (fun _ => True) (.slice Ao19 y102.length co19) x8_3) ∧ Aside0 (w'.heap[gb101]? = some (.cells #[.int .i64 a0_0, (.slice A0_1 l0_1.length c0_1)] 28 (0, 0))) ∧ Aside0 (Below w.heap.size w w'))
            case atStart => exact ⟨(y102), (0), rs, H', ⟨Nat.le_refl _⟩, ⟨by (with_reducible repeat (first | apply Kd.R_alloc | apply Kd.R_drewN | apply Kd.R_drew)); exact HO104.out⟩, ⟨bk⟩, ⟨bl⟩⟩
            case round =>
              clear H'
              (try clear c1); (try clear p2); (try clear c4); (try clear c4b0); (try clear c4b1); (try clear p6); (try clear c8); (try clear c8b0); (try clear c10); (try clear c10b0); (try clear c10b1); (try clear c11); (try clear c11b0); (try clear c11b1); (try clear c13); (try clear c14); (try clear c14b0); (try clear c14b1); (try clear c15); (try clear c15b0); (try clear c15b1); (try clear hcz16_0); (try clear hcz16_1); (try clear hcz7_0); (try clear hcz7_1); (try clear hfz16_0); (try clear hfz16_1); (try clear hfz7_0); (try clear hfz7_1); (try clear p2); (try clear p6)
              obtain ⟨x8_3, x33_3, rfl, HA, HK3, HO_8, BK101, HB⟩ := hrel
              have hl8_3 := (Kd.R_reads' HO_8.out).1
              rw [hl8_3] at HO_8
              (try simp only [hl8_3])
              (try simp only [hl8_3] at BK101)
              cases gk with
              | zero => exact absurd HA.out (by simp [impl_Graph_legal.l1])
              | succ k3 =>
                have H := HA.out
                clear HA
                simp only [impl_Graph_legal.l1] at H
                by_cases c20 : x33_3 < (y102.length : Int)
                case neg =>
                  rw [if_neg c20] at H
                  have c20b0 : decide (x33_3 < (y102.length : Int)) = false := decide_eq_false c20
                  (try simp only [hl8_3] at c20b0)
                  clear c20
                  replace H := Option.bind_eq_some_iff.mp H
                  obtain ⟨t106, A270, H⟩ := H
                  replace H : (impl_Graph_legal.l2 k3 l1 a2 x8_3 true ji5 x16_1 t106 (t106.length : Int) 0 a0_0 l0_1) = some r := H
                  have A27 := Aside0.mk A270
                  clear A270
                  have H' := Aside0.mk H
                  clear H
                  have hcz28_0 : wr.cell? ⟨gb101, 0, none⟩ = some (.int .i64 a0_0) := (blk_cell BK101.out 0).trans rfl
                  have hcz28_1 : wr.cell? ⟨gb101, 1, none⟩ = some (.slice A0_1 l0_1.length c0_1) := (blk_cell BK101.out 1).trans rfl
                  have hfz28_0 := blk_frozen BK101.out 0
                  have hfz28_1 := blk_frozen BK101.out 1
                  go_wp2_with (first | ((with_reducible refine gate_callee (f := 137) rfl ?_); refine goesL_ (some 47) rfl rfl Try.func137 (by kernel_rfl) rfl #[.agg #[.int .i64 a0_0, .slice A0_1 l0_1.length c0_1], .slice A1 l1.length c1, .slice Ao19 x8_3.length co19] rfl gm ?_; (with_reducible refine (impl_Graph_fired.calls k3 a0_0 _ _ l0_1 _ _ l1 _ _ x8_3 t106 _ ?side1 ?side2 ?side3 ?side4 ?side5 ?side6 A27.out).mono ?_); (case side1 => repeat (first | exact (Kd.C_below HR0_1.out HB.out) | (with_reducible refine Kd.C_alloc ?_ _) | (with_reducible refine Kd.C_drewN ?_ _) | (with_reducible refine Kd.C_drew ?_))); (case side2 => exact HC0_1.out); (case side3 => repeat (first | exact (Kd.C_below HR1.out HB.out) | (with_reducible refine Kd.C_alloc ?_ _) | (with_reducible refine Kd.C_drewN ?_ _) | (with_reducible refine Kd.C_drew ?_))); (case side4 => exact HC1.out); (case side5 => repeat (first | exact (Kd.R_reads' HO_8.out).2.2 | (with_reducible refine Kd.C_alloc ?_ _) | (with_reducible refine Kd.C_drewN ?_ _) | (with_reducible refine Kd.C_drew ?_))); (case side6 => exact (Kd.R_reads' HO_8.out).2.1); rintro e w29 ⟨v107, rfl, ho0, hb⟩; refine ⟨_, rfl, ?_⟩; have n0_ := Aside0.mk (Kd.R_elder' (by (with_reducible repeat (first | apply Kd.R_alloc | apply Kd.R_drewN | apply Kd.R_drew)); exact HO_8.out) (Kd.R_base ho0) hb); have n1_ := Aside0.mk (Kd.R_lower (Kd.R_new' ho0 (Kd.R_lt (by (with_reducible repeat (first | apply Kd.R_alloc | apply Kd.R_drewN | apply Kd.R_drew)); exact HO_8.out))) (below_size bl)); have n2_ := Aside0.mk (blk_below (g := gb101) (o := .cells #[.int .i64 a0_0, .slice A0_1 l0_1.length c0_1] 28 (0, 0)) bk hb); have n3_ := Aside0.mk (below_step bl hb); clear HO_8; clear BK101; clear HB; have HO_8 := n0_; have HO108 := n1_; have BK101 := n2_; have HB := n3_; clear n0_ n1_ n2_ n3_; (try clear hb); (try clear hb2); (try clear hk); (try clear hi); (try clear ho0); obtain ⟨Ao30, co30, eo30⟩ := Kd.R_slice HO108.out; subst eo30))
                  go_loopg [10, 49] k3 (fun kq v10 v49 w' => ∃ (x10_4 : Bool) (x49_4 : Int), v10 = .bool x10_4 ∧ v49 = .int .i64 x49_4 ∧ Aside0 (impl_Graph_legal.l2 kq l1 a2 x8_3 x10_4 ji5 x16_1 t106 (t106.length : Int) x49_4 a0_0 l0_1 = some r) ∧ Aside0 (kq ≤ k3) ∧ Aside0 (Kd.R (Kd.int .i64) 2 w' w.heap.size (fun k_ => some k_ ≠ ((.slice Ao30 t106.length co30) : Value).ownBlock) (.slice Ao19 x8_3.length co19) x8_3) ∧ Aside0 (Kd.R (Kd.int .i64) 2 w' w.heap.size (fun k_ => some k_ ≠ ((.slice Ao19 x8_3.length co19) : Value).ownBlock) (.slice Ao30 t106.length co30) t106) ∧ Aside0 (w'.heap[gb101]? = some (.cells #[.int .i64 a0_0, (.slice A0_1 l0_1.length c0_1)] 28 (0, 0))) ∧ Aside0 (Below w.heap.size w w'))
                  case atStart => exact ⟨(true), (0), rs, rs, H', ⟨Nat.le_refl _⟩, ⟨by (try simp only [hl8_3]); (with_reducible repeat (first | apply Kd.R_alloc | apply Kd.R_drewN | apply Kd.R_drew)); exact Kd.R_mono HO_8.out (fun _ hk => hk.2)⟩, ⟨by (try simp only [hl8_3]); (with_reducible repeat (first | apply Kd.R_alloc | apply Kd.R_drewN | apply Kd.R_drew)); exact Kd.R_mono HO108.out (fun _ hk => hk.2)⟩, ⟨by (try simp only [hl8_3]); (with_reducible repeat (first | refine blk_drewN ?_ _ | refine blk_drew ?_ | refine blk_alloc ?_ _)); exact BK101.out⟩, ⟨bl⟩⟩
                  case round =>
                    clear H'
                    (try clear c1); (try clear c2); (try clear p2); (try clear q2); (try clear hx2); (try clear c4); (try clear c4b0); (try clear c4b1); (try clear p6); (try clear c8); (try clear c8b0); (try clear c10); (try clear c10b0); (try clear c10b1); (try clear c11); (try clear c11b0); (try clear c11b1); (try clear c13); (try clear c14); (try clear c14b0); (try clear c14b1); (try clear c15); (try clear c15b0); (try clear c15b1); (try clear c20); (try clear c20b0); (try clear c21); (try clear c21b0); (try clear c21b1); (try clear c23); (try clear c23b0); (try clear p24); (try clear q24); (try clear hx24); (try clear hf24); (try clear hcz16_0); (try clear hcz16_1); (try clear hcz28_0); (try clear hcz28_1); (try clear hcz7_0); (try clear hcz7_1); (try clear hfz16_0); (try clear hfz16_1); (try clear hfz28_0); (try clear hfz28_1); (try clear hfz7_0); (try clear hfz7_1); (try clear hx24_0); (try clear p2); (try clear p24); (try clear p6); (try clear q24)
                    obtain ⟨x10_4, x49_4, rfl, rfl, HA, HK4, HO_8, HO_47, BK101, HB⟩ := hrel
                    cases gk with
                    | zero => exact absurd HA.out (by simp [impl_Graph_legal.l2])
                    | succ k4 =>
                      have H := HA.out
                      clear HA
                      simp only [impl_Graph_legal.l2] at H
                      by_cases c31 : x49_4 < (t106.length : Int)
                      case neg =>
                        rw [if_neg c31] at H
                        have c31b0 : decide (x49_4 < (t106.length : Int)) = false := decide_eq_false c31
                        (try simp only [hl8_3] at c31b0)
                        clear c31
                        by_cases c37 : x10_4 = true
                        case neg =>
                          replace c37 := Bool.eq_false_iff.mpr c37
                          subst c37
                          have H1 : (impl_Graph_legal.l0 k4 l1 a2 ji5 (wrap64 (x16_1 + 1)) a0_0 l0_1) = some r := by rw [if_neg (show ¬ (false = true) by decide)] at H; exact H
                          clear H
                          have H := H1
                          clear H1
                          have H' := Aside0.mk H
                          clear H
                          go_wp2
                          (try simp only [← hl8_3])
                          first | go_roundg k4 | (simp only [← hji12]; go_roundg k4) | (simp only [← hji22]; go_roundg k4) | (simp only [← hji5]; go_roundg k4)
                          case measure => have := HK1.out; have := HJ8.out; have := HK3.out; have := HK4.out; omega
                          case rel => exact ⟨(wrap64 (x16_1 + 1)), rs, (by first | exact H' | (rw [hji12]; exact H') | (rw [hji22]; exact H') | (rw [hji5]; exact H')), ⟨by have := HK1.out; have := HJ8.out; have := HK3.out; have := HK4.out; omega⟩, ⟨by (try simp only [hl8_3]); (with_reducible repeat (first | refine blk_drewN ?_ _ | refine blk_drew ?_ | refine blk_alloc ?_ _)); exact BK101.out⟩, ⟨bl⟩⟩
                        subst c37
                        have H1 : (if x8_3 = [] then none else some x8_3) = some r := by rw [if_pos rfl] at H; exact H
                        clear H
                        have H := H1
                        clear H1
                        have hne_ : x8_3 ≠ [] := fun h_ => by rw [if_pos h_] at H; exact absurd H (by simp)
                        rw [if_neg hne_] at H
                        obtain rfl := Option.some.inj H
                        have HNE_ := Aside0.mk hne_
                        clear hne_ H
                        go_wp2
                        go_ret
                        exact ⟨_, by first | rfl | (simp [errW_none, errW_some] <;> rfl) | (simp only [← hji5]; first | rfl | (simp [errW_none, errW_some] <;> rfl)) | (simp [*, errW_none, errW_some] <;> rfl), fun h_ => absurd h_ HNE_.out, by (with_reducible repeat (first | apply Kd.R_alloc | apply Kd.R_drewN | apply Kd.R_drew)); exact Kd.R_mono HO_8.out (fun _ hk => trivial), bl⟩
                      rw [if_pos c31] at H
                      have c31b0 : decide (x49_4 < (t106.length : Int)) = true := decide_eq_true c31
                      (try simp only [hl8_3] at c31b0)
                      clear c31
                      by_cases c32 : 0 ≤ x49_4
                      case neg => rw [if_neg c32] at H; exact absurd H (by simp)
                      rw [if_pos c32] at H
                      have c32b0 : decide (0 ≤ x49_4) = true := decide_eq_true c32
                      clear c32
                      by_cases c33 : x49_4 < (t106.length : Int)
                      case neg => rw [if_neg c33] at H; exact absurd H (by simp)
                      rw [if_pos c33] at H
                      have c33b0 : decide (x49_4 < (t106.length : Int)) = true := decide_eq_true c33
                      (try simp only [hl8_3] at c33b0)
                      clear c33
                      by_cases c34 : x10_4 = true
                      case neg =>
                        replace c34 := Bool.eq_false_iff.mpr c34
                        subst c34
                        have H1 : (impl_Graph_legal.l2 k4 l1 a2 x8_3 false ji5 x16_1 t106 (t106.length : Int) (wrap64 (x49_4 + 1)) a0_0 l0_1) = some r := by rw [if_neg (show ¬ (false = true) by decide)] at H; exact H
                        clear H
                        have H := H1
                        clear H1
                        have H' := Aside0.mk H
                        clear H
                        have p109 : 0 ≤ (x49_4 : Int) := oD
                        have q109 : x49_4 < (t106.length : Int) := oD
                        obtain ⟨ad109, e109, hx109_0⟩ := Kd.at_int (Kd.R_reads' HO_47.out).2.2 x49_4 p109 q109
                        cases e109
                        replace p109 := eq_true p109
                        replace q109 := eq_true q109
                        go_wp2
                        first | go_roundg k4 | (simp only [← hji12]; go_roundg k4) | (simp only [← hji22]; go_roundg k4) | (simp only [← hji5]; go_roundg k4)
                        case measure => have := HK1.out; have := HJ8.out; have := HK3.out; have := HK4.out; omega
                        case rel => exact ⟨(false), (wrap64 (x49_4 + 1)), rs, rs, (by first | exact H' | (rw [hji12]; exact H') | (rw [hji22]; exact H') | (rw [hji5]; exact H')), ⟨by have := HK1.out; have := HJ8.out; have := HK3.out; have := HK4.out; omega⟩, ⟨by (try simp only [hl8_3]); (with_reducible repeat (first | apply Kd.R_alloc | apply Kd.R_drewN | apply Kd.R_drew)); exact HO_8.out⟩, ⟨by (try simp only [hl8_3]); (with_reducible repeat (first | apply Kd.R_alloc | apply Kd.R_drewN | apply Kd.R_drew)); exact HO_47.out⟩, ⟨by (try simp only [hl8_3]); (with_reducible repeat (first | refine blk_drewN ?_ _ | refine blk_drew ?_ | refine blk_alloc ?_ _)); exact BK101.out⟩, ⟨bl⟩⟩
                      subst c34
                      have H1 : (if x49_4 < (x8_3.length : Int) then (if (rd x8_3 x49_4) = 0 then (impl_Graph_legal.l2 k4 l1 a2 x8_3 true ji5 x16_1 t106 (t106.length : Int) (wrap64 (x49_4 + 1)) a0_0 l0_1) else (impl_Graph_legal.l2 k4 l1 a2 x8_3 (decide ((rd t106 x49_4) ≥ 0)) ji5 x16_1 t106 (t106.length : Int) (wrap64 (x49_4 + 1)) a0_0 l0_1)) else (none)) = some r := by rw [if_pos rfl] at H; exact H
                      clear H
                      have H := H1
                      clear H1
                      by_cases c35 : x49_4 < (x8_3.length : Int)
                      case neg => rw [if_neg c35] at H; exact absurd H (by simp)
                      rw [if_pos c35] at H
                      have c35b0 : decide (x49_4 < (x8_3.length : Int)) = true := decide_eq_true c35
                      (try simp only [hl8_3] at c35b0)
                      clear c35
                      by_cases c36 : (rd x8_3 x49_4) = 0
                      case neg =>
                        rw [if_neg c36] at H
                        have c36b0 : ((rd x8_3 x49_4) == 0) = false := beq_eq_false_iff_ne.mpr c36
                        have c36b1 : ((rd x8_3 x49_4) != 0) = true := bne_iff_ne.mpr c36
                        have H' := Aside0.mk H
                        clear H
                        have p109 : 0 ≤ (x49_4 : Int) := oD
                        have q109 : x49_4 < (t106.length : Int) := oD
                        obtain ⟨ad109, e109, hx109_0⟩ := Kd.at_int (Kd.R_reads' HO_47.out).2.2 x49_4 p109 q109
                        cases e109
                        replace p109 := eq_true p109
                        replace q109 := eq_true q109
                        have p110 : 0 ≤ (x49_4 : Int) := oD
                        have q110 : x49_4 < (x8_3.length : Int) := oD
                        obtain ⟨ad110, e110, hx110_0⟩ := Kd.at_int (Kd.R_reads' HO_8.out).2.2 x49_4 p110 q110
                        cases e110
                        replace p110 := eq_true p110
                        replace q110 := eq_true q110
                        go_wp2
                        first | go_roundg k4 | (simp only [← hji12]; go_roundg k4) | (simp only [← hji22]; go_roundg k4) | (simp only [← hji5]; go_roundg k4)
                        case measure => have := HK1.out; have := HJ8.out; have := HK3.out; have := HK4.out; omega
                        case rel => exact ⟨(decide ((rd t106 x49_4) ≥ 0)), (wrap64 (x49_4 + 1)), rs, rs, (by first | exact H' | (rw [hji12]; exact H') | (rw [hji22]; exact H') | (rw [hji5]; exact H')), ⟨by have := HK1.out; have := HJ8.out; have := HK3.out; have := HK4.out; omega⟩, ⟨by (try simp only [hl8_3]); (with_reducible repeat (first | apply Kd.R_alloc | apply Kd.R_drewN | apply Kd.R_drew)); exact HO_8.out⟩, ⟨by (try simp only [hl8_3]); (with_reducible repeat (first | apply Kd.R_alloc | apply Kd.R_drewN | apply Kd.R_drew)); exact HO_47.out⟩, ⟨by (try simp only [hl8_3]); (with_reducible repeat (first | refine blk_drewN ?_ _ | refine blk_drew ?_ | refine blk_alloc ?_ _)); exact BK101.out⟩, ⟨bl⟩⟩
                      rw [if_pos c36] at H
                      have c36b0 : ((rd x8_3 x49_4) == 0) = true := beq_iff_eq.mpr c36
                      have c36b1 : ((rd x8_3 x49_4) != 0) = false := bne_eq_false_iff_eq.mpr c36
                      clear c36
                      have H' := Aside0.mk H
                      clear H
                      have p109 : 0 ≤ (x49_4 : Int) := oD
                      have q109 : x49_4 < (t106.length : Int) := oD
                      obtain ⟨ad109, e109, hx109_0⟩ := Kd.at_int (Kd.R_reads' HO_47.out).2.2 x49_4 p109 q109
                      cases e109
                      replace p109 := eq_true p109
                      replace q109 := eq_true q109
                      have p110 : 0 ≤ (x49_4 : Int) := oD
                      have q110 : x49_4 < (x8_3.length : Int) := oD
                      obtain ⟨ad110, e110, hx110_0⟩ := Kd.at_int (Kd.R_reads' HO_8.out).2.2 x49_4 p110 q110
                      cases e110
                      replace p110 := eq_true p110
                      replace q110 := eq_true q110
                      go_wp2
                      first | go_roundg k4 | (simp only [← hji12]; go_roundg k4) | (simp only [← hji22]; go_roundg k4) | (simp only [← hji5]; go_roundg k4)
                      case measure => have := HK1.out; have := HJ8.out; have := HK3.out; have := HK4.out; omega
                      case rel => exact ⟨(true), (wrap64 (x49_4 + 1)), rs, rs, (by first | exact H' | (rw [hji12]; exact H') | (rw [hji22]; exact H') | (rw [hji5]; exact H')), ⟨by have := HK1.out; have := HJ8.out; have := HK3.out; have := HK4.out; omega⟩, ⟨by (try simp only [hl8_3]); (with_reducible repeat (first | apply Kd.R_alloc | apply Kd.R_drewN | apply Kd.R_drew)); exact HO_8.out⟩, ⟨by (try simp only [hl8_3]); (with_reducible repeat (first | apply Kd.R_alloc | apply Kd.R_drewN | apply Kd.R_drew)); exact HO_47.out⟩, ⟨by (try simp only [hl8_3]); (with_reducible repeat (first | refine blk_drewN ?_ _ | refine blk_drew ?_ | refine blk_alloc ?_ _)); exact BK101.out⟩, ⟨bl⟩⟩
                rw [if_pos c20] at H
                have c20b0 : decide (x33_3 < (y102.length : Int)) = true := decide_eq_true c20
                (try simp only [hl8_3] at c20b0)
                clear c20
                by_cases c21 : 0 ≤ x33_3
                case neg => rw [if_neg c21] at H; exact absurd H (by simp)
                rw [if_pos c21] at H
                have c21b0 := eq_true c21
                have c21b1 : decide (0 ≤ x33_3) = true := decide_eq_true c21
                clear c21
                obtain ⟨ji22, hji22⟩ : ∃ j_ : Int, (shr .i64 x16_1 x33_3) = j_ := ⟨_, rfl⟩
                replace H : (if x33_3 < (x8_3.length : Int) then (impl_Graph_legal.l1 k3 l1 a2 x16_1 (x8_3.set (x33_3 : Int).toNat (Go.bits .and .i64 (ji22) 1)) ji5 x16_1 (y102.length : Int) (wrap64 (x33_3 + 1)) a0_0 l0_1) else (none)) = some r := by first | (rw [hji22] at H; exact H) | (simp only [hji22] at H ⊢; exact H)
                have hji22_ : (x16_1 / 2 ^ min x33_3.toNat 64) = ji22 := hji22
                have hji22z : x33_3 ≤ 64 → (x16_1 / 2 ^ x33_3.toNat) = ji22 := shr_small hji22
                by_cases c23 : x33_3 < (x8_3.length : Int)
                case neg => rw [if_neg c23] at H; exact absurd H (by simp)
                rw [if_pos c23] at H
                have c23b0 : decide (x33_3 < (x8_3.length : Int)) = true := decide_eq_true c23
                (try simp only [hl8_3] at c23b0)
                clear c23
                obtain ⟨y105, hy105⟩ : ∃ y_ : List Int, y_ = (x8_3.set (x33_3 : Int).toNat (Go.bits .and .i64 (ji22) 1)) := ⟨_, rfl⟩
                replace H : (impl_Graph_legal.l1 k3 l1 a2 x16_1 y105 ji5 x16_1 (y102.length : Int) (wrap64 (x33_3 + 1)) a0_0 l0_1) = some r := by first | (rw [hy105]; with_reducible exact H) | (have H2_ := (Option.bind_some _ _).symm.trans H; rw [hy105]; with_reducible exact H2_) | (have H2_ := (Option.bind_some _ _).symm.trans H; with_reducible exact H2_) | with_reducible exact H | (rw [hy105]; exact H) | exact H
                have Ny105 := Aside0.mk hy105
                clear hy105
                have H' := Aside0.mk H
                clear H
                have p24 : 0 ≤ (x33_3 : Int) := oD
                have q24 : (x33_3 : Int) < ((x8_3.length : Int) : Int) := oD
                obtain ⟨go24, co24, eo24, gb24, gl24, cl24, HG24⟩ := Kd.R_form HO_8.out (by omega)
                (first | cases eo24 | (injection eo24 with ea_ en_ ec_; (first | subst ea_ | (injection ea_ with ea_; subst ea_)); subst ec_; clear en_))
                have GB24 := Aside0.mk gb24
                have GG24 := Aside0.mk HG24
                clear gb24 gl24 HG24
                obtain ⟨hx24_0, hf24_0⟩ := Kd.R_celln 0 HO_8.out (x33_3 : Int) p24 q24
                replace p24 := eq_true p24
                replace q24 := eq_true q24
                have HP25 := Kd.R_putg HO_8.out (x33_3 : Int) (Go.bits .and .i64 (ji22) 1)
                go_wp2_with (first | ((with_reducible refine gate_store (t := 2) (p := 42) rfl ?_); refine store_event (t := 2) (p := 42) (v := ?vo_w26) (w1 := (wr.setCell ⟨go24, (x33_3 : Int).toNat, none⟩ (.int .i64 (Go.bits .and .i64 (ji22) 1)))) ?hg ?ho ?hn ?hr ?_; (case ho => rfl); (case hg => rfl); (case hn => rfl); (case hr => first | (go_simp; done) | (go_simp; rfl)); intro w26 hw; have hg : wr.grownBy w26 (some go24) := (by rw [hw]; exact HP25.2); have hp_ : Kd.R (Kd.int .i64) 2 w26 w.heap.size (fun _ => True) (.slice (some ⟨go24, 0, none⟩) x8_3.length co19) y105 := (by rw [hw, Ny105.out]; exact HP25.1); clear HP25; have n0_ := Aside0.mk (hp_); have n1_ := Aside0.mk (blk_grown (g := gb101) (o := .cells #[.int .i64 a0_0, .slice A0_1 l0_1.length c0_1] 28 (0, 0)) bk hg (Kd.R_ne HO_8.out BK101.out (by decide))); have n2_ := Aside0.mk ((by rw [hw]; exact below_set (HB.out) GB24.out : Below w.heap.size w w26)); clear HO_8; clear BK101; clear HB; have HO_8 := n0_; have BK101 := n1_; have HB := n2_; clear n0_ n1_ n2_; clear hg hw hp_))
                (try simp only [← hl8_3])
                first | go_roundg k3 | (simp only [← hji12]; go_roundg k3) | (simp only [← hji22]; go_roundg k3) | (simp only [← hji5]; go_roundg k3)
                case measure => have := HK1.out; have := HJ8.out; have := HK3.out; omega
                case rel => exact ⟨(y105), (wrap64 (x33_3 + 1)), rs, (by first | exact H' | (rw [hji12]; exact H') | (rw [hji22]; exact H') | (rw [hji5]; exact H')), ⟨by have := HK1.out; have := HJ8.out; have := HK3.out; omega⟩, ⟨by (try simp only [hl8_3]); (with_reducible repeat (first | apply Kd.R_alloc | apply Kd.R_drewN | apply Kd.R_drew)); exact HO_8.out⟩, ⟨by (try simp only [hl8_3]); (with_reducible repeat (first | refine blk_drewN ?_ _ | refine blk_drew ?_ | refine blk_alloc ?_ _)); exact BK101.out⟩, ⟨bl⟩⟩
          subst c13
          have H1 : (impl_Graph_legal.l0 kj8 l1 a2 ji5 (wrap64 (x16_1 + 1)) a0_0 l0_1) = some r := by rw [if_pos rfl] at H; exact H
          clear H
          have H := H1
          clear H1
          have H' := Aside0.mk H
          clear H
          go_wp2
          first | go_roundg kj8 | (simp only [← hji12]; go_roundg kj8) | (simp only [← hji22]; go_roundg kj8) | (simp only [← hji5]; go_roundg kj8)
          case measure => have := HK1.out; have := HJ8.out; omega
          case rel => exact ⟨(wrap64 (x16_1 + 1)), rs, (by first | exact H' | (rw [hji12]; exact H') | (rw [hji22]; exact H') | (rw [hji5]; exact H')), ⟨by have := HK1.out; have := HJ8.out; omega⟩, ⟨bk⟩, ⟨bl⟩⟩
/-! ### impl_Graph_isReduced: function 53 -/
def irBad (q : Int) : List Int → Nat → Bool
  | [], _ => false
  | x :: xs, k => if ((k : Int) != q && decide (x < 0)) = true then true else irBad q xs (k + 1)
theorem irBad_drop (q : Int) (l : List Int) (k : Nat) (h : k < l.length) : irBad q (l.drop k) k = if ((k : Int) != q && decide (rd l k < 0)) = true then true else irBad q (l.drop (k + 1)) (k + 1) := by
  rw [List.drop_eq_getElem_cons h, irBad, rd, Int.toNat_natCast, List.getD_eq_getElem?_getD, List.getElem?_eq_getElem h]; rfl
def impl_Graph_isReduced.f (k : Nat) (a0_0 : Int) (l0_1 : List (List Int)) (l1 : List Int) (a2 : Int) : Option Bool := if irBad a2 l1 0 = true then some false else (impl_Graph_legal.f k a0_0 l0_1 l1 a2).bind fun s => some s.isEmpty
theorem impl_Graph_isReduced.mono : ∀ a0 a1 a2 a3 k, LeO (impl_Graph_isReduced.f k a0 a1 a2 a3) (impl_Graph_isReduced.f (k + 1) a0 a1 a2 a3) := by
  intro a0 a1 a2 a3 k
  unfold impl_Graph_isReduced.f
  repeat' first
      | (with_reducible exact impl_Graph_legal.mono _ _ _ _ _)
      | (with_reducible exact LeO.refl _)
      | (with_reducible exact LeO.none _)
      | (with_reducible refine LeO.ite ?_ ?_)
      | (with_reducible refine LeO.bind ?_ (fun _ => ?_))
      | exact impl_Graph_legal.mono _ _ _ _ _
      | exact LeO.none _
      | refine LeO.ite ?_ ?_
      | refine LeO.bind ?_ (fun _ => ?_)
set_option maxHeartbeats 8000000 in
set_option maxRecDepth 100000 in
theorem impl_Graph_isReduced.calls (k : Nat) (a0_0 : Int) (A0_1 : Option Addr) (c0_1 : Nat) (l0_1 : List (List Int)) (A1 : Option Addr) (c1 : Nat) (l1 : List Int) (a2 : Int) (r : Bool) (w : World) (hr0_1 : Kd.C (Kd.slice 2 (Kd.int .i64)) w A0_1 l0_1.length l0_1) (hc0_1 : l0_1.length ≤ c0_1) (hr1 : Kd.C (Kd.int .i64) w A1 l1.length l1) (hc1 : l1.length ≤ c1) (h : impl_Graph_isReduced.f k a0_0 l0_1 l1 a2 = some r) :
    Calls Try.prog 53 #[.agg #[.int .i64 a0_0, .slice A0_1 l0_1.length c0_1], .slice A1 l1.length c1, .int .i64 a2] w fun e w' => e = .returned (.bool r) ∧ Below w.heap.size w w' := by
  have HR0 := Aside0.mk hr0_1
  have HR := Aside0.mk hr1
  have hlen : l1.length ≤ 9223372036854775807 := hr1.2.1
  have H : Aside0 ((if irBad a2 l1 0 = true then some false else (impl_Graph_legal.f k a0_0 l0_1 l1 a2).bind fun s => some s.isEmpty) = some r) := ⟨h⟩
  clear hr0_1 hr1 h
  go_enter Try.func53, Try.ntmps53
  go_wp2_with fail
  go_loopw [11] (fun i wr => ∃ k' : Nat, k' ≤ l1.length ∧ i = .int .i64 k' ∧ Aside0 (irBad a2 (l1.drop k') k' = irBad a2 l1 0) ∧ Aside0 (Below w.heap.size w wr) ∧ wr.cell? ⟨w.heap.size, 0, none⟩ = some (.int .i64 a0_0) ∧ wr.cell? ⟨w.heap.size, 1, none⟩ = some (.slice A0_1 l0_1.length c0_1)) (fun i _ => l1.length - (intOf i).toNat)
  case atStart => exact ⟨0, Nat.zero_le _, rfl, ⟨by simp⟩, ⟨(Below.refl _ _).alloc (Nat.le_refl _) _⟩, by go_simp, by go_simp⟩
  case round =>
    obtain ⟨k', hk, rfl, HI, HB, hq0, hq1⟩ := hrel
    by_cases hlt : k' < l1.length
    case neg =>
      have HD : Aside0 (irBad a2 l1 0 = false) := ⟨by rw [← HI.out, List.drop_of_length_le (by omega)]; rfl⟩
      have h := H.out
      rw [HD.out, if_neg (by decide)] at h
      obtain ⟨s, hs, h⟩ := Option.bind_eq_some_iff.mp h
      obtain rfl := Option.some.inj h
      have hb : decide (k' < l1.length) = false := by simp; omega
      have HL := fun W (hw : Below w.heap.size w W) => impl_Graph_legal.calls k a0_0 A0_1 c0_1 l0_1 A1 c1 l1 a2 s W (Kd.C_below HR0.out hw) hc0_1 (Kd.C_below HR.out hw) hc1 hs
      have HL' := Aside0.mk HL
      clear HL hs h H
      have hnil_ : ∀ (w : World) (a : Option Addr) (n c : Nat), (binOp .eql 34 (.slice a n c) (.slice none 0 0)).run Try.prog w = .ok (.bool a.isNone) w := fun w a n c => Lib.run_eql_slice_nil w _ _ a n c 0 0 Try.underlying34
      cases s with
      | nil =>
        go_wp2_with (go_at_call 104; refine (HL'.out _ (by repeat (first | exact HB.out | apply below_alloc | apply pw_below_drewN | apply below_drew1))).mono ?_; rintro e w2 ⟨v_, rfl, hn_, hr_, hb_⟩; obtain rfl := hn_ rfl; have HB2 := Aside0.mk (below_step (by repeat (first | exact HB.out | apply below_alloc | apply pw_below_drewN | apply below_drew1)) hb_ : Below w.heap.size w w2); clear hb_ hr_ hn_)
        go_ret
        exact ⟨by first | rfl | (simp; done), (by repeat (first | exact HB2.out | apply below_alloc | apply pw_below_drewN | apply below_drew1))⟩
      | cons z zs =>
        go_wp2_with (go_at_call 104; refine (HL'.out _ (by repeat (first | exact HB.out | apply below_alloc | apply pw_below_drewN | apply below_drew1))).mono ?_; rintro e w2 ⟨v_, rfl, hn_, hr_, hb_⟩; obtain ⟨A5, c5, e5⟩ := Kd.R_slice hr_; subst e5; obtain ⟨g5, c6, e6, _, _, _, _⟩ := Kd.R_form hr_ (by simp); injection e6 with e7 _ _; subst e7; have HB2 := Aside0.mk (below_step (by repeat (first | exact HB.out | apply below_alloc | apply pw_below_drewN | apply below_drew1)) hb_ : Below w.heap.size w w2); clear hb_ hr_ hn_)
        go_ret
        exact ⟨by first | rfl | (simp; done), (by repeat (first | exact HB2.out | apply below_alloc | apply pw_below_drewN | apply below_drew1))⟩
    obtain ⟨ad, e, hcell⟩ := Kd.at_int (Kd.C_below HR.out HB.out) k' (by omega) (by omega)
    cases e
    rw [Int.toNat_natCast] at hcell
    by_cases hq : (k' : Int) = a2
    case neg =>
      have hqb : ((k' : Int) != a2) = true := by simp [hq]
      clear hq
      by_cases hn : rd l1 k' < 0
      case neg =>
        have hnb : decide (rd l1 k' < 0) = false := decide_eq_false hn
        have HD : Aside0 (irBad a2 (l1.drop (k' + 1)) (k' + 1) = irBad a2 l1 0) := ⟨by rw [← HI.out, irBad_drop a2 l1 k' hlt, hqb, hnb]; rfl⟩
        clear hn
        go_wp2_with fail
        go_roundw
        case rel => exact ⟨k' + 1, by omega, by go_num, HD, HB, hq0, hq1⟩
        case measure => simp [intOf]; omega
      have hnb : decide (rd l1 k' < 0) = true := decide_eq_true hn
      have HD : Aside0 (irBad a2 l1 0 = true) := ⟨by rw [← HI.out, irBad_drop a2 l1 k' hlt, hqb, hnb]; rfl⟩
      have hr_ : r = false := by have h_ := H.out; rw [if_pos HD.out] at h_; exact (Option.some.inj h_).symm
      subst hr_
      clear hn
      go_wp2_with fail
      go_ret
      exact ⟨by first | rfl | (simp; done), HB.out⟩
    have hqb : ((k' : Int) != a2) = false := by simp [hq]
    have HD : Aside0 (irBad a2 (l1.drop (k' + 1)) (k' + 1) = irBad a2 l1 0) := ⟨by rw [← HI.out, irBad_drop a2 l1 k' hlt, hqb]; rfl⟩
    clear hq
    go_wp2_with fail
    go_roundw
    case rel => exact ⟨k' + 1, by omega, by go_num, HD, HB, hq0, hq1⟩
    case measure => simp [intOf]; omega
/-! ### impl_IsReducedAt: function 20 -/
def impl_IsReducedAt.f (k : Nat) (a0_0 : Int) (l0_1 : List (List Int)) (l1 : List Int) (a2 : Int) : Option (Bool × Int) := (impl_chipsCode.f k a0_0 l0_1 a2 (([l1] : List (List Int)))).bind fun t105 => (if t105 = 0 then ((impl_Graph_isReduced.f k a0_0 l0_1 l1 a2).bind fun t106 => (some (t106, 0))) else (some (false, t105)))
theorem impl_IsReducedAt.mono : ∀ a0 a1 a2 a3 k, LeO (impl_IsReducedAt.f k a0 a1 a2 a3) (impl_IsReducedAt.f (k + 1) a0 a1 a2 a3) := by
  intro a0 a1 a2 a3 k
  unfold impl_IsReducedAt.f
  repeat' first
      | (with_reducible exact impl_Graph_isReduced.mono _ _ _ _ _)
      | (with_reducible exact impl_chipsCode.mono _ _ _ _ _)
      | (with_reducible exact LeO.refl _)
      | (with_reducible exact LeO.none _)
      | (with_reducible refine LeO.ite ?_ ?_)
      | (with_reducible refine LeO.bind ?_ (fun _ => ?_))
      | exact impl_Graph_isReduced.mono _ _ _ _ _
      | exact impl_chipsCode.mono _ _ _ _ _
      | exact LeO.none _
      | refine LeO.ite ?_ ?_
      | refine LeO.bind ?_ (fun _ => ?_)
set_option maxHeartbeats 8000000 in
set_option maxRecDepth 100000 in
theorem impl_IsReducedAt.calls (k : Nat) (a0_0 : Int) (A0_1 : Option Addr) (c0_1 : Nat) (l0_1 : List (List Int)) (P1_ : Nat → Prop) (A1 : Option Addr) (c1 : Nat) (l1 : List Int) (a2 : Int) (r1 : Bool) (r2 : Int) (w : World) (hr0_1 : Kd.C (Kd.slice 2 (Kd.int .i64)) w A0_1 l0_1.length l0_1) (hc0_1 : l0_1.length ≤ c0_1) (hs1 : Kd.V (Kd.int .i64) 2 w w.heap.size (fun k_ => P1_ k_) (.slice A1 l1.length c1) l1) (h : impl_IsReducedAt.f k a0_0 l0_1 l1 a2 = some (r1, r2)) :
    Calls Try.prog 20 #[.agg #[.int .i64 a0_0, .slice A0_1 l0_1.length c0_1], .slice A1 l1.length c1, .int .i64 a2] w fun e w' => e = .returned (.tuple #[.bool r1, .int .i64 r2]) ∧ Below w.heap.size w w' := by
  have hu28 := Try.underlying28
  have HR0_1 := Aside0.mk hr0_1
  have HC0_1 := Aside0.mk hc0_1
  clear hr0_1 hc0_1
  have HO1 := Aside0.mk (show Kd.V (Kd.int .i64) 2 w w.heap.size (fun k_ => (P1_ k_ ∨ w.heap.size ≤ k_)) (.slice A1 l1.length c1) l1 from Kd.V_mono hs1 (fun k_ hk => .inl hk))
  have HB := Aside0.mk (Below.refl w.heap.size w)
  have H : ((impl_chipsCode.f k a0_0 l0_1 a2 (([l1] : List (List Int)))).bind fun t105 => (if t105 = 0 then ((impl_Graph_isReduced.f k a0_0 l0_1 l1 a2).bind fun t106 => (some (t106, 0))) else (some (false, t105)))) = some (r1, r2) := h
  clear h
  obtain ⟨y102, hy102⟩ : ∃ y_ : List (List Int), y_ = (([l1] : List (List Int))) := ⟨_, rfl⟩
  replace H : ((impl_chipsCode.f k a0_0 l0_1 a2 y102).bind fun t105 => (if t105 = 0 then ((impl_Graph_isReduced.f k a0_0 l0_1 l1 a2).bind fun t106 => (some (t106, 0))) else (some (false, t105)))) = some (r1, r2) := by first | (rw [hy102]; with_reducible exact H) | (have H2_ := (Option.bind_some _ _).symm.trans H; rw [hy102]; with_reducible exact H2_) | (have H2_ := (Option.bind_some _ _).symm.trans H; with_reducible exact H2_) | with_reducible exact H | (rw [hy102]; exact H) | exact H
  have Ny102 := Aside0.mk hy102
  clear hy102
  replace H := Option.bind_eq_some_iff.mp H
  obtain ⟨t105, A40, H⟩ := H
  replace H : (if t105 = 0 then ((impl_Graph_isReduced.f k a0_0 l0_1 l1 a2).bind fun t106 => (some (t106, 0))) else (some (false, t105))) = some (r1, r2) := H
  have A4 := Aside0.mk A40
  clear A40
  by_cases c5 : t105 = 0
  case neg =>
    rw [if_neg c5] at H
    have c5b0 : (t105 == 0) = false := beq_eq_false_iff_ne.mpr c5
    have c5b1 : (t105 != 0) = true := bne_iff_ne.mpr c5
    simp only [Option.some.injEq, Prod.mk.injEq] at H
    obtain ⟨rfl, rfl⟩ := H
    go_enter Try.func20, Try.ntmps20
    go_wp2_with (first | ((with_reducible refine gate_dst (N := 3) rfl ?_); refine box_event ?hg (N := 3) ?hd (cs := #[.int .i64 a0_0, .slice A0_1 l0_1.length c0_1]) (t := 28) ?hr ?_; (case hd => rfl); (case hg => rfl); (case hr => first | (go_simp; done) | (go_simp; rfl)); intro gb101 hg w15 hbox hb; have n0_ := Aside0.mk (Kd.V_below (Kd.V_elderB (by (with_reducible repeat (first | apply Kd.V_alloc | apply Kd.V_drewN | apply Kd.V_drew)); exact HO1.out) gb101 (Nat.le_of_eq hg.symm)) hb); have n1_ := Aside0.mk (below_step bl hb); have n2_ := Aside0.mk (hbox); have n3_ := Aside0.mk ((by rw [hg]; exact (below_size bl) : w.heap.size ≤ gb101)); have n4_ := Aside0.mk ((by rw [hg]; exact (below_size bl) : w.heap.size ≤ gb101)); clear HO1; clear HB; have HO1 := n0_; have HB := n1_; have BK101 := n2_; have GW101 := n3_; have GE101 := n4_; clear n0_ n1_ n2_ n3_ n4_; clear hb hbox hg; have hcz16_0 : w15.cell? ⟨gb101, 0, none⟩ = some (.int .i64 a0_0) := (blk_cell BK101.out 0).trans rfl; have hcz16_1 : w15.cell? ⟨gb101, 1, none⟩ = some (.slice A0_1 l0_1.length c0_1) := (blk_cell BK101.out 1).trans rfl; have hfz16_0 := blk_frozen BK101.out 0; have hfz16_1 := blk_frozen BK101.out 1) | ((with_reducible refine gate_dst (N := 12) rfl ?_); refine Kd.N_lit (Kd.slice 2 (Kd.int .i64)) _ 34 ?hg (N' := 12) ?hd (xs := ([l1] : List (List Int))) (inner := [.slice A1 l1.length c1]) (ok := (fun k_ => (P1_ k_ ∨ w.heap.size ≤ k_) ∧ k_ ≠ gb101)) (okp := (fun k_ => (P1_ k_ ∨ w.heap.size ≤ k_) ∧ k_ ≠ gb101)) ?hr ?hp (fun _ hk => hk) ((show ∀ k_, w15.heap.size ≤ k_ → (fun k_ => (P1_ k_ ∨ w.heap.size ≤ k_) ∧ k_ ≠ gb101) k_ from fun k_ hk => ⟨(.inr (Nat.le_trans (below_size bl) hk)), Kd.freshB (g := gb101) (o := .cells #[.int .i64 a0_0, .slice A0_1 l0_1.length c0_1] 28 (0, 0)) bk k_ hk⟩) _ (Nat.le_refl _)) (Below.refl _ _) (Nat.le_refl _) (by simp) ?_; (case hd => rfl); (case hg => rfl); (case hr => first | (go_simp; done) | (go_simp; rfl)); (case hp => exact (Reps.one (show Kd.FK (Kd.slice 2 (Kd.int .i64)) _ _ l1 [.slice A1 l1.length c1] from (Kd.FK_slice_mk (Kd.V_reads' (Kd.V_mono (ok' := (fun k_ => (P1_ k_ ∨ w.heap.size ≤ k_) ∧ k_ ≠ gb101)) (HO1.out) (fun k_ hk => ⟨hk.1, hk.2⟩))).2.1 (Kd.V_F (Kd.V_mono (ok' := (fun k_ => (P1_ k_ ∨ w.heap.size ≤ k_) ∧ k_ ≠ gb101)) (HO1.out) (fun k_ hk => ⟨hk.1, hk.2⟩))))) (Reps.none _ _))); intro v103 w17 ho18 hb hg_ hnew_; clear hg_ hnew_; (first | rw [← Ny102.out] at ho18 | (simp only [Int.reduceToNat] at ho18; rw [← Ny102.out] at ho18)); have n0_ := Aside0.mk (Kd.V_elder' (by (with_reducible repeat (first | apply Kd.V_alloc | apply Kd.V_drewN | apply Kd.V_drew)); exact HO1.out) (Kd.N_base ho18) hb); have n1_ := Aside0.mk (Kd.N_lower ho18 (below_size bl)); have n2_ := Aside0.mk (blk_below (g := gb101) (o := .cells #[.int .i64 a0_0, .slice A0_1 l0_1.length c0_1] 28 (0, 0)) bk hb); have n3_ := Aside0.mk (below_step bl hb); clear HO1; clear BK101; clear HB; have HO1 := n0_; have HO104 := n1_; have BK101 := n2_; have HB := n3_; clear n0_ n1_ n2_ n3_; clear hb ho18; obtain ⟨Ao19, co19, eo19⟩ := Kd.N_slice HO104.out; subst eo19) | ((with_reducible refine gate_callee (f := 52) rfl ?_); refine goesL_ (some 13) rfl rfl Try.func52 (by kernel_rfl) rfl #[.agg #[.int .i64 a0_0, .slice A0_1 l0_1.length c0_1], .int .i64 a2, .slice Ao19 y102.length co19] rfl gm ?_; (with_reducible refine (impl_chipsCode.calls k a0_0 _ _ l0_1 a2 _ _ y102 t105 _ ?side1 ?side2 ?side3 ?side4 A4.out).mono ?_); (case side1 => repeat (first | exact (Kd.C_below HR0_1.out HB.out) | (with_reducible refine Kd.C_alloc ?_ _) | (with_reducible refine Kd.C_drewN ?_ _) | (with_reducible refine Kd.C_drew ?_))); (case side2 => exact HC0_1.out); (case side3 => repeat (first | exact (Kd.N_reads' HO104.out).2.2 | (with_reducible refine Kd.C_alloc ?_ _) | (with_reducible refine Kd.C_drewN ?_ _) | (with_reducible refine Kd.C_drew ?_))); (case side4 => exact (Kd.N_reads' HO104.out).2.1); rintro e w20 ⟨rfl, hb⟩; refine ⟨_, rfl, ?_⟩; have n0_ := Aside0.mk (Kd.V_below (by (with_reducible repeat (first | apply Kd.V_alloc | apply Kd.V_drewN | apply Kd.V_drew)); exact HO1.out) hb); have n1_ := Aside0.mk (Kd.N_below (by (with_reducible repeat (first | apply Kd.N_alloc | apply Kd.N_drewN | apply Kd.N_drew)); exact HO104.out) hb); have n2_ := Aside0.mk (blk_below (g := gb101) (o := .cells #[.int .i64 a0_0, .slice A0_1 l0_1.length c0_1] 28 (0, 0)) bk hb); have n3_ := Aside0.mk (below_step bl hb); clear HO1; clear HO104; clear BK101; clear HB; have HO1 := n0_; have HO104 := n1_; have BK101 := n2_; have HB := n3_; clear n0_ n1_ n2_ n3_; (try clear hb); (try clear hb2); (try clear hk); (try clear hi)))
    go_ret2
    exact ⟨by first | rfl | (simp [errW_none, errW_some] <;> rfl) | (simp [*, errW_none, errW_some] <;> rfl), bl⟩
  rw [if_pos c5] at H
  have c5b0 : (t105 == 0) = true := beq_iff_eq.mpr c5
  have c5b1 : (t105 != 0) = false := bne_eq_false_iff_eq.mpr c5
  clear c5
  replace H := Option.bind_eq_some_iff.mp H
  obtain ⟨t106, A60, H⟩ := H
  replace H : (some (t106, 0)) = some (r1, r2) := H
  have A6 := Aside0.mk A60
  clear A60
  simp only [Option.some.injEq, Prod.mk.injEq] at H
  obtain ⟨rfl, rfl⟩ := H
  go_enter Try.func20, Try.ntmps20
  go_wp2_with (first | ((with_reducible refine gate_dst (N := 3) rfl ?_); refine box_event ?hg (N := 3) ?hd (cs := #[.int .i64 a0_0, .slice A0_1 l0_1.length c0_1]) (t := 28) ?hr ?_; (case hd => rfl); (case hg => rfl); (case hr => first | (go_simp; done) | (go_simp; rfl)); intro gb101 hg w7 hbox hb; have n0_ := Aside0.mk (Kd.V_below (Kd.V_elderB (by (with_reducible repeat (first | apply Kd.V_alloc | apply Kd.V_drewN | apply Kd.V_drew)); exact HO1.out) gb101 (Nat.le_of_eq hg.symm)) hb); have n1_ := Aside0.mk (below_step bl hb); have n2_ := Aside0.mk (hbox); have n3_ := Aside0.mk ((by rw [hg]; exact (below_size bl) : w.heap.size ≤ gb101)); have n4_ := Aside0.mk ((by rw [hg]; exact (below_size bl) : w.heap.size ≤ gb101)); clear HO1; clear HB; have HO1 := n0_; have HB := n1_; have BK101 := n2_; have GW101 := n3_; have GE101 := n4_; clear n0_ n1_ n2_ n3_ n4_; clear hb hbox hg; have hcz8_0 : w7.cell? ⟨gb101, 0, none⟩ = some (.int .i64 a0_0) := (blk_cell BK101.out 0).trans rfl; have hcz8_1 : w7.cell? ⟨gb101, 1, none⟩ = some (.slice A0_1 l0_1.length c0_1) := (blk_cell BK101.out 1).trans rfl; have hfz8_0 := blk_frozen BK101.out 0; have hfz8_1 := blk_frozen BK101.out 1) | ((with_reducible refine gate_dst (N := 12) rfl ?_); refine Kd.N_lit (Kd.slice 2 (Kd.int .i64)) _ 34 ?hg (N' := 12) ?hd (xs := ([l1] : List (List Int))) (inner := [.slice A1 l1.length c1]) (ok := (fun k_ => (P1_ k_ ∨ w.heap.size ≤ k_) ∧ k_ ≠ gb101)) (okp := (fun k_ => (P1_ k_ ∨ w.heap.size ≤ k_) ∧ k_ ≠ gb101)) ?hr ?hp (fun _ hk => hk) ((show ∀ k_, w7.heap.size ≤ k_ → (fun k_ => (P1_ k_ ∨ w.heap.size ≤ k_) ∧ k_ ≠ gb101) k_ from fun k_ hk => ⟨(.inr (Nat.le_trans (below_size bl) hk)), Kd.freshB (g := gb101) (o := .cells #[.int .i64 a0_0, .slice A0_1 l0_1.length c0_1] 28 (0, 0)) bk k_ hk⟩) _ (Nat.le_refl _)) (Below.refl _ _) (Nat.le_refl _) (by simp) ?_; (case hd => rfl); (case hg => rfl); (case hr => first | (go_simp; done) | (go_simp; rfl)); (case hp => exact (Reps.one (show Kd.FK (Kd.slice 2 (Kd.int .i64)) _ _ l1 [.slice A1 l1.length c1] from (Kd.FK_slice_mk (Kd.V_reads' (Kd.V_mono (ok' := (fun k_ => (P1_ k_ ∨ w.heap.size ≤ k_) ∧ k_ ≠ gb101)) (HO1.out) (fun k_ hk => ⟨hk.1, hk.2⟩))).2.1 (Kd.V_F (Kd.V_mono (ok' := (fun k_ => (P1_ k_ ∨ w.heap.size ≤ k_) ∧ k_ ≠ gb101)) (HO1.out) (fun k_ hk => ⟨hk.1, hk.2⟩))))) (Reps.none _ _))); intro v103 w9 ho10 hb hg_ hnew_; clear hg_ hnew_; (first | rw [← Ny102.out] at ho10 | (simp only [Int.reduceToNat] at ho10; rw [← Ny102.out] at ho10)); have n0_ := Aside0.mk (Kd.V_elder' (by (with_reducible repeat (first | apply Kd.V_alloc | apply Kd.V_drewN | apply Kd.V_drew)); exact HO1.out) (Kd.N_base ho10) hb); have n1_ := Aside0.mk (Kd.N_lower ho10 (below_size bl)); have n2_ := Aside0.mk (blk_below (g := gb101) (o := .cells #[.int .i64 a0_0, .slice A0_1 l0_1.length c0_1] 28 (0, 0)) bk hb); have n3_ := Aside0.mk (below_step bl hb); clear HO1; clear BK101; clear HB; have HO1 := n0_; have HO104 := n1_; have BK101 := n2_; have HB := n3_; clear n0_ n1_ n2_ n3_; clear hb ho10; obtain ⟨Ao11, co11, eo11⟩ := Kd.N_slice HO104.out; subst eo11) | ((with_reducible refine gate_callee (f := 52) rfl ?_); refine goesL_ (some 13) rfl rfl Try.func52 (by kernel_rfl) rfl #[.agg #[.int .i64 a0_0, .slice A0_1 l0_1.length c0_1], .int .i64 a2, .slice Ao11 y102.length co11] rfl gm ?_; (with_reducible refine (impl_chipsCode.calls k a0_0 _ _ l0_1 a2 _ _ y102 t105 _ ?side1 ?side2 ?side3 ?side4 A4.out).mono ?_); (case side1 => repeat (first | exact (Kd.C_below HR0_1.out HB.out) | (with_reducible refine Kd.C_alloc ?_ _) | (with_reducible refine Kd.C_drewN ?_ _) | (with_reducible refine Kd.C_drew ?_))); (case side2 => exact HC0_1.out); (case side3 => repeat (first | exact (Kd.N_reads' HO104.out).2.2 | (with_reducible refine Kd.C_alloc ?_ _) | (with_reducible refine Kd.C_drewN ?_ _) | (with_reducible refine Kd.C_drew ?_))); (case side4 => exact (Kd.N_reads' HO104.out).2.1); rintro e w12 ⟨rfl, hb⟩; refine ⟨_, rfl, ?_⟩; have n0_ := Aside0.mk (Kd.V_below (by (with_reducible repeat (first | apply Kd.V_alloc | apply Kd.V_drewN | apply Kd.V_drew)); exact HO1.out) hb); have n1_ := Aside0.mk (Kd.N_below (by (with_reducible repeat (first | apply Kd.N_alloc | apply Kd.N_drewN | apply Kd.N_drew)); exact HO104.out) hb); have n2_ := Aside0.mk (blk_below (g := gb101) (o := .cells #[.int .i64 a0_0, .slice A0_1 l0_1.length c0_1] 28 (0, 0)) bk hb); have n3_ := Aside0.mk (below_step bl hb); clear HO1; clear HO104; clear BK101; clear HB; have HO1 := n0_; have HO104 := n1_; have BK101 := n2_; have HB := n3_; clear n0_ n1_ n2_ n3_; (try clear hb); (try clear hb2); (try clear hk); (try clear hi); have hcz13_0 : w12.cell? ⟨gb101, 0, none⟩ = some (.int .i64 a0_0) := (blk_cell BK101.out 0).trans rfl; have hcz13_1 : w12.cell? ⟨gb101, 1, none⟩ = some (.slice A0_1 l0_1.length c0_1) := (blk_cell BK101.out 1).trans rfl; have hfz13_0 := blk_frozen BK101.out 0; have hfz13_1 := blk_frozen BK101.out 1) | ((with_reducible refine gate_callee (f := 53) rfl ?_); refine goesL_ (some 20) rfl rfl Try.func53 (by kernel_rfl) rfl #[.agg #[.int .i64 a0_0, .slice A0_1 l0_1.length c0_1], .slice A1 l1.length c1, .int .i64 a2] rfl gm ?_; (with_reducible refine (impl_Graph_isReduced.calls k a0_0 _ _ l0_1 _ _ l1 a2 t106 _ ?side1 ?side2 ?side3 ?side4 A6.out).mono ?_); (case side1 => repeat (first | exact (Kd.C_below HR0_1.out HB.out) | (with_reducible refine Kd.C_alloc ?_ _) | (with_reducible refine Kd.C_drewN ?_ _) | (with_reducible refine Kd.C_drew ?_))); (case side2 => exact HC0_1.out); (case side3 => repeat (first | exact (Kd.V_reads' HO1.out).2.2 | (with_reducible refine Kd.C_alloc ?_ _) | (with_reducible refine Kd.C_drewN ?_ _) | (with_reducible refine Kd.C_drew ?_))); (case side4 => exact (Kd.V_reads' HO1.out).2.1); rintro e w14 ⟨rfl, hb⟩; refine ⟨_, rfl, ?_⟩; have n0_ := Aside0.mk (Kd.V_below (by (with_reducible repeat (first | apply Kd.V_alloc | apply Kd.V_drewN | apply Kd.V_drew)); exact HO1.out) hb); have n1_ := Aside0.mk (Kd.N_below (by (with_reducible repeat (first | apply Kd.N_alloc | apply Kd.N_drewN | apply Kd.N_drew)); exact HO104.out) hb); have n2_ := Aside0.mk (blk_below (g := gb101) (o := .cells #[.int .i64 a0_0, .slice A0_1 l0_1.length c0_1] 28 (0, 0)) bk hb); have n3_ := Aside0.mk (below_step bl hb); clear HO1; clear HO104; clear BK101; clear HB; have HO1 := n0_; have HO104 := n1_; have BK101 := n2_; have HB := n3_; clear n0_ n1_ n2_ n3_; (try clear hb); (try clear hb2); (try clear hk); (try clear hi)))
  go_ret2
  exact ⟨by first | rfl | (simp [errW_none, errW_some] <;> rfl) | (simp [*, errW_none, errW_some] <;> rfl), bl⟩
end Go.Proofs.Ytbfmnhgpmpnglaa.C
