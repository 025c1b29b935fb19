/- The functions that one law reaches, each as a Lean function, and that Go's call comes to what it says. Condition of each: that the Lean function answers (is not none). -/
import Derived.Test.YtbfmnhgpmpnglaaCx0
import Derived.Test.YtbfmnhgpmpnglaaCx9
namespace Go.Proofs.Ytbfmnhgpmpnglaa.C
open Go.RowKit Go.Proofs.YtbfmnhgpmpnglaaW.PrintWords Go.Proofs.YtbfmnhgpmpnglaaW.PrintLast Go.Proofs.YtbfmnhgpmpnglaaW.PrintMore
attribute [local go_sem] max2_int min2_int max_two min_two max_three min_three max_four min_four   -- for this text's walks alone
set_option linter.unusedVariables false
set_option linter.unusedSimpArgs false

/-! ### impl_Graph_laplacian: function 112 -/
mutual
def impl_Graph_laplacian.l0 : Nat → List (List Int) → List (List Int) → Int → Int → Option ((List (List Int)))
  | 0, _, _, _, _ => none
  | k + 1, x3, x11, x12, x13 => if x13 < x12 then (if 0 ≤ x13 then (if x13 < (x11.length : Int) then (if 0 < ((rd_L1 x11 x13).length : Int) then (if 1 < ((rd_L1 x11 x13).length : Int) then (if (rd (rd_L1 x11 x13) 0) = (rd (rd_L1 x11 x13) 1) then (impl_Graph_laplacian.l0 k x3 x11 x12 (wrap64 (x13 + 1))) else (impl_Graph_laplacian.l1 k x3 (rd_L1 x11 x13) x11 x12 x13 ((rd_L1 x11 x13).length : Int) 0)) else (none)) else (none)) else (none)) else (none)) else (some x3)
def impl_Graph_laplacian.l1 : Nat → List (List Int) → List Int → List (List Int) → Int → Int → Int → Int → Option ((List (List Int)))
  | 0, _, _, _, _, _, _, _ => none
  | k + 1, x3, x5, x11, x12, x13, x25, x26 => if x26 < x25 then (if 0 ≤ x26 then (if x26 < (x5.length : Int) then (if 0 ≤ (rd x5 x26) then (if (rd x5 x26) < (x3.length : Int) then (if (rd x5 x26) < ((rd_L1 x3 (rd x5 x26)).length : Int) then ((some (x3.set ((rd x5 x26) : Int).toNat ((rd_L1 x3 (rd x5 x26)).set ((rd x5 x26) : Int).toNat (wrap64 ((rd (rd_L1 x3 (rd x5 x26)) (rd x5 x26)) + 1))) : List (List Int))).bind fun y114 => (if 0 ≤ (wrap64 (1 - x26)) then (if (wrap64 (1 - x26)) < (x5.length : Int) then (if 0 ≤ (rd x5 (wrap64 (1 - x26))) then (if (rd x5 (wrap64 (1 - x26))) < ((rd_L1 y114 (rd x5 x26)).length : Int) then (impl_Graph_laplacian.l1 k (y114.set ((rd x5 x26) : Int).toNat ((rd_L1 y114 (rd x5 x26)).set ((rd x5 (wrap64 (1 - x26))) : Int).toNat (wrap64 ((rd (rd_L1 y114 (rd x5 x26)) (rd x5 (wrap64 (1 - x26)))) - 1)))) x5 x11 x12 x13 x25 (wrap64 (x26 + 1))) else (none)) else (none)) else (none)) else (none))) else (none)) else (none)) else (none)) else (none)) else (none)) else (impl_Graph_laplacian.l0 k x3 x11 x12 (wrap64 (x13 + 1)))
end
def impl_Graph_laplacian.f (k : Nat) (a0_0 : Int) (l0_1 : List (List Int)) : Option ((List (List Int))) := (impl_square.f k a0_0).bind fun t102 => (impl_Graph_laplacian.l0 k t102 l0_1 (l0_1.length : Int) 0)
theorem impl_Graph_laplacian.mono_l : ∀ k, (∀ y0 y1 y2 y3, LeO (impl_Graph_laplacian.l0 k y0 y1 y2 y3) (impl_Graph_laplacian.l0 (k + 1) y0 y1 y2 y3)) ∧ (∀ y0 y1 y2 y3 y4 y5 y6, LeO (impl_Graph_laplacian.l1 k y0 y1 y2 y3 y4 y5 y6) (impl_Graph_laplacian.l1 (k + 1) y0 y1 y2 y3 y4 y5 y6))
  | 0 => ⟨fun _ _ _ _ r h => by simp [impl_Graph_laplacian.l0] at h, fun _ _ _ _ _ _ _ r h => by simp [impl_Graph_laplacian.l1] at h⟩
  | k + 1 => by
    obtain ⟨ih0, ih1⟩ := impl_Graph_laplacian.mono_l k
    refine ⟨?_, ?_⟩
    · intro y0 y1 y2 y3
      unfold impl_Graph_laplacian.l0
      repeat' first
      | (with_reducible exact ih0 _ _ _ _)
      | (with_reducible exact ih1 _ _ _ _ _ _ _)
      | (with_reducible exact impl_square.mono _ _)
      | (with_reducible exact LeO.refl _)
      | (with_reducible exact LeO.none _)
      | (with_reducible refine LeO.ite ?_ ?_)
      | (with_reducible refine LeO.bind ?_ (fun _ => ?_))
      | exact ih0 _ _ _ _
      | exact ih1 _ _ _ _ _ _ _
      | exact impl_square.mono _ _
      | exact LeO.none _
      | refine LeO.ite ?_ ?_
      | refine LeO.bind ?_ (fun _ => ?_)
    · intro y0 y1 y2 y3 y4 y5 y6
      unfold impl_Graph_laplacian.l1
      repeat' first
      | (with_reducible exact ih0 _ _ _ _)
      | (with_reducible exact ih1 _ _ _ _ _ _ _)
      | (with_reducible exact impl_square.mono _ _)
      | (with_reducible exact LeO.refl _)
      | (with_reducible exact LeO.none _)
      | (with_reducible refine LeO.ite ?_ ?_)
      | (with_reducible refine LeO.bind ?_ (fun _ => ?_))
      | exact ih0 _ _ _ _
      | exact ih1 _ _ _ _ _ _ _
      | exact impl_square.mono _ _
      | exact LeO.none _
      | refine LeO.ite ?_ ?_
      | refine LeO.bind ?_ (fun _ => ?_)
theorem impl_Graph_laplacian.mono : ∀ a0 a1 k, LeO (impl_Graph_laplacian.f k a0 a1) (impl_Graph_laplacian.f (k + 1) a0 a1) := by
  intro a0 a1 k
  obtain ⟨ih0, ih1⟩ := impl_Graph_laplacian.mono_l k
  unfold impl_Graph_laplacian.f
  repeat' first
      | (with_reducible exact ih0 _ _ _ _)
      | (with_reducible exact ih1 _ _ _ _ _ _ _)
      | (with_reducible exact impl_square.mono _ _)
      | (with_reducible exact LeO.refl _)
      | (with_reducible exact LeO.none _)
      | (with_reducible refine LeO.ite ?_ ?_)
      | (with_reducible refine LeO.bind ?_ (fun _ => ?_))
      | exact ih0 _ _ _ _
      | exact ih1 _ _ _ _ _ _ _
      | exact impl_square.mono _ _
      | exact LeO.none _
      | refine LeO.ite ?_ ?_
      | refine LeO.bind ?_ (fun _ => ?_)
def impl_Graph_laplacian.T9 : Bool × List (List Nat × List Nat) := (true, [([], []), ([], []), ([], []), ([1, 2], [1, 2]), ([3], [3]), ([0, 4], [0, 4]), ([5], [5]), ([], []), ([], []), ([7, 8], [7, 8]), ([9], [9]), ([6, 10], [6, 10]), ([11], [11]), ([12], [12]), ([6, 10, 0, 1, 2, 3, 4, 5, 6, 7, 8, 9, 10, 11, 12, 13], [6, 10]), ([14, 13, 0, 1, 2, 3, 4, 5, 6, 7, 8, 9, 10, 11, 12, 13], [13, 14])])
def impl_Graph_laplacian.B9 : List Nat := [0, 0, 0, 6, 14, 31, 63, 0, 0, 384, 896, 2047, 4095, 8191, 16383, 32767]
theorem impl_Graph_laplacian.tab9 : rtab .any (opsOf Try.f112 9) = impl_Graph_laplacian.T9 := by kernel_rfl
theorem impl_Graph_laplacian.bits9 : waitsOk impl_Graph_laplacian.T9.2 impl_Graph_laplacian.B9 = true := by kernel_rfl
def impl_Graph_laplacian.T10 : Bool × List (List Nat × List Nat) := (true, [([], []), ([], []), ([], []), ([1, 2], [1, 2]), ([3], [3]), ([0, 4], [0, 4]), ([5], [5]), ([], []), ([], []), ([8], [8]), ([7, 9], [7, 9]), ([10], [10]), ([6, 11], [6, 11]), ([12], [12]), ([13], [13]), ([6, 11, 0, 1, 2, 3, 4, 5, 6, 7, 8, 9, 10, 11, 12, 13, 14], [6, 11]), ([15, 14, 0, 1, 2, 3, 4, 5, 6, 7, 8, 9, 10, 11, 12, 13, 14], [14, 15])])
def impl_Graph_laplacian.B10 : List Nat := [0, 0, 0, 6, 14, 31, 63, 0, 0, 256, 896, 1920, 4095, 8191, 16383, 32767, 65535]
theorem impl_Graph_laplacian.tab10 : rtab .any (opsOf Try.f112 10) = impl_Graph_laplacian.T10 := by kernel_rfl
theorem impl_Graph_laplacian.bits10 : waitsOk impl_Graph_laplacian.T10.2 impl_Graph_laplacian.B10 = true := by kernel_rfl
set_option maxHeartbeats 8000000 in
set_option maxRecDepth 100000 in
theorem impl_Graph_laplacian.calls (k : Nat) (a0_0 : Int) (A0_1 : Option Addr) (c0_1 : Nat) (l0_1 : List (List Int)) (r : List (List Int)) (w : World) (hr0_1 : Kd.C (Kd.slice 2 (Kd.int .i64)) w A0_1 l0_1.length l0_1) (hc0_1 : l0_1.length ≤ c0_1) (h : impl_Graph_laplacian.f k a0_0 l0_1 = some r) :
    Calls Try.prog 112 #[.agg #[.int .i64 a0_0, .slice A0_1 l0_1.length c0_1]] w fun e w' => ∃ v0_ : Value, e = .returned (v0_) ∧ Kd.S (Kd.slice 2 (Kd.int .i64)) 34 w' w.heap.size (fun _ => True) v0_ r ∧ Below w.heap.size w w' := by
  have hu28 := Try.underlying28
  have HR0_1 := Aside0.mk hr0_1
  have HC0_1 := Aside0.mk hc0_1
  clear hr0_1 hc0_1
  have HB := Aside0.mk (Below.refl w.heap.size w)
  have H : ((impl_square.f k a0_0).bind fun t102 => (impl_Graph_laplacian.l0 k t102 l0_1 (l0_1.length : Int) 0)) = some r := h
  clear h
  replace H := Option.bind_eq_some_iff.mp H
  obtain ⟨t102, A20, H⟩ := H
  replace H : (impl_Graph_laplacian.l0 k t102 l0_1 (l0_1.length : Int) 0) = some r := H
  have A2 := Aside0.mk A20
  clear A20
  have H' := Aside0.mk H
  clear H
  go_enter Try.func112, Try.ntmps112
  go_wp2_with (first | ((with_reducible refine gate_dst (N := 1) rfl ?_); refine box_event ?hg (N := 1) ?hd (cs := #[.int .i64 a0_0, .slice A0_1 l0_1.length c0_1]) (t := 28) ?hr ?_; (case hd => rfl); (case hg => rfl); (case hr => first | (go_simp; done) | (go_simp; rfl)); intro gb101 hg w3 hbox hb; have n0_ := Aside0.mk (below_step bl hb); have n1_ := Aside0.mk (hbox); have n2_ := Aside0.mk ((by rw [hg]; exact (below_size bl) : w.heap.size ≤ gb101)); have n3_ := Aside0.mk ((by rw [hg]; exact (below_size bl) : w.heap.size ≤ gb101)); clear HB; have HB := n0_; have BK101 := n1_; have GW101 := n2_; have GE101 := n3_; clear n0_ n1_ n2_ n3_; clear hb hbox hg; have hcz4_0 : w3.cell? ⟨gb101, 0, none⟩ = some (.int .i64 a0_0) := (blk_cell BK101.out 0).trans rfl; have hcz4_1 : w3.cell? ⟨gb101, 1, none⟩ = some (.slice A0_1 l0_1.length c0_1) := (blk_cell BK101.out 1).trans rfl; have hfz4_0 := blk_frozen BK101.out 0; have hfz4_1 := blk_frozen BK101.out 1) | ((with_reducible refine gate_callee (f := 140) rfl ?_); refine goesL_ (some 9) rfl rfl Try.func140 (by kernel_rfl) rfl #[.int .i64 a0_0] rfl gm ?_; (with_reducible refine (impl_square.calls k a0_0 t102 _ A2.out).mono ?_); rintro e w5 ⟨v103, rfl, ho0, hb⟩; refine ⟨_, rfl, ?_⟩; have n0_ := Aside0.mk (Kd.S_lower ho0 (below_size bl)); have n1_ := Aside0.mk (blk_below (g := gb101) (o := .cells #[.int .i64 a0_0, .slice A0_1 l0_1.length c0_1] 28 (0, 0)) bk hb); have n2_ := Aside0.mk (below_step bl hb); clear BK101; clear HB; have HO104 := n0_; have BK101 := n1_; have HB := n2_; clear n0_ n1_ n2_; (try clear hb); (try clear hb2); (try clear hk); (try clear hi); (try clear ho0); have hcz6_0 : w5.cell? ⟨gb101, 0, none⟩ = some (.int .i64 a0_0) := (blk_cell BK101.out 0).trans rfl; have hcz6_1 : w5.cell? ⟨gb101, 1, none⟩ = some (.slice A0_1 l0_1.length c0_1) := (blk_cell BK101.out 1).trans rfl; have hfz6_0 := blk_frozen BK101.out 0; have hfz6_1 := blk_frozen BK101.out 1))
  go_loopg [13] k (fun kq v13 w' => ∃ (x3_1 : List (List Int)) (x13_1 : Int), v13 = .int .i64 x13_1 ∧ Aside0 (impl_Graph_laplacian.l0 kq x3_1 l0_1 (l0_1.length : Int) x13_1 = some r) ∧ Aside0 (kq ≤ k) ∧ Aside0 (Kd.S (Kd.slice 2 (Kd.int .i64)) 34 w' w.heap.size (fun _ => True) v103 x3_1) ∧ Aside0 (w'.heap[gb101]? = some (.cells #[.int .i64 a0_0, (.slice A0_1 l0_1.length c0_1)] 28 (0, 0))) ∧ Aside0 (Below w.heap.size w w'))
  case atStart => exact ⟨(t102), (0), rs, H', ⟨Nat.le_refl _⟩, ⟨by (with_reducible repeat (first | apply Kd.S_alloc | apply Kd.S_drewN | apply Kd.S_drew)); exact HO104.out⟩, ⟨bk⟩, ⟨bl⟩⟩
  case round =>
    clear H'
    (try clear c1); (try clear p2); (try clear hcz4_0); (try clear hcz4_1); (try clear hcz6_0); (try clear hcz6_1); (try clear hfz4_0); (try clear hfz4_1); (try clear hfz6_0); (try clear hfz6_1)
    obtain ⟨x3_1, x13_1, rfl, HA, HK1, HO_3, BK101, HB⟩ := hrel
    cases gk with
    | zero => exact absurd HA.out (by simp [impl_Graph_laplacian.l0])
    | succ k1 =>
      have H := HA.out
      clear HA
      simp only [impl_Graph_laplacian.l0] at H
      by_cases c7 : x13_1 < (l0_1.length : Int)
      case neg =>
        rw [if_neg c7] at H
        have c7b0 : decide (x13_1 < (l0_1.length : Int)) = false := decide_eq_false c7
        clear c7
        obtain rfl := Option.some.inj H
        go_wp2
        go_ret
        exact ⟨_, by first | rfl | (simp [errW_none, errW_some] <;> rfl) | (simp [*, errW_none, errW_some] <;> rfl), by (with_reducible repeat (first | apply Kd.S_alloc | apply Kd.S_drewN | apply Kd.S_drew)); exact HO_3.out, bl⟩
      rw [if_pos c7] at H
      have c7b0 : decide (x13_1 < (l0_1.length : Int)) = true := decide_eq_true c7
      clear c7
      by_cases c8 : 0 ≤ x13_1
      case neg => rw [if_neg c8] at H; exact absurd H (by simp)
      rw [if_pos c8] at H
      have c8b0 : decide (0 ≤ x13_1) = true := decide_eq_true c8
      clear c8
      by_cases c9 : x13_1 < (l0_1.length : Int)
      case neg => rw [if_neg c9] at H; exact absurd H (by simp)
      rw [if_pos c9] at H
      have c9b0 : decide (x13_1 < (l0_1.length : Int)) = true := decide_eq_true c9
      clear c9
      by_cases c10 : 0 < ((rd_L1 l0_1 x13_1).length : Int)
      case neg => rw [if_neg c10] at H; exact absurd H (by simp)
      rw [if_pos c10] at H
      have c10b0 : decide (0 < ((rd_L1 l0_1 x13_1).length : Int)) = true := decide_eq_true c10
      have c10b1 : decide (0 < (rd_L1 l0_1 x13_1).length) = true := decide_eq_true (by omega)
      clear c10
      by_cases c11 : 1 < ((rd_L1 l0_1 x13_1).length : Int)
      case neg => rw [if_neg c11] at H; exact absurd H (by simp)
      rw [if_pos c11] at H
      have c11b0 : decide (1 < ((rd_L1 l0_1 x13_1).length : Int)) = true := decide_eq_true c11
      have c11b1 : decide (1 < (rd_L1 l0_1 x13_1).length) = true := decide_eq_true (by omega)
      clear c11
      by_cases c12 : (rd (rd_L1 l0_1 x13_1) 0) = (rd (rd_L1 l0_1 x13_1) 1)
      case neg =>
        rw [if_neg c12] at H
        have c12b0 : ((rd (rd_L1 l0_1 x13_1) 0) == (rd (rd_L1 l0_1 x13_1) 1)) = false := beq_eq_false_iff_ne.mpr c12
        have c12b1 : ((rd (rd_L1 l0_1 x13_1) 0) != (rd (rd_L1 l0_1 x13_1) 1)) = true := bne_iff_ne.mpr c12
        have H' := Aside0.mk H
        clear H
        have p105 : 0 ≤ (x13_1 : Int) := oD
        have q105 : x13_1 < (l0_1.length : Int) := oD
        obtain ⟨ad105, A105_0, c105_0, e105, hx105_0, hl105_0, hi105_0⟩ := at_L1 HR0_1.out x13_1 p105 q105
        cases e105
        replace hx105_0 := hbc HB hx105_0
        have HR105_0 := Aside0.mk hi105_0
        have HC105_0 := Aside0.mk hl105_0
        clear hi105_0 hl105_0
        replace p105 := eq_true p105
        replace q105 := eq_true q105
        try go_wp2
        have n0_ := Aside0.mk (Kd.S_drew HO_3.out)
        have n1_ := Aside0.mk (blk_drew BK101.out)
        have n2_ := Aside0.mk (below_drew1 HB.out)
        clear HO_3
        clear BK101
        clear HB
        have HO_3 := n0_
        have BK101 := n1_
        have HB := n2_
        clear n0_ n1_ n2_
        have p106 : 0 ≤ (0 : Int) := (by omega)
        have q106 : 0 < ((rd_L1 l0_1 x13_1).length : Int) := oD
        obtain ⟨ad106, e106, hx106_0⟩ := Kd.at_int HR105_0.out 0 p106 q106
        have hw106_0 := hx106_0
        (try rw [show ((0 : Int)).toNat = 0 from rfl] at hw106_0)
        (try rw [show 0 * 1 = 0 from rfl] at hw106_0)
        (try rw [Addr.add_zero'] at hw106_0)
        cases e106
        have qi106 : (0 < (rd_L1 l0_1 x13_1).length) = True := eq_true (by omega)
        (try rw [show ((0 : Int)).toNat = 0 from rfl] at hx106_0)
        (try rw [Addr.add_zero'] at hx106_0)
        replace hx106_0 := hbc HB hx106_0
        replace p106 := eq_true p106
        replace q106 := eq_true q106
        have p107 : 0 ≤ (1 : Int) := (by omega)
        have q107 : 1 < ((rd_L1 l0_1 x13_1).length : Int) := oD
        obtain ⟨ad107, e107, hx107_0⟩ := Kd.at_int HR105_0.out 1 p107 q107
        have hw107_0 := hx107_0
        (try rw [show ((1 : Int)).toNat = 1 from rfl] at hw107_0)
        (try rw [show 1 * 1 = 1 from rfl] at hw107_0)
        (try simp only [Nat.reduceMul, Nat.reduceEqDiff, Go.Addr.add, ↓reduceIte] at hw107_0)
        obtain rfl : ad106 = ad107 := (by injection e107)
        (try simp only [show (1 : Int).toNat = 1 from rfl, Nat.reduceMul, Nat.reduceEqDiff, Go.Addr.add, ↓reduceIte] at hx107_0)
        have qi107 : (1 < (rd_L1 l0_1 x13_1).length) = True := eq_true (by omega)
        (try rw [show ((1 : Int)).toNat = 1 from rfl] at hx107_0)
        replace hx107_0 := hbc HB hx107_0
        replace p107 := eq_true p107
        replace q107 := eq_true q107
        refine start_ (n := 7) (S := fun w' => w'.cell? ad106 = some (.int .i64 (rd (rd_L1 l0_1 x13_1) 0)) ∧ w'.cell? ⟨ad106.block, ad106.off + 1, none⟩ = some (.int .i64 (rd (rd_L1 l0_1 x13_1) 1))) (ds := []) #[false, false, false, false, false, false, false] (by kernel_rfl) rfl rfl ⟨(hbc HB hw106_0), (hbc HB hw107_0)⟩ (fun hHeld => ?_)
        generalize wr.drew = w14 at HO_3 BK101 HB hx106_0 hx107_0 hHeld ⊢
        refine pure_ (i := 0) (N := some 17) (v := ?_) (a' := ?_) #[true, false, false, false, false, false, false] rfl rfl (by kernel_rfl) (fun _ _ _ h => h) (Or.inl ⟨by rfl, ?_⟩) ?_ ?_
        rotate_left; · intro w'; go_simp; with_reducible rfl
        rotate_left; · simp only [Act.put, zI, zZ, zS, i64_w, i32_w]; rfl
        refine pure_ (i := 1) (N := some 18) (v := ?_) (a' := ?_) #[true, true, false, false, false, false, false] rfl rfl (by kernel_rfl) (fun _ _ _ h => h) (Or.inl ⟨by rfl, ?_⟩) ?_ ?_
        rotate_left; · intro w'; go_simp; with_reducible rfl
        rotate_left; · simp only [Act.put, zI, zZ, zS, i64_w, i32_w]; rfl
        refine pure_ (i := 3) (N := some 20) (v := ?_) (a' := ?_) #[true, true, false, true, false, false, false] rfl rfl (by kernel_rfl) (fun _ _ _ h => h) (Or.inl ⟨by rfl, ?_⟩) ?_ ?_
        rotate_left; · intro w'; go_simp; with_reducible rfl
        rotate_left; · simp only [Act.put, zI, zZ, zS, i64_w, i32_w]; rfl
        refine pure_ (i := 4) (N := some 21) (v := ?_) (a' := ?_) #[true, true, false, true, true, false, false] rfl rfl (by kernel_rfl) (fun _ _ _ h => h) (Or.inl ⟨by rfl, ?_⟩) ?_ ?_
        rotate_left; · intro w'; go_simp; with_reducible rfl
        rotate_left; · simp only [Act.put, zI, zZ, zS, i64_w, i32_w]; rfl
        refine take_ (i := 2) (N := some 19) (v := ?_) (a' := ?_) #[true, true, true, true, true, false, false] rfl rfl (by kernel_rfl) (fun _ _ _ h => h) (Or.inl ⟨by rfl, ?_⟩) hHeld ?_ ?_
        rotate_left; · rintro w' ⟨s0, s1⟩; go_simp; with_reducible rfl
        rotate_left; · simp only [Act.put, zI, zZ, zS, i64_w, i32_w]; rfl
        refine take_ (i := 5) (N := some 22) (v := ?_) (a' := ?_) #[true, true, true, true, true, true, false] rfl rfl (by kernel_rfl) (fun _ _ _ h => h) (Or.inl ⟨by rfl, ?_⟩) hHeld ?_ ?_
        rotate_left; · rintro w' ⟨s0, s1⟩; go_simp; with_reducible rfl
        rotate_left; · simp only [Act.put, zI, zZ, zS, i64_w, i32_w]; rfl
        refine pure_ (i := 6) (N := some 23) (v := ?_) (a' := ?_) #[true, true, true, true, true, true, true] rfl rfl (by kernel_rfl) (fun _ _ _ h => h) (Or.inl ⟨by rfl, ?_⟩) ?_ ?_
        rotate_left; · intro w'; go_simp; with_reducible rfl
        rotate_left; · simp only [Act.put, zI, zZ, zS, i64_w, i32_w]; rfl
        refine done_ (by kernel_rfl) ?_
        try go_wp2
        go_loopg [26] k1 (fun kq v26 w' => ∃ (x3_2 : List (List Int)) (x26_2 : Int), v26 = .int .i64 x26_2 ∧ Aside0 (impl_Graph_laplacian.l1 kq x3_2 (rd_L1 l0_1 x13_1) l0_1 (l0_1.length : Int) x13_1 ((rd_L1 l0_1 x13_1).length : Int) x26_2 = some r) ∧ Aside0 (kq ≤ k1) ∧ Aside0 (Kd.S (Kd.slice 2 (Kd.int .i64)) 34 w' w.heap.size (fun _ => True) v103 x3_2) ∧ Aside0 (w'.heap[gb101]? = some (.cells #[.int .i64 a0_0, (.slice (some ad105) l0_1.length c0_1)] 28 (0, 0))) ∧ Aside0 (Below w.heap.size w w'))
        case atStart => exact ⟨(x3_1), (0), rs, H', ⟨Nat.le_refl _⟩, ⟨by (with_reducible repeat (first | apply Kd.S_alloc | apply Kd.S_drewN | apply Kd.S_drew)); exact HO_3.out⟩, ⟨bk⟩, ⟨bl⟩⟩
        case round =>
          clear H'
          (try clear c1); (try clear p1); (try clear q1); (try clear hx1); (try clear qi1); (try clear p2); (try clear p6); (try clear c7); (try clear c7b0); (try clear c8); (try clear c8b0); (try clear c9); (try clear c9b0); (try clear c10); (try clear c10b0); (try clear c10b1); (try clear p10); (try clear q10); (try clear hx10); (try clear qi10); (try clear c11); (try clear c11b0); (try clear c11b1); (try clear c12); (try clear c12b0); (try clear c12b1); (try clear c14); (try clear hcz4_0); (try clear hcz4_1); (try clear hcz6_0); (try clear hcz6_1); (try clear hfz4_0); (try clear hfz4_1); (try clear hfz6_0); (try clear hfz6_1); (try clear hx105_0); (try clear hx106_0); (try clear hx107_0); (try clear p105); (try clear p106); (try clear p107); (try clear p2); (try clear q105); (try clear q106); (try clear q107)
          obtain ⟨x3_2, x26_2, rfl, HA, HK2, HO_3, BK101, HB⟩ := hrel
          cases gk with
          | zero => exact absurd HA.out (by simp [impl_Graph_laplacian.l1])
          | succ k2 =>
            have H := HA.out
            clear HA
            simp only [impl_Graph_laplacian.l1] at H
            by_cases c15 : x26_2 < ((rd_L1 l0_1 x13_1).length : Int)
            case neg =>
              rw [if_neg c15] at H
              have c15b0 : decide (x26_2 < ((rd_L1 l0_1 x13_1).length : Int)) = false := decide_eq_false c15
              clear c15
              have H' := Aside0.mk H
              clear H
              go_wp2
              first | go_roundg k2 | (simp only [← hji22]; go_roundg k2)
              case measure => have := HK1.out; have := HK2.out; omega
              case rel => exact ⟨(x3_2), (wrap64 (x13_1 + 1)), rs, (by first | exact H' | (rw [hji22]; exact H')), ⟨by have := HK1.out; have := HK2.out; omega⟩, ⟨by (with_reducible repeat (first | apply Kd.S_alloc | apply Kd.S_drewN | apply Kd.S_drew)); exact HO_3.out⟩, ⟨bk⟩, ⟨bl⟩⟩
            rw [if_pos c15] at H
            have c15b0 : decide (x26_2 < ((rd_L1 l0_1 x13_1).length : Int)) = true := decide_eq_true c15
            clear c15
            by_cases c16 : 0 ≤ x26_2
            case neg => rw [if_neg c16] at H; exact absurd H (by simp)
            rw [if_pos c16] at H
            have c16b0 : decide (0 ≤ x26_2) = true := decide_eq_true c16
            clear c16
            by_cases c17 : x26_2 < ((rd_L1 l0_1 x13_1).length : Int)
            case neg => rw [if_neg c17] at H; exact absurd H (by simp)
            rw [if_pos c17] at H
            have c17b0 : decide (x26_2 < ((rd_L1 l0_1 x13_1).length : Int)) = true := decide_eq_true c17
            clear c17
            by_cases c18 : 0 ≤ (rd (rd_L1 l0_1 x13_1) x26_2)
            case neg => rw [if_neg c18] at H; exact absurd H (by simp)
            rw [if_pos c18] at H
            have c18b0 : decide (0 ≤ (rd (rd_L1 l0_1 x13_1) x26_2)) = true := decide_eq_true c18
            clear c18
            by_cases c19 : (rd (rd_L1 l0_1 x13_1) x26_2) < (x3_2.length : Int)
            case neg => rw [if_neg c19] at H; exact absurd H (by simp)
            rw [if_pos c19] at H
            have c19b0 : decide ((rd (rd_L1 l0_1 x13_1) x26_2) < (x3_2.length : Int)) = true := decide_eq_true c19
            clear c19
            by_cases c20 : (rd (rd_L1 l0_1 x13_1) x26_2) < ((rd_L1 x3_2 (rd (rd_L1 l0_1 x13_1) x26_2)).length : Int)
            case neg => rw [if_neg c20] at H; exact absurd H (by simp)
            rw [if_pos c20] at H
            have c20b0 : decide ((rd (rd_L1 l0_1 x13_1) x26_2) < ((rd_L1 x3_2 (rd (rd_L1 l0_1 x13_1) x26_2)).length : Int)) = true := decide_eq_true c20
            clear c20
            obtain ⟨y112, hy112⟩ : ∃ y_ : List Int, y_ = ((rd_L1 x3_2 (rd (rd_L1 l0_1 x13_1) x26_2)).set ((rd (rd_L1 l0_1 x13_1) x26_2) : Int).toNat (wrap64 ((rd (rd_L1 x3_2 (rd (rd_L1 l0_1 x13_1) x26_2)) (rd (rd_L1 l0_1 x13_1) x26_2)) + 1))) := ⟨_, rfl⟩
            replace H : ((some (x3_2.set ((rd (rd_L1 l0_1 x13_1) x26_2) : Int).toNat y112 : List (List Int))).bind fun y114 => (if 0 ≤ (wrap64 (1 - x26_2)) then (if (wrap64 (1 - x26_2)) < ((rd_L1 l0_1 x13_1).length : Int) then (if 0 ≤ (rd (rd_L1 l0_1 x13_1) (wrap64 (1 - x26_2))) then (if (rd (rd_L1 l0_1 x13_1) (wrap64 (1 - x26_2))) < ((rd_L1 y114 (rd (rd_L1 l0_1 x13_1) x26_2)).length : Int) then (impl_Graph_laplacian.l1 k2 (y114.set ((rd (rd_L1 l0_1 x13_1) x26_2) : Int).toNat ((rd_L1 y114 (rd (rd_L1 l0_1 x13_1) x26_2)).set ((rd (rd_L1 l0_1 x13_1) (wrap64 (1 - x26_2))) : Int).toNat (wrap64 ((rd (rd_L1 y114 (rd (rd_L1 l0_1 x13_1) x26_2)) (rd (rd_L1 l0_1 x13_1) (wrap64 (1 - x26_2)))) - 1)))) (rd_L1 l0_1 x13_1) l0_1 (l0_1.length : Int) x13_1 ((rd_L1 l0_1 x13_1).length : Int) (wrap64 (x26_2 + 1))) else (none)) else (none)) else (none)) else (none))) = some r := by first | (rw [hy112]; with_reducible exact H) | (have H2_ := (Option.bind_some _ _).symm.trans H; rw [hy112]; with_reducible exact H2_) | (have H2_ := (Option.bind_some _ _).symm.trans H; with_reducible exact H2_) | with_reducible exact H | (rw [hy112]; exact H) | exact H
            have Ny112 := Aside0.mk hy112
            clear hy112
            obtain ⟨y114, hy114⟩ : ∃ y_ : List (List Int), y_ = (x3_2.set ((rd (rd_L1 l0_1 x13_1) x26_2) : Int).toNat y112) := ⟨_, rfl⟩
            replace H : (if 0 ≤ (wrap64 (1 - x26_2)) then (if (wrap64 (1 - x26_2)) < ((rd_L1 l0_1 x13_1).length : Int) then (if 0 ≤ (rd (rd_L1 l0_1 x13_1) (wrap64 (1 - x26_2))) then (if (rd (rd_L1 l0_1 x13_1) (wrap64 (1 - x26_2))) < ((rd_L1 y114 (rd (rd_L1 l0_1 x13_1) x26_2)).length : Int) then (impl_Graph_laplacian.l1 k2 (y114.set ((rd (rd_L1 l0_1 x13_1) x26_2) : Int).toNat ((rd_L1 y114 (rd (rd_L1 l0_1 x13_1) x26_2)).set ((rd (rd_L1 l0_1 x13_1) (wrap64 (1 - x26_2))) : Int).toNat (wrap64 ((rd (rd_L1 y114 (rd (rd_L1 l0_1 x13_1) x26_2)) (rd (rd_L1 l0_1 x13_1) (wrap64 (1 - x26_2)))) - 1)))) (rd_L1 l0_1 x13_1) l0_1 (l0_1.length : Int) x13_1 ((rd_L1 l0_1 x13_1).length : Int) (wrap64 (x26_2 + 1))) else (none)) else (none)) else (none)) else (none)) = some r := by first | (rw [hy114]; with_reducible exact H) | (have H2_ := (Option.bind_some _ _).symm.trans H; rw [hy114]; with_reducible exact H2_) | (have H2_ := (Option.bind_some _ _).symm.trans H; with_reducible exact H2_) | with_reducible exact H | (rw [hy114]; exact H) | exact H
            have Ny114 := Aside0.mk hy114
            clear hy114
            obtain ⟨ji22, hji22⟩ : ∃ j_ : Int, (wrap64 (1 - x26_2)) = j_ := ⟨_, rfl⟩
            replace H : (if 0 ≤ (ji22) then (if (ji22) < ((rd_L1 l0_1 x13_1).length : Int) then (if 0 ≤ (rd (rd_L1 l0_1 x13_1) (ji22)) then (if (rd (rd_L1 l0_1 x13_1) (ji22)) < ((rd_L1 y114 (rd (rd_L1 l0_1 x13_1) x26_2)).length : Int) then (impl_Graph_laplacian.l1 k2 (y114.set ((rd (rd_L1 l0_1 x13_1) x26_2) : Int).toNat ((rd_L1 y114 (rd (rd_L1 l0_1 x13_1) x26_2)).set ((rd (rd_L1 l0_1 x13_1) (ji22)) : Int).toNat (wrap64 ((rd (rd_L1 y114 (rd (rd_L1 l0_1 x13_1) x26_2)) (rd (rd_L1 l0_1 x13_1) (ji22))) - 1)))) (rd_L1 l0_1 x13_1) l0_1 (l0_1.length : Int) x13_1 ((rd_L1 l0_1 x13_1).length : Int) (wrap64 (x26_2 + 1))) else (none)) else (none)) else (none)) else (none)) = some r := by first | (rw [hji22] at H; exact H) | (simp only [hji22] at H ⊢; exact H)
            have hji22w : (IntKind.i64.wrap (1 - x26_2)) = ji22 := (i64_w _).trans hji22
            by_cases c23 : 0 ≤ (ji22)
            case neg => rw [if_neg c23] at H; exact absurd H (by simp)
            rw [if_pos c23] at H
            have c23b0 : decide (0 ≤ (ji22)) = true := decide_eq_true c23
            clear c23
            by_cases c24 : (ji22) < ((rd_L1 l0_1 x13_1).length : Int)
            case neg => rw [if_neg c24] at H; exact absurd H (by simp)
            rw [if_pos c24] at H
            have c24b0 : decide ((ji22) < ((rd_L1 l0_1 x13_1).length : Int)) = true := decide_eq_true c24
            clear c24
            by_cases c25 : 0 ≤ (rd (rd_L1 l0_1 x13_1) (ji22))
            case neg => rw [if_neg c25] at H; exact absurd H (by simp)
            rw [if_pos c25] at H
            have c25b0 : decide (0 ≤ (rd (rd_L1 l0_1 x13_1) (ji22))) = true := decide_eq_true c25
            clear c25
            by_cases c26 : (rd (rd_L1 l0_1 x13_1) (ji22)) < ((rd_L1 y114 (rd (rd_L1 l0_1 x13_1) x26_2)).length : Int)
            case neg => rw [if_neg c26] at H; exact absurd H (by simp)
            rw [if_pos c26] at H
            have c26b0 : decide ((rd (rd_L1 l0_1 x13_1) (ji22)) < ((rd_L1 y114 (rd (rd_L1 l0_1 x13_1) x26_2)).length : Int)) = true := decide_eq_true c26
            clear c26
            obtain ⟨y119, hy119⟩ : ∃ y_ : List Int, y_ = ((rd_L1 y114 (rd (rd_L1 l0_1 x13_1) x26_2)).set ((rd (rd_L1 l0_1 x13_1) (ji22)) : Int).toNat (wrap64 ((rd (rd_L1 y114 (rd (rd_L1 l0_1 x13_1) x26_2)) (rd (rd_L1 l0_1 x13_1) (ji22))) - 1))) := ⟨_, rfl⟩
            replace H : (impl_Graph_laplacian.l1 k2 (y114.set ((rd (rd_L1 l0_1 x13_1) x26_2) : Int).toNat y119) (rd_L1 l0_1 x13_1) l0_1 (l0_1.length : Int) x13_1 ((rd_L1 l0_1 x13_1).length : Int) (wrap64 (x26_2 + 1))) = some r := by first | (rw [hy119]; with_reducible exact H) | (have H2_ := (Option.bind_some _ _).symm.trans H; rw [hy119]; with_reducible exact H2_) | (have H2_ := (Option.bind_some _ _).symm.trans H; with_reducible exact H2_) | with_reducible exact H | (rw [hy119]; exact H) | exact H
            have Ny119 := Aside0.mk hy119
            clear hy119
            obtain ⟨y121, hy121⟩ : ∃ y_ : List (List Int), y_ = (y114.set ((rd (rd_L1 l0_1 x13_1) x26_2) : Int).toNat y119) := ⟨_, rfl⟩
            replace H : (impl_Graph_laplacian.l1 k2 y121 (rd_L1 l0_1 x13_1) l0_1 (l0_1.length : Int) x13_1 ((rd_L1 l0_1 x13_1).length : Int) (wrap64 (x26_2 + 1))) = some r := by first | (rw [hy121]; with_reducible exact H) | (have H2_ := (Option.bind_some _ _).symm.trans H; rw [hy121]; with_reducible exact H2_) | (have H2_ := (Option.bind_some _ _).symm.trans H; with_reducible exact H2_) | with_reducible exact H | (rw [hy121]; exact H) | exact H
            have Ny121 := Aside0.mk hy121
            clear hy121
            have H' := Aside0.mk H
            clear H
            try go_wp2
            have n0_ := Aside0.mk (Kd.S_drew HO_3.out)
            have n1_ := Aside0.mk (blk_drew BK101.out)
            have n2_ := Aside0.mk (below_drew1 HB.out)
            clear HO_3
            clear BK101
            clear HB
            have HO_3 := n0_
            have BK101 := n1_
            have HB := n2_
            clear n0_ n1_ n2_
            have p108 : 0 ≤ (x26_2 : Int) := oD
            have q108 : x26_2 < ((rd_L1 l0_1 x13_1).length : Int) := oD
            obtain ⟨ad108, e108, hx108_0⟩ := Kd.at_int HR105_0.out x26_2 p108 q108
            have hw108_0 := hx108_0
            obtain rfl : ad106 = ad108 := (by injection e108)
            replace hx108_0 := hbc HB hx108_0
            replace p108 := eq_true p108
            replace q108 := eq_true q108
            obtain ⟨Ao29, co29, eo29⟩ := Kd.S_slice HO_3.out
            (first | subst eo29 | (injection eo29 with f1_ f2_ f3_; have f4_ := f1_.symm; have f5_ := f3_.symm; clear f1_ f2_ f3_; subst f4_; subst f5_))
            have p109 : 0 ≤ ((rd (rd_L1 l0_1 x13_1) x26_2) : Int) := oD
            have q109 : (rd (rd_L1 l0_1 x13_1) x26_2) < (x3_2.length : Int) := oD
            obtain ⟨ad109, A109_0, c109_0, e109, hx109_0, hl109_0, hi109_0⟩ := at_L1 (Kd.S_reads' HO_3.out).2.2 (rd (rd_L1 l0_1 x13_1) x26_2) p109 q109
            cases e109
            obtain ⟨ce109, hce109, hMe109, hcc109⟩ := Kd.S_get HO_3.out [] (rd (rd_L1 l0_1 x13_1) x26_2) p109 (by first | exact q109 | exact oD | (have e_ := (Kd.S_reads' HO_3.out).1; omega))
            obtain ⟨ve109_0, rfl, ge109_0⟩ := hMe109
            have hv109_0 := hcc109 0 _ rfl
            rw [Nat.add_zero, show ((Kd.slice 2 (Kd.int .i64))).sz = 1 from rfl, Nat.mul_one] at hv109_0
            replace hv109_0 := Option.some.inj (hv109_0.symm.trans hx109_0)
            rw [hv109_0] at ge109_0
            have HL109_0 := Aside0.mk (show Kd.R (Kd.int .i64) 2 _ _ _ _ (rd_L1 x3_2 (rd (rd_L1 l0_1 x13_1) x26_2)) from ge109_0)
            clear hv109_0 ge109_0
            have HX109_0 := Aside0.mk hx109_0
            clear hcc109 hce109
            have HR109_0 := Aside0.mk hi109_0
            have HC109_0 := Aside0.mk hl109_0
            clear hi109_0 hl109_0
            replace p109 := eq_true p109
            replace q109 := eq_true q109
            have p110 : 0 ≤ (x26_2 : Int) := oD
            have q110 : x26_2 < ((rd_L1 l0_1 x13_1).length : Int) := oD
            obtain ⟨ad110, e110, hx110_0⟩ := Kd.at_int HR105_0.out x26_2 p110 q110
            have hw110_0 := hx110_0
            obtain rfl : ad106 = ad110 := (by injection e110)
            replace hx110_0 := hbc HB hx110_0
            replace p110 := eq_true p110
            replace q110 := eq_true q110
            have p111 : 0 ≤ ((rd (rd_L1 l0_1 x13_1) x26_2) : Int) := oD
            have q111 : (rd (rd_L1 l0_1 x13_1) x26_2) < ((rd_L1 x3_2 (rd (rd_L1 l0_1 x13_1) x26_2)).length : Int) := oD
            obtain ⟨ad111, e111, hx111_0⟩ := Kd.at_int (by repeat (first | (with_reducible exact HR109_0.out) | (with_reducible refine Kd.C_alloc ?_ _) | (with_reducible refine Kd.C_drewN ?_ _) | (with_reducible refine Kd.C_drew ?_) | exact HR109_0.out)) (rd (rd_L1 l0_1 x13_1) x26_2) p111 q111
            cases e111
            replace p111 := eq_true p111
            replace q111 := eq_true q111
            have p21 : 0 ≤ ((rd (rd_L1 l0_1 x13_1) x26_2) : Int) := oD
            have q21 : ((rd (rd_L1 l0_1 x13_1) x26_2) : Int) < (((rd_L1 x3_2 (rd (rd_L1 l0_1 x13_1) x26_2)).length : Int) : Int) := oD
            obtain ⟨go21, co21, eo21, gb21, gl21, cl21, HG21⟩ := Kd.R_form HL109_0.out (by omega)
            (first | cases eo21 | (injection eo21 with ea_ en_ ec_; (first | subst ea_ | (injection ea_ with ea_; subst ea_)); subst ec_; clear en_))
            (first | simp only [add_plain] at hx111_0 | skip)
            have GB21 := Aside0.mk gb21
            have GG21 := Aside0.mk HG21
            clear gb21 gl21 HG21
            (first | simp only [add_plain] at hx111_0 | skip)
            obtain ⟨hx21_0, hf21_0⟩ := Kd.R_celln 0 HL109_0.out ((rd (rd_L1 l0_1 x13_1) x26_2) : Int) p21 q21
            replace p21 := eq_true p21
            replace q21 := eq_true q21
            have hq30 : ((rd (rd_L1 l0_1 x13_1) x26_2) : Int) < (x3_2.length : Int) := (by have h_ : ((rd (rd_L1 l0_1 x13_1) x26_2) : Int) < ((x3_2.length : Int) : Int) := oD; first | exact h_ | (have e_ := (Kd.S_reads' HO_3.out).1; omega) | simpa only [List.length_set, List.length_set] using h_)
            obtain ⟨oki30, ce30, hcl30, hM30, hcc30, hok30, hbk30⟩ := Kd.S_borrow HO_3.out [] ((rd (rd_L1 l0_1 x13_1) x26_2) : Int) oD (by first | exact hq30 | (have e_ := (Kd.S_reads' HO_3.out).1; omega))
            obtain ⟨ve30_0, rfl, ge30_0⟩ := hM30
            have hv30 := hcc30 0 _ rfl
            rw [Nat.add_zero, show ((Kd.slice 2 (Kd.int .i64))).sz = 1 from rfl, Nat.mul_one] at hv30
            replace hv30 := Option.some.inj (hv30.symm.trans HX109_0.out)
            subst hv30
            clear hcc30 hcl30
            replace ge30_0 := (show Kd.R (Kd.int .i64) 2 _ _ _ _ (rd_L1 x3_2 (rd (rd_L1 l0_1 x13_1) x26_2)) from ge30_0)
            have HP30 := Kd.R_putg ge30_0 ((rd (rd_L1 l0_1 x13_1) x26_2) : Int) (wrap64 ((rd (rd_L1 x3_2 (rd (rd_L1 l0_1 x13_1) x26_2)) (rd (rd_L1 l0_1 x13_1) x26_2)) + 1))
            have HXp30 := Aside0.mk (cell_grown HP30.2 HX109_0.out (cell_ne (hok30 _ (ge30_0.1 _ rfl)).2))
            rw [← Ny112.out] at HP30
            have HPr30 := Aside0.mk HP30.1
            have HS30 := hbk30 HP30.2 (fun k_ e_ => by injection e_ with e_; subst e_; exact ge30_0.1 _ rfl) (x' := y112) (Kd.M_row HP30.1)
            rw [← Ny114.out] at HS30
            have HQ30 := Aside0.mk HS30
            clear HP30 HS30 hbk30 hok30
            refine start_ (n := 16) (S := fun w' => w'.cell? (ad106.add (x26_2).toNat) = some (.int .i64 (rd (rd_L1 l0_1 x13_1) x26_2)) ∧ w'.cell? (ad109.add ((rd (rd_L1 l0_1 x13_1) x26_2)).toNat) = some (.slice (some ⟨go21, 0, none⟩) (rd_L1 x3_2 (rd (rd_L1 l0_1 x13_1) x26_2)).length c109_0) ∧ w'.cell? (ad106.add (x26_2).toNat) = some (.int .i64 (rd (rd_L1 l0_1 x13_1) x26_2)) ∧ w'.cell? ⟨go21, ((rd (rd_L1 l0_1 x13_1) x26_2)).toNat, none⟩ = some (.int .i64 (rd (rd_L1 x3_2 (rd (rd_L1 l0_1 x13_1) x26_2)) (rd (rd_L1 l0_1 x13_1) x26_2)))) (ds := [15]) #[false, false, false, false, false, false, false, false, false, false, false, false, false, false, false, false] (by kernel_rfl) rfl rfl ⟨(hbc HB hw108_0), hx109_0, (hbc HB hw110_0), hx111_0⟩ (fun hHeld => ?_); refine with_tabW impl_Graph_laplacian.tab9 impl_Graph_laplacian.bits9 (fun HT_ HW_ => ?_)
            generalize wr.drew = w28 at HO_3 BK101 HB GG21 HL109_0 HQ30 HR109_0 HX109_0 HXp30 hf21_0 hx108_0 hx109_0 hx110_0 hx111_0 hx21_0 hHeld ⊢
            refine pure_ (i := 0) (N := some 29) (v := ?_) (a' := ?_) #[true, false, false, false, false, false, false, false, false, false, false, false, false, false, false, false] rfl rfl (any_of HT_.out (by kernel_rfl)) (fun _ _ _ h => h) (Or.inl ⟨by rfl, ?_⟩) ?_ ?_
            rotate_left; · intro w'; go_simp; with_reducible rfl
            rotate_left; · simp only [Act.put, zI, zZ, zS, i64_w, i32_w]; rfl
            refine pure_ (i := 1) (N := some 30) (v := ?_) (a' := ?_) #[true, true, false, false, false, false, false, false, false, false, false, false, false, false, false, false] rfl rfl (any_of HT_.out (by kernel_rfl)) (fun _ _ _ h => h) (Or.inl ⟨by rfl, ?_⟩) ?_ ?_
            rotate_left; · intro w'; go_simp; with_reducible rfl
            rotate_left; · simp only [Act.put, zI, zZ, zS, i64_w, i32_w]; rfl
            refine pure_ (i := 2) (N := some 31) (v := ?_) (a' := ?_) #[true, true, true, false, false, false, false, false, false, false, false, false, false, false, false, false] rfl rfl (any_of HT_.out (by kernel_rfl)) (fun _ _ _ h => h) (Or.inl ⟨by rfl, ?_⟩) ?_ ?_
            rotate_left; · intro w'; go_simp; with_reducible rfl
            rotate_left; · simp only [Act.put, zI, zZ, zS, i64_w, i32_w]; rfl
            refine pure_ (i := 3) (N := some 32) (v := ?_) (a' := ?_) #[true, true, true, true, false, false, false, false, false, false, false, false, false, false, false, false] rfl rfl (any_of HT_.out (by kernel_rfl)) (fun _ _ _ h => h) (Or.inl ⟨by rfl, ?_⟩) ?_ ?_
            rotate_left; · intro w'; go_simp; with_reducible rfl
            rotate_left; · simp only [Act.put, zI, zZ, zS, i64_w, i32_w]; rfl
            refine pure_ (i := 7) (N := some 36) (v := ?_) (a' := ?_) #[true, true, true, true, false, false, false, true, false, false, false, false, false, false, false, false] rfl rfl (any_of HT_.out (by kernel_rfl)) (fun _ _ _ h => h) (Or.inl ⟨by rfl, ?_⟩) ?_ ?_
            rotate_left; · intro w'; go_simp; with_reducible rfl
            rotate_left; · simp only [Act.put, zI, zZ, zS, i64_w, i32_w]; rfl
            refine pure_ (i := 8) (N := some 37) (v := ?_) (a' := ?_) #[true, true, true, true, false, false, false, true, true, false, false, false, false, false, false, false] rfl rfl (any_of HT_.out (by kernel_rfl)) (fun _ _ _ h => h) (Or.inl ⟨by rfl, ?_⟩) ?_ ?_
            rotate_left; · intro w'; go_simp; with_reducible rfl
            rotate_left; · simp only [Act.put, zI, zZ, zS, i64_w, i32_w]; rfl
            refine pure_ (i := 9) (N := some 38) (v := ?_) (a' := ?_) #[true, true, true, true, false, false, false, true, true, true, false, false, false, false, false, false] rfl rfl (any_of HT_.out (by kernel_rfl)) (fun _ _ _ h => h) (Or.inl ⟨by rfl, ?_⟩) ?_ ?_
            rotate_left; · intro w'; go_simp; with_reducible rfl
            rotate_left; · simp only [Act.put, zI, zZ, zS, i64_w, i32_w]; rfl
            refine take_ (i := 4) (N := some 33) (v := ?_) (a' := ?_) #[true, true, true, true, true, false, false, true, true, true, false, false, false, false, false, false] rfl rfl (take_ofW HT_.out HW_.out (by kernel_rfl)) (fun _ _ _ h => h) (Or.inl ⟨by rfl, ?_⟩) hHeld ?_ ?_
            rotate_left; · rintro w' ⟨s0, s1, s2, s3⟩; go_simp; with_reducible rfl
            rotate_left; · simp only [Act.put, zI, zZ, zS, i64_w, i32_w]; rfl
            refine pure_ (i := 5) (N := some 34) (v := ?_) (a' := ?_) #[true, true, true, true, true, true, false, true, true, true, false, false, false, false, false, false] rfl rfl (any_of HT_.out (by kernel_rfl)) (fun _ _ _ h => h) (Or.inl ⟨by rfl, ?_⟩) ?_ ?_
            rotate_left; · intro w'; go_simp; with_reducible rfl
            rotate_left; · simp only [Act.put, zI, zZ, zS, i64_w, i32_w]; rfl
            refine take_ (i := 6) (N := some 35) (v := ?_) (a' := ?_) #[true, true, true, true, true, true, true, true, true, true, false, false, false, false, false, false] rfl rfl (take_ofW HT_.out HW_.out (by kernel_rfl)) (fun _ _ _ h => h) (Or.inl ⟨by rfl, ?_⟩) hHeld ?_ ?_
            rotate_left; · rintro w' ⟨s0, s1, s2, s3⟩; go_simp; with_reducible rfl
            rotate_left; · simp only [Act.put, zI, zZ, zS, i64_w, i32_w]; rfl
            refine take_ (i := 10) (N := some 39) (v := ?_) (a' := ?_) #[true, true, true, true, true, true, true, true, true, true, true, false, false, false, false, false] rfl rfl (take_ofW HT_.out HW_.out (by kernel_rfl)) (fun _ _ _ h => h) (Or.inl ⟨by rfl, ?_⟩) hHeld ?_ ?_
            rotate_left; · rintro w' ⟨s0, s1, s2, s3⟩; go_simp; with_reducible rfl
            rotate_left; · simp only [Act.put, zI, zZ, zS, i64_w, i32_w]; rfl
            refine pure_ (i := 11) (N := some 40) (v := ?_) (a' := ?_) #[true, true, true, true, true, true, true, true, true, true, true, true, false, false, false, false] rfl rfl (any_of HT_.out (by kernel_rfl)) (fun _ _ _ h => h) (Or.inl ⟨by rfl, ?_⟩) ?_ ?_
            rotate_left; · intro w'; go_simp; with_reducible rfl
            rotate_left; · simp only [Act.put, zI, zZ, zS, i64_w, i32_w]; rfl
            refine take_ (i := 12) (N := some 41) (v := ?_) (a' := ?_) #[true, true, true, true, true, true, true, true, true, true, true, true, true, false, false, false] rfl rfl (take_ofW HT_.out HW_.out (by kernel_rfl)) (fun _ _ _ h => h) (Or.inl ⟨by rfl, ?_⟩) hHeld ?_ ?_
            rotate_left; · rintro w' ⟨s0, s1, s2, s3⟩; go_simp; with_reducible rfl
            rotate_left; · simp only [Act.put, zI, zZ, zS, i64_w, i32_w]; rfl
            refine pure_ (i := 13) (N := some 42) (v := ?_) (a' := ?_) #[true, true, true, true, true, true, true, true, true, true, true, true, true, true, false, false] rfl rfl (any_of HT_.out (by kernel_rfl)) (fun _ _ _ h => h) (Or.inl ⟨by rfl, ?_⟩) ?_ ?_
            rotate_left; · intro w'; go_simp; with_reducible rfl
            rotate_left; · simp only [Act.put, zI, zZ, zS, i64_w, i32_w]; rfl
            refine pure_ (i := 14) (N := some 43) (v := ?_) (a' := ?_) #[true, true, true, true, true, true, true, true, true, true, true, true, true, true, true, false] rfl rfl (any_of HT_.out (by kernel_rfl)) (fun _ _ _ h => h) (Or.inl ⟨by rfl, ?_⟩) ?_ ?_
            rotate_left; · intro w'; go_simp; with_reducible rfl
            rotate_left; · simp only [Act.put, zI, zZ, zS, i64_w, i32_w]; rfl
            refine last_ (i := 15) (N := none) #[true, true, true, true, true, true, true, true, true, true, true, true, true, true, true, true] rfl rfl (one_of HT_.out (by kernel_rfl)) (by decide) (fun K hK => ?_)
            refine skip_ (w1 := ?_) (by rfl) rfl ?_ ?_
            rotate_left; · go_simp; rfl
            refine hK.out _ _ ?_
            clear hK K
            refine done_ (done_of HT_.out (by kernel_rfl)) ?_
            try go_wp2
            have n0_ : Aside0 (Kd.S (Kd.slice 2 (Kd.int .i64)) 34 (w28.setCell ⟨go21, ((rd (rd_L1 l0_1 x13_1) x26_2) : Int).toNat, none⟩ (.int .i64 (wrap64 ((rd (rd_L1 x3_2 (rd (rd_L1 l0_1 x13_1) x26_2)) (rd (rd_L1 l0_1 x13_1) x26_2)) + 1)))) w.heap.size (fun _ => True) (.slice (some ad109) x3_2.length co29) y114) := ⟨by (with_reducible repeat (first | apply Kd.S_alloc | apply Kd.S_drewN | apply Kd.S_drew)); exact HQ30.out⟩
            have n1_ : Aside0 ((w28.setCell ⟨go21, ((rd (rd_L1 l0_1 x13_1) x26_2) : Int).toNat, none⟩ (.int .i64 (wrap64 ((rd (rd_L1 x3_2 (rd (rd_L1 l0_1 x13_1) x26_2)) (rd (rd_L1 l0_1 x13_1) x26_2)) + 1)))).heap[gb101]? = some (.cells #[.int .i64 a0_0, .slice (some ad105) l0_1.length c0_1] 28 (0, 0))) := ⟨by (with_reducible repeat (first | refine blk_drewN ?_ _ | refine blk_drew ?_ | refine blk_alloc ?_ _)); refine blk_far ?_ (by have h_ := Kd.R_ne HL109_0.out BK101.out (by decide); intro e_; exact h_ (by rw [e_]; rfl)) _; (with_reducible repeat (first | refine blk_drewN ?_ _ | refine blk_drew ?_ | refine blk_alloc ?_ _)); exact BK101.out⟩
            have n2_ : Aside0 (Below w.heap.size w (w28.setCell ⟨go21, ((rd (rd_L1 l0_1 x13_1) x26_2) : Int).toNat, none⟩ (.int .i64 (wrap64 ((rd (rd_L1 x3_2 (rd (rd_L1 l0_1 x13_1) x26_2)) (rd (rd_L1 l0_1 x13_1) x26_2)) + 1))))) := ⟨by repeat (first | (with_reducible first | exact HB.out | apply below_alloc | apply pw_below_drewN | apply below_drew1 | refine below_set ?_ GB21.out | refine below_set ?_ GE101.out) | exact HB.out)⟩
            (try clear HO_3)
            (try clear BK101)
            (try clear HB)
            generalize (w28.setCell ⟨go21, ((rd (rd_L1 l0_1 x13_1) x26_2) : Int).toNat, none⟩ (.int .i64 (wrap64 ((rd (rd_L1 x3_2 (rd (rd_L1 l0_1 x13_1) x26_2)) (rd (rd_L1 l0_1 x13_1) x26_2)) + 1)))) = w32 at n0_ n1_ n2_ ⊢
            have HO_3 := n0_
            have BK101 := n1_
            have HB := n2_
            clear n0_ n1_ n2_
            have n0_ := Aside0.mk (Kd.S_drew HO_3.out)
            have n1_ := Aside0.mk (blk_drew BK101.out)
            have n2_ := Aside0.mk (below_drew1 HB.out)
            clear HO_3
            clear BK101
            clear HB
            have HO_3 := n0_
            have BK101 := n1_
            have HB := n2_
            clear n0_ n1_ n2_
            have p115 : 0 ≤ (x26_2 : Int) := oD
            have q115 : x26_2 < ((rd_L1 l0_1 x13_1).length : Int) := oD
            obtain ⟨ad115, e115, hx115_0⟩ := Kd.at_int HR105_0.out x26_2 p115 q115
            have hw115_0 := hx115_0
            obtain rfl : ad106 = ad115 := (by injection e115)
            replace hx115_0 := hbc HB hx115_0
            replace p115 := eq_true p115
            replace q115 := eq_true q115
            have p116 : 0 ≤ ((rd (rd_L1 l0_1 x13_1) x26_2) : Int) := oD
            have q116 : (rd (rd_L1 l0_1 x13_1) x26_2) < (y114.length : Int) := (by have h_ : ((rd (rd_L1 l0_1 x13_1) x26_2) : Int) < ((x3_2.length : Int) : Int) := oD; first | (have e_ := (Kd.S_reads' HO_3.out).1; omega) | simpa only [Ny114.out, List.length_set] using h_)
            have ql116 : (((rd (rd_L1 l0_1 x13_1) x26_2) : Int) < ((x3_2.length : Int) : Int)) = True := eq_true oD
            obtain ⟨ad116, A116_0, c116_0, e116, hx116_0, hl116_0, hi116_0⟩ := at_L1 (Kd.S_reads' HO_3.out).2.2 (rd (rd_L1 l0_1 x13_1) x26_2) p116 q116
            obtain rfl : ad109 = ad116 := (by injection e116)
            obtain ⟨ce116, hce116, hMe116, hcc116⟩ := Kd.S_get HO_3.out [] (rd (rd_L1 l0_1 x13_1) x26_2) p116 (by first | exact q116 | exact oD | (have e_ := (Kd.S_reads' HO_3.out).1; omega))
            obtain ⟨ve116_0, rfl, ge116_0⟩ := hMe116
            have hv116_0 := hcc116 0 _ rfl
            rw [Nat.add_zero, show ((Kd.slice 2 (Kd.int .i64))).sz = 1 from rfl, Nat.mul_one] at hv116_0
            replace hv116_0 := Option.some.inj (hv116_0.symm.trans hx116_0)
            rw [hv116_0] at ge116_0
            have HL116_0 := Aside0.mk (show Kd.R (Kd.int .i64) 2 _ _ _ _ (rd_L1 y114 (rd (rd_L1 l0_1 x13_1) x26_2)) from ge116_0)
            clear hv116_0 ge116_0
            have HX116_0 := Aside0.mk hx116_0
            clear hcc116 hce116
            have HR116_0 := Aside0.mk hi116_0
            have HC116_0 := Aside0.mk hl116_0
            clear hi116_0 hl116_0
            replace p116 := eq_true p116
            replace q116 := eq_true q116
            have p117 : 0 ≤ ((ji22) : Int) := oD
            have q117 : (ji22) < ((rd_L1 l0_1 x13_1).length : Int) := oD
            obtain ⟨ad117, e117, hx117_0⟩ := Kd.at_int HR105_0.out (ji22) p117 q117
            have hw117_0 := hx117_0
            obtain rfl : ad106 = ad117 := (by injection e117)
            replace hx117_0 := hbc HB hx117_0
            replace p117 := eq_true p117
            replace q117 := eq_true q117
            have p118 : 0 ≤ ((rd (rd_L1 l0_1 x13_1) (ji22)) : Int) := oD
            have q118 : (rd (rd_L1 l0_1 x13_1) (ji22)) < ((rd_L1 y114 (rd (rd_L1 l0_1 x13_1) x26_2)).length : Int) := oD
            obtain ⟨ad118, e118, hx118_0⟩ := Kd.at_int (by repeat (first | (with_reducible exact HR116_0.out) | (with_reducible refine Kd.C_alloc ?_ _) | (with_reducible refine Kd.C_drewN ?_ _) | (with_reducible refine Kd.C_drew ?_) | exact HR116_0.out)) (rd (rd_L1 l0_1 x13_1) (ji22)) p118 q118
            cases e118
            replace p118 := eq_true p118
            replace q118 := eq_true q118
            have p27 : 0 ≤ ((rd (rd_L1 l0_1 x13_1) (ji22)) : Int) := oD
            have q27 : ((rd (rd_L1 l0_1 x13_1) (ji22)) : Int) < (((rd_L1 y114 (rd (rd_L1 l0_1 x13_1) x26_2)).length : Int) : Int) := oD
            obtain ⟨go27, co27, eo27, gb27, gl27, cl27, HG27⟩ := Kd.R_form HL116_0.out (by omega)
            (first | cases eo27 | (injection eo27 with ea_ en_ ec_; (first | subst ea_ | (injection ea_ with ea_; subst ea_)); subst ec_; clear en_))
            (first | simp only [add_plain] at hx118_0 | skip)
            have GB27 := Aside0.mk gb27
            have GG27 := Aside0.mk HG27
            clear gb27 gl27 HG27
            (first | simp only [add_plain] at hx118_0 | skip)
            obtain ⟨hx27_0, hf27_0⟩ := Kd.R_celln 0 HL116_0.out ((rd (rd_L1 l0_1 x13_1) (ji22)) : Int) p27 q27
            replace p27 := eq_true p27
            replace q27 := eq_true q27
            have hq34 : ((rd (rd_L1 l0_1 x13_1) x26_2) : Int) < (y114.length : Int) := (by have h_ : ((rd (rd_L1 l0_1 x13_1) x26_2) : Int) < ((x3_2.length : Int) : Int) := oD; first | exact h_ | (have e_ := (Kd.S_reads' HO_3.out).1; omega) | simpa only [Ny114.out, List.length_set] using h_)
            obtain ⟨oki34, ce34, hcl34, hM34, hcc34, hok34, hbk34⟩ := Kd.S_borrow HO_3.out [] ((rd (rd_L1 l0_1 x13_1) x26_2) : Int) oD (by first | exact hq34 | (have e_ := (Kd.S_reads' HO_3.out).1; omega))
            obtain ⟨ve34_0, rfl, ge34_0⟩ := hM34
            have hv34 := hcc34 0 _ rfl
            rw [Nat.add_zero, show ((Kd.slice 2 (Kd.int .i64))).sz = 1 from rfl, Nat.mul_one] at hv34
            replace hv34 := Option.some.inj (hv34.symm.trans HX116_0.out)
            subst hv34
            clear hcc34 hcl34
            replace ge34_0 := (show Kd.R (Kd.int .i64) 2 _ _ _ _ (rd_L1 y114 (rd (rd_L1 l0_1 x13_1) x26_2)) from ge34_0)
            have HP34 := Kd.R_putg ge34_0 ((rd (rd_L1 l0_1 x13_1) (ji22)) : Int) (wrap64 ((rd (rd_L1 y114 (rd (rd_L1 l0_1 x13_1) x26_2)) (rd (rd_L1 l0_1 x13_1) (ji22))) - 1))
            have HXp34 := Aside0.mk (cell_grown HP34.2 HX116_0.out (cell_ne (hok34 _ (ge34_0.1 _ rfl)).2))
            rw [← Ny119.out] at HP34
            have HPr34 := Aside0.mk HP34.1
            have HS34 := hbk34 HP34.2 (fun k_ e_ => by injection e_ with e_; subst e_; exact ge34_0.1 _ rfl) (x' := y119) (Kd.M_row HP34.1)
            rw [← Ny121.out] at HS34
            have HQ34 := Aside0.mk HS34
            clear HP34 HS34 hbk34 hok34
            refine start_ (n := 17) (S := fun w' => w'.cell? (ad106.add (x26_2).toNat) = some (.int .i64 (rd (rd_L1 l0_1 x13_1) x26_2)) ∧ w'.cell? (ad109.add ((rd (rd_L1 l0_1 x13_1) x26_2)).toNat) = some (.slice (some ⟨go27, 0, none⟩) (rd_L1 y114 (rd (rd_L1 l0_1 x13_1) x26_2)).length c116_0) ∧ w'.cell? (ad106.add ((ji22)).toNat) = some (.int .i64 (rd (rd_L1 l0_1 x13_1) (ji22))) ∧ w'.cell? ⟨go27, ((rd (rd_L1 l0_1 x13_1) (ji22))).toNat, none⟩ = some (.int .i64 (rd (rd_L1 y114 (rd (rd_L1 l0_1 x13_1) x26_2)) (rd (rd_L1 l0_1 x13_1) (ji22))))) (ds := [16]) #[false, false, false, false, false, false, false, false, false, false, false, false, false, false, false, false, false] (by kernel_rfl) rfl rfl ⟨(hbc HB hw115_0), hx116_0, (hbc HB hw117_0), hx118_0⟩ (fun hHeld => ?_); refine with_tabW impl_Graph_laplacian.tab10 impl_Graph_laplacian.bits10 (fun HT_ HW_ => ?_)
            generalize w32.drew = w33 at HO_3 BK101 HB GG27 HL116_0 HQ30 HQ34 HR116_0 HX116_0 HXp34 hf27_0 hx115_0 hx116_0 hx117_0 hx118_0 hx27_0 hHeld ⊢
            refine pure_ (i := 0) (N := some 44) (v := ?_) (a' := ?_) #[true, false, false, false, false, false, false, false, false, false, false, false, false, false, false, false, false] rfl rfl (any_of HT_.out (by kernel_rfl)) (fun _ _ _ h => h) (Or.inl ⟨by rfl, ?_⟩) ?_ ?_
            rotate_left; · intro w'; go_simp; with_reducible rfl
            rotate_left; · simp only [Act.put, zI, zZ, zS, i64_w, i32_w]; rfl
            refine pure_ (i := 1) (N := some 45) (v := ?_) (a' := ?_) #[true, true, false, false, false, false, false, false, false, false, false, false, false, false, false, false, false] rfl rfl (any_of HT_.out (by kernel_rfl)) (fun _ _ _ h => h) (Or.inl ⟨by rfl, ?_⟩) ?_ ?_
            rotate_left; · intro w'; go_simp; with_reducible rfl
            rotate_left; · simp only [Act.put, zI, zZ, zS, i64_w, i32_w]; rfl
            refine pure_ (i := 2) (N := some 46) (v := ?_) (a' := ?_) #[true, true, true, false, false, false, false, false, false, false, false, false, false, false, false, false, false] rfl rfl (any_of HT_.out (by kernel_rfl)) (fun _ _ _ h => h) (Or.inl ⟨by rfl, ?_⟩) ?_ ?_
            rotate_left; · intro w'; go_simp; with_reducible rfl
            rotate_left; · simp only [Act.put, zI, zZ, zS, i64_w, i32_w]; rfl
            refine pure_ (i := 3) (N := some 47) (v := ?_) (a' := ?_) #[true, true, true, true, false, false, false, false, false, false, false, false, false, false, false, false, false] rfl rfl (any_of HT_.out (by kernel_rfl)) (fun _ _ _ h => h) (Or.inl ⟨by rfl, ?_⟩) ?_ ?_
            rotate_left; · intro w'; go_simp; with_reducible rfl
            rotate_left; · simp only [Act.put, zI, zZ, zS, i64_w, i32_w]; rfl
            refine pure_ (i := 7) (N := some 51) (v := ?_) (a' := ?_) #[true, true, true, true, false, false, false, true, false, false, false, false, false, false, false, false, false] rfl rfl (any_of HT_.out (by kernel_rfl)) (fun _ _ _ h => h) (Or.inl ⟨by rfl, ?_⟩) ?_ ?_
            rotate_left; · intro w'; go_simp; with_reducible rfl
            rotate_left; · simp only [Act.put, zI, zZ, zS, i64_w, i32_w]; rfl
            refine pure_ (i := 8) (N := some 52) (v := ?_) (a' := ?_) #[true, true, true, true, false, false, false, true, true, false, false, false, false, false, false, false, false] rfl rfl (any_of HT_.out (by kernel_rfl)) (fun _ _ _ h => h) (Or.inl ⟨by rfl, ?_⟩) ?_ ?_
            rotate_left; · intro w'; go_simp; with_reducible rfl
            rotate_left; · simp only [Act.put, zI, zZ, zS, i64_w, i32_w]; rfl
            refine pure_ (i := 9) (N := some 53) (v := ?_) (a' := ?_) #[true, true, true, true, false, false, false, true, true, true, false, false, false, false, false, false, false] rfl rfl (any_of HT_.out (by kernel_rfl)) (fun _ _ _ h => h) (Or.inl ⟨by rfl, ?_⟩) ?_ ?_
            rotate_left; · intro w'; go_simp; with_reducible rfl
            rotate_left; · simp only [Act.put, zI, zZ, zS, i64_w, i32_w]; rfl
            refine pure_ (i := 10) (N := some 54) (v := ?_) (a' := ?_) #[true, true, true, true, false, false, false, true, true, true, true, false, false, false, false, false, false] rfl rfl (any_of HT_.out (by kernel_rfl)) (fun _ _ _ h => h) (Or.inl ⟨by rfl, ?_⟩) ?_ ?_
            rotate_left; · intro w'; go_simp; with_reducible rfl
            rotate_left; · simp only [Act.put, zI, zZ, zS, i64_w, i32_w]; rfl
            refine take_ (i := 4) (N := some 48) (v := ?_) (a' := ?_) #[true, true, true, true, true, false, false, true, true, true, true, false, false, false, false, false, false] rfl rfl (take_ofW HT_.out HW_.out (by kernel_rfl)) (fun _ _ _ h => h) (Or.inl ⟨by rfl, ?_⟩) hHeld ?_ ?_
            rotate_left; · rintro w' ⟨s0, s1, s2, s3⟩; go_simp; with_reducible rfl
            rotate_left; · simp only [Act.put, zI, zZ, zS, i64_w, i32_w]; rfl
            refine pure_ (i := 5) (N := some 49) (v := ?_) (a' := ?_) #[true, true, true, true, true, true, false, true, true, true, true, false, false, false, false, false, false] rfl rfl (any_of HT_.out (by kernel_rfl)) (fun _ _ _ h => h) (Or.inl ⟨by rfl, ?_⟩) ?_ ?_
            rotate_left; · intro w'; go_simp; with_reducible rfl
            rotate_left; · simp only [Act.put, zI, zZ, zS, i64_w, i32_w]; rfl
            refine take_ (i := 6) (N := some 50) (v := ?_) (a' := ?_) #[true, true, true, true, true, true, true, true, true, true, true, false, false, false, false, false, false] rfl rfl (take_ofW HT_.out HW_.out (by kernel_rfl)) (fun _ _ _ h => h) (Or.inl ⟨by rfl, ?_⟩) hHeld ?_ ?_
            rotate_left; · rintro w' ⟨s0, s1, s2, s3⟩; go_simp; with_reducible rfl
            rotate_left; · simp only [Act.put, zI, zZ, zS, i64_w, i32_w]; rfl
            refine take_ (i := 11) (N := some 55) (v := ?_) (a' := ?_) #[true, true, true, true, true, true, true, true, true, true, true, true, false, false, false, false, false] rfl rfl (take_ofW HT_.out HW_.out (by kernel_rfl)) (fun _ _ _ h => h) (Or.inl ⟨by rfl, ?_⟩) hHeld ?_ ?_
            rotate_left; · rintro w' ⟨s0, s1, s2, s3⟩; go_simp; with_reducible rfl
            rotate_left; · simp only [Act.put, zI, zZ, zS, i64_w, i32_w]; rfl
            refine pure_ (i := 12) (N := some 56) (v := ?_) (a' := ?_) #[true, true, true, true, true, true, true, true, true, true, true, true, true, false, false, false, false] rfl rfl (any_of HT_.out (by kernel_rfl)) (fun _ _ _ h => h) (Or.inl ⟨by rfl, ?_⟩) ?_ ?_
            rotate_left; · intro w'; go_simp; with_reducible rfl
            rotate_left; · simp only [Act.put, zI, zZ, zS, i64_w, i32_w]; rfl
            refine take_ (i := 13) (N := some 57) (v := ?_) (a' := ?_) #[true, true, true, true, true, true, true, true, true, true, true, true, true, true, false, false, false] rfl rfl (take_ofW HT_.out HW_.out (by kernel_rfl)) (fun _ _ _ h => h) (Or.inl ⟨by rfl, ?_⟩) hHeld ?_ ?_
            rotate_left; · rintro w' ⟨s0, s1, s2, s3⟩; go_simp; with_reducible rfl
            rotate_left; · simp only [Act.put, zI, zZ, zS, i64_w, i32_w]; rfl
            refine pure_ (i := 14) (N := some 58) (v := ?_) (a' := ?_) #[true, true, true, true, true, true, true, true, true, true, true, true, true, true, true, false, false] rfl rfl (any_of HT_.out (by kernel_rfl)) (fun _ _ _ h => h) (Or.inl ⟨by rfl, ?_⟩) ?_ ?_
            rotate_left; · intro w'; go_simp; with_reducible rfl
            rotate_left; · simp only [Act.put, zI, zZ, zS, i64_w, i32_w]; rfl
            refine pure_ (i := 15) (N := some 59) (v := ?_) (a' := ?_) #[true, true, true, true, true, true, true, true, true, true, true, true, true, true, true, true, false] rfl rfl (any_of HT_.out (by kernel_rfl)) (fun _ _ _ h => h) (Or.inl ⟨by rfl, ?_⟩) ?_ ?_
            rotate_left; · intro w'; go_simp; with_reducible rfl
            rotate_left; · simp only [Act.put, zI, zZ, zS, i64_w, i32_w]; rfl
            refine last_ (i := 16) (N := none) #[true, true, true, true, true, true, true, true, true, true, true, true, true, true, true, true, true] rfl rfl (one_of HT_.out (by kernel_rfl)) (by decide) (fun K hK => ?_)
            refine skip_ (w1 := ?_) (by rfl) rfl ?_ ?_
            rotate_left; · go_simp; rfl
            refine hK.out _ _ ?_
            clear hK K
            refine done_ (done_of HT_.out (by kernel_rfl)) ?_
            try go_wp2
            first | go_roundg k2 | (simp only [← hji22]; go_roundg k2)
            case measure => have := HK1.out; have := HK2.out; omega
            case rel => exact ⟨(y121), (wrap64 (x26_2 + 1)), rs, (by first | exact H' | (rw [hji22]; exact H')), ⟨by have := HK1.out; have := HK2.out; omega⟩, ⟨by (with_reducible repeat (first | apply Kd.S_alloc | apply Kd.S_drewN | apply Kd.S_drew)); exact HQ34.out⟩, ⟨by (with_reducible repeat (first | refine blk_drewN ?_ _ | refine blk_drew ?_ | refine blk_alloc ?_ _)); refine blk_far ?_ (by have h_ := Kd.R_ne HL116_0.out BK101.out (by decide); intro e_; exact h_ (by rw [e_]; rfl)) _; (with_reducible repeat (first | refine blk_drewN ?_ _ | refine blk_drew ?_ | refine blk_alloc ?_ _)); exact BK101.out⟩, ⟨by repeat (first | (with_reducible first | exact HB.out | apply below_alloc | apply pw_below_drewN | apply below_drew1 | refine below_set ?_ GB27.out | refine below_set ?_ GE101.out) | exact HB.out)⟩⟩
      rw [if_pos c12] at H
      have c12b0 : ((rd (rd_L1 l0_1 x13_1) 0) == (rd (rd_L1 l0_1 x13_1) 1)) = true := beq_iff_eq.mpr c12
      have c12b1 : ((rd (rd_L1 l0_1 x13_1) 0) != (rd (rd_L1 l0_1 x13_1) 1)) = false := bne_eq_false_iff_eq.mpr c12
      clear c12
      have H' := Aside0.mk H
      clear H
      have p105 : 0 ≤ (x13_1 : Int) := oD
      have q105 : x13_1 < (l0_1.length : Int) := oD
      obtain ⟨ad105, A105_0, c105_0, e105, hx105_0, hl105_0, hi105_0⟩ := at_L1 HR0_1.out x13_1 p105 q105
      cases e105
      replace hx105_0 := hbc HB hx105_0
      have HR105_0 := Aside0.mk hi105_0
      have HC105_0 := Aside0.mk hl105_0
      clear hi105_0 hl105_0
      replace p105 := eq_true p105
      replace q105 := eq_true q105
      try go_wp2
      have n0_ := Aside0.mk (Kd.S_drew HO_3.out)
      have n1_ := Aside0.mk (blk_drew BK101.out)
      have n2_ := Aside0.mk (below_drew1 HB.out)
      clear HO_3
      clear BK101
      clear HB
      have HO_3 := n0_
      have BK101 := n1_
      have HB := n2_
      clear n0_ n1_ n2_
      have p106 : 0 ≤ (0 : Int) := (by omega)
      have q106 : 0 < ((rd_L1 l0_1 x13_1).length : Int) := oD
      obtain ⟨ad106, e106, hx106_0⟩ := Kd.at_int HR105_0.out 0 p106 q106
      have hw106_0 := hx106_0
      (try rw [show ((0 : Int)).toNat = 0 from rfl] at hw106_0)
      (try rw [show 0 * 1 = 0 from rfl] at hw106_0)
      (try rw [Addr.add_zero'] at hw106_0)
      cases e106
      have qi106 : (0 < (rd_L1 l0_1 x13_1).length) = True := eq_true (by omega)
      (try rw [show ((0 : Int)).toNat = 0 from rfl] at hx106_0)
      (try rw [Addr.add_zero'] at hx106_0)
      replace hx106_0 := hbc HB hx106_0
      replace p106 := eq_true p106
      replace q106 := eq_true q106
      have p107 : 0 ≤ (1 : Int) := (by omega)
      have q107 : 1 < ((rd_L1 l0_1 x13_1).length : Int) := oD
      obtain ⟨ad107, e107, hx107_0⟩ := Kd.at_int HR105_0.out 1 p107 q107
      have hw107_0 := hx107_0
      (try rw [show ((1 : Int)).toNat = 1 from rfl] at hw107_0)
      (try rw [show 1 * 1 = 1 from rfl] at hw107_0)
      (try simp only [Nat.reduceMul, Nat.reduceEqDiff, Go.Addr.add, ↓reduceIte] at hw107_0)
      obtain rfl : ad106 = ad107 := (by injection e107)
      (try simp only [show (1 : Int).toNat = 1 from rfl, Nat.reduceMul, Nat.reduceEqDiff, Go.Addr.add, ↓reduceIte] at hx107_0)
      have qi107 : (1 < (rd_L1 l0_1 x13_1).length) = True := eq_true (by omega)
      (try rw [show ((1 : Int)).toNat = 1 from rfl] at hx107_0)
      replace hx107_0 := hbc HB hx107_0
      replace p107 := eq_true p107
      replace q107 := eq_true q107
      refine start_ (n := 7) (S := fun w' => w'.cell? ad106 = some (.int .i64 (rd (rd_L1 l0_1 x13_1) 0)) ∧ w'.cell? ⟨ad106.block, ad106.off + 1, none⟩ = some (.int .i64 (rd (rd_L1 l0_1 x13_1) 1))) (ds := []) #[false, false, false, false, false, false, false] (by kernel_rfl) rfl rfl ⟨(hbc HB hw106_0), (hbc HB hw107_0)⟩ (fun hHeld => ?_)
      generalize wr.drew = w13 at HO_3 BK101 HB hx106_0 hx107_0 hHeld ⊢
      refine pure_ (i := 0) (N := some 17) (v := ?_) (a' := ?_) #[true, false, false, false, false, false, false] rfl rfl (by kernel_rfl) (fun _ _ _ h => h) (Or.inl ⟨by rfl, ?_⟩) ?_ ?_
      rotate_left; · intro w'; go_simp; with_reducible rfl
      rotate_left; · simp only [Act.put, zI, zZ, zS, i64_w, i32_w]; rfl
      refine pure_ (i := 1) (N := some 18) (v := ?_) (a' := ?_) #[true, true, false, false, false, false, false] rfl rfl (by kernel_rfl) (fun _ _ _ h => h) (Or.inl ⟨by rfl, ?_⟩) ?_ ?_
      rotate_left; · intro w'; go_simp; with_reducible rfl
      rotate_left; · simp only [Act.put, zI, zZ, zS, i64_w, i32_w]; rfl
      refine pure_ (i := 3) (N := some 20) (v := ?_) (a' := ?_) #[true, true, false, true, false, false, false] rfl rfl (by kernel_rfl) (fun _ _ _ h => h) (Or.inl ⟨by rfl, ?_⟩) ?_ ?_
      rotate_left; · intro w'; go_simp; with_reducible rfl
      rotate_left; · simp only [Act.put, zI, zZ, zS, i64_w, i32_w]; rfl
      refine pure_ (i := 4) (N := some 21) (v := ?_) (a' := ?_) #[true, true, false, true, true, false, false] rfl rfl (by kernel_rfl) (fun _ _ _ h => h) (Or.inl ⟨by rfl, ?_⟩) ?_ ?_
      rotate_left; · intro w'; go_simp; with_reducible rfl
      rotate_left; · simp only [Act.put, zI, zZ, zS, i64_w, i32_w]; rfl
      refine take_ (i := 2) (N := some 19) (v := ?_) (a' := ?_) #[true, true, true, true, true, false, false] rfl rfl (by kernel_rfl) (fun _ _ _ h => h) (Or.inl ⟨by rfl, ?_⟩) hHeld ?_ ?_
      rotate_left; · rintro w' ⟨s0, s1⟩; go_simp; with_reducible rfl
      rotate_left; · simp only [Act.put, zI, zZ, zS, i64_w, i32_w]; rfl
      refine take_ (i := 5) (N := some 22) (v := ?_) (a' := ?_) #[true, true, true, true, true, true, false] rfl rfl (by kernel_rfl) (fun _ _ _ h => h) (Or.inl ⟨by rfl, ?_⟩) hHeld ?_ ?_
      rotate_left; · rintro w' ⟨s0, s1⟩; go_simp; with_reducible rfl
      rotate_left; · simp only [Act.put, zI, zZ, zS, i64_w, i32_w]; rfl
      refine pure_ (i := 6) (N := some 23) (v := ?_) (a' := ?_) #[true, true, true, true, true, true, true] rfl rfl (by kernel_rfl) (fun _ _ _ h => h) (Or.inl ⟨by rfl, ?_⟩) ?_ ?_
      rotate_left; · intro w'; go_simp; with_reducible rfl
      rotate_left; · simp only [Act.put, zI, zZ, zS, i64_w, i32_w]; rfl
      refine done_ (by kernel_rfl) ?_
      try go_wp2
      first | go_roundg k1 | (simp only [← hji22]; go_roundg k1)
      case measure => have := HK1.out; omega
      case rel => exact ⟨(x3_1), (wrap64 (x13_1 + 1)), rs, (by first | exact H' | (rw [hji22]; exact H')), ⟨by have := HK1.out; omega⟩, ⟨by (with_reducible repeat (first | apply Kd.S_alloc | apply Kd.S_drewN | apply Kd.S_drew)); exact HO_3.out⟩, ⟨bk⟩, ⟨bl⟩⟩
end Go.Proofs.Ytbfmnhgpmpnglaa.C
