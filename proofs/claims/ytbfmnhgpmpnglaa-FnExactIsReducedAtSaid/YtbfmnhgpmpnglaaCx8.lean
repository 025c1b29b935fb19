/- The functions that one law reaches, each as a Lean function, and that Go's call comes to what it says. Condition of each: that the Lean function answers (is not none). -/
import Derived.Test.YtbfmnhgpmpnglaaCx0
import Derived.Test.YtbfmnhgpmpnglaaCx7
namespace Go.Proofs.Ytbfmnhgpmpnglaa.C
open Go.RowKit Go.Proofs.YtbfmnhgpmpnglaaW.PrintWords Go.Proofs.YtbfmnhgpmpnglaaW.PrintLast Go.Proofs.YtbfmnhgpmpnglaaW.PrintMore
attribute [local go_sem] max2_int min2_int max_two min_two max_three min_three max_four min_four   -- for this text's walks alone
set_option linter.unusedVariables false
set_option linter.unusedSimpArgs false

/-! ### impl_countParts: function 145 -/
def impl_countParts.l0 : Nat → Int → List Int → Int → Int → Option (Int)
  | 0, _, _, _, _ => none
  | k + 1, x3, x6, x7, x8 => if x8 < x7 then (if 0 ≤ x8 then (if x8 < (x6.length : Int) then (if x8 = (rd x6 x8) then (impl_countParts.l0 k (wrap64 (x3 + 1)) x6 x7 (wrap64 (x8 + 1))) else (impl_countParts.l0 k x3 x6 x7 (wrap64 (x8 + 1)))) else (none)) else (none)) else (some x3)
def impl_countParts.f (k : Nat) (l0 : List Int) : Option (Int) := impl_countParts.l0 k 0 l0 (l0.length : Int) 0
theorem impl_countParts.mono_l : ∀ k, (∀ y0 y1 y2 y3, LeO (impl_countParts.l0 k y0 y1 y2 y3) (impl_countParts.l0 (k + 1) y0 y1 y2 y3))
  | 0 => fun _ _ _ _ r h => by simp [impl_countParts.l0] at h
  | k + 1 => by
    have ih0 := impl_countParts.mono_l k
    · intro y0 y1 y2 y3
      unfold impl_countParts.l0
      repeat' first
      | (with_reducible exact ih0 _ _ _ _)
      | (with_reducible exact LeO.refl _)
      | (with_reducible exact LeO.none _)
      | (with_reducible refine LeO.ite ?_ ?_)
      | (with_reducible refine LeO.bind ?_ (fun _ => ?_))
      | exact ih0 _ _ _ _
      | exact LeO.none _
      | refine LeO.ite ?_ ?_
      | refine LeO.bind ?_ (fun _ => ?_)
theorem impl_countParts.mono : ∀ a0 k, LeO (impl_countParts.f k a0) (impl_countParts.f (k + 1) a0) := by
  intro a0 k
  have ih0 := impl_countParts.mono_l k
  unfold impl_countParts.f
  repeat' first
      | (with_reducible exact ih0 _ _ _ _)
      | (with_reducible exact LeO.refl _)
      | (with_reducible exact LeO.none _)
      | (with_reducible refine LeO.ite ?_ ?_)
      | (with_reducible refine LeO.bind ?_ (fun _ => ?_))
      | exact ih0 _ _ _ _
      | exact LeO.none _
      | refine LeO.ite ?_ ?_
      | refine LeO.bind ?_ (fun _ => ?_)
set_option maxHeartbeats 8000000 in
set_option maxRecDepth 100000 in
theorem impl_countParts.calls (k : Nat) (A0 : Option Addr) (c0 : Nat) (l0 : List Int) (r : Int) (w : World) (hr0 : Kd.C (Kd.int .i64) w A0 l0.length l0) (hc0 : l0.length ≤ c0) (h : impl_countParts.f k l0 = some r) :
    Calls Try.prog 145 #[.slice A0 l0.length c0] w fun e w' => e = .returned (.int .i64 r) ∧ Drawn0 w w' := by
  have HR0 := Aside0.mk hr0
  have HC0 := Aside0.mk hc0
  clear hr0 hc0
  have H : (impl_countParts.l0 k 0 l0 (l0.length : Int) 0) = some r := h
  clear h
  have H' := Aside0.mk H
  clear H
  go_enter Try.func145, Try.ntmps145
  go_wp2
  go_loopg [3, 8] k (fun kq v3 v8 w' => ∃ (x3_1 : Int) (x8_1 : Int), v3 = .int .i64 x3_1 ∧ v8 = .int .i64 x8_1 ∧ Aside0 (impl_countParts.l0 kq x3_1 l0 (l0.length : Int) x8_1 = some r) ∧ Aside0 (kq ≤ k) ∧ Drawn0 w w')
  case atStart => exact ⟨(0), (0), rs, rs, H', ⟨Nat.le_refl _⟩, by repeat (first | exact Drawn0.refl _ | apply Drawn0.step)⟩
  case round =>
    clear H'
    (try clear c1)
    obtain ⟨x3_1, x8_1, rfl, rfl, HA, HK1, ⟨m1, rfl⟩⟩ := hrel
    cases gk with
    | zero => exact absurd HA.out (by simp [impl_countParts.l0])
    | succ k1 =>
      have H := HA.out
      clear HA
      simp only [impl_countParts.l0] at H
      by_cases c2 : x8_1 < (l0.length : Int)
      case neg =>
        rw [if_neg c2] at H
        have c2b0 : decide (x8_1 < (l0.length : Int)) = false := decide_eq_false c2
        clear c2
        obtain rfl := Option.some.inj H
        go_wp2
        go_ret
        exact ⟨by first | rfl | (simp; done) | (simp [*]; done), by repeat (first | exact Drawn0.refl _ | apply Drawn0.step)⟩
      rw [if_pos c2] at H
      have c2b0 : decide (x8_1 < (l0.length : Int)) = true := decide_eq_true c2
      clear c2
      by_cases c3 : 0 ≤ x8_1
      case neg => rw [if_neg c3] at H; exact absurd H (by simp)
      rw [if_pos c3] at H
      have c3b0 : decide (0 ≤ x8_1) = true := decide_eq_true c3
      clear c3
      by_cases c4 : x8_1 < (l0.length : Int)
      case neg => rw [if_neg c4] at H; exact absurd H (by simp)
      rw [if_pos c4] at H
      have c4b0 : decide (x8_1 < (l0.length : Int)) = true := decide_eq_true c4
      clear c4
      by_cases c5 : x8_1 = (rd l0 x8_1)
      case neg =>
        rw [if_neg c5] at H
        have c5b0 : (x8_1 == (rd l0 x8_1)) = false := beq_eq_false_iff_ne.mpr c5
        have c5b1 : (x8_1 != (rd l0 x8_1)) = true := bne_iff_ne.mpr c5
        have H' := Aside0.mk H
        clear H
        have p101 : 0 ≤ (x8_1 : Int) := oD
        have q101 : x8_1 < (l0.length : Int) := oD
        obtain ⟨ad101, e101, hx101_0⟩ := Kd.at_int HR0.out x8_1 p101 q101
        cases e101
        replace p101 := eq_true p101
        replace q101 := eq_true q101
        go_wp2
        go_roundg k1
        case measure => have := HK1.out; omega
        case rel => exact ⟨(x3_1), (wrap64 (x8_1 + 1)), rs, rs, H', ⟨by have := HK1.out; omega⟩, by repeat (first | exact Drawn0.refl _ | apply Drawn0.step)⟩
      rw [if_pos c5] at H
      have c5b0 : (x8_1 == (rd l0 x8_1)) = true := beq_iff_eq.mpr c5
      have c5b1 : (x8_1 != (rd l0 x8_1)) = false := bne_eq_false_iff_eq.mpr c5
      clear c5
      have H' := Aside0.mk H
      clear H
      have p101 : 0 ≤ (x8_1 : Int) := oD
      have q101 : x8_1 < (l0.length : Int) := oD
      obtain ⟨ad101, e101, hx101_0⟩ := Kd.at_int HR0.out x8_1 p101 q101
      cases e101
      replace p101 := eq_true p101
      replace q101 := eq_true q101
      go_wp2
      go_roundg k1
      case measure => have := HK1.out; omega
      case rel => exact ⟨(wrap64 (x3_1 + 1)), (wrap64 (x8_1 + 1)), rs, rs, H', ⟨by have := HK1.out; omega⟩, by repeat (first | exact Drawn0.refl _ | apply Drawn0.step)⟩
/-! ### impl_every: function 147 -/
def impl_every.f (a0 : Int) : Option (Bool) := some true
set_option maxHeartbeats 8000000 in
set_option maxRecDepth 100000 in
theorem impl_every.calls (a0 : Int) (r : Bool) (w : World) (h : impl_every.f a0 = some r) :
    Calls Try.prog 147 #[.int .i64 a0] w fun e w' => e = .returned (.bool r) ∧ Drawn0 w w' := by
  have H : (some true) = some r := h
  clear h
  obtain rfl := Option.some.inj H
  go_enter Try.func147, Try.ntmps147
  go_wp2
  go_ret
  exact ⟨by first | rfl | (simp; done) | (simp [*]; done), by repeat (first | exact Drawn0.refl _ | apply Drawn0.step)⟩

/-! ### impl_Graph_classes: function 146 -/
mutual
def impl_Graph_classes.l0 : Nat → List Int → Int → Int → Int → List (List Int) → Option (List Int)
  | 0, _, _, _, _, _ => none
  | k + 1, x5, x15, x16, x102000, x102001 => if x16 < x15 then (if x5.length < 17592186044416 then (impl_Graph_classes.l0 k (x5 ++ [x16]) x15 (wrap64 (x16 + 1)) x102000 x102001) else (none)) else (impl_Graph_classes.l1 k x5 x102001 (x102001.length : Int) 0)
def impl_Graph_classes.l1 : Nat → List Int → List (List Int) → Int → Int → Option (List Int)
  | 0, _, _, _, _ => none
  | k + 1, x5, x25, x26, x27 => if x27 < x26 then (if 0 ≤ x27 then (if x27 < (x25.length : Int) then ((impl_every.f x27).bind fun t109 => (if t109 = true then (if 0 < ((rd_L1 x25 x27).length : Int) then (if 0 ≤ (rd (rd_L1 x25 x27) 0) then (if (rd (rd_L1 x25 x27) 0) < (x5.length : Int) then (if 1 < ((rd_L1 x25 x27).length : Int) then (if 0 ≤ (rd (rd_L1 x25 x27) 1) then (if (rd (rd_L1 x25 x27) 1) < (x5.length : Int) then (impl_Graph_classes.l2 k x5 (rd x5 (rd (rd_L1 x25 x27) 0)) (rd x5 (rd (rd_L1 x25 x27) 1)) x25 x26 x27 (x5.length : Int) 0) else (none)) else (none)) else (none)) else (none)) else (none)) else (none)) else (impl_Graph_classes.l1 k x5 x25 x26 (wrap64 (x27 + 1))))) else (none)) else (none)) else (some x5)
def impl_Graph_classes.l2 : Nat → List Int → Int → Int → List (List Int) → Int → Int → Int → Int → Option (List Int)
  | 0, _, _, _, _, _, _, _, _ => none
  | k + 1, x5, x9, x10, x25, x26, x27, x49, x50 => if x50 < x49 then (if 0 ≤ x50 then (if x50 < (x5.length : Int) then (if (rd x5 x50) = (mx x9 x10) then (impl_Graph_classes.l2 k (x5.set (x50 : Int).toNat (mn x9 x10)) x9 x10 x25 x26 x27 x49 (wrap64 (x50 + 1))) else (impl_Graph_classes.l2 k x5 x9 x10 x25 x26 x27 x49 (wrap64 (x50 + 1)))) else (none)) else (none)) else (impl_Graph_classes.l1 k x5 x25 x26 (wrap64 (x27 + 1)))
end
def impl_Graph_classes.f (k : Nat) (a0_0 : Int) (l0_1 : List (List Int)) : Option (List Int) := impl_Graph_classes.l0 k (([] : List Int)) a0_0 0 a0_0 l0_1
theorem impl_Graph_classes.mono_l : ∀ k, (∀ y0 y1 y2 y3 y4, LeO (impl_Graph_classes.l0 k y0 y1 y2 y3 y4) (impl_Graph_classes.l0 (k + 1) y0 y1 y2 y3 y4)) ∧ (∀ y0 y1 y2 y3, LeO (impl_Graph_classes.l1 k y0 y1 y2 y3) (impl_Graph_classes.l1 (k + 1) y0 y1 y2 y3)) ∧ (∀ y0 y1 y2 y3 y4 y5 y6 y7, LeO (impl_Graph_classes.l2 k y0 y1 y2 y3 y4 y5 y6 y7) (impl_Graph_classes.l2 (k + 1) y0 y1 y2 y3 y4 y5 y6 y7))
  | 0 => ⟨fun _ _ _ _ _ r h => by simp [impl_Graph_classes.l0] at h, fun _ _ _ _ r h => by simp [impl_Graph_classes.l1] at h, fun _ _ _ _ _ _ _ _ r h => by simp [impl_Graph_classes.l2] at h⟩
  | k + 1 => by
    obtain ⟨ih0, ih1, ih2⟩ := impl_Graph_classes.mono_l k
    refine ⟨?_, ?_, ?_⟩
    · intro y0 y1 y2 y3 y4
      unfold impl_Graph_classes.l0
      repeat' first
      | (with_reducible exact ih0 _ _ _ _ _)
      | (with_reducible exact ih1 _ _ _ _)
      | (with_reducible exact ih2 _ _ _ _ _ _ _ _)
      | (with_reducible exact LeO.refl _)
      | (with_reducible exact LeO.none _)
      | (with_reducible refine LeO.ite ?_ ?_)
      | (with_reducible refine LeO.bind ?_ (fun _ => ?_))
      | exact ih0 _ _ _ _ _
      | exact ih1 _ _ _ _
      | exact ih2 _ _ _ _ _ _ _ _
      | exact LeO.none _
      | refine LeO.ite ?_ ?_
      | refine LeO.bind ?_ (fun _ => ?_)
    · intro y0 y1 y2 y3
      unfold impl_Graph_classes.l1
      repeat' first
      | (with_reducible exact ih0 _ _ _ _ _)
      | (with_reducible exact ih1 _ _ _ _)
      | (with_reducible exact ih2 _ _ _ _ _ _ _ _)
      | (with_reducible exact LeO.refl _)
      | (with_reducible exact LeO.none _)
      | (with_reducible refine LeO.ite ?_ ?_)
      | (with_reducible refine LeO.bind ?_ (fun _ => ?_))
      | exact ih0 _ _ _ _ _
      | exact ih1 _ _ _ _
      | exact ih2 _ _ _ _ _ _ _ _
      | exact LeO.none _
      | refine LeO.ite ?_ ?_
      | refine LeO.bind ?_ (fun _ => ?_)
    · intro y0 y1 y2 y3 y4 y5 y6 y7
      unfold impl_Graph_classes.l2
      repeat' first
      | (with_reducible exact ih0 _ _ _ _ _)
      | (with_reducible exact ih1 _ _ _ _)
      | (with_reducible exact ih2 _ _ _ _ _ _ _ _)
      | (with_reducible exact LeO.refl _)
      | (with_reducible exact LeO.none _)
      | (with_reducible refine LeO.ite ?_ ?_)
      | (with_reducible refine LeO.bind ?_ (fun _ => ?_))
      | exact ih0 _ _ _ _ _
      | exact ih1 _ _ _ _
      | exact ih2 _ _ _ _ _ _ _ _
      | exact LeO.none _
      | refine LeO.ite ?_ ?_
      | refine LeO.bind ?_ (fun _ => ?_)
theorem impl_Graph_classes.mono : ∀ a0 a1 k, LeO (impl_Graph_classes.f k a0 a1) (impl_Graph_classes.f (k + 1) a0 a1) := by
  intro a0 a1 k
  obtain ⟨ih0, ih1, ih2⟩ := impl_Graph_classes.mono_l k
  unfold impl_Graph_classes.f
  repeat' first
      | (with_reducible exact ih0 _ _ _ _ _)
      | (with_reducible exact ih1 _ _ _ _)
      | (with_reducible exact ih2 _ _ _ _ _ _ _ _)
      | (with_reducible exact LeO.refl _)
      | (with_reducible exact LeO.none _)
      | (with_reducible refine LeO.ite ?_ ?_)
      | (with_reducible refine LeO.bind ?_ (fun _ => ?_))
      | exact ih0 _ _ _ _ _
      | exact ih1 _ _ _ _
      | exact ih2 _ _ _ _ _ _ _ _
      | exact LeO.none _
      | refine LeO.ite ?_ ?_
      | refine LeO.bind ?_ (fun _ => ?_)
set_option maxHeartbeats 8000000 in
set_option maxRecDepth 100000 in
theorem impl_Graph_classes.calls (k : Nat) (a0_0 : Int) (A0_1 : Option Addr) (c0_1 : Nat) (l0_1 : List (List Int)) (r : List Int) (w : World) (hr0_1 : Kd.C (Kd.slice 2 (Kd.int .i64)) w A0_1 l0_1.length l0_1) (hc0_1 : l0_1.length ≤ c0_1) (h : impl_Graph_classes.f k a0_0 l0_1 = some r) :
    Calls Try.prog 146 #[.agg #[.int .i64 a0_0, .slice A0_1 l0_1.length c0_1], .func (.func 147) #[] #[]] w fun e w' => ∃ v0_ : Value, e = .returned (v0_) ∧ Kd.R (Kd.int .i64) 2 w' w.heap.size (fun _ => True) v0_ r ∧ Below w.heap.size w w' := by
  have hu28 := Try.underlying28
  have HR0_1 := Aside0.mk hr0_1
  have HC0_1 := Aside0.mk hc0_1
  clear hr0_1 hc0_1
  have HB := Aside0.mk (Below.refl w.heap.size w)
  have H : (impl_Graph_classes.l0 k (([] : List Int)) a0_0 0 a0_0 l0_1) = some r := h
  clear h
  obtain ⟨y102, hy102⟩ : ∃ y_ : List Int, y_ = (([] : List Int)) := ⟨_, rfl⟩
  replace H : (impl_Graph_classes.l0 k y102 a0_0 0 a0_0 l0_1) = some r := by first | (rw [hy102]; with_reducible exact H) | (have H2_ := (Option.bind_some _ _).symm.trans H; rw [hy102]; with_reducible exact H2_) | (have H2_ := (Option.bind_some _ _).symm.trans H; with_reducible exact H2_) | with_reducible exact H | (rw [hy102]; exact H) | exact H
  have Ny102 := Aside0.mk hy102
  clear hy102
  have H' := Aside0.mk H
  clear H
  go_enter Try.func146, Try.ntmps146
  go_wp2_with (first | ((with_reducible refine gate_dst (N := 2) rfl ?_); refine box_event ?hg (N := 2) ?hd (cs := #[.int .i64 a0_0, .slice A0_1 l0_1.length c0_1]) (t := 28) ?hr ?_; (case hd => rfl); (case hg => rfl); (case hr => first | (go_simp; done) | (go_simp; rfl)); intro gb101 hg w2 hbox hb; have n0_ := Aside0.mk (below_step bl hb); have n1_ := Aside0.mk (hbox); have n2_ := Aside0.mk ((by rw [hg]; exact (below_size bl) : w.heap.size ≤ gb101)); have n3_ := Aside0.mk ((by rw [hg]; exact (below_size bl) : w.heap.size ≤ gb101)); clear HB; have HB := n0_; have BK101 := n1_; have GW101 := n2_; have GE101 := n3_; clear n0_ n1_ n2_ n3_; clear hb hbox hg) | ((with_reducible refine gate_dst (N := 13) rfl ?_); refine Kd.R_lit (Kd.int .i64) _ 2 ?hg (N := 13) ?hd (xs := ([] : List Int)) (inner := []) (ok := fun _ => True) (okp := fun _ => True) ?hr ?hp (fun _ hk => hk) trivial (Below.refl _ _) (Nat.le_refl _) (by simp) ?_; (case hd => rfl); (case hg => rfl); (case hr => first | (go_simp; done) | (go_simp; rfl)); (case hp => exact (Reps.none _ _)); intro v103 w3 ho4 hb hg_ hnew_; clear hg_ hnew_; (first | rw [← Ny102.out] at ho4 | (simp only [Int.reduceToNat] at ho4; rw [← Ny102.out] at ho4)); have n0_ := Aside0.mk (Kd.R_lower ho4 (below_size bl)); have n1_ := Aside0.mk (blk_below (g := gb101) (o := .cells #[.int .i64 a0_0, .slice A0_1 l0_1.length c0_1] 28 (0, 0)) bk hb); have n2_ := Aside0.mk (below_step bl hb); clear BK101; clear HB; have HO104 := n0_; have BK101 := n1_; have HB := n2_; clear n0_ n1_ n2_; clear hb ho4; have hcz5_0 : w3.cell? ⟨gb101, 0, none⟩ = some (.int .i64 a0_0) := (blk_cell BK101.out 0).trans rfl; have hcz5_1 : w3.cell? ⟨gb101, 1, none⟩ = some (.slice A0_1 l0_1.length c0_1) := (blk_cell BK101.out 1).trans rfl; have hfz5_0 := blk_frozen BK101.out 0; have hfz5_1 := blk_frozen BK101.out 1))
  repeat (go_quiet (first | ((with_reducible refine gate_dst (N := 2) rfl ?_); refine box_event ?hg (N := 2) ?hd (cs := #[.int .i64 a0_0, .slice A0_1 l0_1.length c0_1]) (t := 28) ?hr ?_; (case hd => rfl); (case hg => rfl); (case hr => first | (go_simp; done) | (go_simp; rfl)); intro gb101 hg w2 hbox hb; have n0_ := Aside0.mk (below_step bl hb); have n1_ := Aside0.mk (hbox); have n2_ := Aside0.mk ((by rw [hg]; exact (below_size bl) : w.heap.size ≤ gb101)); have n3_ := Aside0.mk ((by rw [hg]; exact (below_size bl) : w.heap.size ≤ gb101)); clear HB; have HB := n0_; have BK101 := n1_; have GW101 := n2_; have GE101 := n3_; clear n0_ n1_ n2_ n3_; clear hb hbox hg) | ((with_reducible refine gate_dst (N := 13) rfl ?_); refine Kd.R_lit (Kd.int .i64) _ 2 ?hg (N := 13) ?hd (xs := ([] : List Int)) (inner := []) (ok := fun _ => True) (okp := fun _ => True) ?hr ?hp (fun _ hk => hk) trivial (Below.refl _ _) (Nat.le_refl _) (by simp) ?_; (case hd => rfl); (case hg => rfl); (case hr => first | (go_simp; done) | (go_simp; rfl)); (case hp => exact (Reps.none _ _)); intro v103 w3 ho4 hb hg_ hnew_; clear hg_ hnew_; (first | rw [← Ny102.out] at ho4 | (simp only [Int.reduceToNat] at ho4; rw [← Ny102.out] at ho4)); have n0_ := Aside0.mk (Kd.R_lower ho4 (below_size bl)); have n1_ := Aside0.mk (blk_below (g := gb101) (o := .cells #[.int .i64 a0_0, .slice A0_1 l0_1.length c0_1] 28 (0, 0)) bk hb); have n2_ := Aside0.mk (below_step bl hb); clear BK101; clear HB; have HO104 := n0_; have BK101 := n1_; have HB := n2_; clear n0_ n1_ n2_; clear hb ho4; have hcz5_0 : w3.cell? ⟨gb101, 0, none⟩ = some (.int .i64 a0_0) := (blk_cell BK101.out 0).trans rfl; have hcz5_1 : w3.cell? ⟨gb101, 1, none⟩ = some (.slice A0_1 l0_1.length c0_1) := (blk_cell BK101.out 1).trans rfl; have hfz5_0 := blk_frozen BK101.out 0; have hfz5_1 := blk_frozen BK101.out 1)); try go_wp2_with (first | ((with_reducible refine gate_dst (N := 2) rfl ?_); refine box_event ?hg (N := 2) ?hd (cs := #[.int .i64 a0_0, .slice A0_1 l0_1.length c0_1]) (t := 28) ?hr ?_; (case hd => rfl); (case hg => rfl); (case hr => first | (go_simp; done) | (go_simp; rfl)); intro gb101 hg w2 hbox hb; have n0_ := Aside0.mk (below_step bl hb); have n1_ := Aside0.mk (hbox); have n2_ := Aside0.mk ((by rw [hg]; exact (below_size bl) : w.heap.size ≤ gb101)); have n3_ := Aside0.mk ((by rw [hg]; exact (below_size bl) : w.heap.size ≤ gb101)); clear HB; have HB := n0_; have BK101 := n1_; have GW101 := n2_; have GE101 := n3_; clear n0_ n1_ n2_ n3_; clear hb hbox hg) | ((with_reducible refine gate_dst (N := 13) rfl ?_); refine Kd.R_lit (Kd.int .i64) _ 2 ?hg (N := 13) ?hd (xs := ([] : List Int)) (inner := []) (ok := fun _ => True) (okp := fun _ => True) ?hr ?hp (fun _ hk => hk) trivial (Below.refl _ _) (Nat.le_refl _) (by simp) ?_; (case hd => rfl); (case hg => rfl); (case hr => first | (go_simp; done) | (go_simp; rfl)); (case hp => exact (Reps.none _ _)); intro v103 w3 ho4 hb hg_ hnew_; clear hg_ hnew_; (first | rw [← Ny102.out] at ho4 | (simp only [Int.reduceToNat] at ho4; rw [← Ny102.out] at ho4)); have n0_ := Aside0.mk (Kd.R_lower ho4 (below_size bl)); have n1_ := Aside0.mk (blk_below (g := gb101) (o := .cells #[.int .i64 a0_0, .slice A0_1 l0_1.length c0_1] 28 (0, 0)) bk hb); have n2_ := Aside0.mk (below_step bl hb); clear BK101; clear HB; have HO104 := n0_; have BK101 := n1_; have HB := n2_; clear n0_ n1_ n2_; clear hb ho4; have hcz5_0 : w3.cell? ⟨gb101, 0, none⟩ = some (.int .i64 a0_0) := (blk_cell BK101.out 0).trans rfl; have hcz5_1 : w3.cell? ⟨gb101, 1, none⟩ = some (.slice A0_1 l0_1.length c0_1) := (blk_cell BK101.out 1).trans rfl; have hfz5_0 := blk_frozen BK101.out 0; have hfz5_1 := blk_frozen BK101.out 1)))
  go_loopg [5, 16] k (fun kq v5 v16 w' => ∃ (x5_1 : List Int) (x16_1 : Int), v16 = .int .i64 x16_1 ∧ Aside0 (impl_Graph_classes.l0 kq x5_1 a0_0 x16_1 a0_0 l0_1 = some r) ∧ Aside0 (kq ≤ k) ∧ Aside0 (Kd.R (Kd.int .i64) 2 w' w.heap.size (fun _ => True) v5 x5_1) ∧ Aside0 (w'.heap[gb101]? = some (.cells #[.int .i64 a0_0, (.slice A0_1 l0_1.length c0_1)] 28 (0, 0))) ∧ Aside0 (Below w.heap.size w w'))
  case atStart => exact ⟨(y102), (0), rs, H', ⟨Nat.le_refl _⟩, ⟨by (with_reducible repeat (first | apply Kd.R_alloc | apply Kd.R_drewN | apply Kd.R_drew)); exact HO104.out⟩, ⟨bk⟩, ⟨bl⟩⟩
  case round =>
    clear H'
    (try clear c1); (try clear p2); (try clear hcz5_0); (try clear hcz5_1); (try clear hfz5_0); (try clear hfz5_1)
    obtain ⟨x5_1, x16_1, rfl, HA, HK1, HO_5, BK101, HB⟩ := hrel
    cases gk with
    | zero => exact absurd HA.out (by simp [impl_Graph_classes.l0])
    | succ k1 =>
      have H := HA.out
      clear HA
      simp only [impl_Graph_classes.l0] at H
      by_cases c6 : x16_1 < a0_0
      case neg =>
        rw [if_neg c6] at H
        have c6b0 : decide (x16_1 < a0_0) = false := decide_eq_false c6
        clear c6
        have H' := Aside0.mk H
        clear H
        have hcz9_0 : wr.cell? ⟨gb101, 0, none⟩ = some (.int .i64 a0_0) := (blk_cell BK101.out 0).trans rfl
        have hcz9_1 : wr.cell? ⟨gb101, 1, none⟩ = some (.slice A0_1 l0_1.length c0_1) := (blk_cell BK101.out 1).trans rfl
        have hfz9_0 := blk_frozen BK101.out 0
        have hfz9_1 := blk_frozen BK101.out 1
        go_wp2
        repeat (go_quiet (fail); try go_wp2)
        go_loopg [27] k1 (fun kq v27 w' => ∃ (x5_2 : List Int) (x27_2 : Int), v27 = .int .i64 x27_2 ∧ Aside0 (impl_Graph_classes.l1 kq x5_2 l0_1 (l0_1.length : Int) x27_2 = some r) ∧ Aside0 (kq ≤ k1) ∧ Aside0 (Kd.R (Kd.int .i64) 2 w' w.heap.size (fun _ => True) u5 x5_2) ∧ Aside0 (w'.heap[gb101]? = some (.cells #[.int .i64 a0_0, (.slice A0_1 l0_1.length c0_1)] 28 (0, 0))) ∧ Aside0 (Below w.heap.size w w'))
        case atStart => exact ⟨(x5_1), (0), rs, H', ⟨Nat.le_refl _⟩, ⟨by (with_reducible repeat (first | apply Kd.R_alloc | apply Kd.R_drewN | apply Kd.R_drew)); exact HO_5.out⟩, ⟨bk⟩, ⟨bl⟩⟩
        case round =>
          clear H'
          (try clear c1); (try clear p2); (try clear c6); (try clear c6b0); (try clear p6); (try clear c7); (try clear hcz5_0); (try clear hcz5_1); (try clear hcz9_0); (try clear hcz9_1); (try clear hfz5_0); (try clear hfz5_1); (try clear hfz9_0); (try clear hfz9_1); (try clear p2)
          obtain ⟨x5_2, x27_2, rfl, HA, HK2, HO_5, BK101, HB⟩ := hrel
          cases gk with
          | zero => exact absurd HA.out (by simp [impl_Graph_classes.l1])
          | succ k2 =>
            have H := HA.out
            clear HA
            simp only [impl_Graph_classes.l1] at H
            by_cases c10 : x27_2 < (l0_1.length : Int)
            case neg =>
              rw [if_neg c10] at H
              have c10b0 : decide (x27_2 < (l0_1.length : Int)) = false := decide_eq_false c10
              clear c10
              obtain rfl := Option.some.inj H
              go_wp2
              repeat (go_quiet (fail); try go_wp2)
              go_ret
              exact ⟨_, by first | rfl | (simp [errW_none, errW_some] <;> rfl) | (simp [*, errW_none, errW_some] <;> rfl), by (with_reducible repeat (first | apply Kd.R_alloc | apply Kd.R_drewN | apply Kd.R_drew)); exact HO_5.out, bl⟩
            rw [if_pos c10] at H
            have c10b0 : decide (x27_2 < (l0_1.length : Int)) = true := decide_eq_true c10
            clear c10
            by_cases c11 : 0 ≤ x27_2
            case neg => rw [if_neg c11] at H; exact absurd H (by simp)
            rw [if_pos c11] at H
            have c11b0 : decide (0 ≤ x27_2) = true := decide_eq_true c11
            clear c11
            by_cases c12 : x27_2 < (l0_1.length : Int)
            case neg => rw [if_neg c12] at H; exact absurd H (by simp)
            rw [if_pos c12] at H
            have c12b0 : decide (x27_2 < (l0_1.length : Int)) = true := decide_eq_true c12
            clear c12
            replace H := Option.bind_eq_some_iff.mp H
            obtain ⟨t109, A130, H⟩ := H
            replace H : (if t109 = true then (if 0 < ((rd_L1 l0_1 x27_2).length : Int) then (if 0 ≤ (rd (rd_L1 l0_1 x27_2) 0) then (if (rd (rd_L1 l0_1 x27_2) 0) < (x5_2.length : Int) then (if 1 < ((rd_L1 l0_1 x27_2).length : Int) then (if 0 ≤ (rd (rd_L1 l0_1 x27_2) 1) then (if (rd (rd_L1 l0_1 x27_2) 1) < (x5_2.length : Int) then (impl_Graph_classes.l2 k2 x5_2 (rd x5_2 (rd (rd_L1 l0_1 x27_2) 0)) (rd x5_2 (rd (rd_L1 l0_1 x27_2) 1)) l0_1 (l0_1.length : Int) x27_2 (x5_2.length : Int) 0) else (none)) else (none)) else (none)) else (none)) else (none)) else (none)) else (impl_Graph_classes.l1 k2 x5_2 l0_1 (l0_1.length : Int) (wrap64 (x27_2 + 1)))) = some r := H
            have A13 := Aside0.mk A130
            clear A130
            by_cases c14 : t109 = true
            case neg =>
              replace c14 := Bool.eq_false_iff.mpr c14
              subst c14
              have H1 : (impl_Graph_classes.l1 k2 x5_2 l0_1 (l0_1.length : Int) (wrap64 (x27_2 + 1))) = some r := by rw [if_neg (show ¬ (false = true) by decide)] at H; exact H
              clear H
              have H := H1
              clear H1
              have H' := Aside0.mk H
              clear H
              have p108 : 0 ≤ (x27_2 : Int) := oD
              have q108 : x27_2 < (l0_1.length : Int) := oD
              obtain ⟨ad108, A108_0, c108_0, e108, hx108_0, hl108_0, hi108_0⟩ := at_L1 HR0_1.out x27_2 p108 q108
              cases e108
              replace hx108_0 := hbc HB hx108_0
              have HR108_0 := Aside0.mk hi108_0
              have HC108_0 := Aside0.mk hl108_0
              clear hi108_0 hl108_0
              replace p108 := eq_true p108
              replace q108 := eq_true q108
              go_wp2_with (first | (go_at_call 147; (with_reducible refine (impl_every.calls x27_2 false _ A13.out).mono ?_); rintro e w' ⟨rfl, ⟨nd, rfl⟩⟩; (try first | exact ⟨rfl, _, World.drewN_drewN _ _ _⟩ | exact ⟨rfl, _, Eq.trans (World.drewN_drewN _ _ _) (congrArg (World.drewN _) (Nat.add_assoc _ _ _))⟩)))
              repeat (go_quiet (first | (go_at_call 147; (with_reducible refine (impl_every.calls x27_2 false _ A13.out).mono ?_); rintro e w' ⟨rfl, ⟨nd, rfl⟩⟩; (try first | exact ⟨rfl, _, World.drewN_drewN _ _ _⟩ | exact ⟨rfl, _, Eq.trans (World.drewN_drewN _ _ _) (congrArg (World.drewN _) (Nat.add_assoc _ _ _))⟩))); try go_wp2_with (first | (go_at_call 147; (with_reducible refine (impl_every.calls x27_2 false _ A13.out).mono ?_); rintro e w' ⟨rfl, ⟨nd, rfl⟩⟩; (try first | exact ⟨rfl, _, World.drewN_drewN _ _ _⟩ | exact ⟨rfl, _, Eq.trans (World.drewN_drewN _ _ _) (congrArg (World.drewN _) (Nat.add_assoc _ _ _))⟩))))
              first | go_roundg k2 | (simp only [← hji26]; go_roundg k2) | (simp only [← hji28]; go_roundg k2)
              case measure => have := HK1.out; have := HK2.out; omega
              case rel => exact ⟨(x5_2), (wrap64 (x27_2 + 1)), rs, (by first | exact H' | (rw [hji26]; exact H') | (rw [hji28]; exact H')), ⟨by have := HK1.out; have := HK2.out; omega⟩, ⟨by (with_reducible repeat (first | apply Kd.R_alloc | apply Kd.R_drewN | apply Kd.R_drew)); exact HO_5.out⟩, ⟨bk⟩, ⟨bl⟩⟩
            subst c14
            have H1 : (if 0 < ((rd_L1 l0_1 x27_2).length : Int) then (if 0 ≤ (rd (rd_L1 l0_1 x27_2) 0) then (if (rd (rd_L1 l0_1 x27_2) 0) < (x5_2.length : Int) then (if 1 < ((rd_L1 l0_1 x27_2).length : Int) then (if 0 ≤ (rd (rd_L1 l0_1 x27_2) 1) then (if (rd (rd_L1 l0_1 x27_2) 1) < (x5_2.length : Int) then (impl_Graph_classes.l2 k2 x5_2 (rd x5_2 (rd (rd_L1 l0_1 x27_2) 0)) (rd x5_2 (rd (rd_L1 l0_1 x27_2) 1)) l0_1 (l0_1.length : Int) x27_2 (x5_2.length : Int) 0) else (none)) else (none)) else (none)) else (none)) else (none)) else (none)) = some r := by rw [if_pos rfl] at H; exact H
            clear H
            have H := H1
            clear H1
            by_cases c15 : 0 < ((rd_L1 l0_1 x27_2).length : Int)
            case neg => rw [if_neg c15] at H; exact absurd H (by simp)
            rw [if_pos c15] at H
            have c15b0 : decide (0 < ((rd_L1 l0_1 x27_2).length : Int)) = true := decide_eq_true c15
            have c15b1 : decide (0 < (rd_L1 l0_1 x27_2).length) = true := decide_eq_true (by omega)
            clear c15
            by_cases c16 : 0 ≤ (rd (rd_L1 l0_1 x27_2) 0)
            case neg => rw [if_neg c16] at H; exact absurd H (by simp)
            rw [if_pos c16] at H
            have c16b0 : decide (0 ≤ (rd (rd_L1 l0_1 x27_2) 0)) = true := decide_eq_true c16
            clear c16
            by_cases c17 : (rd (rd_L1 l0_1 x27_2) 0) < (x5_2.length : Int)
            case neg => rw [if_neg c17] at H; exact absurd H (by simp)
            rw [if_pos c17] at H
            have c17b0 : decide ((rd (rd_L1 l0_1 x27_2) 0) < (x5_2.length : Int)) = true := decide_eq_true c17
            clear c17
            by_cases c18 : 1 < ((rd_L1 l0_1 x27_2).length : Int)
            case neg => rw [if_neg c18] at H; exact absurd H (by simp)
            rw [if_pos c18] at H
            have c18b0 : decide (1 < ((rd_L1 l0_1 x27_2).length : Int)) = true := decide_eq_true c18
            have c18b1 : decide (1 < (rd_L1 l0_1 x27_2).length) = true := decide_eq_true (by omega)
            clear c18
            by_cases c19 : 0 ≤ (rd (rd_L1 l0_1 x27_2) 1)
            case neg => rw [if_neg c19] at H; exact absurd H (by simp)
            rw [if_pos c19] at H
            have c19b0 : decide (0 ≤ (rd (rd_L1 l0_1 x27_2) 1)) = true := decide_eq_true c19
            clear c19
            by_cases c20 : (rd (rd_L1 l0_1 x27_2) 1) < (x5_2.length : Int)
            case neg => rw [if_neg c20] at H; exact absurd H (by simp)
            rw [if_pos c20] at H
            have c20b0 : decide ((rd (rd_L1 l0_1 x27_2) 1) < (x5_2.length : Int)) = true := decide_eq_true c20
            clear c20
            have H' := Aside0.mk H
            clear H
            have p108 : 0 ≤ (x27_2 : Int) := oD
            have q108 : x27_2 < (l0_1.length : Int) := oD
            obtain ⟨ad108, A108_0, c108_0, e108, hx108_0, hl108_0, hi108_0⟩ := at_L1 HR0_1.out x27_2 p108 q108
            cases e108
            replace hx108_0 := hbc HB hx108_0
            have HR108_0 := Aside0.mk hi108_0
            have HC108_0 := Aside0.mk hl108_0
            clear hi108_0 hl108_0
            replace p108 := eq_true p108
            replace q108 := eq_true q108
            have p110 : 0 ≤ (0 : Int) := (by omega)
            have q110 : 0 < ((rd_L1 l0_1 x27_2).length : Int) := oD
            obtain ⟨ad110, e110, hx110_0⟩ := Kd.at_int HR108_0.out 0 p110 q110
            cases e110
            have qi110 : (0 < (rd_L1 l0_1 x27_2).length) = True := eq_true (by omega)
            (try rw [show ((0 : Int)).toNat = 0 from rfl] at hx110_0)
            (try rw [Addr.add_zero'] at hx110_0)
            replace hx110_0 := hbc HB hx110_0
            replace p110 := eq_true p110
            replace q110 := eq_true q110
            obtain ⟨Ao21, co21, eo21⟩ := Kd.R_slice HO_5.out
            subst eo21
            obtain ⟨go22, co22, eo22, gb22, gl22, cl22, HG22⟩ := Kd.R_form HO_5.out (by have hp_ : 0 ≤ ((rd (rd_L1 l0_1 x27_2) 0) : Int) := oD; have hq_ : ((rd (rd_L1 l0_1 x27_2) 0) : Int) < ((x5_2.length : Int) : Int) := oD; omega)
            (first | cases eo22 | (injection eo22 with ea_ en_ ec_; (first | subst ea_ | (injection ea_ with ea_; subst ea_)); subst ec_; clear en_))
            have GB22 := Aside0.mk gb22
            have GG22 := Aside0.mk HG22
            clear gb22 gl22 HG22
            have p111 : 0 ≤ ((rd (rd_L1 l0_1 x27_2) 0) : Int) := oD
            have q111 : (rd (rd_L1 l0_1 x27_2) 0) < (x5_2.length : Int) := oD
            obtain ⟨ad111, e111, hx111_0⟩ := Kd.at_int (Kd.R_reads' HO_5.out).2.2 (rd (rd_L1 l0_1 x27_2) 0) p111 q111
            obtain rfl : (⟨go22, 0, none⟩ : Addr) = ad111 := (by injection e111)
            (first | simp only [add_plain] at hx111_0 | simp only [add_at] at hx111_0 | simp only [Addr.add, Nat.zero_add] at hx111_0 | skip)
            replace p111 := eq_true p111
            replace q111 := eq_true q111
            have p112 : 0 ≤ (1 : Int) := (by omega)
            have q112 : 1 < ((rd_L1 l0_1 x27_2).length : Int) := oD
            obtain ⟨ad112, e112, hx112_0⟩ := Kd.at_int HR108_0.out 1 p112 q112
            obtain rfl : ad110 = ad112 := (by injection e112)
            (try simp only [show (1 : Int).toNat = 1 from rfl, Nat.reduceMul, Nat.reduceEqDiff, Go.Addr.add, ↓reduceIte] at hx112_0)
            have qi112 : (1 < (rd_L1 l0_1 x27_2).length) = True := eq_true (by omega)
            (try rw [show ((1 : Int)).toNat = 1 from rfl] at hx112_0)
            replace hx112_0 := hbc HB hx112_0
            replace p112 := eq_true p112
            replace q112 := eq_true q112
            have p113 : 0 ≤ ((rd (rd_L1 l0_1 x27_2) 1) : Int) := oD
            have q113 : (rd (rd_L1 l0_1 x27_2) 1) < (x5_2.length : Int) := oD
            obtain ⟨ad113, e113, hx113_0⟩ := Kd.at_int (Kd.R_reads' HO_5.out).2.2 (rd (rd_L1 l0_1 x27_2) 1) p113 q113
            obtain rfl : (⟨go22, 0, none⟩ : Addr) = ad113 := (by injection e113)
            (first | simp only [add_plain] at hx113_0 | simp only [add_at] at hx113_0 | simp only [Addr.add, Nat.zero_add] at hx113_0 | skip)
            replace p113 := eq_true p113
            replace q113 := eq_true q113
            go_wp2_with (first | (go_at_call 147; (with_reducible refine (impl_every.calls x27_2 true _ A13.out).mono ?_); rintro e w' ⟨rfl, ⟨nd, rfl⟩⟩; (try first | exact ⟨rfl, _, World.drewN_drewN _ _ _⟩ | exact ⟨rfl, _, Eq.trans (World.drewN_drewN _ _ _) (congrArg (World.drewN _) (Nat.add_assoc _ _ _))⟩)))
            repeat (go_quiet (first | (go_at_call 147; (with_reducible refine (impl_every.calls x27_2 true _ A13.out).mono ?_); rintro e w' ⟨rfl, ⟨nd, rfl⟩⟩; (try first | exact ⟨rfl, _, World.drewN_drewN _ _ _⟩ | exact ⟨rfl, _, Eq.trans (World.drewN_drewN _ _ _) (congrArg (World.drewN _) (Nat.add_assoc _ _ _))⟩))); try go_wp2_with (first | (go_at_call 147; (with_reducible refine (impl_every.calls x27_2 true _ A13.out).mono ?_); rintro e w' ⟨rfl, ⟨nd, rfl⟩⟩; (try first | exact ⟨rfl, _, World.drewN_drewN _ _ _⟩ | exact ⟨rfl, _, Eq.trans (World.drewN_drewN _ _ _) (congrArg (World.drewN _) (Nat.add_assoc _ _ _))⟩))))
            go_loopg [50] k2 (fun kq v50 w' => ∃ (x5_3 : List Int) (x50_3 : Int), v50 = .int .i64 x50_3 ∧ Aside0 (impl_Graph_classes.l2 kq x5_3 (rd x5_2 (rd (rd_L1 l0_1 x27_2) 0)) (rd x5_2 (rd (rd_L1 l0_1 x27_2) 1)) l0_1 (l0_1.length : Int) x27_2 (x5_2.length : Int) x50_3 = some r) ∧ Aside0 (kq ≤ k2) ∧ Aside0 (Kd.R (Kd.int .i64) 2 w' w.heap.size (fun _ => True) (.slice (some ⟨go22, 0, none⟩) x5_2.length co21) x5_3) ∧ Aside0 (w'.heap[gb101]? = some (.cells #[.int .i64 a0_0, (.slice (some ad108) l0_1.length c0_1)] 28 (0, 0))) ∧ Aside0 (Below w.heap.size w w'))
            case atStart => exact ⟨(x5_2), (0), rs, H', ⟨Nat.le_refl _⟩, ⟨by (with_reducible repeat (first | apply Kd.R_alloc | apply Kd.R_drewN | apply Kd.R_drew)); exact HO_5.out⟩, ⟨bk⟩, ⟨bl⟩⟩
            case round =>
              clear H'
              (try clear c1); (try clear p1); (try clear q1); (try clear hx1); (try clear qi1); (try clear c2); (try clear p2); (try clear c6); (try clear c6b0); (try clear p6); (try clear c7); (try clear c10); (try clear c10b0); (try clear p10); (try clear q10); (try clear hx10); (try clear c11); (try clear c11b0); (try clear p11); (try clear q11); (try clear hx11); (try clear qi11); (try clear c12); (try clear c12b0); (try clear c14); (try clear c15); (try clear c15b0); (try clear c15b1); (try clear c16); (try clear c16b0); (try clear c17); (try clear c17b0); (try clear c18); (try clear c18b0); (try clear c18b1); (try clear c19); (try clear c19b0); (try clear c20); (try clear c20b0); (try clear hcz5_0); (try clear hcz5_1); (try clear hcz9_0); (try clear hcz9_1); (try clear hfz5_0); (try clear hfz5_1); (try clear hfz9_0); (try clear hfz9_1); (try clear hx108_0); (try clear hx110_0); (try clear hx111_0); (try clear hx112_0); (try clear hx113_0); (try clear p108); (try clear p110); (try clear p111); (try clear p112); (try clear p113); (try clear p2); (try clear p6); (try clear q108); (try clear q110); (try clear q111); (try clear q112); (try clear q113)
              obtain ⟨x5_3, x50_3, rfl, HA, HK3, HO_5, BK101, HB⟩ := hrel
              have hl5_3 := (Kd.R_reads' HO_5.out).1
              rw [hl5_3] at HO_5
              (try simp only [hl5_3])
              (try simp only [hl5_3] at BK101)
              cases gk with
              | zero => exact absurd HA.out (by simp [impl_Graph_classes.l2])
              | succ k3 =>
                have H := HA.out
                clear HA
                simp only [impl_Graph_classes.l2] at H
                by_cases c23 : x50_3 < (x5_2.length : Int)
                case neg =>
                  rw [if_neg c23] at H
                  have c23b0 : decide (x50_3 < (x5_2.length : Int)) = false := decide_eq_false c23
                  (try simp only [hl5_3] at c23b0)
                  clear c23
                  have H' := Aside0.mk H
                  clear H
                  go_wp2
                  repeat (go_quiet (fail); try go_wp2)
                  (try simp only [← hl5_3])
                  first | go_roundg k3 | (simp only [← hji26]; go_roundg k3) | (simp only [← hji28]; go_roundg k3)
                  case measure => have := HK1.out; have := HK2.out; have := HK3.out; omega
                  case rel => exact ⟨(x5_3), (wrap64 (x27_2 + 1)), rs, (by first | exact H' | (rw [hji26]; exact H') | (rw [hji28]; exact H')), ⟨by have := HK1.out; have := HK2.out; have := HK3.out; omega⟩, ⟨by (try simp only [hl5_3]); (with_reducible repeat (first | apply Kd.R_alloc | apply Kd.R_drewN | apply Kd.R_drew)); exact HO_5.out⟩, ⟨by (try simp only [hl5_3]); (with_reducible repeat (first | refine blk_drewN ?_ _ | refine blk_drew ?_ | refine blk_alloc ?_ _)); exact BK101.out⟩, ⟨bl⟩⟩
                rw [if_pos c23] at H
                have c23b0 : decide (x50_3 < (x5_2.length : Int)) = true := decide_eq_true c23
                (try simp only [hl5_3] at c23b0)
                clear c23
                by_cases c24 : 0 ≤ x50_3
                case neg => rw [if_neg c24] at H; exact absurd H (by simp)
                rw [if_pos c24] at H
                have c24b0 : decide (0 ≤ x50_3) = true := decide_eq_true c24
                clear c24
                by_cases c25 : x50_3 < (x5_3.length : Int)
                case neg => rw [if_neg c25] at H; exact absurd H (by simp)
                rw [if_pos c25] at H
                have c25b0 : decide (x50_3 < (x5_3.length : Int)) = true := decide_eq_true c25
                (try simp only [hl5_3] at c25b0)
                clear c25
                obtain ⟨ji26, hji26⟩ : ∃ j_ : Int, (mx (rd x5_2 (rd (rd_L1 l0_1 x27_2) 0)) (rd x5_2 (rd (rd_L1 l0_1 x27_2) 1))) = j_ := ⟨_, rfl⟩
                replace H : (if (rd x5_3 x50_3) = (ji26) then (impl_Graph_classes.l2 k3 (x5_3.set (x50_3 : Int).toNat (mn (rd x5_2 (rd (rd_L1 l0_1 x27_2) 0)) (rd x5_2 (rd (rd_L1 l0_1 x27_2) 1)))) (rd x5_2 (rd (rd_L1 l0_1 x27_2) 0)) (rd x5_2 (rd (rd_L1 l0_1 x27_2) 1)) l0_1 (l0_1.length : Int) x27_2 (x5_2.length : Int) (wrap64 (x50_3 + 1))) else (impl_Graph_classes.l2 k3 x5_3 (rd x5_2 (rd (rd_L1 l0_1 x27_2) 0)) (rd x5_2 (rd (rd_L1 l0_1 x27_2) 1)) l0_1 (l0_1.length : Int) x27_2 (x5_2.length : Int) (wrap64 (x50_3 + 1)))) = some r := by first | (rw [hji26] at H; exact H) | (simp only [hji26] at H ⊢; exact H)
                have hji26_ : (if (rd x5_2 (rd (rd_L1 l0_1 x27_2) 0)) < (rd x5_2 (rd (rd_L1 l0_1 x27_2) 1)) then (rd x5_2 (rd (rd_L1 l0_1 x27_2) 1)) else (rd x5_2 (rd (rd_L1 l0_1 x27_2) 0))) = ji26 := hji26
                by_cases c27 : (rd x5_3 x50_3) = (ji26)
                case neg =>
                  rw [if_neg c27] at H
                  have c27b0 : ((rd x5_3 x50_3) == (ji26)) = false := beq_eq_false_iff_ne.mpr c27
                  have c27b1 : ((rd x5_3 x50_3) != (ji26)) = true := bne_iff_ne.mpr c27
                  have H' := Aside0.mk H
                  clear H
                  have p114 : 0 ≤ (x50_3 : Int) := oD
                  have q114 : x50_3 < (x5_3.length : Int) := oD
                  obtain ⟨ad114, e114, hx114_0⟩ := Kd.at_int (Kd.R_reads' HO_5.out).2.2 x50_3 p114 q114
                  obtain rfl : (⟨go22, 0, none⟩ : Addr) = ad114 := (by injection e114)
                  (first | simp only [add_plain] at hx114_0 | simp only [add_at] at hx114_0 | simp only [Addr.add, Nat.zero_add] at hx114_0 | skip)
                  replace p114 := eq_true p114
                  replace q114 := eq_true q114
                  go_wp2
                  repeat (go_quiet (fail); try go_wp2)
                  (try simp only [← hl5_3])
                  first | go_roundg k3 | (simp only [← hji26]; go_roundg k3) | (simp only [← hji28]; go_roundg k3)
                  case measure => have := HK1.out; have := HK2.out; have := HK3.out; omega
                  case rel => exact ⟨(x5_3), (wrap64 (x50_3 + 1)), rs, (by first | exact H' | (rw [hji26]; exact H') | (rw [hji28]; exact H')), ⟨by have := HK1.out; have := HK2.out; have := HK3.out; omega⟩, ⟨by (try simp only [hl5_3]); (with_reducible repeat (first | apply Kd.R_alloc | apply Kd.R_drewN | apply Kd.R_drew)); exact HO_5.out⟩, ⟨by (try simp only [hl5_3]); (with_reducible repeat (first | refine blk_drewN ?_ _ | refine blk_drew ?_ | refine blk_alloc ?_ _)); exact BK101.out⟩, ⟨bl⟩⟩
                rw [if_pos c27] at H
                have c27b0 : ((rd x5_3 x50_3) == (ji26)) = true := beq_iff_eq.mpr c27
                have c27b1 : ((rd x5_3 x50_3) != (ji26)) = false := bne_eq_false_iff_eq.mpr c27
                clear c27
                obtain ⟨ji28, hji28⟩ : ∃ j_ : Int, (mn (rd x5_2 (rd (rd_L1 l0_1 x27_2) 0)) (rd x5_2 (rd (rd_L1 l0_1 x27_2) 1))) = j_ := ⟨_, rfl⟩
                replace H : (impl_Graph_classes.l2 k3 (x5_3.set (x50_3 : Int).toNat (ji28)) (rd x5_2 (rd (rd_L1 l0_1 x27_2) 0)) (rd x5_2 (rd (rd_L1 l0_1 x27_2) 1)) l0_1 (l0_1.length : Int) x27_2 (x5_2.length : Int) (wrap64 (x50_3 + 1))) = some r := by first | (rw [hji28] at H; exact H) | (simp only [hji28] at H ⊢; exact H)
                have hji28_ : (if (rd x5_2 (rd (rd_L1 l0_1 x27_2) 1)) < (rd x5_2 (rd (rd_L1 l0_1 x27_2) 0)) then (rd x5_2 (rd (rd_L1 l0_1 x27_2) 1)) else (rd x5_2 (rd (rd_L1 l0_1 x27_2) 0))) = ji28 := hji28
                obtain ⟨y115, hy115⟩ : ∃ y_ : List Int, y_ = (x5_3.set (x50_3 : Int).toNat (ji28)) := ⟨_, rfl⟩
                replace H : (impl_Graph_classes.l2 k3 y115 (rd x5_2 (rd (rd_L1 l0_1 x27_2) 0)) (rd x5_2 (rd (rd_L1 l0_1 x27_2) 1)) l0_1 (l0_1.length : Int) x27_2 (x5_2.length : Int) (wrap64 (x50_3 + 1))) = some r := by first | (rw [hy115]; with_reducible exact H) | (have H2_ := (Option.bind_some _ _).symm.trans H; rw [hy115]; with_reducible exact H2_) | (have H2_ := (Option.bind_some _ _).symm.trans H; with_reducible exact H2_) | with_reducible exact H | (rw [hy115]; exact H) | exact H
                have Ny115 := Aside0.mk hy115
                clear hy115
                have H' := Aside0.mk H
                clear H
                have p114 : 0 ≤ (x50_3 : Int) := oD
                have q114 : x50_3 < (x5_3.length : Int) := oD
                obtain ⟨ad114, e114, hx114_0⟩ := Kd.at_int (Kd.R_reads' HO_5.out).2.2 x50_3 p114 q114
                obtain rfl : (⟨go22, 0, none⟩ : Addr) = ad114 := (by injection e114)
                (first | simp only [add_plain] at hx114_0 | simp only [add_at] at hx114_0 | simp only [Addr.add, Nat.zero_add] at hx114_0 | skip)
                replace p114 := eq_true p114
                replace q114 := eq_true q114
                have p29 : 0 ≤ (x50_3 : Int) := oD
                have q29 : (x50_3 : Int) < ((x5_3.length : Int) : Int) := oD
                obtain ⟨hx29_0, hf29_0⟩ := Kd.R_celln 0 HO_5.out (x50_3 : Int) p29 q29
                replace p29 := eq_true p29
                replace q29 := eq_true q29
                have HP30 := Kd.R_putg HO_5.out (x50_3 : Int) ji28
                go_wp2_with (first | ((with_reducible refine gate_store (t := 2) (p := 65) rfl ?_); (try (rw [drewN_self wr]; generalize hq_ : World.drewN wr _ = wr; have n0_ := Aside0.mk (Kd.R_at hq_ HO_5.out); have n1_ := Aside0.mk (blk_at hq_ BK101.out); have n2_ := Aside0.mk (below_at hq_ HB.out); clear hq_ HO_5 BK101 HB; have HO_5 := n0_; have BK101 := n1_; have HB := n2_; clear n0_ n1_ n2_; (try (have HP30 := Kd.R_putg HO_5.out (x50_3 : Int) ji28)))); refine store_event (t := 2) (p := 65) (v := ?vo_w31) (w1 := (wr.setCell ⟨go22, (x50_3 : Int).toNat, none⟩ (.int .i64 ji28))) ?hg ?ho ?hn ?hr ?_; (case ho => rfl); (case hg => rfl); (case hn => rfl); (case hr => first | (go_simp; done) | (go_simp; rfl)); intro w31 hw; have hg : wr.grownBy w31 (some go22) := (by rw [hw]; exact HP30.2); have hp_ : Kd.R (Kd.int .i64) 2 w31 w.heap.size (fun _ => True) (.slice (some ⟨go22, 0, none⟩) x5_3.length co21) y115 := (by rw [hw, Ny115.out]; exact HP30.1); clear HP30; have n0_ := Aside0.mk (hp_); have n1_ := Aside0.mk (blk_grown (g := gb101) (o := .cells #[.int .i64 a0_0, .slice (some ad108) l0_1.length c0_1] 28 (0, 0)) bk hg (Kd.R_ne HO_5.out BK101.out (by decide))); have n2_ := Aside0.mk ((by rw [hw]; exact below_set (HB.out) GB22.out : Below w.heap.size w w31)); clear HO_5; clear BK101; clear HB; have HO_5 := n0_; have BK101 := n1_; have HB := n2_; clear n0_ n1_ n2_; clear hg hw hp_))
                repeat (go_quiet (first | ((with_reducible refine gate_store (t := 2) (p := 65) rfl ?_); (try (rw [drewN_self wr]; generalize hq_ : World.drewN wr _ = wr; have n0_ := Aside0.mk (Kd.R_at hq_ HO_5.out); have n1_ := Aside0.mk (blk_at hq_ BK101.out); have n2_ := Aside0.mk (below_at hq_ HB.out); clear hq_ HO_5 BK101 HB; have HO_5 := n0_; have BK101 := n1_; have HB := n2_; clear n0_ n1_ n2_; (try (have HP30 := Kd.R_putg HO_5.out (x50_3 : Int) ji28)))); refine store_event (t := 2) (p := 65) (v := ?vo_w31) (w1 := (wr.setCell ⟨go22, (x50_3 : Int).toNat, none⟩ (.int .i64 ji28))) ?hg ?ho ?hn ?hr ?_; (case ho => rfl); (case hg => rfl); (case hn => rfl); (case hr => first | (go_simp; done) | (go_simp; rfl)); intro w31 hw; have hg : wr.grownBy w31 (some go22) := (by rw [hw]; exact HP30.2); have hp_ : Kd.R (Kd.int .i64) 2 w31 w.heap.size (fun _ => True) (.slice (some ⟨go22, 0, none⟩) x5_3.length co21) y115 := (by rw [hw, Ny115.out]; exact HP30.1); clear HP30; have n0_ := Aside0.mk (hp_); have n1_ := Aside0.mk (blk_grown (g := gb101) (o := .cells #[.int .i64 a0_0, .slice (some ad108) l0_1.length c0_1] 28 (0, 0)) bk hg (Kd.R_ne HO_5.out BK101.out (by decide))); have n2_ := Aside0.mk ((by rw [hw]; exact below_set (HB.out) GB22.out : Below w.heap.size w w31)); clear HO_5; clear BK101; clear HB; have HO_5 := n0_; have BK101 := n1_; have HB := n2_; clear n0_ n1_ n2_; clear hg hw hp_)); try go_wp2_with (first | ((with_reducible refine gate_store (t := 2) (p := 65) rfl ?_); (try (rw [drewN_self wr]; generalize hq_ : World.drewN wr _ = wr; have n0_ := Aside0.mk (Kd.R_at hq_ HO_5.out); have n1_ := Aside0.mk (blk_at hq_ BK101.out); have n2_ := Aside0.mk (below_at hq_ HB.out); clear hq_ HO_5 BK101 HB; have HO_5 := n0_; have BK101 := n1_; have HB := n2_; clear n0_ n1_ n2_; (try (have HP30 := Kd.R_putg HO_5.out (x50_3 : Int) ji28)))); refine store_event (t := 2) (p := 65) (v := ?vo_w31) (w1 := (wr.setCell ⟨go22, (x50_3 : Int).toNat, none⟩ (.int .i64 ji28))) ?hg ?ho ?hn ?hr ?_; (case ho => rfl); (case hg => rfl); (case hn => rfl); (case hr => first | (go_simp; done) | (go_simp; rfl)); intro w31 hw; have hg : wr.grownBy w31 (some go22) := (by rw [hw]; exact HP30.2); have hp_ : Kd.R (Kd.int .i64) 2 w31 w.heap.size (fun _ => True) (.slice (some ⟨go22, 0, none⟩) x5_3.length co21) y115 := (by rw [hw, Ny115.out]; exact HP30.1); clear HP30; have n0_ := Aside0.mk (hp_); have n1_ := Aside0.mk (blk_grown (g := gb101) (o := .cells #[.int .i64 a0_0, .slice (some ad108) l0_1.length c0_1] 28 (0, 0)) bk hg (Kd.R_ne HO_5.out BK101.out (by decide))); have n2_ := Aside0.mk ((by rw [hw]; exact below_set (HB.out) GB22.out : Below w.heap.size w w31)); clear HO_5; clear BK101; clear HB; have HO_5 := n0_; have BK101 := n1_; have HB := n2_; clear n0_ n1_ n2_; clear hg hw hp_)))
                (try simp only [← hl5_3])
                first | go_roundg k3 | (simp only [← hji26]; go_roundg k3) | (simp only [← hji28]; go_roundg k3)
                case measure => have := HK1.out; have := HK2.out; have := HK3.out; omega
                case rel => exact ⟨(y115), (wrap64 (x50_3 + 1)), rs, (by first | exact H' | (rw [hji26]; exact H') | (rw [hji28]; exact H')), ⟨by have := HK1.out; have := HK2.out; have := HK3.out; omega⟩, ⟨by (try simp only [hl5_3]); (with_reducible repeat (first | apply Kd.R_alloc | apply Kd.R_drewN | apply Kd.R_drew)); exact HO_5.out⟩, ⟨by (try simp only [hl5_3]); (with_reducible repeat (first | refine blk_drewN ?_ _ | refine blk_drew ?_ | refine blk_alloc ?_ _)); exact BK101.out⟩, ⟨bl⟩⟩
      rw [if_pos c6] at H
      have c6b0 : decide (x16_1 < a0_0) = true := decide_eq_true c6
      clear c6
      by_cases c7 : x5_1.length < 17592186044416
      case neg => rw [if_neg c7] at H; exact absurd H (by simp)
      rw [if_pos c7] at H
      have LMc7 := Aside0.mk c7
      clear c7
      obtain ⟨y105, hy105⟩ : ∃ y_ : List Int, y_ = (x5_1 ++ [x16_1]) := ⟨_, rfl⟩
      replace H : (impl_Graph_classes.l0 k1 y105 a0_0 (wrap64 (x16_1 + 1)) a0_0 l0_1) = some r := by first | (rw [hy105]; with_reducible exact H) | (have H2_ := (Option.bind_some _ _).symm.trans H; rw [hy105]; with_reducible exact H2_) | (have H2_ := (Option.bind_some _ _).symm.trans H; with_reducible exact H2_) | with_reducible exact H | (rw [hy105]; exact H) | exact H
      have Ny105 := Aside0.mk hy105
      clear hy105
      have H' := Aside0.mk H
      clear H
      go_wp2_with (first | ((with_reducible refine gate_builtin (b := .append) (xs := #[.tmp 19, .tmp 21]) rfl ?_); at_builtin; refine Kd.R_append (Kd.int .i64) (w0 := w) w.heap.size rfl (.tmp 19) (.tmp 21) 34 2 (.int .i64 0) 8 rfl Try.underlying34 info2 rfl (by decide) (by omega) u5 x5_1 x16_1 [.int .i64 x16_1] (fun _ => True) (fun _ => False) rfl rfl ?aP (fun _ hk => hk.elim) ?aF ?aO ?aB ?aS ?aL ?_; (case aP => exact rfl); (case aB => exact bl); (case aF => exact (fun _ _ => trivial)); (case aO => exact (by (with_reducible repeat (first | apply Kd.R_alloc | apply Kd.R_drewN | apply Kd.R_drew)); exact HO_5.out)); (case aS => exact (below_size bl)); (case aL => have := LMc7.out; omega); intro v106 w8 ho hb hg hat; rw [← Ny105.out] at ho; have n0_ := Aside0.mk (blk_grown (g := gb101) (o := .cells #[.int .i64 a0_0, .slice A0_1 l0_1.length c0_1] 28 (0, 0)) bk hg (Kd.R_ne HO_5.out BK101.out (by decide))); have n1_ := Aside0.mk (hb); have n2_ := Aside0.mk (ho); clear BK101; clear HB; clear HO_5; have BK101 := n0_; have HB := n1_; have HO107 := n2_; clear n0_ n1_ n2_; clear ho hb hg hat))
      repeat (go_quiet (first | ((with_reducible refine gate_builtin (b := .append) (xs := #[.tmp 19, .tmp 21]) rfl ?_); at_builtin; refine Kd.R_append (Kd.int .i64) (w0 := w) w.heap.size rfl (.tmp 19) (.tmp 21) 34 2 (.int .i64 0) 8 rfl Try.underlying34 info2 rfl (by decide) (by omega) u5 x5_1 x16_1 [.int .i64 x16_1] (fun _ => True) (fun _ => False) rfl rfl ?aP (fun _ hk => hk.elim) ?aF ?aO ?aB ?aS ?aL ?_; (case aP => exact rfl); (case aB => exact bl); (case aF => exact (fun _ _ => trivial)); (case aO => exact (by (with_reducible repeat (first | apply Kd.R_alloc | apply Kd.R_drewN | apply Kd.R_drew)); exact HO_5.out)); (case aS => exact (below_size bl)); (case aL => have := LMc7.out; omega); intro v106 w8 ho hb hg hat; rw [← Ny105.out] at ho; have n0_ := Aside0.mk (blk_grown (g := gb101) (o := .cells #[.int .i64 a0_0, .slice A0_1 l0_1.length c0_1] 28 (0, 0)) bk hg (Kd.R_ne HO_5.out BK101.out (by decide))); have n1_ := Aside0.mk (hb); have n2_ := Aside0.mk (ho); clear BK101; clear HB; clear HO_5; have BK101 := n0_; have HB := n1_; have HO107 := n2_; clear n0_ n1_ n2_; clear ho hb hg hat)); try go_wp2_with (first | ((with_reducible refine gate_builtin (b := .append) (xs := #[.tmp 19, .tmp 21]) rfl ?_); at_builtin; refine Kd.R_append (Kd.int .i64) (w0 := w) w.heap.size rfl (.tmp 19) (.tmp 21) 34 2 (.int .i64 0) 8 rfl Try.underlying34 info2 rfl (by decide) (by omega) u5 x5_1 x16_1 [.int .i64 x16_1] (fun _ => True) (fun _ => False) rfl rfl ?aP (fun _ hk => hk.elim) ?aF ?aO ?aB ?aS ?aL ?_; (case aP => exact rfl); (case aB => exact bl); (case aF => exact (fun _ _ => trivial)); (case aO => exact (by (with_reducible repeat (first | apply Kd.R_alloc | apply Kd.R_drewN | apply Kd.R_drew)); exact HO_5.out)); (case aS => exact (below_size bl)); (case aL => have := LMc7.out; omega); intro v106 w8 ho hb hg hat; rw [← Ny105.out] at ho; have n0_ := Aside0.mk (blk_grown (g := gb101) (o := .cells #[.int .i64 a0_0, .slice A0_1 l0_1.length c0_1] 28 (0, 0)) bk hg (Kd.R_ne HO_5.out BK101.out (by decide))); have n1_ := Aside0.mk (hb); have n2_ := Aside0.mk (ho); clear BK101; clear HB; clear HO_5; have BK101 := n0_; have HB := n1_; have HO107 := n2_; clear n0_ n1_ n2_; clear ho hb hg hat)))
      first | go_roundg k1 | (simp only [← hji26]; go_roundg k1) | (simp only [← hji28]; go_roundg k1)
      case measure => have := HK1.out; omega
      case rel => exact ⟨(y105), (wrap64 (x16_1 + 1)), rs, (by first | exact H' | (rw [hji26]; exact H') | (rw [hji28]; exact H')), ⟨by have := HK1.out; omega⟩, ⟨by (with_reducible repeat (first | apply Kd.R_alloc | apply Kd.R_drewN | apply Kd.R_drew)); exact HO107.out⟩, ⟨bk⟩, ⟨bl⟩⟩
/-! ### impl_Graph_parts: function 106 -/
def impl_Graph_parts.f (k : Nat) (a0_0 : Int) (l0_1 : List (List Int)) : Option (Int) := (impl_Graph_classes.f k a0_0 l0_1).bind fun t102 => ((impl_countParts.f k t102).bind fun t105 => (some t105))
theorem impl_Graph_parts.mono : ∀ a0 a1 k, LeO (impl_Graph_parts.f k a0 a1) (impl_Graph_parts.f (k + 1) a0 a1) := by
  intro a0 a1 k
  unfold impl_Graph_parts.f
  repeat' first
      | (with_reducible exact impl_Graph_classes.mono _ _ _)
      | (with_reducible exact impl_countParts.mono _ _)
      | (with_reducible exact LeO.refl _)
      | (with_reducible exact LeO.none _)
      | (with_reducible refine LeO.ite ?_ ?_)
      | (with_reducible refine LeO.bind ?_ (fun _ => ?_))
      | exact impl_Graph_classes.mono _ _ _
      | exact impl_countParts.mono _ _
      | exact LeO.none _
      | refine LeO.ite ?_ ?_
      | refine LeO.bind ?_ (fun _ => ?_)
set_option maxHeartbeats 8000000 in
set_option maxRecDepth 100000 in
theorem impl_Graph_parts.calls (k : Nat) (a0_0 : Int) (A0_1 : Option Addr) (c0_1 : Nat) (l0_1 : List (List Int)) (r : Int) (w : World) (hr0_1 : Kd.C (Kd.slice 2 (Kd.int .i64)) w A0_1 l0_1.length l0_1) (hc0_1 : l0_1.length ≤ c0_1) (h : impl_Graph_parts.f k a0_0 l0_1 = some r) :
    Calls Try.prog 106 #[.agg #[.int .i64 a0_0, .slice A0_1 l0_1.length c0_1]] w fun e w' => e = .returned (.int .i64 r) ∧ Below w.heap.size w w' := by
  have hu28 := Try.underlying28
  have HR0_1 := Aside0.mk hr0_1
  have HC0_1 := Aside0.mk hc0_1
  clear hr0_1 hc0_1
  have HB := Aside0.mk (Below.refl w.heap.size w)
  have H : ((impl_Graph_classes.f k a0_0 l0_1).bind fun t102 => ((impl_countParts.f k t102).bind fun t105 => (some t105))) = some r := h
  clear h
  replace H := Option.bind_eq_some_iff.mp H
  obtain ⟨t102, A20, H⟩ := H
  replace H : ((impl_countParts.f k t102).bind fun t105 => (some t105)) = some r := H
  have A2 := Aside0.mk A20
  clear A20
  replace H := Option.bind_eq_some_iff.mp H
  obtain ⟨t105, A30, H⟩ := H
  replace H : (some t105) = some r := H
  have A3 := Aside0.mk A30
  clear A30
  obtain rfl := Option.some.inj H
  go_enter Try.func106, Try.ntmps106
  go_wp2_with (first | ((with_reducible refine gate_dst (N := 1) rfl ?_); refine box_event ?hg (N := 1) ?hd (cs := #[.int .i64 a0_0, .slice A0_1 l0_1.length c0_1]) (t := 28) ?hr ?_; (case hd => rfl); (case hg => rfl); (case hr => first | (go_simp; done) | (go_simp; rfl)); intro gb101 hg w4 hbox hb; have n0_ := Aside0.mk (below_step bl hb); have n1_ := Aside0.mk (hbox); have n2_ := Aside0.mk ((by rw [hg]; exact (below_size bl) : w.heap.size ≤ gb101)); have n3_ := Aside0.mk ((by rw [hg]; exact (below_size bl) : w.heap.size ≤ gb101)); clear HB; have HB := n0_; have BK101 := n1_; have GW101 := n2_; have GE101 := n3_; clear n0_ n1_ n2_ n3_; clear hb hbox hg; have hcz5_0 : w4.cell? ⟨gb101, 0, none⟩ = some (.int .i64 a0_0) := (blk_cell BK101.out 0).trans rfl; have hcz5_1 : w4.cell? ⟨gb101, 1, none⟩ = some (.slice A0_1 l0_1.length c0_1) := (blk_cell BK101.out 1).trans rfl; have hfz5_0 := blk_frozen BK101.out 0; have hfz5_1 := blk_frozen BK101.out 1) | ((with_reducible refine gate_callee (f := 146) rfl ?_); refine goesL_ (some 4) rfl rfl Try.func146 (by kernel_rfl) rfl #[.agg #[.int .i64 a0_0, .slice A0_1 l0_1.length c0_1], .func (.func 147) #[] #[]] rfl gm ?_; (with_reducible refine (impl_Graph_classes.calls k a0_0 _ _ l0_1 t102 _ ?side1 ?side2 A2.out).mono ?_); (case side1 => repeat (first | exact (Kd.C_below HR0_1.out HB.out) | (with_reducible refine Kd.C_alloc ?_ _) | (with_reducible refine Kd.C_drewN ?_ _) | (with_reducible refine Kd.C_drew ?_))); (case side2 => exact HC0_1.out); rintro e w6 ⟨v103, rfl, ho0, hb⟩; refine ⟨_, rfl, ?_⟩; have n0_ := Aside0.mk (Kd.R_lower ho0 (below_size bl)); have n1_ := Aside0.mk (blk_below (g := gb101) (o := .cells #[.int .i64 a0_0, .slice A0_1 l0_1.length c0_1] 28 (0, 0)) bk hb); have n2_ := Aside0.mk (below_step bl hb); clear BK101; clear HB; have HO104 := n0_; have BK101 := n1_; have HB := n2_; clear n0_ n1_ n2_; (try clear hb); (try clear hb2); (try clear hk); (try clear hi); (try clear ho0); obtain ⟨Ao7, co7, eo7⟩ := Kd.R_slice HO104.out; subst eo7) | ((with_reducible refine gate_callee (f := 145) rfl ?_); refine goesL_ (some 5) rfl rfl Try.func145 (by kernel_rfl) rfl #[.slice Ao7 t102.length co7] rfl gm ?_; (with_reducible refine (impl_countParts.calls k _ _ t102 t105 _ ?side1 ?side2 A3.out).mono ?_); (case side1 => repeat (first | exact (Kd.R_reads' HO104.out).2.2 | (with_reducible refine Kd.C_alloc ?_ _) | (with_reducible refine Kd.C_drewN ?_ _) | (with_reducible refine Kd.C_drew ?_))); (case side2 => exact (Kd.R_reads' HO104.out).2.1); rintro e w' ⟨rfl, ⟨nd, rfl⟩⟩; refine ⟨_, rfl, ?_⟩))
  go_ret
  exact ⟨by first | rfl | (simp [errW_none, errW_some] <;> rfl) | (simp [*, errW_none, errW_some] <;> rfl), bl⟩

-- NOT PRINTED: function 57 (impl_connectedCode)

/-! ### impl_Graph_isVertex: function 100 -/
def impl_Graph_isVertex.f (a0_0 : Int) (l0_1 : List (List Int)) (a1 : Int) : Option (Bool) := (impl_within.f a1 0 (wrap64 (a0_0 - 1))).bind fun t102 => (some t102)
set_option maxHeartbeats 8000000 in
set_option maxRecDepth 100000 in
theorem impl_Graph_isVertex.calls (a0_0 : Int) (A0_1 : Option Addr) (c0_1 : Nat) (l0_1 : List (List Int)) (a1 : Int) (r : Bool) (w : World) (hr0_1 : Kd.C (Kd.slice 2 (Kd.int .i64)) w A0_1 l0_1.length l0_1) (hc0_1 : l0_1.length ≤ c0_1) (h : impl_Graph_isVertex.f a0_0 l0_1 a1 = some r) :
    Calls Try.prog 100 #[.agg #[.int .i64 a0_0, .slice A0_1 l0_1.length c0_1], .int .i64 a1] w fun e w' => e = .returned (.bool r) ∧ Below w.heap.size w w' := by
  have hu28 := Try.underlying28
  have HR0_1 := Aside0.mk hr0_1
  have HC0_1 := Aside0.mk hc0_1
  clear hr0_1 hc0_1
  have HB := Aside0.mk (Below.refl w.heap.size w)
  have H : ((impl_within.f a1 0 (wrap64 (a0_0 - 1))).bind fun t102 => (some t102)) = some r := h
  clear h
  replace H := Option.bind_eq_some_iff.mp H
  obtain ⟨t102, A30, H⟩ := H
  replace H : (some t102) = some r := H
  have A3 := Aside0.mk A30
  clear A30
  obtain rfl := Option.some.inj H
  go_enter Try.func100, Try.ntmps100
  go_wp2_with (first | ((with_reducible refine gate_dst (N := 2) rfl ?_); refine box_event ?hg (N := 2) ?hd (cs := #[.int .i64 a0_0, .slice A0_1 l0_1.length c0_1]) (t := 28) ?hr ?_; (case hd => rfl); (case hg => rfl); (case hr => first | (go_simp; done) | (go_simp; rfl)); intro gb101 hg w4 hbox hb; have n0_ := Aside0.mk (below_step bl hb); have n1_ := Aside0.mk (hbox); have n2_ := Aside0.mk ((by rw [hg]; exact (below_size bl) : w.heap.size ≤ gb101)); have n3_ := Aside0.mk ((by rw [hg]; exact (below_size bl) : w.heap.size ≤ gb101)); clear HB; have HB := n0_; have BK101 := n1_; have GW101 := n2_; have GE101 := n3_; clear n0_ n1_ n2_ n3_; clear hb hbox hg; have hcz5_0 : w4.cell? ⟨gb101, 0, none⟩ = some (.int .i64 a0_0) := (blk_cell BK101.out 0).trans rfl; have hcz5_1 : w4.cell? ⟨gb101, 1, none⟩ = some (.slice A0_1 l0_1.length c0_1) := (blk_cell BK101.out 1).trans rfl; have hfz5_0 := blk_frozen BK101.out 0; have hfz5_1 := blk_frozen BK101.out 1) | ((with_reducible refine gate_callee (f := 88) rfl ?_); refine goesL_ (some 9) rfl rfl Try.func88 (by kernel_rfl) rfl #[.int .i64 a1, .int .i64 0, .int .i64 (wrap64 (a0_0 - 1))] rfl gm ?_; (with_reducible refine (impl_within.calls a1 0 (wrap64 (a0_0 - 1)) t102 _ A3.out).mono ?_); rintro e w' ⟨rfl, ⟨nd, rfl⟩⟩; refine ⟨_, rfl, ?_⟩))
  go_ret
  exact ⟨by first | rfl | (simp [errW_none, errW_some] <;> rfl) | (simp [*, errW_none, errW_some] <;> rfl), bl⟩

/-! ### impl_Graph_areChips: function 103 -/

def badChip (x : Int) : Bool := !(decide ((-200) ≤ x) && decide (x ≤ 200))
theorem ac_pred (x : Int) (w1 : World) : Calls Try.prog 143 #[.int .i64 x] w1 fun e w' => e = .returned (.bool (badChip x)) ∧ Drawn0 w1 w' := by
  have h : impl_within.f x (-200) 200 = some (decide ((-200) ≤ x) && decide (x ≤ 200)) := by
    unfold impl_within.f
    by_cases h1 : (-200) ≤ x <;> simp [h1]
  have HX : Aside0 (badChip x = !(decide ((-200) ≤ x) && decide (x ≤ 200))) := ⟨rfl⟩
  generalize (decide ((-200) ≤ x) && decide (x ≤ 200)) = b at h HX
  go_enter Try.func143, Try.ntmps143
  go_wp2_with (go_at_call 88; refine (impl_within.calls _ _ _ b _ h).mono ?_; rintro e w' ⟨rfl, ⟨nd, rfl⟩⟩)
  go_ret
  exact ⟨by rw [HX.out]; rfl, by repeat (first | exact Drawn0.refl _ | apply Drawn0.step)⟩

theorem ac_idx (p : Int → Bool) (A : Option Addr) (c : Nat) (l : List Int) (w : World) (hr : Kd.C (Kd.int .i64) w A l.length l)
  (hp : ∀ x w1, Below w.heap.size w w1 → Calls Try.prog 143 #[.int .i64 x] w1 fun e w' => e = .returned (.bool (p x)) ∧ Below w1.heap.size w1 w') :
  Calls Try.prog 115 #[.slice A l.length c, .func (.func 143) #[] #[]] w fun e w' => e = .returned (.int .i64 (idxFrom p l 0)) ∧ Below w.heap.size w w' := by
  have HR := Aside0.mk hr
  have HP := Aside0.mk hp
  have hlen : l.length ≤ 9223372036854775807 := hr.2.1
  clear hr hp
  go_enter Try.func115, Try.ntmps115
  go_wp2_with fail
  go_loopw [8] (fun i wr => ∃ k : Nat, k ≤ l.length ∧ i = .int .i64 k ∧ Aside0 (idxFrom p (l.drop k) k = idxFrom p l 0) ∧ Aside0 (Below w.heap.size w wr)) (fun i _ => l.length - (intOf i).toNat)
  case atStart => exact ⟨0, Nat.zero_le _, rfl, ⟨by simp⟩, ⟨Below.refl _ _⟩⟩
  case round =>
    obtain ⟨k, hk, rfl, HI, HB⟩ := hrel
    by_cases hlt : k < l.length
    case neg =>
      have HD : Aside0 (idxFrom p l 0 = -1) := ⟨by rw [← HI.out, List.drop_of_length_le (by omega)]; rfl⟩
      have hb : decide (k < l.length) = false := by simp; omega
      go_wp2
      go_ret
      exact ⟨by rw [HD.out]; rfl, HB.out⟩
    obtain ⟨ad, e, hcell⟩ := Kd.at_int (Kd.C_below HR.out HB.out) k (by omega) (by omega)
    cases e
    rw [Int.toNat_natCast] at hcell
    cases hpx : p (rd l k) with
    | true =>
      have HD : Aside0 (idxFrom p l 0 = k) := ⟨by rw [← HI.out, idxFrom_drop p l k hlt, hpx]; rfl⟩
      have HX := Aside0.mk hpx
      clear hpx
      go_wp2_with (go_at_call 143; refine (HP.out _ _ HB.out).mono ?_; rw [HX.out]; rintro e w' ⟨rfl, hb_⟩; have HB2 := Aside0.mk (below_step HB.out hb_); clear hb_)
      go_ret
      exact ⟨by rw [HD.out]; rfl, HB2.out⟩
    | false =>
      have HD : Aside0 (idxFrom p (l.drop (k+1)) (k+1) = idxFrom p l 0) := ⟨by rw [← HI.out, idxFrom_drop p l k hlt, hpx]; rfl⟩
      have HX := Aside0.mk hpx
      clear hpx
      go_wp2_with (go_at_call 143; refine (HP.out _ _ HB.out).mono ?_; rw [HX.out]; rintro e w' ⟨rfl, hb_⟩; have HB2 := Aside0.mk (below_step HB.out hb_); clear hb_)
      go_roundw
      case rel => exact ⟨k+1, by omega, by go_num, HD, HB2⟩
      case measure => simp [intOf]; omega
theorem ac_cont (p : Int → Bool) (A : Option Addr) (c : Nat) (l : List Int) (w : World) (hr : Kd.C (Kd.int .i64) w A l.length l)
  (hp : ∀ x w1, Below w.heap.size w w1 → Calls Try.prog 143 #[.int .i64 x] w1 fun e w' => e = .returned (.bool (p x)) ∧ Below w1.heap.size w1 w') :
  Calls Try.prog 77 #[.slice A l.length c, .func (.func 143) #[] #[]] w fun e w' => e = .returned (.bool (l.any p)) ∧ Below w.heap.size w w' := by
  have HC := ac_idx p A c l w hr hp
  have HX : Aside0 (l.any p = decide (0 ≤ idxFrom p l 0)) := ⟨(idxFrom_any p l 0).symm⟩
  have HC' := Aside0.mk HC
  clear HC hr hp
  go_enter Try.func77, Try.ntmps77
  go_wp2_with (go_at_call 115; refine HC'.out.mono ?_; rintro e w' ⟨rfl, hb_⟩; have HB2 := Aside0.mk hb_; clear hb_)
  go_ret
  exact ⟨by rw [HX.out]; rfl, HB2.out⟩
def impl_Graph_areChips.f (a0_0 : Int) (l0_1 : List (List Int)) (l1 : List Int) : Option Bool := some (decide ((l1.length : Int) = a0_0) && !(l1.any badChip))
set_option maxHeartbeats 8000000 in
set_option maxRecDepth 100000 in
theorem impl_Graph_areChips.calls (a0_0 : Int) (A0_1 : Option Addr) (c0_1 : Nat) (l0_1 : List (List Int)) (A1 : Option Addr) (c1 : Nat) (l1 : List Int) (r : Bool) (w : World) (hr0_1 : Kd.C (Kd.slice 2 (Kd.int .i64)) w A0_1 l0_1.length l0_1) (hc0_1 : l0_1.length ≤ c0_1) (hr1 : Kd.C (Kd.int .i64) w A1 l1.length l1) (hc1 : l1.length ≤ c1) (h : impl_Graph_areChips.f a0_0 l0_1 l1 = some r) :
    Calls Try.prog 103 #[.agg #[.int .i64 a0_0, .slice A0_1 l0_1.length c0_1], .slice A1 l1.length c1] w fun e w' => e = .returned (.bool r) ∧ Below w.heap.size w w' := by
  have HR := Aside0.mk hr1
  clear hr0_1 hr1
  obtain rfl := Option.some.inj h
  clear h
  by_cases hl : ((l1.length : Int) == a0_0) = true
  case neg =>
    have hl' : ((l1.length : Int) == a0_0) = false := by simpa using hl
    have HX : Aside0 ((decide ((l1.length : Int) = a0_0) && !(l1.any badChip)) = false) := ⟨by simp at hl; simp [hl]⟩
    clear hl
    go_enter Try.func103, Try.ntmps103
    go_wp2
    go_ret
    exact ⟨by rw [HX.out]; rfl, ((Below.refl _ _).alloc (Nat.le_refl _) _)⟩
  have HX : Aside0 ((decide ((l1.length : Int) = a0_0) && !(l1.any badChip)) = !(l1.any badChip)) := ⟨by simp at hl; simp [hl]⟩
  have HC := fun W h => ac_cont badChip A1 c1 l1 W h (fun x w1 _ => (ac_pred x w1).mono fun e w' ⟨h1, h2⟩ => ⟨h1, h2.below⟩)
  have HC' := Aside0.mk HC
  clear HC
  go_enter Try.func103, Try.ntmps103
  go_wp2_with (go_at_call 77; refine (HC'.out _ (Kd.C_alloc HR.out _)).mono ?_; rintro e w' ⟨rfl, hb_⟩; have HB2 := Aside0.mk (below_step ((Below.refl _ _).alloc (Nat.le_refl _) _) hb_); clear hb_)
  go_ret
  exact ⟨by rw [HX.out]; rfl, HB2.out⟩
end Go.Proofs.Ytbfmnhgpmpnglaa.C
