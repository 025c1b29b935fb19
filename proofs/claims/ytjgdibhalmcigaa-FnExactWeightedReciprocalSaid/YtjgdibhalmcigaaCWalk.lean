/- The walk of FnExactWeightedReciprocal: where its callees answer as its pure statement says, it answers true. Condition: that statement. -/
import Derived.Test.YtjgdibhalmcigaaCx
namespace Go.Proofs.Ytjgdibhalmcigaa.C
open Go.RowKit Go.Proofs.YtjgdibhalmcigaaW.PrintWords Go.Proofs.YtjgdibhalmcigaaW.PrintLast Go.Proofs.YtjgdibhalmcigaaW.PrintMore
set_option linter.unusedVariables false
set_option linter.unusedSimpArgs false
set_option maxHeartbeats 8000000 in
set_option maxRecDepth 100000 in
theorem laws_FnExactWeightedReciprocal.small_len2 (a0 : Int) (a1 : Int) (A1 : Option Addr) (c1 : Nat) (l1 : List (List Int)) (A2 : Option Addr) (c2 : Nat) (l2 : List Int) (w : World)  (hr1 : Kd.C (Kd.slice 2 (Kd.int .i64)) w A1 l1.length l1) (hc1 : l1.length ≤ c1) (hr2 : Kd.C (Kd.int .i64) w A2 l2.length l2) (hc2 : l2.length ≤ c2)  (hl2 : 1048576 < l2.length) :
    Calls Try.prog 5 #[.int .i64 a0, .agg #[.int .i64 a1, .slice A1 l1.length c1], .slice A2 l2.length c2] w fun e w' => e = .returned (.bool true) ∧ Below w.heap.size w w' := by
  have HR1 := Aside0.mk hr1
  have HR2 := Aside0.mk hr2
  have HB := Aside0.mk (Below.refl w.heap.size w)
  clear hr1 hr2
  have hl2' : decide ((1048576 : Int) < (l2.length : Int)) = true := by simp; omega
  go_enter Try.func5, Try.ntmps5
  try clear qp1_0 qp1_1
  go_wp2
  go_ret
  exact ⟨by first | rfl | (simp; done) | (simp [*]; done), (by repeat (first | exact HB.out | apply below_alloc | apply pw_below_drewN | apply below_drew1))⟩

set_option maxHeartbeats 8000000 in
set_option maxRecDepth 100000 in
theorem laws_FnExactWeightedReciprocal.small_sz1 (a0 : Int) (a1 : Int) (A1 : Option Addr) (c1 : Nat) (l1 : List (List Int)) (A2 : Option Addr) (c2 : Nat) (l2 : List Int) (w : World)  (hr1 : Kd.C (Kd.slice 2 (Kd.int .i64)) w A1 l1.length l1) (hc1 : l1.length ≤ c1) (hr2 : Kd.C (Kd.int .i64) w A2 l2.length l2) (hc2 : l2.length ≤ c2) (hl2 : l2.length ≤ 1048576) (k : Nat) (z1 : Int) (hz1 : z1 < 0) (FZ1_ : laws_szGraph.f k a1 l1 1048576 = some z1) :
    Calls Try.prog 5 #[.int .i64 a0, .agg #[.int .i64 a1, .slice A1 l1.length c1], .slice A2 l2.length c2] w fun e w' => e = .returned (.bool true) ∧ Below w.heap.size w w' := by
  have HR1 := Aside0.mk hr1
  have HR2 := Aside0.mk hr2
  have HB := Aside0.mk (Below.refl w.heap.size w)
  have FZ1 := Aside0.mk FZ1_
  clear FZ1_
  have bz1 : decide (z1 < 0) = true := by simp; omega
  clear hr1 hr2
  have hl2' : decide ((1048576 : Int) < (l2.length : Int)) = false := by simp; omega
  go_enter Try.func5, Try.ntmps5
  try clear qp1_0 qp1_1
  go_wp2_with fail
  refine (laws_szGraph.calls k a1 _ _ l1 1048576 z1 _ (Kd.C_below HR1.out (by repeat (first | exact HB.out | apply below_alloc | apply pw_below_drewN | apply below_drew1))) hc1 FZ1.out).mono ?_
  rintro e w1 ⟨rfl, hb_⟩
  have HB0_ := Aside0.mk (by repeat (first | exact HB.out | apply below_alloc | apply pw_below_drewN | apply below_drew1))
  clear HB0_
  have np1 : Aside0 (w1.heap[w.heap.size]? = some (.cells #[.int .i64 a1, .slice A1 l1.length c1] 24 (0, 0))) := ⟨blk_below (by (first | exact heap_alloc_new _ _ | (refine blk_alloc ?_ _; exact heap_alloc_new _ _) | ((with_reducible repeat (first | refine blk_drewN ?_ _ | refine blk_drew ?_ | refine blk_alloc ?_ _)); exact Kp1.out))) hb_⟩
  have Zw1 : Aside0 (w.heap.size + 1 ≤ w1.heap.size) := ⟨by have h_ := hb_.size; (try simp at h_); omega⟩
  have nB_ := Aside0.mk (below_step (by repeat (first | exact HB.out | apply below_alloc | apply pw_below_drewN | apply below_drew1)) hb_)
  clear HB hb_
  have HB := nB_
  clear nB_
  have Kp1 := np1
  clear np1
  try clear qp1_0 qp1_1
  have zp1_ := blk_lt Kp1.out
  have qp1_0 := (blk_cell Kp1.out 0).trans rfl
  have qp1_1 := (blk_cell Kp1.out 1).trans rfl
  go_wp2
  go_ret
  exact ⟨by first | rfl | (simp; done) | (simp [*]; done), (by repeat (first | exact HB.out | apply below_alloc | apply pw_below_drewN | apply below_drew1))⟩

set_option maxHeartbeats 8000000 in
set_option maxRecDepth 100000 in
theorem laws_FnExactWeightedReciprocal.big (k : Nat) (a0 : Int) (a1 : Int) (A1 : Option Addr) (c1 : Nat) (l1 : List (List Int)) (A2 : Option Addr) (c2 : Nat) (l2 : List Int) (w : World)  (hr1 : Kd.C (Kd.slice 2 (Kd.int .i64)) w A1 l1.length l1) (hc1 : l1.length ≤ c1) (hr2 : Kd.C (Kd.int .i64) w A2 l2.length l2) (hc2 : l2.length ≤ c2) (z1 : Int) (hz1 : 0 ≤ z1) (r0l : List Int) (r1a : Int) (m1 : Int) (y1 : List (List Int)) (m2 : Int) (y2 : List Int) (n0l : Int) (x0l : List Int) (hlm : 0 ≤ m2) (hln : 0 ≤ n0l) (hl2 : l2.length ≤ 1048576) (FG1_ : laws_toGraph.f k a1 l1 = some (a1, l1)) (FQ1_ : laws_eqGraph.f k a1 l1 a1 l1 = some true) (FG2_ : laws_toInt64S.f k l2 = some l2) (FQ2_ : laws_eqInt64S.f k l2 l2 = some true) (FZ1_ : laws_szGraph.f k a1 l1 1048576 = some z1) (FS_ : spec_WeightedReciprocal.f k a0 a1 l1 l2 = some (r0l, r1a)) (FI_ : impl_WeightedReciprocal.f k a0 a1 l1 l2 = some (r0l, r1a)) (FE0_ : laws_eqInt64S.f k r0l r0l = some true) (FM1_ : laws_markInt64SS.f k l1 1 = some (m1, y1)) (FM2_ : laws_markInt64S.f k l2 m1 = some (m2, y2)) (FN0l_ : laws_markInt64S.f k r0l 1 = some (n0l, x0l)) (FH0_ : laws_heldInt64S.f k x0l 1 = some n0l) :
    Calls Try.prog 5 #[.int .i64 a0, .agg #[.int .i64 a1, .slice A1 l1.length c1], .slice A2 l2.length c2] w fun e w' => e = .returned (.bool true) ∧ Below w.heap.size w w' := by
  have HR1 := Aside0.mk hr1
  have HR2 := Aside0.mk hr2
  have HB := Aside0.mk (Below.refl w.heap.size w)
  have FG1 := Aside0.mk FG1_
  have FQ1 := Aside0.mk FQ1_
  have FG2 := Aside0.mk FG2_
  have FQ2 := Aside0.mk FQ2_
  have FZ1 := Aside0.mk FZ1_
  have FS := Aside0.mk FS_
  have FI := Aside0.mk FI_
  have FE0 := Aside0.mk FE0_
  have FM1 := Aside0.mk FM1_
  have FM2 := Aside0.mk FM2_
  have FN0l := Aside0.mk FN0l_
  have FH0 := Aside0.mk FH0_
  clear hr1 hr2 FG1_ FQ1_ FG2_ FQ2_ FZ1_ FS_ FI_ FE0_ FM1_ FM2_ FN0l_ FH0_
  have bz1 : decide (z1 < 0) = false := by simp; omega
  have bm_ : decide (m2 < 0) = false := by simp; omega
  have bn_ : decide (n0l < 0) = false := by simp; omega
  have hl2' : decide ((1048576 : Int) < (l2.length : Int)) = false := by simp; omega
  go_enter Try.func5, Try.ntmps5
  try clear qp1_0 qp1_1
  go_wp2_with fail
  refine (laws_szGraph.calls k a1 _ _ l1 1048576 z1 _ (Kd.C_below HR1.out (by repeat (first | exact HB.out | apply below_alloc | apply pw_below_drewN | apply below_drew1))) hc1 FZ1.out).mono ?_
  rintro e w1 ⟨rfl, hb_⟩
  have HB0_ := Aside0.mk (by repeat (first | exact HB.out | apply below_alloc | apply pw_below_drewN | apply below_drew1))
  clear HB0_
  have np1 : Aside0 (w1.heap[w.heap.size]? = some (.cells #[.int .i64 a1, .slice A1 l1.length c1] 24 (0, 0))) := ⟨blk_below (by (first | exact heap_alloc_new _ _ | (refine blk_alloc ?_ _; exact heap_alloc_new _ _) | ((with_reducible repeat (first | refine blk_drewN ?_ _ | refine blk_drew ?_ | refine blk_alloc ?_ _)); exact Kp1.out))) hb_⟩
  have Zw1 : Aside0 (w.heap.size + 1 ≤ w1.heap.size) := ⟨by have h_ := hb_.size; (try simp at h_); omega⟩
  have nB_ := Aside0.mk (below_step (by repeat (first | exact HB.out | apply below_alloc | apply pw_below_drewN | apply below_drew1)) hb_)
  clear HB hb_
  have HB := nB_
  clear nB_
  have Kp1 := np1
  clear np1
  try clear qp1_0 qp1_1
  have zp1_ := blk_lt Kp1.out
  have qp1_0 := (blk_cell Kp1.out 0).trans rfl
  have qp1_1 := (blk_cell Kp1.out 1).trans rfl
  go_wp2_with fail
  clear zp1_ qp1_0 qp1_1
  refine (laws_toGraph.calls k a1 _ _ l1 a1 l1 _ (Kd.C_below HR1.out (by repeat (first | exact HB.out | apply below_alloc | apply pw_below_drewN | apply below_drew1))) hc1 FG1.out).mono ?_
  rintro e w2 ⟨vt1, rfl, hst1_, hb_⟩
  have HB0_ := Aside0.mk (by repeat (first | exact HB.out | apply below_alloc | apply pw_below_drewN | apply below_drew1))
  have Ht1 : Aside0 (Kd.S (Kd.slice 2 (Kd.int .i64)) 32 w2 w.heap.size (fun k_ => w1.heap.size ≤ k_ ∧ k_ < w2.heap.size) _ l1) := ⟨Kd.S_mono (Kd.S_lower (Kd.S_bound hst1_) (by have h_ := HB0_.out.size; (try simp at h_); (try simp); omega)) (fun k_ hk_ => ⟨by have h_ := hk_.2.1; (try simp at h_); omega, hk_.2.2.1⟩)⟩
  clear HB0_ hst1_
  have np1 : Aside0 (w2.heap[w.heap.size]? = some (.cells #[.int .i64 a1, .slice A1 l1.length c1] 24 (0, 0))) := ⟨blk_below (by (first | exact heap_alloc_new _ _ | (refine blk_alloc ?_ _; exact heap_alloc_new _ _) | ((with_reducible repeat (first | refine blk_drewN ?_ _ | refine blk_drew ?_ | refine blk_alloc ?_ _)); exact Kp1.out))) hb_⟩
  have Zw2 : Aside0 (w1.heap.size + 0 ≤ w2.heap.size) := ⟨by have h_ := hb_.size; (try simp at h_); omega⟩
  have nB_ := Aside0.mk (below_step (by repeat (first | exact HB.out | apply below_alloc | apply pw_below_drewN | apply below_drew1)) hb_)
  clear HB Kp1 hb_
  have HB := nB_
  clear nB_
  have Kp1 := np1
  clear np1
  obtain ⟨At1, ct1, et1⟩ := Kd.S_slice Ht1.out
  subst et1
  try clear qp1_0 qp1_1
  have zp1_ := blk_lt Kp1.out
  have qp1_0 := (blk_cell Kp1.out 0).trans rfl
  have qp1_1 := (blk_cell Kp1.out 1).trans rfl
  go_wp2_with fail
  clear zp1_ qp1_0 qp1_1
  refine (laws_toInt64S.calls k _ _ l2 l2 _ (Kd.C_below HR2.out (by repeat (first | exact HB.out | apply below_alloc | apply pw_below_drewN | apply below_drew1))) hc2 FG2.out).mono ?_
  rintro e w3 ⟨vt2, rfl, hst2_, hb_⟩
  have HB0_ := Aside0.mk (by repeat (first | exact HB.out | apply below_alloc | apply pw_below_drewN | apply below_drew1))
  have Ht2 : Aside0 (Kd.R (Kd.int .i64) 2 w3 w.heap.size (fun k_ => w2.heap.size ≤ k_ ∧ k_ < w3.heap.size) _ l2) := ⟨Kd.R_mono (Kd.R_lower (Kd.R_bound hst2_) (by have h_ := HB0_.out.size; (try simp at h_); (try simp); omega)) (fun k_ hk_ => ⟨by have h_ := hk_.2.1; (try simp at h_); omega, hk_.2.2.1⟩)⟩
  clear HB0_ hst2_
  have nt1 := Aside0.mk (Kd.S_below (by (with_reducible repeat (first | apply Kd.S_alloc | apply Kd.S_drewN | apply Kd.S_drew)); exact Ht1.out) hb_)
  have np1 : Aside0 (w3.heap[w.heap.size]? = some (.cells #[.int .i64 a1, .slice A1 l1.length c1] 24 (0, 0))) := ⟨blk_below (by (first | exact heap_alloc_new _ _ | (refine blk_alloc ?_ _; exact heap_alloc_new _ _) | ((with_reducible repeat (first | refine blk_drewN ?_ _ | refine blk_drew ?_ | refine blk_alloc ?_ _)); exact Kp1.out))) hb_⟩
  have Zw3 : Aside0 (w2.heap.size + 0 ≤ w3.heap.size) := ⟨by have h_ := hb_.size; (try simp at h_); omega⟩
  have nB_ := Aside0.mk (below_step (by repeat (first | exact HB.out | apply below_alloc | apply pw_below_drewN | apply below_drew1)) hb_)
  clear HB Ht1 Kp1 hb_
  have HB := nB_
  clear nB_
  have Ht1 := nt1
  clear nt1
  have Kp1 := np1
  clear np1
  obtain ⟨At2, ct2, et2⟩ := Kd.R_slice Ht2.out
  subst et2
  try clear qp1_0 qp1_1
  have zp1_ := blk_lt Kp1.out
  have qp1_0 := (blk_cell Kp1.out 0).trans rfl
  have qp1_1 := (blk_cell Kp1.out 1).trans rfl
  go_wp2_with fail
  clear zp1_ qp1_0 qp1_1
  refine (spec_WeightedReciprocal.calls k a0 a1 _ _ l1 _ _ l2 r0l r1a _ (Kd.S_reads' (by (with_reducible repeat (first | apply Kd.S_alloc | apply Kd.S_drewN | apply Kd.S_drew)); exact Ht1.out)).2.2 (Kd.S_reads' Ht1.out).2.1 (Kd.R_reads' (by (with_reducible repeat (first | apply Kd.R_alloc | apply Kd.R_drewN | apply Kd.R_drew)); exact Ht2.out)).2.2 (Kd.R_reads' Ht2.out).2.1 FS.out).mono ?_
  rintro e w4 ⟨vW0l, rfl, hsW0l_, hb_⟩
  have HB0_ := Aside0.mk (by repeat (first | exact HB.out | apply below_alloc | apply pw_below_drewN | apply below_drew1))
  have HW0l : Aside0 (Kd.R (Kd.int .i64) 2 w4 w.heap.size (fun k_ => w3.heap.size ≤ k_ ∧ k_ < w4.heap.size) _ r0l) := ⟨Kd.R_mono (Kd.R_lower (Kd.R_bound hsW0l_) (by have h_ := HB0_.out.size; (try simp at h_); (try simp); omega)) (fun k_ hk_ => ⟨by have h_ := hk_.2.1; (try simp at h_); omega, hk_.2.2.1⟩)⟩
  clear HB0_ hsW0l_
  clear Ht1
  clear Ht2
  have np1 : Aside0 (w4.heap[w.heap.size]? = some (.cells #[.int .i64 a1, .slice A1 l1.length c1] 24 (0, 0))) := ⟨blk_below (by (first | exact heap_alloc_new _ _ | (refine blk_alloc ?_ _; exact heap_alloc_new _ _) | ((with_reducible repeat (first | refine blk_drewN ?_ _ | refine blk_drew ?_ | refine blk_alloc ?_ _)); exact Kp1.out))) hb_⟩
  have Zw4 : Aside0 (w3.heap.size + 0 ≤ w4.heap.size) := ⟨by have h_ := hb_.size; (try simp at h_); omega⟩
  have nB_ := Aside0.mk (below_step (by repeat (first | exact HB.out | apply below_alloc | apply pw_below_drewN | apply below_drew1)) hb_)
  clear HB Kp1 hb_
  have HB := nB_
  clear nB_
  have Kp1 := np1
  clear np1
  obtain ⟨AW0l, cW0l, eW0l⟩ := Kd.R_slice HW0l.out
  subst eW0l
  try clear qp1_0 qp1_1
  have zp1_ := blk_lt Kp1.out
  have qp1_0 := (blk_cell Kp1.out 0).trans rfl
  have qp1_1 := (blk_cell Kp1.out 1).trans rfl
  go_wp2_with fail
  clear zp1_ qp1_0 qp1_1
  refine (laws_toGraph.calls k a1 _ _ l1 a1 l1 _ (Kd.C_below HR1.out (by repeat (first | exact HB.out | apply below_alloc | apply pw_below_drewN | apply below_drew1))) hc1 FG1.out).mono ?_
  rintro e w5 ⟨vX1, rfl, hsX1_, hb_⟩
  have HB0_ := Aside0.mk (by repeat (first | exact HB.out | apply below_alloc | apply pw_below_drewN | apply below_drew1))
  have HX1 : Aside0 (Kd.S (Kd.slice 2 (Kd.int .i64)) 32 w5 w.heap.size (fun k_ => w4.heap.size ≤ k_ ∧ k_ < w5.heap.size) _ l1) := ⟨Kd.S_mono (Kd.S_lower (Kd.S_bound hsX1_) (by have h_ := HB0_.out.size; (try simp at h_); (try simp); omega)) (fun k_ hk_ => ⟨by have h_ := hk_.2.1; (try simp at h_); omega, hk_.2.2.1⟩)⟩
  clear HB0_ hsX1_
  have nW0l := Aside0.mk (Kd.R_below (by (with_reducible repeat (first | apply Kd.R_alloc | apply Kd.R_drewN | apply Kd.R_drew)); exact HW0l.out) hb_)
  have np1 : Aside0 (w5.heap[w.heap.size]? = some (.cells #[.int .i64 a1, .slice A1 l1.length c1] 24 (0, 0))) := ⟨blk_below (by (first | exact heap_alloc_new _ _ | (refine blk_alloc ?_ _; exact heap_alloc_new _ _) | ((with_reducible repeat (first | refine blk_drewN ?_ _ | refine blk_drew ?_ | refine blk_alloc ?_ _)); exact Kp1.out))) hb_⟩
  have Zw5 : Aside0 (w4.heap.size + 0 ≤ w5.heap.size) := ⟨by have h_ := hb_.size; (try simp at h_); omega⟩
  have nB_ := Aside0.mk (below_step (by repeat (first | exact HB.out | apply below_alloc | apply pw_below_drewN | apply below_drew1)) hb_)
  clear HB HW0l Kp1 hb_
  have HB := nB_
  clear nB_
  have HW0l := nW0l
  clear nW0l
  have Kp1 := np1
  clear np1
  obtain ⟨AX1, cX1, eX1⟩ := Kd.S_slice HX1.out
  subst eX1
  try clear qp1_0 qp1_1 qx1_0 qx1_1
  have zp1_ := blk_lt Kp1.out
  have qp1_0 := (blk_cell Kp1.out 0).trans rfl
  have qp1_1 := (blk_cell Kp1.out 1).trans rfl
  go_wp2_with fail
  clear zp1_ qp1_0 qp1_1
  refine (laws_toInt64S.calls k _ _ l2 l2 _ (Kd.C_below HR2.out (by repeat (first | exact HB.out | apply below_alloc | apply pw_below_drewN | apply below_drew1))) hc2 FG2.out).mono ?_
  rintro e w6 ⟨vX2, rfl, hsX2_, hb_⟩
  have HB0_ := Aside0.mk (by repeat (first | exact HB.out | apply below_alloc | apply pw_below_drewN | apply below_drew1))
  have HX2 : Aside0 (Kd.R (Kd.int .i64) 2 w6 w.heap.size (fun k_ => w5.heap.size + 1 ≤ k_ ∧ k_ < w6.heap.size) _ l2) := ⟨Kd.R_mono (Kd.R_lower (Kd.R_bound hsX2_) (by have h_ := HB0_.out.size; (try simp at h_); (try simp); omega)) (fun k_ hk_ => ⟨by have h_ := hk_.2.1; (try simp at h_); omega, hk_.2.2.1⟩)⟩
  clear HB0_ hsX2_
  have nW0l := Aside0.mk (Kd.R_below (by (with_reducible repeat (first | apply Kd.R_alloc | apply Kd.R_drewN | apply Kd.R_drew)); exact HW0l.out) hb_)
  have nX1 := Aside0.mk (Kd.S_below (by (with_reducible repeat (first | apply Kd.S_alloc | apply Kd.S_drewN | apply Kd.S_drew)); exact HX1.out) hb_)
  have np1 : Aside0 (w6.heap[w.heap.size]? = some (.cells #[.int .i64 a1, .slice A1 l1.length c1] 24 (0, 0))) := ⟨blk_below (by (first | exact heap_alloc_new _ _ | (refine blk_alloc ?_ _; exact heap_alloc_new _ _) | ((with_reducible repeat (first | refine blk_drewN ?_ _ | refine blk_drew ?_ | refine blk_alloc ?_ _)); exact Kp1.out))) hb_⟩
  have nx1 : Aside0 (w6.heap[w5.heap.size]? = some (.cells #[.int .i64 a1, .slice AX1 l1.length cX1] 28 (0, 0))) := ⟨blk_below (by (first | exact heap_alloc_new _ _ | (refine blk_alloc ?_ _; exact heap_alloc_new _ _) | ((with_reducible repeat (first | refine blk_drewN ?_ _ | refine blk_drew ?_ | refine blk_alloc ?_ _)); exact Kx1.out))) hb_⟩
  have Zw6 : Aside0 (w5.heap.size + 1 ≤ w6.heap.size) := ⟨by have h_ := hb_.size; (try simp at h_); omega⟩
  have nB_ := Aside0.mk (below_step (by repeat (first | exact HB.out | apply below_alloc | apply pw_below_drewN | apply below_drew1)) hb_)
  clear HB HW0l HX1 Kp1 hb_
  have HB := nB_
  clear nB_
  have HW0l := nW0l
  clear nW0l
  have HX1 := nX1
  clear nX1
  have Kp1 := np1
  clear np1
  have Kx1 := nx1
  clear nx1
  obtain ⟨AX2, cX2, eX2⟩ := Kd.R_slice HX2.out
  subst eX2
  try clear qp1_0 qp1_1 qx1_0 qx1_1
  have zp1_ := blk_lt Kp1.out
  have qp1_0 := (blk_cell Kp1.out 0).trans rfl
  have qp1_1 := (blk_cell Kp1.out 1).trans rfl
  have zx1_ := blk_lt Kx1.out
  have qx1_0 := (blk_cell Kx1.out 0).trans rfl
  have qx1_1 := (blk_cell Kx1.out 1).trans rfl
  go_wp2_with fail
  clear zp1_ qp1_0 qp1_1
  clear zx1_ qx1_0 qx1_1
  refine (impl_WeightedReciprocal.calls k a0 a1 _ _ l1 _ _ l2 r0l r1a _ (Kd.S_reads' (by (with_reducible repeat (first | apply Kd.S_alloc | apply Kd.S_drewN | apply Kd.S_drew)); exact HX1.out)).2.2 (Kd.S_reads' HX1.out).2.1 (Kd.R_reads' (by (with_reducible repeat (first | apply Kd.R_alloc | apply Kd.R_drewN | apply Kd.R_drew)); exact HX2.out)).2.2 (Kd.R_reads' HX2.out).2.1 FI.out).mono ?_
  rintro e w7 ⟨vG0l, rfl, hsG0l_, hb_⟩
  have HB0_ := Aside0.mk (by repeat (first | exact HB.out | apply below_alloc | apply pw_below_drewN | apply below_drew1))
  have HG0l : Aside0 (Kd.R (Kd.int .i64) 2 w7 w.heap.size (fun k_ => w6.heap.size ≤ k_ ∧ k_ < w7.heap.size) _ r0l) := ⟨Kd.R_mono (Kd.R_lower (Kd.R_bound hsG0l_) (by have h_ := HB0_.out.size; (try simp at h_); (try simp); omega)) (fun k_ hk_ => ⟨by have h_ := hk_.2.1; (try simp at h_); omega, hk_.2.2.1⟩)⟩
  clear HB0_ hsG0l_
  have nW0l := Aside0.mk (Kd.R_below (by (with_reducible repeat (first | apply Kd.R_alloc | apply Kd.R_drewN | apply Kd.R_drew)); exact HW0l.out) hb_)
  have nX1 := Aside0.mk (Kd.S_below (by (with_reducible repeat (first | apply Kd.S_alloc | apply Kd.S_drewN | apply Kd.S_drew)); exact HX1.out) hb_)
  have nX2 := Aside0.mk (Kd.R_below (by (with_reducible repeat (first | apply Kd.R_alloc | apply Kd.R_drewN | apply Kd.R_drew)); exact HX2.out) hb_)
  have np1 : Aside0 (w7.heap[w.heap.size]? = some (.cells #[.int .i64 a1, .slice A1 l1.length c1] 24 (0, 0))) := ⟨blk_below (by (first | exact heap_alloc_new _ _ | (refine blk_alloc ?_ _; exact heap_alloc_new _ _) | ((with_reducible repeat (first | refine blk_drewN ?_ _ | refine blk_drew ?_ | refine blk_alloc ?_ _)); exact Kp1.out))) hb_⟩
  have nx1 : Aside0 (w7.heap[w5.heap.size]? = some (.cells #[.int .i64 a1, .slice AX1 l1.length cX1] 28 (0, 0))) := ⟨blk_below (by (first | exact heap_alloc_new _ _ | (refine blk_alloc ?_ _; exact heap_alloc_new _ _) | ((with_reducible repeat (first | refine blk_drewN ?_ _ | refine blk_drew ?_ | refine blk_alloc ?_ _)); exact Kx1.out))) hb_⟩
  have Zw7 : Aside0 (w6.heap.size + 0 ≤ w7.heap.size) := ⟨by have h_ := hb_.size; (try simp at h_); omega⟩
  have nB_ := Aside0.mk (below_step (by repeat (first | exact HB.out | apply below_alloc | apply pw_below_drewN | apply below_drew1)) hb_)
  clear HB HW0l HX1 HX2 Kp1 Kx1 hb_
  have HB := nB_
  clear nB_
  have HW0l := nW0l
  clear nW0l
  have HX1 := nX1
  clear nX1
  have HX2 := nX2
  clear nX2
  have Kp1 := np1
  clear np1
  have Kx1 := nx1
  clear nx1
  obtain ⟨AG0l, cG0l, eG0l⟩ := Kd.R_slice HG0l.out
  subst eG0l
  try clear qp1_0 qp1_1 qx1_0 qx1_1
  have zp1_ := blk_lt Kp1.out
  have qp1_0 := (blk_cell Kp1.out 0).trans rfl
  have qp1_1 := (blk_cell Kp1.out 1).trans rfl
  have zx1_ := blk_lt Kx1.out
  have qx1_0 := (blk_cell Kx1.out 0).trans rfl
  have qx1_1 := (blk_cell Kx1.out 1).trans rfl
  go_wp2_with fail
  clear zp1_ qp1_0 qp1_1
  clear zx1_ qx1_0 qx1_1
  refine (laws_eqInt64S.calls k _ _ r0l _ _ r0l true _ (Kd.R_reads' (by (with_reducible repeat (first | apply Kd.R_alloc | apply Kd.R_drewN | apply Kd.R_drew)); exact HG0l.out)).2.2 (Kd.R_reads' HG0l.out).2.1 (Kd.R_reads' (by (with_reducible repeat (first | apply Kd.R_alloc | apply Kd.R_drewN | apply Kd.R_drew)); exact HW0l.out)).2.2 (Kd.R_reads' HW0l.out).2.1 FE0.out).mono ?_
  rintro e w8 ⟨rfl, hd_⟩
  have hb_ := hd_.below
  clear hd_
  have nW0l := Aside0.mk (Kd.R_below (by (with_reducible repeat (first | apply Kd.R_alloc | apply Kd.R_drewN | apply Kd.R_drew)); exact HW0l.out) hb_)
  have nX1 := Aside0.mk (Kd.S_below (by (with_reducible repeat (first | apply Kd.S_alloc | apply Kd.S_drewN | apply Kd.S_drew)); exact HX1.out) hb_)
  have nX2 := Aside0.mk (Kd.R_below (by (with_reducible repeat (first | apply Kd.R_alloc | apply Kd.R_drewN | apply Kd.R_drew)); exact HX2.out) hb_)
  have nG0l := Aside0.mk (Kd.R_below (by (with_reducible repeat (first | apply Kd.R_alloc | apply Kd.R_drewN | apply Kd.R_drew)); exact HG0l.out) hb_)
  have np1 : Aside0 (w8.heap[w.heap.size]? = some (.cells #[.int .i64 a1, .slice A1 l1.length c1] 24 (0, 0))) := ⟨blk_below (by (first | exact heap_alloc_new _ _ | (refine blk_alloc ?_ _; exact heap_alloc_new _ _) | ((with_reducible repeat (first | refine blk_drewN ?_ _ | refine blk_drew ?_ | refine blk_alloc ?_ _)); exact Kp1.out))) hb_⟩
  have nx1 : Aside0 (w8.heap[w5.heap.size]? = some (.cells #[.int .i64 a1, .slice AX1 l1.length cX1] 28 (0, 0))) := ⟨blk_below (by (first | exact heap_alloc_new _ _ | (refine blk_alloc ?_ _; exact heap_alloc_new _ _) | ((with_reducible repeat (first | refine blk_drewN ?_ _ | refine blk_drew ?_ | refine blk_alloc ?_ _)); exact Kx1.out))) hb_⟩
  have Zw8 : Aside0 (w7.heap.size + 0 ≤ w8.heap.size) := ⟨by have h_ := hb_.size; (try simp at h_); omega⟩
  have nB_ := Aside0.mk (below_step (by repeat (first | exact HB.out | apply below_alloc | apply pw_below_drewN | apply below_drew1)) hb_)
  clear HB HW0l HX1 HX2 HG0l Kp1 Kx1 hb_
  have HB := nB_
  clear nB_
  have HW0l := nW0l
  clear nW0l
  have HX1 := nX1
  clear nX1
  have HX2 := nX2
  clear nX2
  have HG0l := nG0l
  clear nG0l
  have Kp1 := np1
  clear np1
  have Kx1 := nx1
  clear nx1
  try clear qp1_0 qp1_1 qx1_0 qx1_1
  have zp1_ := blk_lt Kp1.out
  have qp1_0 := (blk_cell Kp1.out 0).trans rfl
  have qp1_1 := (blk_cell Kp1.out 1).trans rfl
  have zx1_ := blk_lt Kx1.out
  have qx1_0 := (blk_cell Kx1.out 0).trans rfl
  have qx1_1 := (blk_cell Kx1.out 1).trans rfl
  go_wp2_with fail
  clear zp1_ qp1_0 qp1_1
  clear zx1_ qx1_0 qx1_1
  have nW0l := Aside0.mk (Kd.R_drew HW0l.out)
  have nX1 := Aside0.mk (Kd.S_drew HX1.out)
  have nX2 := Aside0.mk (Kd.R_drew HX2.out)
  have nG0l := Aside0.mk (Kd.R_drew HG0l.out)
  have np1 := Aside0.mk (blk_drew Kp1.out)
  have nx1 := Aside0.mk (blk_drew Kx1.out)
  have nB_ := Aside0.mk (below_drew1 HB.out)
  have Zw9 : Aside0 (w8.heap.size + 0 ≤ (w8.drew).heap.size) := ⟨by simp⟩
  clear HB HW0l HX1 HX2 HG0l Kp1 Kx1
  have HB := nB_
  clear nB_
  have HW0l := nW0l
  clear nW0l
  have HX1 := nX1
  clear nX1
  have HX2 := nX2
  clear nX2
  have HG0l := nG0l
  clear nG0l
  have Kp1 := np1
  clear np1
  have Kx1 := nx1
  clear nx1
  refine start_ (n := 5) (S := fun w' => w'.cell? ⟨w5.heap.size, 0, none⟩ = some (.int .i64 a1) ∧ w'.cell? ⟨w5.heap.size, 1, none⟩ = some (.slice AX1 l1.length cX1) ∧ w'.cell? ⟨w.heap.size, 0, none⟩ = some (.int .i64 a1) ∧ w'.cell? ⟨w.heap.size, 1, none⟩ = some (.slice A1 l1.length c1)) (ds := []) #[false, false, false, false, false] (by kernel_rfl) rfl rfl ⟨(blk_cell Kx1.out 0).trans rfl, (blk_cell Kx1.out 1).trans rfl, (blk_cell Kp1.out 0).trans rfl, (blk_cell Kp1.out 1).trans rfl⟩ (fun hHeld => ?_)
  generalize w8.drew = w9 at HB Zw9 hHeld HW0l HX1 HX2 HG0l Kp1 Kx1 ⊢
  refine take_ (i := 0) (N := some 56) (v := ?_) (a' := ?_) #[true, false, false, false, false] rfl rfl (by kernel_rfl) (fun _ _ _ h => h) (Or.inl ⟨by rfl, ?_⟩) hHeld ?_ ?_
  rotate_left
  · rintro w' ⟨s0_, s1_, s2_, s3_⟩
    go_simp
    with_reducible rfl
  rotate_left
  · simp only [Act.put, List.setIfInBounds_toArray, List.set_cons_zero, List.set_cons_succ, i64_w, i32_w]
    rfl
  refine take_ (i := 1) (N := some 57) (v := ?_) (a' := ?_) #[true, true, false, false, false] rfl rfl (by kernel_rfl) (fun _ _ _ h => h) (Or.inl ⟨by rfl, ?_⟩) hHeld ?_ ?_
  rotate_left
  · rintro w' ⟨s0_, s1_, s2_, s3_⟩
    go_simp
    with_reducible rfl
  rotate_left
  · simp only [Act.put, List.setIfInBounds_toArray, List.set_cons_zero, List.set_cons_succ, i64_w, i32_w]
    rfl
  refine one_ (i := 2) (N := some 58) #[true, true, true, false, false] rfl rfl (by kernel_rfl) (by decide) (fun K hK => ?_)
  refine goes_ Try.func11 (by kernel_rfl) rfl #[.agg #[.int .i64 a1, .slice A1 l1.length c1]] (by rfl) rfl rfl (by (try simp only [List.map_toArray, List.map_cons, List.map_nil]); first | done | rfl) ?_
  refine (laws_toGraph.calls k a1 _ _ l1 a1 l1 _ (Kd.C_below HR1.out (by repeat (first | exact HB.out | apply below_alloc | apply pw_below_drewN | apply below_drew1))) hc1 FG1.out).mono ?_
  rintro e w10 ⟨ve1, rfl, hse1_, hb_⟩
  refine ⟨_, rfl, ?_⟩
  have HB0_ := Aside0.mk (by repeat (first | exact HB.out | apply below_alloc | apply pw_below_drewN | apply below_drew1))
  have He1 : Aside0 (Kd.S (Kd.slice 2 (Kd.int .i64)) 32 w10 w.heap.size (fun k_ => w9.heap.size ≤ k_ ∧ k_ < w10.heap.size) _ l1) := ⟨Kd.S_mono (Kd.S_lower (Kd.S_bound hse1_) (by have h_ := HB0_.out.size; (try simp at h_); (try simp); omega)) (fun k_ hk_ => ⟨by have h_ := hk_.2.1; (try simp at h_); omega, hk_.2.2.1⟩)⟩
  clear HB0_ hse1_
  have nW0l := Aside0.mk (Kd.R_below (by (with_reducible repeat (first | apply Kd.R_alloc | apply Kd.R_drewN | apply Kd.R_drew)); exact HW0l.out) hb_)
  have nX1 := Aside0.mk (Kd.S_below (by (with_reducible repeat (first | apply Kd.S_alloc | apply Kd.S_drewN | apply Kd.S_drew)); exact HX1.out) hb_)
  have nX2 := Aside0.mk (Kd.R_below (by (with_reducible repeat (first | apply Kd.R_alloc | apply Kd.R_drewN | apply Kd.R_drew)); exact HX2.out) hb_)
  have nG0l := Aside0.mk (Kd.R_below (by (with_reducible repeat (first | apply Kd.R_alloc | apply Kd.R_drewN | apply Kd.R_drew)); exact HG0l.out) hb_)
  have np1 : Aside0 (w10.heap[w.heap.size]? = some (.cells #[.int .i64 a1, .slice A1 l1.length c1] 24 (0, 0))) := ⟨blk_below (by (first | exact heap_alloc_new _ _ | (refine blk_alloc ?_ _; exact heap_alloc_new _ _) | ((with_reducible repeat (first | refine blk_drewN ?_ _ | refine blk_drew ?_ | refine blk_alloc ?_ _)); exact Kp1.out))) hb_⟩
  have nx1 : Aside0 (w10.heap[w5.heap.size]? = some (.cells #[.int .i64 a1, .slice AX1 l1.length cX1] 28 (0, 0))) := ⟨blk_below (by (first | exact heap_alloc_new _ _ | (refine blk_alloc ?_ _; exact heap_alloc_new _ _) | ((with_reducible repeat (first | refine blk_drewN ?_ _ | refine blk_drew ?_ | refine blk_alloc ?_ _)); exact Kx1.out))) hb_⟩
  have Zw10 : Aside0 (w9.heap.size + 0 ≤ w10.heap.size) := ⟨by have h_ := hb_.size; (try simp at h_); omega⟩
  have nB_ := Aside0.mk (below_step (by repeat (first | exact HB.out | apply below_alloc | apply pw_below_drewN | apply below_drew1)) hb_)
  clear HB HW0l HX1 HX2 HG0l Kp1 Kx1 hb_
  have HB := nB_
  clear nB_
  have HW0l := nW0l
  clear nW0l
  have HX1 := nX1
  clear nX1
  have HX2 := nX2
  clear nX2
  have HG0l := nG0l
  clear nG0l
  have Kp1 := np1
  clear np1
  have Kx1 := nx1
  clear nx1
  obtain ⟨Ae1, ce1, ee1⟩ := Kd.S_slice He1.out
  subst ee1
  refine hK.out _ _ ⟨(blk_cell Kx1.out 0).trans rfl, (blk_cell Kx1.out 1).trans rfl, (blk_cell Kp1.out 0).trans rfl, (blk_cell Kp1.out 1).trans rfl⟩ (fun hHeld => ?_)
  clear hK K
  refine norm_ (a' := ?_) ?_ ?_
  rotate_left
  · show Act.put _ (some 58) _ = _
    simp only [Act.put, List.setIfInBounds_toArray, List.set_cons_zero, List.set_cons_succ, i64_w, i32_w]
    rfl
  refine one_ (i := 3) (N := some 59) #[true, true, true, true, false] rfl rfl (by kernel_rfl) (by decide) (fun K hK => ?_)
  refine goes_ Try.func13 (by kernel_rfl) rfl #[.agg #[.int .i64 a1, .slice AX1 l1.length cX1], .agg #[.int .i64 a1, .slice Ae1 l1.length ce1]] (by rfl) rfl rfl (by (try simp only [List.map_toArray, List.map_cons, List.map_nil]); first | done | rfl) ?_
  refine (laws_eqGraph.calls k a1 _ _ l1 a1 _ _ l1 true _ (Kd.S_reads' (by (with_reducible repeat (first | apply Kd.S_alloc | apply Kd.S_drewN | apply Kd.S_drew)); exact HX1.out)).2.2 (Kd.S_reads' HX1.out).2.1 (Kd.S_reads' (by (with_reducible repeat (first | apply Kd.S_alloc | apply Kd.S_drewN | apply Kd.S_drew)); exact He1.out)).2.2 (Kd.S_reads' He1.out).2.1 FQ1.out).mono ?_
  rintro e w11 ⟨rfl, hb_⟩
  refine ⟨_, rfl, ?_⟩
  have HB0_ := Aside0.mk (by repeat (first | exact HB.out | apply below_alloc | apply pw_below_drewN | apply below_drew1))
  clear HB0_
  clear He1
  have nW0l := Aside0.mk (Kd.R_below (by (with_reducible repeat (first | apply Kd.R_alloc | apply Kd.R_drewN | apply Kd.R_drew)); exact HW0l.out) hb_)
  have nX1 := Aside0.mk (Kd.S_below (by (with_reducible repeat (first | apply Kd.S_alloc | apply Kd.S_drewN | apply Kd.S_drew)); exact HX1.out) hb_)
  have nX2 := Aside0.mk (Kd.R_below (by (with_reducible repeat (first | apply Kd.R_alloc | apply Kd.R_drewN | apply Kd.R_drew)); exact HX2.out) hb_)
  have nG0l := Aside0.mk (Kd.R_below (by (with_reducible repeat (first | apply Kd.R_alloc | apply Kd.R_drewN | apply Kd.R_drew)); exact HG0l.out) hb_)
  have np1 : Aside0 (w11.heap[w.heap.size]? = some (.cells #[.int .i64 a1, .slice A1 l1.length c1] 24 (0, 0))) := ⟨blk_below (by (first | exact heap_alloc_new _ _ | (refine blk_alloc ?_ _; exact heap_alloc_new _ _) | ((with_reducible repeat (first | refine blk_drewN ?_ _ | refine blk_drew ?_ | refine blk_alloc ?_ _)); exact Kp1.out))) hb_⟩
  have nx1 : Aside0 (w11.heap[w5.heap.size]? = some (.cells #[.int .i64 a1, .slice AX1 l1.length cX1] 28 (0, 0))) := ⟨blk_below (by (first | exact heap_alloc_new _ _ | (refine blk_alloc ?_ _; exact heap_alloc_new _ _) | ((with_reducible repeat (first | refine blk_drewN ?_ _ | refine blk_drew ?_ | refine blk_alloc ?_ _)); exact Kx1.out))) hb_⟩
  have Zw11 : Aside0 (w10.heap.size + 0 ≤ w11.heap.size) := ⟨by have h_ := hb_.size; (try simp at h_); omega⟩
  have nB_ := Aside0.mk (below_step (by repeat (first | exact HB.out | apply below_alloc | apply pw_below_drewN | apply below_drew1)) hb_)
  clear HB HW0l HX1 HX2 HG0l Kp1 Kx1 hb_
  have HB := nB_
  clear nB_
  have HW0l := nW0l
  clear nW0l
  have HX1 := nX1
  clear nX1
  have HX2 := nX2
  clear nX2
  have HG0l := nG0l
  clear nG0l
  have Kp1 := np1
  clear np1
  have Kx1 := nx1
  clear nx1
  refine hK.out _ _ ⟨(blk_cell Kx1.out 0).trans rfl, (blk_cell Kx1.out 1).trans rfl, (blk_cell Kp1.out 0).trans rfl, (blk_cell Kp1.out 1).trans rfl⟩ (fun hHeld => ?_)
  clear hK K
  refine norm_ (a' := ?_) ?_ ?_
  rotate_left
  · show Act.put _ (some 59) _ = _
    simp only [Act.put, List.setIfInBounds_toArray, List.set_cons_zero, List.set_cons_succ, i64_w, i32_w]
    rfl
  refine pure_ (i := 4) (N := some 60) (v := ?_) (a' := ?_) #[true, true, true, true, true] rfl rfl (by kernel_rfl) (fun _ _ _ h => h) (Or.inl ⟨by rfl, ?_⟩) ?_ ?_
  rotate_left
  · intro w'
    go_simp
    with_reducible rfl
  rotate_left
  · simp only [Act.put, List.setIfInBounds_toArray, List.set_cons_zero, List.set_cons_succ, i64_w, i32_w]
    rfl
  refine done_ (by kernel_rfl) ?_
  try clear qp1_0 qp1_1 qx1_0 qx1_1
  have zp1_ := blk_lt Kp1.out
  have qp1_0 := (blk_cell Kp1.out 0).trans rfl
  have qp1_1 := (blk_cell Kp1.out 1).trans rfl
  have zx1_ := blk_lt Kx1.out
  have qx1_0 := (blk_cell Kx1.out 0).trans rfl
  have qx1_1 := (blk_cell Kx1.out 1).trans rfl
  go_wp2_with fail
  clear zp1_ qp1_0 qp1_1
  clear zx1_ qx1_0 qx1_1
  refine (laws_toInt64S.calls k _ _ l2 l2 _ (Kd.C_below HR2.out (by repeat (first | exact HB.out | apply below_alloc | apply pw_below_drewN | apply below_drew1))) hc2 FG2.out).mono ?_
  rintro e w12 ⟨ve2, rfl, hse2_, hb_⟩
  have HB0_ := Aside0.mk (by repeat (first | exact HB.out | apply below_alloc | apply pw_below_drewN | apply below_drew1))
  have He2 : Aside0 (Kd.R (Kd.int .i64) 2 w12 w.heap.size (fun k_ => w11.heap.size ≤ k_ ∧ k_ < w12.heap.size) _ l2) := ⟨Kd.R_mono (Kd.R_lower (Kd.R_bound hse2_) (by have h_ := HB0_.out.size; (try simp at h_); (try simp); omega)) (fun k_ hk_ => ⟨by have h_ := hk_.2.1; (try simp at h_); omega, hk_.2.2.1⟩)⟩
  clear HB0_ hse2_
  have nW0l := Aside0.mk (Kd.R_below (by (with_reducible repeat (first | apply Kd.R_alloc | apply Kd.R_drewN | apply Kd.R_drew)); exact HW0l.out) hb_)
  have nX1 := Aside0.mk (Kd.S_below (by (with_reducible repeat (first | apply Kd.S_alloc | apply Kd.S_drewN | apply Kd.S_drew)); exact HX1.out) hb_)
  have nX2 := Aside0.mk (Kd.R_below (by (with_reducible repeat (first | apply Kd.R_alloc | apply Kd.R_drewN | apply Kd.R_drew)); exact HX2.out) hb_)
  have nG0l := Aside0.mk (Kd.R_below (by (with_reducible repeat (first | apply Kd.R_alloc | apply Kd.R_drewN | apply Kd.R_drew)); exact HG0l.out) hb_)
  have np1 : Aside0 (w12.heap[w.heap.size]? = some (.cells #[.int .i64 a1, .slice A1 l1.length c1] 24 (0, 0))) := ⟨blk_below (by (first | exact heap_alloc_new _ _ | (refine blk_alloc ?_ _; exact heap_alloc_new _ _) | ((with_reducible repeat (first | refine blk_drewN ?_ _ | refine blk_drew ?_ | refine blk_alloc ?_ _)); exact Kp1.out))) hb_⟩
  have nx1 : Aside0 (w12.heap[w5.heap.size]? = some (.cells #[.int .i64 a1, .slice AX1 l1.length cX1] 28 (0, 0))) := ⟨blk_below (by (first | exact heap_alloc_new _ _ | (refine blk_alloc ?_ _; exact heap_alloc_new _ _) | ((with_reducible repeat (first | refine blk_drewN ?_ _ | refine blk_drew ?_ | refine blk_alloc ?_ _)); exact Kx1.out))) hb_⟩
  have Zw12 : Aside0 (w11.heap.size + 0 ≤ w12.heap.size) := ⟨by have h_ := hb_.size; (try simp at h_); omega⟩
  have nB_ := Aside0.mk (below_step (by repeat (first | exact HB.out | apply below_alloc | apply pw_below_drewN | apply below_drew1)) hb_)
  clear HB HW0l HX1 HX2 HG0l Kp1 Kx1 hb_
  have HB := nB_
  clear nB_
  have HW0l := nW0l
  clear nW0l
  have HX1 := nX1
  clear nX1
  have HX2 := nX2
  clear nX2
  have HG0l := nG0l
  clear nG0l
  have Kp1 := np1
  clear np1
  have Kx1 := nx1
  clear nx1
  obtain ⟨Ae2, ce2, ee2⟩ := Kd.R_slice He2.out
  subst ee2
  try clear qp1_0 qp1_1 qx1_0 qx1_1
  have zp1_ := blk_lt Kp1.out
  have qp1_0 := (blk_cell Kp1.out 0).trans rfl
  have qp1_1 := (blk_cell Kp1.out 1).trans rfl
  have zx1_ := blk_lt Kx1.out
  have qx1_0 := (blk_cell Kx1.out 0).trans rfl
  have qx1_1 := (blk_cell Kx1.out 1).trans rfl
  go_wp2_with fail
  clear zp1_ qp1_0 qp1_1
  clear zx1_ qx1_0 qx1_1
  refine (laws_eqInt64S.calls k _ _ l2 _ _ l2 true _ (Kd.R_reads' (by (with_reducible repeat (first | apply Kd.R_alloc | apply Kd.R_drewN | apply Kd.R_drew)); exact HX2.out)).2.2 (Kd.R_reads' HX2.out).2.1 (Kd.R_reads' (by (with_reducible repeat (first | apply Kd.R_alloc | apply Kd.R_drewN | apply Kd.R_drew)); exact He2.out)).2.2 (Kd.R_reads' He2.out).2.1 FQ2.out).mono ?_
  rintro e w13 ⟨rfl, hd_⟩
  have hb_ := hd_.below
  clear hd_
  have nW0l := Aside0.mk (Kd.R_below (by (with_reducible repeat (first | apply Kd.R_alloc | apply Kd.R_drewN | apply Kd.R_drew)); exact HW0l.out) hb_)
  have nX1 := Aside0.mk (Kd.S_below (by (with_reducible repeat (first | apply Kd.S_alloc | apply Kd.S_drewN | apply Kd.S_drew)); exact HX1.out) hb_)
  have nX2 := Aside0.mk (Kd.R_below (by (with_reducible repeat (first | apply Kd.R_alloc | apply Kd.R_drewN | apply Kd.R_drew)); exact HX2.out) hb_)
  have nG0l := Aside0.mk (Kd.R_below (by (with_reducible repeat (first | apply Kd.R_alloc | apply Kd.R_drewN | apply Kd.R_drew)); exact HG0l.out) hb_)
  have ne2 := Aside0.mk (Kd.R_below (by (with_reducible repeat (first | apply Kd.R_alloc | apply Kd.R_drewN | apply Kd.R_drew)); exact He2.out) hb_)
  have np1 : Aside0 (w13.heap[w.heap.size]? = some (.cells #[.int .i64 a1, .slice A1 l1.length c1] 24 (0, 0))) := ⟨blk_below (by (first | exact heap_alloc_new _ _ | (refine blk_alloc ?_ _; exact heap_alloc_new _ _) | ((with_reducible repeat (first | refine blk_drewN ?_ _ | refine blk_drew ?_ | refine blk_alloc ?_ _)); exact Kp1.out))) hb_⟩
  have nx1 : Aside0 (w13.heap[w5.heap.size]? = some (.cells #[.int .i64 a1, .slice AX1 l1.length cX1] 28 (0, 0))) := ⟨blk_below (by (first | exact heap_alloc_new _ _ | (refine blk_alloc ?_ _; exact heap_alloc_new _ _) | ((with_reducible repeat (first | refine blk_drewN ?_ _ | refine blk_drew ?_ | refine blk_alloc ?_ _)); exact Kx1.out))) hb_⟩
  have Zw13 : Aside0 (w12.heap.size + 0 ≤ w13.heap.size) := ⟨by have h_ := hb_.size; (try simp at h_); omega⟩
  have nB_ := Aside0.mk (below_step (by repeat (first | exact HB.out | apply below_alloc | apply pw_below_drewN | apply below_drew1)) hb_)
  clear HB HW0l HX1 HX2 HG0l He2 Kp1 Kx1 hb_
  have HB := nB_
  clear nB_
  have HW0l := nW0l
  clear nW0l
  have HX1 := nX1
  clear nX1
  have HX2 := nX2
  clear nX2
  have HG0l := nG0l
  clear nG0l
  have He2 := ne2
  clear ne2
  have Kp1 := np1
  clear np1
  have Kx1 := nx1
  clear nx1
  try clear qp1_0 qp1_1 qx1_0 qx1_1
  have zp1_ := blk_lt Kp1.out
  have qp1_0 := (blk_cell Kp1.out 0).trans rfl
  have qp1_1 := (blk_cell Kp1.out 1).trans rfl
  have zx1_ := blk_lt Kx1.out
  have qx1_0 := (blk_cell Kx1.out 0).trans rfl
  have qx1_1 := (blk_cell Kx1.out 1).trans rfl
  go_wp2_with fail
  clear zp1_ qp1_0 qp1_1
  clear zx1_ qx1_0 qx1_1
  refine (laws_markGraph.calls k (fun k_ => w4.heap.size ≤ k_ ∧ k_ < w5.heap.size) a1 _ _ _ l1 1 m1 y1 w _ (by repeat (first | exact HB.out | apply below_alloc | apply pw_below_drewN | apply below_drew1)) (by (with_reducible repeat (first | apply Kd.S_alloc | apply Kd.S_drewN | apply Kd.S_drew)); exact HX1.out) FM1.out).mono ?_
  rintro e w14 ⟨rfl, hS_, hb0_, hk0_⟩
  have hk_ := hk0_
  have nI_ : Aside0 (Kd.S (Kd.slice 2 (Kd.int .i64)) 32 w14 w.heap.size (fun k_ => w4.heap.size ≤ k_ ∧ k_ < w5.heap.size) (.slice AX1 l1.length cX1) y1) := ⟨hS_⟩
  clear HX1 hS_ hk0_
  have nW0l := Aside0.mk (Kd.R_kept (by (with_reducible repeat (first | apply Kd.R_alloc | apply Kd.R_drewN | apply Kd.R_drew)); exact HW0l.out) hk_ (fun k_ h1_ h2_ => by have h3_ := h1_; have h4_ := h2_; have zw1_ := Zw1.out; have zw2_ := Zw2.out; have zw3_ := Zw3.out; have zw4_ := Zw4.out; have zw5_ := Zw5.out; have zw6_ := Zw6.out; have zw7_ := Zw7.out; have zw8_ := Zw8.out; have zw9_ := Zw9.out; have zw10_ := Zw10.out; have zw11_ := Zw11.out; have zw12_ := Zw12.out; have zw13_ := Zw13.out; omega))
  have nX2 := Aside0.mk (Kd.R_kept (by (with_reducible repeat (first | apply Kd.R_alloc | apply Kd.R_drewN | apply Kd.R_drew)); exact HX2.out) hk_ (fun k_ h1_ h2_ => by have h3_ := h1_; have h4_ := h2_; have zw1_ := Zw1.out; have zw2_ := Zw2.out; have zw3_ := Zw3.out; have zw4_ := Zw4.out; have zw5_ := Zw5.out; have zw6_ := Zw6.out; have zw7_ := Zw7.out; have zw8_ := Zw8.out; have zw9_ := Zw9.out; have zw10_ := Zw10.out; have zw11_ := Zw11.out; have zw12_ := Zw12.out; have zw13_ := Zw13.out; omega))
  have nG0l := Aside0.mk (Kd.R_kept (by (with_reducible repeat (first | apply Kd.R_alloc | apply Kd.R_drewN | apply Kd.R_drew)); exact HG0l.out) hk_ (fun k_ h1_ h2_ => by have h3_ := h1_; have h4_ := h2_; have zw1_ := Zw1.out; have zw2_ := Zw2.out; have zw3_ := Zw3.out; have zw4_ := Zw4.out; have zw5_ := Zw5.out; have zw6_ := Zw6.out; have zw7_ := Zw7.out; have zw8_ := Zw8.out; have zw9_ := Zw9.out; have zw10_ := Zw10.out; have zw11_ := Zw11.out; have zw12_ := Zw12.out; have zw13_ := Zw13.out; omega))
  have ne2 := Aside0.mk (Kd.R_kept (by (with_reducible repeat (first | apply Kd.R_alloc | apply Kd.R_drewN | apply Kd.R_drew)); exact He2.out) hk_ (fun k_ h1_ h2_ => by have h3_ := h1_; have h4_ := h2_; have zw1_ := Zw1.out; have zw2_ := Zw2.out; have zw3_ := Zw3.out; have zw4_ := Zw4.out; have zw5_ := Zw5.out; have zw6_ := Zw6.out; have zw7_ := Zw7.out; have zw8_ := Zw8.out; have zw9_ := Zw9.out; have zw10_ := Zw10.out; have zw11_ := Zw11.out; have zw12_ := Zw12.out; have zw13_ := Zw13.out; omega))
  have np1 : Aside0 (w14.heap[w.heap.size]? = some (.cells #[.int .i64 a1, .slice A1 l1.length c1] 24 (0, 0))) := ⟨blk_kept (by (first | exact heap_alloc_new _ _ | (refine blk_alloc ?_ _; exact heap_alloc_new _ _) | ((with_reducible repeat (first | refine blk_drewN ?_ _ | refine blk_drew ?_ | refine blk_alloc ?_ _)); exact Kp1.out))) hk_ (fun h2_ => by have h4_ := h2_; have zw1_ := Zw1.out; have zw2_ := Zw2.out; have zw3_ := Zw3.out; have zw4_ := Zw4.out; have zw5_ := Zw5.out; have zw6_ := Zw6.out; have zw7_ := Zw7.out; have zw8_ := Zw8.out; have zw9_ := Zw9.out; have zw10_ := Zw10.out; have zw11_ := Zw11.out; have zw12_ := Zw12.out; have zw13_ := Zw13.out; omega)⟩
  have nx1 : Aside0 (w14.heap[w5.heap.size]? = some (.cells #[.int .i64 a1, .slice AX1 l1.length cX1] 28 (0, 0))) := ⟨blk_kept (by (first | exact heap_alloc_new _ _ | (refine blk_alloc ?_ _; exact heap_alloc_new _ _) | ((with_reducible repeat (first | refine blk_drewN ?_ _ | refine blk_drew ?_ | refine blk_alloc ?_ _)); exact Kx1.out))) hk_ (fun h2_ => by have h4_ := h2_; have zw1_ := Zw1.out; have zw2_ := Zw2.out; have zw3_ := Zw3.out; have zw4_ := Zw4.out; have zw5_ := Zw5.out; have zw6_ := Zw6.out; have zw7_ := Zw7.out; have zw8_ := Zw8.out; have zw9_ := Zw9.out; have zw10_ := Zw10.out; have zw11_ := Zw11.out; have zw12_ := Zw12.out; have zw13_ := Zw13.out; omega)⟩
  have Zw14 : Aside0 (w13.heap.size + 0 ≤ w14.heap.size) := ⟨by have h_ := hk_.1; (try simp at h_); omega⟩
  have nB_ := Aside0.mk hb0_
  clear HB HW0l HX2 HG0l He2 Kp1 Kx1 hk_ hb0_
  have HB := nB_
  clear nB_
  have HW0l := nW0l
  clear nW0l
  have HX2 := nX2
  clear nX2
  have HG0l := nG0l
  clear nG0l
  have He2 := ne2
  clear ne2
  have Kp1 := np1
  clear np1
  have Kx1 := nx1
  clear nx1
  have HX1 := nI_
  clear nI_
  have LX1w14 : Aside0 (y1.length = l1.length) := ⟨(Kd.S_reads' HX1.out).1.symm⟩
  try clear qp1_0 qp1_1 qx1_0 qx1_1
  have zp1_ := blk_lt Kp1.out
  have qp1_0 := (blk_cell Kp1.out 0).trans rfl
  have qp1_1 := (blk_cell Kp1.out 1).trans rfl
  have zx1_ := blk_lt Kx1.out
  have qx1_0 := (blk_cell Kx1.out 0).trans rfl
  have qx1_1 := (blk_cell Kx1.out 1).trans rfl
  go_wp2_with fail
  clear zp1_ qp1_0 qp1_1
  clear zx1_ qx1_0 qx1_1
  refine (laws_markInt64S.calls k (fun k_ => some k_ = (.slice AX2 l2.length cX2 : Value).ownBlock) _ l2 m1 m2 y2 w _ (by repeat (first | exact HB.out | apply below_alloc | apply pw_below_drewN | apply below_drew1)) (Kd.R_tight rfl (by (with_reducible repeat (first | apply Kd.R_alloc | apply Kd.R_drewN | apply Kd.R_drew)); exact HX2.out)) FM2.out).mono ?_
  rintro e w15 ⟨rfl, hS_, hb0_, hk0_⟩
  have hk_ : Kept _ w15 (fun k_ => w5.heap.size + 1 ≤ k_ ∧ k_ < w6.heap.size) := hk0_.mono (fun k_ hk_ => HX2.out.1 k_ hk_.symm)
  have nI_ : Aside0 (Kd.R (Kd.int .i64) 2 w15 w.heap.size (fun k_ => w5.heap.size + 1 ≤ k_ ∧ k_ < w6.heap.size) (.slice AX2 l2.length cX2) y2) := ⟨Kd.R_mono (Kd.R_tight rfl hS_) (fun k_ hk_ => HX2.out.1 k_ hk_.symm)⟩
  clear HX2 hS_ hk0_
  have nW0l := Aside0.mk (Kd.R_kept (by (with_reducible repeat (first | apply Kd.R_alloc | apply Kd.R_drewN | apply Kd.R_drew)); exact HW0l.out) hk_ (fun k_ h1_ h2_ => by have h3_ := h1_; have h4_ := h2_; have zw1_ := Zw1.out; have zw2_ := Zw2.out; have zw3_ := Zw3.out; have zw4_ := Zw4.out; have zw5_ := Zw5.out; have zw6_ := Zw6.out; have zw7_ := Zw7.out; have zw8_ := Zw8.out; have zw9_ := Zw9.out; have zw10_ := Zw10.out; have zw11_ := Zw11.out; have zw12_ := Zw12.out; have zw13_ := Zw13.out; have zw14_ := Zw14.out; omega))
  have nX1 := Aside0.mk (Kd.S_kept (by (with_reducible repeat (first | apply Kd.S_alloc | apply Kd.S_drewN | apply Kd.S_drew)); exact HX1.out) hk_ (fun k_ h1_ h2_ => by have h3_ := h1_; have h4_ := h2_; have zw1_ := Zw1.out; have zw2_ := Zw2.out; have zw3_ := Zw3.out; have zw4_ := Zw4.out; have zw5_ := Zw5.out; have zw6_ := Zw6.out; have zw7_ := Zw7.out; have zw8_ := Zw8.out; have zw9_ := Zw9.out; have zw10_ := Zw10.out; have zw11_ := Zw11.out; have zw12_ := Zw12.out; have zw13_ := Zw13.out; have zw14_ := Zw14.out; omega))
  have nG0l := Aside0.mk (Kd.R_kept (by (with_reducible repeat (first | apply Kd.R_alloc | apply Kd.R_drewN | apply Kd.R_drew)); exact HG0l.out) hk_ (fun k_ h1_ h2_ => by have h3_ := h1_; have h4_ := h2_; have zw1_ := Zw1.out; have zw2_ := Zw2.out; have zw3_ := Zw3.out; have zw4_ := Zw4.out; have zw5_ := Zw5.out; have zw6_ := Zw6.out; have zw7_ := Zw7.out; have zw8_ := Zw8.out; have zw9_ := Zw9.out; have zw10_ := Zw10.out; have zw11_ := Zw11.out; have zw12_ := Zw12.out; have zw13_ := Zw13.out; have zw14_ := Zw14.out; omega))
  have ne2 := Aside0.mk (Kd.R_kept (by (with_reducible repeat (first | apply Kd.R_alloc | apply Kd.R_drewN | apply Kd.R_drew)); exact He2.out) hk_ (fun k_ h1_ h2_ => by have h3_ := h1_; have h4_ := h2_; have zw1_ := Zw1.out; have zw2_ := Zw2.out; have zw3_ := Zw3.out; have zw4_ := Zw4.out; have zw5_ := Zw5.out; have zw6_ := Zw6.out; have zw7_ := Zw7.out; have zw8_ := Zw8.out; have zw9_ := Zw9.out; have zw10_ := Zw10.out; have zw11_ := Zw11.out; have zw12_ := Zw12.out; have zw13_ := Zw13.out; have zw14_ := Zw14.out; omega))
  have np1 : Aside0 (w15.heap[w.heap.size]? = some (.cells #[.int .i64 a1, .slice A1 l1.length c1] 24 (0, 0))) := ⟨blk_kept (by (first | exact heap_alloc_new _ _ | (refine blk_alloc ?_ _; exact heap_alloc_new _ _) | ((with_reducible repeat (first | refine blk_drewN ?_ _ | refine blk_drew ?_ | refine blk_alloc ?_ _)); exact Kp1.out))) hk_ (fun h2_ => by have h4_ := h2_; have zw1_ := Zw1.out; have zw2_ := Zw2.out; have zw3_ := Zw3.out; have zw4_ := Zw4.out; have zw5_ := Zw5.out; have zw6_ := Zw6.out; have zw7_ := Zw7.out; have zw8_ := Zw8.out; have zw9_ := Zw9.out; have zw10_ := Zw10.out; have zw11_ := Zw11.out; have zw12_ := Zw12.out; have zw13_ := Zw13.out; have zw14_ := Zw14.out; omega)⟩
  have nx1 : Aside0 (w15.heap[w5.heap.size]? = some (.cells #[.int .i64 a1, .slice AX1 l1.length cX1] 28 (0, 0))) := ⟨blk_kept (by (first | exact heap_alloc_new _ _ | (refine blk_alloc ?_ _; exact heap_alloc_new _ _) | ((with_reducible repeat (first | refine blk_drewN ?_ _ | refine blk_drew ?_ | refine blk_alloc ?_ _)); exact Kx1.out))) hk_ (fun h2_ => by have h4_ := h2_; have zw1_ := Zw1.out; have zw2_ := Zw2.out; have zw3_ := Zw3.out; have zw4_ := Zw4.out; have zw5_ := Zw5.out; have zw6_ := Zw6.out; have zw7_ := Zw7.out; have zw8_ := Zw8.out; have zw9_ := Zw9.out; have zw10_ := Zw10.out; have zw11_ := Zw11.out; have zw12_ := Zw12.out; have zw13_ := Zw13.out; have zw14_ := Zw14.out; omega)⟩
  have Zw15 : Aside0 (w14.heap.size + 0 ≤ w15.heap.size) := ⟨by have h_ := hk_.1; (try simp at h_); omega⟩
  have nB_ := Aside0.mk hb0_
  clear HB HW0l HX1 HG0l He2 Kp1 Kx1 hk_ hb0_
  have HB := nB_
  clear nB_
  have HW0l := nW0l
  clear nW0l
  have HX1 := nX1
  clear nX1
  have HG0l := nG0l
  clear nG0l
  have He2 := ne2
  clear ne2
  have Kp1 := np1
  clear np1
  have Kx1 := nx1
  clear nx1
  have HX2 := nI_
  clear nI_
  have LX2w15 : Aside0 (y2.length = l2.length) := ⟨(Kd.R_reads' HX2.out).1.symm⟩
  try clear qp1_0 qp1_1 qx1_0 qx1_1
  have zp1_ := blk_lt Kp1.out
  have qp1_0 := (blk_cell Kp1.out 0).trans rfl
  have qp1_1 := (blk_cell Kp1.out 1).trans rfl
  have zx1_ := blk_lt Kx1.out
  have qx1_0 := (blk_cell Kx1.out 0).trans rfl
  have qx1_1 := (blk_cell Kx1.out 1).trans rfl
  go_wp2_with fail
  clear zp1_ qp1_0 qp1_1
  clear zx1_ qx1_0 qx1_1
  refine (laws_eqInt64S.calls k _ _ r0l _ _ r0l true _ (Kd.R_reads' (by (with_reducible repeat (first | apply Kd.R_alloc | apply Kd.R_drewN | apply Kd.R_drew)); exact HG0l.out)).2.2 (Kd.R_reads' HG0l.out).2.1 (Kd.R_reads' (by (with_reducible repeat (first | apply Kd.R_alloc | apply Kd.R_drewN | apply Kd.R_drew)); exact HW0l.out)).2.2 (Kd.R_reads' HW0l.out).2.1 FE0.out).mono ?_
  rintro e w16 ⟨rfl, hd_⟩
  have hb_ := hd_.below
  clear hd_
  have nW0l := Aside0.mk (Kd.R_below (by (with_reducible repeat (first | apply Kd.R_alloc | apply Kd.R_drewN | apply Kd.R_drew)); exact HW0l.out) hb_)
  have nX1 := Aside0.mk (Kd.S_below (by (with_reducible repeat (first | apply Kd.S_alloc | apply Kd.S_drewN | apply Kd.S_drew)); exact HX1.out) hb_)
  have nX2 := Aside0.mk (Kd.R_below (by (with_reducible repeat (first | apply Kd.R_alloc | apply Kd.R_drewN | apply Kd.R_drew)); exact HX2.out) hb_)
  have nG0l := Aside0.mk (Kd.R_below (by (with_reducible repeat (first | apply Kd.R_alloc | apply Kd.R_drewN | apply Kd.R_drew)); exact HG0l.out) hb_)
  have ne2 := Aside0.mk (Kd.R_below (by (with_reducible repeat (first | apply Kd.R_alloc | apply Kd.R_drewN | apply Kd.R_drew)); exact He2.out) hb_)
  have np1 : Aside0 (w16.heap[w.heap.size]? = some (.cells #[.int .i64 a1, .slice A1 l1.length c1] 24 (0, 0))) := ⟨blk_below (by (first | exact heap_alloc_new _ _ | (refine blk_alloc ?_ _; exact heap_alloc_new _ _) | ((with_reducible repeat (first | refine blk_drewN ?_ _ | refine blk_drew ?_ | refine blk_alloc ?_ _)); exact Kp1.out))) hb_⟩
  have nx1 : Aside0 (w16.heap[w5.heap.size]? = some (.cells #[.int .i64 a1, .slice AX1 l1.length cX1] 28 (0, 0))) := ⟨blk_below (by (first | exact heap_alloc_new _ _ | (refine blk_alloc ?_ _; exact heap_alloc_new _ _) | ((with_reducible repeat (first | refine blk_drewN ?_ _ | refine blk_drew ?_ | refine blk_alloc ?_ _)); exact Kx1.out))) hb_⟩
  have Zw16 : Aside0 (w15.heap.size + 0 ≤ w16.heap.size) := ⟨by have h_ := hb_.size; (try simp at h_); omega⟩
  have nB_ := Aside0.mk (below_step (by repeat (first | exact HB.out | apply below_alloc | apply pw_below_drewN | apply below_drew1)) hb_)
  clear HB HW0l HX1 HX2 HG0l He2 Kp1 Kx1 hb_
  have HB := nB_
  clear nB_
  have HW0l := nW0l
  clear nW0l
  have HX1 := nX1
  clear nX1
  have HX2 := nX2
  clear nX2
  have HG0l := nG0l
  clear nG0l
  have He2 := ne2
  clear ne2
  have Kp1 := np1
  clear np1
  have Kx1 := nx1
  clear nx1
  try clear qp1_0 qp1_1 qx1_0 qx1_1
  have zp1_ := blk_lt Kp1.out
  have qp1_0 := (blk_cell Kp1.out 0).trans rfl
  have qp1_1 := (blk_cell Kp1.out 1).trans rfl
  have zx1_ := blk_lt Kx1.out
  have qx1_0 := (blk_cell Kx1.out 0).trans rfl
  have qx1_1 := (blk_cell Kx1.out 1).trans rfl
  go_wp2_with fail
  clear zp1_ qp1_0 qp1_1
  clear zx1_ qx1_0 qx1_1
  refine (laws_markInt64S.calls k (fun k_ => some k_ = (.slice AG0l r0l.length cG0l : Value).ownBlock) _ r0l 1 n0l x0l w _ (by repeat (first | exact HB.out | apply below_alloc | apply pw_below_drewN | apply below_drew1)) (Kd.R_tight rfl (by (with_reducible repeat (first | apply Kd.R_alloc | apply Kd.R_drewN | apply Kd.R_drew)); exact HG0l.out)) FN0l.out).mono ?_
  rintro e w17 ⟨rfl, hS_, hb0_, hk0_⟩
  have hk_ : Kept _ w17 (fun k_ => w6.heap.size ≤ k_ ∧ k_ < w7.heap.size) := hk0_.mono (fun k_ hk_ => HG0l.out.1 k_ hk_.symm)
  have nI_ : Aside0 (Kd.R (Kd.int .i64) 2 w17 w.heap.size (fun k_ => w6.heap.size ≤ k_ ∧ k_ < w7.heap.size) (.slice AG0l r0l.length cG0l) x0l) := ⟨Kd.R_mono (Kd.R_tight rfl hS_) (fun k_ hk_ => HG0l.out.1 k_ hk_.symm)⟩
  clear HG0l hS_ hk0_
  have nW0l := Aside0.mk (Kd.R_kept (by (with_reducible repeat (first | apply Kd.R_alloc | apply Kd.R_drewN | apply Kd.R_drew)); exact HW0l.out) hk_ (fun k_ h1_ h2_ => by have h3_ := h1_; have h4_ := h2_; have zw1_ := Zw1.out; have zw2_ := Zw2.out; have zw3_ := Zw3.out; have zw4_ := Zw4.out; have zw5_ := Zw5.out; have zw6_ := Zw6.out; have zw7_ := Zw7.out; have zw8_ := Zw8.out; have zw9_ := Zw9.out; have zw10_ := Zw10.out; have zw11_ := Zw11.out; have zw12_ := Zw12.out; have zw13_ := Zw13.out; have zw14_ := Zw14.out; have zw15_ := Zw15.out; have zw16_ := Zw16.out; omega))
  have nX1 := Aside0.mk (Kd.S_kept (by (with_reducible repeat (first | apply Kd.S_alloc | apply Kd.S_drewN | apply Kd.S_drew)); exact HX1.out) hk_ (fun k_ h1_ h2_ => by have h3_ := h1_; have h4_ := h2_; have zw1_ := Zw1.out; have zw2_ := Zw2.out; have zw3_ := Zw3.out; have zw4_ := Zw4.out; have zw5_ := Zw5.out; have zw6_ := Zw6.out; have zw7_ := Zw7.out; have zw8_ := Zw8.out; have zw9_ := Zw9.out; have zw10_ := Zw10.out; have zw11_ := Zw11.out; have zw12_ := Zw12.out; have zw13_ := Zw13.out; have zw14_ := Zw14.out; have zw15_ := Zw15.out; have zw16_ := Zw16.out; omega))
  have nX2 := Aside0.mk (Kd.R_kept (by (with_reducible repeat (first | apply Kd.R_alloc | apply Kd.R_drewN | apply Kd.R_drew)); exact HX2.out) hk_ (fun k_ h1_ h2_ => by have h3_ := h1_; have h4_ := h2_; have zw1_ := Zw1.out; have zw2_ := Zw2.out; have zw3_ := Zw3.out; have zw4_ := Zw4.out; have zw5_ := Zw5.out; have zw6_ := Zw6.out; have zw7_ := Zw7.out; have zw8_ := Zw8.out; have zw9_ := Zw9.out; have zw10_ := Zw10.out; have zw11_ := Zw11.out; have zw12_ := Zw12.out; have zw13_ := Zw13.out; have zw14_ := Zw14.out; have zw15_ := Zw15.out; have zw16_ := Zw16.out; omega))
  have ne2 := Aside0.mk (Kd.R_kept (by (with_reducible repeat (first | apply Kd.R_alloc | apply Kd.R_drewN | apply Kd.R_drew)); exact He2.out) hk_ (fun k_ h1_ h2_ => by have h3_ := h1_; have h4_ := h2_; have zw1_ := Zw1.out; have zw2_ := Zw2.out; have zw3_ := Zw3.out; have zw4_ := Zw4.out; have zw5_ := Zw5.out; have zw6_ := Zw6.out; have zw7_ := Zw7.out; have zw8_ := Zw8.out; have zw9_ := Zw9.out; have zw10_ := Zw10.out; have zw11_ := Zw11.out; have zw12_ := Zw12.out; have zw13_ := Zw13.out; have zw14_ := Zw14.out; have zw15_ := Zw15.out; have zw16_ := Zw16.out; omega))
  have np1 : Aside0 (w17.heap[w.heap.size]? = some (.cells #[.int .i64 a1, .slice A1 l1.length c1] 24 (0, 0))) := ⟨blk_kept (by (first | exact heap_alloc_new _ _ | (refine blk_alloc ?_ _; exact heap_alloc_new _ _) | ((with_reducible repeat (first | refine blk_drewN ?_ _ | refine blk_drew ?_ | refine blk_alloc ?_ _)); exact Kp1.out))) hk_ (fun h2_ => by have h4_ := h2_; have zw1_ := Zw1.out; have zw2_ := Zw2.out; have zw3_ := Zw3.out; have zw4_ := Zw4.out; have zw5_ := Zw5.out; have zw6_ := Zw6.out; have zw7_ := Zw7.out; have zw8_ := Zw8.out; have zw9_ := Zw9.out; have zw10_ := Zw10.out; have zw11_ := Zw11.out; have zw12_ := Zw12.out; have zw13_ := Zw13.out; have zw14_ := Zw14.out; have zw15_ := Zw15.out; have zw16_ := Zw16.out; omega)⟩
  have nx1 : Aside0 (w17.heap[w5.heap.size]? = some (.cells #[.int .i64 a1, .slice AX1 l1.length cX1] 28 (0, 0))) := ⟨blk_kept (by (first | exact heap_alloc_new _ _ | (refine blk_alloc ?_ _; exact heap_alloc_new _ _) | ((with_reducible repeat (first | refine blk_drewN ?_ _ | refine blk_drew ?_ | refine blk_alloc ?_ _)); exact Kx1.out))) hk_ (fun h2_ => by have h4_ := h2_; have zw1_ := Zw1.out; have zw2_ := Zw2.out; have zw3_ := Zw3.out; have zw4_ := Zw4.out; have zw5_ := Zw5.out; have zw6_ := Zw6.out; have zw7_ := Zw7.out; have zw8_ := Zw8.out; have zw9_ := Zw9.out; have zw10_ := Zw10.out; have zw11_ := Zw11.out; have zw12_ := Zw12.out; have zw13_ := Zw13.out; have zw14_ := Zw14.out; have zw15_ := Zw15.out; have zw16_ := Zw16.out; omega)⟩
  have Zw17 : Aside0 (w16.heap.size + 0 ≤ w17.heap.size) := ⟨by have h_ := hk_.1; (try simp at h_); omega⟩
  have nB_ := Aside0.mk hb0_
  clear HB HW0l HX1 HX2 He2 Kp1 Kx1 hk_ hb0_
  have HB := nB_
  clear nB_
  have HW0l := nW0l
  clear nW0l
  have HX1 := nX1
  clear nX1
  have HX2 := nX2
  clear nX2
  have He2 := ne2
  clear ne2
  have Kp1 := np1
  clear np1
  have Kx1 := nx1
  clear nx1
  have HG0l := nI_
  clear nI_
  have LG0lw17 : Aside0 (x0l.length = r0l.length) := ⟨(Kd.R_reads' HG0l.out).1.symm⟩
  try clear qp1_0 qp1_1 qx1_0 qx1_1
  have zp1_ := blk_lt Kp1.out
  have qp1_0 := (blk_cell Kp1.out 0).trans rfl
  have qp1_1 := (blk_cell Kp1.out 1).trans rfl
  have zx1_ := blk_lt Kx1.out
  have qx1_0 := (blk_cell Kx1.out 0).trans rfl
  have qx1_1 := (blk_cell Kx1.out 1).trans rfl
  go_wp2_with fail
  clear zp1_ qp1_0 qp1_1
  clear zx1_ qx1_0 qx1_1
  rw [← LG0lw17.out]
  refine (laws_heldInt64S.calls k _ _ x0l 1 n0l _ (Kd.R_reads' (by (with_reducible repeat (first | apply Kd.R_alloc | apply Kd.R_drewN | apply Kd.R_drew)); exact HG0l.out)).2.2 (by rw [LG0lw17.out]; exact (Kd.R_reads' HG0l.out).2.1) FH0.out).mono ?_
  rintro e w18 ⟨rfl, hd_⟩
  have hb_ := hd_.below
  clear hd_
  have nW0l := Aside0.mk (Kd.R_below (by (with_reducible repeat (first | apply Kd.R_alloc | apply Kd.R_drewN | apply Kd.R_drew)); exact HW0l.out) hb_)
  have nX1 := Aside0.mk (Kd.S_below (by (with_reducible repeat (first | apply Kd.S_alloc | apply Kd.S_drewN | apply Kd.S_drew)); exact HX1.out) hb_)
  have nX2 := Aside0.mk (Kd.R_below (by (with_reducible repeat (first | apply Kd.R_alloc | apply Kd.R_drewN | apply Kd.R_drew)); exact HX2.out) hb_)
  have nG0l := Aside0.mk (Kd.R_below (by (with_reducible repeat (first | apply Kd.R_alloc | apply Kd.R_drewN | apply Kd.R_drew)); exact HG0l.out) hb_)
  have ne2 := Aside0.mk (Kd.R_below (by (with_reducible repeat (first | apply Kd.R_alloc | apply Kd.R_drewN | apply Kd.R_drew)); exact He2.out) hb_)
  have np1 : Aside0 (w18.heap[w.heap.size]? = some (.cells #[.int .i64 a1, .slice A1 l1.length c1] 24 (0, 0))) := ⟨blk_below (by (first | exact heap_alloc_new _ _ | (refine blk_alloc ?_ _; exact heap_alloc_new _ _) | ((with_reducible repeat (first | refine blk_drewN ?_ _ | refine blk_drew ?_ | refine blk_alloc ?_ _)); exact Kp1.out))) hb_⟩
  have nx1 : Aside0 (w18.heap[w5.heap.size]? = some (.cells #[.int .i64 a1, .slice AX1 l1.length cX1] 28 (0, 0))) := ⟨blk_below (by (first | exact heap_alloc_new _ _ | (refine blk_alloc ?_ _; exact heap_alloc_new _ _) | ((with_reducible repeat (first | refine blk_drewN ?_ _ | refine blk_drew ?_ | refine blk_alloc ?_ _)); exact Kx1.out))) hb_⟩
  have Zw18 : Aside0 (w17.heap.size + 0 ≤ w18.heap.size) := ⟨by have h_ := hb_.size; (try simp at h_); omega⟩
  have nB_ := Aside0.mk (below_step (by repeat (first | exact HB.out | apply below_alloc | apply pw_below_drewN | apply below_drew1)) hb_)
  clear HB HW0l HX1 HX2 HG0l He2 Kp1 Kx1 hb_
  have HB := nB_
  clear nB_
  have HW0l := nW0l
  clear nW0l
  have HX1 := nX1
  clear nX1
  have HX2 := nX2
  clear nX2
  have HG0l := nG0l
  clear nG0l
  have He2 := ne2
  clear ne2
  have Kp1 := np1
  clear np1
  have Kx1 := nx1
  clear nx1
  try rw [LG0lw17.out]
  try clear qp1_0 qp1_1 qx1_0 qx1_1
  have zp1_ := blk_lt Kp1.out
  have qp1_0 := (blk_cell Kp1.out 0).trans rfl
  have qp1_1 := (blk_cell Kp1.out 1).trans rfl
  have zx1_ := blk_lt Kx1.out
  have qx1_0 := (blk_cell Kx1.out 0).trans rfl
  have qx1_1 := (blk_cell Kx1.out 1).trans rfl
  go_wp2_with fail
  clear zp1_ qp1_0 qp1_1
  clear zx1_ qx1_0 qx1_1
  refine (laws_toGraph.calls k a1 _ _ l1 a1 l1 _ (Kd.C_below HR1.out (by repeat (first | exact HB.out | apply below_alloc | apply pw_below_drewN | apply below_drew1))) hc1 FG1.out).mono ?_
  rintro e w19 ⟨vu1, rfl, hsu1_, hb_⟩
  have HB0_ := Aside0.mk (by repeat (first | exact HB.out | apply below_alloc | apply pw_below_drewN | apply below_drew1))
  have Hu1 : Aside0 (Kd.S (Kd.slice 2 (Kd.int .i64)) 32 w19 w.heap.size (fun k_ => w18.heap.size ≤ k_ ∧ k_ < w19.heap.size) _ l1) := ⟨Kd.S_mono (Kd.S_lower (Kd.S_bound hsu1_) (by have h_ := HB0_.out.size; (try simp at h_); (try simp); omega)) (fun k_ hk_ => ⟨by have h_ := hk_.2.1; (try simp at h_); omega, hk_.2.2.1⟩)⟩
  clear HB0_ hsu1_
  have nW0l := Aside0.mk (Kd.R_below (by (with_reducible repeat (first | apply Kd.R_alloc | apply Kd.R_drewN | apply Kd.R_drew)); exact HW0l.out) hb_)
  have nX1 := Aside0.mk (Kd.S_below (by (with_reducible repeat (first | apply Kd.S_alloc | apply Kd.S_drewN | apply Kd.S_drew)); exact HX1.out) hb_)
  have nX2 := Aside0.mk (Kd.R_below (by (with_reducible repeat (first | apply Kd.R_alloc | apply Kd.R_drewN | apply Kd.R_drew)); exact HX2.out) hb_)
  have nG0l := Aside0.mk (Kd.R_below (by (with_reducible repeat (first | apply Kd.R_alloc | apply Kd.R_drewN | apply Kd.R_drew)); exact HG0l.out) hb_)
  have ne2 := Aside0.mk (Kd.R_below (by (with_reducible repeat (first | apply Kd.R_alloc | apply Kd.R_drewN | apply Kd.R_drew)); exact He2.out) hb_)
  have np1 : Aside0 (w19.heap[w.heap.size]? = some (.cells #[.int .i64 a1, .slice A1 l1.length c1] 24 (0, 0))) := ⟨blk_below (by (first | exact heap_alloc_new _ _ | (refine blk_alloc ?_ _; exact heap_alloc_new _ _) | ((with_reducible repeat (first | refine blk_drewN ?_ _ | refine blk_drew ?_ | refine blk_alloc ?_ _)); exact Kp1.out))) hb_⟩
  have nx1 : Aside0 (w19.heap[w5.heap.size]? = some (.cells #[.int .i64 a1, .slice AX1 l1.length cX1] 28 (0, 0))) := ⟨blk_below (by (first | exact heap_alloc_new _ _ | (refine blk_alloc ?_ _; exact heap_alloc_new _ _) | ((with_reducible repeat (first | refine blk_drewN ?_ _ | refine blk_drew ?_ | refine blk_alloc ?_ _)); exact Kx1.out))) hb_⟩
  have Zw19 : Aside0 (w18.heap.size + 0 ≤ w19.heap.size) := ⟨by have h_ := hb_.size; (try simp at h_); omega⟩
  have nB_ := Aside0.mk (below_step (by repeat (first | exact HB.out | apply below_alloc | apply pw_below_drewN | apply below_drew1)) hb_)
  clear HB HW0l HX1 HX2 HG0l He2 Kp1 Kx1 hb_
  have HB := nB_
  clear nB_
  have HW0l := nW0l
  clear nW0l
  have HX1 := nX1
  clear nX1
  have HX2 := nX2
  clear nX2
  have HG0l := nG0l
  clear nG0l
  have He2 := ne2
  clear ne2
  have Kp1 := np1
  clear np1
  have Kx1 := nx1
  clear nx1
  obtain ⟨Au1, cu1, eu1⟩ := Kd.S_slice Hu1.out
  subst eu1
  try clear qp1_0 qp1_1 qx1_0 qx1_1
  have zp1_ := blk_lt Kp1.out
  have qp1_0 := (blk_cell Kp1.out 0).trans rfl
  have qp1_1 := (blk_cell Kp1.out 1).trans rfl
  have zx1_ := blk_lt Kx1.out
  have qx1_0 := (blk_cell Kx1.out 0).trans rfl
  have qx1_1 := (blk_cell Kx1.out 1).trans rfl
  go_wp2_with fail
  clear zp1_ qp1_0 qp1_1
  clear zx1_ qx1_0 qx1_1
  refine (laws_toInt64S.calls k _ _ l2 l2 _ (Kd.C_below HR2.out (by repeat (first | exact HB.out | apply below_alloc | apply pw_below_drewN | apply below_drew1))) hc2 FG2.out).mono ?_
  rintro e w20 ⟨vu2, rfl, hsu2_, hb_⟩
  have HB0_ := Aside0.mk (by repeat (first | exact HB.out | apply below_alloc | apply pw_below_drewN | apply below_drew1))
  have Hu2 : Aside0 (Kd.R (Kd.int .i64) 2 w20 w.heap.size (fun k_ => w19.heap.size ≤ k_ ∧ k_ < w20.heap.size) _ l2) := ⟨Kd.R_mono (Kd.R_lower (Kd.R_bound hsu2_) (by have h_ := HB0_.out.size; (try simp at h_); (try simp); omega)) (fun k_ hk_ => ⟨by have h_ := hk_.2.1; (try simp at h_); omega, hk_.2.2.1⟩)⟩
  clear HB0_ hsu2_
  have nW0l := Aside0.mk (Kd.R_below (by (with_reducible repeat (first | apply Kd.R_alloc | apply Kd.R_drewN | apply Kd.R_drew)); exact HW0l.out) hb_)
  have nX1 := Aside0.mk (Kd.S_below (by (with_reducible repeat (first | apply Kd.S_alloc | apply Kd.S_drewN | apply Kd.S_drew)); exact HX1.out) hb_)
  have nX2 := Aside0.mk (Kd.R_below (by (with_reducible repeat (first | apply Kd.R_alloc | apply Kd.R_drewN | apply Kd.R_drew)); exact HX2.out) hb_)
  have nG0l := Aside0.mk (Kd.R_below (by (with_reducible repeat (first | apply Kd.R_alloc | apply Kd.R_drewN | apply Kd.R_drew)); exact HG0l.out) hb_)
  have ne2 := Aside0.mk (Kd.R_below (by (with_reducible repeat (first | apply Kd.R_alloc | apply Kd.R_drewN | apply Kd.R_drew)); exact He2.out) hb_)
  have nu1 := Aside0.mk (Kd.S_below (by (with_reducible repeat (first | apply Kd.S_alloc | apply Kd.S_drewN | apply Kd.S_drew)); exact Hu1.out) hb_)
  have np1 : Aside0 (w20.heap[w.heap.size]? = some (.cells #[.int .i64 a1, .slice A1 l1.length c1] 24 (0, 0))) := ⟨blk_below (by (first | exact heap_alloc_new _ _ | (refine blk_alloc ?_ _; exact heap_alloc_new _ _) | ((with_reducible repeat (first | refine blk_drewN ?_ _ | refine blk_drew ?_ | refine blk_alloc ?_ _)); exact Kp1.out))) hb_⟩
  have nx1 : Aside0 (w20.heap[w5.heap.size]? = some (.cells #[.int .i64 a1, .slice AX1 l1.length cX1] 28 (0, 0))) := ⟨blk_below (by (first | exact heap_alloc_new _ _ | (refine blk_alloc ?_ _; exact heap_alloc_new _ _) | ((with_reducible repeat (first | refine blk_drewN ?_ _ | refine blk_drew ?_ | refine blk_alloc ?_ _)); exact Kx1.out))) hb_⟩
  have Zw20 : Aside0 (w19.heap.size + 0 ≤ w20.heap.size) := ⟨by have h_ := hb_.size; (try simp at h_); omega⟩
  have nB_ := Aside0.mk (below_step (by repeat (first | exact HB.out | apply below_alloc | apply pw_below_drewN | apply below_drew1)) hb_)
  clear HB HW0l HX1 HX2 HG0l He2 Hu1 Kp1 Kx1 hb_
  have HB := nB_
  clear nB_
  have HW0l := nW0l
  clear nW0l
  have HX1 := nX1
  clear nX1
  have HX2 := nX2
  clear nX2
  have HG0l := nG0l
  clear nG0l
  have He2 := ne2
  clear ne2
  have Hu1 := nu1
  clear nu1
  have Kp1 := np1
  clear np1
  have Kx1 := nx1
  clear nx1
  obtain ⟨Au2, cu2, eu2⟩ := Kd.R_slice Hu2.out
  subst eu2
  try clear qp1_0 qp1_1 qx1_0 qx1_1
  have zp1_ := blk_lt Kp1.out
  have qp1_0 := (blk_cell Kp1.out 0).trans rfl
  have qp1_1 := (blk_cell Kp1.out 1).trans rfl
  have zx1_ := blk_lt Kx1.out
  have qx1_0 := (blk_cell Kx1.out 0).trans rfl
  have qx1_1 := (blk_cell Kx1.out 1).trans rfl
  go_wp2_with fail
  clear zp1_ qp1_0 qp1_1
  clear zx1_ qx1_0 qx1_1
  refine (impl_WeightedReciprocal.calls k a0 a1 _ _ l1 _ _ l2 r0l r1a _ (Kd.S_reads' (by (with_reducible repeat (first | apply Kd.S_alloc | apply Kd.S_drewN | apply Kd.S_drew)); exact Hu1.out)).2.2 (Kd.S_reads' Hu1.out).2.1 (Kd.R_reads' (by (with_reducible repeat (first | apply Kd.R_alloc | apply Kd.R_drewN | apply Kd.R_drew)); exact Hu2.out)).2.2 (Kd.R_reads' Hu2.out).2.1 FI.out).mono ?_
  rintro e w21 ⟨vV0l, rfl, hsV0l_, hb_⟩
  have HB0_ := Aside0.mk (by repeat (first | exact HB.out | apply below_alloc | apply pw_below_drewN | apply below_drew1))
  have HV0l : Aside0 (Kd.R (Kd.int .i64) 2 w21 w.heap.size (fun k_ => w20.heap.size ≤ k_ ∧ k_ < w21.heap.size) _ r0l) := ⟨Kd.R_mono (Kd.R_lower (Kd.R_bound hsV0l_) (by have h_ := HB0_.out.size; (try simp at h_); (try simp); omega)) (fun k_ hk_ => ⟨by have h_ := hk_.2.1; (try simp at h_); omega, hk_.2.2.1⟩)⟩
  clear HB0_ hsV0l_
  clear Hu1
  clear Hu2
  have nW0l := Aside0.mk (Kd.R_below (by (with_reducible repeat (first | apply Kd.R_alloc | apply Kd.R_drewN | apply Kd.R_drew)); exact HW0l.out) hb_)
  have nX1 := Aside0.mk (Kd.S_below (by (with_reducible repeat (first | apply Kd.S_alloc | apply Kd.S_drewN | apply Kd.S_drew)); exact HX1.out) hb_)
  have nX2 := Aside0.mk (Kd.R_below (by (with_reducible repeat (first | apply Kd.R_alloc | apply Kd.R_drewN | apply Kd.R_drew)); exact HX2.out) hb_)
  have nG0l := Aside0.mk (Kd.R_below (by (with_reducible repeat (first | apply Kd.R_alloc | apply Kd.R_drewN | apply Kd.R_drew)); exact HG0l.out) hb_)
  have ne2 := Aside0.mk (Kd.R_below (by (with_reducible repeat (first | apply Kd.R_alloc | apply Kd.R_drewN | apply Kd.R_drew)); exact He2.out) hb_)
  have np1 : Aside0 (w21.heap[w.heap.size]? = some (.cells #[.int .i64 a1, .slice A1 l1.length c1] 24 (0, 0))) := ⟨blk_below (by (first | exact heap_alloc_new _ _ | (refine blk_alloc ?_ _; exact heap_alloc_new _ _) | ((with_reducible repeat (first | refine blk_drewN ?_ _ | refine blk_drew ?_ | refine blk_alloc ?_ _)); exact Kp1.out))) hb_⟩
  have nx1 : Aside0 (w21.heap[w5.heap.size]? = some (.cells #[.int .i64 a1, .slice AX1 l1.length cX1] 28 (0, 0))) := ⟨blk_below (by (first | exact heap_alloc_new _ _ | (refine blk_alloc ?_ _; exact heap_alloc_new _ _) | ((with_reducible repeat (first | refine blk_drewN ?_ _ | refine blk_drew ?_ | refine blk_alloc ?_ _)); exact Kx1.out))) hb_⟩
  have Zw21 : Aside0 (w20.heap.size + 0 ≤ w21.heap.size) := ⟨by have h_ := hb_.size; (try simp at h_); omega⟩
  have nB_ := Aside0.mk (below_step (by repeat (first | exact HB.out | apply below_alloc | apply pw_below_drewN | apply below_drew1)) hb_)
  clear HB HW0l HX1 HX2 HG0l He2 Kp1 Kx1 hb_
  have HB := nB_
  clear nB_
  have HW0l := nW0l
  clear nW0l
  have HX1 := nX1
  clear nX1
  have HX2 := nX2
  clear nX2
  have HG0l := nG0l
  clear nG0l
  have He2 := ne2
  clear ne2
  have Kp1 := np1
  clear np1
  have Kx1 := nx1
  clear nx1
  obtain ⟨AV0l, cV0l, eV0l⟩ := Kd.R_slice HV0l.out
  subst eV0l
  try clear qp1_0 qp1_1 qx1_0 qx1_1
  have zp1_ := blk_lt Kp1.out
  have qp1_0 := (blk_cell Kp1.out 0).trans rfl
  have qp1_1 := (blk_cell Kp1.out 1).trans rfl
  have zx1_ := blk_lt Kx1.out
  have qx1_0 := (blk_cell Kx1.out 0).trans rfl
  have qx1_1 := (blk_cell Kx1.out 1).trans rfl
  go_wp2_with fail
  clear zp1_ qp1_0 qp1_1
  clear zx1_ qx1_0 qx1_1
  refine (laws_eqInt64S.calls k _ _ r0l _ _ r0l true _ (Kd.R_reads' (by (with_reducible repeat (first | apply Kd.R_alloc | apply Kd.R_drewN | apply Kd.R_drew)); exact HV0l.out)).2.2 (Kd.R_reads' HV0l.out).2.1 (Kd.R_reads' (by (with_reducible repeat (first | apply Kd.R_alloc | apply Kd.R_drewN | apply Kd.R_drew)); exact HW0l.out)).2.2 (Kd.R_reads' HW0l.out).2.1 FE0.out).mono ?_
  rintro e w22 ⟨rfl, hd_⟩
  have hb_ := hd_.below
  clear hd_
  have nW0l := Aside0.mk (Kd.R_below (by (with_reducible repeat (first | apply Kd.R_alloc | apply Kd.R_drewN | apply Kd.R_drew)); exact HW0l.out) hb_)
  have nX1 := Aside0.mk (Kd.S_below (by (with_reducible repeat (first | apply Kd.S_alloc | apply Kd.S_drewN | apply Kd.S_drew)); exact HX1.out) hb_)
  have nX2 := Aside0.mk (Kd.R_below (by (with_reducible repeat (first | apply Kd.R_alloc | apply Kd.R_drewN | apply Kd.R_drew)); exact HX2.out) hb_)
  have nG0l := Aside0.mk (Kd.R_below (by (with_reducible repeat (first | apply Kd.R_alloc | apply Kd.R_drewN | apply Kd.R_drew)); exact HG0l.out) hb_)
  have ne2 := Aside0.mk (Kd.R_below (by (with_reducible repeat (first | apply Kd.R_alloc | apply Kd.R_drewN | apply Kd.R_drew)); exact He2.out) hb_)
  have nV0l := Aside0.mk (Kd.R_below (by (with_reducible repeat (first | apply Kd.R_alloc | apply Kd.R_drewN | apply Kd.R_drew)); exact HV0l.out) hb_)
  have np1 : Aside0 (w22.heap[w.heap.size]? = some (.cells #[.int .i64 a1, .slice A1 l1.length c1] 24 (0, 0))) := ⟨blk_below (by (first | exact heap_alloc_new _ _ | (refine blk_alloc ?_ _; exact heap_alloc_new _ _) | ((with_reducible repeat (first | refine blk_drewN ?_ _ | refine blk_drew ?_ | refine blk_alloc ?_ _)); exact Kp1.out))) hb_⟩
  have nx1 : Aside0 (w22.heap[w5.heap.size]? = some (.cells #[.int .i64 a1, .slice AX1 l1.length cX1] 28 (0, 0))) := ⟨blk_below (by (first | exact heap_alloc_new _ _ | (refine blk_alloc ?_ _; exact heap_alloc_new _ _) | ((with_reducible repeat (first | refine blk_drewN ?_ _ | refine blk_drew ?_ | refine blk_alloc ?_ _)); exact Kx1.out))) hb_⟩
  have Zw22 : Aside0 (w21.heap.size + 0 ≤ w22.heap.size) := ⟨by have h_ := hb_.size; (try simp at h_); omega⟩
  have nB_ := Aside0.mk (below_step (by repeat (first | exact HB.out | apply below_alloc | apply pw_below_drewN | apply below_drew1)) hb_)
  clear HB HW0l HX1 HX2 HG0l He2 HV0l Kp1 Kx1 hb_
  have HB := nB_
  clear nB_
  have HW0l := nW0l
  clear nW0l
  have HX1 := nX1
  clear nX1
  have HX2 := nX2
  clear nX2
  have HG0l := nG0l
  clear nG0l
  have He2 := ne2
  clear ne2
  have HV0l := nV0l
  clear nV0l
  have Kp1 := np1
  clear np1
  have Kx1 := nx1
  clear nx1
  try clear qp1_0 qp1_1 qx1_0 qx1_1
  have zp1_ := blk_lt Kp1.out
  have qp1_0 := (blk_cell Kp1.out 0).trans rfl
  have qp1_1 := (blk_cell Kp1.out 1).trans rfl
  have zx1_ := blk_lt Kx1.out
  have qx1_0 := (blk_cell Kx1.out 0).trans rfl
  have qx1_1 := (blk_cell Kx1.out 1).trans rfl
  go_wp2_with fail
  clear zp1_ qp1_0 qp1_1
  clear zx1_ qx1_0 qx1_1
  rw [← LG0lw17.out]
  refine (laws_heldInt64S.calls k _ _ x0l 1 n0l _ (Kd.R_reads' (by (with_reducible repeat (first | apply Kd.R_alloc | apply Kd.R_drewN | apply Kd.R_drew)); exact HG0l.out)).2.2 (by rw [LG0lw17.out]; exact (Kd.R_reads' HG0l.out).2.1) FH0.out).mono ?_
  rintro e w23 ⟨rfl, hd_⟩
  have hb_ := hd_.below
  clear hd_
  have nW0l := Aside0.mk (Kd.R_below (by (with_reducible repeat (first | apply Kd.R_alloc | apply Kd.R_drewN | apply Kd.R_drew)); exact HW0l.out) hb_)
  have nX1 := Aside0.mk (Kd.S_below (by (with_reducible repeat (first | apply Kd.S_alloc | apply Kd.S_drewN | apply Kd.S_drew)); exact HX1.out) hb_)
  have nX2 := Aside0.mk (Kd.R_below (by (with_reducible repeat (first | apply Kd.R_alloc | apply Kd.R_drewN | apply Kd.R_drew)); exact HX2.out) hb_)
  have nG0l := Aside0.mk (Kd.R_below (by (with_reducible repeat (first | apply Kd.R_alloc | apply Kd.R_drewN | apply Kd.R_drew)); exact HG0l.out) hb_)
  have ne2 := Aside0.mk (Kd.R_below (by (with_reducible repeat (first | apply Kd.R_alloc | apply Kd.R_drewN | apply Kd.R_drew)); exact He2.out) hb_)
  have nV0l := Aside0.mk (Kd.R_below (by (with_reducible repeat (first | apply Kd.R_alloc | apply Kd.R_drewN | apply Kd.R_drew)); exact HV0l.out) hb_)
  have np1 : Aside0 (w23.heap[w.heap.size]? = some (.cells #[.int .i64 a1, .slice A1 l1.length c1] 24 (0, 0))) := ⟨blk_below (by (first | exact heap_alloc_new _ _ | (refine blk_alloc ?_ _; exact heap_alloc_new _ _) | ((with_reducible repeat (first | refine blk_drewN ?_ _ | refine blk_drew ?_ | refine blk_alloc ?_ _)); exact Kp1.out))) hb_⟩
  have nx1 : Aside0 (w23.heap[w5.heap.size]? = some (.cells #[.int .i64 a1, .slice AX1 l1.length cX1] 28 (0, 0))) := ⟨blk_below (by (first | exact heap_alloc_new _ _ | (refine blk_alloc ?_ _; exact heap_alloc_new _ _) | ((with_reducible repeat (first | refine blk_drewN ?_ _ | refine blk_drew ?_ | refine blk_alloc ?_ _)); exact Kx1.out))) hb_⟩
  have Zw23 : Aside0 (w22.heap.size + 0 ≤ w23.heap.size) := ⟨by have h_ := hb_.size; (try simp at h_); omega⟩
  have nB_ := Aside0.mk (below_step (by repeat (first | exact HB.out | apply below_alloc | apply pw_below_drewN | apply below_drew1)) hb_)
  clear HB HW0l HX1 HX2 HG0l He2 HV0l Kp1 Kx1 hb_
  have HB := nB_
  clear nB_
  have HW0l := nW0l
  clear nW0l
  have HX1 := nX1
  clear nX1
  have HX2 := nX2
  clear nX2
  have HG0l := nG0l
  clear nG0l
  have He2 := ne2
  clear ne2
  have HV0l := nV0l
  clear nV0l
  have Kp1 := np1
  clear np1
  have Kx1 := nx1
  clear nx1
  try rw [LG0lw17.out]
  try clear qp1_0 qp1_1 qx1_0 qx1_1
  have zp1_ := blk_lt Kp1.out
  have qp1_0 := (blk_cell Kp1.out 0).trans rfl
  have qp1_1 := (blk_cell Kp1.out 1).trans rfl
  have zx1_ := blk_lt Kx1.out
  have qx1_0 := (blk_cell Kx1.out 0).trans rfl
  have qx1_1 := (blk_cell Kx1.out 1).trans rfl
  go_wp2
  go_ret
  exact ⟨by first | rfl | (simp; done) | (simp [*]; done), HB.out⟩

def laws_FnExactWeightedReciprocal.Pure : Prop := ∀ (a0 : Int) (a1 : Int) (l1 : List (List Int)) (l2 : List Int), (Lit.int .i64 a0).wf = true → (Lit.int .i64 a1).wf = true → l1.length ≤ maxLen → (∀ x ∈ l1, x.length ≤ maxLen ∧ ∀ n ∈ x, (Lit.int .i64 n).wf = true) → l2.length ≤ maxLen → (∀ n ∈ l2, (Lit.int .i64 n).wf = true) → l2.length ≤ 1048576 → (∃ (k : Nat) (z1 : Int), z1 < 0 ∧ laws_szGraph.f k a1 l1 1048576 = some z1) ∨ (∃ (k : Nat) (z1 : Int) (r0l : List Int) (r1a : Int) (m1 : Int) (y1 : List (List Int)) (m2 : Int) (y2 : List Int) (n0l : Int) (x0l : List Int), 0 ≤ z1 ∧ 0 ≤ m2 ∧ 0 ≤ n0l ∧ laws_toGraph.f k a1 l1 = some (a1, l1) ∧ laws_eqGraph.f k a1 l1 a1 l1 = some true ∧ laws_toInt64S.f k l2 = some l2 ∧ laws_eqInt64S.f k l2 l2 = some true ∧ laws_szGraph.f k a1 l1 1048576 = some z1 ∧ spec_WeightedReciprocal.f k a0 a1 l1 l2 = some (r0l, r1a) ∧ impl_WeightedReciprocal.f k a0 a1 l1 l2 = some (r0l, r1a) ∧ laws_eqInt64S.f k r0l r0l = some true ∧ laws_markInt64SS.f k l1 1 = some (m1, y1) ∧ laws_markInt64S.f k l2 m1 = some (m2, y2) ∧ laws_markInt64S.f k r0l 1 = some (n0l, x0l) ∧ laws_heldInt64S.f k x0l 1 = some n0l)
theorem laws_FnExactWeightedReciprocal.calls (P : laws_FnExactWeightedReciprocal.Pure) (a0 : Int) (a1 : Int) (A1 : Option Addr) (c1 : Nat) (l1 : List (List Int)) (A2 : Option Addr) (c2 : Nat) (l2 : List Int) (w : World)  (hr1 : Kd.C (Kd.slice 2 (Kd.int .i64)) w A1 l1.length l1) (hc1 : l1.length ≤ c1) (hr2 : Kd.C (Kd.int .i64) w A2 l2.length l2) (hc2 : l2.length ≤ c2) (w0 : (Lit.int .i64 a0).wf = true) (w1_0 : (Lit.int .i64 a1).wf = true) (hm1_1 : l1.length ≤ maxLen) (w1_1 : (∀ x ∈ l1, x.length ≤ maxLen ∧ ∀ n ∈ x, (Lit.int .i64 n).wf = true)) (hm2 : l2.length ≤ maxLen) (w2 : (∀ n ∈ l2, (Lit.int .i64 n).wf = true)) :
    Calls Try.prog 5 #[.int .i64 a0, .agg #[.int .i64 a1, .slice A1 l1.length c1], .slice A2 l2.length c2] w fun e w' => e = .returned (.bool true) ∧ Below w.heap.size w w' := by
  by_cases hl2 : 1048576 < l2.length
  · exact laws_FnExactWeightedReciprocal.small_len2 a0 a1 A1 c1 l1 A2 c2 l2 w hr1 hc1 hr2 hc2  hl2
  replace hl2 : l2.length ≤ 1048576 := by omega
  rcases P a0 a1 l1 l2 w0 w1_0 hm1_1 w1_1 hm2 w2 hl2 with ⟨k, z1, hz1, FZ1_⟩ | ⟨k, z1, r0l, r1a, m1, y1, m2, y2, n0l, x0l, hp0, hlm, hln, FG1, FQ1, FG2, FQ2, FZ1, FS, FI, FE0, FM1, FM2, FN0l, FH0⟩
  · exact laws_FnExactWeightedReciprocal.small_sz1 a0 a1 A1 c1 l1 A2 c2 l2 w hr1 hc1 hr2 hc2 hl2 k z1 hz1 FZ1_
  · exact laws_FnExactWeightedReciprocal.big k a0 a1 A1 c1 l1 A2 c2 l2 w hr1 hc1 hr2 hc2 z1 hp0 r0l r1a m1 y1 m2 y2 n0l x0l hlm hln hl2 FG1 FQ1 FG2 FQ2 FZ1 FS FI FE0 FM1 FM2 FN0l FH0

end Go.Proofs.Ytjgdibhalmcigaa.C
