/- The walk of FnExactBartholdiReciprocal: where its callees answer as its pure statement says, it answers true. Condition: that statement. -/
import Derived.Test.YtjgdibhalmcigaaBx
namespace Go.Proofs.Ytjgdibhalmcigaa.B
open Go.RowKit Go.Proofs.YtjgdibhalmcigaaW.PrintWords Go.Proofs.YtjgdibhalmcigaaW.PrintLast Go.Proofs.YtjgdibhalmcigaaW.PrintMore
set_option linter.unusedVariables false
set_option linter.unusedSimpArgs false
set_option maxHeartbeats 8000000 in
set_option maxRecDepth 100000 in
theorem laws_FnExactBartholdiReciprocal.small_sz1 (a0 : Int) (a1 : Int) (A1 : Option Addr) (c1 : Nat) (l1 : List (List Int)) (a2 : Int) (w : World)  (hr1 : Kd.C (Kd.slice 2 (Kd.int .i64)) w A1 l1.length l1) (hc1 : l1.length ≤ c1)   (k : Nat) (z1 : Int) (hz1 : z1 < 0) (FZ1_ : laws_szGraph.f k a1 l1 1048576 = some z1) :
    Calls Try.prog 4 #[.int .i64 a0, .agg #[.int .i64 a1, .slice A1 l1.length c1], .int .i64 a2] w fun e w' => e = .returned (.bool true) ∧ Below w.heap.size w w' := by
  have HR1 := Aside0.mk hr1
  have HB := Aside0.mk (Below.refl w.heap.size w)
  have FZ1 := Aside0.mk FZ1_
  clear FZ1_
  have bz1 : decide (z1 < 0) = true := by simp; omega
  clear hr1
  go_enter Try.func4, Try.ntmps4
  try clear qp1_0 qp1_1
  go_wp2_with fail
  refine (laws_szGraph.calls k a1 _ _ l1 1048576 z1 _ (Kd.C_below HR1.out (by repeat (first | exact HB.out | apply below_alloc | apply pw_below_drewN | apply below_drew1))) hc1 FZ1.out).mono ?_
  rintro e w1 ⟨rfl, hb_⟩
  have HB0_ := Aside0.mk (by repeat (first | exact HB.out | apply below_alloc | apply pw_below_drewN | apply below_drew1))
  clear HB0_
  have np1 : Aside0 (w1.heap[w.heap.size]? = some (.cells #[.int .i64 a1, .slice A1 l1.length c1] 24 (0, 0))) := ⟨blk_below (by (first | exact heap_alloc_new _ _ | (refine blk_alloc ?_ _; exact heap_alloc_new _ _) | ((with_reducible repeat (first | refine blk_drewN ?_ _ | refine blk_drew ?_ | refine blk_alloc ?_ _)); exact Kp1.out))) hb_⟩
  have Zw1 : Aside0 (w.heap.size + 1 ≤ w1.heap.size) := ⟨by have h_ := hb_.size; (try simp at h_); omega⟩
  have nB_ := Aside0.mk (below_step (by repeat (first | exact HB.out | apply below_alloc | apply pw_below_drewN | apply below_drew1)) hb_)
  clear HB hb_
  have HB := nB_
  clear nB_
  have Kp1 := np1
  clear np1
  try clear qp1_0 qp1_1
  have zp1_ := blk_lt Kp1.out
  have qp1_0 := (blk_cell Kp1.out 0).trans rfl
  have qp1_1 := (blk_cell Kp1.out 1).trans rfl
  go_wp2
  go_ret
  exact ⟨by first | rfl | (simp; done) | (simp [*]; done), (by repeat (first | exact HB.out | apply below_alloc | apply pw_below_drewN | apply below_drew1))⟩

set_option maxHeartbeats 8000000 in
set_option maxRecDepth 100000 in
theorem laws_FnExactBartholdiReciprocal.big (k : Nat) (a0 : Int) (a1 : Int) (A1 : Option Addr) (c1 : Nat) (l1 : List (List Int)) (a2 : Int) (w : World)  (hr1 : Kd.C (Kd.slice 2 (Kd.int .i64)) w A1 l1.length l1) (hc1 : l1.length ≤ c1)  (z1 : Int) (hz1 : 0 ≤ z1) (r0l : List Int) (r1a : Int) (m1 : Int) (y1 : List (List Int)) (n0l : Int) (x0l : List Int) (hlm : 0 ≤ m1) (hln : 0 ≤ n0l)  (FG1_ : laws_toGraph.f k a1 l1 = some (a1, l1)) (FQ1_ : laws_eqGraph.f k a1 l1 a1 l1 = some true) (FZ1_ : laws_szGraph.f k a1 l1 1048576 = some z1) (FS_ : spec_BartholdiReciprocal.f k a0 a1 l1 a2 = some (r0l, r1a)) (FI_ : impl_BartholdiReciprocal.f k a0 a1 l1 a2 = some (r0l, r1a)) (FE0_ : laws_eqInt64S.f k r0l r0l = some true) (FM1_ : laws_markInt64SS.f k l1 1 = some (m1, y1)) (FN0l_ : laws_markInt64S.f k r0l 1 = some (n0l, x0l)) (FH0_ : laws_heldInt64S.f k x0l 1 = some n0l) :
    Calls Try.prog 4 #[.int .i64 a0, .agg #[.int .i64 a1, .slice A1 l1.length c1], .int .i64 a2] w fun e w' => e = .returned (.bool true) ∧ Below w.heap.size w w' := by
  have HR1 := Aside0.mk hr1
  have HB := Aside0.mk (Below.refl w.heap.size w)
  have FG1 := Aside0.mk FG1_
  have FQ1 := Aside0.mk FQ1_
  have FZ1 := Aside0.mk FZ1_
  have FS := Aside0.mk FS_
  have FI := Aside0.mk FI_
  have FE0 := Aside0.mk FE0_
  have FM1 := Aside0.mk FM1_
  have FN0l := Aside0.mk FN0l_
  have FH0 := Aside0.mk FH0_
  clear hr1 FG1_ FQ1_ FZ1_ FS_ FI_ FE0_ FM1_ FN0l_ FH0_
  have bz1 : decide (z1 < 0) = false := by simp; omega
  have bm_ : decide (m1 < 0) = false := by simp; omega
  have bn_ : decide (n0l < 0) = false := by simp; omega
  go_enter Try.func4, Try.ntmps4
  try clear qp1_0 qp1_1
  go_wp2_with fail
  refine (laws_szGraph.calls k a1 _ _ l1 1048576 z1 _ (Kd.C_below HR1.out (by repeat (first | exact HB.out | apply below_alloc | apply pw_below_drewN | apply below_drew1))) hc1 FZ1.out).mono ?_
  rintro e w1 ⟨rfl, hb_⟩
  have HB0_ := Aside0.mk (by repeat (first | exact HB.out | apply below_alloc | apply pw_below_drewN | apply below_drew1))
  clear HB0_
  have np1 : Aside0 (w1.heap[w.heap.size]? = some (.cells #[.int .i64 a1, .slice A1 l1.length c1] 24 (0, 0))) := ⟨blk_below (by (first | exact heap_alloc_new _ _ | (refine blk_alloc ?_ _; exact heap_alloc_new _ _) | ((with_reducible repeat (first | refine blk_drewN ?_ _ | refine blk_drew ?_ | refine blk_alloc ?_ _)); exact Kp1.out))) hb_⟩
  have Zw1 : Aside0 (w.heap.size + 1 ≤ w1.heap.size) := ⟨by have h_ := hb_.size; (try simp at h_); omega⟩
  have nB_ := Aside0.mk (below_step (by repeat (first | exact HB.out | apply below_alloc | apply pw_below_drewN | apply below_drew1)) hb_)
  clear HB hb_
  have HB := nB_
  clear nB_
  have Kp1 := np1
  clear np1
  try clear qp1_0 qp1_1
  have zp1_ := blk_lt Kp1.out
  have qp1_0 := (blk_cell Kp1.out 0).trans rfl
  have qp1_1 := (blk_cell Kp1.out 1).trans rfl
  go_wp2_with fail
  clear zp1_ qp1_0 qp1_1
  refine (laws_toGraph.calls k a1 _ _ l1 a1 l1 _ (Kd.C_below HR1.out (by repeat (first | exact HB.out | apply below_alloc | apply pw_below_drewN | apply below_drew1))) hc1 FG1.out).mono ?_
  rintro e w2 ⟨vt1, rfl, hst1_, hb_⟩
  have HB0_ := Aside0.mk (by repeat (first | exact HB.out | apply below_alloc | apply pw_below_drewN | apply below_drew1))
  have Ht1 : Aside0 (Kd.S (Kd.slice 2 (Kd.int .i64)) 32 w2 w.heap.size (fun k_ => w1.heap.size ≤ k_ ∧ k_ < w2.heap.size) _ l1) := ⟨Kd.S_mono (Kd.S_lower (Kd.S_bound hst1_) (by have h_ := HB0_.out.size; (try simp at h_); (try simp); omega)) (fun k_ hk_ => ⟨by have h_ := hk_.2.1; (try simp at h_); omega, hk_.2.2.1⟩)⟩
  clear HB0_ hst1_
  have np1 : Aside0 (w2.heap[w.heap.size]? = some (.cells #[.int .i64 a1, .slice A1 l1.length c1] 24 (0, 0))) := ⟨blk_below (by (first | exact heap_alloc_new _ _ | (refine blk_alloc ?_ _; exact heap_alloc_new _ _) | ((with_reducible repeat (first | refine blk_drewN ?_ _ | refine blk_drew ?_ | refine blk_alloc ?_ _)); exact Kp1.out))) hb_⟩
  have Zw2 : Aside0 (w1.heap.size + 0 ≤ w2.heap.size) := ⟨by have h_ := hb_.size; (try simp at h_); omega⟩
  have nB_ := Aside0.mk (below_step (by repeat (first | exact HB.out | apply below_alloc | apply pw_below_drewN | apply below_drew1)) hb_)
  clear HB Kp1 hb_
  have HB := nB_
  clear nB_
  have Kp1 := np1
  clear np1
  obtain ⟨At1, ct1, et1⟩ := Kd.S_slice Ht1.out
  subst et1
  try clear qp1_0 qp1_1
  have zp1_ := blk_lt Kp1.out
  have qp1_0 := (blk_cell Kp1.out 0).trans rfl
  have qp1_1 := (blk_cell Kp1.out 1).trans rfl
  go_wp2_with fail
  clear zp1_ qp1_0 qp1_1
  refine (spec_BartholdiReciprocal.calls k a0 a1 _ _ l1 a2 r0l r1a _ (Kd.S_reads' (by (with_reducible repeat (first | apply Kd.S_alloc | apply Kd.S_drewN | apply Kd.S_drew)); exact Ht1.out)).2.2 (Kd.S_reads' Ht1.out).2.1 FS.out).mono ?_
  rintro e w3 ⟨vW0l, rfl, hsW0l_, hb_⟩
  have HB0_ := Aside0.mk (by repeat (first | exact HB.out | apply below_alloc | apply pw_below_drewN | apply below_drew1))
  have HW0l : Aside0 (Kd.R (Kd.int .i64) 2 w3 w.heap.size (fun k_ => w2.heap.size ≤ k_ ∧ k_ < w3.heap.size) _ r0l) := ⟨Kd.R_mono (Kd.R_lower (Kd.R_bound hsW0l_) (by have h_ := HB0_.out.size; (try simp at h_); (try simp); omega)) (fun k_ hk_ => ⟨by have h_ := hk_.2.1; (try simp at h_); omega, hk_.2.2.1⟩)⟩
  clear HB0_ hsW0l_
  clear Ht1
  have np1 : Aside0 (w3.heap[w.heap.size]? = some (.cells #[.int .i64 a1, .slice A1 l1.length c1] 24 (0, 0))) := ⟨blk_below (by (first | exact heap_alloc_new _ _ | (refine blk_alloc ?_ _; exact heap_alloc_new _ _) | ((with_reducible repeat (first | refine blk_drewN ?_ _ | refine blk_drew ?_ | refine blk_alloc ?_ _)); exact Kp1.out))) hb_⟩
  have Zw3 : Aside0 (w2.heap.size + 0 ≤ w3.heap.size) := ⟨by have h_ := hb_.size; (try simp at h_); omega⟩
  have nB_ := Aside0.mk (below_step (by repeat (first | exact HB.out | apply below_alloc | apply pw_below_drewN | apply below_drew1)) hb_)
  clear HB Kp1 hb_
  have HB := nB_
  clear nB_
  have Kp1 := np1
  clear np1
  obtain ⟨AW0l, cW0l, eW0l⟩ := Kd.R_slice HW0l.out
  subst eW0l
  try clear qp1_0 qp1_1
  have zp1_ := blk_lt Kp1.out
  have qp1_0 := (blk_cell Kp1.out 0).trans rfl
  have qp1_1 := (blk_cell Kp1.out 1).trans rfl
  go_wp2_with fail
  clear zp1_ qp1_0 qp1_1
  refine (laws_toGraph.calls k a1 _ _ l1 a1 l1 _ (Kd.C_below HR1.out (by repeat (first | exact HB.out | apply below_alloc | apply pw_below_drewN | apply below_drew1))) hc1 FG1.out).mono ?_
  rintro e w4 ⟨vX1, rfl, hsX1_, hb_⟩
  have HB0_ := Aside0.mk (by repeat (first | exact HB.out | apply below_alloc | apply pw_below_drewN | apply below_drew1))
  have HX1 : Aside0 (Kd.S (Kd.slice 2 (Kd.int .i64)) 32 w4 w.heap.size (fun k_ => w3.heap.size ≤ k_ ∧ k_ < w4.heap.size) _ l1) := ⟨Kd.S_mono (Kd.S_lower (Kd.S_bound hsX1_) (by have h_ := HB0_.out.size; (try simp at h_); (try simp); omega)) (fun k_ hk_ => ⟨by have h_ := hk_.2.1; (try simp at h_); omega, hk_.2.2.1⟩)⟩
  clear HB0_ hsX1_
  have nW0l := Aside0.mk (Kd.R_below (by (with_reducible repeat (first | apply Kd.R_alloc | apply Kd.R_drewN | apply Kd.R_drew)); exact HW0l.out) hb_)
  have np1 : Aside0 (w4.heap[w.heap.size]? = some (.cells #[.int .i64 a1, .slice A1 l1.length c1] 24 (0, 0))) := ⟨blk_below (by (first | exact heap_alloc_new _ _ | (refine blk_alloc ?_ _; exact heap_alloc_new _ _) | ((with_reducible repeat (first | refine blk_drewN ?_ _ | refine blk_drew ?_ | refine blk_alloc ?_ _)); exact Kp1.out))) hb_⟩
  have Zw4 : Aside0 (w3.heap.size + 0 ≤ w4.heap.size) := ⟨by have h_ := hb_.size; (try simp at h_); omega⟩
  have nB_ := Aside0.mk (below_step (by repeat (first | exact HB.out | apply below_alloc | apply pw_below_drewN | apply below_drew1)) hb_)
  clear HB HW0l Kp1 hb_
  have HB := nB_
  clear nB_
  have HW0l := nW0l
  clear nW0l
  have Kp1 := np1
  clear np1
  obtain ⟨AX1, cX1, eX1⟩ := Kd.S_slice HX1.out
  subst eX1
  try clear qp1_0 qp1_1 qx1_0 qx1_1
  have zp1_ := blk_lt Kp1.out
  have qp1_0 := (blk_cell Kp1.out 0).trans rfl
  have qp1_1 := (blk_cell Kp1.out 1).trans rfl
  go_wp2_with fail
  clear zp1_ qp1_0 qp1_1
  refine (impl_BartholdiReciprocal.calls k a0 a1 _ _ l1 a2 r0l r1a _ (Kd.S_reads' (by (with_reducible repeat (first | apply Kd.S_alloc | apply Kd.S_drewN | apply Kd.S_drew)); exact HX1.out)).2.2 (Kd.S_reads' HX1.out).2.1 FI.out).mono ?_
  rintro e w5 ⟨vG0l, rfl, hsG0l_, hb_⟩
  have HB0_ := Aside0.mk (by repeat (first | exact HB.out | apply below_alloc | apply pw_below_drewN | apply below_drew1))
  have HG0l : Aside0 (Kd.R (Kd.int .i64) 2 w5 w.heap.size (fun k_ => w4.heap.size + 1 ≤ k_ ∧ k_ < w5.heap.size) _ r0l) := ⟨Kd.R_mono (Kd.R_lower (Kd.R_bound hsG0l_) (by have h_ := HB0_.out.size; (try simp at h_); (try simp); omega)) (fun k_ hk_ => ⟨by have h_ := hk_.2.1; (try simp at h_); omega, hk_.2.2.1⟩)⟩
  clear HB0_ hsG0l_
  have nW0l := Aside0.mk (Kd.R_below (by (with_reducible repeat (first | apply Kd.R_alloc | apply Kd.R_drewN | apply Kd.R_drew)); exact HW0l.out) hb_)
  have nX1 := Aside0.mk (Kd.S_below (by (with_reducible repeat (first | apply Kd.S_alloc | apply Kd.S_drewN | apply Kd.S_drew)); exact HX1.out) hb_)
  have np1 : Aside0 (w5.heap[w.heap.size]? = some (.cells #[.int .i64 a1, .slice A1 l1.length c1] 24 (0, 0))) := ⟨blk_below (by (first | exact heap_alloc_new _ _ | (refine blk_alloc ?_ _; exact heap_alloc_new _ _) | ((with_reducible repeat (first | refine blk_drewN ?_ _ | refine blk_drew ?_ | refine blk_alloc ?_ _)); exact Kp1.out))) hb_⟩
  have nx1 : Aside0 (w5.heap[w4.heap.size]? = some (.cells #[.int .i64 a1, .slice AX1 l1.length cX1] 28 (0, 0))) := ⟨blk_below (by (first | exact heap_alloc_new _ _ | (refine blk_alloc ?_ _; exact heap_alloc_new _ _) | ((with_reducible repeat (first | refine blk_drewN ?_ _ | refine blk_drew ?_ | refine blk_alloc ?_ _)); exact Kx1.out))) hb_⟩
  have Zw5 : Aside0 (w4.heap.size + 1 ≤ w5.heap.size) := ⟨by have h_ := hb_.size; (try simp at h_); omega⟩
  have nB_ := Aside0.mk (below_step (by repeat (first | exact HB.out | apply below_alloc | apply pw_below_drewN | apply below_drew1)) hb_)
  clear HB HW0l HX1 Kp1 hb_
  have HB := nB_
  clear nB_
  have HW0l := nW0l
  clear nW0l
  have HX1 := nX1
  clear nX1
  have Kp1 := np1
  clear np1
  have Kx1 := nx1
  clear nx1
  obtain ⟨AG0l, cG0l, eG0l⟩ := Kd.R_slice HG0l.out
  subst eG0l
  try clear qp1_0 qp1_1 qx1_0 qx1_1
  have zp1_ := blk_lt Kp1.out
  have qp1_0 := (blk_cell Kp1.out 0).trans rfl
  have qp1_1 := (blk_cell Kp1.out 1).trans rfl
  have zx1_ := blk_lt Kx1.out
  have qx1_0 := (blk_cell Kx1.out 0).trans rfl
  have qx1_1 := (blk_cell Kx1.out 1).trans rfl
  go_wp2_with fail
  clear zp1_ qp1_0 qp1_1
  clear zx1_ qx1_0 qx1_1
  refine (laws_eqInt64S.calls k _ _ r0l _ _ r0l true _ (Kd.R_reads' (by (with_reducible repeat (first | apply Kd.R_alloc | apply Kd.R_drewN | apply Kd.R_drew)); exact HG0l.out)).2.2 (Kd.R_reads' HG0l.out).2.1 (Kd.R_reads' (by (with_reducible repeat (first | apply Kd.R_alloc | apply Kd.R_drewN | apply Kd.R_drew)); exact HW0l.out)).2.2 (Kd.R_reads' HW0l.out).2.1 FE0.out).mono ?_
  rintro e w6 ⟨rfl, hd_⟩
  have hb_ := hd_.below
  clear hd_
  have nW0l := Aside0.mk (Kd.R_below (by (with_reducible repeat (first | apply Kd.R_alloc | apply Kd.R_drewN | apply Kd.R_drew)); exact HW0l.out) hb_)
  have nX1 := Aside0.mk (Kd.S_below (by (with_reducible repeat (first | apply Kd.S_alloc | apply Kd.S_drewN | apply Kd.S_drew)); exact HX1.out) hb_)
  have nG0l := Aside0.mk (Kd.R_below (by (with_reducible repeat (first | apply Kd.R_alloc | apply Kd.R_drewN | apply Kd.R_drew)); exact HG0l.out) hb_)
  have np1 : Aside0 (w6.heap[w.heap.size]? = some (.cells #[.int .i64 a1, .slice A1 l1.length c1] 24 (0, 0))) := ⟨blk_below (by (first | exact heap_alloc_new _ _ | (refine blk_alloc ?_ _; exact heap_alloc_new _ _) | ((with_reducible repeat (first | refine blk_drewN ?_ _ | refine blk_drew ?_ | refine blk_alloc ?_ _)); exact Kp1.out))) hb_⟩
  have nx1 : Aside0 (w6.heap[w4.heap.size]? = some (.cells #[.int .i64 a1, .slice AX1 l1.length cX1] 28 (0, 0))) := ⟨blk_below (by (first | exact heap_alloc_new _ _ | (refine blk_alloc ?_ _; exact heap_alloc_new _ _) | ((with_reducible repeat (first | refine blk_drewN ?_ _ | refine blk_drew ?_ | refine blk_alloc ?_ _)); exact Kx1.out))) hb_⟩
  have Zw6 : Aside0 (w5.heap.size + 0 ≤ w6.heap.size) := ⟨by have h_ := hb_.size; (try simp at h_); omega⟩
  have nB_ := Aside0.mk (below_step (by repeat (first | exact HB.out | apply below_alloc | apply pw_below_drewN | apply below_drew1)) hb_)
  clear HB HW0l HX1 HG0l Kp1 Kx1 hb_
  have HB := nB_
  clear nB_
  have HW0l := nW0l
  clear nW0l
  have HX1 := nX1
  clear nX1
  have HG0l := nG0l
  clear nG0l
  have Kp1 := np1
  clear np1
  have Kx1 := nx1
  clear nx1
  try clear qp1_0 qp1_1 qx1_0 qx1_1
  have zp1_ := blk_lt Kp1.out
  have qp1_0 := (blk_cell Kp1.out 0).trans rfl
  have qp1_1 := (blk_cell Kp1.out 1).trans rfl
  have zx1_ := blk_lt Kx1.out
  have qx1_0 := (blk_cell Kx1.out 0).trans rfl
  have qx1_1 := (blk_cell Kx1.out 1).trans rfl
  go_wp2_with fail
  clear zp1_ qp1_0 qp1_1
  clear zx1_ qx1_0 qx1_1
  have nW0l := Aside0.mk (Kd.R_drew HW0l.out)
  have nX1 := Aside0.mk (Kd.S_drew HX1.out)
  have nG0l := Aside0.mk (Kd.R_drew HG0l.out)
  have np1 := Aside0.mk (blk_drew Kp1.out)
  have nx1 := Aside0.mk (blk_drew Kx1.out)
  have nB_ := Aside0.mk (below_drew1 HB.out)
  have Zw7 : Aside0 (w6.heap.size + 0 ≤ (w6.drew).heap.size) := ⟨by simp⟩
  clear HB HW0l HX1 HG0l Kp1 Kx1
  have HB := nB_
  clear nB_
  have HW0l := nW0l
  clear nW0l
  have HX1 := nX1
  clear nX1
  have HG0l := nG0l
  clear nG0l
  have Kp1 := np1
  clear np1
  have Kx1 := nx1
  clear nx1
  refine start_ (n := 5) (S := fun w' => w'.cell? ⟨w4.heap.size, 0, none⟩ = some (.int .i64 a1) ∧ w'.cell? ⟨w4.heap.size, 1, none⟩ = some (.slice AX1 l1.length cX1) ∧ w'.cell? ⟨w.heap.size, 0, none⟩ = some (.int .i64 a1) ∧ w'.cell? ⟨w.heap.size, 1, none⟩ = some (.slice A1 l1.length c1)) (ds := []) #[false, false, false, false, false] (by kernel_rfl) rfl rfl ⟨(blk_cell Kx1.out 0).trans rfl, (blk_cell Kx1.out 1).trans rfl, (blk_cell Kp1.out 0).trans rfl, (blk_cell Kp1.out 1).trans rfl⟩ (fun hHeld => ?_)
  generalize w6.drew = w7 at HB Zw7 hHeld HW0l HX1 HG0l Kp1 Kx1 ⊢
  refine take_ (i := 0) (N := some 49) (v := ?_) (a' := ?_) #[true, false, false, false, false] rfl rfl (by kernel_rfl) (fun _ _ _ h => h) (Or.inl ⟨by rfl, ?_⟩) hHeld ?_ ?_
  rotate_left
  · rintro w' ⟨s0_, s1_, s2_, s3_⟩
    go_simp
    with_reducible rfl
  rotate_left
  · simp only [Act.put, List.setIfInBounds_toArray, List.set_cons_zero, List.set_cons_succ, i64_w, i32_w]
    rfl
  refine take_ (i := 1) (N := some 50) (v := ?_) (a' := ?_) #[true, true, false, false, false] rfl rfl (by kernel_rfl) (fun _ _ _ h => h) (Or.inl ⟨by rfl, ?_⟩) hHeld ?_ ?_
  rotate_left
  · rintro w' ⟨s0_, s1_, s2_, s3_⟩
    go_simp
    with_reducible rfl
  rotate_left
  · simp only [Act.put, List.setIfInBounds_toArray, List.set_cons_zero, List.set_cons_succ, i64_w, i32_w]
    rfl
  refine one_ (i := 2) (N := some 51) #[true, true, true, false, false] rfl rfl (by kernel_rfl) (by decide) (fun K hK => ?_)
  refine goes_ Try.func11 (by kernel_rfl) rfl #[.agg #[.int .i64 a1, .slice A1 l1.length c1]] (by rfl) rfl rfl (by (try simp only [List.map_toArray, List.map_cons, List.map_nil]); first | done | rfl) ?_
  refine (laws_toGraph.calls k a1 _ _ l1 a1 l1 _ (Kd.C_below HR1.out (by repeat (first | exact HB.out | apply below_alloc | apply pw_below_drewN | apply below_drew1))) hc1 FG1.out).mono ?_
  rintro e w8 ⟨ve1, rfl, hse1_, hb_⟩
  refine ⟨_, rfl, ?_⟩
  have HB0_ := Aside0.mk (by repeat (first | exact HB.out | apply below_alloc | apply pw_below_drewN | apply below_drew1))
  have He1 : Aside0 (Kd.S (Kd.slice 2 (Kd.int .i64)) 32 w8 w.heap.size (fun k_ => w7.heap.size ≤ k_ ∧ k_ < w8.heap.size) _ l1) := ⟨Kd.S_mono (Kd.S_lower (Kd.S_bound hse1_) (by have h_ := HB0_.out.size; (try simp at h_); (try simp); omega)) (fun k_ hk_ => ⟨by have h_ := hk_.2.1; (try simp at h_); omega, hk_.2.2.1⟩)⟩
  clear HB0_ hse1_
  have nW0l := Aside0.mk (Kd.R_below (by (with_reducible repeat (first | apply Kd.R_alloc | apply Kd.R_drewN | apply Kd.R_drew)); exact HW0l.out) hb_)
  have nX1 := Aside0.mk (Kd.S_below (by (with_reducible repeat (first | apply Kd.S_alloc | apply Kd.S_drewN | apply Kd.S_drew)); exact HX1.out) hb_)
  have nG0l := Aside0.mk (Kd.R_below (by (with_reducible repeat (first | apply Kd.R_alloc | apply Kd.R_drewN | apply Kd.R_drew)); exact HG0l.out) hb_)
  have np1 : Aside0 (w8.heap[w.heap.size]? = some (.cells #[.int .i64 a1, .slice A1 l1.length c1] 24 (0, 0))) := ⟨blk_below (by (first | exact heap_alloc_new _ _ | (refine blk_alloc ?_ _; exact heap_alloc_new _ _) | ((with_reducible repeat (first | refine blk_drewN ?_ _ | refine blk_drew ?_ | refine blk_alloc ?_ _)); exact Kp1.out))) hb_⟩
  have nx1 : Aside0 (w8.heap[w4.heap.size]? = some (.cells #[.int .i64 a1, .slice AX1 l1.length cX1] 28 (0, 0))) := ⟨blk_below (by (first | exact heap_alloc_new _ _ | (refine blk_alloc ?_ _; exact heap_alloc_new _ _) | ((with_reducible repeat (first | refine blk_drewN ?_ _ | refine blk_drew ?_ | refine blk_alloc ?_ _)); exact Kx1.out))) hb_⟩
  have Zw8 : Aside0 (w7.heap.size + 0 ≤ w8.heap.size) := ⟨by have h_ := hb_.size; (try simp at h_); omega⟩
  have nB_ := Aside0.mk (below_step (by repeat (first | exact HB.out | apply below_alloc | apply pw_below_drewN | apply below_drew1)) hb_)
  clear HB HW0l HX1 HG0l Kp1 Kx1 hb_
  have HB := nB_
  clear nB_
  have HW0l := nW0l
  clear nW0l
  have HX1 := nX1
  clear nX1
  have HG0l := nG0l
  clear nG0l
  have Kp1 := np1
  clear np1
  have Kx1 := nx1
  clear nx1
  obtain ⟨Ae1, ce1, ee1⟩ := Kd.S_slice He1.out
  subst ee1
  refine hK.out _ _ ⟨(blk_cell Kx1.out 0).trans rfl, (blk_cell Kx1.out 1).trans rfl, (blk_cell Kp1.out 0).trans rfl, (blk_cell Kp1.out 1).trans rfl⟩ (fun hHeld => ?_)
  clear hK K
  refine norm_ (a' := ?_) ?_ ?_
  rotate_left
  · show Act.put _ (some 51) _ = _
    simp only [Act.put, List.setIfInBounds_toArray, List.set_cons_zero, List.set_cons_succ, i64_w, i32_w]
    rfl
  refine one_ (i := 3) (N := some 52) #[true, true, true, true, false] rfl rfl (by kernel_rfl) (by decide) (fun K hK => ?_)
  refine goes_ Try.func13 (by kernel_rfl) rfl #[.agg #[.int .i64 a1, .slice AX1 l1.length cX1], .agg #[.int .i64 a1, .slice Ae1 l1.length ce1]] (by rfl) rfl rfl (by (try simp only [List.map_toArray, List.map_cons, List.map_nil]); first | done | rfl) ?_
  refine (laws_eqGraph.calls k a1 _ _ l1 a1 _ _ l1 true _ (Kd.S_reads' (by (with_reducible repeat (first | apply Kd.S_alloc | apply Kd.S_drewN | apply Kd.S_drew)); exact HX1.out)).2.2 (Kd.S_reads' HX1.out).2.1 (Kd.S_reads' (by (with_reducible repeat (first | apply Kd.S_alloc | apply Kd.S_drewN | apply Kd.S_drew)); exact He1.out)).2.2 (Kd.S_reads' He1.out).2.1 FQ1.out).mono ?_
  rintro e w9 ⟨rfl, hb_⟩
  refine ⟨_, rfl, ?_⟩
  have HB0_ := Aside0.mk (by repeat (first | exact HB.out | apply below_alloc | apply pw_below_drewN | apply below_drew1))
  clear HB0_
  clear He1
  have nW0l := Aside0.mk (Kd.R_below (by (with_reducible repeat (first | apply Kd.R_alloc | apply Kd.R_drewN | apply Kd.R_drew)); exact HW0l.out) hb_)
  have nX1 := Aside0.mk (Kd.S_below (by (with_reducible repeat (first | apply Kd.S_alloc | apply Kd.S_drewN | apply Kd.S_drew)); exact HX1.out) hb_)
  have nG0l := Aside0.mk (Kd.R_below (by (with_reducible repeat (first | apply Kd.R_alloc | apply Kd.R_drewN | apply Kd.R_drew)); exact HG0l.out) hb_)
  have np1 : Aside0 (w9.heap[w.heap.size]? = some (.cells #[.int .i64 a1, .slice A1 l1.length c1] 24 (0, 0))) := ⟨blk_below (by (first | exact heap_alloc_new _ _ | (refine blk_alloc ?_ _; exact heap_alloc_new _ _) | ((with_reducible repeat (first | refine blk_drewN ?_ _ | refine blk_drew ?_ | refine blk_alloc ?_ _)); exact Kp1.out))) hb_⟩
  have nx1 : Aside0 (w9.heap[w4.heap.size]? = some (.cells #[.int .i64 a1, .slice AX1 l1.length cX1] 28 (0, 0))) := ⟨blk_below (by (first | exact heap_alloc_new _ _ | (refine blk_alloc ?_ _; exact heap_alloc_new _ _) | ((with_reducible repeat (first | refine blk_drewN ?_ _ | refine blk_drew ?_ | refine blk_alloc ?_ _)); exact Kx1.out))) hb_⟩
  have Zw9 : Aside0 (w8.heap.size + 0 ≤ w9.heap.size) := ⟨by have h_ := hb_.size; (try simp at h_); omega⟩
  have nB_ := Aside0.mk (below_step (by repeat (first | exact HB.out | apply below_alloc | apply pw_below_drewN | apply below_drew1)) hb_)
  clear HB HW0l HX1 HG0l Kp1 Kx1 hb_
  have HB := nB_
  clear nB_
  have HW0l := nW0l
  clear nW0l
  have HX1 := nX1
  clear nX1
  have HG0l := nG0l
  clear nG0l
  have Kp1 := np1
  clear np1
  have Kx1 := nx1
  clear nx1
  refine hK.out _ _ ⟨(blk_cell Kx1.out 0).trans rfl, (blk_cell Kx1.out 1).trans rfl, (blk_cell Kp1.out 0).trans rfl, (blk_cell Kp1.out 1).trans rfl⟩ (fun hHeld => ?_)
  clear hK K
  refine norm_ (a' := ?_) ?_ ?_
  rotate_left
  · show Act.put _ (some 52) _ = _
    simp only [Act.put, List.setIfInBounds_toArray, List.set_cons_zero, List.set_cons_succ, i64_w, i32_w]
    rfl
  refine pure_ (i := 4) (N := some 53) (v := ?_) (a' := ?_) #[true, true, true, true, true] rfl rfl (by kernel_rfl) (fun _ _ _ h => h) (Or.inl ⟨by rfl, ?_⟩) ?_ ?_
  rotate_left
  · intro w'
    go_simp
    with_reducible rfl
  rotate_left
  · simp only [Act.put, List.setIfInBounds_toArray, List.set_cons_zero, List.set_cons_succ, i64_w, i32_w]
    rfl
  refine done_ (by kernel_rfl) ?_
  try clear qp1_0 qp1_1 qx1_0 qx1_1
  have zp1_ := blk_lt Kp1.out
  have qp1_0 := (blk_cell Kp1.out 0).trans rfl
  have qp1_1 := (blk_cell Kp1.out 1).trans rfl
  have zx1_ := blk_lt Kx1.out
  have qx1_0 := (blk_cell Kx1.out 0).trans rfl
  have qx1_1 := (blk_cell Kx1.out 1).trans rfl
  go_wp2_with fail
  clear zp1_ qp1_0 qp1_1
  clear zx1_ qx1_0 qx1_1
  refine (laws_markGraph.calls k (fun k_ => w3.heap.size ≤ k_ ∧ k_ < w4.heap.size) a1 _ _ _ l1 1 m1 y1 w _ (by repeat (first | exact HB.out | apply below_alloc | apply pw_below_drewN | apply below_drew1)) (by (with_reducible repeat (first | apply Kd.S_alloc | apply Kd.S_drewN | apply Kd.S_drew)); exact HX1.out) FM1.out).mono ?_
  rintro e w10 ⟨rfl, hS_, hb0_, hk0_⟩
  have hk_ := hk0_
  have nI_ : Aside0 (Kd.S (Kd.slice 2 (Kd.int .i64)) 32 w10 w.heap.size (fun k_ => w3.heap.size ≤ k_ ∧ k_ < w4.heap.size) (.slice AX1 l1.length cX1) y1) := ⟨hS_⟩
  clear HX1 hS_ hk0_
  have nW0l := Aside0.mk (Kd.R_kept (by (with_reducible repeat (first | apply Kd.R_alloc | apply Kd.R_drewN | apply Kd.R_drew)); exact HW0l.out) hk_ (fun k_ h1_ h2_ => by have h3_ := h1_; have h4_ := h2_; have zw1_ := Zw1.out; have zw2_ := Zw2.out; have zw3_ := Zw3.out; have zw4_ := Zw4.out; have zw5_ := Zw5.out; have zw6_ := Zw6.out; have zw7_ := Zw7.out; have zw8_ := Zw8.out; have zw9_ := Zw9.out; omega))
  have nG0l := Aside0.mk (Kd.R_kept (by (with_reducible repeat (first | apply Kd.R_alloc | apply Kd.R_drewN | apply Kd.R_drew)); exact HG0l.out) hk_ (fun k_ h1_ h2_ => by have h3_ := h1_; have h4_ := h2_; have zw1_ := Zw1.out; have zw2_ := Zw2.out; have zw3_ := Zw3.out; have zw4_ := Zw4.out; have zw5_ := Zw5.out; have zw6_ := Zw6.out; have zw7_ := Zw7.out; have zw8_ := Zw8.out; have zw9_ := Zw9.out; omega))
  have np1 : Aside0 (w10.heap[w.heap.size]? = some (.cells #[.int .i64 a1, .slice A1 l1.length c1] 24 (0, 0))) := ⟨blk_kept (by (first | exact heap_alloc_new _ _ | (refine blk_alloc ?_ _; exact heap_alloc_new _ _) | ((with_reducible repeat (first | refine blk_drewN ?_ _ | refine blk_drew ?_ | refine blk_alloc ?_ _)); exact Kp1.out))) hk_ (fun h2_ => by have h4_ := h2_; have zw1_ := Zw1.out; have zw2_ := Zw2.out; have zw3_ := Zw3.out; have zw4_ := Zw4.out; have zw5_ := Zw5.out; have zw6_ := Zw6.out; have zw7_ := Zw7.out; have zw8_ := Zw8.out; have zw9_ := Zw9.out; omega)⟩
  have nx1 : Aside0 (w10.heap[w4.heap.size]? = some (.cells #[.int .i64 a1, .slice AX1 l1.length cX1] 28 (0, 0))) := ⟨blk_kept (by (first | exact heap_alloc_new _ _ | (refine blk_alloc ?_ _; exact heap_alloc_new _ _) | ((with_reducible repeat (first | refine blk_drewN ?_ _ | refine blk_drew ?_ | refine blk_alloc ?_ _)); exact Kx1.out))) hk_ (fun h2_ => by have h4_ := h2_; have zw1_ := Zw1.out; have zw2_ := Zw2.out; have zw3_ := Zw3.out; have zw4_ := Zw4.out; have zw5_ := Zw5.out; have zw6_ := Zw6.out; have zw7_ := Zw7.out; have zw8_ := Zw8.out; have zw9_ := Zw9.out; omega)⟩
  have Zw10 : Aside0 (w9.heap.size + 0 ≤ w10.heap.size) := ⟨by have h_ := hk_.1; (try simp at h_); omega⟩
  have nB_ := Aside0.mk hb0_
  clear HB HW0l HG0l Kp1 Kx1 hk_ hb0_
  have HB := nB_
  clear nB_
  have HW0l := nW0l
  clear nW0l
  have HG0l := nG0l
  clear nG0l
  have Kp1 := np1
  clear np1
  have Kx1 := nx1
  clear nx1
  have HX1 := nI_
  clear nI_
  have LX1w10 : Aside0 (y1.length = l1.length) := ⟨(Kd.S_reads' HX1.out).1.symm⟩
  try clear qp1_0 qp1_1 qx1_0 qx1_1
  have zp1_ := blk_lt Kp1.out
  have qp1_0 := (blk_cell Kp1.out 0).trans rfl
  have qp1_1 := (blk_cell Kp1.out 1).trans rfl
  have zx1_ := blk_lt Kx1.out
  have qx1_0 := (blk_cell Kx1.out 0).trans rfl
  have qx1_1 := (blk_cell Kx1.out 1).trans rfl
  go_wp2_with fail
  clear zp1_ qp1_0 qp1_1
  clear zx1_ qx1_0 qx1_1
  refine (laws_eqInt64S.calls k _ _ r0l _ _ r0l true _ (Kd.R_reads' (by (with_reducible repeat (first | apply Kd.R_alloc | apply Kd.R_drewN | apply Kd.R_drew)); exact HG0l.out)).2.2 (Kd.R_reads' HG0l.out).2.1 (Kd.R_reads' (by (with_reducible repeat (first | apply Kd.R_alloc | apply Kd.R_drewN | apply Kd.R_drew)); exact HW0l.out)).2.2 (Kd.R_reads' HW0l.out).2.1 FE0.out).mono ?_
  rintro e w11 ⟨rfl, hd_⟩
  have hb_ := hd_.below
  clear hd_
  have nW0l := Aside0.mk (Kd.R_below (by (with_reducible repeat (first | apply Kd.R_alloc | apply Kd.R_drewN | apply Kd.R_drew)); exact HW0l.out) hb_)
  have nX1 := Aside0.mk (Kd.S_below (by (with_reducible repeat (first | apply Kd.S_alloc | apply Kd.S_drewN | apply Kd.S_drew)); exact HX1.out) hb_)
  have nG0l := Aside0.mk (Kd.R_below (by (with_reducible repeat (first | apply Kd.R_alloc | apply Kd.R_drewN | apply Kd.R_drew)); exact HG0l.out) hb_)
  have np1 : Aside0 (w11.heap[w.heap.size]? = some (.cells #[.int .i64 a1, .slice A1 l1.length c1] 24 (0, 0))) := ⟨blk_below (by (first | exact heap_alloc_new _ _ | (refine blk_alloc ?_ _; exact heap_alloc_new _ _) | ((with_reducible repeat (first | refine blk_drewN ?_ _ | refine blk_drew ?_ | refine blk_alloc ?_ _)); exact Kp1.out))) hb_⟩
  have nx1 : Aside0 (w11.heap[w4.heap.size]? = some (.cells #[.int .i64 a1, .slice AX1 l1.length cX1] 28 (0, 0))) := ⟨blk_below (by (first | exact heap_alloc_new _ _ | (refine blk_alloc ?_ _; exact heap_alloc_new _ _) | ((with_reducible repeat (first | refine blk_drewN ?_ _ | refine blk_drew ?_ | refine blk_alloc ?_ _)); exact Kx1.out))) hb_⟩
  have Zw11 : Aside0 (w10.heap.size + 0 ≤ w11.heap.size) := ⟨by have h_ := hb_.size; (try simp at h_); omega⟩
  have nB_ := Aside0.mk (below_step (by repeat (first | exact HB.out | apply below_alloc | apply pw_below_drewN | apply below_drew1)) hb_)
  clear HB HW0l HX1 HG0l Kp1 Kx1 hb_
  have HB := nB_
  clear nB_
  have HW0l := nW0l
  clear nW0l
  have HX1 := nX1
  clear nX1
  have HG0l := nG0l
  clear nG0l
  have Kp1 := np1
  clear np1
  have Kx1 := nx1
  clear nx1
  try clear qp1_0 qp1_1 qx1_0 qx1_1
  have zp1_ := blk_lt Kp1.out
  have qp1_0 := (blk_cell Kp1.out 0).trans rfl
  have qp1_1 := (blk_cell Kp1.out 1).trans rfl
  have zx1_ := blk_lt Kx1.out
  have qx1_0 := (blk_cell Kx1.out 0).trans rfl
  have qx1_1 := (blk_cell Kx1.out 1).trans rfl
  go_wp2_with fail
  clear zp1_ qp1_0 qp1_1
  clear zx1_ qx1_0 qx1_1
  refine (laws_markInt64S.calls k (fun k_ => some k_ = (.slice AG0l r0l.length cG0l : Value).ownBlock) _ r0l 1 n0l x0l w _ (by repeat (first | exact HB.out | apply below_alloc | apply pw_below_drewN | apply below_drew1)) (Kd.R_tight rfl (by (with_reducible repeat (first | apply Kd.R_alloc | apply Kd.R_drewN | apply Kd.R_drew)); exact HG0l.out)) FN0l.out).mono ?_
  rintro e w12 ⟨rfl, hS_, hb0_, hk0_⟩
  have hk_ : Kept _ w12 (fun k_ => w4.heap.size + 1 ≤ k_ ∧ k_ < w5.heap.size) := hk0_.mono (fun k_ hk_ => HG0l.out.1 k_ hk_.symm)
  have nI_ : Aside0 (Kd.R (Kd.int .i64) 2 w12 w.heap.size (fun k_ => w4.heap.size + 1 ≤ k_ ∧ k_ < w5.heap.size) (.slice AG0l r0l.length cG0l) x0l) := ⟨Kd.R_mono (Kd.R_tight rfl hS_) (fun k_ hk_ => HG0l.out.1 k_ hk_.symm)⟩
  clear HG0l hS_ hk0_
  have nW0l := Aside0.mk (Kd.R_kept (by (with_reducible repeat (first | apply Kd.R_alloc | apply Kd.R_drewN | apply Kd.R_drew)); exact HW0l.out) hk_ (fun k_ h1_ h2_ => by have h3_ := h1_; have h4_ := h2_; have zw1_ := Zw1.out; have zw2_ := Zw2.out; have zw3_ := Zw3.out; have zw4_ := Zw4.out; have zw5_ := Zw5.out; have zw6_ := Zw6.out; have zw7_ := Zw7.out; have zw8_ := Zw8.out; have zw9_ := Zw9.out; have zw10_ := Zw10.out; have zw11_ := Zw11.out; omega))
  have nX1 := Aside0.mk (Kd.S_kept (by (with_reducible repeat (first | apply Kd.S_alloc | apply Kd.S_drewN | apply Kd.S_drew)); exact HX1.out) hk_ (fun k_ h1_ h2_ => by have h3_ := h1_; have h4_ := h2_; have zw1_ := Zw1.out; have zw2_ := Zw2.out; have zw3_ := Zw3.out; have zw4_ := Zw4.out; have zw5_ := Zw5.out; have zw6_ := Zw6.out; have zw7_ := Zw7.out; have zw8_ := Zw8.out; have zw9_ := Zw9.out; have zw10_ := Zw10.out; have zw11_ := Zw11.out; omega))
  have np1 : Aside0 (w12.heap[w.heap.size]? = some (.cells #[.int .i64 a1, .slice A1 l1.length c1] 24 (0, 0))) := ⟨blk_kept (by (first | exact heap_alloc_new _ _ | (refine blk_alloc ?_ _; exact heap_alloc_new _ _) | ((with_reducible repeat (first | refine blk_drewN ?_ _ | refine blk_drew ?_ | refine blk_alloc ?_ _)); exact Kp1.out))) hk_ (fun h2_ => by have h4_ := h2_; have zw1_ := Zw1.out; have zw2_ := Zw2.out; have zw3_ := Zw3.out; have zw4_ := Zw4.out; have zw5_ := Zw5.out; have zw6_ := Zw6.out; have zw7_ := Zw7.out; have zw8_ := Zw8.out; have zw9_ := Zw9.out; have zw10_ := Zw10.out; have zw11_ := Zw11.out; omega)⟩
  have nx1 : Aside0 (w12.heap[w4.heap.size]? = some (.cells #[.int .i64 a1, .slice AX1 l1.length cX1] 28 (0, 0))) := ⟨blk_kept (by (first | exact heap_alloc_new _ _ | (refine blk_alloc ?_ _; exact heap_alloc_new _ _) | ((with_reducible repeat (first | refine blk_drewN ?_ _ | refine blk_drew ?_ | refine blk_alloc ?_ _)); exact Kx1.out))) hk_ (fun h2_ => by have h4_ := h2_; have zw1_ := Zw1.out; have zw2_ := Zw2.out; have zw3_ := Zw3.out; have zw4_ := Zw4.out; have zw5_ := Zw5.out; have zw6_ := Zw6.out; have zw7_ := Zw7.out; have zw8_ := Zw8.out; have zw9_ := Zw9.out; have zw10_ := Zw10.out; have zw11_ := Zw11.out; omega)⟩
  have Zw12 : Aside0 (w11.heap.size + 0 ≤ w12.heap.size) := ⟨by have h_ := hk_.1; (try simp at h_); omega⟩
  have nB_ := Aside0.mk hb0_
  clear HB HW0l HX1 Kp1 Kx1 hk_ hb0_
  have HB := nB_
  clear nB_
  have HW0l := nW0l
  clear nW0l
  have HX1 := nX1
  clear nX1
  have Kp1 := np1
  clear np1
  have Kx1 := nx1
  clear nx1
  have HG0l := nI_
  clear nI_
  have LG0lw12 : Aside0 (x0l.length = r0l.length) := ⟨(Kd.R_reads' HG0l.out).1.symm⟩
  try clear qp1_0 qp1_1 qx1_0 qx1_1
  have zp1_ := blk_lt Kp1.out
  have qp1_0 := (blk_cell Kp1.out 0).trans rfl
  have qp1_1 := (blk_cell Kp1.out 1).trans rfl
  have zx1_ := blk_lt Kx1.out
  have qx1_0 := (blk_cell Kx1.out 0).trans rfl
  have qx1_1 := (blk_cell Kx1.out 1).trans rfl
  go_wp2_with fail
  clear zp1_ qp1_0 qp1_1
  clear zx1_ qx1_0 qx1_1
  rw [← LG0lw12.out]
  refine (laws_heldInt64S.calls k _ _ x0l 1 n0l _ (Kd.R_reads' (by (with_reducible repeat (first | apply Kd.R_alloc | apply Kd.R_drewN | apply Kd.R_drew)); exact HG0l.out)).2.2 (by rw [LG0lw12.out]; exact (Kd.R_reads' HG0l.out).2.1) FH0.out).mono ?_
  rintro e w13 ⟨rfl, hd_⟩
  have hb_ := hd_.below
  clear hd_
  have nW0l := Aside0.mk (Kd.R_below (by (with_reducible repeat (first | apply Kd.R_alloc | apply Kd.R_drewN | apply Kd.R_drew)); exact HW0l.out) hb_)
  have nX1 := Aside0.mk (Kd.S_below (by (with_reducible repeat (first | apply Kd.S_alloc | apply Kd.S_drewN | apply Kd.S_drew)); exact HX1.out) hb_)
  have nG0l := Aside0.mk (Kd.R_below (by (with_reducible repeat (first | apply Kd.R_alloc | apply Kd.R_drewN | apply Kd.R_drew)); exact HG0l.out) hb_)
  have np1 : Aside0 (w13.heap[w.heap.size]? = some (.cells #[.int .i64 a1, .slice A1 l1.length c1] 24 (0, 0))) := ⟨blk_below (by (first | exact heap_alloc_new _ _ | (refine blk_alloc ?_ _; exact heap_alloc_new _ _) | ((with_reducible repeat (first | refine blk_drewN ?_ _ | refine blk_drew ?_ | refine blk_alloc ?_ _)); exact Kp1.out))) hb_⟩
  have nx1 : Aside0 (w13.heap[w4.heap.size]? = some (.cells #[.int .i64 a1, .slice AX1 l1.length cX1] 28 (0, 0))) := ⟨blk_below (by (first | exact heap_alloc_new _ _ | (refine blk_alloc ?_ _; exact heap_alloc_new _ _) | ((with_reducible repeat (first | refine blk_drewN ?_ _ | refine blk_drew ?_ | refine blk_alloc ?_ _)); exact Kx1.out))) hb_⟩
  have Zw13 : Aside0 (w12.heap.size + 0 ≤ w13.heap.size) := ⟨by have h_ := hb_.size; (try simp at h_); omega⟩
  have nB_ := Aside0.mk (below_step (by repeat (first | exact HB.out | apply below_alloc | apply pw_below_drewN | apply below_drew1)) hb_)
  clear HB HW0l HX1 HG0l Kp1 Kx1 hb_
  have HB := nB_
  clear nB_
  have HW0l := nW0l
  clear nW0l
  have HX1 := nX1
  clear nX1
  have HG0l := nG0l
  clear nG0l
  have Kp1 := np1
  clear np1
  have Kx1 := nx1
  clear nx1
  try rw [LG0lw12.out]
  try clear qp1_0 qp1_1 qx1_0 qx1_1
  have zp1_ := blk_lt Kp1.out
  have qp1_0 := (blk_cell Kp1.out 0).trans rfl
  have qp1_1 := (blk_cell Kp1.out 1).trans rfl
  have zx1_ := blk_lt Kx1.out
  have qx1_0 := (blk_cell Kx1.out 0).trans rfl
  have qx1_1 := (blk_cell Kx1.out 1).trans rfl
  go_wp2_with fail
  clear zp1_ qp1_0 qp1_1
  clear zx1_ qx1_0 qx1_1
  refine (laws_toGraph.calls k a1 _ _ l1 a1 l1 _ (Kd.C_below HR1.out (by repeat (first | exact HB.out | apply below_alloc | apply pw_below_drewN | apply below_drew1))) hc1 FG1.out).mono ?_
  rintro e w14 ⟨vu1, rfl, hsu1_, hb_⟩
  have HB0_ := Aside0.mk (by repeat (first | exact HB.out | apply below_alloc | apply pw_below_drewN | apply below_drew1))
  have Hu1 : Aside0 (Kd.S (Kd.slice 2 (Kd.int .i64)) 32 w14 w.heap.size (fun k_ => w13.heap.size ≤ k_ ∧ k_ < w14.heap.size) _ l1) := ⟨Kd.S_mono (Kd.S_lower (Kd.S_bound hsu1_) (by have h_ := HB0_.out.size; (try simp at h_); (try simp); omega)) (fun k_ hk_ => ⟨by have h_ := hk_.2.1; (try simp at h_); omega, hk_.2.2.1⟩)⟩
  clear HB0_ hsu1_
  have nW0l := Aside0.mk (Kd.R_below (by (with_reducible repeat (first | apply Kd.R_alloc | apply Kd.R_drewN | apply Kd.R_drew)); exact HW0l.out) hb_)
  have nX1 := Aside0.mk (Kd.S_below (by (with_reducible repeat (first | apply Kd.S_alloc | apply Kd.S_drewN | apply Kd.S_drew)); exact HX1.out) hb_)
  have nG0l := Aside0.mk (Kd.R_below (by (with_reducible repeat (first | apply Kd.R_alloc | apply Kd.R_drewN | apply Kd.R_drew)); exact HG0l.out) hb_)
  have np1 : Aside0 (w14.heap[w.heap.size]? = some (.cells #[.int .i64 a1, .slice A1 l1.length c1] 24 (0, 0))) := ⟨blk_below (by (first | exact heap_alloc_new _ _ | (refine blk_alloc ?_ _; exact heap_alloc_new _ _) | ((with_reducible repeat (first | refine blk_drewN ?_ _ | refine blk_drew ?_ | refine blk_alloc ?_ _)); exact Kp1.out))) hb_⟩
  have nx1 : Aside0 (w14.heap[w4.heap.size]? = some (.cells #[.int .i64 a1, .slice AX1 l1.length cX1] 28 (0, 0))) := ⟨blk_below (by (first | exact heap_alloc_new _ _ | (refine blk_alloc ?_ _; exact heap_alloc_new _ _) | ((with_reducible repeat (first | refine blk_drewN ?_ _ | refine blk_drew ?_ | refine blk_alloc ?_ _)); exact Kx1.out))) hb_⟩
  have Zw14 : Aside0 (w13.heap.size + 0 ≤ w14.heap.size) := ⟨by have h_ := hb_.size; (try simp at h_); omega⟩
  have nB_ := Aside0.mk (below_step (by repeat (first | exact HB.out | apply below_alloc | apply pw_below_drewN | apply below_drew1)) hb_)
  clear HB HW0l HX1 HG0l Kp1 Kx1 hb_
  have HB := nB_
  clear nB_
  have HW0l := nW0l
  clear nW0l
  have HX1 := nX1
  clear nX1
  have HG0l := nG0l
  clear nG0l
  have Kp1 := np1
  clear np1
  have Kx1 := nx1
  clear nx1
  obtain ⟨Au1, cu1, eu1⟩ := Kd.S_slice Hu1.out
  subst eu1
  try clear qp1_0 qp1_1 qx1_0 qx1_1
  have zp1_ := blk_lt Kp1.out
  have qp1_0 := (blk_cell Kp1.out 0).trans rfl
  have qp1_1 := (blk_cell Kp1.out 1).trans rfl
  have zx1_ := blk_lt Kx1.out
  have qx1_0 := (blk_cell Kx1.out 0).trans rfl
  have qx1_1 := (blk_cell Kx1.out 1).trans rfl
  go_wp2_with fail
  clear zp1_ qp1_0 qp1_1
  clear zx1_ qx1_0 qx1_1
  refine (impl_BartholdiReciprocal.calls k a0 a1 _ _ l1 a2 r0l r1a _ (Kd.S_reads' (by (with_reducible repeat (first | apply Kd.S_alloc | apply Kd.S_drewN | apply Kd.S_drew)); exact Hu1.out)).2.2 (Kd.S_reads' Hu1.out).2.1 FI.out).mono ?_
  rintro e w15 ⟨vV0l, rfl, hsV0l_, hb_⟩
  have HB0_ := Aside0.mk (by repeat (first | exact HB.out | apply below_alloc | apply pw_below_drewN | apply below_drew1))
  have HV0l : Aside0 (Kd.R (Kd.int .i64) 2 w15 w.heap.size (fun k_ => w14.heap.size ≤ k_ ∧ k_ < w15.heap.size) _ r0l) := ⟨Kd.R_mono (Kd.R_lower (Kd.R_bound hsV0l_) (by have h_ := HB0_.out.size; (try simp at h_); (try simp); omega)) (fun k_ hk_ => ⟨by have h_ := hk_.2.1; (try simp at h_); omega, hk_.2.2.1⟩)⟩
  clear HB0_ hsV0l_
  clear Hu1
  have nW0l := Aside0.mk (Kd.R_below (by (with_reducible repeat (first | apply Kd.R_alloc | apply Kd.R_drewN | apply Kd.R_drew)); exact HW0l.out) hb_)
  have nX1 := Aside0.mk (Kd.S_below (by (with_reducible repeat (first | apply Kd.S_alloc | apply Kd.S_drewN | apply Kd.S_drew)); exact HX1.out) hb_)
  have nG0l := Aside0.mk (Kd.R_below (by (with_reducible repeat (first | apply Kd.R_alloc | apply Kd.R_drewN | apply Kd.R_drew)); exact HG0l.out) hb_)
  have np1 : Aside0 (w15.heap[w.heap.size]? = some (.cells #[.int .i64 a1, .slice A1 l1.length c1] 24 (0, 0))) := ⟨blk_below (by (first | exact heap_alloc_new _ _ | (refine blk_alloc ?_ _; exact heap_alloc_new _ _) | ((with_reducible repeat (first | refine blk_drewN ?_ _ | refine blk_drew ?_ | refine blk_alloc ?_ _)); exact Kp1.out))) hb_⟩
  have nx1 : Aside0 (w15.heap[w4.heap.size]? = some (.cells #[.int .i64 a1, .slice AX1 l1.length cX1] 28 (0, 0))) := ⟨blk_below (by (first | exact heap_alloc_new _ _ | (refine blk_alloc ?_ _; exact heap_alloc_new _ _) | ((with_reducible repeat (first | refine blk_drewN ?_ _ | refine blk_drew ?_ | refine blk_alloc ?_ _)); exact Kx1.out))) hb_⟩
  have Zw15 : Aside0 (w14.heap.size + 0 ≤ w15.heap.size) := ⟨by have h_ := hb_.size; (try simp at h_); omega⟩
  have nB_ := Aside0.mk (below_step (by repeat (first | exact HB.out | apply below_alloc | apply pw_below_drewN | apply below_drew1)) hb_)
  clear HB HW0l HX1 HG0l Kp1 Kx1 hb_
  have HB := nB_
  clear nB_
  have HW0l := nW0l
  clear nW0l
  have HX1 := nX1
  clear nX1
  have HG0l := nG0l
  clear nG0l
  have Kp1 := np1
  clear np1
  have Kx1 := nx1
  clear nx1
  obtain ⟨AV0l, cV0l, eV0l⟩ := Kd.R_slice HV0l.out
  subst eV0l
  try clear qp1_0 qp1_1 qx1_0 qx1_1
  have zp1_ := blk_lt Kp1.out
  have qp1_0 := (blk_cell Kp1.out 0).trans rfl
  have qp1_1 := (blk_cell Kp1.out 1).trans rfl
  have zx1_ := blk_lt Kx1.out
  have qx1_0 := (blk_cell Kx1.out 0).trans rfl
  have qx1_1 := (blk_cell Kx1.out 1).trans rfl
  go_wp2_with fail
  clear zp1_ qp1_0 qp1_1
  clear zx1_ qx1_0 qx1_1
  refine (laws_eqInt64S.calls k _ _ r0l _ _ r0l true _ (Kd.R_reads' (by (with_reducible repeat (first | apply Kd.R_alloc | apply Kd.R_drewN | apply Kd.R_drew)); exact HV0l.out)).2.2 (Kd.R_reads' HV0l.out).2.1 (Kd.R_reads' (by (with_reducible repeat (first | apply Kd.R_alloc | apply Kd.R_drewN | apply Kd.R_drew)); exact HW0l.out)).2.2 (Kd.R_reads' HW0l.out).2.1 FE0.out).mono ?_
  rintro e w16 ⟨rfl, hd_⟩
  have hb_ := hd_.below
  clear hd_
  have nW0l := Aside0.mk (Kd.R_below (by (with_reducible repeat (first | apply Kd.R_alloc | apply Kd.R_drewN | apply Kd.R_drew)); exact HW0l.out) hb_)
  have nX1 := Aside0.mk (Kd.S_below (by (with_reducible repeat (first | apply Kd.S_alloc | apply Kd.S_drewN | apply Kd.S_drew)); exact HX1.out) hb_)
  have nG0l := Aside0.mk (Kd.R_below (by (with_reducible repeat (first | apply Kd.R_alloc | apply Kd.R_drewN | apply Kd.R_drew)); exact HG0l.out) hb_)
  have nV0l := Aside0.mk (Kd.R_below (by (with_reducible repeat (first | apply Kd.R_alloc | apply Kd.R_drewN | apply Kd.R_drew)); exact HV0l.out) hb_)
  have np1 : Aside0 (w16.heap[w.heap.size]? = some (.cells #[.int .i64 a1, .slice A1 l1.length c1] 24 (0, 0))) := ⟨blk_below (by (first | exact heap_alloc_new _ _ | (refine blk_alloc ?_ _; exact heap_alloc_new _ _) | ((with_reducible repeat (first | refine blk_drewN ?_ _ | refine blk_drew ?_ | refine blk_alloc ?_ _)); exact Kp1.out))) hb_⟩
  have nx1 : Aside0 (w16.heap[w4.heap.size]? = some (.cells #[.int .i64 a1, .slice AX1 l1.length cX1] 28 (0, 0))) := ⟨blk_below (by (first | exact heap_alloc_new _ _ | (refine blk_alloc ?_ _; exact heap_alloc_new _ _) | ((with_reducible repeat (first | refine blk_drewN ?_ _ | refine blk_drew ?_ | refine blk_alloc ?_ _)); exact Kx1.out))) hb_⟩
  have Zw16 : Aside0 (w15.heap.size + 0 ≤ w16.heap.size) := ⟨by have h_ := hb_.size; (try simp at h_); omega⟩
  have nB_ := Aside0.mk (below_step (by repeat (first | exact HB.out | apply below_alloc | apply pw_below_drewN | apply below_drew1)) hb_)
  clear HB HW0l HX1 HG0l HV0l Kp1 Kx1 hb_
  have HB := nB_
  clear nB_
  have HW0l := nW0l
  clear nW0l
  have HX1 := nX1
  clear nX1
  have HG0l := nG0l
  clear nG0l
  have HV0l := nV0l
  clear nV0l
  have Kp1 := np1
  clear np1
  have Kx1 := nx1
  clear nx1
  try clear qp1_0 qp1_1 qx1_0 qx1_1
  have zp1_ := blk_lt Kp1.out
  have qp1_0 := (blk_cell Kp1.out 0).trans rfl
  have qp1_1 := (blk_cell Kp1.out 1).trans rfl
  have zx1_ := blk_lt Kx1.out
  have qx1_0 := (blk_cell Kx1.out 0).trans rfl
  have qx1_1 := (blk_cell Kx1.out 1).trans rfl
  go_wp2_with fail
  clear zp1_ qp1_0 qp1_1
  clear zx1_ qx1_0 qx1_1
  rw [← LG0lw12.out]
  refine (laws_heldInt64S.calls k _ _ x0l 1 n0l _ (Kd.R_reads' (by (with_reducible repeat (first | apply Kd.R_alloc | apply Kd.R_drewN | apply Kd.R_drew)); exact HG0l.out)).2.2 (by rw [LG0lw12.out]; exact (Kd.R_reads' HG0l.out).2.1) FH0.out).mono ?_
  rintro e w17 ⟨rfl, hd_⟩
  have hb_ := hd_.below
  clear hd_
  have nW0l := Aside0.mk (Kd.R_below (by (with_reducible repeat (first | apply Kd.R_alloc | apply Kd.R_drewN | apply Kd.R_drew)); exact HW0l.out) hb_)
  have nX1 := Aside0.mk (Kd.S_below (by (with_reducible repeat (first | apply Kd.S_alloc | apply Kd.S_drewN | apply Kd.S_drew)); exact HX1.out) hb_)
  have nG0l := Aside0.mk (Kd.R_below (by (with_reducible repeat (first | apply Kd.R_alloc | apply Kd.R_drewN | apply Kd.R_drew)); exact HG0l.out) hb_)
  have nV0l := Aside0.mk (Kd.R_below (by (with_reducible repeat (first | apply Kd.R_alloc | apply Kd.R_drewN | apply Kd.R_drew)); exact HV0l.out) hb_)
  have np1 : Aside0 (w17.heap[w.heap.size]? = some (.cells #[.int .i64 a1, .slice A1 l1.length c1] 24 (0, 0))) := ⟨blk_below (by (first | exact heap_alloc_new _ _ | (refine blk_alloc ?_ _; exact heap_alloc_new _ _) | ((with_reducible repeat (first | refine blk_drewN ?_ _ | refine blk_drew ?_ | refine blk_alloc ?_ _)); exact Kp1.out))) hb_⟩
  have nx1 : Aside0 (w17.heap[w4.heap.size]? = some (.cells #[.int .i64 a1, .slice AX1 l1.length cX1] 28 (0, 0))) := ⟨blk_below (by (first | exact heap_alloc_new _ _ | (refine blk_alloc ?_ _; exact heap_alloc_new _ _) | ((with_reducible repeat (first | refine blk_drewN ?_ _ | refine blk_drew ?_ | refine blk_alloc ?_ _)); exact Kx1.out))) hb_⟩
  have Zw17 : Aside0 (w16.heap.size + 0 ≤ w17.heap.size) := ⟨by have h_ := hb_.size; (try simp at h_); omega⟩
  have nB_ := Aside0.mk (below_step (by repeat (first | exact HB.out | apply below_alloc | apply pw_below_drewN | apply below_drew1)) hb_)
  clear HB HW0l HX1 HG0l HV0l Kp1 Kx1 hb_
  have HB := nB_
  clear nB_
  have HW0l := nW0l
  clear nW0l
  have HX1 := nX1
  clear nX1
  have HG0l := nG0l
  clear nG0l
  have HV0l := nV0l
  clear nV0l
  have Kp1 := np1
  clear np1
  have Kx1 := nx1
  clear nx1
  try rw [LG0lw12.out]
  try clear qp1_0 qp1_1 qx1_0 qx1_1
  have zp1_ := blk_lt Kp1.out
  have qp1_0 := (blk_cell Kp1.out 0).trans rfl
  have qp1_1 := (blk_cell Kp1.out 1).trans rfl
  have zx1_ := blk_lt Kx1.out
  have qx1_0 := (blk_cell Kx1.out 0).trans rfl
  have qx1_1 := (blk_cell Kx1.out 1).trans rfl
  go_wp2
  go_ret
  exact ⟨by first | rfl | (simp; done) | (simp [*]; done), HB.out⟩

def laws_FnExactBartholdiReciprocal.Pure : Prop := ∀ (a0 : Int) (a1 : Int) (l1 : List (List Int)) (a2 : Int), (Lit.int .i64 a0).wf = true → (Lit.int .i64 a1).wf = true → l1.length ≤ maxLen → (∀ x ∈ l1, x.length ≤ maxLen ∧ ∀ n ∈ x, (Lit.int .i64 n).wf = true) → (Lit.int .i64 a2).wf = true → (∃ (k : Nat) (z1 : Int), z1 < 0 ∧ laws_szGraph.f k a1 l1 1048576 = some z1) ∨ (∃ (k : Nat) (z1 : Int) (r0l : List Int) (r1a : Int) (m1 : Int) (y1 : List (List Int)) (n0l : Int) (x0l : List Int), 0 ≤ z1 ∧ 0 ≤ m1 ∧ 0 ≤ n0l ∧ laws_toGraph.f k a1 l1 = some (a1, l1) ∧ laws_eqGraph.f k a1 l1 a1 l1 = some true ∧ laws_szGraph.f k a1 l1 1048576 = some z1 ∧ spec_BartholdiReciprocal.f k a0 a1 l1 a2 = some (r0l, r1a) ∧ impl_BartholdiReciprocal.f k a0 a1 l1 a2 = some (r0l, r1a) ∧ laws_eqInt64S.f k r0l r0l = some true ∧ laws_markInt64SS.f k l1 1 = some (m1, y1) ∧ laws_markInt64S.f k r0l 1 = some (n0l, x0l) ∧ laws_heldInt64S.f k x0l 1 = some n0l)
theorem laws_FnExactBartholdiReciprocal.calls (P : laws_FnExactBartholdiReciprocal.Pure) (a0 : Int) (a1 : Int) (A1 : Option Addr) (c1 : Nat) (l1 : List (List Int)) (a2 : Int) (w : World)  (hr1 : Kd.C (Kd.slice 2 (Kd.int .i64)) w A1 l1.length l1) (hc1 : l1.length ≤ c1)  (w0 : (Lit.int .i64 a0).wf = true) (w1_0 : (Lit.int .i64 a1).wf = true) (hm1_1 : l1.length ≤ maxLen) (w1_1 : (∀ x ∈ l1, x.length ≤ maxLen ∧ ∀ n ∈ x, (Lit.int .i64 n).wf = true)) (w2 : (Lit.int .i64 a2).wf = true) :
    Calls Try.prog 4 #[.int .i64 a0, .agg #[.int .i64 a1, .slice A1 l1.length c1], .int .i64 a2] w fun e w' => e = .returned (.bool true) ∧ Below w.heap.size w w' := by
  rcases P a0 a1 l1 a2 w0 w1_0 hm1_1 w1_1 w2  with ⟨k, z1, hz1, FZ1_⟩ | ⟨k, z1, r0l, r1a, m1, y1, n0l, x0l, hp0, hlm, hln, FG1, FQ1, FZ1, FS, FI, FE0, FM1, FN0l, FH0⟩
  · exact laws_FnExactBartholdiReciprocal.small_sz1 a0 a1 A1 c1 l1 a2 w hr1 hc1  k z1 hz1 FZ1_
  · exact laws_FnExactBartholdiReciprocal.big k a0 a1 A1 c1 l1 a2 w hr1 hc1 z1 hp0 r0l r1a m1 y1 n0l x0l hlm hln  FG1 FQ1 FZ1 FS FI FE0 FM1 FN0l FH0

end Go.Proofs.Ytjgdibhalmcigaa.B
