/- The walk of FnExactDoubleCover: where its callees answer as its pure statement says, it answers true. Condition: that statement. -/
import Derived.Test.YtpckiapngjcijaaBx
namespace Go.Proofs.Ytpckiapngjcijaa.B
open Go.RowKit Go.Proofs.YtpckiapngjcijaaW.PrintWords Go.Proofs.YtpckiapngjcijaaW.PrintLast Go.Proofs.YtpckiapngjcijaaW.PrintMore
set_option linter.unusedVariables false
set_option linter.unusedSimpArgs false
set_option maxHeartbeats 8000000 in
set_option maxRecDepth 100000 in
theorem laws_FnExactDoubleCover.small_len1 (a0 : Int) (A0 : Option Addr) (c0 : Nat) (l0 : List (List Int)) (A1 : Option Addr) (c1 : Nat) (l1 : List Int) (w : World) (hr0 : Kd.C (Kd.slice 2 (Kd.int .i64)) w A0 l0.length l0) (hc0 : l0.length ≤ c0) (hr1 : Kd.C (Kd.int .i64) w A1 l1.length l1) (hc1 : l1.length ≤ c1)  (hl1 : 1048576 < l1.length) :
    Calls Try.prog 6 #[.agg #[.int .i64 a0, .slice A0 l0.length c0], .slice A1 l1.length c1] w fun e w' => e = .returned (.bool true) ∧ Below w.heap.size w w' := by
  have HR0 := Aside0.mk hr0
  have HR1 := Aside0.mk hr1
  have HB := Aside0.mk (Below.refl w.heap.size w)
  clear hr0 hr1
  have hl1' : decide ((1048576 : Int) < (l1.length : Int)) = true := by simp; omega
  go_enter Try.func6, Try.ntmps6
  try clear qp0_0 qp0_1
  go_wp2
  go_ret
  exact ⟨by first | rfl | (simp; done) | (simp [*]; done), (by repeat (first | exact HB.out | apply below_alloc | apply pw_below_drewN | apply below_drew1))⟩

set_option maxHeartbeats 8000000 in
set_option maxRecDepth 100000 in
theorem laws_FnExactDoubleCover.small_sz0 (a0 : Int) (A0 : Option Addr) (c0 : Nat) (l0 : List (List Int)) (A1 : Option Addr) (c1 : Nat) (l1 : List Int) (w : World) (hr0 : Kd.C (Kd.slice 2 (Kd.int .i64)) w A0 l0.length l0) (hc0 : l0.length ≤ c0) (hr1 : Kd.C (Kd.int .i64) w A1 l1.length l1) (hc1 : l1.length ≤ c1) (hl1 : l1.length ≤ 1048576) (k : Nat) (z0 : Int) (hz0 : z0 < 0) (FZ0_ : laws_szGraph.f k a0 l0 1048576 = some z0) :
    Calls Try.prog 6 #[.agg #[.int .i64 a0, .slice A0 l0.length c0], .slice A1 l1.length c1] w fun e w' => e = .returned (.bool true) ∧ Below w.heap.size w w' := by
  have HR0 := Aside0.mk hr0
  have HR1 := Aside0.mk hr1
  have HB := Aside0.mk (Below.refl w.heap.size w)
  have FZ0 := Aside0.mk FZ0_
  clear FZ0_
  have bz0 : decide (z0 < 0) = true := by simp; omega
  clear hr0 hr1
  have hl1' : decide ((1048576 : Int) < (l1.length : Int)) = false := by simp; omega
  go_enter Try.func6, Try.ntmps6
  try clear qp0_0 qp0_1
  go_wp2_with fail
  refine (laws_szGraph.calls k a0 _ _ l0 1048576 z0 _ (Kd.C_below HR0.out (by repeat (first | exact HB.out | apply below_alloc | apply pw_below_drewN | apply below_drew1))) hc0 FZ0.out).mono ?_
  rintro e w1 ⟨rfl, hb_⟩
  have HB0_ := Aside0.mk (by repeat (first | exact HB.out | apply below_alloc | apply pw_below_drewN | apply below_drew1))
  clear HB0_
  have np0 : Aside0 (w1.heap[w.heap.size]? = some (.cells #[.int .i64 a0, .slice A0 l0.length c0] 24 (0, 0))) := ⟨blk_below (by (first | exact heap_alloc_new _ _ | (refine blk_alloc ?_ _; exact heap_alloc_new _ _) | ((with_reducible repeat (first | refine blk_drewN ?_ _ | refine blk_drew ?_ | refine blk_alloc ?_ _)); exact Kp0.out))) hb_⟩
  have Zw1 : Aside0 (w.heap.size + 1 ≤ w1.heap.size) := ⟨by have h_ := hb_.size; (try simp at h_); omega⟩
  have nB_ := Aside0.mk (below_step (by repeat (first | exact HB.out | apply below_alloc | apply pw_below_drewN | apply below_drew1)) hb_)
  clear HB hb_
  have HB := nB_
  clear nB_
  have Kp0 := np0
  clear np0
  try clear qp0_0 qp0_1
  have zp0_ := blk_lt Kp0.out
  have qp0_0 := (blk_cell Kp0.out 0).trans rfl
  have qp0_1 := (blk_cell Kp0.out 1).trans rfl
  go_wp2
  go_ret
  exact ⟨by first | rfl | (simp; done) | (simp [*]; done), (by repeat (first | exact HB.out | apply below_alloc | apply pw_below_drewN | apply below_drew1))⟩

set_option maxHeartbeats 8000000 in
set_option maxRecDepth 100000 in
theorem laws_FnExactDoubleCover.big (k : Nat) (a0 : Int) (A0 : Option Addr) (c0 : Nat) (l0 : List (List Int)) (A1 : Option Addr) (c1 : Nat) (l1 : List Int) (w : World) (hr0 : Kd.C (Kd.slice 2 (Kd.int .i64)) w A0 l0.length l0) (hc0 : l0.length ≤ c0) (hr1 : Kd.C (Kd.int .i64) w A1 l1.length l1) (hc1 : l1.length ≤ c1) (z0 : Int) (hz0 : 0 ≤ z0) (r0a : Int) (r0l : List (List Int)) (r0s : Int) (r0t : List (List Int)) (r1a : Int) (m0 : Int) (y0 : List (List Int)) (m1 : Int) (y1 : List Int) (n0l : Int) (x0l : List (List Int)) (n0t : Int) (x0t : List (List Int)) (hlm : 0 ≤ m1) (hln : 0 ≤ n0t) (hl1 : l1.length ≤ 1048576) (FG0_ : laws_toGraph.f k a0 l0 = some (a0, l0)) (FQ0_ : laws_eqGraph.f k a0 l0 a0 l0 = some true) (FG1_ : laws_toInt64S.f k l1 = some l1) (FQ1_ : laws_eqInt64S.f k l1 l1 = some true) (FZ0_ : laws_szGraph.f k a0 l0 1048576 = some z0) (FS_ : spec_DoubleCover.f k a0 l0 l1 = some (r0a, r0l, r0s, r0t, r1a)) (FI_ : impl_DoubleCover.f k a0 l0 l1 = some (r0a, r0l, r0s, r0t, r1a)) (FE0_ : laws_eqCover.f k r0a r0l r0s r0t r0a r0l r0s r0t = some true) (FM0_ : laws_markInt64SS.f k l0 1 = some (m0, y0)) (FM1_ : laws_markInt64S.f k l1 m0 = some (m1, y1)) (FN0l_ : laws_markInt64SS.f k r0l 1 = some (n0l, x0l)) (FN0t_ : laws_markInt64SS.f k r0t n0l = some (n0t, x0t)) (FH0_ : laws_heldCover.f k r0a x0l r0s x0t 1 = some n0t) :
    Calls Try.prog 6 #[.agg #[.int .i64 a0, .slice A0 l0.length c0], .slice A1 l1.length c1] w fun e w' => e = .returned (.bool true) ∧ Below w.heap.size w w' := by
  have HR0 := Aside0.mk hr0
  have HR1 := Aside0.mk hr1
  have HB := Aside0.mk (Below.refl w.heap.size w)
  have FG0 := Aside0.mk FG0_
  have FQ0 := Aside0.mk FQ0_
  have FG1 := Aside0.mk FG1_
  have FQ1 := Aside0.mk FQ1_
  have FZ0 := Aside0.mk FZ0_
  have FS := Aside0.mk FS_
  have FI := Aside0.mk FI_
  have FE0 := Aside0.mk FE0_
  have FM0 := Aside0.mk FM0_
  have FM1 := Aside0.mk FM1_
  have FN0l := Aside0.mk FN0l_
  have FN0t := Aside0.mk FN0t_
  have FH0 := Aside0.mk FH0_
  clear hr0 hr1 FG0_ FQ0_ FG1_ FQ1_ FZ0_ FS_ FI_ FE0_ FM0_ FM1_ FN0l_ FN0t_ FH0_
  have bz0 : decide (z0 < 0) = false := by simp; omega
  have bm_ : decide (m1 < 0) = false := by simp; omega
  have bn_ : decide (n0t < 0) = false := by simp; omega
  have hl1' : decide ((1048576 : Int) < (l1.length : Int)) = false := by simp; omega
  go_enter Try.func6, Try.ntmps6
  try clear qp0_0 qp0_1
  go_wp2_with fail
  refine (laws_szGraph.calls k a0 _ _ l0 1048576 z0 _ (Kd.C_below HR0.out (by repeat (first | exact HB.out | apply below_alloc | apply pw_below_drewN | apply below_drew1))) hc0 FZ0.out).mono ?_
  rintro e w1 ⟨rfl, hb_⟩
  have HB0_ := Aside0.mk (by repeat (first | exact HB.out | apply below_alloc | apply pw_below_drewN | apply below_drew1))
  clear HB0_
  have np0 : Aside0 (w1.heap[w.heap.size]? = some (.cells #[.int .i64 a0, .slice A0 l0.length c0] 24 (0, 0))) := ⟨blk_below (by (first | exact heap_alloc_new _ _ | (refine blk_alloc ?_ _; exact heap_alloc_new _ _) | ((with_reducible repeat (first | refine blk_drewN ?_ _ | refine blk_drew ?_ | refine blk_alloc ?_ _)); exact Kp0.out))) hb_⟩
  have Zw1 : Aside0 (w.heap.size + 1 ≤ w1.heap.size) := ⟨by have h_ := hb_.size; (try simp at h_); omega⟩
  have nB_ := Aside0.mk (below_step (by repeat (first | exact HB.out | apply below_alloc | apply pw_below_drewN | apply below_drew1)) hb_)
  clear HB hb_
  have HB := nB_
  clear nB_
  have Kp0 := np0
  clear np0
  try clear qp0_0 qp0_1
  have zp0_ := blk_lt Kp0.out
  have qp0_0 := (blk_cell Kp0.out 0).trans rfl
  have qp0_1 := (blk_cell Kp0.out 1).trans rfl
  go_wp2_with fail
  clear zp0_ qp0_0 qp0_1
  refine (laws_toGraph.calls k a0 _ _ l0 a0 l0 _ (Kd.C_below HR0.out (by repeat (first | exact HB.out | apply below_alloc | apply pw_below_drewN | apply below_drew1))) hc0 FG0.out).mono ?_
  rintro e w2 ⟨vt0, rfl, hst0_, hb_⟩
  have HB0_ := Aside0.mk (by repeat (first | exact HB.out | apply below_alloc | apply pw_below_drewN | apply below_drew1))
  have Ht0 : Aside0 (Kd.S (Kd.slice 2 (Kd.int .i64)) 43 w2 w.heap.size (fun k_ => w1.heap.size ≤ k_ ∧ k_ < w2.heap.size) _ l0) := ⟨Kd.S_mono (Kd.S_lower (Kd.S_bound hst0_) (by have h_ := HB0_.out.size; (try simp at h_); (try simp); omega)) (fun k_ hk_ => ⟨by have h_ := hk_.2.1; (try simp at h_); omega, hk_.2.2.1⟩)⟩
  clear HB0_ hst0_
  have np0 : Aside0 (w2.heap[w.heap.size]? = some (.cells #[.int .i64 a0, .slice A0 l0.length c0] 24 (0, 0))) := ⟨blk_below (by (first | exact heap_alloc_new _ _ | (refine blk_alloc ?_ _; exact heap_alloc_new _ _) | ((with_reducible repeat (first | refine blk_drewN ?_ _ | refine blk_drew ?_ | refine blk_alloc ?_ _)); exact Kp0.out))) hb_⟩
  have Zw2 : Aside0 (w1.heap.size + 0 ≤ w2.heap.size) := ⟨by have h_ := hb_.size; (try simp at h_); omega⟩
  have nB_ := Aside0.mk (below_step (by repeat (first | exact HB.out | apply below_alloc | apply pw_below_drewN | apply below_drew1)) hb_)
  clear HB Kp0 hb_
  have HB := nB_
  clear nB_
  have Kp0 := np0
  clear np0
  obtain ⟨At0, ct0, et0⟩ := Kd.S_slice Ht0.out
  subst et0
  try clear qp0_0 qp0_1
  have zp0_ := blk_lt Kp0.out
  have qp0_0 := (blk_cell Kp0.out 0).trans rfl
  have qp0_1 := (blk_cell Kp0.out 1).trans rfl
  go_wp2_with fail
  clear zp0_ qp0_0 qp0_1
  refine (laws_toInt64S.calls k _ _ l1 l1 _ (Kd.C_below HR1.out (by repeat (first | exact HB.out | apply below_alloc | apply pw_below_drewN | apply below_drew1))) hc1 FG1.out).mono ?_
  rintro e w3 ⟨vt1, rfl, hst1_, hb_⟩
  have HB0_ := Aside0.mk (by repeat (first | exact HB.out | apply below_alloc | apply pw_below_drewN | apply below_drew1))
  have Ht1 : Aside0 (Kd.R (Kd.int .i64) 2 w3 w.heap.size (fun k_ => w2.heap.size ≤ k_ ∧ k_ < w3.heap.size) _ l1) := ⟨Kd.R_mono (Kd.R_lower (Kd.R_bound hst1_) (by have h_ := HB0_.out.size; (try simp at h_); (try simp); omega)) (fun k_ hk_ => ⟨by have h_ := hk_.2.1; (try simp at h_); omega, hk_.2.2.1⟩)⟩
  clear HB0_ hst1_
  have nt0 := Aside0.mk (Kd.S_below (by (with_reducible repeat (first | apply Kd.S_alloc | apply Kd.S_drewN | apply Kd.S_drew)); exact Ht0.out) hb_)
  have np0 : Aside0 (w3.heap[w.heap.size]? = some (.cells #[.int .i64 a0, .slice A0 l0.length c0] 24 (0, 0))) := ⟨blk_below (by (first | exact heap_alloc_new _ _ | (refine blk_alloc ?_ _; exact heap_alloc_new _ _) | ((with_reducible repeat (first | refine blk_drewN ?_ _ | refine blk_drew ?_ | refine blk_alloc ?_ _)); exact Kp0.out))) hb_⟩
  have Zw3 : Aside0 (w2.heap.size + 0 ≤ w3.heap.size) := ⟨by have h_ := hb_.size; (try simp at h_); omega⟩
  have nB_ := Aside0.mk (below_step (by repeat (first | exact HB.out | apply below_alloc | apply pw_below_drewN | apply below_drew1)) hb_)
  clear HB Ht0 Kp0 hb_
  have HB := nB_
  clear nB_
  have Ht0 := nt0
  clear nt0
  have Kp0 := np0
  clear np0
  obtain ⟨At1, ct1, et1⟩ := Kd.R_slice Ht1.out
  subst et1
  try clear qp0_0 qp0_1
  have zp0_ := blk_lt Kp0.out
  have qp0_0 := (blk_cell Kp0.out 0).trans rfl
  have qp0_1 := (blk_cell Kp0.out 1).trans rfl
  go_wp2_with fail
  clear zp0_ qp0_0 qp0_1
  refine (spec_DoubleCover.calls k a0 _ _ l0 _ _ l1 r0a r0l r0s r0t r1a _ (Kd.S_reads' (by (with_reducible repeat (first | apply Kd.S_alloc | apply Kd.S_drewN | apply Kd.S_drew)); exact Ht0.out)).2.2 (Kd.S_reads' Ht0.out).2.1 (Kd.R_reads' (by (with_reducible repeat (first | apply Kd.R_alloc | apply Kd.R_drewN | apply Kd.R_drew)); exact Ht1.out)).2.2 (Kd.R_reads' Ht1.out).2.1 FS.out).mono ?_
  rintro e w4 ⟨vW0l, vW0t, rfl, hsW0l_, hsW0t_, hb_⟩
  have HB0_ := Aside0.mk (by repeat (first | exact HB.out | apply below_alloc | apply pw_below_drewN | apply below_drew1))
  have HW0l : Aside0 (Kd.S (Kd.slice 2 (Kd.int .i64)) 43 w4 w.heap.size (fun k_ => w3.heap.size ≤ k_ ∧ k_ < w4.heap.size) _ r0l) := ⟨Kd.S_mono (Kd.S_lower (Kd.S_bound hsW0l_) (by have h_ := HB0_.out.size; (try simp at h_); (try simp); omega)) (fun k_ hk_ => ⟨by have h_ := hk_.2.1; (try simp at h_); omega, hk_.2.2.1⟩)⟩
  have HW0t : Aside0 (Kd.S (Kd.slice 2 (Kd.int .i64)) 43 w4 w.heap.size (fun k_ => w3.heap.size ≤ k_ ∧ k_ < w4.heap.size) _ r0t) := ⟨Kd.S_mono (Kd.S_lower (Kd.S_bound hsW0t_) (by have h_ := HB0_.out.size; (try simp at h_); (try simp); omega)) (fun k_ hk_ => ⟨by have h_ := hk_.2.1; (try simp at h_); omega, hk_.2.2.1⟩)⟩
  clear HB0_ hsW0l_ hsW0t_
  clear Ht0
  clear Ht1
  have np0 : Aside0 (w4.heap[w.heap.size]? = some (.cells #[.int .i64 a0, .slice A0 l0.length c0] 24 (0, 0))) := ⟨blk_below (by (first | exact heap_alloc_new _ _ | (refine blk_alloc ?_ _; exact heap_alloc_new _ _) | ((with_reducible repeat (first | refine blk_drewN ?_ _ | refine blk_drew ?_ | refine blk_alloc ?_ _)); exact Kp0.out))) hb_⟩
  have Zw4 : Aside0 (w3.heap.size + 0 ≤ w4.heap.size) := ⟨by have h_ := hb_.size; (try simp at h_); omega⟩
  have nB_ := Aside0.mk (below_step (by repeat (first | exact HB.out | apply below_alloc | apply pw_below_drewN | apply below_drew1)) hb_)
  clear HB Kp0 hb_
  have HB := nB_
  clear nB_
  have Kp0 := np0
  clear np0
  obtain ⟨AW0l, cW0l, eW0l⟩ := Kd.S_slice HW0l.out
  subst eW0l
  obtain ⟨AW0t, cW0t, eW0t⟩ := Kd.S_slice HW0t.out
  subst eW0t
  try clear qp0_0 qp0_1 qw0__0 qw0__1 qw0__2 qw0__3
  have zp0_ := blk_lt Kp0.out
  have qp0_0 := (blk_cell Kp0.out 0).trans rfl
  have qp0_1 := (blk_cell Kp0.out 1).trans rfl
  go_wp2_with fail
  clear zp0_ qp0_0 qp0_1
  refine (laws_toGraph.calls k a0 _ _ l0 a0 l0 _ (Kd.C_below HR0.out (by repeat (first | exact HB.out | apply below_alloc | apply pw_below_drewN | apply below_drew1))) hc0 FG0.out).mono ?_
  rintro e w5 ⟨vX0, rfl, hsX0_, hb_⟩
  have HB0_ := Aside0.mk (by repeat (first | exact HB.out | apply below_alloc | apply pw_below_drewN | apply below_drew1))
  have HX0 : Aside0 (Kd.S (Kd.slice 2 (Kd.int .i64)) 43 w5 w.heap.size (fun k_ => w4.heap.size + 1 ≤ k_ ∧ k_ < w5.heap.size) _ l0) := ⟨Kd.S_mono (Kd.S_lower (Kd.S_bound hsX0_) (by have h_ := HB0_.out.size; (try simp at h_); (try simp); omega)) (fun k_ hk_ => ⟨by have h_ := hk_.2.1; (try simp at h_); omega, hk_.2.2.1⟩)⟩
  clear HB0_ hsX0_
  have nW0l := Aside0.mk (Kd.S_below (by (with_reducible repeat (first | apply Kd.S_alloc | apply Kd.S_drewN | apply Kd.S_drew)); exact HW0l.out) hb_)
  have nW0t := Aside0.mk (Kd.S_below (by (with_reducible repeat (first | apply Kd.S_alloc | apply Kd.S_drewN | apply Kd.S_drew)); exact HW0t.out) hb_)
  have np0 : Aside0 (w5.heap[w.heap.size]? = some (.cells #[.int .i64 a0, .slice A0 l0.length c0] 24 (0, 0))) := ⟨blk_below (by (first | exact heap_alloc_new _ _ | (refine blk_alloc ?_ _; exact heap_alloc_new _ _) | ((with_reducible repeat (first | refine blk_drewN ?_ _ | refine blk_drew ?_ | refine blk_alloc ?_ _)); exact Kp0.out))) hb_⟩
  have nw0_ : Aside0 (w5.heap[w4.heap.size]? = some (.cells #[.int .i64 r0a, .slice AW0l r0l.length cW0l, .int .i64 r0s, .slice AW0t r0t.length cW0t] 38 (0, 0))) := ⟨blk_below (by (first | exact heap_alloc_new _ _ | (refine blk_alloc ?_ _; exact heap_alloc_new _ _) | ((with_reducible repeat (first | refine blk_drewN ?_ _ | refine blk_drew ?_ | refine blk_alloc ?_ _)); exact Kw0_.out))) hb_⟩
  have Zw5 : Aside0 (w4.heap.size + 1 ≤ w5.heap.size) := ⟨by have h_ := hb_.size; (try simp at h_); omega⟩
  have nB_ := Aside0.mk (below_step (by repeat (first | exact HB.out | apply below_alloc | apply pw_below_drewN | apply below_drew1)) hb_)
  clear HB HW0l HW0t Kp0 hb_
  have HB := nB_
  clear nB_
  have HW0l := nW0l
  clear nW0l
  have HW0t := nW0t
  clear nW0t
  have Kp0 := np0
  clear np0
  have Kw0_ := nw0_
  clear nw0_
  obtain ⟨AX0, cX0, eX0⟩ := Kd.S_slice HX0.out
  subst eX0
  try clear qp0_0 qp0_1 qw0__0 qw0__1 qw0__2 qw0__3 qx0_0 qx0_1
  have zp0_ := blk_lt Kp0.out
  have qp0_0 := (blk_cell Kp0.out 0).trans rfl
  have qp0_1 := (blk_cell Kp0.out 1).trans rfl
  have zw0__ := blk_lt Kw0_.out
  have qw0__0 := (blk_cell Kw0_.out 0).trans rfl
  have qw0__1 := (blk_cell Kw0_.out 1).trans rfl
  have qw0__2 := (blk_cell Kw0_.out 2).trans rfl
  have qw0__3 := (blk_cell Kw0_.out 3).trans rfl
  go_wp2_with fail
  clear zp0_ qp0_0 qp0_1
  clear zw0__ qw0__0 qw0__1 qw0__2 qw0__3
  refine (laws_toInt64S.calls k _ _ l1 l1 _ (Kd.C_below HR1.out (by repeat (first | exact HB.out | apply below_alloc | apply pw_below_drewN | apply below_drew1))) hc1 FG1.out).mono ?_
  rintro e w6 ⟨vX1, rfl, hsX1_, hb_⟩
  have HB0_ := Aside0.mk (by repeat (first | exact HB.out | apply below_alloc | apply pw_below_drewN | apply below_drew1))
  have HX1 : Aside0 (Kd.R (Kd.int .i64) 2 w6 w.heap.size (fun k_ => w5.heap.size + 1 ≤ k_ ∧ k_ < w6.heap.size) _ l1) := ⟨Kd.R_mono (Kd.R_lower (Kd.R_bound hsX1_) (by have h_ := HB0_.out.size; (try simp at h_); (try simp); omega)) (fun k_ hk_ => ⟨by have h_ := hk_.2.1; (try simp at h_); omega, hk_.2.2.1⟩)⟩
  clear HB0_ hsX1_
  have nW0l := Aside0.mk (Kd.S_below (by (with_reducible repeat (first | apply Kd.S_alloc | apply Kd.S_drewN | apply Kd.S_drew)); exact HW0l.out) hb_)
  have nW0t := Aside0.mk (Kd.S_below (by (with_reducible repeat (first | apply Kd.S_alloc | apply Kd.S_drewN | apply Kd.S_drew)); exact HW0t.out) hb_)
  have nX0 := Aside0.mk (Kd.S_below (by (with_reducible repeat (first | apply Kd.S_alloc | apply Kd.S_drewN | apply Kd.S_drew)); exact HX0.out) hb_)
  have np0 : Aside0 (w6.heap[w.heap.size]? = some (.cells #[.int .i64 a0, .slice A0 l0.length c0] 24 (0, 0))) := ⟨blk_below (by (first | exact heap_alloc_new _ _ | (refine blk_alloc ?_ _; exact heap_alloc_new _ _) | ((with_reducible repeat (first | refine blk_drewN ?_ _ | refine blk_drew ?_ | refine blk_alloc ?_ _)); exact Kp0.out))) hb_⟩
  have nw0_ : Aside0 (w6.heap[w4.heap.size]? = some (.cells #[.int .i64 r0a, .slice AW0l r0l.length cW0l, .int .i64 r0s, .slice AW0t r0t.length cW0t] 38 (0, 0))) := ⟨blk_below (by (first | exact heap_alloc_new _ _ | (refine blk_alloc ?_ _; exact heap_alloc_new _ _) | ((with_reducible repeat (first | refine blk_drewN ?_ _ | refine blk_drew ?_ | refine blk_alloc ?_ _)); exact Kw0_.out))) hb_⟩
  have nx0 : Aside0 (w6.heap[w5.heap.size]? = some (.cells #[.int .i64 a0, .slice AX0 l0.length cX0] 26 (0, 0))) := ⟨blk_below (by (first | exact heap_alloc_new _ _ | (refine blk_alloc ?_ _; exact heap_alloc_new _ _) | ((with_reducible repeat (first | refine blk_drewN ?_ _ | refine blk_drew ?_ | refine blk_alloc ?_ _)); exact Kx0.out))) hb_⟩
  have Zw6 : Aside0 (w5.heap.size + 1 ≤ w6.heap.size) := ⟨by have h_ := hb_.size; (try simp at h_); omega⟩
  have nB_ := Aside0.mk (below_step (by repeat (first | exact HB.out | apply below_alloc | apply pw_below_drewN | apply below_drew1)) hb_)
  clear HB HW0l HW0t HX0 Kp0 Kw0_ hb_
  have HB := nB_
  clear nB_
  have HW0l := nW0l
  clear nW0l
  have HW0t := nW0t
  clear nW0t
  have HX0 := nX0
  clear nX0
  have Kp0 := np0
  clear np0
  have Kw0_ := nw0_
  clear nw0_
  have Kx0 := nx0
  clear nx0
  obtain ⟨AX1, cX1, eX1⟩ := Kd.R_slice HX1.out
  subst eX1
  try clear qp0_0 qp0_1 qw0__0 qw0__1 qw0__2 qw0__3 qx0_0 qx0_1
  have zp0_ := blk_lt Kp0.out
  have qp0_0 := (blk_cell Kp0.out 0).trans rfl
  have qp0_1 := (blk_cell Kp0.out 1).trans rfl
  have zw0__ := blk_lt Kw0_.out
  have qw0__0 := (blk_cell Kw0_.out 0).trans rfl
  have qw0__1 := (blk_cell Kw0_.out 1).trans rfl
  have qw0__2 := (blk_cell Kw0_.out 2).trans rfl
  have qw0__3 := (blk_cell Kw0_.out 3).trans rfl
  have zx0_ := blk_lt Kx0.out
  have qx0_0 := (blk_cell Kx0.out 0).trans rfl
  have qx0_1 := (blk_cell Kx0.out 1).trans rfl
  go_wp2_with fail
  clear zp0_ qp0_0 qp0_1
  clear zw0__ qw0__0 qw0__1 qw0__2 qw0__3
  clear zx0_ qx0_0 qx0_1
  refine (impl_DoubleCover.split k a0 _ _ l0 _ _ l1 r0a r0l r0s r0t r1a _ (Kd.S_reads' (by (with_reducible repeat (first | apply Kd.S_alloc | apply Kd.S_drewN | apply Kd.S_drew)); exact HX0.out)).2.2 (Kd.S_reads' HX0.out).2.1 (Kd.R_reads' (by (with_reducible repeat (first | apply Kd.R_alloc | apply Kd.R_drewN | apply Kd.R_drew)); exact HX1.out)).2.2 (Kd.R_reads' HX1.out).2.1 FI.out).mono ?_
  rintro e w7 ⟨vG0l, vG0t, mG_, rfl, hsG0l_, hsG0t_, hb_⟩
  have HB0_ := Aside0.mk (by repeat (first | exact HB.out | apply below_alloc | apply pw_below_drewN | apply below_drew1))
  obtain ⟨qw7, hq1_, hq2_, hq3_, hq4_⟩ := mid (w6.heap.size) mG_ w7.heap.size (by have h_ := hb_.size; (try simp at h_); (try simp); omega)
  have Zqw7 : Aside0 ((w6.heap.size ≤ qw7) ∧ (qw7 ≤ w7.heap.size)) := ⟨⟨hq1_, hq2_⟩⟩
  have HG0l : Aside0 (Kd.S (Kd.slice 2 (Kd.int .i64)) 43 w7 w.heap.size (fun k_ => w6.heap.size ≤ k_ ∧ k_ < qw7) _ r0l) := ⟨Kd.S_mono (Kd.S_lower (Kd.S_bound hsG0l_) (by have h_ := HB0_.out.size; (try simp at h_); (try simp); omega)) (fun k_ hk_ => ⟨(by have h_ := hk_.2.1; (try simp at h_); omega), hq3_ k_ hk_.1 (by have h_ := hk_.2.1; (try simp at h_); omega) hk_.2.2.1⟩)⟩
  have HG0t : Aside0 (Kd.S (Kd.slice 2 (Kd.int .i64)) 43 w7 w.heap.size (fun k_ => qw7 ≤ k_ ∧ k_ < w7.heap.size) _ r0t) := ⟨Kd.S_mono (Kd.S_lower (Kd.S_bound hsG0t_) (by have h_ := HB0_.out.size; (try simp at h_); (try simp); omega)) (fun k_ hk_ => ⟨hq4_ k_ hk_.1 (by have h_ := hk_.2.1; (try simp at h_); omega) hk_.2.2.1, hk_.2.2.1⟩)⟩
  clear HB0_ hsG0l_ hsG0t_ hq1_ hq2_ hq3_ hq4_
  have nW0l := Aside0.mk (Kd.S_below (by (with_reducible repeat (first | apply Kd.S_alloc | apply Kd.S_drewN | apply Kd.S_drew)); exact HW0l.out) hb_)
  have nW0t := Aside0.mk (Kd.S_below (by (with_reducible repeat (first | apply Kd.S_alloc | apply Kd.S_drewN | apply Kd.S_drew)); exact HW0t.out) hb_)
  have nX0 := Aside0.mk (Kd.S_below (by (with_reducible repeat (first | apply Kd.S_alloc | apply Kd.S_drewN | apply Kd.S_drew)); exact HX0.out) hb_)
  have nX1 := Aside0.mk (Kd.R_below (by (with_reducible repeat (first | apply Kd.R_alloc | apply Kd.R_drewN | apply Kd.R_drew)); exact HX1.out) hb_)
  have np0 : Aside0 (w7.heap[w.heap.size]? = some (.cells #[.int .i64 a0, .slice A0 l0.length c0] 24 (0, 0))) := ⟨blk_below (by (first | exact heap_alloc_new _ _ | (refine blk_alloc ?_ _; exact heap_alloc_new _ _) | ((with_reducible repeat (first | refine blk_drewN ?_ _ | refine blk_drew ?_ | refine blk_alloc ?_ _)); exact Kp0.out))) hb_⟩
  have nw0_ : Aside0 (w7.heap[w4.heap.size]? = some (.cells #[.int .i64 r0a, .slice AW0l r0l.length cW0l, .int .i64 r0s, .slice AW0t r0t.length cW0t] 38 (0, 0))) := ⟨blk_below (by (first | exact heap_alloc_new _ _ | (refine blk_alloc ?_ _; exact heap_alloc_new _ _) | ((with_reducible repeat (first | refine blk_drewN ?_ _ | refine blk_drew ?_ | refine blk_alloc ?_ _)); exact Kw0_.out))) hb_⟩
  have nx0 : Aside0 (w7.heap[w5.heap.size]? = some (.cells #[.int .i64 a0, .slice AX0 l0.length cX0] 26 (0, 0))) := ⟨blk_below (by (first | exact heap_alloc_new _ _ | (refine blk_alloc ?_ _; exact heap_alloc_new _ _) | ((with_reducible repeat (first | refine blk_drewN ?_ _ | refine blk_drew ?_ | refine blk_alloc ?_ _)); exact Kx0.out))) hb_⟩
  have Zw7 : Aside0 (w6.heap.size + 0 ≤ w7.heap.size) := ⟨by have h_ := hb_.size; (try simp at h_); omega⟩
  have nB_ := Aside0.mk (below_step (by repeat (first | exact HB.out | apply below_alloc | apply pw_below_drewN | apply below_drew1)) hb_)
  clear HB HW0l HW0t HX0 HX1 Kp0 Kw0_ Kx0 hb_
  have HB := nB_
  clear nB_
  have HW0l := nW0l
  clear nW0l
  have HW0t := nW0t
  clear nW0t
  have HX0 := nX0
  clear nX0
  have HX1 := nX1
  clear nX1
  have Kp0 := np0
  clear np0
  have Kw0_ := nw0_
  clear nw0_
  have Kx0 := nx0
  clear nx0
  obtain ⟨AG0l, cG0l, eG0l⟩ := Kd.S_slice HG0l.out
  subst eG0l
  obtain ⟨AG0t, cG0t, eG0t⟩ := Kd.S_slice HG0t.out
  subst eG0t
  try clear qp0_0 qp0_1 qw0__0 qw0__1 qw0__2 qw0__3 qx0_0 qx0_1 qg0__0 qg0__1 qg0__2 qg0__3
  have zp0_ := blk_lt Kp0.out
  have qp0_0 := (blk_cell Kp0.out 0).trans rfl
  have qp0_1 := (blk_cell Kp0.out 1).trans rfl
  have zw0__ := blk_lt Kw0_.out
  have qw0__0 := (blk_cell Kw0_.out 0).trans rfl
  have qw0__1 := (blk_cell Kw0_.out 1).trans rfl
  have qw0__2 := (blk_cell Kw0_.out 2).trans rfl
  have qw0__3 := (blk_cell Kw0_.out 3).trans rfl
  have zx0_ := blk_lt Kx0.out
  have qx0_0 := (blk_cell Kx0.out 0).trans rfl
  have qx0_1 := (blk_cell Kx0.out 1).trans rfl
  go_wp2_with fail
  clear zp0_ qp0_0 qp0_1
  clear zw0__ qw0__0 qw0__1 qw0__2 qw0__3
  clear zx0_ qx0_0 qx0_1
  refine (laws_eqCover.calls k r0a _ _ r0l r0s _ _ r0t r0a _ _ r0l r0s _ _ r0t true _ (Kd.S_reads' (by (with_reducible repeat (first | apply Kd.S_alloc | apply Kd.S_drewN | apply Kd.S_drew)); exact HG0l.out)).2.2 (Kd.S_reads' HG0l.out).2.1 (Kd.S_reads' (by (with_reducible repeat (first | apply Kd.S_alloc | apply Kd.S_drewN | apply Kd.S_drew)); exact HG0t.out)).2.2 (Kd.S_reads' HG0t.out).2.1 (Kd.S_reads' (by (with_reducible repeat (first | apply Kd.S_alloc | apply Kd.S_drewN | apply Kd.S_drew)); exact HW0l.out)).2.2 (Kd.S_reads' HW0l.out).2.1 (Kd.S_reads' (by (with_reducible repeat (first | apply Kd.S_alloc | apply Kd.S_drewN | apply Kd.S_drew)); exact HW0t.out)).2.2 (Kd.S_reads' HW0t.out).2.1 FE0.out).mono ?_
  rintro e w8 ⟨rfl, hb_⟩
  have HB0_ := Aside0.mk (by repeat (first | exact HB.out | apply below_alloc | apply pw_below_drewN | apply below_drew1))
  clear HB0_
  have nW0l := Aside0.mk (Kd.S_below (by (with_reducible repeat (first | apply Kd.S_alloc | apply Kd.S_drewN | apply Kd.S_drew)); exact HW0l.out) hb_)
  have nW0t := Aside0.mk (Kd.S_below (by (with_reducible repeat (first | apply Kd.S_alloc | apply Kd.S_drewN | apply Kd.S_drew)); exact HW0t.out) hb_)
  have nX0 := Aside0.mk (Kd.S_below (by (with_reducible repeat (first | apply Kd.S_alloc | apply Kd.S_drewN | apply Kd.S_drew)); exact HX0.out) hb_)
  have nX1 := Aside0.mk (Kd.R_below (by (with_reducible repeat (first | apply Kd.R_alloc | apply Kd.R_drewN | apply Kd.R_drew)); exact HX1.out) hb_)
  have nG0l := Aside0.mk (Kd.S_below (by (with_reducible repeat (first | apply Kd.S_alloc | apply Kd.S_drewN | apply Kd.S_drew)); exact HG0l.out) hb_)
  have nG0t := Aside0.mk (Kd.S_below (by (with_reducible repeat (first | apply Kd.S_alloc | apply Kd.S_drewN | apply Kd.S_drew)); exact HG0t.out) hb_)
  have np0 : Aside0 (w8.heap[w.heap.size]? = some (.cells #[.int .i64 a0, .slice A0 l0.length c0] 24 (0, 0))) := ⟨blk_below (by (first | exact heap_alloc_new _ _ | (refine blk_alloc ?_ _; exact heap_alloc_new _ _) | ((with_reducible repeat (first | refine blk_drewN ?_ _ | refine blk_drew ?_ | refine blk_alloc ?_ _)); exact Kp0.out))) hb_⟩
  have nw0_ : Aside0 (w8.heap[w4.heap.size]? = some (.cells #[.int .i64 r0a, .slice AW0l r0l.length cW0l, .int .i64 r0s, .slice AW0t r0t.length cW0t] 38 (0, 0))) := ⟨blk_below (by (first | exact heap_alloc_new _ _ | (refine blk_alloc ?_ _; exact heap_alloc_new _ _) | ((with_reducible repeat (first | refine blk_drewN ?_ _ | refine blk_drew ?_ | refine blk_alloc ?_ _)); exact Kw0_.out))) hb_⟩
  have nx0 : Aside0 (w8.heap[w5.heap.size]? = some (.cells #[.int .i64 a0, .slice AX0 l0.length cX0] 26 (0, 0))) := ⟨blk_below (by (first | exact heap_alloc_new _ _ | (refine blk_alloc ?_ _; exact heap_alloc_new _ _) | ((with_reducible repeat (first | refine blk_drewN ?_ _ | refine blk_drew ?_ | refine blk_alloc ?_ _)); exact Kx0.out))) hb_⟩
  have ng0_ : Aside0 (w8.heap[w7.heap.size]? = some (.cells #[.int .i64 r0a, .slice AG0l r0l.length cG0l, .int .i64 r0s, .slice AG0t r0t.length cG0t] 38 (0, 0))) := ⟨blk_below (by (first | exact heap_alloc_new _ _ | (refine blk_alloc ?_ _; exact heap_alloc_new _ _) | ((with_reducible repeat (first | refine blk_drewN ?_ _ | refine blk_drew ?_ | refine blk_alloc ?_ _)); exact Kg0_.out))) hb_⟩
  have Zw8 : Aside0 (w7.heap.size + 1 ≤ w8.heap.size) := ⟨by have h_ := hb_.size; (try simp at h_); omega⟩
  have nB_ := Aside0.mk (below_step (by repeat (first | exact HB.out | apply below_alloc | apply pw_below_drewN | apply below_drew1)) hb_)
  clear HB HW0l HW0t HX0 HX1 HG0l HG0t Kp0 Kw0_ Kx0 hb_
  have HB := nB_
  clear nB_
  have HW0l := nW0l
  clear nW0l
  have HW0t := nW0t
  clear nW0t
  have HX0 := nX0
  clear nX0
  have HX1 := nX1
  clear nX1
  have HG0l := nG0l
  clear nG0l
  have HG0t := nG0t
  clear nG0t
  have Kp0 := np0
  clear np0
  have Kw0_ := nw0_
  clear nw0_
  have Kx0 := nx0
  clear nx0
  have Kg0_ := ng0_
  clear ng0_
  try clear qp0_0 qp0_1 qw0__0 qw0__1 qw0__2 qw0__3 qx0_0 qx0_1 qg0__0 qg0__1 qg0__2 qg0__3
  have zp0_ := blk_lt Kp0.out
  have qp0_0 := (blk_cell Kp0.out 0).trans rfl
  have qp0_1 := (blk_cell Kp0.out 1).trans rfl
  have zw0__ := blk_lt Kw0_.out
  have qw0__0 := (blk_cell Kw0_.out 0).trans rfl
  have qw0__1 := (blk_cell Kw0_.out 1).trans rfl
  have qw0__2 := (blk_cell Kw0_.out 2).trans rfl
  have qw0__3 := (blk_cell Kw0_.out 3).trans rfl
  have zx0_ := blk_lt Kx0.out
  have qx0_0 := (blk_cell Kx0.out 0).trans rfl
  have qx0_1 := (blk_cell Kx0.out 1).trans rfl
  have zg0__ := blk_lt Kg0_.out
  have qg0__0 := (blk_cell Kg0_.out 0).trans rfl
  have qg0__1 := (blk_cell Kg0_.out 1).trans rfl
  have qg0__2 := (blk_cell Kg0_.out 2).trans rfl
  have qg0__3 := (blk_cell Kg0_.out 3).trans rfl
  go_wp2_with fail
  clear zp0_ qp0_0 qp0_1
  clear zw0__ qw0__0 qw0__1 qw0__2 qw0__3
  clear zx0_ qx0_0 qx0_1
  clear zg0__ qg0__0 qg0__1 qg0__2 qg0__3
  have nW0l := Aside0.mk (Kd.S_drew HW0l.out)
  have nW0t := Aside0.mk (Kd.S_drew HW0t.out)
  have nX0 := Aside0.mk (Kd.S_drew HX0.out)
  have nX1 := Aside0.mk (Kd.R_drew HX1.out)
  have nG0l := Aside0.mk (Kd.S_drew HG0l.out)
  have nG0t := Aside0.mk (Kd.S_drew HG0t.out)
  have np0 := Aside0.mk (blk_drew Kp0.out)
  have nw0_ := Aside0.mk (blk_drew Kw0_.out)
  have nx0 := Aside0.mk (blk_drew Kx0.out)
  have ng0_ := Aside0.mk (blk_drew Kg0_.out)
  have nB_ := Aside0.mk (below_drew1 HB.out)
  have Zw9 : Aside0 (w8.heap.size + 0 ≤ (w8.drew).heap.size) := ⟨by simp⟩
  clear HB HW0l HW0t HX0 HX1 HG0l HG0t Kp0 Kw0_ Kx0 Kg0_
  have HB := nB_
  clear nB_
  have HW0l := nW0l
  clear nW0l
  have HW0t := nW0t
  clear nW0t
  have HX0 := nX0
  clear nX0
  have HX1 := nX1
  clear nX1
  have HG0l := nG0l
  clear nG0l
  have HG0t := nG0t
  clear nG0t
  have Kp0 := np0
  clear np0
  have Kw0_ := nw0_
  clear nw0_
  have Kx0 := nx0
  clear nx0
  have Kg0_ := ng0_
  clear ng0_
  refine start_ (n := 5) (S := fun w' => w'.cell? ⟨w5.heap.size, 0, none⟩ = some (.int .i64 a0) ∧ w'.cell? ⟨w5.heap.size, 1, none⟩ = some (.slice AX0 l0.length cX0) ∧ w'.cell? ⟨w.heap.size, 0, none⟩ = some (.int .i64 a0) ∧ w'.cell? ⟨w.heap.size, 1, none⟩ = some (.slice A0 l0.length c0)) (ds := []) #[false, false, false, false, false] (by kernel_rfl) rfl rfl ⟨(blk_cell Kx0.out 0).trans rfl, (blk_cell Kx0.out 1).trans rfl, (blk_cell Kp0.out 0).trans rfl, (blk_cell Kp0.out 1).trans rfl⟩ (fun hHeld => ?_)
  generalize w8.drew = w9 at HB Zw9 hHeld HW0l HW0t HX0 HX1 HG0l HG0t Kp0 Kw0_ Kx0 Kg0_ ⊢
  refine take_ (i := 0) (N := some 52) (v := ?_) (a' := ?_) #[true, false, false, false, false] rfl rfl (by kernel_rfl) (fun _ _ _ h => h) (Or.inl ⟨by rfl, ?_⟩) hHeld ?_ ?_
  rotate_left
  · rintro w' ⟨s0_, s1_, s2_, s3_⟩
    go_simp
    with_reducible rfl
  rotate_left
  · simp only [Act.put, List.setIfInBounds_toArray, List.set_cons_zero, List.set_cons_succ, i64_w, i32_w]
    rfl
  refine take_ (i := 1) (N := some 53) (v := ?_) (a' := ?_) #[true, true, false, false, false] rfl rfl (by kernel_rfl) (fun _ _ _ h => h) (Or.inl ⟨by rfl, ?_⟩) hHeld ?_ ?_
  rotate_left
  · rintro w' ⟨s0_, s1_, s2_, s3_⟩
    go_simp
    with_reducible rfl
  rotate_left
  · simp only [Act.put, List.setIfInBounds_toArray, List.set_cons_zero, List.set_cons_succ, i64_w, i32_w]
    rfl
  refine one_ (i := 2) (N := some 54) #[true, true, true, false, false] rfl rfl (by kernel_rfl) (by decide) (fun K hK => ?_)
  refine goes_ Try.func17 (by kernel_rfl) rfl #[.agg #[.int .i64 a0, .slice A0 l0.length c0]] (by rfl) rfl rfl (by (try simp only [List.map_toArray, List.map_cons, List.map_nil]); first | done | rfl) ?_
  refine (laws_toGraph.calls k a0 _ _ l0 a0 l0 _ (Kd.C_below HR0.out (by repeat (first | exact HB.out | apply below_alloc | apply pw_below_drewN | apply below_drew1))) hc0 FG0.out).mono ?_
  rintro e w10 ⟨ve0, rfl, hse0_, hb_⟩
  refine ⟨_, rfl, ?_⟩
  have HB0_ := Aside0.mk (by repeat (first | exact HB.out | apply below_alloc | apply pw_below_drewN | apply below_drew1))
  have He0 : Aside0 (Kd.S (Kd.slice 2 (Kd.int .i64)) 43 w10 w.heap.size (fun k_ => w9.heap.size ≤ k_ ∧ k_ < w10.heap.size) _ l0) := ⟨Kd.S_mono (Kd.S_lower (Kd.S_bound hse0_) (by have h_ := HB0_.out.size; (try simp at h_); (try simp); omega)) (fun k_ hk_ => ⟨by have h_ := hk_.2.1; (try simp at h_); omega, hk_.2.2.1⟩)⟩
  clear HB0_ hse0_
  have nW0l := Aside0.mk (Kd.S_below (by (with_reducible repeat (first | apply Kd.S_alloc | apply Kd.S_drewN | apply Kd.S_drew)); exact HW0l.out) hb_)
  have nW0t := Aside0.mk (Kd.S_below (by (with_reducible repeat (first | apply Kd.S_alloc | apply Kd.S_drewN | apply Kd.S_drew)); exact HW0t.out) hb_)
  have nX0 := Aside0.mk (Kd.S_below (by (with_reducible repeat (first | apply Kd.S_alloc | apply Kd.S_drewN | apply Kd.S_drew)); exact HX0.out) hb_)
  have nX1 := Aside0.mk (Kd.R_below (by (with_reducible repeat (first | apply Kd.R_alloc | apply Kd.R_drewN | apply Kd.R_drew)); exact HX1.out) hb_)
  have nG0l := Aside0.mk (Kd.S_below (by (with_reducible repeat (first | apply Kd.S_alloc | apply Kd.S_drewN | apply Kd.S_drew)); exact HG0l.out) hb_)
  have nG0t := Aside0.mk (Kd.S_below (by (with_reducible repeat (first | apply Kd.S_alloc | apply Kd.S_drewN | apply Kd.S_drew)); exact HG0t.out) hb_)
  have np0 : Aside0 (w10.heap[w.heap.size]? = some (.cells #[.int .i64 a0, .slice A0 l0.length c0] 24 (0, 0))) := ⟨blk_below (by (first | exact heap_alloc_new _ _ | (refine blk_alloc ?_ _; exact heap_alloc_new _ _) | ((with_reducible repeat (first | refine blk_drewN ?_ _ | refine blk_drew ?_ | refine blk_alloc ?_ _)); exact Kp0.out))) hb_⟩
  have nw0_ : Aside0 (w10.heap[w4.heap.size]? = some (.cells #[.int .i64 r0a, .slice AW0l r0l.length cW0l, .int .i64 r0s, .slice AW0t r0t.length cW0t] 38 (0, 0))) := ⟨blk_below (by (first | exact heap_alloc_new _ _ | (refine blk_alloc ?_ _; exact heap_alloc_new _ _) | ((with_reducible repeat (first | refine blk_drewN ?_ _ | refine blk_drew ?_ | refine blk_alloc ?_ _)); exact Kw0_.out))) hb_⟩
  have nx0 : Aside0 (w10.heap[w5.heap.size]? = some (.cells #[.int .i64 a0, .slice AX0 l0.length cX0] 26 (0, 0))) := ⟨blk_below (by (first | exact heap_alloc_new _ _ | (refine blk_alloc ?_ _; exact heap_alloc_new _ _) | ((with_reducible repeat (first | refine blk_drewN ?_ _ | refine blk_drew ?_ | refine blk_alloc ?_ _)); exact Kx0.out))) hb_⟩
  have ng0_ : Aside0 (w10.heap[w7.heap.size]? = some (.cells #[.int .i64 r0a, .slice AG0l r0l.length cG0l, .int .i64 r0s, .slice AG0t r0t.length cG0t] 38 (0, 0))) := ⟨blk_below (by (first | exact heap_alloc_new _ _ | (refine blk_alloc ?_ _; exact heap_alloc_new _ _) | ((with_reducible repeat (first | refine blk_drewN ?_ _ | refine blk_drew ?_ | refine blk_alloc ?_ _)); exact Kg0_.out))) hb_⟩
  have Zw10 : Aside0 (w9.heap.size + 0 ≤ w10.heap.size) := ⟨by have h_ := hb_.size; (try simp at h_); omega⟩
  have nB_ := Aside0.mk (below_step (by repeat (first | exact HB.out | apply below_alloc | apply pw_below_drewN | apply below_drew1)) hb_)
  clear HB HW0l HW0t HX0 HX1 HG0l HG0t Kp0 Kw0_ Kx0 Kg0_ hb_
  have HB := nB_
  clear nB_
  have HW0l := nW0l
  clear nW0l
  have HW0t := nW0t
  clear nW0t
  have HX0 := nX0
  clear nX0
  have HX1 := nX1
  clear nX1
  have HG0l := nG0l
  clear nG0l
  have HG0t := nG0t
  clear nG0t
  have Kp0 := np0
  clear np0
  have Kw0_ := nw0_
  clear nw0_
  have Kx0 := nx0
  clear nx0
  have Kg0_ := ng0_
  clear ng0_
  obtain ⟨Ae0, ce0, ee0⟩ := Kd.S_slice He0.out
  subst ee0
  refine hK.out _ _ ⟨(blk_cell Kx0.out 0).trans rfl, (blk_cell Kx0.out 1).trans rfl, (blk_cell Kp0.out 0).trans rfl, (blk_cell Kp0.out 1).trans rfl⟩ (fun hHeld => ?_)
  clear hK K
  refine norm_ (a' := ?_) ?_ ?_
  rotate_left
  · show Act.put _ (some 54) _ = _
    simp only [Act.put, List.setIfInBounds_toArray, List.set_cons_zero, List.set_cons_succ, i64_w, i32_w]
    rfl
  refine one_ (i := 3) (N := some 55) #[true, true, true, true, false] rfl rfl (by kernel_rfl) (by decide) (fun K hK => ?_)
  refine goes_ Try.func19 (by kernel_rfl) rfl #[.agg #[.int .i64 a0, .slice AX0 l0.length cX0], .agg #[.int .i64 a0, .slice Ae0 l0.length ce0]] (by rfl) rfl rfl (by (try simp only [List.map_toArray, List.map_cons, List.map_nil]); first | done | rfl) ?_
  refine (laws_eqGraph.calls k a0 _ _ l0 a0 _ _ l0 true _ (Kd.S_reads' (by (with_reducible repeat (first | apply Kd.S_alloc | apply Kd.S_drewN | apply Kd.S_drew)); exact HX0.out)).2.2 (Kd.S_reads' HX0.out).2.1 (Kd.S_reads' (by (with_reducible repeat (first | apply Kd.S_alloc | apply Kd.S_drewN | apply Kd.S_drew)); exact He0.out)).2.2 (Kd.S_reads' He0.out).2.1 FQ0.out).mono ?_
  rintro e w11 ⟨rfl, hb_⟩
  refine ⟨_, rfl, ?_⟩
  have HB0_ := Aside0.mk (by repeat (first | exact HB.out | apply below_alloc | apply pw_below_drewN | apply below_drew1))
  clear HB0_
  clear He0
  have nW0l := Aside0.mk (Kd.S_below (by (with_reducible repeat (first | apply Kd.S_alloc | apply Kd.S_drewN | apply Kd.S_drew)); exact HW0l.out) hb_)
  have nW0t := Aside0.mk (Kd.S_below (by (with_reducible repeat (first | apply Kd.S_alloc | apply Kd.S_drewN | apply Kd.S_drew)); exact HW0t.out) hb_)
  have nX0 := Aside0.mk (Kd.S_below (by (with_reducible repeat (first | apply Kd.S_alloc | apply Kd.S_drewN | apply Kd.S_drew)); exact HX0.out) hb_)
  have nX1 := Aside0.mk (Kd.R_below (by (with_reducible repeat (first | apply Kd.R_alloc | apply Kd.R_drewN | apply Kd.R_drew)); exact HX1.out) hb_)
  have nG0l := Aside0.mk (Kd.S_below (by (with_reducible repeat (first | apply Kd.S_alloc | apply Kd.S_drewN | apply Kd.S_drew)); exact HG0l.out) hb_)
  have nG0t := Aside0.mk (Kd.S_below (by (with_reducible repeat (first | apply Kd.S_alloc | apply Kd.S_drewN | apply Kd.S_drew)); exact HG0t.out) hb_)
  have np0 : Aside0 (w11.heap[w.heap.size]? = some (.cells #[.int .i64 a0, .slice A0 l0.length c0] 24 (0, 0))) := ⟨blk_below (by (first | exact heap_alloc_new _ _ | (refine blk_alloc ?_ _; exact heap_alloc_new _ _) | ((with_reducible repeat (first | refine blk_drewN ?_ _ | refine blk_drew ?_ | refine blk_alloc ?_ _)); exact Kp0.out))) hb_⟩
  have nw0_ : Aside0 (w11.heap[w4.heap.size]? = some (.cells #[.int .i64 r0a, .slice AW0l r0l.length cW0l, .int .i64 r0s, .slice AW0t r0t.length cW0t] 38 (0, 0))) := ⟨blk_below (by (first | exact heap_alloc_new _ _ | (refine blk_alloc ?_ _; exact heap_alloc_new _ _) | ((with_reducible repeat (first | refine blk_drewN ?_ _ | refine blk_drew ?_ | refine blk_alloc ?_ _)); exact Kw0_.out))) hb_⟩
  have nx0 : Aside0 (w11.heap[w5.heap.size]? = some (.cells #[.int .i64 a0, .slice AX0 l0.length cX0] 26 (0, 0))) := ⟨blk_below (by (first | exact heap_alloc_new _ _ | (refine blk_alloc ?_ _; exact heap_alloc_new _ _) | ((with_reducible repeat (first | refine blk_drewN ?_ _ | refine blk_drew ?_ | refine blk_alloc ?_ _)); exact Kx0.out))) hb_⟩
  have ng0_ : Aside0 (w11.heap[w7.heap.size]? = some (.cells #[.int .i64 r0a, .slice AG0l r0l.length cG0l, .int .i64 r0s, .slice AG0t r0t.length cG0t] 38 (0, 0))) := ⟨blk_below (by (first | exact heap_alloc_new _ _ | (refine blk_alloc ?_ _; exact heap_alloc_new _ _) | ((with_reducible repeat (first | refine blk_drewN ?_ _ | refine blk_drew ?_ | refine blk_alloc ?_ _)); exact Kg0_.out))) hb_⟩
  have Zw11 : Aside0 (w10.heap.size + 0 ≤ w11.heap.size) := ⟨by have h_ := hb_.size; (try simp at h_); omega⟩
  have nB_ := Aside0.mk (below_step (by repeat (first | exact HB.out | apply below_alloc | apply pw_below_drewN | apply below_drew1)) hb_)
  clear HB HW0l HW0t HX0 HX1 HG0l HG0t Kp0 Kw0_ Kx0 Kg0_ hb_
  have HB := nB_
  clear nB_
  have HW0l := nW0l
  clear nW0l
  have HW0t := nW0t
  clear nW0t
  have HX0 := nX0
  clear nX0
  have HX1 := nX1
  clear nX1
  have HG0l := nG0l
  clear nG0l
  have HG0t := nG0t
  clear nG0t
  have Kp0 := np0
  clear np0
  have Kw0_ := nw0_
  clear nw0_
  have Kx0 := nx0
  clear nx0
  have Kg0_ := ng0_
  clear ng0_
  refine hK.out _ _ ⟨(blk_cell Kx0.out 0).trans rfl, (blk_cell Kx0.out 1).trans rfl, (blk_cell Kp0.out 0).trans rfl, (blk_cell Kp0.out 1).trans rfl⟩ (fun hHeld => ?_)
  clear hK K
  refine norm_ (a' := ?_) ?_ ?_
  rotate_left
  · show Act.put _ (some 55) _ = _
    simp only [Act.put, List.setIfInBounds_toArray, List.set_cons_zero, List.set_cons_succ, i64_w, i32_w]
    rfl
  refine pure_ (i := 4) (N := some 56) (v := ?_) (a' := ?_) #[true, true, true, true, true] rfl rfl (by kernel_rfl) (fun _ _ _ h => h) (Or.inl ⟨by rfl, ?_⟩) ?_ ?_
  rotate_left
  · intro w'
    go_simp
    with_reducible rfl
  rotate_left
  · simp only [Act.put, List.setIfInBounds_toArray, List.set_cons_zero, List.set_cons_succ, i64_w, i32_w]
    rfl
  refine done_ (by kernel_rfl) ?_
  try clear qp0_0 qp0_1 qw0__0 qw0__1 qw0__2 qw0__3 qx0_0 qx0_1 qg0__0 qg0__1 qg0__2 qg0__3
  have zp0_ := blk_lt Kp0.out
  have qp0_0 := (blk_cell Kp0.out 0).trans rfl
  have qp0_1 := (blk_cell Kp0.out 1).trans rfl
  have zw0__ := blk_lt Kw0_.out
  have qw0__0 := (blk_cell Kw0_.out 0).trans rfl
  have qw0__1 := (blk_cell Kw0_.out 1).trans rfl
  have qw0__2 := (blk_cell Kw0_.out 2).trans rfl
  have qw0__3 := (blk_cell Kw0_.out 3).trans rfl
  have zx0_ := blk_lt Kx0.out
  have qx0_0 := (blk_cell Kx0.out 0).trans rfl
  have qx0_1 := (blk_cell Kx0.out 1).trans rfl
  have zg0__ := blk_lt Kg0_.out
  have qg0__0 := (blk_cell Kg0_.out 0).trans rfl
  have qg0__1 := (blk_cell Kg0_.out 1).trans rfl
  have qg0__2 := (blk_cell Kg0_.out 2).trans rfl
  have qg0__3 := (blk_cell Kg0_.out 3).trans rfl
  go_wp2_with fail
  clear zp0_ qp0_0 qp0_1
  clear zw0__ qw0__0 qw0__1 qw0__2 qw0__3
  clear zx0_ qx0_0 qx0_1
  clear zg0__ qg0__0 qg0__1 qg0__2 qg0__3
  refine (laws_toInt64S.calls k _ _ l1 l1 _ (Kd.C_below HR1.out (by repeat (first | exact HB.out | apply below_alloc | apply pw_below_drewN | apply below_drew1))) hc1 FG1.out).mono ?_
  rintro e w12 ⟨ve1, rfl, hse1_, hb_⟩
  have HB0_ := Aside0.mk (by repeat (first | exact HB.out | apply below_alloc | apply pw_below_drewN | apply below_drew1))
  have He1 : Aside0 (Kd.R (Kd.int .i64) 2 w12 w.heap.size (fun k_ => w11.heap.size ≤ k_ ∧ k_ < w12.heap.size) _ l1) := ⟨Kd.R_mono (Kd.R_lower (Kd.R_bound hse1_) (by have h_ := HB0_.out.size; (try simp at h_); (try simp); omega)) (fun k_ hk_ => ⟨by have h_ := hk_.2.1; (try simp at h_); omega, hk_.2.2.1⟩)⟩
  clear HB0_ hse1_
  have nW0l := Aside0.mk (Kd.S_below (by (with_reducible repeat (first | apply Kd.S_alloc | apply Kd.S_drewN | apply Kd.S_drew)); exact HW0l.out) hb_)
  have nW0t := Aside0.mk (Kd.S_below (by (with_reducible repeat (first | apply Kd.S_alloc | apply Kd.S_drewN | apply Kd.S_drew)); exact HW0t.out) hb_)
  have nX0 := Aside0.mk (Kd.S_below (by (with_reducible repeat (first | apply Kd.S_alloc | apply Kd.S_drewN | apply Kd.S_drew)); exact HX0.out) hb_)
  have nX1 := Aside0.mk (Kd.R_below (by (with_reducible repeat (first | apply Kd.R_alloc | apply Kd.R_drewN | apply Kd.R_drew)); exact HX1.out) hb_)
  have nG0l := Aside0.mk (Kd.S_below (by (with_reducible repeat (first | apply Kd.S_alloc | apply Kd.S_drewN | apply Kd.S_drew)); exact HG0l.out) hb_)
  have nG0t := Aside0.mk (Kd.S_below (by (with_reducible repeat (first | apply Kd.S_alloc | apply Kd.S_drewN | apply Kd.S_drew)); exact HG0t.out) hb_)
  have np0 : Aside0 (w12.heap[w.heap.size]? = some (.cells #[.int .i64 a0, .slice A0 l0.length c0] 24 (0, 0))) := ⟨blk_below (by (first | exact heap_alloc_new _ _ | (refine blk_alloc ?_ _; exact heap_alloc_new _ _) | ((with_reducible repeat (first | refine blk_drewN ?_ _ | refine blk_drew ?_ | refine blk_alloc ?_ _)); exact Kp0.out))) hb_⟩
  have nw0_ : Aside0 (w12.heap[w4.heap.size]? = some (.cells #[.int .i64 r0a, .slice AW0l r0l.length cW0l, .int .i64 r0s, .slice AW0t r0t.length cW0t] 38 (0, 0))) := ⟨blk_below (by (first | exact heap_alloc_new _ _ | (refine blk_alloc ?_ _; exact heap_alloc_new _ _) | ((with_reducible repeat (first | refine blk_drewN ?_ _ | refine blk_drew ?_ | refine blk_alloc ?_ _)); exact Kw0_.out))) hb_⟩
  have nx0 : Aside0 (w12.heap[w5.heap.size]? = some (.cells #[.int .i64 a0, .slice AX0 l0.length cX0] 26 (0, 0))) := ⟨blk_below (by (first | exact heap_alloc_new _ _ | (refine blk_alloc ?_ _; exact heap_alloc_new _ _) | ((with_reducible repeat (first | refine blk_drewN ?_ _ | refine blk_drew ?_ | refine blk_alloc ?_ _)); exact Kx0.out))) hb_⟩
  have ng0_ : Aside0 (w12.heap[w7.heap.size]? = some (.cells #[.int .i64 r0a, .slice AG0l r0l.length cG0l, .int .i64 r0s, .slice AG0t r0t.length cG0t] 38 (0, 0))) := ⟨blk_below (by (first | exact heap_alloc_new _ _ | (refine blk_alloc ?_ _; exact heap_alloc_new _ _) | ((with_reducible repeat (first | refine blk_drewN ?_ _ | refine blk_drew ?_ | refine blk_alloc ?_ _)); exact Kg0_.out))) hb_⟩
  have Zw12 : Aside0 (w11.heap.size + 0 ≤ w12.heap.size) := ⟨by have h_ := hb_.size; (try simp at h_); omega⟩
  have nB_ := Aside0.mk (below_step (by repeat (first | exact HB.out | apply below_alloc | apply pw_below_drewN | apply below_drew1)) hb_)
  clear HB HW0l HW0t HX0 HX1 HG0l HG0t Kp0 Kw0_ Kx0 Kg0_ hb_
  have HB := nB_
  clear nB_
  have HW0l := nW0l
  clear nW0l
  have HW0t := nW0t
  clear nW0t
  have HX0 := nX0
  clear nX0
  have HX1 := nX1
  clear nX1
  have HG0l := nG0l
  clear nG0l
  have HG0t := nG0t
  clear nG0t
  have Kp0 := np0
  clear np0
  have Kw0_ := nw0_
  clear nw0_
  have Kx0 := nx0
  clear nx0
  have Kg0_ := ng0_
  clear ng0_
  obtain ⟨Ae1, ce1, ee1⟩ := Kd.R_slice He1.out
  subst ee1
  try clear qp0_0 qp0_1 qw0__0 qw0__1 qw0__2 qw0__3 qx0_0 qx0_1 qg0__0 qg0__1 qg0__2 qg0__3
  have zp0_ := blk_lt Kp0.out
  have qp0_0 := (blk_cell Kp0.out 0).trans rfl
  have qp0_1 := (blk_cell Kp0.out 1).trans rfl
  have zw0__ := blk_lt Kw0_.out
  have qw0__0 := (blk_cell Kw0_.out 0).trans rfl
  have qw0__1 := (blk_cell Kw0_.out 1).trans rfl
  have qw0__2 := (blk_cell Kw0_.out 2).trans rfl
  have qw0__3 := (blk_cell Kw0_.out 3).trans rfl
  have zx0_ := blk_lt Kx0.out
  have qx0_0 := (blk_cell Kx0.out 0).trans rfl
  have qx0_1 := (blk_cell Kx0.out 1).trans rfl
  have zg0__ := blk_lt Kg0_.out
  have qg0__0 := (blk_cell Kg0_.out 0).trans rfl
  have qg0__1 := (blk_cell Kg0_.out 1).trans rfl
  have qg0__2 := (blk_cell Kg0_.out 2).trans rfl
  have qg0__3 := (blk_cell Kg0_.out 3).trans rfl
  go_wp2_with fail
  clear zp0_ qp0_0 qp0_1
  clear zw0__ qw0__0 qw0__1 qw0__2 qw0__3
  clear zx0_ qx0_0 qx0_1
  clear zg0__ qg0__0 qg0__1 qg0__2 qg0__3
  refine (laws_eqInt64S.calls k _ _ l1 _ _ l1 true _ (Kd.R_reads' (by (with_reducible repeat (first | apply Kd.R_alloc | apply Kd.R_drewN | apply Kd.R_drew)); exact HX1.out)).2.2 (Kd.R_reads' HX1.out).2.1 (Kd.R_reads' (by (with_reducible repeat (first | apply Kd.R_alloc | apply Kd.R_drewN | apply Kd.R_drew)); exact He1.out)).2.2 (Kd.R_reads' He1.out).2.1 FQ1.out).mono ?_
  rintro e w13 ⟨rfl, hd_⟩
  have hb_ := hd_.below
  clear hd_
  have nW0l := Aside0.mk (Kd.S_below (by (with_reducible repeat (first | apply Kd.S_alloc | apply Kd.S_drewN | apply Kd.S_drew)); exact HW0l.out) hb_)
  have nW0t := Aside0.mk (Kd.S_below (by (with_reducible repeat (first | apply Kd.S_alloc | apply Kd.S_drewN | apply Kd.S_drew)); exact HW0t.out) hb_)
  have nX0 := Aside0.mk (Kd.S_below (by (with_reducible repeat (first | apply Kd.S_alloc | apply Kd.S_drewN | apply Kd.S_drew)); exact HX0.out) hb_)
  have nX1 := Aside0.mk (Kd.R_below (by (with_reducible repeat (first | apply Kd.R_alloc | apply Kd.R_drewN | apply Kd.R_drew)); exact HX1.out) hb_)
  have nG0l := Aside0.mk (Kd.S_below (by (with_reducible repeat (first | apply Kd.S_alloc | apply Kd.S_drewN | apply Kd.S_drew)); exact HG0l.out) hb_)
  have nG0t := Aside0.mk (Kd.S_below (by (with_reducible repeat (first | apply Kd.S_alloc | apply Kd.S_drewN | apply Kd.S_drew)); exact HG0t.out) hb_)
  have ne1 := Aside0.mk (Kd.R_below (by (with_reducible repeat (first | apply Kd.R_alloc | apply Kd.R_drewN | apply Kd.R_drew)); exact He1.out) hb_)
  have np0 : Aside0 (w13.heap[w.heap.size]? = some (.cells #[.int .i64 a0, .slice A0 l0.length c0] 24 (0, 0))) := ⟨blk_below (by (first | exact heap_alloc_new _ _ | (refine blk_alloc ?_ _; exact heap_alloc_new _ _) | ((with_reducible repeat (first | refine blk_drewN ?_ _ | refine blk_drew ?_ | refine blk_alloc ?_ _)); exact Kp0.out))) hb_⟩
  have nw0_ : Aside0 (w13.heap[w4.heap.size]? = some (.cells #[.int .i64 r0a, .slice AW0l r0l.length cW0l, .int .i64 r0s, .slice AW0t r0t.length cW0t] 38 (0, 0))) := ⟨blk_below (by (first | exact heap_alloc_new _ _ | (refine blk_alloc ?_ _; exact heap_alloc_new _ _) | ((with_reducible repeat (first | refine blk_drewN ?_ _ | refine blk_drew ?_ | refine blk_alloc ?_ _)); exact Kw0_.out))) hb_⟩
  have nx0 : Aside0 (w13.heap[w5.heap.size]? = some (.cells #[.int .i64 a0, .slice AX0 l0.length cX0] 26 (0, 0))) := ⟨blk_below (by (first | exact heap_alloc_new _ _ | (refine blk_alloc ?_ _; exact heap_alloc_new _ _) | ((with_reducible repeat (first | refine blk_drewN ?_ _ | refine blk_drew ?_ | refine blk_alloc ?_ _)); exact Kx0.out))) hb_⟩
  have ng0_ : Aside0 (w13.heap[w7.heap.size]? = some (.cells #[.int .i64 r0a, .slice AG0l r0l.length cG0l, .int .i64 r0s, .slice AG0t r0t.length cG0t] 38 (0, 0))) := ⟨blk_below (by (first | exact heap_alloc_new _ _ | (refine blk_alloc ?_ _; exact heap_alloc_new _ _) | ((with_reducible repeat (first | refine blk_drewN ?_ _ | refine blk_drew ?_ | refine blk_alloc ?_ _)); exact Kg0_.out))) hb_⟩
  have Zw13 : Aside0 (w12.heap.size + 0 ≤ w13.heap.size) := ⟨by have h_ := hb_.size; (try simp at h_); omega⟩
  have nB_ := Aside0.mk (below_step (by repeat (first | exact HB.out | apply below_alloc | apply pw_below_drewN | apply below_drew1)) hb_)
  clear HB HW0l HW0t HX0 HX1 HG0l HG0t He1 Kp0 Kw0_ Kx0 Kg0_ hb_
  have HB := nB_
  clear nB_
  have HW0l := nW0l
  clear nW0l
  have HW0t := nW0t
  clear nW0t
  have HX0 := nX0
  clear nX0
  have HX1 := nX1
  clear nX1
  have HG0l := nG0l
  clear nG0l
  have HG0t := nG0t
  clear nG0t
  have He1 := ne1
  clear ne1
  have Kp0 := np0
  clear np0
  have Kw0_ := nw0_
  clear nw0_
  have Kx0 := nx0
  clear nx0
  have Kg0_ := ng0_
  clear ng0_
  try clear qp0_0 qp0_1 qw0__0 qw0__1 qw0__2 qw0__3 qx0_0 qx0_1 qg0__0 qg0__1 qg0__2 qg0__3
  have zp0_ := blk_lt Kp0.out
  have qp0_0 := (blk_cell Kp0.out 0).trans rfl
  have qp0_1 := (blk_cell Kp0.out 1).trans rfl
  have zw0__ := blk_lt Kw0_.out
  have qw0__0 := (blk_cell Kw0_.out 0).trans rfl
  have qw0__1 := (blk_cell Kw0_.out 1).trans rfl
  have qw0__2 := (blk_cell Kw0_.out 2).trans rfl
  have qw0__3 := (blk_cell Kw0_.out 3).trans rfl
  have zx0_ := blk_lt Kx0.out
  have qx0_0 := (blk_cell Kx0.out 0).trans rfl
  have qx0_1 := (blk_cell Kx0.out 1).trans rfl
  have zg0__ := blk_lt Kg0_.out
  have qg0__0 := (blk_cell Kg0_.out 0).trans rfl
  have qg0__1 := (blk_cell Kg0_.out 1).trans rfl
  have qg0__2 := (blk_cell Kg0_.out 2).trans rfl
  have qg0__3 := (blk_cell Kg0_.out 3).trans rfl
  go_wp2_with fail
  clear zp0_ qp0_0 qp0_1
  clear zw0__ qw0__0 qw0__1 qw0__2 qw0__3
  clear zx0_ qx0_0 qx0_1
  clear zg0__ qg0__0 qg0__1 qg0__2 qg0__3
  refine (laws_markGraph.calls k (fun k_ => w4.heap.size + 1 ≤ k_ ∧ k_ < w5.heap.size) a0 _ _ _ l0 1 m0 y0 w _ (by repeat (first | exact HB.out | apply below_alloc | apply pw_below_drewN | apply below_drew1)) (by (with_reducible repeat (first | apply Kd.S_alloc | apply Kd.S_drewN | apply Kd.S_drew)); exact HX0.out) FM0.out).mono ?_
  rintro e w14 ⟨rfl, hS_, hb0_, hk0_⟩
  have hk_ := hk0_
  have nI_ : Aside0 (Kd.S (Kd.slice 2 (Kd.int .i64)) 43 w14 w.heap.size (fun k_ => w4.heap.size + 1 ≤ k_ ∧ k_ < w5.heap.size) (.slice AX0 l0.length cX0) y0) := ⟨hS_⟩
  clear HX0 hS_ hk0_
  have nW0l := Aside0.mk (Kd.S_kept (by (with_reducible repeat (first | apply Kd.S_alloc | apply Kd.S_drewN | apply Kd.S_drew)); exact HW0l.out) hk_ (fun k_ h1_ h2_ => by have h3_ := h1_; have h4_ := h2_; have zw1_ := Zw1.out; have zw2_ := Zw2.out; have zw3_ := Zw3.out; have zw4_ := Zw4.out; have zw5_ := Zw5.out; have zw6_ := Zw6.out; have zw7_ := Zw7.out; have zqw7_ := Zqw7.out; have zw8_ := Zw8.out; have zw9_ := Zw9.out; have zw10_ := Zw10.out; have zw11_ := Zw11.out; have zw12_ := Zw12.out; have zw13_ := Zw13.out; omega))
  have nW0t := Aside0.mk (Kd.S_kept (by (with_reducible repeat (first | apply Kd.S_alloc | apply Kd.S_drewN | apply Kd.S_drew)); exact HW0t.out) hk_ (fun k_ h1_ h2_ => by have h3_ := h1_; have h4_ := h2_; have zw1_ := Zw1.out; have zw2_ := Zw2.out; have zw3_ := Zw3.out; have zw4_ := Zw4.out; have zw5_ := Zw5.out; have zw6_ := Zw6.out; have zw7_ := Zw7.out; have zqw7_ := Zqw7.out; have zw8_ := Zw8.out; have zw9_ := Zw9.out; have zw10_ := Zw10.out; have zw11_ := Zw11.out; have zw12_ := Zw12.out; have zw13_ := Zw13.out; omega))
  have nX1 := Aside0.mk (Kd.R_kept (by (with_reducible repeat (first | apply Kd.R_alloc | apply Kd.R_drewN | apply Kd.R_drew)); exact HX1.out) hk_ (fun k_ h1_ h2_ => by have h3_ := h1_; have h4_ := h2_; have zw1_ := Zw1.out; have zw2_ := Zw2.out; have zw3_ := Zw3.out; have zw4_ := Zw4.out; have zw5_ := Zw5.out; have zw6_ := Zw6.out; have zw7_ := Zw7.out; have zqw7_ := Zqw7.out; have zw8_ := Zw8.out; have zw9_ := Zw9.out; have zw10_ := Zw10.out; have zw11_ := Zw11.out; have zw12_ := Zw12.out; have zw13_ := Zw13.out; omega))
  have nG0l := Aside0.mk (Kd.S_kept (by (with_reducible repeat (first | apply Kd.S_alloc | apply Kd.S_drewN | apply Kd.S_drew)); exact HG0l.out) hk_ (fun k_ h1_ h2_ => by have h3_ := h1_; have h4_ := h2_; have zw1_ := Zw1.out; have zw2_ := Zw2.out; have zw3_ := Zw3.out; have zw4_ := Zw4.out; have zw5_ := Zw5.out; have zw6_ := Zw6.out; have zw7_ := Zw7.out; have zqw7_ := Zqw7.out; have zw8_ := Zw8.out; have zw9_ := Zw9.out; have zw10_ := Zw10.out; have zw11_ := Zw11.out; have zw12_ := Zw12.out; have zw13_ := Zw13.out; omega))
  have nG0t := Aside0.mk (Kd.S_kept (by (with_reducible repeat (first | apply Kd.S_alloc | apply Kd.S_drewN | apply Kd.S_drew)); exact HG0t.out) hk_ (fun k_ h1_ h2_ => by have h3_ := h1_; have h4_ := h2_; have zw1_ := Zw1.out; have zw2_ := Zw2.out; have zw3_ := Zw3.out; have zw4_ := Zw4.out; have zw5_ := Zw5.out; have zw6_ := Zw6.out; have zw7_ := Zw7.out; have zqw7_ := Zqw7.out; have zw8_ := Zw8.out; have zw9_ := Zw9.out; have zw10_ := Zw10.out; have zw11_ := Zw11.out; have zw12_ := Zw12.out; have zw13_ := Zw13.out; omega))
  have ne1 := Aside0.mk (Kd.R_kept (by (with_reducible repeat (first | apply Kd.R_alloc | apply Kd.R_drewN | apply Kd.R_drew)); exact He1.out) hk_ (fun k_ h1_ h2_ => by have h3_ := h1_; have h4_ := h2_; have zw1_ := Zw1.out; have zw2_ := Zw2.out; have zw3_ := Zw3.out; have zw4_ := Zw4.out; have zw5_ := Zw5.out; have zw6_ := Zw6.out; have zw7_ := Zw7.out; have zqw7_ := Zqw7.out; have zw8_ := Zw8.out; have zw9_ := Zw9.out; have zw10_ := Zw10.out; have zw11_ := Zw11.out; have zw12_ := Zw12.out; have zw13_ := Zw13.out; omega))
  have np0 : Aside0 (w14.heap[w.heap.size]? = some (.cells #[.int .i64 a0, .slice A0 l0.length c0] 24 (0, 0))) := ⟨blk_kept (by (first | exact heap_alloc_new _ _ | (refine blk_alloc ?_ _; exact heap_alloc_new _ _) | ((with_reducible repeat (first | refine blk_drewN ?_ _ | refine blk_drew ?_ | refine blk_alloc ?_ _)); exact Kp0.out))) hk_ (fun h2_ => by have h4_ := h2_; have zw1_ := Zw1.out; have zw2_ := Zw2.out; have zw3_ := Zw3.out; have zw4_ := Zw4.out; have zw5_ := Zw5.out; have zw6_ := Zw6.out; have zw7_ := Zw7.out; have zqw7_ := Zqw7.out; have zw8_ := Zw8.out; have zw9_ := Zw9.out; have zw10_ := Zw10.out; have zw11_ := Zw11.out; have zw12_ := Zw12.out; have zw13_ := Zw13.out; omega)⟩
  have nw0_ : Aside0 (w14.heap[w4.heap.size]? = some (.cells #[.int .i64 r0a, .slice AW0l r0l.length cW0l, .int .i64 r0s, .slice AW0t r0t.length cW0t] 38 (0, 0))) := ⟨blk_kept (by (first | exact heap_alloc_new _ _ | (refine blk_alloc ?_ _; exact heap_alloc_new _ _) | ((with_reducible repeat (first | refine blk_drewN ?_ _ | refine blk_drew ?_ | refine blk_alloc ?_ _)); exact Kw0_.out))) hk_ (fun h2_ => by have h4_ := h2_; have zw1_ := Zw1.out; have zw2_ := Zw2.out; have zw3_ := Zw3.out; have zw4_ := Zw4.out; have zw5_ := Zw5.out; have zw6_ := Zw6.out; have zw7_ := Zw7.out; have zqw7_ := Zqw7.out; have zw8_ := Zw8.out; have zw9_ := Zw9.out; have zw10_ := Zw10.out; have zw11_ := Zw11.out; have zw12_ := Zw12.out; have zw13_ := Zw13.out; omega)⟩
  have nx0 : Aside0 (w14.heap[w5.heap.size]? = some (.cells #[.int .i64 a0, .slice AX0 l0.length cX0] 26 (0, 0))) := ⟨blk_kept (by (first | exact heap_alloc_new _ _ | (refine blk_alloc ?_ _; exact heap_alloc_new _ _) | ((with_reducible repeat (first | refine blk_drewN ?_ _ | refine blk_drew ?_ | refine blk_alloc ?_ _)); exact Kx0.out))) hk_ (fun h2_ => by have h4_ := h2_; have zw1_ := Zw1.out; have zw2_ := Zw2.out; have zw3_ := Zw3.out; have zw4_ := Zw4.out; have zw5_ := Zw5.out; have zw6_ := Zw6.out; have zw7_ := Zw7.out; have zqw7_ := Zqw7.out; have zw8_ := Zw8.out; have zw9_ := Zw9.out; have zw10_ := Zw10.out; have zw11_ := Zw11.out; have zw12_ := Zw12.out; have zw13_ := Zw13.out; omega)⟩
  have ng0_ : Aside0 (w14.heap[w7.heap.size]? = some (.cells #[.int .i64 r0a, .slice AG0l r0l.length cG0l, .int .i64 r0s, .slice AG0t r0t.length cG0t] 38 (0, 0))) := ⟨blk_kept (by (first | exact heap_alloc_new _ _ | (refine blk_alloc ?_ _; exact heap_alloc_new _ _) | ((with_reducible repeat (first | refine blk_drewN ?_ _ | refine blk_drew ?_ | refine blk_alloc ?_ _)); exact Kg0_.out))) hk_ (fun h2_ => by have h4_ := h2_; have zw1_ := Zw1.out; have zw2_ := Zw2.out; have zw3_ := Zw3.out; have zw4_ := Zw4.out; have zw5_ := Zw5.out; have zw6_ := Zw6.out; have zw7_ := Zw7.out; have zqw7_ := Zqw7.out; have zw8_ := Zw8.out; have zw9_ := Zw9.out; have zw10_ := Zw10.out; have zw11_ := Zw11.out; have zw12_ := Zw12.out; have zw13_ := Zw13.out; omega)⟩
  have Zw14 : Aside0 (w13.heap.size + 0 ≤ w14.heap.size) := ⟨by have h_ := hk_.1; (try simp at h_); omega⟩
  have nB_ := Aside0.mk hb0_
  clear HB HW0l HW0t HX1 HG0l HG0t He1 Kp0 Kw0_ Kx0 Kg0_ hk_ hb0_
  have HB := nB_
  clear nB_
  have HW0l := nW0l
  clear nW0l
  have HW0t := nW0t
  clear nW0t
  have HX1 := nX1
  clear nX1
  have HG0l := nG0l
  clear nG0l
  have HG0t := nG0t
  clear nG0t
  have He1 := ne1
  clear ne1
  have Kp0 := np0
  clear np0
  have Kw0_ := nw0_
  clear nw0_
  have Kx0 := nx0
  clear nx0
  have Kg0_ := ng0_
  clear ng0_
  have HX0 := nI_
  clear nI_
  have LX0w14 : Aside0 (y0.length = l0.length) := ⟨(Kd.S_reads' HX0.out).1.symm⟩
  try clear qp0_0 qp0_1 qw0__0 qw0__1 qw0__2 qw0__3 qx0_0 qx0_1 qg0__0 qg0__1 qg0__2 qg0__3
  have zp0_ := blk_lt Kp0.out
  have qp0_0 := (blk_cell Kp0.out 0).trans rfl
  have qp0_1 := (blk_cell Kp0.out 1).trans rfl
  have zw0__ := blk_lt Kw0_.out
  have qw0__0 := (blk_cell Kw0_.out 0).trans rfl
  have qw0__1 := (blk_cell Kw0_.out 1).trans rfl
  have qw0__2 := (blk_cell Kw0_.out 2).trans rfl
  have qw0__3 := (blk_cell Kw0_.out 3).trans rfl
  have zx0_ := blk_lt Kx0.out
  have qx0_0 := (blk_cell Kx0.out 0).trans rfl
  have qx0_1 := (blk_cell Kx0.out 1).trans rfl
  have zg0__ := blk_lt Kg0_.out
  have qg0__0 := (blk_cell Kg0_.out 0).trans rfl
  have qg0__1 := (blk_cell Kg0_.out 1).trans rfl
  have qg0__2 := (blk_cell Kg0_.out 2).trans rfl
  have qg0__3 := (blk_cell Kg0_.out 3).trans rfl
  go_wp2_with fail
  clear zp0_ qp0_0 qp0_1
  clear zw0__ qw0__0 qw0__1 qw0__2 qw0__3
  clear zx0_ qx0_0 qx0_1
  clear zg0__ qg0__0 qg0__1 qg0__2 qg0__3
  refine (laws_markInt64S.calls k (fun k_ => some k_ = (.slice AX1 l1.length cX1 : Value).ownBlock) _ l1 m0 m1 y1 w _ (by repeat (first | exact HB.out | apply below_alloc | apply pw_below_drewN | apply below_drew1)) (Kd.R_tight rfl (by (with_reducible repeat (first | apply Kd.R_alloc | apply Kd.R_drewN | apply Kd.R_drew)); exact HX1.out)) FM1.out).mono ?_
  rintro e w15 ⟨rfl, hS_, hb0_, hk0_⟩
  have hk_ : Kept _ w15 (fun k_ => w5.heap.size + 1 ≤ k_ ∧ k_ < w6.heap.size) := hk0_.mono (fun k_ hk_ => HX1.out.1 k_ hk_.symm)
  have nI_ : Aside0 (Kd.R (Kd.int .i64) 2 w15 w.heap.size (fun k_ => w5.heap.size + 1 ≤ k_ ∧ k_ < w6.heap.size) (.slice AX1 l1.length cX1) y1) := ⟨Kd.R_mono (Kd.R_tight rfl hS_) (fun k_ hk_ => HX1.out.1 k_ hk_.symm)⟩
  clear HX1 hS_ hk0_
  have nW0l := Aside0.mk (Kd.S_kept (by (with_reducible repeat (first | apply Kd.S_alloc | apply Kd.S_drewN | apply Kd.S_drew)); exact HW0l.out) hk_ (fun k_ h1_ h2_ => by have h3_ := h1_; have h4_ := h2_; have zw1_ := Zw1.out; have zw2_ := Zw2.out; have zw3_ := Zw3.out; have zw4_ := Zw4.out; have zw5_ := Zw5.out; have zw6_ := Zw6.out; have zw7_ := Zw7.out; have zqw7_ := Zqw7.out; have zw8_ := Zw8.out; have zw9_ := Zw9.out; have zw10_ := Zw10.out; have zw11_ := Zw11.out; have zw12_ := Zw12.out; have zw13_ := Zw13.out; have zw14_ := Zw14.out; omega))
  have nW0t := Aside0.mk (Kd.S_kept (by (with_reducible repeat (first | apply Kd.S_alloc | apply Kd.S_drewN | apply Kd.S_drew)); exact HW0t.out) hk_ (fun k_ h1_ h2_ => by have h3_ := h1_; have h4_ := h2_; have zw1_ := Zw1.out; have zw2_ := Zw2.out; have zw3_ := Zw3.out; have zw4_ := Zw4.out; have zw5_ := Zw5.out; have zw6_ := Zw6.out; have zw7_ := Zw7.out; have zqw7_ := Zqw7.out; have zw8_ := Zw8.out; have zw9_ := Zw9.out; have zw10_ := Zw10.out; have zw11_ := Zw11.out; have zw12_ := Zw12.out; have zw13_ := Zw13.out; have zw14_ := Zw14.out; omega))
  have nX0 := Aside0.mk (Kd.S_kept (by (with_reducible repeat (first | apply Kd.S_alloc | apply Kd.S_drewN | apply Kd.S_drew)); exact HX0.out) hk_ (fun k_ h1_ h2_ => by have h3_ := h1_; have h4_ := h2_; have zw1_ := Zw1.out; have zw2_ := Zw2.out; have zw3_ := Zw3.out; have zw4_ := Zw4.out; have zw5_ := Zw5.out; have zw6_ := Zw6.out; have zw7_ := Zw7.out; have zqw7_ := Zqw7.out; have zw8_ := Zw8.out; have zw9_ := Zw9.out; have zw10_ := Zw10.out; have zw11_ := Zw11.out; have zw12_ := Zw12.out; have zw13_ := Zw13.out; have zw14_ := Zw14.out; omega))
  have nG0l := Aside0.mk (Kd.S_kept (by (with_reducible repeat (first | apply Kd.S_alloc | apply Kd.S_drewN | apply Kd.S_drew)); exact HG0l.out) hk_ (fun k_ h1_ h2_ => by have h3_ := h1_; have h4_ := h2_; have zw1_ := Zw1.out; have zw2_ := Zw2.out; have zw3_ := Zw3.out; have zw4_ := Zw4.out; have zw5_ := Zw5.out; have zw6_ := Zw6.out; have zw7_ := Zw7.out; have zqw7_ := Zqw7.out; have zw8_ := Zw8.out; have zw9_ := Zw9.out; have zw10_ := Zw10.out; have zw11_ := Zw11.out; have zw12_ := Zw12.out; have zw13_ := Zw13.out; have zw14_ := Zw14.out; omega))
  have nG0t := Aside0.mk (Kd.S_kept (by (with_reducible repeat (first | apply Kd.S_alloc | apply Kd.S_drewN | apply Kd.S_drew)); exact HG0t.out) hk_ (fun k_ h1_ h2_ => by have h3_ := h1_; have h4_ := h2_; have zw1_ := Zw1.out; have zw2_ := Zw2.out; have zw3_ := Zw3.out; have zw4_ := Zw4.out; have zw5_ := Zw5.out; have zw6_ := Zw6.out; have zw7_ := Zw7.out; have zqw7_ := Zqw7.out; have zw8_ := Zw8.out; have zw9_ := Zw9.out; have zw10_ := Zw10.out; have zw11_ := Zw11.out; have zw12_ := Zw12.out; have zw13_ := Zw13.out; have zw14_ := Zw14.out; omega))
  have ne1 := Aside0.mk (Kd.R_kept (by (with_reducible repeat (first | apply Kd.R_alloc | apply Kd.R_drewN | apply Kd.R_drew)); exact He1.out) hk_ (fun k_ h1_ h2_ => by have h3_ := h1_; have h4_ := h2_; have zw1_ := Zw1.out; have zw2_ := Zw2.out; have zw3_ := Zw3.out; have zw4_ := Zw4.out; have zw5_ := Zw5.out; have zw6_ := Zw6.out; have zw7_ := Zw7.out; have zqw7_ := Zqw7.out; have zw8_ := Zw8.out; have zw9_ := Zw9.out; have zw10_ := Zw10.out; have zw11_ := Zw11.out; have zw12_ := Zw12.out; have zw13_ := Zw13.out; have zw14_ := Zw14.out; omega))
  have np0 : Aside0 (w15.heap[w.heap.size]? = some (.cells #[.int .i64 a0, .slice A0 l0.length c0] 24 (0, 0))) := ⟨blk_kept (by (first | exact heap_alloc_new _ _ | (refine blk_alloc ?_ _; exact heap_alloc_new _ _) | ((with_reducible repeat (first | refine blk_drewN ?_ _ | refine blk_drew ?_ | refine blk_alloc ?_ _)); exact Kp0.out))) hk_ (fun h2_ => by have h4_ := h2_; have zw1_ := Zw1.out; have zw2_ := Zw2.out; have zw3_ := Zw3.out; have zw4_ := Zw4.out; have zw5_ := Zw5.out; have zw6_ := Zw6.out; have zw7_ := Zw7.out; have zqw7_ := Zqw7.out; have zw8_ := Zw8.out; have zw9_ := Zw9.out; have zw10_ := Zw10.out; have zw11_ := Zw11.out; have zw12_ := Zw12.out; have zw13_ := Zw13.out; have zw14_ := Zw14.out; omega)⟩
  have nw0_ : Aside0 (w15.heap[w4.heap.size]? = some (.cells #[.int .i64 r0a, .slice AW0l r0l.length cW0l, .int .i64 r0s, .slice AW0t r0t.length cW0t] 38 (0, 0))) := ⟨blk_kept (by (first | exact heap_alloc_new _ _ | (refine blk_alloc ?_ _; exact heap_alloc_new _ _) | ((with_reducible repeat (first | refine blk_drewN ?_ _ | refine blk_drew ?_ | refine blk_alloc ?_ _)); exact Kw0_.out))) hk_ (fun h2_ => by have h4_ := h2_; have zw1_ := Zw1.out; have zw2_ := Zw2.out; have zw3_ := Zw3.out; have zw4_ := Zw4.out; have zw5_ := Zw5.out; have zw6_ := Zw6.out; have zw7_ := Zw7.out; have zqw7_ := Zqw7.out; have zw8_ := Zw8.out; have zw9_ := Zw9.out; have zw10_ := Zw10.out; have zw11_ := Zw11.out; have zw12_ := Zw12.out; have zw13_ := Zw13.out; have zw14_ := Zw14.out; omega)⟩
  have nx0 : Aside0 (w15.heap[w5.heap.size]? = some (.cells #[.int .i64 a0, .slice AX0 l0.length cX0] 26 (0, 0))) := ⟨blk_kept (by (first | exact heap_alloc_new _ _ | (refine blk_alloc ?_ _; exact heap_alloc_new _ _) | ((with_reducible repeat (first | refine blk_drewN ?_ _ | refine blk_drew ?_ | refine blk_alloc ?_ _)); exact Kx0.out))) hk_ (fun h2_ => by have h4_ := h2_; have zw1_ := Zw1.out; have zw2_ := Zw2.out; have zw3_ := Zw3.out; have zw4_ := Zw4.out; have zw5_ := Zw5.out; have zw6_ := Zw6.out; have zw7_ := Zw7.out; have zqw7_ := Zqw7.out; have zw8_ := Zw8.out; have zw9_ := Zw9.out; have zw10_ := Zw10.out; have zw11_ := Zw11.out; have zw12_ := Zw12.out; have zw13_ := Zw13.out; have zw14_ := Zw14.out; omega)⟩
  have ng0_ : Aside0 (w15.heap[w7.heap.size]? = some (.cells #[.int .i64 r0a, .slice AG0l r0l.length cG0l, .int .i64 r0s, .slice AG0t r0t.length cG0t] 38 (0, 0))) := ⟨blk_kept (by (first | exact heap_alloc_new _ _ | (refine blk_alloc ?_ _; exact heap_alloc_new _ _) | ((with_reducible repeat (first | refine blk_drewN ?_ _ | refine blk_drew ?_ | refine blk_alloc ?_ _)); exact Kg0_.out))) hk_ (fun h2_ => by have h4_ := h2_; have zw1_ := Zw1.out; have zw2_ := Zw2.out; have zw3_ := Zw3.out; have zw4_ := Zw4.out; have zw5_ := Zw5.out; have zw6_ := Zw6.out; have zw7_ := Zw7.out; have zqw7_ := Zqw7.out; have zw8_ := Zw8.out; have zw9_ := Zw9.out; have zw10_ := Zw10.out; have zw11_ := Zw11.out; have zw12_ := Zw12.out; have zw13_ := Zw13.out; have zw14_ := Zw14.out; omega)⟩
  have Zw15 : Aside0 (w14.heap.size + 0 ≤ w15.heap.size) := ⟨by have h_ := hk_.1; (try simp at h_); omega⟩
  have nB_ := Aside0.mk hb0_
  clear HB HW0l HW0t HX0 HG0l HG0t He1 Kp0 Kw0_ Kx0 Kg0_ hk_ hb0_
  have HB := nB_
  clear nB_
  have HW0l := nW0l
  clear nW0l
  have HW0t := nW0t
  clear nW0t
  have HX0 := nX0
  clear nX0
  have HG0l := nG0l
  clear nG0l
  have HG0t := nG0t
  clear nG0t
  have He1 := ne1
  clear ne1
  have Kp0 := np0
  clear np0
  have Kw0_ := nw0_
  clear nw0_
  have Kx0 := nx0
  clear nx0
  have Kg0_ := ng0_
  clear ng0_
  have HX1 := nI_
  clear nI_
  have LX1w15 : Aside0 (y1.length = l1.length) := ⟨(Kd.R_reads' HX1.out).1.symm⟩
  try clear qp0_0 qp0_1 qw0__0 qw0__1 qw0__2 qw0__3 qx0_0 qx0_1 qg0__0 qg0__1 qg0__2 qg0__3
  have zp0_ := blk_lt Kp0.out
  have qp0_0 := (blk_cell Kp0.out 0).trans rfl
  have qp0_1 := (blk_cell Kp0.out 1).trans rfl
  have zw0__ := blk_lt Kw0_.out
  have qw0__0 := (blk_cell Kw0_.out 0).trans rfl
  have qw0__1 := (blk_cell Kw0_.out 1).trans rfl
  have qw0__2 := (blk_cell Kw0_.out 2).trans rfl
  have qw0__3 := (blk_cell Kw0_.out 3).trans rfl
  have zx0_ := blk_lt Kx0.out
  have qx0_0 := (blk_cell Kx0.out 0).trans rfl
  have qx0_1 := (blk_cell Kx0.out 1).trans rfl
  have zg0__ := blk_lt Kg0_.out
  have qg0__0 := (blk_cell Kg0_.out 0).trans rfl
  have qg0__1 := (blk_cell Kg0_.out 1).trans rfl
  have qg0__2 := (blk_cell Kg0_.out 2).trans rfl
  have qg0__3 := (blk_cell Kg0_.out 3).trans rfl
  go_wp2_with fail
  clear zp0_ qp0_0 qp0_1
  clear zw0__ qw0__0 qw0__1 qw0__2 qw0__3
  clear zx0_ qx0_0 qx0_1
  clear zg0__ qg0__0 qg0__1 qg0__2 qg0__3
  refine (laws_eqCover.calls k r0a _ _ r0l r0s _ _ r0t r0a _ _ r0l r0s _ _ r0t true _ (Kd.S_reads' (by (with_reducible repeat (first | apply Kd.S_alloc | apply Kd.S_drewN | apply Kd.S_drew)); exact HG0l.out)).2.2 (Kd.S_reads' HG0l.out).2.1 (Kd.S_reads' (by (with_reducible repeat (first | apply Kd.S_alloc | apply Kd.S_drewN | apply Kd.S_drew)); exact HG0t.out)).2.2 (Kd.S_reads' HG0t.out).2.1 (Kd.S_reads' (by (with_reducible repeat (first | apply Kd.S_alloc | apply Kd.S_drewN | apply Kd.S_drew)); exact HW0l.out)).2.2 (Kd.S_reads' HW0l.out).2.1 (Kd.S_reads' (by (with_reducible repeat (first | apply Kd.S_alloc | apply Kd.S_drewN | apply Kd.S_drew)); exact HW0t.out)).2.2 (Kd.S_reads' HW0t.out).2.1 FE0.out).mono ?_
  rintro e w16 ⟨rfl, hb_⟩
  have HB0_ := Aside0.mk (by repeat (first | exact HB.out | apply below_alloc | apply pw_below_drewN | apply below_drew1))
  clear HB0_
  have nW0l := Aside0.mk (Kd.S_below (by (with_reducible repeat (first | apply Kd.S_alloc | apply Kd.S_drewN | apply Kd.S_drew)); exact HW0l.out) hb_)
  have nW0t := Aside0.mk (Kd.S_below (by (with_reducible repeat (first | apply Kd.S_alloc | apply Kd.S_drewN | apply Kd.S_drew)); exact HW0t.out) hb_)
  have nX0 := Aside0.mk (Kd.S_below (by (with_reducible repeat (first | apply Kd.S_alloc | apply Kd.S_drewN | apply Kd.S_drew)); exact HX0.out) hb_)
  have nX1 := Aside0.mk (Kd.R_below (by (with_reducible repeat (first | apply Kd.R_alloc | apply Kd.R_drewN | apply Kd.R_drew)); exact HX1.out) hb_)
  have nG0l := Aside0.mk (Kd.S_below (by (with_reducible repeat (first | apply Kd.S_alloc | apply Kd.S_drewN | apply Kd.S_drew)); exact HG0l.out) hb_)
  have nG0t := Aside0.mk (Kd.S_below (by (with_reducible repeat (first | apply Kd.S_alloc | apply Kd.S_drewN | apply Kd.S_drew)); exact HG0t.out) hb_)
  have ne1 := Aside0.mk (Kd.R_below (by (with_reducible repeat (first | apply Kd.R_alloc | apply Kd.R_drewN | apply Kd.R_drew)); exact He1.out) hb_)
  have np0 : Aside0 (w16.heap[w.heap.size]? = some (.cells #[.int .i64 a0, .slice A0 l0.length c0] 24 (0, 0))) := ⟨blk_below (by (first | exact heap_alloc_new _ _ | (refine blk_alloc ?_ _; exact heap_alloc_new _ _) | ((with_reducible repeat (first | refine blk_drewN ?_ _ | refine blk_drew ?_ | refine blk_alloc ?_ _)); exact Kp0.out))) hb_⟩
  have nw0_ : Aside0 (w16.heap[w4.heap.size]? = some (.cells #[.int .i64 r0a, .slice AW0l r0l.length cW0l, .int .i64 r0s, .slice AW0t r0t.length cW0t] 38 (0, 0))) := ⟨blk_below (by (first | exact heap_alloc_new _ _ | (refine blk_alloc ?_ _; exact heap_alloc_new _ _) | ((with_reducible repeat (first | refine blk_drewN ?_ _ | refine blk_drew ?_ | refine blk_alloc ?_ _)); exact Kw0_.out))) hb_⟩
  have nx0 : Aside0 (w16.heap[w5.heap.size]? = some (.cells #[.int .i64 a0, .slice AX0 l0.length cX0] 26 (0, 0))) := ⟨blk_below (by (first | exact heap_alloc_new _ _ | (refine blk_alloc ?_ _; exact heap_alloc_new _ _) | ((with_reducible repeat (first | refine blk_drewN ?_ _ | refine blk_drew ?_ | refine blk_alloc ?_ _)); exact Kx0.out))) hb_⟩
  have ng0_ : Aside0 (w16.heap[w7.heap.size]? = some (.cells #[.int .i64 r0a, .slice AG0l r0l.length cG0l, .int .i64 r0s, .slice AG0t r0t.length cG0t] 38 (0, 0))) := ⟨blk_below (by (first | exact heap_alloc_new _ _ | (refine blk_alloc ?_ _; exact heap_alloc_new _ _) | ((with_reducible repeat (first | refine blk_drewN ?_ _ | refine blk_drew ?_ | refine blk_alloc ?_ _)); exact Kg0_.out))) hb_⟩
  have Zw16 : Aside0 (w15.heap.size + 0 ≤ w16.heap.size) := ⟨by have h_ := hb_.size; (try simp at h_); omega⟩
  have nB_ := Aside0.mk (below_step (by repeat (first | exact HB.out | apply below_alloc | apply pw_below_drewN | apply below_drew1)) hb_)
  clear HB HW0l HW0t HX0 HX1 HG0l HG0t He1 Kp0 Kw0_ Kx0 Kg0_ hb_
  have HB := nB_
  clear nB_
  have HW0l := nW0l
  clear nW0l
  have HW0t := nW0t
  clear nW0t
  have HX0 := nX0
  clear nX0
  have HX1 := nX1
  clear nX1
  have HG0l := nG0l
  clear nG0l
  have HG0t := nG0t
  clear nG0t
  have He1 := ne1
  clear ne1
  have Kp0 := np0
  clear np0
  have Kw0_ := nw0_
  clear nw0_
  have Kx0 := nx0
  clear nx0
  have Kg0_ := ng0_
  clear ng0_
  try clear qp0_0 qp0_1 qw0__0 qw0__1 qw0__2 qw0__3 qx0_0 qx0_1 qg0__0 qg0__1 qg0__2 qg0__3
  have zp0_ := blk_lt Kp0.out
  have qp0_0 := (blk_cell Kp0.out 0).trans rfl
  have qp0_1 := (blk_cell Kp0.out 1).trans rfl
  have zw0__ := blk_lt Kw0_.out
  have qw0__0 := (blk_cell Kw0_.out 0).trans rfl
  have qw0__1 := (blk_cell Kw0_.out 1).trans rfl
  have qw0__2 := (blk_cell Kw0_.out 2).trans rfl
  have qw0__3 := (blk_cell Kw0_.out 3).trans rfl
  have zx0_ := blk_lt Kx0.out
  have qx0_0 := (blk_cell Kx0.out 0).trans rfl
  have qx0_1 := (blk_cell Kx0.out 1).trans rfl
  have zg0__ := blk_lt Kg0_.out
  have qg0__0 := (blk_cell Kg0_.out 0).trans rfl
  have qg0__1 := (blk_cell Kg0_.out 1).trans rfl
  have qg0__2 := (blk_cell Kg0_.out 2).trans rfl
  have qg0__3 := (blk_cell Kg0_.out 3).trans rfl
  go_wp2_with fail
  clear zp0_ qp0_0 qp0_1
  clear zw0__ qw0__0 qw0__1 qw0__2 qw0__3
  clear zx0_ qx0_0 qx0_1
  clear zg0__ qg0__0 qg0__1 qg0__2 qg0__3
  refine (laws_markCover.calls k (fun k_ => w6.heap.size ≤ k_ ∧ k_ < qw7) (fun k_ => qw7 ≤ k_ ∧ k_ < w7.heap.size) (fun k_ h1_ h2_ => by have h3_ := h1_; have h4_ := h2_; have zw1_ := Zw1.out; have zw2_ := Zw2.out; have zw3_ := Zw3.out; have zw4_ := Zw4.out; have zw5_ := Zw5.out; have zw6_ := Zw6.out; have zw7_ := Zw7.out; have zqw7_ := Zqw7.out; have zw8_ := Zw8.out; have zw9_ := Zw9.out; have zw10_ := Zw10.out; have zw11_ := Zw11.out; have zw12_ := Zw12.out; have zw13_ := Zw13.out; have zw14_ := Zw14.out; have zw15_ := Zw15.out; have zw16_ := Zw16.out; omega) r0a _ _ _ r0l r0s _ _ _ r0t 1 n0l n0t x0l x0t w _ (by repeat (first | exact HB.out | apply below_alloc | apply pw_below_drewN | apply below_drew1)) (by (with_reducible repeat (first | apply Kd.S_alloc | apply Kd.S_drewN | apply Kd.S_drew)); exact HG0l.out) (by (with_reducible repeat (first | apply Kd.S_alloc | apply Kd.S_drewN | apply Kd.S_drew)); exact HG0t.out) FN0l.out FN0t.out).mono ?_
  rintro e w17 ⟨rfl, hS_, hT_, hb0_, hk0_⟩
  have hk_ : Kept _ w17 (fun k_ => (w6.heap.size ≤ k_ ∧ k_ < qw7) ∨ (qw7 ≤ k_ ∧ k_ < w7.heap.size)) := hk0_
  have nIG0l_ : Aside0 (Kd.S (Kd.slice 2 (Kd.int .i64)) 43 w17 w.heap.size (fun k_ => w6.heap.size ≤ k_ ∧ k_ < qw7) (.slice AG0l r0l.length cG0l) x0l) := ⟨hS_⟩
  have nIG0t_ : Aside0 (Kd.S (Kd.slice 2 (Kd.int .i64)) 43 w17 w.heap.size (fun k_ => qw7 ≤ k_ ∧ k_ < w7.heap.size) (.slice AG0t r0t.length cG0t) x0t) := ⟨hT_⟩
  clear HG0l HG0t hS_ hT_ hk0_
  have nW0l := Aside0.mk (Kd.S_kept (by (with_reducible repeat (first | apply Kd.S_alloc | apply Kd.S_drewN | apply Kd.S_drew)); exact HW0l.out) hk_ (fun k_ h1_ h2_ => by have h3_ := h1_; have h4_ := h2_; have zw1_ := Zw1.out; have zw2_ := Zw2.out; have zw3_ := Zw3.out; have zw4_ := Zw4.out; have zw5_ := Zw5.out; have zw6_ := Zw6.out; have zw7_ := Zw7.out; have zqw7_ := Zqw7.out; have zw8_ := Zw8.out; have zw9_ := Zw9.out; have zw10_ := Zw10.out; have zw11_ := Zw11.out; have zw12_ := Zw12.out; have zw13_ := Zw13.out; have zw14_ := Zw14.out; have zw15_ := Zw15.out; have zw16_ := Zw16.out; omega))
  have nW0t := Aside0.mk (Kd.S_kept (by (with_reducible repeat (first | apply Kd.S_alloc | apply Kd.S_drewN | apply Kd.S_drew)); exact HW0t.out) hk_ (fun k_ h1_ h2_ => by have h3_ := h1_; have h4_ := h2_; have zw1_ := Zw1.out; have zw2_ := Zw2.out; have zw3_ := Zw3.out; have zw4_ := Zw4.out; have zw5_ := Zw5.out; have zw6_ := Zw6.out; have zw7_ := Zw7.out; have zqw7_ := Zqw7.out; have zw8_ := Zw8.out; have zw9_ := Zw9.out; have zw10_ := Zw10.out; have zw11_ := Zw11.out; have zw12_ := Zw12.out; have zw13_ := Zw13.out; have zw14_ := Zw14.out; have zw15_ := Zw15.out; have zw16_ := Zw16.out; omega))
  have nX0 := Aside0.mk (Kd.S_kept (by (with_reducible repeat (first | apply Kd.S_alloc | apply Kd.S_drewN | apply Kd.S_drew)); exact HX0.out) hk_ (fun k_ h1_ h2_ => by have h3_ := h1_; have h4_ := h2_; have zw1_ := Zw1.out; have zw2_ := Zw2.out; have zw3_ := Zw3.out; have zw4_ := Zw4.out; have zw5_ := Zw5.out; have zw6_ := Zw6.out; have zw7_ := Zw7.out; have zqw7_ := Zqw7.out; have zw8_ := Zw8.out; have zw9_ := Zw9.out; have zw10_ := Zw10.out; have zw11_ := Zw11.out; have zw12_ := Zw12.out; have zw13_ := Zw13.out; have zw14_ := Zw14.out; have zw15_ := Zw15.out; have zw16_ := Zw16.out; omega))
  have nX1 := Aside0.mk (Kd.R_kept (by (with_reducible repeat (first | apply Kd.R_alloc | apply Kd.R_drewN | apply Kd.R_drew)); exact HX1.out) hk_ (fun k_ h1_ h2_ => by have h3_ := h1_; have h4_ := h2_; have zw1_ := Zw1.out; have zw2_ := Zw2.out; have zw3_ := Zw3.out; have zw4_ := Zw4.out; have zw5_ := Zw5.out; have zw6_ := Zw6.out; have zw7_ := Zw7.out; have zqw7_ := Zqw7.out; have zw8_ := Zw8.out; have zw9_ := Zw9.out; have zw10_ := Zw10.out; have zw11_ := Zw11.out; have zw12_ := Zw12.out; have zw13_ := Zw13.out; have zw14_ := Zw14.out; have zw15_ := Zw15.out; have zw16_ := Zw16.out; omega))
  have ne1 := Aside0.mk (Kd.R_kept (by (with_reducible repeat (first | apply Kd.R_alloc | apply Kd.R_drewN | apply Kd.R_drew)); exact He1.out) hk_ (fun k_ h1_ h2_ => by have h3_ := h1_; have h4_ := h2_; have zw1_ := Zw1.out; have zw2_ := Zw2.out; have zw3_ := Zw3.out; have zw4_ := Zw4.out; have zw5_ := Zw5.out; have zw6_ := Zw6.out; have zw7_ := Zw7.out; have zqw7_ := Zqw7.out; have zw8_ := Zw8.out; have zw9_ := Zw9.out; have zw10_ := Zw10.out; have zw11_ := Zw11.out; have zw12_ := Zw12.out; have zw13_ := Zw13.out; have zw14_ := Zw14.out; have zw15_ := Zw15.out; have zw16_ := Zw16.out; omega))
  have np0 : Aside0 (w17.heap[w.heap.size]? = some (.cells #[.int .i64 a0, .slice A0 l0.length c0] 24 (0, 0))) := ⟨blk_kept (by (first | exact heap_alloc_new _ _ | (refine blk_alloc ?_ _; exact heap_alloc_new _ _) | ((with_reducible repeat (first | refine blk_drewN ?_ _ | refine blk_drew ?_ | refine blk_alloc ?_ _)); exact Kp0.out))) hk_ (fun h2_ => by have h4_ := h2_; have zw1_ := Zw1.out; have zw2_ := Zw2.out; have zw3_ := Zw3.out; have zw4_ := Zw4.out; have zw5_ := Zw5.out; have zw6_ := Zw6.out; have zw7_ := Zw7.out; have zqw7_ := Zqw7.out; have zw8_ := Zw8.out; have zw9_ := Zw9.out; have zw10_ := Zw10.out; have zw11_ := Zw11.out; have zw12_ := Zw12.out; have zw13_ := Zw13.out; have zw14_ := Zw14.out; have zw15_ := Zw15.out; have zw16_ := Zw16.out; omega)⟩
  have nw0_ : Aside0 (w17.heap[w4.heap.size]? = some (.cells #[.int .i64 r0a, .slice AW0l r0l.length cW0l, .int .i64 r0s, .slice AW0t r0t.length cW0t] 38 (0, 0))) := ⟨blk_kept (by (first | exact heap_alloc_new _ _ | (refine blk_alloc ?_ _; exact heap_alloc_new _ _) | ((with_reducible repeat (first | refine blk_drewN ?_ _ | refine blk_drew ?_ | refine blk_alloc ?_ _)); exact Kw0_.out))) hk_ (fun h2_ => by have h4_ := h2_; have zw1_ := Zw1.out; have zw2_ := Zw2.out; have zw3_ := Zw3.out; have zw4_ := Zw4.out; have zw5_ := Zw5.out; have zw6_ := Zw6.out; have zw7_ := Zw7.out; have zqw7_ := Zqw7.out; have zw8_ := Zw8.out; have zw9_ := Zw9.out; have zw10_ := Zw10.out; have zw11_ := Zw11.out; have zw12_ := Zw12.out; have zw13_ := Zw13.out; have zw14_ := Zw14.out; have zw15_ := Zw15.out; have zw16_ := Zw16.out; omega)⟩
  have nx0 : Aside0 (w17.heap[w5.heap.size]? = some (.cells #[.int .i64 a0, .slice AX0 l0.length cX0] 26 (0, 0))) := ⟨blk_kept (by (first | exact heap_alloc_new _ _ | (refine blk_alloc ?_ _; exact heap_alloc_new _ _) | ((with_reducible repeat (first | refine blk_drewN ?_ _ | refine blk_drew ?_ | refine blk_alloc ?_ _)); exact Kx0.out))) hk_ (fun h2_ => by have h4_ := h2_; have zw1_ := Zw1.out; have zw2_ := Zw2.out; have zw3_ := Zw3.out; have zw4_ := Zw4.out; have zw5_ := Zw5.out; have zw6_ := Zw6.out; have zw7_ := Zw7.out; have zqw7_ := Zqw7.out; have zw8_ := Zw8.out; have zw9_ := Zw9.out; have zw10_ := Zw10.out; have zw11_ := Zw11.out; have zw12_ := Zw12.out; have zw13_ := Zw13.out; have zw14_ := Zw14.out; have zw15_ := Zw15.out; have zw16_ := Zw16.out; omega)⟩
  have ng0_ : Aside0 (w17.heap[w7.heap.size]? = some (.cells #[.int .i64 r0a, .slice AG0l r0l.length cG0l, .int .i64 r0s, .slice AG0t r0t.length cG0t] 38 (0, 0))) := ⟨blk_kept (by (first | exact heap_alloc_new _ _ | (refine blk_alloc ?_ _; exact heap_alloc_new _ _) | ((with_reducible repeat (first | refine blk_drewN ?_ _ | refine blk_drew ?_ | refine blk_alloc ?_ _)); exact Kg0_.out))) hk_ (fun h2_ => by have h4_ := h2_; have zw1_ := Zw1.out; have zw2_ := Zw2.out; have zw3_ := Zw3.out; have zw4_ := Zw4.out; have zw5_ := Zw5.out; have zw6_ := Zw6.out; have zw7_ := Zw7.out; have zqw7_ := Zqw7.out; have zw8_ := Zw8.out; have zw9_ := Zw9.out; have zw10_ := Zw10.out; have zw11_ := Zw11.out; have zw12_ := Zw12.out; have zw13_ := Zw13.out; have zw14_ := Zw14.out; have zw15_ := Zw15.out; have zw16_ := Zw16.out; omega)⟩
  have Zw17 : Aside0 (w16.heap.size + 0 ≤ w17.heap.size) := ⟨by have h_ := hk_.1; (try simp at h_); omega⟩
  have nB_ := Aside0.mk hb0_
  clear HB HW0l HW0t HX0 HX1 He1 Kp0 Kw0_ Kx0 Kg0_ hk_ hb0_
  have HB := nB_
  clear nB_
  have HW0l := nW0l
  clear nW0l
  have HW0t := nW0t
  clear nW0t
  have HX0 := nX0
  clear nX0
  have HX1 := nX1
  clear nX1
  have He1 := ne1
  clear ne1
  have Kp0 := np0
  clear np0
  have Kw0_ := nw0_
  clear nw0_
  have Kx0 := nx0
  clear nx0
  have Kg0_ := ng0_
  clear ng0_
  have HG0l := nIG0l_
  clear nIG0l_
  have LG0lw17 : Aside0 (x0l.length = r0l.length) := ⟨(Kd.S_reads' HG0l.out).1.symm⟩
  have HG0t := nIG0t_
  clear nIG0t_
  have LG0tw17 : Aside0 (x0t.length = r0t.length) := ⟨(Kd.S_reads' HG0t.out).1.symm⟩
  try clear qp0_0 qp0_1 qw0__0 qw0__1 qw0__2 qw0__3 qx0_0 qx0_1 qg0__0 qg0__1 qg0__2 qg0__3
  have zp0_ := blk_lt Kp0.out
  have qp0_0 := (blk_cell Kp0.out 0).trans rfl
  have qp0_1 := (blk_cell Kp0.out 1).trans rfl
  have zw0__ := blk_lt Kw0_.out
  have qw0__0 := (blk_cell Kw0_.out 0).trans rfl
  have qw0__1 := (blk_cell Kw0_.out 1).trans rfl
  have qw0__2 := (blk_cell Kw0_.out 2).trans rfl
  have qw0__3 := (blk_cell Kw0_.out 3).trans rfl
  have zx0_ := blk_lt Kx0.out
  have qx0_0 := (blk_cell Kx0.out 0).trans rfl
  have qx0_1 := (blk_cell Kx0.out 1).trans rfl
  have zg0__ := blk_lt Kg0_.out
  have qg0__0 := (blk_cell Kg0_.out 0).trans rfl
  have qg0__1 := (blk_cell Kg0_.out 1).trans rfl
  have qg0__2 := (blk_cell Kg0_.out 2).trans rfl
  have qg0__3 := (blk_cell Kg0_.out 3).trans rfl
  go_wp2_with fail
  clear zp0_ qp0_0 qp0_1
  clear zw0__ qw0__0 qw0__1 qw0__2 qw0__3
  clear zx0_ qx0_0 qx0_1
  clear zg0__ qg0__0 qg0__1 qg0__2 qg0__3
  rw [← LG0lw17.out]
  rw [← LG0tw17.out]
  refine (laws_heldCover.calls k r0a _ _ x0l r0s _ _ x0t 1 n0t _ (Kd.S_reads' (by (with_reducible repeat (first | apply Kd.S_alloc | apply Kd.S_drewN | apply Kd.S_drew)); exact HG0l.out)).2.2 (by rw [LG0lw17.out]; exact (Kd.S_reads' HG0l.out).2.1) (Kd.S_reads' (by (with_reducible repeat (first | apply Kd.S_alloc | apply Kd.S_drewN | apply Kd.S_drew)); exact HG0t.out)).2.2 (by rw [LG0tw17.out]; exact (Kd.S_reads' HG0t.out).2.1) FH0.out).mono ?_
  rintro e w18 ⟨rfl, hb_⟩
  have nW0l := Aside0.mk (Kd.S_below (by (with_reducible repeat (first | apply Kd.S_alloc | apply Kd.S_drewN | apply Kd.S_drew)); exact HW0l.out) hb_)
  have nW0t := Aside0.mk (Kd.S_below (by (with_reducible repeat (first | apply Kd.S_alloc | apply Kd.S_drewN | apply Kd.S_drew)); exact HW0t.out) hb_)
  have nX0 := Aside0.mk (Kd.S_below (by (with_reducible repeat (first | apply Kd.S_alloc | apply Kd.S_drewN | apply Kd.S_drew)); exact HX0.out) hb_)
  have nX1 := Aside0.mk (Kd.R_below (by (with_reducible repeat (first | apply Kd.R_alloc | apply Kd.R_drewN | apply Kd.R_drew)); exact HX1.out) hb_)
  have nG0l := Aside0.mk (Kd.S_below (by (with_reducible repeat (first | apply Kd.S_alloc | apply Kd.S_drewN | apply Kd.S_drew)); exact HG0l.out) hb_)
  have nG0t := Aside0.mk (Kd.S_below (by (with_reducible repeat (first | apply Kd.S_alloc | apply Kd.S_drewN | apply Kd.S_drew)); exact HG0t.out) hb_)
  have ne1 := Aside0.mk (Kd.R_below (by (with_reducible repeat (first | apply Kd.R_alloc | apply Kd.R_drewN | apply Kd.R_drew)); exact He1.out) hb_)
  have np0 : Aside0 (w18.heap[w.heap.size]? = some (.cells #[.int .i64 a0, .slice A0 l0.length c0] 24 (0, 0))) := ⟨blk_below (by (first | exact heap_alloc_new _ _ | (refine blk_alloc ?_ _; exact heap_alloc_new _ _) | ((with_reducible repeat (first | refine blk_drewN ?_ _ | refine blk_drew ?_ | refine blk_alloc ?_ _)); exact Kp0.out))) hb_⟩
  have nw0_ : Aside0 (w18.heap[w4.heap.size]? = some (.cells #[.int .i64 r0a, .slice AW0l r0l.length cW0l, .int .i64 r0s, .slice AW0t r0t.length cW0t] 38 (0, 0))) := ⟨blk_below (by (first | exact heap_alloc_new _ _ | (refine blk_alloc ?_ _; exact heap_alloc_new _ _) | ((with_reducible repeat (first | refine blk_drewN ?_ _ | refine blk_drew ?_ | refine blk_alloc ?_ _)); exact Kw0_.out))) hb_⟩
  have nx0 : Aside0 (w18.heap[w5.heap.size]? = some (.cells #[.int .i64 a0, .slice AX0 l0.length cX0] 26 (0, 0))) := ⟨blk_below (by (first | exact heap_alloc_new _ _ | (refine blk_alloc ?_ _; exact heap_alloc_new _ _) | ((with_reducible repeat (first | refine blk_drewN ?_ _ | refine blk_drew ?_ | refine blk_alloc ?_ _)); exact Kx0.out))) hb_⟩
  have ng0_ : Aside0 (w18.heap[w7.heap.size]? = some (.cells #[.int .i64 r0a, .slice AG0l r0l.length cG0l, .int .i64 r0s, .slice AG0t r0t.length cG0t] 38 (0, 0))) := ⟨blk_below (by (first | exact heap_alloc_new _ _ | (refine blk_alloc ?_ _; exact heap_alloc_new _ _) | ((with_reducible repeat (first | refine blk_drewN ?_ _ | refine blk_drew ?_ | refine blk_alloc ?_ _)); exact Kg0_.out))) hb_⟩
  have Zw18 : Aside0 (w17.heap.size + 0 ≤ w18.heap.size) := ⟨by have h_ := hb_.size; (try simp at h_); omega⟩
  have nB_ := Aside0.mk (below_step (by repeat (first | exact HB.out | apply below_alloc | apply pw_below_drewN | apply below_drew1)) hb_)
  clear HB HW0l HW0t HX0 HX1 HG0l HG0t He1 Kp0 Kw0_ Kx0 Kg0_ hb_
  have HB := nB_
  clear nB_
  have HW0l := nW0l
  clear nW0l
  have HW0t := nW0t
  clear nW0t
  have HX0 := nX0
  clear nX0
  have HX1 := nX1
  clear nX1
  have HG0l := nG0l
  clear nG0l
  have HG0t := nG0t
  clear nG0t
  have He1 := ne1
  clear ne1
  have Kp0 := np0
  clear np0
  have Kw0_ := nw0_
  clear nw0_
  have Kx0 := nx0
  clear nx0
  have Kg0_ := ng0_
  clear ng0_
  try rw [LG0lw17.out]
  try rw [LG0tw17.out]
  try clear qp0_0 qp0_1 qw0__0 qw0__1 qw0__2 qw0__3 qx0_0 qx0_1 qg0__0 qg0__1 qg0__2 qg0__3
  have zp0_ := blk_lt Kp0.out
  have qp0_0 := (blk_cell Kp0.out 0).trans rfl
  have qp0_1 := (blk_cell Kp0.out 1).trans rfl
  have zw0__ := blk_lt Kw0_.out
  have qw0__0 := (blk_cell Kw0_.out 0).trans rfl
  have qw0__1 := (blk_cell Kw0_.out 1).trans rfl
  have qw0__2 := (blk_cell Kw0_.out 2).trans rfl
  have qw0__3 := (blk_cell Kw0_.out 3).trans rfl
  have zx0_ := blk_lt Kx0.out
  have qx0_0 := (blk_cell Kx0.out 0).trans rfl
  have qx0_1 := (blk_cell Kx0.out 1).trans rfl
  have zg0__ := blk_lt Kg0_.out
  have qg0__0 := (blk_cell Kg0_.out 0).trans rfl
  have qg0__1 := (blk_cell Kg0_.out 1).trans rfl
  have qg0__2 := (blk_cell Kg0_.out 2).trans rfl
  have qg0__3 := (blk_cell Kg0_.out 3).trans rfl
  go_wp2_with fail
  clear zp0_ qp0_0 qp0_1
  clear zw0__ qw0__0 qw0__1 qw0__2 qw0__3
  clear zx0_ qx0_0 qx0_1
  clear zg0__ qg0__0 qg0__1 qg0__2 qg0__3
  refine (laws_toGraph.calls k a0 _ _ l0 a0 l0 _ (Kd.C_below HR0.out (by repeat (first | exact HB.out | apply below_alloc | apply pw_below_drewN | apply below_drew1))) hc0 FG0.out).mono ?_
  rintro e w19 ⟨vu0, rfl, hsu0_, hb_⟩
  have HB0_ := Aside0.mk (by repeat (first | exact HB.out | apply below_alloc | apply pw_below_drewN | apply below_drew1))
  have Hu0 : Aside0 (Kd.S (Kd.slice 2 (Kd.int .i64)) 43 w19 w.heap.size (fun k_ => w18.heap.size ≤ k_ ∧ k_ < w19.heap.size) _ l0) := ⟨Kd.S_mono (Kd.S_lower (Kd.S_bound hsu0_) (by have h_ := HB0_.out.size; (try simp at h_); (try simp); omega)) (fun k_ hk_ => ⟨by have h_ := hk_.2.1; (try simp at h_); omega, hk_.2.2.1⟩)⟩
  clear HB0_ hsu0_
  have nW0l := Aside0.mk (Kd.S_below (by (with_reducible repeat (first | apply Kd.S_alloc | apply Kd.S_drewN | apply Kd.S_drew)); exact HW0l.out) hb_)
  have nW0t := Aside0.mk (Kd.S_below (by (with_reducible repeat (first | apply Kd.S_alloc | apply Kd.S_drewN | apply Kd.S_drew)); exact HW0t.out) hb_)
  have nX0 := Aside0.mk (Kd.S_below (by (with_reducible repeat (first | apply Kd.S_alloc | apply Kd.S_drewN | apply Kd.S_drew)); exact HX0.out) hb_)
  have nX1 := Aside0.mk (Kd.R_below (by (with_reducible repeat (first | apply Kd.R_alloc | apply Kd.R_drewN | apply Kd.R_drew)); exact HX1.out) hb_)
  have nG0l := Aside0.mk (Kd.S_below (by (with_reducible repeat (first | apply Kd.S_alloc | apply Kd.S_drewN | apply Kd.S_drew)); exact HG0l.out) hb_)
  have nG0t := Aside0.mk (Kd.S_below (by (with_reducible repeat (first | apply Kd.S_alloc | apply Kd.S_drewN | apply Kd.S_drew)); exact HG0t.out) hb_)
  have ne1 := Aside0.mk (Kd.R_below (by (with_reducible repeat (first | apply Kd.R_alloc | apply Kd.R_drewN | apply Kd.R_drew)); exact He1.out) hb_)
  have np0 : Aside0 (w19.heap[w.heap.size]? = some (.cells #[.int .i64 a0, .slice A0 l0.length c0] 24 (0, 0))) := ⟨blk_below (by (first | exact heap_alloc_new _ _ | (refine blk_alloc ?_ _; exact heap_alloc_new _ _) | ((with_reducible repeat (first | refine blk_drewN ?_ _ | refine blk_drew ?_ | refine blk_alloc ?_ _)); exact Kp0.out))) hb_⟩
  have nw0_ : Aside0 (w19.heap[w4.heap.size]? = some (.cells #[.int .i64 r0a, .slice AW0l r0l.length cW0l, .int .i64 r0s, .slice AW0t r0t.length cW0t] 38 (0, 0))) := ⟨blk_below (by (first | exact heap_alloc_new _ _ | (refine blk_alloc ?_ _; exact heap_alloc_new _ _) | ((with_reducible repeat (first | refine blk_drewN ?_ _ | refine blk_drew ?_ | refine blk_alloc ?_ _)); exact Kw0_.out))) hb_⟩
  have nx0 : Aside0 (w19.heap[w5.heap.size]? = some (.cells #[.int .i64 a0, .slice AX0 l0.length cX0] 26 (0, 0))) := ⟨blk_below (by (first | exact heap_alloc_new _ _ | (refine blk_alloc ?_ _; exact heap_alloc_new _ _) | ((with_reducible repeat (first | refine blk_drewN ?_ _ | refine blk_drew ?_ | refine blk_alloc ?_ _)); exact Kx0.out))) hb_⟩
  have ng0_ : Aside0 (w19.heap[w7.heap.size]? = some (.cells #[.int .i64 r0a, .slice AG0l r0l.length cG0l, .int .i64 r0s, .slice AG0t r0t.length cG0t] 38 (0, 0))) := ⟨blk_below (by (first | exact heap_alloc_new _ _ | (refine blk_alloc ?_ _; exact heap_alloc_new _ _) | ((with_reducible repeat (first | refine blk_drewN ?_ _ | refine blk_drew ?_ | refine blk_alloc ?_ _)); exact Kg0_.out))) hb_⟩
  have Zw19 : Aside0 (w18.heap.size + 0 ≤ w19.heap.size) := ⟨by have h_ := hb_.size; (try simp at h_); omega⟩
  have nB_ := Aside0.mk (below_step (by repeat (first | exact HB.out | apply below_alloc | apply pw_below_drewN | apply below_drew1)) hb_)
  clear HB HW0l HW0t HX0 HX1 HG0l HG0t He1 Kp0 Kw0_ Kx0 Kg0_ hb_
  have HB := nB_
  clear nB_
  have HW0l := nW0l
  clear nW0l
  have HW0t := nW0t
  clear nW0t
  have HX0 := nX0
  clear nX0
  have HX1 := nX1
  clear nX1
  have HG0l := nG0l
  clear nG0l
  have HG0t := nG0t
  clear nG0t
  have He1 := ne1
  clear ne1
  have Kp0 := np0
  clear np0
  have Kw0_ := nw0_
  clear nw0_
  have Kx0 := nx0
  clear nx0
  have Kg0_ := ng0_
  clear ng0_
  obtain ⟨Au0, cu0, eu0⟩ := Kd.S_slice Hu0.out
  subst eu0
  try clear qp0_0 qp0_1 qw0__0 qw0__1 qw0__2 qw0__3 qx0_0 qx0_1 qg0__0 qg0__1 qg0__2 qg0__3
  have zp0_ := blk_lt Kp0.out
  have qp0_0 := (blk_cell Kp0.out 0).trans rfl
  have qp0_1 := (blk_cell Kp0.out 1).trans rfl
  have zw0__ := blk_lt Kw0_.out
  have qw0__0 := (blk_cell Kw0_.out 0).trans rfl
  have qw0__1 := (blk_cell Kw0_.out 1).trans rfl
  have qw0__2 := (blk_cell Kw0_.out 2).trans rfl
  have qw0__3 := (blk_cell Kw0_.out 3).trans rfl
  have zx0_ := blk_lt Kx0.out
  have qx0_0 := (blk_cell Kx0.out 0).trans rfl
  have qx0_1 := (blk_cell Kx0.out 1).trans rfl
  have zg0__ := blk_lt Kg0_.out
  have qg0__0 := (blk_cell Kg0_.out 0).trans rfl
  have qg0__1 := (blk_cell Kg0_.out 1).trans rfl
  have qg0__2 := (blk_cell Kg0_.out 2).trans rfl
  have qg0__3 := (blk_cell Kg0_.out 3).trans rfl
  go_wp2_with fail
  clear zp0_ qp0_0 qp0_1
  clear zw0__ qw0__0 qw0__1 qw0__2 qw0__3
  clear zx0_ qx0_0 qx0_1
  clear zg0__ qg0__0 qg0__1 qg0__2 qg0__3
  refine (laws_toInt64S.calls k _ _ l1 l1 _ (Kd.C_below HR1.out (by repeat (first | exact HB.out | apply below_alloc | apply pw_below_drewN | apply below_drew1))) hc1 FG1.out).mono ?_
  rintro e w20 ⟨vu1, rfl, hsu1_, hb_⟩
  have HB0_ := Aside0.mk (by repeat (first | exact HB.out | apply below_alloc | apply pw_below_drewN | apply below_drew1))
  have Hu1 : Aside0 (Kd.R (Kd.int .i64) 2 w20 w.heap.size (fun k_ => w19.heap.size ≤ k_ ∧ k_ < w20.heap.size) _ l1) := ⟨Kd.R_mono (Kd.R_lower (Kd.R_bound hsu1_) (by have h_ := HB0_.out.size; (try simp at h_); (try simp); omega)) (fun k_ hk_ => ⟨by have h_ := hk_.2.1; (try simp at h_); omega, hk_.2.2.1⟩)⟩
  clear HB0_ hsu1_
  have nW0l := Aside0.mk (Kd.S_below (by (with_reducible repeat (first | apply Kd.S_alloc | apply Kd.S_drewN | apply Kd.S_drew)); exact HW0l.out) hb_)
  have nW0t := Aside0.mk (Kd.S_below (by (with_reducible repeat (first | apply Kd.S_alloc | apply Kd.S_drewN | apply Kd.S_drew)); exact HW0t.out) hb_)
  have nX0 := Aside0.mk (Kd.S_below (by (with_reducible repeat (first | apply Kd.S_alloc | apply Kd.S_drewN | apply Kd.S_drew)); exact HX0.out) hb_)
  have nX1 := Aside0.mk (Kd.R_below (by (with_reducible repeat (first | apply Kd.R_alloc | apply Kd.R_drewN | apply Kd.R_drew)); exact HX1.out) hb_)
  have nG0l := Aside0.mk (Kd.S_below (by (with_reducible repeat (first | apply Kd.S_alloc | apply Kd.S_drewN | apply Kd.S_drew)); exact HG0l.out) hb_)
  have nG0t := Aside0.mk (Kd.S_below (by (with_reducible repeat (first | apply Kd.S_alloc | apply Kd.S_drewN | apply Kd.S_drew)); exact HG0t.out) hb_)
  have ne1 := Aside0.mk (Kd.R_below (by (with_reducible repeat (first | apply Kd.R_alloc | apply Kd.R_drewN | apply Kd.R_drew)); exact He1.out) hb_)
  have nu0 := Aside0.mk (Kd.S_below (by (with_reducible repeat (first | apply Kd.S_alloc | apply Kd.S_drewN | apply Kd.S_drew)); exact Hu0.out) hb_)
  have np0 : Aside0 (w20.heap[w.heap.size]? = some (.cells #[.int .i64 a0, .slice A0 l0.length c0] 24 (0, 0))) := ⟨blk_below (by (first | exact heap_alloc_new _ _ | (refine blk_alloc ?_ _; exact heap_alloc_new _ _) | ((with_reducible repeat (first | refine blk_drewN ?_ _ | refine blk_drew ?_ | refine blk_alloc ?_ _)); exact Kp0.out))) hb_⟩
  have nw0_ : Aside0 (w20.heap[w4.heap.size]? = some (.cells #[.int .i64 r0a, .slice AW0l r0l.length cW0l, .int .i64 r0s, .slice AW0t r0t.length cW0t] 38 (0, 0))) := ⟨blk_below (by (first | exact heap_alloc_new _ _ | (refine blk_alloc ?_ _; exact heap_alloc_new _ _) | ((with_reducible repeat (first | refine blk_drewN ?_ _ | refine blk_drew ?_ | refine blk_alloc ?_ _)); exact Kw0_.out))) hb_⟩
  have nx0 : Aside0 (w20.heap[w5.heap.size]? = some (.cells #[.int .i64 a0, .slice AX0 l0.length cX0] 26 (0, 0))) := ⟨blk_below (by (first | exact heap_alloc_new _ _ | (refine blk_alloc ?_ _; exact heap_alloc_new _ _) | ((with_reducible repeat (first | refine blk_drewN ?_ _ | refine blk_drew ?_ | refine blk_alloc ?_ _)); exact Kx0.out))) hb_⟩
  have ng0_ : Aside0 (w20.heap[w7.heap.size]? = some (.cells #[.int .i64 r0a, .slice AG0l r0l.length cG0l, .int .i64 r0s, .slice AG0t r0t.length cG0t] 38 (0, 0))) := ⟨blk_below (by (first | exact heap_alloc_new _ _ | (refine blk_alloc ?_ _; exact heap_alloc_new _ _) | ((with_reducible repeat (first | refine blk_drewN ?_ _ | refine blk_drew ?_ | refine blk_alloc ?_ _)); exact Kg0_.out))) hb_⟩
  have Zw20 : Aside0 (w19.heap.size + 0 ≤ w20.heap.size) := ⟨by have h_ := hb_.size; (try simp at h_); omega⟩
  have nB_ := Aside0.mk (below_step (by repeat (first | exact HB.out | apply below_alloc | apply pw_below_drewN | apply below_drew1)) hb_)
  clear HB HW0l HW0t HX0 HX1 HG0l HG0t He1 Hu0 Kp0 Kw0_ Kx0 Kg0_ hb_
  have HB := nB_
  clear nB_
  have HW0l := nW0l
  clear nW0l
  have HW0t := nW0t
  clear nW0t
  have HX0 := nX0
  clear nX0
  have HX1 := nX1
  clear nX1
  have HG0l := nG0l
  clear nG0l
  have HG0t := nG0t
  clear nG0t
  have He1 := ne1
  clear ne1
  have Hu0 := nu0
  clear nu0
  have Kp0 := np0
  clear np0
  have Kw0_ := nw0_
  clear nw0_
  have Kx0 := nx0
  clear nx0
  have Kg0_ := ng0_
  clear ng0_
  obtain ⟨Au1, cu1, eu1⟩ := Kd.R_slice Hu1.out
  subst eu1
  try clear qp0_0 qp0_1 qw0__0 qw0__1 qw0__2 qw0__3 qx0_0 qx0_1 qg0__0 qg0__1 qg0__2 qg0__3
  have zp0_ := blk_lt Kp0.out
  have qp0_0 := (blk_cell Kp0.out 0).trans rfl
  have qp0_1 := (blk_cell Kp0.out 1).trans rfl
  have zw0__ := blk_lt Kw0_.out
  have qw0__0 := (blk_cell Kw0_.out 0).trans rfl
  have qw0__1 := (blk_cell Kw0_.out 1).trans rfl
  have qw0__2 := (blk_cell Kw0_.out 2).trans rfl
  have qw0__3 := (blk_cell Kw0_.out 3).trans rfl
  have zx0_ := blk_lt Kx0.out
  have qx0_0 := (blk_cell Kx0.out 0).trans rfl
  have qx0_1 := (blk_cell Kx0.out 1).trans rfl
  have zg0__ := blk_lt Kg0_.out
  have qg0__0 := (blk_cell Kg0_.out 0).trans rfl
  have qg0__1 := (blk_cell Kg0_.out 1).trans rfl
  have qg0__2 := (blk_cell Kg0_.out 2).trans rfl
  have qg0__3 := (blk_cell Kg0_.out 3).trans rfl
  go_wp2_with fail
  clear zp0_ qp0_0 qp0_1
  clear zw0__ qw0__0 qw0__1 qw0__2 qw0__3
  clear zx0_ qx0_0 qx0_1
  clear zg0__ qg0__0 qg0__1 qg0__2 qg0__3
  refine (impl_DoubleCover.calls k a0 _ _ l0 _ _ l1 r0a r0l r0s r0t r1a _ (Kd.S_reads' (by (with_reducible repeat (first | apply Kd.S_alloc | apply Kd.S_drewN | apply Kd.S_drew)); exact Hu0.out)).2.2 (Kd.S_reads' Hu0.out).2.1 (Kd.R_reads' (by (with_reducible repeat (first | apply Kd.R_alloc | apply Kd.R_drewN | apply Kd.R_drew)); exact Hu1.out)).2.2 (Kd.R_reads' Hu1.out).2.1 FI.out).mono ?_
  rintro e w21 ⟨vV0l, vV0t, rfl, hsV0l_, hsV0t_, hb_⟩
  have HB0_ := Aside0.mk (by repeat (first | exact HB.out | apply below_alloc | apply pw_below_drewN | apply below_drew1))
  have HV0l : Aside0 (Kd.S (Kd.slice 2 (Kd.int .i64)) 43 w21 w.heap.size (fun k_ => w20.heap.size ≤ k_ ∧ k_ < w21.heap.size) _ r0l) := ⟨Kd.S_mono (Kd.S_lower (Kd.S_bound hsV0l_) (by have h_ := HB0_.out.size; (try simp at h_); (try simp); omega)) (fun k_ hk_ => ⟨by have h_ := hk_.2.1; (try simp at h_); omega, hk_.2.2.1⟩)⟩
  have HV0t : Aside0 (Kd.S (Kd.slice 2 (Kd.int .i64)) 43 w21 w.heap.size (fun k_ => w20.heap.size ≤ k_ ∧ k_ < w21.heap.size) _ r0t) := ⟨Kd.S_mono (Kd.S_lower (Kd.S_bound hsV0t_) (by have h_ := HB0_.out.size; (try simp at h_); (try simp); omega)) (fun k_ hk_ => ⟨by have h_ := hk_.2.1; (try simp at h_); omega, hk_.2.2.1⟩)⟩
  clear HB0_ hsV0l_ hsV0t_
  clear Hu0
  clear Hu1
  have nW0l := Aside0.mk (Kd.S_below (by (with_reducible repeat (first | apply Kd.S_alloc | apply Kd.S_drewN | apply Kd.S_drew)); exact HW0l.out) hb_)
  have nW0t := Aside0.mk (Kd.S_below (by (with_reducible repeat (first | apply Kd.S_alloc | apply Kd.S_drewN | apply Kd.S_drew)); exact HW0t.out) hb_)
  have nX0 := Aside0.mk (Kd.S_below (by (with_reducible repeat (first | apply Kd.S_alloc | apply Kd.S_drewN | apply Kd.S_drew)); exact HX0.out) hb_)
  have nX1 := Aside0.mk (Kd.R_below (by (with_reducible repeat (first | apply Kd.R_alloc | apply Kd.R_drewN | apply Kd.R_drew)); exact HX1.out) hb_)
  have nG0l := Aside0.mk (Kd.S_below (by (with_reducible repeat (first | apply Kd.S_alloc | apply Kd.S_drewN | apply Kd.S_drew)); exact HG0l.out) hb_)
  have nG0t := Aside0.mk (Kd.S_below (by (with_reducible repeat (first | apply Kd.S_alloc | apply Kd.S_drewN | apply Kd.S_drew)); exact HG0t.out) hb_)
  have ne1 := Aside0.mk (Kd.R_below (by (with_reducible repeat (first | apply Kd.R_alloc | apply Kd.R_drewN | apply Kd.R_drew)); exact He1.out) hb_)
  have np0 : Aside0 (w21.heap[w.heap.size]? = some (.cells #[.int .i64 a0, .slice A0 l0.length c0] 24 (0, 0))) := ⟨blk_below (by (first | exact heap_alloc_new _ _ | (refine blk_alloc ?_ _; exact heap_alloc_new _ _) | ((with_reducible repeat (first | refine blk_drewN ?_ _ | refine blk_drew ?_ | refine blk_alloc ?_ _)); exact Kp0.out))) hb_⟩
  have nw0_ : Aside0 (w21.heap[w4.heap.size]? = some (.cells #[.int .i64 r0a, .slice AW0l r0l.length cW0l, .int .i64 r0s, .slice AW0t r0t.length cW0t] 38 (0, 0))) := ⟨blk_below (by (first | exact heap_alloc_new _ _ | (refine blk_alloc ?_ _; exact heap_alloc_new _ _) | ((with_reducible repeat (first | refine blk_drewN ?_ _ | refine blk_drew ?_ | refine blk_alloc ?_ _)); exact Kw0_.out))) hb_⟩
  have nx0 : Aside0 (w21.heap[w5.heap.size]? = some (.cells #[.int .i64 a0, .slice AX0 l0.length cX0] 26 (0, 0))) := ⟨blk_below (by (first | exact heap_alloc_new _ _ | (refine blk_alloc ?_ _; exact heap_alloc_new _ _) | ((with_reducible repeat (first | refine blk_drewN ?_ _ | refine blk_drew ?_ | refine blk_alloc ?_ _)); exact Kx0.out))) hb_⟩
  have ng0_ : Aside0 (w21.heap[w7.heap.size]? = some (.cells #[.int .i64 r0a, .slice AG0l r0l.length cG0l, .int .i64 r0s, .slice AG0t r0t.length cG0t] 38 (0, 0))) := ⟨blk_below (by (first | exact heap_alloc_new _ _ | (refine blk_alloc ?_ _; exact heap_alloc_new _ _) | ((with_reducible repeat (first | refine blk_drewN ?_ _ | refine blk_drew ?_ | refine blk_alloc ?_ _)); exact Kg0_.out))) hb_⟩
  have Zw21 : Aside0 (w20.heap.size + 0 ≤ w21.heap.size) := ⟨by have h_ := hb_.size; (try simp at h_); omega⟩
  have nB_ := Aside0.mk (below_step (by repeat (first | exact HB.out | apply below_alloc | apply pw_below_drewN | apply below_drew1)) hb_)
  clear HB HW0l HW0t HX0 HX1 HG0l HG0t He1 Kp0 Kw0_ Kx0 Kg0_ hb_
  have HB := nB_
  clear nB_
  have HW0l := nW0l
  clear nW0l
  have HW0t := nW0t
  clear nW0t
  have HX0 := nX0
  clear nX0
  have HX1 := nX1
  clear nX1
  have HG0l := nG0l
  clear nG0l
  have HG0t := nG0t
  clear nG0t
  have He1 := ne1
  clear ne1
  have Kp0 := np0
  clear np0
  have Kw0_ := nw0_
  clear nw0_
  have Kx0 := nx0
  clear nx0
  have Kg0_ := ng0_
  clear ng0_
  obtain ⟨AV0l, cV0l, eV0l⟩ := Kd.S_slice HV0l.out
  subst eV0l
  obtain ⟨AV0t, cV0t, eV0t⟩ := Kd.S_slice HV0t.out
  subst eV0t
  try clear qp0_0 qp0_1 qw0__0 qw0__1 qw0__2 qw0__3 qx0_0 qx0_1 qg0__0 qg0__1 qg0__2 qg0__3 qv0__0 qv0__1 qv0__2 qv0__3
  have zp0_ := blk_lt Kp0.out
  have qp0_0 := (blk_cell Kp0.out 0).trans rfl
  have qp0_1 := (blk_cell Kp0.out 1).trans rfl
  have zw0__ := blk_lt Kw0_.out
  have qw0__0 := (blk_cell Kw0_.out 0).trans rfl
  have qw0__1 := (blk_cell Kw0_.out 1).trans rfl
  have qw0__2 := (blk_cell Kw0_.out 2).trans rfl
  have qw0__3 := (blk_cell Kw0_.out 3).trans rfl
  have zx0_ := blk_lt Kx0.out
  have qx0_0 := (blk_cell Kx0.out 0).trans rfl
  have qx0_1 := (blk_cell Kx0.out 1).trans rfl
  have zg0__ := blk_lt Kg0_.out
  have qg0__0 := (blk_cell Kg0_.out 0).trans rfl
  have qg0__1 := (blk_cell Kg0_.out 1).trans rfl
  have qg0__2 := (blk_cell Kg0_.out 2).trans rfl
  have qg0__3 := (blk_cell Kg0_.out 3).trans rfl
  go_wp2_with fail
  clear zp0_ qp0_0 qp0_1
  clear zw0__ qw0__0 qw0__1 qw0__2 qw0__3
  clear zx0_ qx0_0 qx0_1
  clear zg0__ qg0__0 qg0__1 qg0__2 qg0__3
  refine (laws_eqCover.calls k r0a _ _ r0l r0s _ _ r0t r0a _ _ r0l r0s _ _ r0t true _ (Kd.S_reads' (by (with_reducible repeat (first | apply Kd.S_alloc | apply Kd.S_drewN | apply Kd.S_drew)); exact HV0l.out)).2.2 (Kd.S_reads' HV0l.out).2.1 (Kd.S_reads' (by (with_reducible repeat (first | apply Kd.S_alloc | apply Kd.S_drewN | apply Kd.S_drew)); exact HV0t.out)).2.2 (Kd.S_reads' HV0t.out).2.1 (Kd.S_reads' (by (with_reducible repeat (first | apply Kd.S_alloc | apply Kd.S_drewN | apply Kd.S_drew)); exact HW0l.out)).2.2 (Kd.S_reads' HW0l.out).2.1 (Kd.S_reads' (by (with_reducible repeat (first | apply Kd.S_alloc | apply Kd.S_drewN | apply Kd.S_drew)); exact HW0t.out)).2.2 (Kd.S_reads' HW0t.out).2.1 FE0.out).mono ?_
  rintro e w22 ⟨rfl, hb_⟩
  have HB0_ := Aside0.mk (by repeat (first | exact HB.out | apply below_alloc | apply pw_below_drewN | apply below_drew1))
  clear HB0_
  have nW0l := Aside0.mk (Kd.S_below (by (with_reducible repeat (first | apply Kd.S_alloc | apply Kd.S_drewN | apply Kd.S_drew)); exact HW0l.out) hb_)
  have nW0t := Aside0.mk (Kd.S_below (by (with_reducible repeat (first | apply Kd.S_alloc | apply Kd.S_drewN | apply Kd.S_drew)); exact HW0t.out) hb_)
  have nX0 := Aside0.mk (Kd.S_below (by (with_reducible repeat (first | apply Kd.S_alloc | apply Kd.S_drewN | apply Kd.S_drew)); exact HX0.out) hb_)
  have nX1 := Aside0.mk (Kd.R_below (by (with_reducible repeat (first | apply Kd.R_alloc | apply Kd.R_drewN | apply Kd.R_drew)); exact HX1.out) hb_)
  have nG0l := Aside0.mk (Kd.S_below (by (with_reducible repeat (first | apply Kd.S_alloc | apply Kd.S_drewN | apply Kd.S_drew)); exact HG0l.out) hb_)
  have nG0t := Aside0.mk (Kd.S_below (by (with_reducible repeat (first | apply Kd.S_alloc | apply Kd.S_drewN | apply Kd.S_drew)); exact HG0t.out) hb_)
  have ne1 := Aside0.mk (Kd.R_below (by (with_reducible repeat (first | apply Kd.R_alloc | apply Kd.R_drewN | apply Kd.R_drew)); exact He1.out) hb_)
  have nV0l := Aside0.mk (Kd.S_below (by (with_reducible repeat (first | apply Kd.S_alloc | apply Kd.S_drewN | apply Kd.S_drew)); exact HV0l.out) hb_)
  have nV0t := Aside0.mk (Kd.S_below (by (with_reducible repeat (first | apply Kd.S_alloc | apply Kd.S_drewN | apply Kd.S_drew)); exact HV0t.out) hb_)
  have np0 : Aside0 (w22.heap[w.heap.size]? = some (.cells #[.int .i64 a0, .slice A0 l0.length c0] 24 (0, 0))) := ⟨blk_below (by (first | exact heap_alloc_new _ _ | (refine blk_alloc ?_ _; exact heap_alloc_new _ _) | ((with_reducible repeat (first | refine blk_drewN ?_ _ | refine blk_drew ?_ | refine blk_alloc ?_ _)); exact Kp0.out))) hb_⟩
  have nw0_ : Aside0 (w22.heap[w4.heap.size]? = some (.cells #[.int .i64 r0a, .slice AW0l r0l.length cW0l, .int .i64 r0s, .slice AW0t r0t.length cW0t] 38 (0, 0))) := ⟨blk_below (by (first | exact heap_alloc_new _ _ | (refine blk_alloc ?_ _; exact heap_alloc_new _ _) | ((with_reducible repeat (first | refine blk_drewN ?_ _ | refine blk_drew ?_ | refine blk_alloc ?_ _)); exact Kw0_.out))) hb_⟩
  have nx0 : Aside0 (w22.heap[w5.heap.size]? = some (.cells #[.int .i64 a0, .slice AX0 l0.length cX0] 26 (0, 0))) := ⟨blk_below (by (first | exact heap_alloc_new _ _ | (refine blk_alloc ?_ _; exact heap_alloc_new _ _) | ((with_reducible repeat (first | refine blk_drewN ?_ _ | refine blk_drew ?_ | refine blk_alloc ?_ _)); exact Kx0.out))) hb_⟩
  have ng0_ : Aside0 (w22.heap[w7.heap.size]? = some (.cells #[.int .i64 r0a, .slice AG0l r0l.length cG0l, .int .i64 r0s, .slice AG0t r0t.length cG0t] 38 (0, 0))) := ⟨blk_below (by (first | exact heap_alloc_new _ _ | (refine blk_alloc ?_ _; exact heap_alloc_new _ _) | ((with_reducible repeat (first | refine blk_drewN ?_ _ | refine blk_drew ?_ | refine blk_alloc ?_ _)); exact Kg0_.out))) hb_⟩
  have nv0_ : Aside0 (w22.heap[w21.heap.size]? = some (.cells #[.int .i64 r0a, .slice AV0l r0l.length cV0l, .int .i64 r0s, .slice AV0t r0t.length cV0t] 38 (0, 0))) := ⟨blk_below (by (first | exact heap_alloc_new _ _ | (refine blk_alloc ?_ _; exact heap_alloc_new _ _) | ((with_reducible repeat (first | refine blk_drewN ?_ _ | refine blk_drew ?_ | refine blk_alloc ?_ _)); exact Kv0_.out))) hb_⟩
  have Zw22 : Aside0 (w21.heap.size + 1 ≤ w22.heap.size) := ⟨by have h_ := hb_.size; (try simp at h_); omega⟩
  have nB_ := Aside0.mk (below_step (by repeat (first | exact HB.out | apply below_alloc | apply pw_below_drewN | apply below_drew1)) hb_)
  clear HB HW0l HW0t HX0 HX1 HG0l HG0t He1 HV0l HV0t Kp0 Kw0_ Kx0 Kg0_ hb_
  have HB := nB_
  clear nB_
  have HW0l := nW0l
  clear nW0l
  have HW0t := nW0t
  clear nW0t
  have HX0 := nX0
  clear nX0
  have HX1 := nX1
  clear nX1
  have HG0l := nG0l
  clear nG0l
  have HG0t := nG0t
  clear nG0t
  have He1 := ne1
  clear ne1
  have HV0l := nV0l
  clear nV0l
  have HV0t := nV0t
  clear nV0t
  have Kp0 := np0
  clear np0
  have Kw0_ := nw0_
  clear nw0_
  have Kx0 := nx0
  clear nx0
  have Kg0_ := ng0_
  clear ng0_
  have Kv0_ := nv0_
  clear nv0_
  try clear qp0_0 qp0_1 qw0__0 qw0__1 qw0__2 qw0__3 qx0_0 qx0_1 qg0__0 qg0__1 qg0__2 qg0__3 qv0__0 qv0__1 qv0__2 qv0__3
  have zp0_ := blk_lt Kp0.out
  have qp0_0 := (blk_cell Kp0.out 0).trans rfl
  have qp0_1 := (blk_cell Kp0.out 1).trans rfl
  have zw0__ := blk_lt Kw0_.out
  have qw0__0 := (blk_cell Kw0_.out 0).trans rfl
  have qw0__1 := (blk_cell Kw0_.out 1).trans rfl
  have qw0__2 := (blk_cell Kw0_.out 2).trans rfl
  have qw0__3 := (blk_cell Kw0_.out 3).trans rfl
  have zx0_ := blk_lt Kx0.out
  have qx0_0 := (blk_cell Kx0.out 0).trans rfl
  have qx0_1 := (blk_cell Kx0.out 1).trans rfl
  have zg0__ := blk_lt Kg0_.out
  have qg0__0 := (blk_cell Kg0_.out 0).trans rfl
  have qg0__1 := (blk_cell Kg0_.out 1).trans rfl
  have qg0__2 := (blk_cell Kg0_.out 2).trans rfl
  have qg0__3 := (blk_cell Kg0_.out 3).trans rfl
  have zv0__ := blk_lt Kv0_.out
  have qv0__0 := (blk_cell Kv0_.out 0).trans rfl
  have qv0__1 := (blk_cell Kv0_.out 1).trans rfl
  have qv0__2 := (blk_cell Kv0_.out 2).trans rfl
  have qv0__3 := (blk_cell Kv0_.out 3).trans rfl
  go_wp2_with fail
  clear zp0_ qp0_0 qp0_1
  clear zw0__ qw0__0 qw0__1 qw0__2 qw0__3
  clear zx0_ qx0_0 qx0_1
  clear zg0__ qg0__0 qg0__1 qg0__2 qg0__3
  clear zv0__ qv0__0 qv0__1 qv0__2 qv0__3
  rw [← LG0lw17.out]
  rw [← LG0tw17.out]
  refine (laws_heldCover.calls k r0a _ _ x0l r0s _ _ x0t 1 n0t _ (Kd.S_reads' (by (with_reducible repeat (first | apply Kd.S_alloc | apply Kd.S_drewN | apply Kd.S_drew)); exact HG0l.out)).2.2 (by rw [LG0lw17.out]; exact (Kd.S_reads' HG0l.out).2.1) (Kd.S_reads' (by (with_reducible repeat (first | apply Kd.S_alloc | apply Kd.S_drewN | apply Kd.S_drew)); exact HG0t.out)).2.2 (by rw [LG0tw17.out]; exact (Kd.S_reads' HG0t.out).2.1) FH0.out).mono ?_
  rintro e w23 ⟨rfl, hb_⟩
  have nW0l := Aside0.mk (Kd.S_below (by (with_reducible repeat (first | apply Kd.S_alloc | apply Kd.S_drewN | apply Kd.S_drew)); exact HW0l.out) hb_)
  have nW0t := Aside0.mk (Kd.S_below (by (with_reducible repeat (first | apply Kd.S_alloc | apply Kd.S_drewN | apply Kd.S_drew)); exact HW0t.out) hb_)
  have nX0 := Aside0.mk (Kd.S_below (by (with_reducible repeat (first | apply Kd.S_alloc | apply Kd.S_drewN | apply Kd.S_drew)); exact HX0.out) hb_)
  have nX1 := Aside0.mk (Kd.R_below (by (with_reducible repeat (first | apply Kd.R_alloc | apply Kd.R_drewN | apply Kd.R_drew)); exact HX1.out) hb_)
  have nG0l := Aside0.mk (Kd.S_below (by (with_reducible repeat (first | apply Kd.S_alloc | apply Kd.S_drewN | apply Kd.S_drew)); exact HG0l.out) hb_)
  have nG0t := Aside0.mk (Kd.S_below (by (with_reducible repeat (first | apply Kd.S_alloc | apply Kd.S_drewN | apply Kd.S_drew)); exact HG0t.out) hb_)
  have ne1 := Aside0.mk (Kd.R_below (by (with_reducible repeat (first | apply Kd.R_alloc | apply Kd.R_drewN | apply Kd.R_drew)); exact He1.out) hb_)
  have nV0l := Aside0.mk (Kd.S_below (by (with_reducible repeat (first | apply Kd.S_alloc | apply Kd.S_drewN | apply Kd.S_drew)); exact HV0l.out) hb_)
  have nV0t := Aside0.mk (Kd.S_below (by (with_reducible repeat (first | apply Kd.S_alloc | apply Kd.S_drewN | apply Kd.S_drew)); exact HV0t.out) hb_)
  have np0 : Aside0 (w23.heap[w.heap.size]? = some (.cells #[.int .i64 a0, .slice A0 l0.length c0] 24 (0, 0))) := ⟨blk_below (by (first | exact heap_alloc_new _ _ | (refine blk_alloc ?_ _; exact heap_alloc_new _ _) | ((with_reducible repeat (first | refine blk_drewN ?_ _ | refine blk_drew ?_ | refine blk_alloc ?_ _)); exact Kp0.out))) hb_⟩
  have nw0_ : Aside0 (w23.heap[w4.heap.size]? = some (.cells #[.int .i64 r0a, .slice AW0l r0l.length cW0l, .int .i64 r0s, .slice AW0t r0t.length cW0t] 38 (0, 0))) := ⟨blk_below (by (first | exact heap_alloc_new _ _ | (refine blk_alloc ?_ _; exact heap_alloc_new _ _) | ((with_reducible repeat (first | refine blk_drewN ?_ _ | refine blk_drew ?_ | refine blk_alloc ?_ _)); exact Kw0_.out))) hb_⟩
  have nx0 : Aside0 (w23.heap[w5.heap.size]? = some (.cells #[.int .i64 a0, .slice AX0 l0.length cX0] 26 (0, 0))) := ⟨blk_below (by (first | exact heap_alloc_new _ _ | (refine blk_alloc ?_ _; exact heap_alloc_new _ _) | ((with_reducible repeat (first | refine blk_drewN ?_ _ | refine blk_drew ?_ | refine blk_alloc ?_ _)); exact Kx0.out))) hb_⟩
  have ng0_ : Aside0 (w23.heap[w7.heap.size]? = some (.cells #[.int .i64 r0a, .slice AG0l r0l.length cG0l, .int .i64 r0s, .slice AG0t r0t.length cG0t] 38 (0, 0))) := ⟨blk_below (by (first | exact heap_alloc_new _ _ | (refine blk_alloc ?_ _; exact heap_alloc_new _ _) | ((with_reducible repeat (first | refine blk_drewN ?_ _ | refine blk_drew ?_ | refine blk_alloc ?_ _)); exact Kg0_.out))) hb_⟩
  have nv0_ : Aside0 (w23.heap[w21.heap.size]? = some (.cells #[.int .i64 r0a, .slice AV0l r0l.length cV0l, .int .i64 r0s, .slice AV0t r0t.length cV0t] 38 (0, 0))) := ⟨blk_below (by (first | exact heap_alloc_new _ _ | (refine blk_alloc ?_ _; exact heap_alloc_new _ _) | ((with_reducible repeat (first | refine blk_drewN ?_ _ | refine blk_drew ?_ | refine blk_alloc ?_ _)); exact Kv0_.out))) hb_⟩
  have Zw23 : Aside0 (w22.heap.size + 0 ≤ w23.heap.size) := ⟨by have h_ := hb_.size; (try simp at h_); omega⟩
  have nB_ := Aside0.mk (below_step (by repeat (first | exact HB.out | apply below_alloc | apply pw_below_drewN | apply below_drew1)) hb_)
  clear HB HW0l HW0t HX0 HX1 HG0l HG0t He1 HV0l HV0t Kp0 Kw0_ Kx0 Kg0_ Kv0_ hb_
  have HB := nB_
  clear nB_
  have HW0l := nW0l
  clear nW0l
  have HW0t := nW0t
  clear nW0t
  have HX0 := nX0
  clear nX0
  have HX1 := nX1
  clear nX1
  have HG0l := nG0l
  clear nG0l
  have HG0t := nG0t
  clear nG0t
  have He1 := ne1
  clear ne1
  have HV0l := nV0l
  clear nV0l
  have HV0t := nV0t
  clear nV0t
  have Kp0 := np0
  clear np0
  have Kw0_ := nw0_
  clear nw0_
  have Kx0 := nx0
  clear nx0
  have Kg0_ := ng0_
  clear ng0_
  have Kv0_ := nv0_
  clear nv0_
  try rw [LG0lw17.out]
  try rw [LG0tw17.out]
  try clear qp0_0 qp0_1 qw0__0 qw0__1 qw0__2 qw0__3 qx0_0 qx0_1 qg0__0 qg0__1 qg0__2 qg0__3 qv0__0 qv0__1 qv0__2 qv0__3
  have zp0_ := blk_lt Kp0.out
  have qp0_0 := (blk_cell Kp0.out 0).trans rfl
  have qp0_1 := (blk_cell Kp0.out 1).trans rfl
  have zw0__ := blk_lt Kw0_.out
  have qw0__0 := (blk_cell Kw0_.out 0).trans rfl
  have qw0__1 := (blk_cell Kw0_.out 1).trans rfl
  have qw0__2 := (blk_cell Kw0_.out 2).trans rfl
  have qw0__3 := (blk_cell Kw0_.out 3).trans rfl
  have zx0_ := blk_lt Kx0.out
  have qx0_0 := (blk_cell Kx0.out 0).trans rfl
  have qx0_1 := (blk_cell Kx0.out 1).trans rfl
  have zg0__ := blk_lt Kg0_.out
  have qg0__0 := (blk_cell Kg0_.out 0).trans rfl
  have qg0__1 := (blk_cell Kg0_.out 1).trans rfl
  have qg0__2 := (blk_cell Kg0_.out 2).trans rfl
  have qg0__3 := (blk_cell Kg0_.out 3).trans rfl
  have zv0__ := blk_lt Kv0_.out
  have qv0__0 := (blk_cell Kv0_.out 0).trans rfl
  have qv0__1 := (blk_cell Kv0_.out 1).trans rfl
  have qv0__2 := (blk_cell Kv0_.out 2).trans rfl
  have qv0__3 := (blk_cell Kv0_.out 3).trans rfl
  go_wp2
  go_ret
  exact ⟨by first | rfl | (simp; done) | (simp [*]; done), HB.out⟩

def laws_FnExactDoubleCover.Pure : Prop := ∀ (a0 : Int) (l0 : List (List Int)) (l1 : List Int), (Lit.int .i64 a0).wf = true → l0.length ≤ maxLen → (∀ x ∈ l0, x.length ≤ maxLen ∧ ∀ n ∈ x, (Lit.int .i64 n).wf = true) → l1.length ≤ maxLen → (∀ n ∈ l1, (Lit.int .i64 n).wf = true) → l1.length ≤ 1048576 → (∃ (k : Nat) (z0 : Int), z0 < 0 ∧ laws_szGraph.f k a0 l0 1048576 = some z0) ∨ (∃ (k : Nat) (z0 : Int) (r0a : Int) (r0l : List (List Int)) (r0s : Int) (r0t : List (List Int)) (r1a : Int) (m0 : Int) (y0 : List (List Int)) (m1 : Int) (y1 : List Int) (n0l : Int) (x0l : List (List Int)) (n0t : Int) (x0t : List (List Int)), 0 ≤ z0 ∧ 0 ≤ m1 ∧ 0 ≤ n0t ∧ laws_toGraph.f k a0 l0 = some (a0, l0) ∧ laws_eqGraph.f k a0 l0 a0 l0 = some true ∧ laws_toInt64S.f k l1 = some l1 ∧ laws_eqInt64S.f k l1 l1 = some true ∧ laws_szGraph.f k a0 l0 1048576 = some z0 ∧ spec_DoubleCover.f k a0 l0 l1 = some (r0a, r0l, r0s, r0t, r1a) ∧ impl_DoubleCover.f k a0 l0 l1 = some (r0a, r0l, r0s, r0t, r1a) ∧ laws_eqCover.f k r0a r0l r0s r0t r0a r0l r0s r0t = some true ∧ laws_markInt64SS.f k l0 1 = some (m0, y0) ∧ laws_markInt64S.f k l1 m0 = some (m1, y1) ∧ laws_markInt64SS.f k r0l 1 = some (n0l, x0l) ∧ laws_markInt64SS.f k r0t n0l = some (n0t, x0t) ∧ laws_heldCover.f k r0a x0l r0s x0t 1 = some n0t)
theorem laws_FnExactDoubleCover.calls (P : laws_FnExactDoubleCover.Pure) (a0 : Int) (A0 : Option Addr) (c0 : Nat) (l0 : List (List Int)) (A1 : Option Addr) (c1 : Nat) (l1 : List Int) (w : World) (hr0 : Kd.C (Kd.slice 2 (Kd.int .i64)) w A0 l0.length l0) (hc0 : l0.length ≤ c0) (hr1 : Kd.C (Kd.int .i64) w A1 l1.length l1) (hc1 : l1.length ≤ c1) (w0_0 : (Lit.int .i64 a0).wf = true) (hm0_1 : l0.length ≤ maxLen) (w0_1 : (∀ x ∈ l0, x.length ≤ maxLen ∧ ∀ n ∈ x, (Lit.int .i64 n).wf = true)) (hm1 : l1.length ≤ maxLen) (w1 : (∀ n ∈ l1, (Lit.int .i64 n).wf = true)) :
    Calls Try.prog 6 #[.agg #[.int .i64 a0, .slice A0 l0.length c0], .slice A1 l1.length c1] w fun e w' => e = .returned (.bool true) ∧ Below w.heap.size w w' := by
  by_cases hl1 : 1048576 < l1.length
  · exact laws_FnExactDoubleCover.small_len1 a0 A0 c0 l0 A1 c1 l1 w hr0 hc0 hr1 hc1  hl1
  replace hl1 : l1.length ≤ 1048576 := by omega
  rcases P a0 l0 l1 w0_0 hm0_1 w0_1 hm1 w1 hl1 with ⟨k, z0, hz0, FZ0_⟩ | ⟨k, z0, r0a, r0l, r0s, r0t, r1a, m0, y0, m1, y1, n0l, x0l, n0t, x0t, hp0, hlm, hln, FG0, FQ0, FG1, FQ1, FZ0, FS, FI, FE0, FM0, FM1, FN0l, FN0t, FH0⟩
  · exact laws_FnExactDoubleCover.small_sz0 a0 A0 c0 l0 A1 c1 l1 w hr0 hc0 hr1 hc1 hl1 k z0 hz0 FZ0_
  · exact laws_FnExactDoubleCover.big k a0 A0 c0 l0 A1 c1 l1 w hr0 hc0 hr1 hc1 z0 hp0 r0a r0l r0s r0t r1a m0 y0 m1 y1 n0l x0l n0t x0t hlm hln hl1 FG0 FQ0 FG1 FQ1 FZ0 FS FI FE0 FM0 FM1 FN0l FN0t FH0

end Go.Proofs.Ytpckiapngjcijaa.B
