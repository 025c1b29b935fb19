/- The walk of FnExactRootsModulo: where its callees answer as its pure statement says, it answers true. Condition: that statement. -/
import Derived.Test.YtpckiapngjcijaaFx
namespace Go.Proofs.Ytpckiapngjcijaa.F
open Go.RowKit Go.Proofs.YtpckiapngjcijaaW.PrintWords Go.Proofs.YtpckiapngjcijaaW.PrintLast Go.Proofs.YtpckiapngjcijaaW.PrintMore
set_option linter.unusedVariables false
set_option linter.unusedSimpArgs false
set_option maxHeartbeats 8000000 in
set_option maxRecDepth 100000 in
theorem laws_FnExactRootsModulo.small_sz0 (a0 : Int) (A0 : Option Addr) (c0 : Nat) (l0 : List (List Int)) (a1 : Int) (w : World) (hr0 : Kd.C (Kd.slice 2 (Kd.int .i64)) w A0 l0.length l0) (hc0 : l0.length ≤ c0)   (k : Nat) (z0 : Int) (hz0 : z0 < 0) (FZ0_ : laws_szGraph.f k a0 l0 1048576 = some z0) :
    Calls Try.prog 10 #[.agg #[.int .i64 a0, .slice A0 l0.length c0], .int .i64 a1] w fun e w' => e = .returned (.bool true) ∧ Below w.heap.size w w' := by
  have HR0 := Aside0.mk hr0
  have HB := Aside0.mk (Below.refl w.heap.size w)
  have FZ0 := Aside0.mk FZ0_
  clear FZ0_
  have bz0 : decide (z0 < 0) = true := by simp; omega
  clear hr0
  go_enter Try.func10, Try.ntmps10
  try clear qp0_0 qp0_1
  go_wp2_with fail
  refine (laws_szGraph.calls k a0 _ _ l0 1048576 z0 _ (Kd.C_below HR0.out (by repeat (first | exact HB.out | apply below_alloc | apply pw_below_drewN | apply below_drew1))) hc0 FZ0.out).mono ?_
  rintro e w1 ⟨rfl, hb_⟩
  have HB0_ := Aside0.mk (by repeat (first | exact HB.out | apply below_alloc | apply pw_below_drewN | apply below_drew1))
  clear HB0_
  have np0 : Aside0 (w1.heap[w.heap.size]? = some (.cells #[.int .i64 a0, .slice A0 l0.length c0] 24 (0, 0))) := ⟨blk_below (by (first | exact heap_alloc_new _ _ | (refine blk_alloc ?_ _; exact heap_alloc_new _ _) | ((with_reducible repeat (first | refine blk_drewN ?_ _ | refine blk_drew ?_ | refine blk_alloc ?_ _)); exact Kp0.out))) hb_⟩
  have Zw1 : Aside0 (w.heap.size + 1 ≤ w1.heap.size) := ⟨by have h_ := hb_.size; (try simp at h_); omega⟩
  have nB_ := Aside0.mk (below_step (by repeat (first | exact HB.out | apply below_alloc | apply pw_below_drewN | apply below_drew1)) hb_)
  clear HB hb_
  have HB := nB_
  clear nB_
  have Kp0 := np0
  clear np0
  try clear qp0_0 qp0_1
  have zp0_ := blk_lt Kp0.out
  have qp0_0 := (blk_cell Kp0.out 0).trans rfl
  have qp0_1 := (blk_cell Kp0.out 1).trans rfl
  go_wp2
  go_ret
  exact ⟨by first | rfl | (simp; done) | (simp [*]; done), (by repeat (first | exact HB.out | apply below_alloc | apply pw_below_drewN | apply below_drew1))⟩

set_option maxHeartbeats 8000000 in
set_option maxRecDepth 100000 in
theorem laws_FnExactRootsModulo.big (k : Nat) (a0 : Int) (A0 : Option Addr) (c0 : Nat) (l0 : List (List Int)) (a1 : Int) (w : World) (hr0 : Kd.C (Kd.slice 2 (Kd.int .i64)) w A0 l0.length l0) (hc0 : l0.length ≤ c0)  (z0 : Int) (hz0 : 0 ≤ z0) (r0l : List Int) (r1a : Int) (m0 : Int) (y0 : List (List Int)) (n0l : Int) (x0l : List Int) (hlm : 0 ≤ m0) (hln : 0 ≤ n0l)  (FG0_ : laws_toGraph.f k a0 l0 = some (a0, l0)) (FQ0_ : laws_eqGraph.f k a0 l0 a0 l0 = some true) (FZ0_ : laws_szGraph.f k a0 l0 1048576 = some z0) (FS_ : spec_RootsModulo.f k a0 l0 a1 = some (r0l, r1a)) (FI_ : impl_RootsModulo.f k a0 l0 a1 = some (r0l, r1a)) (FE0_ : laws_eqInt64S.f k r0l r0l = some true) (FM0_ : laws_markInt64SS.f k l0 1 = some (m0, y0)) (FN0l_ : laws_markInt64S.f k r0l 1 = some (n0l, x0l)) (FH0_ : laws_heldInt64S.f k x0l 1 = some n0l) :
    Calls Try.prog 10 #[.agg #[.int .i64 a0, .slice A0 l0.length c0], .int .i64 a1] w fun e w' => e = .returned (.bool true) ∧ Below w.heap.size w w' := by
  have HR0 := Aside0.mk hr0
  have HB := Aside0.mk (Below.refl w.heap.size w)
  have FG0 := Aside0.mk FG0_
  have FQ0 := Aside0.mk FQ0_
  have FZ0 := Aside0.mk FZ0_
  have FS := Aside0.mk FS_
  have FI := Aside0.mk FI_
  have FE0 := Aside0.mk FE0_
  have FM0 := Aside0.mk FM0_
  have FN0l := Aside0.mk FN0l_
  have FH0 := Aside0.mk FH0_
  clear hr0 FG0_ FQ0_ FZ0_ FS_ FI_ FE0_ FM0_ FN0l_ FH0_
  have bz0 : decide (z0 < 0) = false := by simp; omega
  have bm_ : decide (m0 < 0) = false := by simp; omega
  have bn_ : decide (n0l < 0) = false := by simp; omega
  go_enter Try.func10, Try.ntmps10
  try clear qp0_0 qp0_1
  go_wp2_with fail
  refine (laws_szGraph.calls k a0 _ _ l0 1048576 z0 _ (Kd.C_below HR0.out (by repeat (first | exact HB.out | apply below_alloc | apply pw_below_drewN | apply below_drew1))) hc0 FZ0.out).mono ?_
  rintro e w1 ⟨rfl, hb_⟩
  have HB0_ := Aside0.mk (by repeat (first | exact HB.out | apply below_alloc | apply pw_below_drewN | apply below_drew1))
  clear HB0_
  have np0 : Aside0 (w1.heap[w.heap.size]? = some (.cells #[.int .i64 a0, .slice A0 l0.length c0] 24 (0, 0))) := ⟨blk_below (by (first | exact heap_alloc_new _ _ | (refine blk_alloc ?_ _; exact heap_alloc_new _ _) | ((with_reducible repeat (first | refine blk_drewN ?_ _ | refine blk_drew ?_ | refine blk_alloc ?_ _)); exact Kp0.out))) hb_⟩
  have Zw1 : Aside0 (w.heap.size + 1 ≤ w1.heap.size) := ⟨by have h_ := hb_.size; (try simp at h_); omega⟩
  have nB_ := Aside0.mk (below_step (by repeat (first | exact HB.out | apply below_alloc | apply pw_below_drewN | apply below_drew1)) hb_)
  clear HB hb_
  have HB := nB_
  clear nB_
  have Kp0 := np0
  clear np0
  try clear qp0_0 qp0_1
  have zp0_ := blk_lt Kp0.out
  have qp0_0 := (blk_cell Kp0.out 0).trans rfl
  have qp0_1 := (blk_cell Kp0.out 1).trans rfl
  go_wp2_with fail
  clear zp0_ qp0_0 qp0_1
  refine (laws_toGraph.calls k a0 _ _ l0 a0 l0 _ (Kd.C_below HR0.out (by repeat (first | exact HB.out | apply below_alloc | apply pw_below_drewN | apply below_drew1))) hc0 FG0.out).mono ?_
  rintro e w2 ⟨vt0, rfl, hst0_, hb_⟩
  have HB0_ := Aside0.mk (by repeat (first | exact HB.out | apply below_alloc | apply pw_below_drewN | apply below_drew1))
  have Ht0 : Aside0 (Kd.S (Kd.slice 2 (Kd.int .i64)) 43 w2 w.heap.size (fun k_ => w1.heap.size ≤ k_ ∧ k_ < w2.heap.size) _ l0) := ⟨Kd.S_mono (Kd.S_lower (Kd.S_bound hst0_) (by have h_ := HB0_.out.size; (try simp at h_); (try simp); omega)) (fun k_ hk_ => ⟨by have h_ := hk_.2.1; (try simp at h_); omega, hk_.2.2.1⟩)⟩
  clear HB0_ hst0_
  have np0 : Aside0 (w2.heap[w.heap.size]? = some (.cells #[.int .i64 a0, .slice A0 l0.length c0] 24 (0, 0))) := ⟨blk_below (by (first | exact heap_alloc_new _ _ | (refine blk_alloc ?_ _; exact heap_alloc_new _ _) | ((with_reducible repeat (first | refine blk_drewN ?_ _ | refine blk_drew ?_ | refine blk_alloc ?_ _)); exact Kp0.out))) hb_⟩
  have Zw2 : Aside0 (w1.heap.size + 0 ≤ w2.heap.size) := ⟨by have h_ := hb_.size; (try simp at h_); omega⟩
  have nB_ := Aside0.mk (below_step (by repeat (first | exact HB.out | apply below_alloc | apply pw_below_drewN | apply below_drew1)) hb_)
  clear HB Kp0 hb_
  have HB := nB_
  clear nB_
  have Kp0 := np0
  clear np0
  obtain ⟨At0, ct0, et0⟩ := Kd.S_slice Ht0.out
  subst et0
  try clear qp0_0 qp0_1
  have zp0_ := blk_lt Kp0.out
  have qp0_0 := (blk_cell Kp0.out 0).trans rfl
  have qp0_1 := (blk_cell Kp0.out 1).trans rfl
  go_wp2_with fail
  clear zp0_ qp0_0 qp0_1
  refine (spec_RootsModulo.calls k a0 _ _ l0 a1 r0l r1a _ (Kd.S_reads' (by (with_reducible repeat (first | apply Kd.S_alloc | apply Kd.S_drewN | apply Kd.S_drew)); exact Ht0.out)).2.2 (Kd.S_reads' Ht0.out).2.1 FS.out).mono ?_
  rintro e w3 ⟨vW0l, rfl, hsW0l_, hb_⟩
  have HB0_ := Aside0.mk (by repeat (first | exact HB.out | apply below_alloc | apply pw_below_drewN | apply below_drew1))
  have HW0l : Aside0 (Kd.R (Kd.int .i64) 2 w3 w.heap.size (fun k_ => w2.heap.size ≤ k_ ∧ k_ < w3.heap.size) _ r0l) := ⟨Kd.R_mono (Kd.R_lower (Kd.R_bound hsW0l_) (by have h_ := HB0_.out.size; (try simp at h_); (try simp); omega)) (fun k_ hk_ => ⟨by have h_ := hk_.2.1; (try simp at h_); omega, hk_.2.2.1⟩)⟩
  clear HB0_ hsW0l_
  clear Ht0
  have np0 : Aside0 (w3.heap[w.heap.size]? = some (.cells #[.int .i64 a0, .slice A0 l0.length c0] 24 (0, 0))) := ⟨blk_below (by (first | exact heap_alloc_new _ _ | (refine blk_alloc ?_ _; exact heap_alloc_new _ _) | ((with_reducible repeat (first | refine blk_drewN ?_ _ | refine blk_drew ?_ | refine blk_alloc ?_ _)); exact Kp0.out))) hb_⟩
  have Zw3 : Aside0 (w2.heap.size + 0 ≤ w3.heap.size) := ⟨by have h_ := hb_.size; (try simp at h_); omega⟩
  have nB_ := Aside0.mk (below_step (by repeat (first | exact HB.out | apply below_alloc | apply pw_below_drewN | apply below_drew1)) hb_)
  clear HB Kp0 hb_
  have HB := nB_
  clear nB_
  have Kp0 := np0
  clear np0
  obtain ⟨AW0l, cW0l, eW0l⟩ := Kd.R_slice HW0l.out
  subst eW0l
  try clear qp0_0 qp0_1
  have zp0_ := blk_lt Kp0.out
  have qp0_0 := (blk_cell Kp0.out 0).trans rfl
  have qp0_1 := (blk_cell Kp0.out 1).trans rfl
  go_wp2_with fail
  clear zp0_ qp0_0 qp0_1
  refine (laws_toGraph.calls k a0 _ _ l0 a0 l0 _ (Kd.C_below HR0.out (by repeat (first | exact HB.out | apply below_alloc | apply pw_below_drewN | apply below_drew1))) hc0 FG0.out).mono ?_
  rintro e w4 ⟨vX0, rfl, hsX0_, hb_⟩
  have HB0_ := Aside0.mk (by repeat (first | exact HB.out | apply below_alloc | apply pw_below_drewN | apply below_drew1))
  have HX0 : Aside0 (Kd.S (Kd.slice 2 (Kd.int .i64)) 43 w4 w.heap.size (fun k_ => w3.heap.size ≤ k_ ∧ k_ < w4.heap.size) _ l0) := ⟨Kd.S_mono (Kd.S_lower (Kd.S_bound hsX0_) (by have h_ := HB0_.out.size; (try simp at h_); (try simp); omega)) (fun k_ hk_ => ⟨by have h_ := hk_.2.1; (try simp at h_); omega, hk_.2.2.1⟩)⟩
  clear HB0_ hsX0_
  have nW0l := Aside0.mk (Kd.R_below (by (with_reducible repeat (first | apply Kd.R_alloc | apply Kd.R_drewN | apply Kd.R_drew)); exact HW0l.out) hb_)
  have np0 : Aside0 (w4.heap[w.heap.size]? = some (.cells #[.int .i64 a0, .slice A0 l0.length c0] 24 (0, 0))) := ⟨blk_below (by (first | exact heap_alloc_new _ _ | (refine blk_alloc ?_ _; exact heap_alloc_new _ _) | ((with_reducible repeat (first | refine blk_drewN ?_ _ | refine blk_drew ?_ | refine blk_alloc ?_ _)); exact Kp0.out))) hb_⟩
  have Zw4 : Aside0 (w3.heap.size + 0 ≤ w4.heap.size) := ⟨by have h_ := hb_.size; (try simp at h_); omega⟩
  have nB_ := Aside0.mk (below_step (by repeat (first | exact HB.out | apply below_alloc | apply pw_below_drewN | apply below_drew1)) hb_)
  clear HB HW0l Kp0 hb_
  have HB := nB_
  clear nB_
  have HW0l := nW0l
  clear nW0l
  have Kp0 := np0
  clear np0
  obtain ⟨AX0, cX0, eX0⟩ := Kd.S_slice HX0.out
  subst eX0
  try clear qp0_0 qp0_1 qx0_0 qx0_1
  have zp0_ := blk_lt Kp0.out
  have qp0_0 := (blk_cell Kp0.out 0).trans rfl
  have qp0_1 := (blk_cell Kp0.out 1).trans rfl
  go_wp2_with fail
  clear zp0_ qp0_0 qp0_1
  refine (impl_RootsModulo.calls k a0 _ _ l0 a1 r0l r1a _ (Kd.S_reads' (by (with_reducible repeat (first | apply Kd.S_alloc | apply Kd.S_drewN | apply Kd.S_drew)); exact HX0.out)).2.2 (Kd.S_reads' HX0.out).2.1 FI.out).mono ?_
  rintro e w5 ⟨vG0l, rfl, hsG0l_, hb_⟩
  have HB0_ := Aside0.mk (by repeat (first | exact HB.out | apply below_alloc | apply pw_below_drewN | apply below_drew1))
  have HG0l : Aside0 (Kd.R (Kd.int .i64) 2 w5 w.heap.size (fun k_ => w4.heap.size + 1 ≤ k_ ∧ k_ < w5.heap.size) _ r0l) := ⟨Kd.R_mono (Kd.R_lower (Kd.R_bound hsG0l_) (by have h_ := HB0_.out.size; (try simp at h_); (try simp); omega)) (fun k_ hk_ => ⟨by have h_ := hk_.2.1; (try simp at h_); omega, hk_.2.2.1⟩)⟩
  clear HB0_ hsG0l_
  have nW0l := Aside0.mk (Kd.R_below (by (with_reducible repeat (first | apply Kd.R_alloc | apply Kd.R_drewN | apply Kd.R_drew)); exact HW0l.out) hb_)
  have nX0 := Aside0.mk (Kd.S_below (by (with_reducible repeat (first | apply Kd.S_alloc | apply Kd.S_drewN | apply Kd.S_drew)); exact HX0.out) hb_)
  have np0 : Aside0 (w5.heap[w.heap.size]? = some (.cells #[.int .i64 a0, .slice A0 l0.length c0] 24 (0, 0))) := ⟨blk_below (by (first | exact heap_alloc_new _ _ | (refine blk_alloc ?_ _; exact heap_alloc_new _ _) | ((with_reducible repeat (first | refine blk_drewN ?_ _ | refine blk_drew ?_ | refine blk_alloc ?_ _)); exact Kp0.out))) hb_⟩
  have nx0 : Aside0 (w5.heap[w4.heap.size]? = some (.cells #[.int .i64 a0, .slice AX0 l0.length cX0] 26 (0, 0))) := ⟨blk_below (by (first | exact heap_alloc_new _ _ | (refine blk_alloc ?_ _; exact heap_alloc_new _ _) | ((with_reducible repeat (first | refine blk_drewN ?_ _ | refine blk_drew ?_ | refine blk_alloc ?_ _)); exact Kx0.out))) hb_⟩
  have Zw5 : Aside0 (w4.heap.size + 1 ≤ w5.heap.size) := ⟨by have h_ := hb_.size; (try simp at h_); omega⟩
  have nB_ := Aside0.mk (below_step (by repeat (first | exact HB.out | apply below_alloc | apply pw_below_drewN | apply below_drew1)) hb_)
  clear HB HW0l HX0 Kp0 hb_
  have HB := nB_
  clear nB_
  have HW0l := nW0l
  clear nW0l
  have HX0 := nX0
  clear nX0
  have Kp0 := np0
  clear np0
  have Kx0 := nx0
  clear nx0
  obtain ⟨AG0l, cG0l, eG0l⟩ := Kd.R_slice HG0l.out
  subst eG0l
  try clear qp0_0 qp0_1 qx0_0 qx0_1
  have zp0_ := blk_lt Kp0.out
  have qp0_0 := (blk_cell Kp0.out 0).trans rfl
  have qp0_1 := (blk_cell Kp0.out 1).trans rfl
  have zx0_ := blk_lt Kx0.out
  have qx0_0 := (blk_cell Kx0.out 0).trans rfl
  have qx0_1 := (blk_cell Kx0.out 1).trans rfl
  go_wp2_with fail
  clear zp0_ qp0_0 qp0_1
  clear zx0_ qx0_0 qx0_1
  refine (laws_eqInt64S.calls k _ _ r0l _ _ r0l true _ (Kd.R_reads' (by (with_reducible repeat (first | apply Kd.R_alloc | apply Kd.R_drewN | apply Kd.R_drew)); exact HG0l.out)).2.2 (Kd.R_reads' HG0l.out).2.1 (Kd.R_reads' (by (with_reducible repeat (first | apply Kd.R_alloc | apply Kd.R_drewN | apply Kd.R_drew)); exact HW0l.out)).2.2 (Kd.R_reads' HW0l.out).2.1 FE0.out).mono ?_
  rintro e w6 ⟨rfl, hd_⟩
  have hb_ := hd_.below
  clear hd_
  have nW0l := Aside0.mk (Kd.R_below (by (with_reducible repeat (first | apply Kd.R_alloc | apply Kd.R_drewN | apply Kd.R_drew)); exact HW0l.out) hb_)
  have nX0 := Aside0.mk (Kd.S_below (by (with_reducible repeat (first | apply Kd.S_alloc | apply Kd.S_drewN | apply Kd.S_drew)); exact HX0.out) hb_)
  have nG0l := Aside0.mk (Kd.R_below (by (with_reducible repeat (first | apply Kd.R_alloc | apply Kd.R_drewN | apply Kd.R_drew)); exact HG0l.out) hb_)
  have np0 : Aside0 (w6.heap[w.heap.size]? = some (.cells #[.int .i64 a0, .slice A0 l0.length c0] 24 (0, 0))) := ⟨blk_below (by (first | exact heap_alloc_new _ _ | (refine blk_alloc ?_ _; exact heap_alloc_new _ _) | ((with_reducible repeat (first | refine blk_drewN ?_ _ | refine blk_drew ?_ | refine blk_alloc ?_ _)); exact Kp0.out))) hb_⟩
  have nx0 : Aside0 (w6.heap[w4.heap.size]? = some (.cells #[.int .i64 a0, .slice AX0 l0.length cX0] 26 (0, 0))) := ⟨blk_below (by (first | exact heap_alloc_new _ _ | (refine blk_alloc ?_ _; exact heap_alloc_new _ _) | ((with_reducible repeat (first | refine blk_drewN ?_ _ | refine blk_drew ?_ | refine blk_alloc ?_ _)); exact Kx0.out))) hb_⟩
  have Zw6 : Aside0 (w5.heap.size + 0 ≤ w6.heap.size) := ⟨by have h_ := hb_.size; (try simp at h_); omega⟩
  have nB_ := Aside0.mk (below_step (by repeat (first | exact HB.out | apply below_alloc | apply pw_below_drewN | apply below_drew1)) hb_)
  clear HB HW0l HX0 HG0l Kp0 Kx0 hb_
  have HB := nB_
  clear nB_
  have HW0l := nW0l
  clear nW0l
  have HX0 := nX0
  clear nX0
  have HG0l := nG0l
  clear nG0l
  have Kp0 := np0
  clear np0
  have Kx0 := nx0
  clear nx0
  try clear qp0_0 qp0_1 qx0_0 qx0_1
  have zp0_ := blk_lt Kp0.out
  have qp0_0 := (blk_cell Kp0.out 0).trans rfl
  have qp0_1 := (blk_cell Kp0.out 1).trans rfl
  have zx0_ := blk_lt Kx0.out
  have qx0_0 := (blk_cell Kx0.out 0).trans rfl
  have qx0_1 := (blk_cell Kx0.out 1).trans rfl
  go_wp2_with fail
  clear zp0_ qp0_0 qp0_1
  clear zx0_ qx0_0 qx0_1
  have nW0l := Aside0.mk (Kd.R_drew HW0l.out)
  have nX0 := Aside0.mk (Kd.S_drew HX0.out)
  have nG0l := Aside0.mk (Kd.R_drew HG0l.out)
  have np0 := Aside0.mk (blk_drew Kp0.out)
  have nx0 := Aside0.mk (blk_drew Kx0.out)
  have nB_ := Aside0.mk (below_drew1 HB.out)
  have Zw7 : Aside0 (w6.heap.size + 0 ≤ (w6.drew).heap.size) := ⟨by simp⟩
  clear HB HW0l HX0 HG0l Kp0 Kx0
  have HB := nB_
  clear nB_
  have HW0l := nW0l
  clear nW0l
  have HX0 := nX0
  clear nX0
  have HG0l := nG0l
  clear nG0l
  have Kp0 := np0
  clear np0
  have Kx0 := nx0
  clear nx0
  refine start_ (n := 5) (S := fun w' => w'.cell? ⟨w4.heap.size, 0, none⟩ = some (.int .i64 a0) ∧ w'.cell? ⟨w4.heap.size, 1, none⟩ = some (.slice AX0 l0.length cX0) ∧ w'.cell? ⟨w.heap.size, 0, none⟩ = some (.int .i64 a0) ∧ w'.cell? ⟨w.heap.size, 1, none⟩ = some (.slice A0 l0.length c0)) (ds := []) #[false, false, false, false, false] (by kernel_rfl) rfl rfl ⟨(blk_cell Kx0.out 0).trans rfl, (blk_cell Kx0.out 1).trans rfl, (blk_cell Kp0.out 0).trans rfl, (blk_cell Kp0.out 1).trans rfl⟩ (fun hHeld => ?_)
  generalize w6.drew = w7 at HB Zw7 hHeld HW0l HX0 HG0l Kp0 Kx0 ⊢
  refine take_ (i := 0) (N := some 45) (v := ?_) (a' := ?_) #[true, false, false, false, false] rfl rfl (by kernel_rfl) (fun _ _ _ h => h) (Or.inl ⟨by rfl, ?_⟩) hHeld ?_ ?_
  rotate_left
  · rintro w' ⟨s0_, s1_, s2_, s3_⟩
    go_simp
    with_reducible rfl
  rotate_left
  · simp only [Act.put, List.setIfInBounds_toArray, List.set_cons_zero, List.set_cons_succ, i64_w, i32_w]
    rfl
  refine take_ (i := 1) (N := some 46) (v := ?_) (a' := ?_) #[true, true, false, false, false] rfl rfl (by kernel_rfl) (fun _ _ _ h => h) (Or.inl ⟨by rfl, ?_⟩) hHeld ?_ ?_
  rotate_left
  · rintro w' ⟨s0_, s1_, s2_, s3_⟩
    go_simp
    with_reducible rfl
  rotate_left
  · simp only [Act.put, List.setIfInBounds_toArray, List.set_cons_zero, List.set_cons_succ, i64_w, i32_w]
    rfl
  refine one_ (i := 2) (N := some 47) #[true, true, true, false, false] rfl rfl (by kernel_rfl) (by decide) (fun K hK => ?_)
  refine goes_ Try.func17 (by kernel_rfl) rfl #[.agg #[.int .i64 a0, .slice A0 l0.length c0]] (by rfl) rfl rfl (by (try simp only [List.map_toArray, List.map_cons, List.map_nil]); first | done | rfl) ?_
  refine (laws_toGraph.calls k a0 _ _ l0 a0 l0 _ (Kd.C_below HR0.out (by repeat (first | exact HB.out | apply below_alloc | apply pw_below_drewN | apply below_drew1))) hc0 FG0.out).mono ?_
  rintro e w8 ⟨ve0, rfl, hse0_, hb_⟩
  refine ⟨_, rfl, ?_⟩
  have HB0_ := Aside0.mk (by repeat (first | exact HB.out | apply below_alloc | apply pw_below_drewN | apply below_drew1))
  have He0 : Aside0 (Kd.S (Kd.slice 2 (Kd.int .i64)) 43 w8 w.heap.size (fun k_ => w7.heap.size ≤ k_ ∧ k_ < w8.heap.size) _ l0) := ⟨Kd.S_mono (Kd.S_lower (Kd.S_bound hse0_) (by have h_ := HB0_.out.size; (try simp at h_); (try simp); omega)) (fun k_ hk_ => ⟨by have h_ := hk_.2.1; (try simp at h_); omega, hk_.2.2.1⟩)⟩
  clear HB0_ hse0_
  have nW0l := Aside0.mk (Kd.R_below (by (with_reducible repeat (first | apply Kd.R_alloc | apply Kd.R_drewN | apply Kd.R_drew)); exact HW0l.out) hb_)
  have nX0 := Aside0.mk (Kd.S_below (by (with_reducible repeat (first | apply Kd.S_alloc | apply Kd.S_drewN | apply Kd.S_drew)); exact HX0.out) hb_)
  have nG0l := Aside0.mk (Kd.R_below (by (with_reducible repeat (first | apply Kd.R_alloc | apply Kd.R_drewN | apply Kd.R_drew)); exact HG0l.out) hb_)
  have np0 : Aside0 (w8.heap[w.heap.size]? = some (.cells #[.int .i64 a0, .slice A0 l0.length c0] 24 (0, 0))) := ⟨blk_below (by (first | exact heap_alloc_new _ _ | (refine blk_alloc ?_ _; exact heap_alloc_new _ _) | ((with_reducible repeat (first | refine blk_drewN ?_ _ | refine blk_drew ?_ | refine blk_alloc ?_ _)); exact Kp0.out))) hb_⟩
  have nx0 : Aside0 (w8.heap[w4.heap.size]? = some (.cells #[.int .i64 a0, .slice AX0 l0.length cX0] 26 (0, 0))) := ⟨blk_below (by (first | exact heap_alloc_new _ _ | (refine blk_alloc ?_ _; exact heap_alloc_new _ _) | ((with_reducible repeat (first | refine blk_drewN ?_ _ | refine blk_drew ?_ | refine blk_alloc ?_ _)); exact Kx0.out))) hb_⟩
  have Zw8 : Aside0 (w7.heap.size + 0 ≤ w8.heap.size) := ⟨by have h_ := hb_.size; (try simp at h_); omega⟩
  have nB_ := Aside0.mk (below_step (by repeat (first | exact HB.out | apply below_alloc | apply pw_below_drewN | apply below_drew1)) hb_)
  clear HB HW0l HX0 HG0l Kp0 Kx0 hb_
  have HB := nB_
  clear nB_
  have HW0l := nW0l
  clear nW0l
  have HX0 := nX0
  clear nX0
  have HG0l := nG0l
  clear nG0l
  have Kp0 := np0
  clear np0
  have Kx0 := nx0
  clear nx0
  obtain ⟨Ae0, ce0, ee0⟩ := Kd.S_slice He0.out
  subst ee0
  refine hK.out _ _ ⟨(blk_cell Kx0.out 0).trans rfl, (blk_cell Kx0.out 1).trans rfl, (blk_cell Kp0.out 0).trans rfl, (blk_cell Kp0.out 1).trans rfl⟩ (fun hHeld => ?_)
  clear hK K
  refine norm_ (a' := ?_) ?_ ?_
  rotate_left
  · show Act.put _ (some 47) _ = _
    simp only [Act.put, List.setIfInBounds_toArray, List.set_cons_zero, List.set_cons_succ, i64_w, i32_w]
    rfl
  refine one_ (i := 3) (N := some 48) #[true, true, true, true, false] rfl rfl (by kernel_rfl) (by decide) (fun K hK => ?_)
  refine goes_ Try.func19 (by kernel_rfl) rfl #[.agg #[.int .i64 a0, .slice AX0 l0.length cX0], .agg #[.int .i64 a0, .slice Ae0 l0.length ce0]] (by rfl) rfl rfl (by (try simp only [List.map_toArray, List.map_cons, List.map_nil]); first | done | rfl) ?_
  refine (laws_eqGraph.calls k a0 _ _ l0 a0 _ _ l0 true _ (Kd.S_reads' (by (with_reducible repeat (first | apply Kd.S_alloc | apply Kd.S_drewN | apply Kd.S_drew)); exact HX0.out)).2.2 (Kd.S_reads' HX0.out).2.1 (Kd.S_reads' (by (with_reducible repeat (first | apply Kd.S_alloc | apply Kd.S_drewN | apply Kd.S_drew)); exact He0.out)).2.2 (Kd.S_reads' He0.out).2.1 FQ0.out).mono ?_
  rintro e w9 ⟨rfl, hb_⟩
  refine ⟨_, rfl, ?_⟩
  have HB0_ := Aside0.mk (by repeat (first | exact HB.out | apply below_alloc | apply pw_below_drewN | apply below_drew1))
  clear HB0_
  clear He0
  have nW0l := Aside0.mk (Kd.R_below (by (with_reducible repeat (first | apply Kd.R_alloc | apply Kd.R_drewN | apply Kd.R_drew)); exact HW0l.out) hb_)
  have nX0 := Aside0.mk (Kd.S_below (by (with_reducible repeat (first | apply Kd.S_alloc | apply Kd.S_drewN | apply Kd.S_drew)); exact HX0.out) hb_)
  have nG0l := Aside0.mk (Kd.R_below (by (with_reducible repeat (first | apply Kd.R_alloc | apply Kd.R_drewN | apply Kd.R_drew)); exact HG0l.out) hb_)
  have np0 : Aside0 (w9.heap[w.heap.size]? = some (.cells #[.int .i64 a0, .slice A0 l0.length c0] 24 (0, 0))) := ⟨blk_below (by (first | exact heap_alloc_new _ _ | (refine blk_alloc ?_ _; exact heap_alloc_new _ _) | ((with_reducible repeat (first | refine blk_drewN ?_ _ | refine blk_drew ?_ | refine blk_alloc ?_ _)); exact Kp0.out))) hb_⟩
  have nx0 : Aside0 (w9.heap[w4.heap.size]? = some (.cells #[.int .i64 a0, .slice AX0 l0.length cX0] 26 (0, 0))) := ⟨blk_below (by (first | exact heap_alloc_new _ _ | (refine blk_alloc ?_ _; exact heap_alloc_new _ _) | ((with_reducible repeat (first | refine blk_drewN ?_ _ | refine blk_drew ?_ | refine blk_alloc ?_ _)); exact Kx0.out))) hb_⟩
  have Zw9 : Aside0 (w8.heap.size + 0 ≤ w9.heap.size) := ⟨by have h_ := hb_.size; (try simp at h_); omega⟩
  have nB_ := Aside0.mk (below_step (by repeat (first | exact HB.out | apply below_alloc | apply pw_below_drewN | apply below_drew1)) hb_)
  clear HB HW0l HX0 HG0l Kp0 Kx0 hb_
  have HB := nB_
  clear nB_
  have HW0l := nW0l
  clear nW0l
  have HX0 := nX0
  clear nX0
  have HG0l := nG0l
  clear nG0l
  have Kp0 := np0
  clear np0
  have Kx0 := nx0
  clear nx0
  refine hK.out _ _ ⟨(blk_cell Kx0.out 0).trans rfl, (blk_cell Kx0.out 1).trans rfl, (blk_cell Kp0.out 0).trans rfl, (blk_cell Kp0.out 1).trans rfl⟩ (fun hHeld => ?_)
  clear hK K
  refine norm_ (a' := ?_) ?_ ?_
  rotate_left
  · show Act.put _ (some 48) _ = _
    simp only [Act.put, List.setIfInBounds_toArray, List.set_cons_zero, List.set_cons_succ, i64_w, i32_w]
    rfl
  refine pure_ (i := 4) (N := some 49) (v := ?_) (a' := ?_) #[true, true, true, true, true] rfl rfl (by kernel_rfl) (fun _ _ _ h => h) (Or.inl ⟨by rfl, ?_⟩) ?_ ?_
  rotate_left
  · intro w'
    go_simp
    with_reducible rfl
  rotate_left
  · simp only [Act.put, List.setIfInBounds_toArray, List.set_cons_zero, List.set_cons_succ, i64_w, i32_w]
    rfl
  refine done_ (by kernel_rfl) ?_
  try clear qp0_0 qp0_1 qx0_0 qx0_1
  have zp0_ := blk_lt Kp0.out
  have qp0_0 := (blk_cell Kp0.out 0).trans rfl
  have qp0_1 := (blk_cell Kp0.out 1).trans rfl
  have zx0_ := blk_lt Kx0.out
  have qx0_0 := (blk_cell Kx0.out 0).trans rfl
  have qx0_1 := (blk_cell Kx0.out 1).trans rfl
  go_wp2_with fail
  clear zp0_ qp0_0 qp0_1
  clear zx0_ qx0_0 qx0_1
  refine (laws_markGraph.calls k (fun k_ => w3.heap.size ≤ k_ ∧ k_ < w4.heap.size) a0 _ _ _ l0 1 m0 y0 w _ (by repeat (first | exact HB.out | apply below_alloc | apply pw_below_drewN | apply below_drew1)) (by (with_reducible repeat (first | apply Kd.S_alloc | apply Kd.S_drewN | apply Kd.S_drew)); exact HX0.out) FM0.out).mono ?_
  rintro e w10 ⟨rfl, hS_, hb0_, hk0_⟩
  have hk_ := hk0_
  have nI_ : Aside0 (Kd.S (Kd.slice 2 (Kd.int .i64)) 43 w10 w.heap.size (fun k_ => w3.heap.size ≤ k_ ∧ k_ < w4.heap.size) (.slice AX0 l0.length cX0) y0) := ⟨hS_⟩
  clear HX0 hS_ hk0_
  have nW0l := Aside0.mk (Kd.R_kept (by (with_reducible repeat (first | apply Kd.R_alloc | apply Kd.R_drewN | apply Kd.R_drew)); exact HW0l.out) hk_ (fun k_ h1_ h2_ => by have h3_ := h1_; have h4_ := h2_; have zw1_ := Zw1.out; have zw2_ := Zw2.out; have zw3_ := Zw3.out; have zw4_ := Zw4.out; have zw5_ := Zw5.out; have zw6_ := Zw6.out; have zw7_ := Zw7.out; have zw8_ := Zw8.out; have zw9_ := Zw9.out; omega))
  have nG0l := Aside0.mk (Kd.R_kept (by (with_reducible repeat (first | apply Kd.R_alloc | apply Kd.R_drewN | apply Kd.R_drew)); exact HG0l.out) hk_ (fun k_ h1_ h2_ => by have h3_ := h1_; have h4_ := h2_; have zw1_ := Zw1.out; have zw2_ := Zw2.out; have zw3_ := Zw3.out; have zw4_ := Zw4.out; have zw5_ := Zw5.out; have zw6_ := Zw6.out; have zw7_ := Zw7.out; have zw8_ := Zw8.out; have zw9_ := Zw9.out; omega))
  have np0 : Aside0 (w10.heap[w.heap.size]? = some (.cells #[.int .i64 a0, .slice A0 l0.length c0] 24 (0, 0))) := ⟨blk_kept (by (first | exact heap_alloc_new _ _ | (refine blk_alloc ?_ _; exact heap_alloc_new _ _) | ((with_reducible repeat (first | refine blk_drewN ?_ _ | refine blk_drew ?_ | refine blk_alloc ?_ _)); exact Kp0.out))) hk_ (fun h2_ => by have h4_ := h2_; have zw1_ := Zw1.out; have zw2_ := Zw2.out; have zw3_ := Zw3.out; have zw4_ := Zw4.out; have zw5_ := Zw5.out; have zw6_ := Zw6.out; have zw7_ := Zw7.out; have zw8_ := Zw8.out; have zw9_ := Zw9.out; omega)⟩
  have nx0 : Aside0 (w10.heap[w4.heap.size]? = some (.cells #[.int .i64 a0, .slice AX0 l0.length cX0] 26 (0, 0))) := ⟨blk_kept (by (first | exact heap_alloc_new _ _ | (refine blk_alloc ?_ _; exact heap_alloc_new _ _) | ((with_reducible repeat (first | refine blk_drewN ?_ _ | refine blk_drew ?_ | refine blk_alloc ?_ _)); exact Kx0.out))) hk_ (fun h2_ => by have h4_ := h2_; have zw1_ := Zw1.out; have zw2_ := Zw2.out; have zw3_ := Zw3.out; have zw4_ := Zw4.out; have zw5_ := Zw5.out; have zw6_ := Zw6.out; have zw7_ := Zw7.out; have zw8_ := Zw8.out; have zw9_ := Zw9.out; omega)⟩
  have Zw10 : Aside0 (w9.heap.size + 0 ≤ w10.heap.size) := ⟨by have h_ := hk_.1; (try simp at h_); omega⟩
  have nB_ := Aside0.mk hb0_
  clear HB HW0l HG0l Kp0 Kx0 hk_ hb0_
  have HB := nB_
  clear nB_
  have HW0l := nW0l
  clear nW0l
  have HG0l := nG0l
  clear nG0l
  have Kp0 := np0
  clear np0
  have Kx0 := nx0
  clear nx0
  have HX0 := nI_
  clear nI_
  have LX0w10 : Aside0 (y0.length = l0.length) := ⟨(Kd.S_reads' HX0.out).1.symm⟩
  try clear qp0_0 qp0_1 qx0_0 qx0_1
  have zp0_ := blk_lt Kp0.out
  have qp0_0 := (blk_cell Kp0.out 0).trans rfl
  have qp0_1 := (blk_cell Kp0.out 1).trans rfl
  have zx0_ := blk_lt Kx0.out
  have qx0_0 := (blk_cell Kx0.out 0).trans rfl
  have qx0_1 := (blk_cell Kx0.out 1).trans rfl
  go_wp2_with fail
  clear zp0_ qp0_0 qp0_1
  clear zx0_ qx0_0 qx0_1
  refine (laws_eqInt64S.calls k _ _ r0l _ _ r0l true _ (Kd.R_reads' (by (with_reducible repeat (first | apply Kd.R_alloc | apply Kd.R_drewN | apply Kd.R_drew)); exact HG0l.out)).2.2 (Kd.R_reads' HG0l.out).2.1 (Kd.R_reads' (by (with_reducible repeat (first | apply Kd.R_alloc | apply Kd.R_drewN | apply Kd.R_drew)); exact HW0l.out)).2.2 (Kd.R_reads' HW0l.out).2.1 FE0.out).mono ?_
  rintro e w11 ⟨rfl, hd_⟩
  have hb_ := hd_.below
  clear hd_
  have nW0l := Aside0.mk (Kd.R_below (by (with_reducible repeat (first | apply Kd.R_alloc | apply Kd.R_drewN | apply Kd.R_drew)); exact HW0l.out) hb_)
  have nX0 := Aside0.mk (Kd.S_below (by (with_reducible repeat (first | apply Kd.S_alloc | apply Kd.S_drewN | apply Kd.S_drew)); exact HX0.out) hb_)
  have nG0l := Aside0.mk (Kd.R_below (by (with_reducible repeat (first | apply Kd.R_alloc | apply Kd.R_drewN | apply Kd.R_drew)); exact HG0l.out) hb_)
  have np0 : Aside0 (w11.heap[w.heap.size]? = some (.cells #[.int .i64 a0, .slice A0 l0.length c0] 24 (0, 0))) := ⟨blk_below (by (first | exact heap_alloc_new _ _ | (refine blk_alloc ?_ _; exact heap_alloc_new _ _) | ((with_reducible repeat (first | refine blk_drewN ?_ _ | refine blk_drew ?_ | refine blk_alloc ?_ _)); exact Kp0.out))) hb_⟩
  have nx0 : Aside0 (w11.heap[w4.heap.size]? = some (.cells #[.int .i64 a0, .slice AX0 l0.length cX0] 26 (0, 0))) := ⟨blk_below (by (first | exact heap_alloc_new _ _ | (refine blk_alloc ?_ _; exact heap_alloc_new _ _) | ((with_reducible repeat (first | refine blk_drewN ?_ _ | refine blk_drew ?_ | refine blk_alloc ?_ _)); exact Kx0.out))) hb_⟩
  have Zw11 : Aside0 (w10.heap.size + 0 ≤ w11.heap.size) := ⟨by have h_ := hb_.size; (try simp at h_); omega⟩
  have nB_ := Aside0.mk (below_step (by repeat (first | exact HB.out | apply below_alloc | apply pw_below_drewN | apply below_drew1)) hb_)
  clear HB HW0l HX0 HG0l Kp0 Kx0 hb_
  have HB := nB_
  clear nB_
  have HW0l := nW0l
  clear nW0l
  have HX0 := nX0
  clear nX0
  have HG0l := nG0l
  clear nG0l
  have Kp0 := np0
  clear np0
  have Kx0 := nx0
  clear nx0
  try clear qp0_0 qp0_1 qx0_0 qx0_1
  have zp0_ := blk_lt Kp0.out
  have qp0_0 := (blk_cell Kp0.out 0).trans rfl
  have qp0_1 := (blk_cell Kp0.out 1).trans rfl
  have zx0_ := blk_lt Kx0.out
  have qx0_0 := (blk_cell Kx0.out 0).trans rfl
  have qx0_1 := (blk_cell Kx0.out 1).trans rfl
  go_wp2_with fail
  clear zp0_ qp0_0 qp0_1
  clear zx0_ qx0_0 qx0_1
  refine (laws_markInt64S.calls k (fun k_ => some k_ = (.slice AG0l r0l.length cG0l : Value).ownBlock) _ r0l 1 n0l x0l w _ (by repeat (first | exact HB.out | apply below_alloc | apply pw_below_drewN | apply below_drew1)) (Kd.R_tight rfl (by (with_reducible repeat (first | apply Kd.R_alloc | apply Kd.R_drewN | apply Kd.R_drew)); exact HG0l.out)) FN0l.out).mono ?_
  rintro e w12 ⟨rfl, hS_, hb0_, hk0_⟩
  have hk_ : Kept _ w12 (fun k_ => w4.heap.size + 1 ≤ k_ ∧ k_ < w5.heap.size) := hk0_.mono (fun k_ hk_ => HG0l.out.1 k_ hk_.symm)
  have nI_ : Aside0 (Kd.R (Kd.int .i64) 2 w12 w.heap.size (fun k_ => w4.heap.size + 1 ≤ k_ ∧ k_ < w5.heap.size) (.slice AG0l r0l.length cG0l) x0l) := ⟨Kd.R_mono (Kd.R_tight rfl hS_) (fun k_ hk_ => HG0l.out.1 k_ hk_.symm)⟩
  clear HG0l hS_ hk0_
  have nW0l := Aside0.mk (Kd.R_kept (by (with_reducible repeat (first | apply Kd.R_alloc | apply Kd.R_drewN | apply Kd.R_drew)); exact HW0l.out) hk_ (fun k_ h1_ h2_ => by have h3_ := h1_; have h4_ := h2_; have zw1_ := Zw1.out; have zw2_ := Zw2.out; have zw3_ := Zw3.out; have zw4_ := Zw4.out; have zw5_ := Zw5.out; have zw6_ := Zw6.out; have zw7_ := Zw7.out; have zw8_ := Zw8.out; have zw9_ := Zw9.out; have zw10_ := Zw10.out; have zw11_ := Zw11.out; omega))
  have nX0 := Aside0.mk (Kd.S_kept (by (with_reducible repeat (first | apply Kd.S_alloc | apply Kd.S_drewN | apply Kd.S_drew)); exact HX0.out) hk_ (fun k_ h1_ h2_ => by have h3_ := h1_; have h4_ := h2_; have zw1_ := Zw1.out; have zw2_ := Zw2.out; have zw3_ := Zw3.out; have zw4_ := Zw4.out; have zw5_ := Zw5.out; have zw6_ := Zw6.out; have zw7_ := Zw7.out; have zw8_ := Zw8.out; have zw9_ := Zw9.out; have zw10_ := Zw10.out; have zw11_ := Zw11.out; omega))
  have np0 : Aside0 (w12.heap[w.heap.size]? = some (.cells #[.int .i64 a0, .slice A0 l0.length c0] 24 (0, 0))) := ⟨blk_kept (by (first | exact heap_alloc_new _ _ | (refine blk_alloc ?_ _; exact heap_alloc_new _ _) | ((with_reducible repeat (first | refine blk_drewN ?_ _ | refine blk_drew ?_ | refine blk_alloc ?_ _)); exact Kp0.out))) hk_ (fun h2_ => by have h4_ := h2_; have zw1_ := Zw1.out; have zw2_ := Zw2.out; have zw3_ := Zw3.out; have zw4_ := Zw4.out; have zw5_ := Zw5.out; have zw6_ := Zw6.out; have zw7_ := Zw7.out; have zw8_ := Zw8.out; have zw9_ := Zw9.out; have zw10_ := Zw10.out; have zw11_ := Zw11.out; omega)⟩
  have nx0 : Aside0 (w12.heap[w4.heap.size]? = some (.cells #[.int .i64 a0, .slice AX0 l0.length cX0] 26 (0, 0))) := ⟨blk_kept (by (first | exact heap_alloc_new _ _ | (refine blk_alloc ?_ _; exact heap_alloc_new _ _) | ((with_reducible repeat (first | refine blk_drewN ?_ _ | refine blk_drew ?_ | refine blk_alloc ?_ _)); exact Kx0.out))) hk_ (fun h2_ => by have h4_ := h2_; have zw1_ := Zw1.out; have zw2_ := Zw2.out; have zw3_ := Zw3.out; have zw4_ := Zw4.out; have zw5_ := Zw5.out; have zw6_ := Zw6.out; have zw7_ := Zw7.out; have zw8_ := Zw8.out; have zw9_ := Zw9.out; have zw10_ := Zw10.out; have zw11_ := Zw11.out; omega)⟩
  have Zw12 : Aside0 (w11.heap.size + 0 ≤ w12.heap.size) := ⟨by have h_ := hk_.1; (try simp at h_); omega⟩
  have nB_ := Aside0.mk hb0_
  clear HB HW0l HX0 Kp0 Kx0 hk_ hb0_
  have HB := nB_
  clear nB_
  have HW0l := nW0l
  clear nW0l
  have HX0 := nX0
  clear nX0
  have Kp0 := np0
  clear np0
  have Kx0 := nx0
  clear nx0
  have HG0l := nI_
  clear nI_
  have LG0lw12 : Aside0 (x0l.length = r0l.length) := ⟨(Kd.R_reads' HG0l.out).1.symm⟩
  try clear qp0_0 qp0_1 qx0_0 qx0_1
  have zp0_ := blk_lt Kp0.out
  have qp0_0 := (blk_cell Kp0.out 0).trans rfl
  have qp0_1 := (blk_cell Kp0.out 1).trans rfl
  have zx0_ := blk_lt Kx0.out
  have qx0_0 := (blk_cell Kx0.out 0).trans rfl
  have qx0_1 := (blk_cell Kx0.out 1).trans rfl
  go_wp2_with fail
  clear zp0_ qp0_0 qp0_1
  clear zx0_ qx0_0 qx0_1
  rw [← LG0lw12.out]
  refine (laws_heldInt64S.calls k _ _ x0l 1 n0l _ (Kd.R_reads' (by (with_reducible repeat (first | apply Kd.R_alloc | apply Kd.R_drewN | apply Kd.R_drew)); exact HG0l.out)).2.2 (by rw [LG0lw12.out]; exact (Kd.R_reads' HG0l.out).2.1) FH0.out).mono ?_
  rintro e w13 ⟨rfl, hd_⟩
  have hb_ := hd_.below
  clear hd_
  have nW0l := Aside0.mk (Kd.R_below (by (with_reducible repeat (first | apply Kd.R_alloc | apply Kd.R_drewN | apply Kd.R_drew)); exact HW0l.out) hb_)
  have nX0 := Aside0.mk (Kd.S_below (by (with_reducible repeat (first | apply Kd.S_alloc | apply Kd.S_drewN | apply Kd.S_drew)); exact HX0.out) hb_)
  have nG0l := Aside0.mk (Kd.R_below (by (with_reducible repeat (first | apply Kd.R_alloc | apply Kd.R_drewN | apply Kd.R_drew)); exact HG0l.out) hb_)
  have np0 : Aside0 (w13.heap[w.heap.size]? = some (.cells #[.int .i64 a0, .slice A0 l0.length c0] 24 (0, 0))) := ⟨blk_below (by (first | exact heap_alloc_new _ _ | (refine blk_alloc ?_ _; exact heap_alloc_new _ _) | ((with_reducible repeat (first | refine blk_drewN ?_ _ | refine blk_drew ?_ | refine blk_alloc ?_ _)); exact Kp0.out))) hb_⟩
  have nx0 : Aside0 (w13.heap[w4.heap.size]? = some (.cells #[.int .i64 a0, .slice AX0 l0.length cX0] 26 (0, 0))) := ⟨blk_below (by (first | exact heap_alloc_new _ _ | (refine blk_alloc ?_ _; exact heap_alloc_new _ _) | ((with_reducible repeat (first | refine blk_drewN ?_ _ | refine blk_drew ?_ | refine blk_alloc ?_ _)); exact Kx0.out))) hb_⟩
  have Zw13 : Aside0 (w12.heap.size + 0 ≤ w13.heap.size) := ⟨by have h_ := hb_.size; (try simp at h_); omega⟩
  have nB_ := Aside0.mk (below_step (by repeat (first | exact HB.out | apply below_alloc | apply pw_below_drewN | apply below_drew1)) hb_)
  clear HB HW0l HX0 HG0l Kp0 Kx0 hb_
  have HB := nB_
  clear nB_
  have HW0l := nW0l
  clear nW0l
  have HX0 := nX0
  clear nX0
  have HG0l := nG0l
  clear nG0l
  have Kp0 := np0
  clear np0
  have Kx0 := nx0
  clear nx0
  try rw [LG0lw12.out]
  try clear qp0_0 qp0_1 qx0_0 qx0_1
  have zp0_ := blk_lt Kp0.out
  have qp0_0 := (blk_cell Kp0.out 0).trans rfl
  have qp0_1 := (blk_cell Kp0.out 1).trans rfl
  have zx0_ := blk_lt Kx0.out
  have qx0_0 := (blk_cell Kx0.out 0).trans rfl
  have qx0_1 := (blk_cell Kx0.out 1).trans rfl
  go_wp2_with fail
  clear zp0_ qp0_0 qp0_1
  clear zx0_ qx0_0 qx0_1
  refine (laws_toGraph.calls k a0 _ _ l0 a0 l0 _ (Kd.C_below HR0.out (by repeat (first | exact HB.out | apply below_alloc | apply pw_below_drewN | apply below_drew1))) hc0 FG0.out).mono ?_
  rintro e w14 ⟨vu0, rfl, hsu0_, hb_⟩
  have HB0_ := Aside0.mk (by repeat (first | exact HB.out | apply below_alloc | apply pw_below_drewN | apply below_drew1))
  have Hu0 : Aside0 (Kd.S (Kd.slice 2 (Kd.int .i64)) 43 w14 w.heap.size (fun k_ => w13.heap.size ≤ k_ ∧ k_ < w14.heap.size) _ l0) := ⟨Kd.S_mono (Kd.S_lower (Kd.S_bound hsu0_) (by have h_ := HB0_.out.size; (try simp at h_); (try simp); omega)) (fun k_ hk_ => ⟨by have h_ := hk_.2.1; (try simp at h_); omega, hk_.2.2.1⟩)⟩
  clear HB0_ hsu0_
  have nW0l := Aside0.mk (Kd.R_below (by (with_reducible repeat (first | apply Kd.R_alloc | apply Kd.R_drewN | apply Kd.R_drew)); exact HW0l.out) hb_)
  have nX0 := Aside0.mk (Kd.S_below (by (with_reducible repeat (first | apply Kd.S_alloc | apply Kd.S_drewN | apply Kd.S_drew)); exact HX0.out) hb_)
  have nG0l := Aside0.mk (Kd.R_below (by (with_reducible repeat (first | apply Kd.R_alloc | apply Kd.R_drewN | apply Kd.R_drew)); exact HG0l.out) hb_)
  have np0 : Aside0 (w14.heap[w.heap.size]? = some (.cells #[.int .i64 a0, .slice A0 l0.length c0] 24 (0, 0))) := ⟨blk_below (by (first | exact heap_alloc_new _ _ | (refine blk_alloc ?_ _; exact heap_alloc_new _ _) | ((with_reducible repeat (first | refine blk_drewN ?_ _ | refine blk_drew ?_ | refine blk_alloc ?_ _)); exact Kp0.out))) hb_⟩
  have nx0 : Aside0 (w14.heap[w4.heap.size]? = some (.cells #[.int .i64 a0, .slice AX0 l0.length cX0] 26 (0, 0))) := ⟨blk_below (by (first | exact heap_alloc_new _ _ | (refine blk_alloc ?_ _; exact heap_alloc_new _ _) | ((with_reducible repeat (first | refine blk_drewN ?_ _ | refine blk_drew ?_ | refine blk_alloc ?_ _)); exact Kx0.out))) hb_⟩
  have Zw14 : Aside0 (w13.heap.size + 0 ≤ w14.heap.size) := ⟨by have h_ := hb_.size; (try simp at h_); omega⟩
  have nB_ := Aside0.mk (below_step (by repeat (first | exact HB.out | apply below_alloc | apply pw_below_drewN | apply below_drew1)) hb_)
  clear HB HW0l HX0 HG0l Kp0 Kx0 hb_
  have HB := nB_
  clear nB_
  have HW0l := nW0l
  clear nW0l
  have HX0 := nX0
  clear nX0
  have HG0l := nG0l
  clear nG0l
  have Kp0 := np0
  clear np0
  have Kx0 := nx0
  clear nx0
  obtain ⟨Au0, cu0, eu0⟩ := Kd.S_slice Hu0.out
  subst eu0
  try clear qp0_0 qp0_1 qx0_0 qx0_1
  have zp0_ := blk_lt Kp0.out
  have qp0_0 := (blk_cell Kp0.out 0).trans rfl
  have qp0_1 := (blk_cell Kp0.out 1).trans rfl
  have zx0_ := blk_lt Kx0.out
  have qx0_0 := (blk_cell Kx0.out 0).trans rfl
  have qx0_1 := (blk_cell Kx0.out 1).trans rfl
  go_wp2_with fail
  clear zp0_ qp0_0 qp0_1
  clear zx0_ qx0_0 qx0_1
  refine (impl_RootsModulo.calls k a0 _ _ l0 a1 r0l r1a _ (Kd.S_reads' (by (with_reducible repeat (first | apply Kd.S_alloc | apply Kd.S_drewN | apply Kd.S_drew)); exact Hu0.out)).2.2 (Kd.S_reads' Hu0.out).2.1 FI.out).mono ?_
  rintro e w15 ⟨vV0l, rfl, hsV0l_, hb_⟩
  have HB0_ := Aside0.mk (by repeat (first | exact HB.out | apply below_alloc | apply pw_below_drewN | apply below_drew1))
  have HV0l : Aside0 (Kd.R (Kd.int .i64) 2 w15 w.heap.size (fun k_ => w14.heap.size ≤ k_ ∧ k_ < w15.heap.size) _ r0l) := ⟨Kd.R_mono (Kd.R_lower (Kd.R_bound hsV0l_) (by have h_ := HB0_.out.size; (try simp at h_); (try simp); omega)) (fun k_ hk_ => ⟨by have h_ := hk_.2.1; (try simp at h_); omega, hk_.2.2.1⟩)⟩
  clear HB0_ hsV0l_
  clear Hu0
  have nW0l := Aside0.mk (Kd.R_below (by (with_reducible repeat (first | apply Kd.R_alloc | apply Kd.R_drewN | apply Kd.R_drew)); exact HW0l.out) hb_)
  have nX0 := Aside0.mk (Kd.S_below (by (with_reducible repeat (first | apply Kd.S_alloc | apply Kd.S_drewN | apply Kd.S_drew)); exact HX0.out) hb_)
  have nG0l := Aside0.mk (Kd.R_below (by (with_reducible repeat (first | apply Kd.R_alloc | apply Kd.R_drewN | apply Kd.R_drew)); exact HG0l.out) hb_)
  have np0 : Aside0 (w15.heap[w.heap.size]? = some (.cells #[.int .i64 a0, .slice A0 l0.length c0] 24 (0, 0))) := ⟨blk_below (by (first | exact heap_alloc_new _ _ | (refine blk_alloc ?_ _; exact heap_alloc_new _ _) | ((with_reducible repeat (first | refine blk_drewN ?_ _ | refine blk_drew ?_ | refine blk_alloc ?_ _)); exact Kp0.out))) hb_⟩
  have nx0 : Aside0 (w15.heap[w4.heap.size]? = some (.cells #[.int .i64 a0, .slice AX0 l0.length cX0] 26 (0, 0))) := ⟨blk_below (by (first | exact heap_alloc_new _ _ | (refine blk_alloc ?_ _; exact heap_alloc_new _ _) | ((with_reducible repeat (first | refine blk_drewN ?_ _ | refine blk_drew ?_ | refine blk_alloc ?_ _)); exact Kx0.out))) hb_⟩
  have Zw15 : Aside0 (w14.heap.size + 0 ≤ w15.heap.size) := ⟨by have h_ := hb_.size; (try simp at h_); omega⟩
  have nB_ := Aside0.mk (below_step (by repeat (first | exact HB.out | apply below_alloc | apply pw_below_drewN | apply below_drew1)) hb_)
  clear HB HW0l HX0 HG0l Kp0 Kx0 hb_
  have HB := nB_
  clear nB_
  have HW0l := nW0l
  clear nW0l
  have HX0 := nX0
  clear nX0
  have HG0l := nG0l
  clear nG0l
  have Kp0 := np0
  clear np0
  have Kx0 := nx0
  clear nx0
  obtain ⟨AV0l, cV0l, eV0l⟩ := Kd.R_slice HV0l.out
  subst eV0l
  try clear qp0_0 qp0_1 qx0_0 qx0_1
  have zp0_ := blk_lt Kp0.out
  have qp0_0 := (blk_cell Kp0.out 0).trans rfl
  have qp0_1 := (blk_cell Kp0.out 1).trans rfl
  have zx0_ := blk_lt Kx0.out
  have qx0_0 := (blk_cell Kx0.out 0).trans rfl
  have qx0_1 := (blk_cell Kx0.out 1).trans rfl
  go_wp2_with fail
  clear zp0_ qp0_0 qp0_1
  clear zx0_ qx0_0 qx0_1
  refine (laws_eqInt64S.calls k _ _ r0l _ _ r0l true _ (Kd.R_reads' (by (with_reducible repeat (first | apply Kd.R_alloc | apply Kd.R_drewN | apply Kd.R_drew)); exact HV0l.out)).2.2 (Kd.R_reads' HV0l.out).2.1 (Kd.R_reads' (by (with_reducible repeat (first | apply Kd.R_alloc | apply Kd.R_drewN | apply Kd.R_drew)); exact HW0l.out)).2.2 (Kd.R_reads' HW0l.out).2.1 FE0.out).mono ?_
  rintro e w16 ⟨rfl, hd_⟩
  have hb_ := hd_.below
  clear hd_
  have nW0l := Aside0.mk (Kd.R_below (by (with_reducible repeat (first | apply Kd.R_alloc | apply Kd.R_drewN | apply Kd.R_drew)); exact HW0l.out) hb_)
  have nX0 := Aside0.mk (Kd.S_below (by (with_reducible repeat (first | apply Kd.S_alloc | apply Kd.S_drewN | apply Kd.S_drew)); exact HX0.out) hb_)
  have nG0l := Aside0.mk (Kd.R_below (by (with_reducible repeat (first | apply Kd.R_alloc | apply Kd.R_drewN | apply Kd.R_drew)); exact HG0l.out) hb_)
  have nV0l := Aside0.mk (Kd.R_below (by (with_reducible repeat (first | apply Kd.R_alloc | apply Kd.R_drewN | apply Kd.R_drew)); exact HV0l.out) hb_)
  have np0 : Aside0 (w16.heap[w.heap.size]? = some (.cells #[.int .i64 a0, .slice A0 l0.length c0] 24 (0, 0))) := ⟨blk_below (by (first | exact heap_alloc_new _ _ | (refine blk_alloc ?_ _; exact heap_alloc_new _ _) | ((with_reducible repeat (first | refine blk_drewN ?_ _ | refine blk_drew ?_ | refine blk_alloc ?_ _)); exact Kp0.out))) hb_⟩
  have nx0 : Aside0 (w16.heap[w4.heap.size]? = some (.cells #[.int .i64 a0, .slice AX0 l0.length cX0] 26 (0, 0))) := ⟨blk_below (by (first | exact heap_alloc_new _ _ | (refine blk_alloc ?_ _; exact heap_alloc_new _ _) | ((with_reducible repeat (first | refine blk_drewN ?_ _ | refine blk_drew ?_ | refine blk_alloc ?_ _)); exact Kx0.out))) hb_⟩
  have Zw16 : Aside0 (w15.heap.size + 0 ≤ w16.heap.size) := ⟨by have h_ := hb_.size; (try simp at h_); omega⟩
  have nB_ := Aside0.mk (below_step (by repeat (first | exact HB.out | apply below_alloc | apply pw_below_drewN | apply below_drew1)) hb_)
  clear HB HW0l HX0 HG0l HV0l Kp0 Kx0 hb_
  have HB := nB_
  clear nB_
  have HW0l := nW0l
  clear nW0l
  have HX0 := nX0
  clear nX0
  have HG0l := nG0l
  clear nG0l
  have HV0l := nV0l
  clear nV0l
  have Kp0 := np0
  clear np0
  have Kx0 := nx0
  clear nx0
  try clear qp0_0 qp0_1 qx0_0 qx0_1
  have zp0_ := blk_lt Kp0.out
  have qp0_0 := (blk_cell Kp0.out 0).trans rfl
  have qp0_1 := (blk_cell Kp0.out 1).trans rfl
  have zx0_ := blk_lt Kx0.out
  have qx0_0 := (blk_cell Kx0.out 0).trans rfl
  have qx0_1 := (blk_cell Kx0.out 1).trans rfl
  go_wp2_with fail
  clear zp0_ qp0_0 qp0_1
  clear zx0_ qx0_0 qx0_1
  rw [← LG0lw12.out]
  refine (laws_heldInt64S.calls k _ _ x0l 1 n0l _ (Kd.R_reads' (by (with_reducible repeat (first | apply Kd.R_alloc | apply Kd.R_drewN | apply Kd.R_drew)); exact HG0l.out)).2.2 (by rw [LG0lw12.out]; exact (Kd.R_reads' HG0l.out).2.1) FH0.out).mono ?_
  rintro e w17 ⟨rfl, hd_⟩
  have hb_ := hd_.below
  clear hd_
  have nW0l := Aside0.mk (Kd.R_below (by (with_reducible repeat (first | apply Kd.R_alloc | apply Kd.R_drewN | apply Kd.R_drew)); exact HW0l.out) hb_)
  have nX0 := Aside0.mk (Kd.S_below (by (with_reducible repeat (first | apply Kd.S_alloc | apply Kd.S_drewN | apply Kd.S_drew)); exact HX0.out) hb_)
  have nG0l := Aside0.mk (Kd.R_below (by (with_reducible repeat (first | apply Kd.R_alloc | apply Kd.R_drewN | apply Kd.R_drew)); exact HG0l.out) hb_)
  have nV0l := Aside0.mk (Kd.R_below (by (with_reducible repeat (first | apply Kd.R_alloc | apply Kd.R_drewN | apply Kd.R_drew)); exact HV0l.out) hb_)
  have np0 : Aside0 (w17.heap[w.heap.size]? = some (.cells #[.int .i64 a0, .slice A0 l0.length c0] 24 (0, 0))) := ⟨blk_below (by (first | exact heap_alloc_new _ _ | (refine blk_alloc ?_ _; exact heap_alloc_new _ _) | ((with_reducible repeat (first | refine blk_drewN ?_ _ | refine blk_drew ?_ | refine blk_alloc ?_ _)); exact Kp0.out))) hb_⟩
  have nx0 : Aside0 (w17.heap[w4.heap.size]? = some (.cells #[.int .i64 a0, .slice AX0 l0.length cX0] 26 (0, 0))) := ⟨blk_below (by (first | exact heap_alloc_new _ _ | (refine blk_alloc ?_ _; exact heap_alloc_new _ _) | ((with_reducible repeat (first | refine blk_drewN ?_ _ | refine blk_drew ?_ | refine blk_alloc ?_ _)); exact Kx0.out))) hb_⟩
  have Zw17 : Aside0 (w16.heap.size + 0 ≤ w17.heap.size) := ⟨by have h_ := hb_.size; (try simp at h_); omega⟩
  have nB_ := Aside0.mk (below_step (by repeat (first | exact HB.out | apply below_alloc | apply pw_below_drewN | apply below_drew1)) hb_)
  clear HB HW0l HX0 HG0l HV0l Kp0 Kx0 hb_
  have HB := nB_
  clear nB_
  have HW0l := nW0l
  clear nW0l
  have HX0 := nX0
  clear nX0
  have HG0l := nG0l
  clear nG0l
  have HV0l := nV0l
  clear nV0l
  have Kp0 := np0
  clear np0
  have Kx0 := nx0
  clear nx0
  try rw [LG0lw12.out]
  try clear qp0_0 qp0_1 qx0_0 qx0_1
  have zp0_ := blk_lt Kp0.out
  have qp0_0 := (blk_cell Kp0.out 0).trans rfl
  have qp0_1 := (blk_cell Kp0.out 1).trans rfl
  have zx0_ := blk_lt Kx0.out
  have qx0_0 := (blk_cell Kx0.out 0).trans rfl
  have qx0_1 := (blk_cell Kx0.out 1).trans rfl
  go_wp2
  go_ret
  exact ⟨by first | rfl | (simp; done) | (simp [*]; done), HB.out⟩

def laws_FnExactRootsModulo.Pure : Prop := ∀ (a0 : Int) (l0 : List (List Int)) (a1 : Int), (Lit.int .i64 a0).wf = true → l0.length ≤ maxLen → (∀ x ∈ l0, x.length ≤ maxLen ∧ ∀ n ∈ x, (Lit.int .i64 n).wf = true) → (Lit.int .i64 a1).wf = true → (∃ (k : Nat) (z0 : Int), z0 < 0 ∧ laws_szGraph.f k a0 l0 1048576 = some z0) ∨ (∃ (k : Nat) (z0 : Int) (r0l : List Int) (r1a : Int) (m0 : Int) (y0 : List (List Int)) (n0l : Int) (x0l : List Int), 0 ≤ z0 ∧ 0 ≤ m0 ∧ 0 ≤ n0l ∧ laws_toGraph.f k a0 l0 = some (a0, l0) ∧ laws_eqGraph.f k a0 l0 a0 l0 = some true ∧ laws_szGraph.f k a0 l0 1048576 = some z0 ∧ spec_RootsModulo.f k a0 l0 a1 = some (r0l, r1a) ∧ impl_RootsModulo.f k a0 l0 a1 = some (r0l, r1a) ∧ laws_eqInt64S.f k r0l r0l = some true ∧ laws_markInt64SS.f k l0 1 = some (m0, y0) ∧ laws_markInt64S.f k r0l 1 = some (n0l, x0l) ∧ laws_heldInt64S.f k x0l 1 = some n0l)
theorem laws_FnExactRootsModulo.calls (P : laws_FnExactRootsModulo.Pure) (a0 : Int) (A0 : Option Addr) (c0 : Nat) (l0 : List (List Int)) (a1 : Int) (w : World) (hr0 : Kd.C (Kd.slice 2 (Kd.int .i64)) w A0 l0.length l0) (hc0 : l0.length ≤ c0)  (w0_0 : (Lit.int .i64 a0).wf = true) (hm0_1 : l0.length ≤ maxLen) (w0_1 : (∀ x ∈ l0, x.length ≤ maxLen ∧ ∀ n ∈ x, (Lit.int .i64 n).wf = true)) (w1 : (Lit.int .i64 a1).wf = true) :
    Calls Try.prog 10 #[.agg #[.int .i64 a0, .slice A0 l0.length c0], .int .i64 a1] w fun e w' => e = .returned (.bool true) ∧ Below w.heap.size w w' := by
  rcases P a0 l0 a1 w0_0 hm0_1 w0_1 w1  with ⟨k, z0, hz0, FZ0_⟩ | ⟨k, z0, r0l, r1a, m0, y0, n0l, x0l, hp0, hlm, hln, FG0, FQ0, FZ0, FS, FI, FE0, FM0, FN0l, FH0⟩
  · exact laws_FnExactRootsModulo.small_sz0 a0 A0 c0 l0 a1 w hr0 hc0  k z0 hz0 FZ0_
  · exact laws_FnExactRootsModulo.big k a0 A0 c0 l0 a1 w hr0 hc0 z0 hp0 r0l r1a m0 y0 n0l x0l hlm hln  FG0 FQ0 FZ0 FS FI FE0 FM0 FN0l FH0

end Go.Proofs.Ytpckiapngjcijaa.F
