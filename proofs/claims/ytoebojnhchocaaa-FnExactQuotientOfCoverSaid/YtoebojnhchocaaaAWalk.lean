/- The walk of FnExactQuotientOfCover: where its callees answer as its pure statement says, it answers true. Condition: that statement. -/
import Derived.Test.YtoebojnhchocaaaAx
namespace Go.Proofs.Ytoebojnhchocaaa.A
open Go.RowKit Go.Proofs.YtoebojnhchocaaaW.PrintWords Go.Proofs.YtoebojnhchocaaaW.PrintLast Go.Proofs.YtoebojnhchocaaaW.PrintMore
set_option linter.unusedVariables false
set_option linter.unusedSimpArgs false
set_option maxHeartbeats 8000000 in
set_option maxRecDepth 100000 in
theorem laws_FnExactQuotientOfCover.small_sz0 (a0 : Int) (A0 : Option Addr) (c0 : Nat) (l0 : List (List Int)) (s0 : Int) (B0 : Option Addr) (d0 : Nat) (t0 : List (List Int)) (w : World) (hr0 : Kd.C (Kd.slice 2 (Kd.int .i64)) w A0 l0.length l0) (hc0 : l0.length ≤ c0) (hrt0 : Kd.C (Kd.slice 2 (Kd.int .i64)) w B0 t0.length t0) (hct0 : t0.length ≤ d0)  (k : Nat) (z0 : Int) (hz0 : z0 < 0) (FZ0_ : F14.f k a0 l0 s0 t0 1048576 = some z0) :
  Calls Try.prog 3 #[.agg #[.int .i64 a0,.slice A0 l0.length c0,.int .i64 s0,.slice B0 t0.length d0]] w fun e w'=>e=.returned (.bool true)∧Below w.heap.size w w':=by
 have HR0:=Aside0.mk hr0
 have HRt0:=Aside0.mk hrt0
 have HB:=Aside0.mk (Below.refl w.heap.size w)
 have FZ0:=Aside0.mk FZ0_
 clear FZ0_
 have bz0:decide (z0 < 0)=true:=by simp;omega
 clear hr0 hrt0
 go_enter Try.func3,Try.ntmps3
 try clear qp0_0 qp0_1 qp0_2 qp0_3
 go_wp2_with fail
 refine (F14.calls k a0 _ _ l0 s0 _ _ t0 1048576 z0 _ (Kd.C_below HR0.out (by repeat (first|exact HB.out|apply below_alloc|apply pw_below_drewN|apply below_drew1))) hc0 (Kd.C_below HRt0.out (by repeat (first|exact HB.out|apply below_alloc|apply pw_below_drewN|apply below_drew1))) hct0 FZ0.out).mono ?_
 rintro e w1 ⟨rfl,hb_⟩
 have HB0_:=Aside0.mk (by repeat (first|exact HB.out|apply below_alloc|apply pw_below_drewN|apply below_drew1))
 clear HB0_
 have np0:Aside0 (w1.heap[w.heap.size]?=some (.cells #[.int .i64 a0,.slice A0 l0.length c0,.int .i64 s0,.slice B0 t0.length d0] 26 (0,0))):=⟨blk_below (by (first|exact heap_alloc_new _ _|(refine blk_alloc ?_ _;exact heap_alloc_new _ _)|((with_reducible repeat (first|refine blk_drewN ?_ _|refine blk_drew ?_|refine blk_alloc ?_ _));exact Kp0.out))) hb_⟩
 have Zw1:Aside0 (w.heap.size+1≤w1.heap.size):=⟨by have h_:=hb_.size;(try simp at h_);omega⟩
 have nB_:=Aside0.mk (below_step (by repeat (first|exact HB.out|apply below_alloc|apply pw_below_drewN|apply below_drew1)) hb_)
 clear HB hb_
 have HB:=nB_
 clear nB_
 have Kp0:=np0
 clear np0
 try clear qp0_0 qp0_1 qp0_2 qp0_3
 have zp0_:=blk_lt Kp0.out
 have qp0_0:=(blk_cell Kp0.out 0).trans rfl
 have qp0_1:=(blk_cell Kp0.out 1).trans rfl
 have qp0_2:=(blk_cell Kp0.out 2).trans rfl
 have qp0_3:=(blk_cell Kp0.out 3).trans rfl
 go_wp2
 go_ret
 exact ⟨by first|rfl|(simp;done)|(simp [*];done),(by repeat (first|exact HB.out|apply below_alloc|apply pw_below_drewN|apply below_drew1))⟩
set_option maxHeartbeats 8000000 in
set_option maxRecDepth 100000 in
theorem laws_FnExactQuotientOfCover.big (k : Nat) (a0 : Int) (A0 : Option Addr) (c0 : Nat) (l0 : List (List Int)) (s0 : Int) (B0 : Option Addr) (d0 : Nat) (t0 : List (List Int)) (w : World) (hr0 : Kd.C (Kd.slice 2 (Kd.int .i64)) w A0 l0.length l0) (hc0 : l0.length ≤ c0) (hrt0 : Kd.C (Kd.slice 2 (Kd.int .i64)) w B0 t0.length t0) (hct0 : t0.length ≤ d0) (z0 : Int) (hz0 : 0 ≤ z0) (r0l : List Int) (r1a : Int) (m0l : Int) (y0l : List (List Int)) (m0 : Int) (y0t : List (List Int)) (n0l : Int) (x0l : List Int) (hlm : 0 ≤ m0) (hln : 0 ≤ n0l)  (FG0_ : F16.f k a0 l0 s0 t0 = some (a0, l0, s0, t0)) (FQ0_ : F19.f k a0 l0 s0 t0 a0 l0 s0 t0 = some true) (FZ0_ : F14.f k a0 l0 s0 t0 1048576 = some z0) (FS_ : F15.f k a0 l0 s0 t0 = some (r0l, r1a)) (FI_ : F17.f k a0 l0 s0 t0 = some (r0l, r1a)) (FE0_ : F18.f k r0l r0l = some true) (FM0l_ : F88.f k l0 1 = some (m0l, y0l)) (FM0t_ : F88.f k t0 m0l = some (m0, y0t)) (FN0l_ : F21.f k r0l 1 = some (n0l, x0l)) (FH0_ : F22.f k x0l 1 = some n0l) :
  Calls Try.prog 3 #[.agg #[.int .i64 a0,.slice A0 l0.length c0,.int .i64 s0,.slice B0 t0.length d0]] w fun e w'=>e=.returned (.bool true)∧Below w.heap.size w w':=by
 have HR0:=Aside0.mk hr0
 have HRt0:=Aside0.mk hrt0
 have HB:=Aside0.mk (Below.refl w.heap.size w)
 have FG0:=Aside0.mk FG0_
 have FQ0:=Aside0.mk FQ0_
 have FZ0:=Aside0.mk FZ0_
 have FS:=Aside0.mk FS_
 have FI:=Aside0.mk FI_
 have FE0:=Aside0.mk FE0_
 have FM0l:=Aside0.mk FM0l_
 have FM0t:=Aside0.mk FM0t_
 have FN0l:=Aside0.mk FN0l_
 have FH0:=Aside0.mk FH0_
 clear hr0 hrt0 FG0_ FQ0_ FZ0_ FS_ FI_ FE0_ FM0l_ FM0t_ FN0l_ FH0_
 have bz0:decide (z0 < 0)=false:=by simp;omega
 have bm_:decide (m0 < 0)=false:=by simp;omega
 have bn_:decide (n0l < 0)=false:=by simp;omega
 go_enter Try.func3,Try.ntmps3
 try clear qp0_0 qp0_1 qp0_2 qp0_3
 go_wp2_with fail
 refine (F14.calls k a0 _ _ l0 s0 _ _ t0 1048576 z0 _ (Kd.C_below HR0.out (by repeat (first|exact HB.out|apply below_alloc|apply pw_below_drewN|apply below_drew1))) hc0 (Kd.C_below HRt0.out (by repeat (first|exact HB.out|apply below_alloc|apply pw_below_drewN|apply below_drew1))) hct0 FZ0.out).mono ?_
 rintro e w1 ⟨rfl,hb_⟩
 have HB0_:=Aside0.mk (by repeat (first|exact HB.out|apply below_alloc|apply pw_below_drewN|apply below_drew1))
 clear HB0_
 have np0:Aside0 (w1.heap[w.heap.size]?=some (.cells #[.int .i64 a0,.slice A0 l0.length c0,.int .i64 s0,.slice B0 t0.length d0] 26 (0,0))):=⟨blk_below (by (first|exact heap_alloc_new _ _|(refine blk_alloc ?_ _;exact heap_alloc_new _ _)|((with_reducible repeat (first|refine blk_drewN ?_ _|refine blk_drew ?_|refine blk_alloc ?_ _));exact Kp0.out))) hb_⟩
 have Zw1:Aside0 (w.heap.size+1≤w1.heap.size):=⟨by have h_:=hb_.size;(try simp at h_);omega⟩
 have nB_:=Aside0.mk (below_step (by repeat (first|exact HB.out|apply below_alloc|apply pw_below_drewN|apply below_drew1)) hb_)
 clear HB hb_
 have HB:=nB_
 clear nB_
 have Kp0:=np0
 clear np0
 try clear qp0_0 qp0_1 qp0_2 qp0_3
 have zp0_:=blk_lt Kp0.out
 have qp0_0:=(blk_cell Kp0.out 0).trans rfl
 have qp0_1:=(blk_cell Kp0.out 1).trans rfl
 have qp0_2:=(blk_cell Kp0.out 2).trans rfl
 have qp0_3:=(blk_cell Kp0.out 3).trans rfl
 go_wp2_with fail
 clear zp0_ qp0_0 qp0_1 qp0_2 qp0_3
 refine (F16.split k a0 _ _ l0 s0 _ _ t0 a0 l0 s0 t0 _ (Kd.C_below HR0.out (by repeat (first|exact HB.out|apply below_alloc|apply pw_below_drewN|apply below_drew1))) hc0 (Kd.C_below HRt0.out (by repeat (first|exact HB.out|apply below_alloc|apply pw_below_drewN|apply below_drew1))) hct0 FG0.out).mono ?_
 rintro e w2 ⟨vt0l,vt0t,mG_,rfl,hst0l_,hst0t_,hb_⟩
 have HB0_:=Aside0.mk (by repeat (first|exact HB.out|apply below_alloc|apply pw_below_drewN|apply below_drew1))
 obtain ⟨qw2,hq1_,hq2_,hq3_,hq4_⟩:=mid (w1.heap.size) mG_ w2.heap.size (by have h_:=hb_.size;(try simp at h_);(try simp);omega)
 have Zqw2:Aside0 ((w1.heap.size≤qw2)∧(qw2≤w2.heap.size)):=⟨⟨hq1_,hq2_⟩⟩
 have Ht0l:Aside0 (Kd.S (Kd.slice 2 (Kd.int .i64)) 28 w2 w.heap.size (fun k_=>w1.heap.size≤k_∧k_ < qw2) _ l0):=⟨Kd.S_mono (Kd.S_lower (Kd.S_bound hst0l_) (by have h_:=HB0_.out.size;(try simp at h_);(try simp);omega)) (fun k_ hk_=>⟨(by have h_:=hk_.2.1;(try simp at h_);omega),hq3_ k_ hk_.1 (by have h_:=hk_.2.1;(try simp at h_);omega) hk_.2.2.1⟩)⟩
 have Ht0t:Aside0 (Kd.S (Kd.slice 2 (Kd.int .i64)) 28 w2 w.heap.size (fun k_=>qw2≤k_∧k_ < w2.heap.size) _ t0):=⟨Kd.S_mono (Kd.S_lower (Kd.S_bound hst0t_) (by have h_:=HB0_.out.size;(try simp at h_);(try simp);omega)) (fun k_ hk_=>⟨hq4_ k_ hk_.1 (by have h_:=hk_.2.1;(try simp at h_);omega) hk_.2.2.1,hk_.2.2.1⟩)⟩
 clear HB0_ hst0l_ hst0t_ hq1_ hq2_ hq3_ hq4_
 have np0:Aside0 (w2.heap[w.heap.size]?=some (.cells #[.int .i64 a0,.slice A0 l0.length c0,.int .i64 s0,.slice B0 t0.length d0] 26 (0,0))):=⟨blk_below (by (first|exact heap_alloc_new _ _|(refine blk_alloc ?_ _;exact heap_alloc_new _ _)|((with_reducible repeat (first|refine blk_drewN ?_ _|refine blk_drew ?_|refine blk_alloc ?_ _));exact Kp0.out))) hb_⟩
 have Zw2:Aside0 (w1.heap.size+0≤w2.heap.size):=⟨by have h_:=hb_.size;(try simp at h_);omega⟩
 have nB_:=Aside0.mk (below_step (by repeat (first|exact HB.out|apply below_alloc|apply pw_below_drewN|apply below_drew1)) hb_)
 clear HB Kp0 hb_
 have HB:=nB_
 clear nB_
 have Kp0:=np0
 clear np0
 obtain ⟨At0l,ct0l,et0l⟩:=Kd.S_slice Ht0l.out
 subst et0l
 obtain ⟨At0t,ct0t,et0t⟩:=Kd.S_slice Ht0t.out
 subst et0t
 try clear qp0_0 qp0_1 qp0_2 qp0_3
 have zp0_:=blk_lt Kp0.out
 have qp0_0:=(blk_cell Kp0.out 0).trans rfl
 have qp0_1:=(blk_cell Kp0.out 1).trans rfl
 have qp0_2:=(blk_cell Kp0.out 2).trans rfl
 have qp0_3:=(blk_cell Kp0.out 3).trans rfl
 go_wp2_with fail
 clear zp0_ qp0_0 qp0_1 qp0_2 qp0_3
 refine (F15.calls k a0 _ _ l0 s0 _ _ t0 r0l r1a _ (Kd.S_reads' (aS Ht0l.out)).2.2 (Kd.S_reads' Ht0l.out).2.1 (Kd.S_reads' (aS Ht0t.out)).2.2 (Kd.S_reads' Ht0t.out).2.1 FS.out).mono ?_
 rintro e w3 ⟨vW0l,rfl,hsW0l_,hb_⟩
 have HB0_:=Aside0.mk (by repeat (first|exact HB.out|apply below_alloc|apply pw_below_drewN|apply below_drew1))
 have HW0l:Aside0 (Kd.R (Kd.int .i64) 2 w3 w.heap.size (fun k_=>w2.heap.size≤k_∧k_ < w3.heap.size) _ r0l):=⟨Kd.R_mono (Kd.R_lower (Kd.R_bound hsW0l_) (by have h_:=HB0_.out.size;(try simp at h_);(try simp);omega)) (fun k_ hk_=>⟨by have h_:=hk_.2.1;(try simp at h_);omega,hk_.2.2.1⟩)⟩
 clear HB0_ hsW0l_
 clear Ht0l
 clear Ht0t
 have np0:Aside0 (w3.heap[w.heap.size]?=some (.cells #[.int .i64 a0,.slice A0 l0.length c0,.int .i64 s0,.slice B0 t0.length d0] 26 (0,0))):=⟨blk_below (by (first|exact heap_alloc_new _ _|(refine blk_alloc ?_ _;exact heap_alloc_new _ _)|((with_reducible repeat (first|refine blk_drewN ?_ _|refine blk_drew ?_|refine blk_alloc ?_ _));exact Kp0.out))) hb_⟩
 have Zw3:Aside0 (w2.heap.size+0≤w3.heap.size):=⟨by have h_:=hb_.size;(try simp at h_);omega⟩
 have nB_:=Aside0.mk (below_step (by repeat (first|exact HB.out|apply below_alloc|apply pw_below_drewN|apply below_drew1)) hb_)
 clear HB Kp0 hb_
 have HB:=nB_
 clear nB_
 have Kp0:=np0
 clear np0
 obtain ⟨AW0l,cW0l,eW0l⟩:=Kd.R_slice HW0l.out
 subst eW0l
 try clear qp0_0 qp0_1 qp0_2 qp0_3
 have zp0_:=blk_lt Kp0.out
 have qp0_0:=(blk_cell Kp0.out 0).trans rfl
 have qp0_1:=(blk_cell Kp0.out 1).trans rfl
 have qp0_2:=(blk_cell Kp0.out 2).trans rfl
 have qp0_3:=(blk_cell Kp0.out 3).trans rfl
 go_wp2_with fail
 clear zp0_ qp0_0 qp0_1 qp0_2 qp0_3
 refine (F16.split k a0 _ _ l0 s0 _ _ t0 a0 l0 s0 t0 _ (Kd.C_below HR0.out (by repeat (first|exact HB.out|apply below_alloc|apply pw_below_drewN|apply below_drew1))) hc0 (Kd.C_below HRt0.out (by repeat (first|exact HB.out|apply below_alloc|apply pw_below_drewN|apply below_drew1))) hct0 FG0.out).mono ?_
 rintro e w4 ⟨vX0l,vX0t,mG_,rfl,hsX0l_,hsX0t_,hb_⟩
 have HB0_:=Aside0.mk (by repeat (first|exact HB.out|apply below_alloc|apply pw_below_drewN|apply below_drew1))
 obtain ⟨qw4,hq1_,hq2_,hq3_,hq4_⟩:=mid (w3.heap.size) mG_ w4.heap.size (by have h_:=hb_.size;(try simp at h_);(try simp);omega)
 have Zqw4:Aside0 ((w3.heap.size≤qw4)∧(qw4≤w4.heap.size)):=⟨⟨hq1_,hq2_⟩⟩
 have HX0l:Aside0 (Kd.S (Kd.slice 2 (Kd.int .i64)) 28 w4 w.heap.size (fun k_=>w3.heap.size≤k_∧k_ < qw4) _ l0):=⟨Kd.S_mono (Kd.S_lower (Kd.S_bound hsX0l_) (by have h_:=HB0_.out.size;(try simp at h_);(try simp);omega)) (fun k_ hk_=>⟨(by have h_:=hk_.2.1;(try simp at h_);omega),hq3_ k_ hk_.1 (by have h_:=hk_.2.1;(try simp at h_);omega) hk_.2.2.1⟩)⟩
 have HX0t:Aside0 (Kd.S (Kd.slice 2 (Kd.int .i64)) 28 w4 w.heap.size (fun k_=>qw4≤k_∧k_ < w4.heap.size) _ t0):=⟨Kd.S_mono (Kd.S_lower (Kd.S_bound hsX0t_) (by have h_:=HB0_.out.size;(try simp at h_);(try simp);omega)) (fun k_ hk_=>⟨hq4_ k_ hk_.1 (by have h_:=hk_.2.1;(try simp at h_);omega) hk_.2.2.1,hk_.2.2.1⟩)⟩
 clear HB0_ hsX0l_ hsX0t_ hq1_ hq2_ hq3_ hq4_
 have nW0l:=Aside0.mk (Kd.R_below (aR HW0l.out) hb_)
 have np0:Aside0 (w4.heap[w.heap.size]?=some (.cells #[.int .i64 a0,.slice A0 l0.length c0,.int .i64 s0,.slice B0 t0.length d0] 26 (0,0))):=⟨blk_below (by (first|exact heap_alloc_new _ _|(refine blk_alloc ?_ _;exact heap_alloc_new _ _)|((with_reducible repeat (first|refine blk_drewN ?_ _|refine blk_drew ?_|refine blk_alloc ?_ _));exact Kp0.out))) hb_⟩
 have Zw4:Aside0 (w3.heap.size+0≤w4.heap.size):=⟨by have h_:=hb_.size;(try simp at h_);omega⟩
 have nB_:=Aside0.mk (below_step (by repeat (first|exact HB.out|apply below_alloc|apply pw_below_drewN|apply below_drew1)) hb_)
 clear HB HW0l Kp0 hb_
 have HB:=nB_
 clear nB_
 have HW0l:=nW0l
 clear nW0l
 have Kp0:=np0
 clear np0
 obtain ⟨AX0l,cX0l,eX0l⟩:=Kd.S_slice HX0l.out
 subst eX0l
 obtain ⟨AX0t,cX0t,eX0t⟩:=Kd.S_slice HX0t.out
 subst eX0t
 try clear qp0_0 qp0_1 qp0_2 qp0_3 qx0_0 qx0_1 qx0_2 qx0_3
 have zp0_:=blk_lt Kp0.out
 have qp0_0:=(blk_cell Kp0.out 0).trans rfl
 have qp0_1:=(blk_cell Kp0.out 1).trans rfl
 have qp0_2:=(blk_cell Kp0.out 2).trans rfl
 have qp0_3:=(blk_cell Kp0.out 3).trans rfl
 go_wp2_with fail
 clear zp0_ qp0_0 qp0_1 qp0_2 qp0_3
 refine (F17.calls k a0 _ _ l0 s0 _ _ t0 r0l r1a _ (Kd.S_reads' (aS HX0l.out)).2.2 (Kd.S_reads' HX0l.out).2.1 (Kd.S_reads' (aS HX0t.out)).2.2 (Kd.S_reads' HX0t.out).2.1 FI.out).mono ?_
 rintro e w5 ⟨vG0l,rfl,hsG0l_,hb_⟩
 have HB0_:=Aside0.mk (by repeat (first|exact HB.out|apply below_alloc|apply pw_below_drewN|apply below_drew1))
 have HG0l:Aside0 (Kd.R (Kd.int .i64) 2 w5 w.heap.size (fun k_=>w4.heap.size+1≤k_∧k_ < w5.heap.size) _ r0l):=⟨Kd.R_mono (Kd.R_lower (Kd.R_bound hsG0l_) (by have h_:=HB0_.out.size;(try simp at h_);(try simp);omega)) (fun k_ hk_=>⟨by have h_:=hk_.2.1;(try simp at h_);omega,hk_.2.2.1⟩)⟩
 clear HB0_ hsG0l_
 have nW0l:=Aside0.mk (Kd.R_below (aR HW0l.out) hb_)
 have nX0l:=Aside0.mk (Kd.S_below (aS HX0l.out) hb_)
 have nX0t:=Aside0.mk (Kd.S_below (aS HX0t.out) hb_)
 have np0:Aside0 (w5.heap[w.heap.size]?=some (.cells #[.int .i64 a0,.slice A0 l0.length c0,.int .i64 s0,.slice B0 t0.length d0] 26 (0,0))):=⟨blk_below (by (first|exact heap_alloc_new _ _|(refine blk_alloc ?_ _;exact heap_alloc_new _ _)|((with_reducible repeat (first|refine blk_drewN ?_ _|refine blk_drew ?_|refine blk_alloc ?_ _));exact Kp0.out))) hb_⟩
 have nx0:Aside0 (w5.heap[w4.heap.size]?=some (.cells #[.int .i64 a0,.slice AX0l l0.length cX0l,.int .i64 s0,.slice AX0t t0.length cX0t] 33 (0,0))):=⟨blk_below (by (first|exact heap_alloc_new _ _|(refine blk_alloc ?_ _;exact heap_alloc_new _ _)|((with_reducible repeat (first|refine blk_drewN ?_ _|refine blk_drew ?_|refine blk_alloc ?_ _));exact Kx0.out))) hb_⟩
 have Zw5:Aside0 (w4.heap.size+1≤w5.heap.size):=⟨by have h_:=hb_.size;(try simp at h_);omega⟩
 have nB_:=Aside0.mk (below_step (by repeat (first|exact HB.out|apply below_alloc|apply pw_below_drewN|apply below_drew1)) hb_)
 clear HB HW0l HX0l HX0t Kp0 hb_
 have HB:=nB_
 clear nB_
 have HW0l:=nW0l
 clear nW0l
 have HX0l:=nX0l
 clear nX0l
 have HX0t:=nX0t
 clear nX0t
 have Kp0:=np0
 clear np0
 have Kx0:=nx0
 clear nx0
 obtain ⟨AG0l,cG0l,eG0l⟩:=Kd.R_slice HG0l.out
 subst eG0l
 try clear qp0_0 qp0_1 qp0_2 qp0_3 qx0_0 qx0_1 qx0_2 qx0_3
 have zp0_:=blk_lt Kp0.out
 have qp0_0:=(blk_cell Kp0.out 0).trans rfl
 have qp0_1:=(blk_cell Kp0.out 1).trans rfl
 have qp0_2:=(blk_cell Kp0.out 2).trans rfl
 have qp0_3:=(blk_cell Kp0.out 3).trans rfl
 have zx0_:=blk_lt Kx0.out
 have qx0_0:=(blk_cell Kx0.out 0).trans rfl
 have qx0_1:=(blk_cell Kx0.out 1).trans rfl
 have qx0_2:=(blk_cell Kx0.out 2).trans rfl
 have qx0_3:=(blk_cell Kx0.out 3).trans rfl
 go_wp2_with fail
 clear zp0_ qp0_0 qp0_1 qp0_2 qp0_3
 clear zx0_ qx0_0 qx0_1 qx0_2 qx0_3
 refine (F18.calls k _ _ r0l _ _ r0l true _ (Kd.R_reads' (aR HG0l.out)).2.2 (Kd.R_reads' HG0l.out).2.1 (Kd.R_reads' (aR HW0l.out)).2.2 (Kd.R_reads' HW0l.out).2.1 FE0.out).mono ?_
 rintro e w6 ⟨rfl,hd_⟩
 have hb_:=hd_.below
 clear hd_
 have nW0l:=Aside0.mk (Kd.R_below (aR HW0l.out) hb_)
 have nX0l:=Aside0.mk (Kd.S_below (aS HX0l.out) hb_)
 have nX0t:=Aside0.mk (Kd.S_below (aS HX0t.out) hb_)
 have nG0l:=Aside0.mk (Kd.R_below (aR HG0l.out) hb_)
 have np0:Aside0 (w6.heap[w.heap.size]?=some (.cells #[.int .i64 a0,.slice A0 l0.length c0,.int .i64 s0,.slice B0 t0.length d0] 26 (0,0))):=⟨blk_below (by (first|exact heap_alloc_new _ _|(refine blk_alloc ?_ _;exact heap_alloc_new _ _)|((with_reducible repeat (first|refine blk_drewN ?_ _|refine blk_drew ?_|refine blk_alloc ?_ _));exact Kp0.out))) hb_⟩
 have nx0:Aside0 (w6.heap[w4.heap.size]?=some (.cells #[.int .i64 a0,.slice AX0l l0.length cX0l,.int .i64 s0,.slice AX0t t0.length cX0t] 33 (0,0))):=⟨blk_below (by (first|exact heap_alloc_new _ _|(refine blk_alloc ?_ _;exact heap_alloc_new _ _)|((with_reducible repeat (first|refine blk_drewN ?_ _|refine blk_drew ?_|refine blk_alloc ?_ _));exact Kx0.out))) hb_⟩
 have Zw6:Aside0 (w5.heap.size+0≤w6.heap.size):=⟨by have h_:=hb_.size;(try simp at h_);omega⟩
 have nB_:=Aside0.mk (below_step (by repeat (first|exact HB.out|apply below_alloc|apply pw_below_drewN|apply below_drew1)) hb_)
 clear HB HW0l HX0l HX0t HG0l Kp0 Kx0 hb_
 have HB:=nB_
 clear nB_
 have HW0l:=nW0l
 clear nW0l
 have HX0l:=nX0l
 clear nX0l
 have HX0t:=nX0t
 clear nX0t
 have HG0l:=nG0l
 clear nG0l
 have Kp0:=np0
 clear np0
 have Kx0:=nx0
 clear nx0
 try clear qp0_0 qp0_1 qp0_2 qp0_3 qx0_0 qx0_1 qx0_2 qx0_3
 have zp0_:=blk_lt Kp0.out
 have qp0_0:=(blk_cell Kp0.out 0).trans rfl
 have qp0_1:=(blk_cell Kp0.out 1).trans rfl
 have qp0_2:=(blk_cell Kp0.out 2).trans rfl
 have qp0_3:=(blk_cell Kp0.out 3).trans rfl
 have zx0_:=blk_lt Kx0.out
 have qx0_0:=(blk_cell Kx0.out 0).trans rfl
 have qx0_1:=(blk_cell Kx0.out 1).trans rfl
 have qx0_2:=(blk_cell Kx0.out 2).trans rfl
 have qx0_3:=(blk_cell Kx0.out 3).trans rfl
 go_wp2_with fail
 clear zp0_ qp0_0 qp0_1 qp0_2 qp0_3
 clear zx0_ qx0_0 qx0_1 qx0_2 qx0_3
 have nW0l:=Aside0.mk (Kd.R_drew HW0l.out)
 have nX0l:=Aside0.mk (Kd.S_drew HX0l.out)
 have nX0t:=Aside0.mk (Kd.S_drew HX0t.out)
 have nG0l:=Aside0.mk (Kd.R_drew HG0l.out)
 have np0:=Aside0.mk (blk_drew Kp0.out)
 have nx0:=Aside0.mk (blk_drew Kx0.out)
 have nB_:=Aside0.mk (below_drew1 HB.out)
 have Zw7:Aside0 (w6.heap.size+0≤(w6.drew).heap.size):=⟨by simp⟩
 clear HB HW0l HX0l HX0t HG0l Kp0 Kx0
 have HB:=nB_
 clear nB_
 have HW0l:=nW0l
 clear nW0l
 have HX0l:=nX0l
 clear nX0l
 have HX0t:=nX0t
 clear nX0t
 have HG0l:=nG0l
 clear nG0l
 have Kp0:=np0
 clear np0
 have Kx0:=nx0
 clear nx0
 refine start_ (n:=5) (S:=fun w'=>w'.cell? ⟨w4.heap.size,0,none⟩=some (.int .i64 a0)∧w'.cell? ⟨w4.heap.size,1,none⟩=some (.slice AX0l l0.length cX0l)∧w'.cell? ⟨w4.heap.size,2,none⟩=some (.int .i64 s0)∧w'.cell? ⟨w4.heap.size,3,none⟩=some (.slice AX0t t0.length cX0t)∧w'.cell? ⟨w.heap.size,0,none⟩=some (.int .i64 a0)∧w'.cell? ⟨w.heap.size,1,none⟩=some (.slice A0 l0.length c0)∧w'.cell? ⟨w.heap.size,2,none⟩=some (.int .i64 s0)∧w'.cell? ⟨w.heap.size,3,none⟩=some (.slice B0 t0.length d0)) (ds:=[]) #[false,false,false,false,false] (by kernel_rfl) rfl rfl ⟨(blk_cell Kx0.out 0).trans rfl,(blk_cell Kx0.out 1).trans rfl,(blk_cell Kx0.out 2).trans rfl,(blk_cell Kx0.out 3).trans rfl,(blk_cell Kp0.out 0).trans rfl,(blk_cell Kp0.out 1).trans rfl,(blk_cell Kp0.out 2).trans rfl,(blk_cell Kp0.out 3).trans rfl⟩ (fun hHeld=>?_)
 generalize w6.drew=w7 at HB Zw7 hHeld HW0l HX0l HX0t HG0l Kp0 Kx0 ⊢
 refine take_ (i:=0) (N:=some 41) (v:=?_) (a':=?_) #[true,false,false,false,false] rfl rfl (by kernel_rfl) (fun _ _ _ h=>h) (Or.inl ⟨by rfl,?_⟩) hHeld ?_ ?_
 rotate_left
 ·rintro w' ⟨s0_, s1_, s2_, s3_, s4_, s5_, s6_, s7_⟩
  go_simp
  with_reducible rfl
 rotate_left
 ·simp only [Act.put, List.setIfInBounds_toArray, List.set_cons_zero, List.set_cons_succ, i64_w, i32_w]
  rfl
 refine take_ (i:=1) (N:=some 42) (v:=?_) (a':=?_) #[true,true,false,false,false] rfl rfl (by kernel_rfl) (fun _ _ _ h=>h) (Or.inl ⟨by rfl,?_⟩) hHeld ?_ ?_
 rotate_left
 ·rintro w' ⟨s0_, s1_, s2_, s3_, s4_, s5_, s6_, s7_⟩
  go_simp
  with_reducible rfl
 rotate_left
 ·simp only [Act.put, List.setIfInBounds_toArray, List.set_cons_zero, List.set_cons_succ, i64_w, i32_w]
  rfl
 refine one_ (i:=2) (N:=some 43) #[true,true,true,false,false] rfl rfl (by kernel_rfl) (by decide) (fun K hK=>?_)
 refine goes_ Try.func16 (by kernel_rfl) rfl #[.agg #[.int .i64 a0,.slice A0 l0.length c0,.int .i64 s0,.slice B0 t0.length d0]] (by rfl) rfl rfl (by (try simp only [List.map_toArray,List.map_cons,List.map_nil]);first|done|rfl) ?_
 refine (F16.split k a0 _ _ l0 s0 _ _ t0 a0 l0 s0 t0 _ (Kd.C_below HR0.out (by repeat (first|exact HB.out|apply below_alloc|apply pw_below_drewN|apply below_drew1))) hc0 (Kd.C_below HRt0.out (by repeat (first|exact HB.out|apply below_alloc|apply pw_below_drewN|apply below_drew1))) hct0 FG0.out).mono ?_
 rintro e w8 ⟨ve0l,ve0t,mG_,rfl,hse0l_,hse0t_,hb_⟩
 refine ⟨_,rfl,?_⟩
 have HB0_:=Aside0.mk (by repeat (first|exact HB.out|apply below_alloc|apply pw_below_drewN|apply below_drew1))
 obtain ⟨qw8,hq1_,hq2_,hq3_,hq4_⟩:=mid (w7.heap.size) mG_ w8.heap.size (by have h_:=hb_.size;(try simp at h_);(try simp);omega)
 have Zqw8:Aside0 ((w7.heap.size≤qw8)∧(qw8≤w8.heap.size)):=⟨⟨hq1_,hq2_⟩⟩
 have He0l:Aside0 (Kd.S (Kd.slice 2 (Kd.int .i64)) 28 w8 w.heap.size (fun k_=>w7.heap.size≤k_∧k_ < qw8) _ l0):=⟨Kd.S_mono (Kd.S_lower (Kd.S_bound hse0l_) (by have h_:=HB0_.out.size;(try simp at h_);(try simp);omega)) (fun k_ hk_=>⟨(by have h_:=hk_.2.1;(try simp at h_);omega),hq3_ k_ hk_.1 (by have h_:=hk_.2.1;(try simp at h_);omega) hk_.2.2.1⟩)⟩
 have He0t:Aside0 (Kd.S (Kd.slice 2 (Kd.int .i64)) 28 w8 w.heap.size (fun k_=>qw8≤k_∧k_ < w8.heap.size) _ t0):=⟨Kd.S_mono (Kd.S_lower (Kd.S_bound hse0t_) (by have h_:=HB0_.out.size;(try simp at h_);(try simp);omega)) (fun k_ hk_=>⟨hq4_ k_ hk_.1 (by have h_:=hk_.2.1;(try simp at h_);omega) hk_.2.2.1,hk_.2.2.1⟩)⟩
 clear HB0_ hse0l_ hse0t_ hq1_ hq2_ hq3_ hq4_
 have nW0l:=Aside0.mk (Kd.R_below (aR HW0l.out) hb_)
 have nX0l:=Aside0.mk (Kd.S_below (aS HX0l.out) hb_)
 have nX0t:=Aside0.mk (Kd.S_below (aS HX0t.out) hb_)
 have nG0l:=Aside0.mk (Kd.R_below (aR HG0l.out) hb_)
 have np0:Aside0 (w8.heap[w.heap.size]?=some (.cells #[.int .i64 a0,.slice A0 l0.length c0,.int .i64 s0,.slice B0 t0.length d0] 26 (0,0))):=⟨blk_below (by (first|exact heap_alloc_new _ _|(refine blk_alloc ?_ _;exact heap_alloc_new _ _)|((with_reducible repeat (first|refine blk_drewN ?_ _|refine blk_drew ?_|refine blk_alloc ?_ _));exact Kp0.out))) hb_⟩
 have nx0:Aside0 (w8.heap[w4.heap.size]?=some (.cells #[.int .i64 a0,.slice AX0l l0.length cX0l,.int .i64 s0,.slice AX0t t0.length cX0t] 33 (0,0))):=⟨blk_below (by (first|exact heap_alloc_new _ _|(refine blk_alloc ?_ _;exact heap_alloc_new _ _)|((with_reducible repeat (first|refine blk_drewN ?_ _|refine blk_drew ?_|refine blk_alloc ?_ _));exact Kx0.out))) hb_⟩
 have Zw8:Aside0 (w7.heap.size+0≤w8.heap.size):=⟨by have h_:=hb_.size;(try simp at h_);omega⟩
 have nB_:=Aside0.mk (below_step (by repeat (first|exact HB.out|apply below_alloc|apply pw_below_drewN|apply below_drew1)) hb_)
 clear HB HW0l HX0l HX0t HG0l Kp0 Kx0 hb_
 have HB:=nB_
 clear nB_
 have HW0l:=nW0l
 clear nW0l
 have HX0l:=nX0l
 clear nX0l
 have HX0t:=nX0t
 clear nX0t
 have HG0l:=nG0l
 clear nG0l
 have Kp0:=np0
 clear np0
 have Kx0:=nx0
 clear nx0
 obtain ⟨Ae0l,ce0l,ee0l⟩:=Kd.S_slice He0l.out
 subst ee0l
 obtain ⟨Ae0t,ce0t,ee0t⟩:=Kd.S_slice He0t.out
 subst ee0t
 refine hK.out _ _ ⟨(blk_cell Kx0.out 0).trans rfl,(blk_cell Kx0.out 1).trans rfl,(blk_cell Kx0.out 2).trans rfl,(blk_cell Kx0.out 3).trans rfl,(blk_cell Kp0.out 0).trans rfl,(blk_cell Kp0.out 1).trans rfl,(blk_cell Kp0.out 2).trans rfl,(blk_cell Kp0.out 3).trans rfl⟩ (fun hHeld=>?_)
 clear hK K
 refine norm_ (a':=?_) ?_ ?_
 rotate_left
 ·show Act.put _ (some 43) _ = _
  simp only [Act.put,List.setIfInBounds_toArray,List.set_cons_zero,List.set_cons_succ,i64_w,i32_w]
  rfl
 refine one_ (i:=3) (N:=some 44) #[true,true,true,true,false] rfl rfl (by kernel_rfl) (by decide) (fun K hK=>?_)
 refine goes_ Try.func19 (by kernel_rfl) rfl #[.agg #[.int .i64 a0,.slice AX0l l0.length cX0l,.int .i64 s0,.slice AX0t t0.length cX0t],.agg #[.int .i64 a0,.slice Ae0l l0.length ce0l,.int .i64 s0,.slice Ae0t t0.length ce0t]] (by rfl) rfl rfl (by (try simp only [List.map_toArray,List.map_cons,List.map_nil]);first|done|rfl) ?_
 refine (F19.calls k a0 _ _ l0 s0 _ _ t0 a0 _ _ l0 s0 _ _ t0 true _ (Kd.S_reads' (aS HX0l.out)).2.2 (Kd.S_reads' HX0l.out).2.1 (Kd.S_reads' (aS HX0t.out)).2.2 (Kd.S_reads' HX0t.out).2.1 (Kd.S_reads' (aS He0l.out)).2.2 (Kd.S_reads' He0l.out).2.1 (Kd.S_reads' (aS He0t.out)).2.2 (Kd.S_reads' He0t.out).2.1 FQ0.out).mono ?_
 rintro e w9 ⟨rfl,hb_⟩
 refine ⟨_,rfl,?_⟩
 have HB0_:=Aside0.mk (by repeat (first|exact HB.out|apply below_alloc|apply pw_below_drewN|apply below_drew1))
 clear HB0_
 clear He0l
 clear He0t
 have nW0l:=Aside0.mk (Kd.R_below (aR HW0l.out) hb_)
 have nX0l:=Aside0.mk (Kd.S_below (aS HX0l.out) hb_)
 have nX0t:=Aside0.mk (Kd.S_below (aS HX0t.out) hb_)
 have nG0l:=Aside0.mk (Kd.R_below (aR HG0l.out) hb_)
 have np0:Aside0 (w9.heap[w.heap.size]?=some (.cells #[.int .i64 a0,.slice A0 l0.length c0,.int .i64 s0,.slice B0 t0.length d0] 26 (0,0))):=⟨blk_below (by (first|exact heap_alloc_new _ _|(refine blk_alloc ?_ _;exact heap_alloc_new _ _)|((with_reducible repeat (first|refine blk_drewN ?_ _|refine blk_drew ?_|refine blk_alloc ?_ _));exact Kp0.out))) hb_⟩
 have nx0:Aside0 (w9.heap[w4.heap.size]?=some (.cells #[.int .i64 a0,.slice AX0l l0.length cX0l,.int .i64 s0,.slice AX0t t0.length cX0t] 33 (0,0))):=⟨blk_below (by (first|exact heap_alloc_new _ _|(refine blk_alloc ?_ _;exact heap_alloc_new _ _)|((with_reducible repeat (first|refine blk_drewN ?_ _|refine blk_drew ?_|refine blk_alloc ?_ _));exact Kx0.out))) hb_⟩
 have Zw9:Aside0 (w8.heap.size+0≤w9.heap.size):=⟨by have h_:=hb_.size;(try simp at h_);omega⟩
 have nB_:=Aside0.mk (below_step (by repeat (first|exact HB.out|apply below_alloc|apply pw_below_drewN|apply below_drew1)) hb_)
 clear HB HW0l HX0l HX0t HG0l Kp0 Kx0 hb_
 have HB:=nB_
 clear nB_
 have HW0l:=nW0l
 clear nW0l
 have HX0l:=nX0l
 clear nX0l
 have HX0t:=nX0t
 clear nX0t
 have HG0l:=nG0l
 clear nG0l
 have Kp0:=np0
 clear np0
 have Kx0:=nx0
 clear nx0
 refine hK.out _ _ ⟨(blk_cell Kx0.out 0).trans rfl,(blk_cell Kx0.out 1).trans rfl,(blk_cell Kx0.out 2).trans rfl,(blk_cell Kx0.out 3).trans rfl,(blk_cell Kp0.out 0).trans rfl,(blk_cell Kp0.out 1).trans rfl,(blk_cell Kp0.out 2).trans rfl,(blk_cell Kp0.out 3).trans rfl⟩ (fun hHeld=>?_)
 clear hK K
 refine norm_ (a':=?_) ?_ ?_
 rotate_left
 ·show Act.put _ (some 44) _ = _
  simp only [Act.put,List.setIfInBounds_toArray,List.set_cons_zero,List.set_cons_succ,i64_w,i32_w]
  rfl
 refine pure_ (i:=4) (N:=some 45) (v:=?_) (a':=?_) #[true,true,true,true,true] rfl rfl (by kernel_rfl) (fun _ _ _ h=>h) (Or.inl ⟨by rfl,?_⟩) ?_ ?_
 rotate_left
 ·intro w'
  go_simp
  with_reducible rfl
 rotate_left
 ·simp only [Act.put, List.setIfInBounds_toArray, List.set_cons_zero, List.set_cons_succ, i64_w, i32_w]
  rfl
 refine done_ (by kernel_rfl) ?_
 try clear qp0_0 qp0_1 qp0_2 qp0_3 qx0_0 qx0_1 qx0_2 qx0_3
 have zp0_:=blk_lt Kp0.out
 have qp0_0:=(blk_cell Kp0.out 0).trans rfl
 have qp0_1:=(blk_cell Kp0.out 1).trans rfl
 have qp0_2:=(blk_cell Kp0.out 2).trans rfl
 have qp0_3:=(blk_cell Kp0.out 3).trans rfl
 have zx0_:=blk_lt Kx0.out
 have qx0_0:=(blk_cell Kx0.out 0).trans rfl
 have qx0_1:=(blk_cell Kx0.out 1).trans rfl
 have qx0_2:=(blk_cell Kx0.out 2).trans rfl
 have qx0_3:=(blk_cell Kx0.out 3).trans rfl
 go_wp2_with fail
 clear zp0_ qp0_0 qp0_1 qp0_2 qp0_3
 clear zx0_ qx0_0 qx0_1 qx0_2 qx0_3
 refine (F20.calls k (fun k_=>w3.heap.size≤k_∧k_ < qw4) (fun k_=>qw4≤k_∧k_ < w4.heap.size) (fun k_ h1_ h2_=>by have h3_:=h1_;have h4_:=h2_;have zw1_:=Zw1.out;have zw2_:=Zw2.out;have zqw2_:=Zqw2.out;have zw3_:=Zw3.out;have zw4_:=Zw4.out;have zqw4_:=Zqw4.out;have zw5_:=Zw5.out;have zw6_:=Zw6.out;have zw7_:=Zw7.out;have zw8_:=Zw8.out;have zqw8_:=Zqw8.out;have zw9_:=Zw9.out;omega) a0 _ _ _ l0 s0 _ _ _ t0 1 m0l m0 y0l y0t w _ (by repeat (first|exact HB.out|apply below_alloc|apply pw_below_drewN|apply below_drew1)) (aS HX0l.out) (aS HX0t.out) FM0l.out FM0t.out).mono ?_
 rintro e w10 ⟨rfl,hS_,hT_,hb0_,hk0_⟩
 have hk_:Kept _ w10 (fun k_=>(w3.heap.size≤k_∧k_ < qw4)∨(qw4≤k_∧k_ < w4.heap.size)):=hk0_
 have nIX0l_:Aside0 (Kd.S (Kd.slice 2 (Kd.int .i64)) 28 w10 w.heap.size (fun k_=>w3.heap.size≤k_∧k_ < qw4) (.slice AX0l l0.length cX0l) y0l):=⟨hS_⟩
 have nIX0t_:Aside0 (Kd.S (Kd.slice 2 (Kd.int .i64)) 28 w10 w.heap.size (fun k_=>qw4≤k_∧k_ < w4.heap.size) (.slice AX0t t0.length cX0t) y0t):=⟨hT_⟩
 clear HX0l HX0t hS_ hT_ hk0_
 have nW0l:=Aside0.mk (Kd.R_kept (aR HW0l.out) hk_ (fun k_ h1_ h2_=>by have h3_:=h1_;have h4_:=h2_;have zw1_:=Zw1.out;have zw2_:=Zw2.out;have zqw2_:=Zqw2.out;have zw3_:=Zw3.out;have zw4_:=Zw4.out;have zqw4_:=Zqw4.out;have zw5_:=Zw5.out;have zw6_:=Zw6.out;have zw7_:=Zw7.out;have zw8_:=Zw8.out;have zqw8_:=Zqw8.out;have zw9_:=Zw9.out;omega))
 have nG0l:=Aside0.mk (Kd.R_kept (aR HG0l.out) hk_ (fun k_ h1_ h2_=>by have h3_:=h1_;have h4_:=h2_;have zw1_:=Zw1.out;have zw2_:=Zw2.out;have zqw2_:=Zqw2.out;have zw3_:=Zw3.out;have zw4_:=Zw4.out;have zqw4_:=Zqw4.out;have zw5_:=Zw5.out;have zw6_:=Zw6.out;have zw7_:=Zw7.out;have zw8_:=Zw8.out;have zqw8_:=Zqw8.out;have zw9_:=Zw9.out;omega))
 have np0:Aside0 (w10.heap[w.heap.size]?=some (.cells #[.int .i64 a0,.slice A0 l0.length c0,.int .i64 s0,.slice B0 t0.length d0] 26 (0,0))):=⟨blk_kept (by (first|exact heap_alloc_new _ _|(refine blk_alloc ?_ _;exact heap_alloc_new _ _)|((with_reducible repeat (first|refine blk_drewN ?_ _|refine blk_drew ?_|refine blk_alloc ?_ _));exact Kp0.out))) hk_ (fun h2_=>by have h4_:=h2_;have zw1_:=Zw1.out;have zw2_:=Zw2.out;have zqw2_:=Zqw2.out;have zw3_:=Zw3.out;have zw4_:=Zw4.out;have zqw4_:=Zqw4.out;have zw5_:=Zw5.out;have zw6_:=Zw6.out;have zw7_:=Zw7.out;have zw8_:=Zw8.out;have zqw8_:=Zqw8.out;have zw9_:=Zw9.out;omega)⟩
 have nx0:Aside0 (w10.heap[w4.heap.size]?=some (.cells #[.int .i64 a0,.slice AX0l l0.length cX0l,.int .i64 s0,.slice AX0t t0.length cX0t] 33 (0,0))):=⟨blk_kept (by (first|exact heap_alloc_new _ _|(refine blk_alloc ?_ _;exact heap_alloc_new _ _)|((with_reducible repeat (first|refine blk_drewN ?_ _|refine blk_drew ?_|refine blk_alloc ?_ _));exact Kx0.out))) hk_ (fun h2_=>by have h4_:=h2_;have zw1_:=Zw1.out;have zw2_:=Zw2.out;have zqw2_:=Zqw2.out;have zw3_:=Zw3.out;have zw4_:=Zw4.out;have zqw4_:=Zqw4.out;have zw5_:=Zw5.out;have zw6_:=Zw6.out;have zw7_:=Zw7.out;have zw8_:=Zw8.out;have zqw8_:=Zqw8.out;have zw9_:=Zw9.out;omega)⟩
 have Zw10:Aside0 (w9.heap.size+0≤w10.heap.size):=⟨by have h_:=hk_.1;(try simp at h_);omega⟩
 have nB_:=Aside0.mk hb0_
 clear HB HW0l HG0l Kp0 Kx0 hk_ hb0_
 have HB:=nB_
 clear nB_
 have HW0l:=nW0l
 clear nW0l
 have HG0l:=nG0l
 clear nG0l
 have Kp0:=np0
 clear np0
 have Kx0:=nx0
 clear nx0
 have HX0l:=nIX0l_
 clear nIX0l_
 have LX0lw10:Aside0 (y0l.length=l0.length):=⟨(Kd.S_reads' HX0l.out).1.symm⟩
 have HX0t:=nIX0t_
 clear nIX0t_
 have LX0tw10:Aside0 (y0t.length=t0.length):=⟨(Kd.S_reads' HX0t.out).1.symm⟩
 try clear qp0_0 qp0_1 qp0_2 qp0_3 qx0_0 qx0_1 qx0_2 qx0_3
 have zp0_:=blk_lt Kp0.out
 have qp0_0:=(blk_cell Kp0.out 0).trans rfl
 have qp0_1:=(blk_cell Kp0.out 1).trans rfl
 have qp0_2:=(blk_cell Kp0.out 2).trans rfl
 have qp0_3:=(blk_cell Kp0.out 3).trans rfl
 have zx0_:=blk_lt Kx0.out
 have qx0_0:=(blk_cell Kx0.out 0).trans rfl
 have qx0_1:=(blk_cell Kx0.out 1).trans rfl
 have qx0_2:=(blk_cell Kx0.out 2).trans rfl
 have qx0_3:=(blk_cell Kx0.out 3).trans rfl
 go_wp2_with fail
 clear zp0_ qp0_0 qp0_1 qp0_2 qp0_3
 clear zx0_ qx0_0 qx0_1 qx0_2 qx0_3
 refine (F18.calls k _ _ r0l _ _ r0l true _ (Kd.R_reads' (aR HG0l.out)).2.2 (Kd.R_reads' HG0l.out).2.1 (Kd.R_reads' (aR HW0l.out)).2.2 (Kd.R_reads' HW0l.out).2.1 FE0.out).mono ?_
 rintro e w11 ⟨rfl,hd_⟩
 have hb_:=hd_.below
 clear hd_
 have nW0l:=Aside0.mk (Kd.R_below (aR HW0l.out) hb_)
 have nX0l:=Aside0.mk (Kd.S_below (aS HX0l.out) hb_)
 have nX0t:=Aside0.mk (Kd.S_below (aS HX0t.out) hb_)
 have nG0l:=Aside0.mk (Kd.R_below (aR HG0l.out) hb_)
 have np0:Aside0 (w11.heap[w.heap.size]?=some (.cells #[.int .i64 a0,.slice A0 l0.length c0,.int .i64 s0,.slice B0 t0.length d0] 26 (0,0))):=⟨blk_below (by (first|exact heap_alloc_new _ _|(refine blk_alloc ?_ _;exact heap_alloc_new _ _)|((with_reducible repeat (first|refine blk_drewN ?_ _|refine blk_drew ?_|refine blk_alloc ?_ _));exact Kp0.out))) hb_⟩
 have nx0:Aside0 (w11.heap[w4.heap.size]?=some (.cells #[.int .i64 a0,.slice AX0l l0.length cX0l,.int .i64 s0,.slice AX0t t0.length cX0t] 33 (0,0))):=⟨blk_below (by (first|exact heap_alloc_new _ _|(refine blk_alloc ?_ _;exact heap_alloc_new _ _)|((with_reducible repeat (first|refine blk_drewN ?_ _|refine blk_drew ?_|refine blk_alloc ?_ _));exact Kx0.out))) hb_⟩
 have Zw11:Aside0 (w10.heap.size+0≤w11.heap.size):=⟨by have h_:=hb_.size;(try simp at h_);omega⟩
 have nB_:=Aside0.mk (below_step (by repeat (first|exact HB.out|apply below_alloc|apply pw_below_drewN|apply below_drew1)) hb_)
 clear HB HW0l HX0l HX0t HG0l Kp0 Kx0 hb_
 have HB:=nB_
 clear nB_
 have HW0l:=nW0l
 clear nW0l
 have HX0l:=nX0l
 clear nX0l
 have HX0t:=nX0t
 clear nX0t
 have HG0l:=nG0l
 clear nG0l
 have Kp0:=np0
 clear np0
 have Kx0:=nx0
 clear nx0
 try clear qp0_0 qp0_1 qp0_2 qp0_3 qx0_0 qx0_1 qx0_2 qx0_3
 have zp0_:=blk_lt Kp0.out
 have qp0_0:=(blk_cell Kp0.out 0).trans rfl
 have qp0_1:=(blk_cell Kp0.out 1).trans rfl
 have qp0_2:=(blk_cell Kp0.out 2).trans rfl
 have qp0_3:=(blk_cell Kp0.out 3).trans rfl
 have zx0_:=blk_lt Kx0.out
 have qx0_0:=(blk_cell Kx0.out 0).trans rfl
 have qx0_1:=(blk_cell Kx0.out 1).trans rfl
 have qx0_2:=(blk_cell Kx0.out 2).trans rfl
 have qx0_3:=(blk_cell Kx0.out 3).trans rfl
 go_wp2_with fail
 clear zp0_ qp0_0 qp0_1 qp0_2 qp0_3
 clear zx0_ qx0_0 qx0_1 qx0_2 qx0_3
 refine (F21.calls k (fun k_=>some k_=(.slice AG0l r0l.length cG0l:Value).ownBlock) _ r0l 1 n0l x0l w _ (by repeat (first|exact HB.out|apply below_alloc|apply pw_below_drewN|apply below_drew1)) (Kd.R_tight rfl (aR HG0l.out)) FN0l.out).mono ?_
 rintro e w12 ⟨rfl,hS_,hb0_,hk0_⟩
 have hk_:Kept _ w12 (fun k_=>w4.heap.size+1≤k_∧k_ < w5.heap.size):=hk0_.mono (fun k_ hk_=>HG0l.out.1 k_ hk_.symm)
 have nI_:Aside0 (Kd.R (Kd.int .i64) 2 w12 w.heap.size (fun k_=>w4.heap.size+1≤k_∧k_ < w5.heap.size) (.slice AG0l r0l.length cG0l) x0l):=⟨Kd.R_mono (Kd.R_tight rfl hS_) (fun k_ hk_=>HG0l.out.1 k_ hk_.symm)⟩
 clear HG0l hS_ hk0_
 have nW0l:=Aside0.mk (Kd.R_kept (aR HW0l.out) hk_ (fun k_ h1_ h2_=>by have h3_:=h1_;have h4_:=h2_;have zw1_:=Zw1.out;have zw2_:=Zw2.out;have zqw2_:=Zqw2.out;have zw3_:=Zw3.out;have zw4_:=Zw4.out;have zqw4_:=Zqw4.out;have zw5_:=Zw5.out;have zw6_:=Zw6.out;have zw7_:=Zw7.out;have zw8_:=Zw8.out;have zqw8_:=Zqw8.out;have zw9_:=Zw9.out;have zw10_:=Zw10.out;have zw11_:=Zw11.out;omega))
 have nX0l:=Aside0.mk (Kd.S_kept (aS HX0l.out) hk_ (fun k_ h1_ h2_=>by have h3_:=h1_;have h4_:=h2_;have zw1_:=Zw1.out;have zw2_:=Zw2.out;have zqw2_:=Zqw2.out;have zw3_:=Zw3.out;have zw4_:=Zw4.out;have zqw4_:=Zqw4.out;have zw5_:=Zw5.out;have zw6_:=Zw6.out;have zw7_:=Zw7.out;have zw8_:=Zw8.out;have zqw8_:=Zqw8.out;have zw9_:=Zw9.out;have zw10_:=Zw10.out;have zw11_:=Zw11.out;omega))
 have nX0t:=Aside0.mk (Kd.S_kept (aS HX0t.out) hk_ (fun k_ h1_ h2_=>by have h3_:=h1_;have h4_:=h2_;have zw1_:=Zw1.out;have zw2_:=Zw2.out;have zqw2_:=Zqw2.out;have zw3_:=Zw3.out;have zw4_:=Zw4.out;have zqw4_:=Zqw4.out;have zw5_:=Zw5.out;have zw6_:=Zw6.out;have zw7_:=Zw7.out;have zw8_:=Zw8.out;have zqw8_:=Zqw8.out;have zw9_:=Zw9.out;have zw10_:=Zw10.out;have zw11_:=Zw11.out;omega))
 have np0:Aside0 (w12.heap[w.heap.size]?=some (.cells #[.int .i64 a0,.slice A0 l0.length c0,.int .i64 s0,.slice B0 t0.length d0] 26 (0,0))):=⟨blk_kept (by (first|exact heap_alloc_new _ _|(refine blk_alloc ?_ _;exact heap_alloc_new _ _)|((with_reducible repeat (first|refine blk_drewN ?_ _|refine blk_drew ?_|refine blk_alloc ?_ _));exact Kp0.out))) hk_ (fun h2_=>by have h4_:=h2_;have zw1_:=Zw1.out;have zw2_:=Zw2.out;have zqw2_:=Zqw2.out;have zw3_:=Zw3.out;have zw4_:=Zw4.out;have zqw4_:=Zqw4.out;have zw5_:=Zw5.out;have zw6_:=Zw6.out;have zw7_:=Zw7.out;have zw8_:=Zw8.out;have zqw8_:=Zqw8.out;have zw9_:=Zw9.out;have zw10_:=Zw10.out;have zw11_:=Zw11.out;omega)⟩
 have nx0:Aside0 (w12.heap[w4.heap.size]?=some (.cells #[.int .i64 a0,.slice AX0l l0.length cX0l,.int .i64 s0,.slice AX0t t0.length cX0t] 33 (0,0))):=⟨blk_kept (by (first|exact heap_alloc_new _ _|(refine blk_alloc ?_ _;exact heap_alloc_new _ _)|((with_reducible repeat (first|refine blk_drewN ?_ _|refine blk_drew ?_|refine blk_alloc ?_ _));exact Kx0.out))) hk_ (fun h2_=>by have h4_:=h2_;have zw1_:=Zw1.out;have zw2_:=Zw2.out;have zqw2_:=Zqw2.out;have zw3_:=Zw3.out;have zw4_:=Zw4.out;have zqw4_:=Zqw4.out;have zw5_:=Zw5.out;have zw6_:=Zw6.out;have zw7_:=Zw7.out;have zw8_:=Zw8.out;have zqw8_:=Zqw8.out;have zw9_:=Zw9.out;have zw10_:=Zw10.out;have zw11_:=Zw11.out;omega)⟩
 have Zw12:Aside0 (w11.heap.size+0≤w12.heap.size):=⟨by have h_:=hk_.1;(try simp at h_);omega⟩
 have nB_:=Aside0.mk hb0_
 clear HB HW0l HX0l HX0t Kp0 Kx0 hk_ hb0_
 have HB:=nB_
 clear nB_
 have HW0l:=nW0l
 clear nW0l
 have HX0l:=nX0l
 clear nX0l
 have HX0t:=nX0t
 clear nX0t
 have Kp0:=np0
 clear np0
 have Kx0:=nx0
 clear nx0
 have HG0l:=nI_
 clear nI_
 have LG0lw12:Aside0 (x0l.length=r0l.length):=⟨(Kd.R_reads' HG0l.out).1.symm⟩
 try clear qp0_0 qp0_1 qp0_2 qp0_3 qx0_0 qx0_1 qx0_2 qx0_3
 have zp0_:=blk_lt Kp0.out
 have qp0_0:=(blk_cell Kp0.out 0).trans rfl
 have qp0_1:=(blk_cell Kp0.out 1).trans rfl
 have qp0_2:=(blk_cell Kp0.out 2).trans rfl
 have qp0_3:=(blk_cell Kp0.out 3).trans rfl
 have zx0_:=blk_lt Kx0.out
 have qx0_0:=(blk_cell Kx0.out 0).trans rfl
 have qx0_1:=(blk_cell Kx0.out 1).trans rfl
 have qx0_2:=(blk_cell Kx0.out 2).trans rfl
 have qx0_3:=(blk_cell Kx0.out 3).trans rfl
 go_wp2_with fail
 clear zp0_ qp0_0 qp0_1 qp0_2 qp0_3
 clear zx0_ qx0_0 qx0_1 qx0_2 qx0_3
 rw [← LG0lw12.out]
 refine (F22.calls k _ _ x0l 1 n0l _ (Kd.R_reads' (aR HG0l.out)).2.2 (by rw [LG0lw12.out];exact (Kd.R_reads' HG0l.out).2.1) FH0.out).mono ?_
 rintro e w13 ⟨rfl,hd_⟩
 have hb_:=hd_.below
 clear hd_
 have nW0l:=Aside0.mk (Kd.R_below (aR HW0l.out) hb_)
 have nX0l:=Aside0.mk (Kd.S_below (aS HX0l.out) hb_)
 have nX0t:=Aside0.mk (Kd.S_below (aS HX0t.out) hb_)
 have nG0l:=Aside0.mk (Kd.R_below (aR HG0l.out) hb_)
 have np0:Aside0 (w13.heap[w.heap.size]?=some (.cells #[.int .i64 a0,.slice A0 l0.length c0,.int .i64 s0,.slice B0 t0.length d0] 26 (0,0))):=⟨blk_below (by (first|exact heap_alloc_new _ _|(refine blk_alloc ?_ _;exact heap_alloc_new _ _)|((with_reducible repeat (first|refine blk_drewN ?_ _|refine blk_drew ?_|refine blk_alloc ?_ _));exact Kp0.out))) hb_⟩
 have nx0:Aside0 (w13.heap[w4.heap.size]?=some (.cells #[.int .i64 a0,.slice AX0l l0.length cX0l,.int .i64 s0,.slice AX0t t0.length cX0t] 33 (0,0))):=⟨blk_below (by (first|exact heap_alloc_new _ _|(refine blk_alloc ?_ _;exact heap_alloc_new _ _)|((with_reducible repeat (first|refine blk_drewN ?_ _|refine blk_drew ?_|refine blk_alloc ?_ _));exact Kx0.out))) hb_⟩
 have Zw13:Aside0 (w12.heap.size+0≤w13.heap.size):=⟨by have h_:=hb_.size;(try simp at h_);omega⟩
 have nB_:=Aside0.mk (below_step (by repeat (first|exact HB.out|apply below_alloc|apply pw_below_drewN|apply below_drew1)) hb_)
 clear HB HW0l HX0l HX0t HG0l Kp0 Kx0 hb_
 have HB:=nB_
 clear nB_
 have HW0l:=nW0l
 clear nW0l
 have HX0l:=nX0l
 clear nX0l
 have HX0t:=nX0t
 clear nX0t
 have HG0l:=nG0l
 clear nG0l
 have Kp0:=np0
 clear np0
 have Kx0:=nx0
 clear nx0
 try rw [LG0lw12.out]
 try clear qp0_0 qp0_1 qp0_2 qp0_3 qx0_0 qx0_1 qx0_2 qx0_3
 have zp0_:=blk_lt Kp0.out
 have qp0_0:=(blk_cell Kp0.out 0).trans rfl
 have qp0_1:=(blk_cell Kp0.out 1).trans rfl
 have qp0_2:=(blk_cell Kp0.out 2).trans rfl
 have qp0_3:=(blk_cell Kp0.out 3).trans rfl
 have zx0_:=blk_lt Kx0.out
 have qx0_0:=(blk_cell Kx0.out 0).trans rfl
 have qx0_1:=(blk_cell Kx0.out 1).trans rfl
 have qx0_2:=(blk_cell Kx0.out 2).trans rfl
 have qx0_3:=(blk_cell Kx0.out 3).trans rfl
 go_wp2_with fail
 clear zp0_ qp0_0 qp0_1 qp0_2 qp0_3
 clear zx0_ qx0_0 qx0_1 qx0_2 qx0_3
 refine (F16.split k a0 _ _ l0 s0 _ _ t0 a0 l0 s0 t0 _ (Kd.C_below HR0.out (by repeat (first|exact HB.out|apply below_alloc|apply pw_below_drewN|apply below_drew1))) hc0 (Kd.C_below HRt0.out (by repeat (first|exact HB.out|apply below_alloc|apply pw_below_drewN|apply below_drew1))) hct0 FG0.out).mono ?_
 rintro e w14 ⟨vu0l,vu0t,mG_,rfl,hsu0l_,hsu0t_,hb_⟩
 have HB0_:=Aside0.mk (by repeat (first|exact HB.out|apply below_alloc|apply pw_below_drewN|apply below_drew1))
 obtain ⟨qw14,hq1_,hq2_,hq3_,hq4_⟩:=mid (w13.heap.size) mG_ w14.heap.size (by have h_:=hb_.size;(try simp at h_);(try simp);omega)
 have Zqw14:Aside0 ((w13.heap.size≤qw14)∧(qw14≤w14.heap.size)):=⟨⟨hq1_,hq2_⟩⟩
 have Hu0l:Aside0 (Kd.S (Kd.slice 2 (Kd.int .i64)) 28 w14 w.heap.size (fun k_=>w13.heap.size≤k_∧k_ < qw14) _ l0):=⟨Kd.S_mono (Kd.S_lower (Kd.S_bound hsu0l_) (by have h_:=HB0_.out.size;(try simp at h_);(try simp);omega)) (fun k_ hk_=>⟨(by have h_:=hk_.2.1;(try simp at h_);omega),hq3_ k_ hk_.1 (by have h_:=hk_.2.1;(try simp at h_);omega) hk_.2.2.1⟩)⟩
 have Hu0t:Aside0 (Kd.S (Kd.slice 2 (Kd.int .i64)) 28 w14 w.heap.size (fun k_=>qw14≤k_∧k_ < w14.heap.size) _ t0):=⟨Kd.S_mono (Kd.S_lower (Kd.S_bound hsu0t_) (by have h_:=HB0_.out.size;(try simp at h_);(try simp);omega)) (fun k_ hk_=>⟨hq4_ k_ hk_.1 (by have h_:=hk_.2.1;(try simp at h_);omega) hk_.2.2.1,hk_.2.2.1⟩)⟩
 clear HB0_ hsu0l_ hsu0t_ hq1_ hq2_ hq3_ hq4_
 have nW0l:=Aside0.mk (Kd.R_below (aR HW0l.out) hb_)
 have nX0l:=Aside0.mk (Kd.S_below (aS HX0l.out) hb_)
 have nX0t:=Aside0.mk (Kd.S_below (aS HX0t.out) hb_)
 have nG0l:=Aside0.mk (Kd.R_below (aR HG0l.out) hb_)
 have np0:Aside0 (w14.heap[w.heap.size]?=some (.cells #[.int .i64 a0,.slice A0 l0.length c0,.int .i64 s0,.slice B0 t0.length d0] 26 (0,0))):=⟨blk_below (by (first|exact heap_alloc_new _ _|(refine blk_alloc ?_ _;exact heap_alloc_new _ _)|((with_reducible repeat (first|refine blk_drewN ?_ _|refine blk_drew ?_|refine blk_alloc ?_ _));exact Kp0.out))) hb_⟩
 have nx0:Aside0 (w14.heap[w4.heap.size]?=some (.cells #[.int .i64 a0,.slice AX0l l0.length cX0l,.int .i64 s0,.slice AX0t t0.length cX0t] 33 (0,0))):=⟨blk_below (by (first|exact heap_alloc_new _ _|(refine blk_alloc ?_ _;exact heap_alloc_new _ _)|((with_reducible repeat (first|refine blk_drewN ?_ _|refine blk_drew ?_|refine blk_alloc ?_ _));exact Kx0.out))) hb_⟩
 have Zw14:Aside0 (w13.heap.size+0≤w14.heap.size):=⟨by have h_:=hb_.size;(try simp at h_);omega⟩
 have nB_:=Aside0.mk (below_step (by repeat (first|exact HB.out|apply below_alloc|apply pw_below_drewN|apply below_drew1)) hb_)
 clear HB HW0l HX0l HX0t HG0l Kp0 Kx0 hb_
 have HB:=nB_
 clear nB_
 have HW0l:=nW0l
 clear nW0l
 have HX0l:=nX0l
 clear nX0l
 have HX0t:=nX0t
 clear nX0t
 have HG0l:=nG0l
 clear nG0l
 have Kp0:=np0
 clear np0
 have Kx0:=nx0
 clear nx0
 obtain ⟨Au0l,cu0l,eu0l⟩:=Kd.S_slice Hu0l.out
 subst eu0l
 obtain ⟨Au0t,cu0t,eu0t⟩:=Kd.S_slice Hu0t.out
 subst eu0t
 try clear qp0_0 qp0_1 qp0_2 qp0_3 qx0_0 qx0_1 qx0_2 qx0_3
 have zp0_:=blk_lt Kp0.out
 have qp0_0:=(blk_cell Kp0.out 0).trans rfl
 have qp0_1:=(blk_cell Kp0.out 1).trans rfl
 have qp0_2:=(blk_cell Kp0.out 2).trans rfl
 have qp0_3:=(blk_cell Kp0.out 3).trans rfl
 have zx0_:=blk_lt Kx0.out
 have qx0_0:=(blk_cell Kx0.out 0).trans rfl
 have qx0_1:=(blk_cell Kx0.out 1).trans rfl
 have qx0_2:=(blk_cell Kx0.out 2).trans rfl
 have qx0_3:=(blk_cell Kx0.out 3).trans rfl
 go_wp2_with fail
 clear zp0_ qp0_0 qp0_1 qp0_2 qp0_3
 clear zx0_ qx0_0 qx0_1 qx0_2 qx0_3
 refine (F17.calls k a0 _ _ l0 s0 _ _ t0 r0l r1a _ (Kd.S_reads' (aS Hu0l.out)).2.2 (Kd.S_reads' Hu0l.out).2.1 (Kd.S_reads' (aS Hu0t.out)).2.2 (Kd.S_reads' Hu0t.out).2.1 FI.out).mono ?_
 rintro e w15 ⟨vV0l,rfl,hsV0l_,hb_⟩
 have HB0_:=Aside0.mk (by repeat (first|exact HB.out|apply below_alloc|apply pw_below_drewN|apply below_drew1))
 have HV0l:Aside0 (Kd.R (Kd.int .i64) 2 w15 w.heap.size (fun k_=>w14.heap.size≤k_∧k_ < w15.heap.size) _ r0l):=⟨Kd.R_mono (Kd.R_lower (Kd.R_bound hsV0l_) (by have h_:=HB0_.out.size;(try simp at h_);(try simp);omega)) (fun k_ hk_=>⟨by have h_:=hk_.2.1;(try simp at h_);omega,hk_.2.2.1⟩)⟩
 clear HB0_ hsV0l_
 clear Hu0l
 clear Hu0t
 have nW0l:=Aside0.mk (Kd.R_below (aR HW0l.out) hb_)
 have nX0l:=Aside0.mk (Kd.S_below (aS HX0l.out) hb_)
 have nX0t:=Aside0.mk (Kd.S_below (aS HX0t.out) hb_)
 have nG0l:=Aside0.mk (Kd.R_below (aR HG0l.out) hb_)
 have np0:Aside0 (w15.heap[w.heap.size]?=some (.cells #[.int .i64 a0,.slice A0 l0.length c0,.int .i64 s0,.slice B0 t0.length d0] 26 (0,0))):=⟨blk_below (by (first|exact heap_alloc_new _ _|(refine blk_alloc ?_ _;exact heap_alloc_new _ _)|((with_reducible repeat (first|refine blk_drewN ?_ _|refine blk_drew ?_|refine blk_alloc ?_ _));exact Kp0.out))) hb_⟩
 have nx0:Aside0 (w15.heap[w4.heap.size]?=some (.cells #[.int .i64 a0,.slice AX0l l0.length cX0l,.int .i64 s0,.slice AX0t t0.length cX0t] 33 (0,0))):=⟨blk_below (by (first|exact heap_alloc_new _ _|(refine blk_alloc ?_ _;exact heap_alloc_new _ _)|((with_reducible repeat (first|refine blk_drewN ?_ _|refine blk_drew ?_|refine blk_alloc ?_ _));exact Kx0.out))) hb_⟩
 have Zw15:Aside0 (w14.heap.size+0≤w15.heap.size):=⟨by have h_:=hb_.size;(try simp at h_);omega⟩
 have nB_:=Aside0.mk (below_step (by repeat (first|exact HB.out|apply below_alloc|apply pw_below_drewN|apply below_drew1)) hb_)
 clear HB HW0l HX0l HX0t HG0l Kp0 Kx0 hb_
 have HB:=nB_
 clear nB_
 have HW0l:=nW0l
 clear nW0l
 have HX0l:=nX0l
 clear nX0l
 have HX0t:=nX0t
 clear nX0t
 have HG0l:=nG0l
 clear nG0l
 have Kp0:=np0
 clear np0
 have Kx0:=nx0
 clear nx0
 obtain ⟨AV0l,cV0l,eV0l⟩:=Kd.R_slice HV0l.out
 subst eV0l
 try clear qp0_0 qp0_1 qp0_2 qp0_3 qx0_0 qx0_1 qx0_2 qx0_3
 have zp0_:=blk_lt Kp0.out
 have qp0_0:=(blk_cell Kp0.out 0).trans rfl
 have qp0_1:=(blk_cell Kp0.out 1).trans rfl
 have qp0_2:=(blk_cell Kp0.out 2).trans rfl
 have qp0_3:=(blk_cell Kp0.out 3).trans rfl
 have zx0_:=blk_lt Kx0.out
 have qx0_0:=(blk_cell Kx0.out 0).trans rfl
 have qx0_1:=(blk_cell Kx0.out 1).trans rfl
 have qx0_2:=(blk_cell Kx0.out 2).trans rfl
 have qx0_3:=(blk_cell Kx0.out 3).trans rfl
 go_wp2_with fail
 clear zp0_ qp0_0 qp0_1 qp0_2 qp0_3
 clear zx0_ qx0_0 qx0_1 qx0_2 qx0_3
 refine (F18.calls k _ _ r0l _ _ r0l true _ (Kd.R_reads' (aR HV0l.out)).2.2 (Kd.R_reads' HV0l.out).2.1 (Kd.R_reads' (aR HW0l.out)).2.2 (Kd.R_reads' HW0l.out).2.1 FE0.out).mono ?_
 rintro e w16 ⟨rfl,hd_⟩
 have hb_:=hd_.below
 clear hd_
 have nW0l:=Aside0.mk (Kd.R_below (aR HW0l.out) hb_)
 have nX0l:=Aside0.mk (Kd.S_below (aS HX0l.out) hb_)
 have nX0t:=Aside0.mk (Kd.S_below (aS HX0t.out) hb_)
 have nG0l:=Aside0.mk (Kd.R_below (aR HG0l.out) hb_)
 have nV0l:=Aside0.mk (Kd.R_below (aR HV0l.out) hb_)
 have np0:Aside0 (w16.heap[w.heap.size]?=some (.cells #[.int .i64 a0,.slice A0 l0.length c0,.int .i64 s0,.slice B0 t0.length d0] 26 (0,0))):=⟨blk_below (by (first|exact heap_alloc_new _ _|(refine blk_alloc ?_ _;exact heap_alloc_new _ _)|((with_reducible repeat (first|refine blk_drewN ?_ _|refine blk_drew ?_|refine blk_alloc ?_ _));exact Kp0.out))) hb_⟩
 have nx0:Aside0 (w16.heap[w4.heap.size]?=some (.cells #[.int .i64 a0,.slice AX0l l0.length cX0l,.int .i64 s0,.slice AX0t t0.length cX0t] 33 (0,0))):=⟨blk_below (by (first|exact heap_alloc_new _ _|(refine blk_alloc ?_ _;exact heap_alloc_new _ _)|((with_reducible repeat (first|refine blk_drewN ?_ _|refine blk_drew ?_|refine blk_alloc ?_ _));exact Kx0.out))) hb_⟩
 have Zw16:Aside0 (w15.heap.size+0≤w16.heap.size):=⟨by have h_:=hb_.size;(try simp at h_);omega⟩
 have nB_:=Aside0.mk (below_step (by repeat (first|exact HB.out|apply below_alloc|apply pw_below_drewN|apply below_drew1)) hb_)
 clear HB HW0l HX0l HX0t HG0l HV0l Kp0 Kx0 hb_
 have HB:=nB_
 clear nB_
 have HW0l:=nW0l
 clear nW0l
 have HX0l:=nX0l
 clear nX0l
 have HX0t:=nX0t
 clear nX0t
 have HG0l:=nG0l
 clear nG0l
 have HV0l:=nV0l
 clear nV0l
 have Kp0:=np0
 clear np0
 have Kx0:=nx0
 clear nx0
 try clear qp0_0 qp0_1 qp0_2 qp0_3 qx0_0 qx0_1 qx0_2 qx0_3
 have zp0_:=blk_lt Kp0.out
 have qp0_0:=(blk_cell Kp0.out 0).trans rfl
 have qp0_1:=(blk_cell Kp0.out 1).trans rfl
 have qp0_2:=(blk_cell Kp0.out 2).trans rfl
 have qp0_3:=(blk_cell Kp0.out 3).trans rfl
 have zx0_:=blk_lt Kx0.out
 have qx0_0:=(blk_cell Kx0.out 0).trans rfl
 have qx0_1:=(blk_cell Kx0.out 1).trans rfl
 have qx0_2:=(blk_cell Kx0.out 2).trans rfl
 have qx0_3:=(blk_cell Kx0.out 3).trans rfl
 go_wp2_with fail
 clear zp0_ qp0_0 qp0_1 qp0_2 qp0_3
 clear zx0_ qx0_0 qx0_1 qx0_2 qx0_3
 rw [← LG0lw12.out]
 refine (F22.calls k _ _ x0l 1 n0l _ (Kd.R_reads' (aR HG0l.out)).2.2 (by rw [LG0lw12.out];exact (Kd.R_reads' HG0l.out).2.1) FH0.out).mono ?_
 rintro e w17 ⟨rfl,hd_⟩
 have hb_:=hd_.below
 clear hd_
 have nW0l:=Aside0.mk (Kd.R_below (aR HW0l.out) hb_)
 have nX0l:=Aside0.mk (Kd.S_below (aS HX0l.out) hb_)
 have nX0t:=Aside0.mk (Kd.S_below (aS HX0t.out) hb_)
 have nG0l:=Aside0.mk (Kd.R_below (aR HG0l.out) hb_)
 have nV0l:=Aside0.mk (Kd.R_below (aR HV0l.out) hb_)
 have np0:Aside0 (w17.heap[w.heap.size]?=some (.cells #[.int .i64 a0,.slice A0 l0.length c0,.int .i64 s0,.slice B0 t0.length d0] 26 (0,0))):=⟨blk_below (by (first|exact heap_alloc_new _ _|(refine blk_alloc ?_ _;exact heap_alloc_new _ _)|((with_reducible repeat (first|refine blk_drewN ?_ _|refine blk_drew ?_|refine blk_alloc ?_ _));exact Kp0.out))) hb_⟩
 have nx0:Aside0 (w17.heap[w4.heap.size]?=some (.cells #[.int .i64 a0,.slice AX0l l0.length cX0l,.int .i64 s0,.slice AX0t t0.length cX0t] 33 (0,0))):=⟨blk_below (by (first|exact heap_alloc_new _ _|(refine blk_alloc ?_ _;exact heap_alloc_new _ _)|((with_reducible repeat (first|refine blk_drewN ?_ _|refine blk_drew ?_|refine blk_alloc ?_ _));exact Kx0.out))) hb_⟩
 have Zw17:Aside0 (w16.heap.size+0≤w17.heap.size):=⟨by have h_:=hb_.size;(try simp at h_);omega⟩
 have nB_:=Aside0.mk (below_step (by repeat (first|exact HB.out|apply below_alloc|apply pw_below_drewN|apply below_drew1)) hb_)
 clear HB HW0l HX0l HX0t HG0l HV0l Kp0 Kx0 hb_
 have HB:=nB_
 clear nB_
 have HW0l:=nW0l
 clear nW0l
 have HX0l:=nX0l
 clear nX0l
 have HX0t:=nX0t
 clear nX0t
 have HG0l:=nG0l
 clear nG0l
 have HV0l:=nV0l
 clear nV0l
 have Kp0:=np0
 clear np0
 have Kx0:=nx0
 clear nx0
 try rw [LG0lw12.out]
 try clear qp0_0 qp0_1 qp0_2 qp0_3 qx0_0 qx0_1 qx0_2 qx0_3
 have zp0_:=blk_lt Kp0.out
 have qp0_0:=(blk_cell Kp0.out 0).trans rfl
 have qp0_1:=(blk_cell Kp0.out 1).trans rfl
 have qp0_2:=(blk_cell Kp0.out 2).trans rfl
 have qp0_3:=(blk_cell Kp0.out 3).trans rfl
 have zx0_:=blk_lt Kx0.out
 have qx0_0:=(blk_cell Kx0.out 0).trans rfl
 have qx0_1:=(blk_cell Kx0.out 1).trans rfl
 have qx0_2:=(blk_cell Kx0.out 2).trans rfl
 have qx0_3:=(blk_cell Kx0.out 3).trans rfl
 go_wp2
 go_ret
 exact ⟨by first|rfl|(simp;done)|(simp [*];done),HB.out⟩
def laws_FnExactQuotientOfCover.Pure:Prop:=∀ (a0:Int) (l0:List (List Int)) (s0:Int) (t0:List (List Int)),(Lit.int .i64 a0).wf=true→l0.length≤maxLen→(∀ x ∈ l0,x.length≤maxLen∧∀ n ∈ x,(Lit.int .i64 n).wf=true)→(Lit.int .i64 s0).wf=true→t0.length≤maxLen→(∀ x ∈ t0,x.length≤maxLen∧∀ n ∈ x,(Lit.int .i64 n).wf=true)→(∃ (k:Nat) (z0:Int),z0 < 0∧F14.f k a0 l0 s0 t0 1048576=some z0)∨(∃ (k:Nat) (z0:Int) (r0l:List Int) (r1a:Int) (m0l:Int) (y0l:List (List Int)) (m0:Int) (y0t:List (List Int)) (n0l:Int) (x0l:List Int),0≤z0∧0≤m0∧0≤n0l∧F16.f k a0 l0 s0 t0=some (a0,l0,s0,t0)∧F19.f k a0 l0 s0 t0 a0 l0 s0 t0=some true∧F14.f k a0 l0 s0 t0 1048576=some z0∧F15.f k a0 l0 s0 t0=some (r0l,r1a)∧F17.f k a0 l0 s0 t0=some (r0l,r1a)∧F18.f k r0l r0l=some true∧F88.f k l0 1=some (m0l,y0l)∧F88.f k t0 m0l=some (m0,y0t)∧F21.f k r0l 1=some (n0l,x0l)∧F22.f k x0l 1=some n0l)
theorem laws_FnExactQuotientOfCover.calls (P : laws_FnExactQuotientOfCover.Pure) (a0 : Int) (A0 : Option Addr) (c0 : Nat) (l0 : List (List Int)) (s0 : Int) (B0 : Option Addr) (d0 : Nat) (t0 : List (List Int)) (w : World) (hr0 : Kd.C (Kd.slice 2 (Kd.int .i64)) w A0 l0.length l0) (hc0 : l0.length ≤ c0) (hrt0 : Kd.C (Kd.slice 2 (Kd.int .i64)) w B0 t0.length t0) (hct0 : t0.length ≤ d0) (w0_0 : (Lit.int .i64 a0).wf = true) (hm0_1 : l0.length ≤ maxLen) (w0_1 : (∀ x ∈ l0, x.length ≤ maxLen ∧ ∀ n ∈ x, (Lit.int .i64 n).wf = true)) (w0_2 : (Lit.int .i64 s0).wf = true) (hm0_3 : t0.length ≤ maxLen) (w0_3 : (∀ x ∈ t0, x.length ≤ maxLen ∧ ∀ n ∈ x, (Lit.int .i64 n).wf = true)) :
  Calls Try.prog 3 #[.agg #[.int .i64 a0,.slice A0 l0.length c0,.int .i64 s0,.slice B0 t0.length d0]] w fun e w'=>e=.returned (.bool true)∧Below w.heap.size w w':=by
 rcases P a0 l0 s0 t0 w0_0 hm0_1 w0_1 w0_2 hm0_3 w0_3  with ⟨k,z0,hz0,FZ0_⟩|⟨k,z0,r0l,r1a,m0l,y0l,m0,y0t,n0l,x0l,hp0,hlm,hln,FG0,FQ0,FZ0,FS,FI,FE0,FM0l,FM0t,FN0l,FH0⟩
 ·exact laws_FnExactQuotientOfCover.small_sz0 a0 A0 c0 l0 s0 B0 d0 t0 w hr0 hc0 hrt0 hct0  k z0 hz0 FZ0_
 ·exact laws_FnExactQuotientOfCover.big k a0 A0 c0 l0 s0 B0 d0 t0 w hr0 hc0 hrt0 hct0 z0 hp0 r0l r1a m0l y0l m0 y0t n0l x0l hlm hln  FG0 FQ0 FZ0 FS FI FE0 FM0l FM0t FN0l FH0
end Go.Proofs.Ytoebojnhchocaaa.A
/- Set with little white space, by a program. -/
