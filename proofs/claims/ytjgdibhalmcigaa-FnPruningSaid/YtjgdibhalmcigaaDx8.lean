/- The functions that one law reaches, each as a Lean function, and that Go's call comes to what it says. Condition of each: that the Lean function answers (is not none). -/
import Derived.Test.YtjgdibhalmcigaaDx0
import Derived.Test.YtjgdibhalmcigaaDx6
import Derived.Test.YtjgdibhalmcigaaDx7
namespace Go.Proofs.Ytjgdibhalmcigaa.D
open Go.RowKit Go.Proofs.YtjgdibhalmcigaaW.PrintWords Go.Proofs.YtjgdibhalmcigaaW.PrintLast Go.Proofs.YtjgdibhalmcigaaW.PrintMore
attribute [local go_sem] max2_int min2_int max_two min_two max_three min_three max_four min_four   -- for this text's walks alone
set_option linter.unusedVariables false
set_option linter.unusedSimpArgs false
/-! ### impl_Graph_withoutVertex: function 66 -/
mutual
def impl_Graph_withoutVertex.l0 : Nat → Int → List (List Int) → Int → Int → Int → Option (Int × (List (List Int)))
 | 0,_,_,_,_,_=>none
 | k+1,x1,x16,x17,x18,x108000=>if x18 < x17 then (if 0≤x18 then (if x18 < (x16.length:Int) then (impl_Graph_withoutVertex.l1 k x1 x16 x17 x18 ((rd_L1 x16 x18).length:Int) 0 x108000) else (none)) else (none)) else (some (x108000,x16))
def impl_Graph_withoutVertex.l1 : Nat → Int → List (List Int) → Int → Int → Int → Int → Int → Option (Int × (List (List Int)))
 | 0,_,_,_,_,_,_,_=>none
 | k+1,x1,x16,x17,x18,x23,x24,x108000=>if x24 < x23 then (if 0≤x24 then (if x24 < ((rd_L1 x16 x18).length:Int) then (if (rd (rd_L1 x16 x18) x24) > x1 then (impl_Graph_withoutVertex.l1 k x1 (x16.set (x18:Int).toNat ((rd_L1 x16 x18).set (x24:Int).toNat (wrap64 ((rd (rd_L1 x16 x18) x24) - 1)))) x17 x18 x23 (wrap64 (x24+1)) x108000) else (impl_Graph_withoutVertex.l1 k x1 x16 x17 x18 x23 (wrap64 (x24+1)) x108000)) else (none)) else (none)) else (impl_Graph_withoutVertex.l0 k x1 x16 x17 (wrap64 (x18+1)) x108000)
end
def impl_Graph_withoutVertex.f (k:Nat) (a0_0:Int) (l0_1:List (List Int)) (a1:Int):Option (Int × (List (List Int))):=(impl_Graph_own.f k a0_0 l0_1).bind fun bt103=>(impl_Graph_withoutVertex.l0 k a1 bt103.2 (bt103.2.length:Int) 0 (wrap64 (bt103.1 - 1)))
theorem impl_Graph_withoutVertex.mono_l : ∀ k, (∀ y0 y1 y2 y3 y4, LeO (impl_Graph_withoutVertex.l0 k y0 y1 y2 y3 y4) (impl_Graph_withoutVertex.l0 (k + 1) y0 y1 y2 y3 y4)) ∧ (∀ y0 y1 y2 y3 y4 y5 y6, LeO (impl_Graph_withoutVertex.l1 k y0 y1 y2 y3 y4 y5 y6) (impl_Graph_withoutVertex.l1 (k + 1) y0 y1 y2 y3 y4 y5 y6))
 | 0=>⟨fun _ _ _ _ _ r h=>by simp [impl_Graph_withoutVertex.l0] at h,fun _ _ _ _ _ _ _ r h=>by simp [impl_Graph_withoutVertex.l1] at h⟩
 | k+1=>by
  obtain ⟨ih0,ih1⟩:=impl_Graph_withoutVertex.mono_l k
  refine ⟨?_,?_⟩
  ·intro y0 y1 y2 y3 y4
   unfold impl_Graph_withoutVertex.l0
   repeat' first
   | (with_reducible exact ih0 _ _ _ _ _)
   | (with_reducible exact ih1 _ _ _ _ _ _ _)
   | (with_reducible exact impl_Graph_own.mono _ _ _)
   | (with_reducible exact LeO.refl _)
   | (with_reducible exact LeO.none _)
   | (with_reducible refine LeO.ite ?_ ?_)
   | (with_reducible refine LeO.bind ?_ (fun _=>?_))
   | exact ih0 _ _ _ _ _
   | exact ih1 _ _ _ _ _ _ _
   | exact impl_Graph_own.mono _ _ _
   | exact LeO.none _
   | refine LeO.ite ?_ ?_
   | refine LeO.bind ?_ (fun _=>?_)
  ·intro y0 y1 y2 y3 y4 y5 y6
   unfold impl_Graph_withoutVertex.l1
   repeat' first
   | (with_reducible exact ih0 _ _ _ _ _)
   | (with_reducible exact ih1 _ _ _ _ _ _ _)
   | (with_reducible exact impl_Graph_own.mono _ _ _)
   | (with_reducible exact LeO.refl _)
   | (with_reducible exact LeO.none _)
   | (with_reducible refine LeO.ite ?_ ?_)
   | (with_reducible refine LeO.bind ?_ (fun _=>?_))
   | exact ih0 _ _ _ _ _
   | exact ih1 _ _ _ _ _ _ _
   | exact impl_Graph_own.mono _ _ _
   | exact LeO.none _
   | refine LeO.ite ?_ ?_
   | refine LeO.bind ?_ (fun _=>?_)
theorem impl_Graph_withoutVertex.mono:∀ a0 a1 a2 k,LeO (impl_Graph_withoutVertex.f k a0 a1 a2) (impl_Graph_withoutVertex.f (k+1) a0 a1 a2):=by
 intro a0 a1 a2 k
 obtain ⟨ih0,ih1⟩:=impl_Graph_withoutVertex.mono_l k
 unfold impl_Graph_withoutVertex.f
 repeat' first
   | (with_reducible exact ih0 _ _ _ _ _)
   | (with_reducible exact ih1 _ _ _ _ _ _ _)
   | (with_reducible exact impl_Graph_own.mono _ _ _)
   | (with_reducible exact LeO.refl _)
   | (with_reducible exact LeO.none _)
   | (with_reducible refine LeO.ite ?_ ?_)
   | (with_reducible refine LeO.bind ?_ (fun _=>?_))
   | exact ih0 _ _ _ _ _
   | exact ih1 _ _ _ _ _ _ _
   | exact impl_Graph_own.mono _ _ _
   | exact LeO.none _
   | refine LeO.ite ?_ ?_
   | refine LeO.bind ?_ (fun _=>?_)
set_option maxHeartbeats 8000000 in
set_option maxRecDepth 100000 in
theorem impl_Graph_withoutVertex.calls (k : Nat) (a0_0 : Int) (A0_1 : Option Addr) (c0_1 : Nat) (l0_1 : List (List Int)) (a1 : Int) (r1 : Int) (r2 : List (List Int)) (w : World) (hr0_1 : Kd.C (Kd.slice 2 (Kd.int .i64)) w A0_1 l0_1.length l0_1) (hc0_1 : l0_1.length ≤ c0_1) (h : impl_Graph_withoutVertex.f k a0_0 l0_1 a1 = some (r1, r2)) :
  Calls Try.prog 66 #[.agg #[.int .i64 a0_0,.slice A0_1 l0_1.length c0_1],.int .i64 a1] w fun e w'=>∃ v1_:Value,e=.returned (.agg #[.int .i64 r1,v1_])∧Kd.S (Kd.slice 2 (Kd.int .i64)) 32 w' w.heap.size (fun _=>True) v1_ r2∧Below w.heap.size w w':=by
 have hu28:=Try.underlying28
 have HR0_1:=Aside0.mk hr0_1
 have HC0_1:=Aside0.mk hc0_1
 clear hr0_1 hc0_1
 have HB:=Aside0.mk (Below.refl w.heap.size w)
 have H:((impl_Graph_own.f k a0_0 l0_1).bind fun bt103=>(impl_Graph_withoutVertex.l0 k a1 bt103.2 (bt103.2.length:Int) 0 (wrap64 (bt103.1 - 1))))=some (r1,r2):=h
 clear h
 replace H:=Option.bind_eq_some_iff.mp H
 obtain ⟨⟨t103,t104⟩,A30,H⟩:=H
 replace H:(impl_Graph_withoutVertex.l0 k a1 t104 (t104.length:Int) 0 (wrap64 (t103 - 1)))=some (r1,r2):=H
 have A3:=Aside0.mk A30
 clear A30
 have H':=Aside0.mk H
 clear H
 go_enter Try.func66,Try.ntmps66
 go_wp2_with (first|((with_reducible refine gate_dst (N:=2) rfl ?_);refine box_event ?hg (N:=2) ?hd (cs:=#[.int .i64 a0_0,.slice A0_1 l0_1.length c0_1]) (t:=28) ?hr ?_;(case hd=>rfl);(case hg=>rfl);(case hr=>first|(go_simp;done)|(go_simp;rfl));intro gb101 hg w4 hbox hb;have n0_:=Aside0.mk (below_step bl hb);have n1_:=Aside0.mk (hbox);have n2_:=Aside0.mk ((by rw [hg];exact (below_size bl):w.heap.size≤gb101));have n3_:=Aside0.mk ((by rw [hg];exact (below_size bl):w.heap.size≤gb101));clear HB;have HB:=n0_;have BK101:=n1_;have GW101:=n2_;have GE101:=n3_;clear n0_ n1_ n2_ n3_;clear hb hbox hg)|((with_reducible refine gate_dst (N:=4) rfl ?_);refine box_event ?hg (N:=4) ?hd (cs:=#[.int .i64 0,.slice none 0 0]) (t:=28) ?hr ?_;(case hd=>rfl);(case hg=>rfl);(case hr=>first|(go_simp;done)|(go_simp;rfl));intro gb102 hg w5 hbox hb;have n0_:=Aside0.mk (blk_below (g:=gb101) (o:=.cells #[.int .i64 a0_0,.slice A0_1 l0_1.length c0_1] 28 (0,0)) bk hb);have n1_:=Aside0.mk (below_step bl hb);have n2_:=Aside0.mk (hbox);have n3_:=Aside0.mk ((by rw [hg];exact (below_size bl):w.heap.size≤gb102));have n4_:=Aside0.mk ((by rw [hg];exact (below_size bl):w.heap.size≤gb102));have n5_:=Aside0.mk ((by rw [hg];exact Nat.ne_of_lt (blk_lt (g:=gb101) (o:=.cells #[.int .i64 a0_0,.slice A0_1 l0_1.length c0_1] 28 (0,0)) bk):gb101 ≠ gb102));have n6_:=Aside0.mk ((by rw [hg];exact Nat.ne_of_gt (blk_lt (g:=gb101) (o:=.cells #[.int .i64 a0_0,.slice A0_1 l0_1.length c0_1] 28 (0,0)) bk):gb102 ≠ gb101));clear BK101;clear HB;have BK101:=n0_;have HB:=n1_;have BK102:=n2_;have GW102:=n3_;have GE102:=n4_;have NB101_102:=n5_;have NB102_101:=n6_;clear n0_ n1_ n2_ n3_ n4_ n5_ n6_;clear hb hbox hg;have hnb6:=NB101_102.out;have hnc6:=NB102_101.out;have hcz7_0:w5.cell? ⟨gb101,0,none⟩=some (.int .i64 a0_0):=(blk_cell BK101.out 0).trans rfl;have hcz7_1:w5.cell? ⟨gb101,1,none⟩=some (.slice A0_1 l0_1.length c0_1):=(blk_cell BK101.out 1).trans rfl;have hfz7_0:=blk_frozen BK101.out 0;have hfz7_1:=blk_frozen BK101.out 1)|((with_reducible refine gate_callee (f:=59) rfl ?_);refine goesL_ (some 10) rfl rfl Try.func59 (by kernel_rfl) rfl #[.agg #[.int .i64 a0_0,.slice A0_1 l0_1.length c0_1]] rfl gm ?_;(with_reducible refine (impl_Graph_own.calls k a0_0 _ _ l0_1 t103 t104 _ ?side1 ?side2 A3.out).mono ?_);(case side1=>repeat (first|exact (Kd.C_below HR0_1.out HB.out)|(with_reducible refine Kd.C_alloc ?_ _)|(with_reducible refine Kd.C_drewN ?_ _)|(with_reducible refine Kd.C_drew ?_)));(case side2=>exact HC0_1.out);rintro e w8 ⟨v105,rfl,ho0,hb⟩;refine ⟨_,rfl,?_⟩;have n0_:=Aside0.mk (Kd.S_lower ho0 (below_size bl));have n1_:=Aside0.mk (blk_below (g:=gb101) (o:=.cells #[.int .i64 a0_0,.slice A0_1 l0_1.length c0_1] 28 (0,0)) bk hb);have n2_:=Aside0.mk (blk_below (g:=gb102) (o:=.cells #[.int .i64 0,.slice none 0 0] 28 (0,0)) bk hb);have n3_:=Aside0.mk (below_step bl hb);clear BK101;clear BK102;clear HB;have HO106:=n0_;have BK101:=n1_;have BK102:=n2_;have HB:=n3_;clear n0_ n1_ n2_ n3_;(try clear hb);(try clear hb2);(try clear hk);(try clear hi);(try clear ho0))|((with_reducible refine gate_dst (N:=5) rfl ?_);refine box_event ?hg (N:=5) ?hd (cs:=#[.int .i64 0,.slice none 0 0]) (t:=28) ?hr ?_;(case hd=>rfl);(case hg=>rfl);(case hr=>first|(go_simp;done)|(go_simp;rfl));intro gb107 hg w9 hbox hb;have n0_:=Aside0.mk (Kd.S_below (by (with_reducible repeat (first|apply Kd.S_alloc|apply Kd.S_drewN|apply Kd.S_drew));exact HO106.out) hb);have n1_:=Aside0.mk (blk_below (g:=gb101) (o:=.cells #[.int .i64 a0_0,.slice A0_1 l0_1.length c0_1] 28 (0,0)) bk hb);have n2_:=Aside0.mk (blk_below (g:=gb102) (o:=.cells #[.int .i64 0,.slice none 0 0] 28 (0,0)) bk hb);have n3_:=Aside0.mk (below_step bl hb);have n4_:=Aside0.mk (hbox);have n5_:=Aside0.mk ((by rw [hg];exact (below_size bl):w.heap.size≤gb107));have n6_:=Aside0.mk ((by rw [hg];exact (below_size bl):w.heap.size≤gb107));have n7_:=Aside0.mk ((by rw [hg];exact Nat.ne_of_lt (blk_lt (g:=gb101) (o:=.cells #[.int .i64 a0_0,.slice A0_1 l0_1.length c0_1] 28 (0,0)) bk):gb101 ≠ gb107));have n8_:=Aside0.mk ((by rw [hg];exact Nat.ne_of_gt (blk_lt (g:=gb101) (o:=.cells #[.int .i64 a0_0,.slice A0_1 l0_1.length c0_1] 28 (0,0)) bk):gb107 ≠ gb101));have n9_:=Aside0.mk ((by rw [hg];exact Nat.ne_of_lt (blk_lt (g:=gb102) (o:=.cells #[.int .i64 0,.slice none 0 0] 28 (0,0)) bk):gb102 ≠ gb107));have n10_:=Aside0.mk ((by rw [hg];exact Nat.ne_of_gt (blk_lt (g:=gb102) (o:=.cells #[.int .i64 0,.slice none 0 0] 28 (0,0)) bk):gb107 ≠ gb102));clear HO106;clear BK101;clear BK102;clear HB;have HO106:=n0_;have BK101:=n1_;have BK102:=n2_;have HB:=n3_;have BK107:=n4_;have GW107:=n5_;have GE107:=n6_;have NB101_107:=n7_;have NB107_101:=n8_;have NB102_107:=n9_;have NB107_102:=n10_;clear n0_ n1_ n2_ n3_ n4_ n5_ n6_ n7_ n8_ n9_ n10_;clear hb hbox hg;have hnb10:=NB107_101.out;have hnc10:=NB101_107.out;have hnb11:=NB107_102.out;have hnc11:=NB102_107.out;have hcz12_0:w9.cell? ⟨gb107,0,none⟩=some (.int .i64 0):=(blk_cell BK107.out 0).trans rfl;have hcz12_1:w9.cell? ⟨gb107,1,none⟩=some (.slice none 0 0):=(blk_cell BK107.out 1).trans rfl;have hfz12_0:=blk_frozen BK107.out 0;have hfz12_1:=blk_frozen BK107.out 1;obtain ⟨Ao13,co13,eo13⟩:=Kd.S_slice HO106.out;subst eo13))
 go_loopg [18] k (fun kq v18 w'=>∃ (x16_1:List (List Int)) (x18_1:Int),v18=.int .i64 x18_1∧Aside0 (impl_Graph_withoutVertex.l0 kq a1 x16_1 (t104.length:Int) x18_1 (wrap64 (t103 - 1))=some (r1,r2))∧Aside0 (kq≤k)∧Aside0 (Kd.S (Kd.slice 2 (Kd.int .i64)) 32 w' w.heap.size (fun _=>True) (.slice Ao13 t104.length co13) x16_1)∧Aside0 (w'.heap[gb101]?=some (.cells #[.int .i64 a0_0,(.slice A0_1 l0_1.length c0_1)] 28 (0,0)))∧Aside0 (w'.heap[gb102]?=some (.cells #[.int .i64 0,(.slice none 0 0)] 28 (0,0)))∧Aside0 (w'.heap[gb107]?=some (.cells #[.int .i64 (wrap64 (t103 - 1)),(.slice Ao13 t104.length co13)] 28 (0,0)))∧Aside0 (Below w.heap.size w w'))
 case atStart=>exact ⟨(t104),(0),rs,H',⟨Nat.le_refl _⟩,⟨by (with_reducible repeat (first|apply Kd.S_alloc|apply Kd.S_drewN|apply Kd.S_drew));exact Kd.S_mono (Kd.S_far (p:=⟨gb107,0,none⟩) (Kd.S_far (p:=⟨gb107,1,none⟩) (Kd.S_far (p:=⟨gb107,0,none⟩) (Kd.S_types HO106.out BK107.out (by decide)) (fun _ hk=>hk.2) (.int .i64 t103)) (fun _ hk=>hk.2) (.slice Ao13 t104.length co13)) (fun _ hk=>hk.2) (.int .i64 (wrap64 (t103 - 1)))) (fun _ hk=>trivial)⟩,⟨by (with_reducible repeat (first|refine blk_drewN ?_ _|refine blk_drew ?_|refine blk_alloc ?_ _));refine blk_far ?_ NB101_107.out _;(with_reducible repeat (first|refine blk_drewN ?_ _|refine blk_drew ?_|refine blk_alloc ?_ _));refine blk_far ?_ NB101_107.out _;(with_reducible repeat (first|refine blk_drewN ?_ _|refine blk_drew ?_|refine blk_alloc ?_ _));refine blk_far ?_ NB101_107.out _;(with_reducible repeat (first|refine blk_drewN ?_ _|refine blk_drew ?_|refine blk_alloc ?_ _));exact BK101.out⟩,⟨by (with_reducible repeat (first|refine blk_drewN ?_ _|refine blk_drew ?_|refine blk_alloc ?_ _));refine blk_far ?_ NB102_107.out _;(with_reducible repeat (first|refine blk_drewN ?_ _|refine blk_drew ?_|refine blk_alloc ?_ _));refine blk_far ?_ NB102_107.out _;(with_reducible repeat (first|refine blk_drewN ?_ _|refine blk_drew ?_|refine blk_alloc ?_ _));refine blk_far ?_ NB102_107.out _;(with_reducible repeat (first|refine blk_drewN ?_ _|refine blk_drew ?_|refine blk_alloc ?_ _));exact BK102.out⟩,⟨by (with_reducible repeat (first|refine blk_drewN ?_ _|refine blk_drew ?_|refine blk_alloc ?_ _));refine blk_put (cs:=#[.int .i64 t103,.slice Ao13 t104.length co13]) ?_ 0 _ rfl;(with_reducible repeat (first|refine blk_drewN ?_ _|refine blk_drew ?_|refine blk_alloc ?_ _));refine blk_put (cs:=#[.int .i64 t103,.slice none 0 0]) ?_ 1 _ rfl;(with_reducible repeat (first|refine blk_drewN ?_ _|refine blk_drew ?_|refine blk_alloc ?_ _));refine blk_put (cs:=#[.int .i64 0,.slice none 0 0]) ?_ 0 _ rfl;(with_reducible repeat (first|refine blk_drewN ?_ _|refine blk_drew ?_|refine blk_alloc ?_ _));exact BK107.out⟩,⟨bl⟩⟩
 case round =>
  clear H'
  (try clear c1);(try clear p2);(try clear c5);(try clear c6);(try clear p6);(try clear c10);(try clear c11);(try clear hcz12_0);(try clear hcz12_1);(try clear hcz7_0);(try clear hcz7_1);(try clear hfz12_0);(try clear hfz12_1);(try clear hfz7_0);(try clear hfz7_1)
  obtain ⟨x16_1,x18_1,rfl,HA,HK1,HO_16,BK101,BK102,BK107,HB⟩:=hrel
  have hl16_1:=(Kd.S_reads' HO_16.out).1
  rw [hl16_1] at HO_16
  (try simp only [hl16_1])
  (try simp only [hl16_1] at BK101)
  (try simp only [hl16_1] at BK102)
  (try simp only [hl16_1] at BK107)
  cases gk with
  | zero=>exact absurd HA.out (by simp [impl_Graph_withoutVertex.l0])
  | succ k1 =>
   have H:=HA.out
   clear HA
   simp only [impl_Graph_withoutVertex.l0] at H
   by_cases c14:x18_1 < (t104.length:Int)
   case neg =>
    rw [if_neg c14] at H
    have c14b0:decide (x18_1 < (t104.length:Int))=false:=decide_eq_false c14
    (try simp only [hl16_1] at c14b0)
    clear c14
    simp only [Option.some.injEq,Prod.mk.injEq] at H
    obtain ⟨rfl,rfl⟩:=H
    have hnb24:=NB107_101.out
    have hnc24:=NB101_107.out
    have hnb25:=NB107_102.out
    have hnc25:=NB102_107.out
    have hcz26_0:wr.cell? ⟨gb107,0,none⟩=some (.int .i64 (wrap64 (t103 - 1))):=(blk_cell BK107.out 0).trans rfl
    have hcz26_1:wr.cell? ⟨gb107,1,none⟩=some (.slice Ao13 x16_1.length co13):=(blk_cell BK107.out 1).trans rfl
    have hfz26_0:=blk_frozen BK107.out 0
    have hfz26_1:=blk_frozen BK107.out 1
    have hnb27:=NB102_101.out
    have hnc27:=NB101_102.out
    have hcz28_0:wr.cell? ⟨gb102,0,none⟩=some (.int .i64 0):=(blk_cell BK102.out 0).trans rfl
    have hcz28_1:wr.cell? ⟨gb102,1,none⟩=some (.slice none 0 0):=(blk_cell BK102.out 1).trans rfl
    have hfz28_0:=blk_frozen BK102.out 0
    have hfz28_1:=blk_frozen BK102.out 1
    go_wp2
    refine bodyPost_ret (results_cell_row rfl _ _ gb102 28 #[.int .i64 (wrap64 (t103 - 1)),.slice Ao13 x16_1.length co13] (0,0) _ rfl (by (with_reducible repeat (first|refine blk_drewN ?_ _|refine blk_drew ?_|refine blk_alloc ?_ _));refine blk_put (cs:=#[.int .i64 (wrap64 (t103 - 1)),.slice none 0 0]) ?_ 1 _ rfl;(with_reducible repeat (first|refine blk_drewN ?_ _|refine blk_drew ?_|refine blk_alloc ?_ _));refine blk_put (cs:=#[.int .i64 0,.slice none 0 0]) ?_ 0 _ rfl;(with_reducible repeat (first|refine blk_drewN ?_ _|refine blk_drew ?_|refine blk_alloc ?_ _));exact BK102.out) Try.underlying28 rfl (by kernel_rfl)) rfl ?_
    exact ⟨_,by first|rfl|(simp [errW_none,errW_some]<;>rfl)|(simp [*,errW_none,errW_some]<;>rfl),by (with_reducible repeat (first|apply Kd.S_alloc|apply Kd.S_drewN|apply Kd.S_drew));exact Kd.S_mono (Kd.S_far (p:=⟨gb102,1,none⟩) (Kd.S_far (p:=⟨gb102,0,none⟩) (Kd.S_types HO_16.out BK102.out (by decide)) (fun _ hk=>hk.2) (.int .i64 (wrap64 (t103 - 1)))) (fun _ hk=>hk.2) (.slice Ao13 x16_1.length co13)) (fun _ hk=>trivial),bl⟩
   rw [if_pos c14] at H
   have c14b0:decide (x18_1 < (t104.length:Int))=true:=decide_eq_true c14
   (try simp only [hl16_1] at c14b0)
   clear c14
   by_cases c15:0≤x18_1
   case neg=>rw [if_neg c15] at H;exact absurd H (by simp)
   rw [if_pos c15] at H
   have c15b0:decide (0≤x18_1)=true:=decide_eq_true c15
   clear c15
   by_cases c16:x18_1 < (x16_1.length:Int)
   case neg=>rw [if_neg c16] at H;exact absurd H (by simp)
   rw [if_pos c16] at H
   have c16b0:decide (x18_1 < (x16_1.length:Int))=true:=decide_eq_true c16
   (try simp only [hl16_1] at c16b0)
   clear c16
   have H':=Aside0.mk H
   clear H
   have p108:0≤(x18_1:Int):=oD
   have q108:x18_1 < (x16_1.length:Int):=oD
   obtain ⟨ad108,A108_0,c108_0,e108,hx108_0,hl108_0,hi108_0⟩:=at_L1 (Kd.S_reads' HO_16.out).2.2 x18_1 p108 q108
   cases e108
   obtain ⟨ce108,hce108,hMe108,hcc108⟩:=Kd.S_get HO_16.out [] x18_1 p108 (by first|exact q108|exact oD|(have e_:=(Kd.S_reads' HO_16.out).1;omega))
   obtain ⟨ve108_0,rfl,ge108_0⟩:=hMe108
   have hv108_0:=hcc108 0 _ rfl
   rw [Nat.add_zero,show ((Kd.slice 2 (Kd.int .i64))).sz=1 from rfl,Nat.mul_one] at hv108_0
   replace hv108_0:=Option.some.inj (hv108_0.symm.trans hx108_0)
   rw [hv108_0] at ge108_0
   have HL108_0:=Aside0.mk (show Kd.R (Kd.int .i64) 2 _ _ _ _ (rd_L1 x16_1 x18_1) from ge108_0)
   clear hv108_0 ge108_0
   have HX108_0:=Aside0.mk hx108_0
   clear hcc108 hce108
   have HR108_0:=Aside0.mk hi108_0
   have HC108_0:=Aside0.mk hl108_0
   clear hi108_0 hl108_0
   replace p108:=eq_true p108
   replace q108:=eq_true q108
   go_wp2
   generalize hgz7_2:(.slice A108_0 (rd_L1 x16_1 x18_1).length c108_0:Value)=vz7_2
   have HGZ7_2:=Aside0.mk hgz7_2
   clear hgz7_2
   go_loopg [24] k1 (fun kq v24 w'=>∃ (x16_2:List (List Int)) (x24_2:Int),v24=.int .i64 x24_2∧Aside0 (impl_Graph_withoutVertex.l1 kq a1 x16_2 (t104.length:Int) x18_1 ((rd_L1 x16_1 x18_1).length:Int) x24_2 (wrap64 (t103 - 1))=some (r1,r2))∧Aside0 (kq≤k1)∧Aside0 (HdrOf w' (.slice (some ad108) x16_1.length co13) x18_1 vz7_2)∧Aside0 (Kd.S (Kd.slice 2 (Kd.int .i64)) 32 w' w.heap.size (fun _=>True) (.slice (some ad108) x16_1.length co13) x16_2)∧Aside0 (w'.heap[gb101]?=some (.cells #[.int .i64 a0_0,(.slice A0_1 l0_1.length c0_1)] 28 (0,0)))∧Aside0 (w'.heap[gb102]?=some (.cells #[.int .i64 0,(.slice none 0 0)] 28 (0,0)))∧Aside0 (w'.heap[gb107]?=some (.cells #[.int .i64 (wrap64 (t103 - 1)),(.slice (some ad108) x16_1.length co13)] 28 (0,0)))∧Aside0 (Below w.heap.size w w'))
   case atStart=>exact ⟨(x16_1),(0),rs,H',⟨Nat.le_refl _⟩,⟨by (with_reducible repeat (first|apply HdrOf.alloc|apply HdrOf.drewN|apply HdrOf.drew));first|exact ⟨_,_,_,rfl,(by first|exact of_eq_true p108|exact hdr_lo HH_7.out|omega),(by first|exact of_eq_true q108|exact hdr_hi HH_7.out|(have h_:=of_eq_true q108;omega)|(have h_:=hdr_hi HH_7.out;omega)),HX108_0.out⟩|(rw [← HGZ7_2.out];exact ⟨_,_,_,rfl,(by first|exact of_eq_true p108|exact hdr_lo HH_7.out|omega),(by first|exact of_eq_true q108|exact hdr_hi HH_7.out|(have h_:=of_eq_true q108;omega)|(have h_:=hdr_hi HH_7.out;omega)),HX108_0.out⟩)⟩,⟨by (try simp only [hl16_1]);(with_reducible repeat (first|apply Kd.S_alloc|apply Kd.S_drewN|apply Kd.S_drew));exact HO_16.out⟩,⟨by (try simp only [hl16_1]);(with_reducible repeat (first|refine blk_drewN ?_ _|refine blk_drew ?_|refine blk_alloc ?_ _));exact BK101.out⟩,⟨by (try simp only [hl16_1]);(with_reducible repeat (first|refine blk_drewN ?_ _|refine blk_drew ?_|refine blk_alloc ?_ _));exact BK102.out⟩,⟨by (try simp only [hl16_1]);(with_reducible repeat (first|refine blk_drewN ?_ _|refine blk_drew ?_|refine blk_alloc ?_ _));exact BK107.out⟩,⟨bl⟩⟩
   case round =>
    clear H'
    (try clear c1);(try clear p1);(try clear q1);(try clear hx1);(try clear p2);(try clear c5);(try clear c6);(try clear p6);(try clear c10);(try clear p10);(try clear q10);(try clear hx10);(try clear c11);(try clear c14);(try clear c14b0);(try clear c15);(try clear c15b0);(try clear c16);(try clear c16b0);(try clear hcz12_0);(try clear hcz12_1);(try clear hcz7_0);(try clear hcz7_1);(try clear hfz12_0);(try clear hfz12_1);(try clear hfz7_0);(try clear hfz7_1);(try clear hx108_0);(try clear p108);(try clear p2);(try clear p6);(try clear q108)
    obtain ⟨x16_2,x24_2,rfl,HA,HK2,HH_7,HO_16,BK101,BK102,BK107,HB⟩:=hrel
    have hl16_2:=(Kd.S_reads' HO_16.out).1
    rw [hl16_2] at HO_16
    (try simp only [hl16_2])
    (try simp only [hl16_2] at BK101)
    (try simp only [hl16_2] at BK102)
    (try simp only [hl16_2] at BK107)
    cases gk with
    | zero=>exact absurd HA.out (by simp [impl_Graph_withoutVertex.l1])
    | succ k2 =>
     have H:=HA.out
     clear HA
     simp only [impl_Graph_withoutVertex.l1] at H
     by_cases c17:x24_2 < ((rd_L1 x16_1 x18_1).length:Int)
     case neg =>
      rw [if_neg c17] at H
      have c17b0:decide (x24_2 < ((rd_L1 x16_1 x18_1).length:Int))=false:=decide_eq_false c17
      (try simp only [hl16_1,hl16_2] at c17b0)
      clear c17
      have H':=Aside0.mk H
      clear H
      have hza109:decide (0≤x18_1)=true:=decide_eq_true (hdr_lo HH_7.out)
      have hzb109:decide (x18_1 < (x16_2.length:Int))=true:=decide_eq_true (by have h_:=hdr_hi HH_7.out;have e_:=(Kd.S_reads' HO_16.out).1;omega)
      have p109:0≤(x18_1:Int):=oD
      have q109:x18_1 < (x16_2.length:Int):=oD
      obtain ⟨ad109,A109_0,c109_0,e109,hx109_0,hl109_0,hi109_0⟩:=at_L1 (Kd.S_reads' HO_16.out).2.2 x18_1 p109 q109
      obtain rfl:ad108=ad109:=(by injection e109)
      obtain ⟨ce109,hce109,hMe109,hcc109⟩:=Kd.S_get HO_16.out [] x18_1 p109 (by first|exact q109|exact oD|(have e_:=(Kd.S_reads' HO_16.out).1;omega))
      obtain ⟨ve109_0,rfl,ge109_0⟩:=hMe109
      have hv109_0:=hcc109 0 _ rfl
      rw [Nat.add_zero,show ((Kd.slice 2 (Kd.int .i64))).sz=1 from rfl,Nat.mul_one] at hv109_0
      replace hv109_0:=Option.some.inj (hv109_0.symm.trans hx109_0)
      rw [hv109_0] at ge109_0
      have HL109_0:=Aside0.mk (show Kd.R (Kd.int .i64) 2 _ _ _ _ (rd_L1 x16_2 x18_1) from ge109_0)
      clear hv109_0 ge109_0
      have HX109_0:=Aside0.mk hx109_0
      clear hcc109 hce109
      have HR109_0:=Aside0.mk hi109_0
      have HC109_0:=Aside0.mk hl109_0
      clear hi109_0 hl109_0
      replace p109:=eq_true p109
      replace q109:=eq_true q109
      obtain rfl:=hdr_eq HH_7.out HX109_0.out
      go_wp2
      (try simp only [← hl16_1,← hl16_2])
      first|go_roundg k2|((try (have e_:=HGZ7_2.out;injection e_ with e1_ e2_ e3_;subst e1_ e3_));go_roundg k2)
      case measure=>have:=HK1.out;have:=HK2.out;omega
      case rel=>exact ⟨(x16_2),(wrap64 (x18_1+1)),rs,H',⟨by have:=HK1.out;have:=HK2.out;omega⟩,⟨by (try simp only [hl16_1]);(try simp only [hl16_2]);(with_reducible repeat (first|apply Kd.S_alloc|apply Kd.S_drewN|apply Kd.S_drew));exact HO_16.out⟩,⟨by (try simp only [hl16_1]);(try simp only [hl16_2]);(with_reducible repeat (first|refine blk_drewN ?_ _|refine blk_drew ?_|refine blk_alloc ?_ _));exact BK101.out⟩,⟨by (try simp only [hl16_1]);(try simp only [hl16_2]);(with_reducible repeat (first|refine blk_drewN ?_ _|refine blk_drew ?_|refine blk_alloc ?_ _));exact BK102.out⟩,⟨by (try simp only [hl16_1]);(try simp only [hl16_2]);(with_reducible repeat (first|refine blk_drewN ?_ _|refine blk_drew ?_|refine blk_alloc ?_ _));exact BK107.out⟩,⟨bl⟩⟩
     rw [if_pos c17] at H
     have c17b0:decide (x24_2 < ((rd_L1 x16_1 x18_1).length:Int))=true:=decide_eq_true c17
     (try simp only [hl16_1,hl16_2] at c17b0)
     clear c17
     by_cases c18:0≤x24_2
     case neg=>rw [if_neg c18] at H;exact absurd H (by simp)
     rw [if_pos c18] at H
     have c18b0:decide (0≤x24_2)=true:=decide_eq_true c18
     clear c18
     by_cases c19:x24_2 < ((rd_L1 x16_2 x18_1).length:Int)
     case neg=>rw [if_neg c19] at H;exact absurd H (by simp)
     rw [if_pos c19] at H
     have c19b0:decide (x24_2 < ((rd_L1 x16_2 x18_1).length:Int))=true:=decide_eq_true c19
     (try simp only [hl16_1,hl16_2] at c19b0)
     clear c19
     by_cases c20:(rd (rd_L1 x16_2 x18_1) x24_2) > a1
     case neg =>
      rw [if_neg c20] at H
      have c20b0:decide (a1 < (rd (rd_L1 x16_2 x18_1) x24_2))=false:=decide_eq_false c20
      clear c20
      have H':=Aside0.mk H
      clear H
      have hza109:decide (0≤x18_1)=true:=decide_eq_true (hdr_lo HH_7.out)
      have hzb109:decide (x18_1 < (x16_2.length:Int))=true:=decide_eq_true (by have h_:=hdr_hi HH_7.out;have e_:=(Kd.S_reads' HO_16.out).1;omega)
      have p109:0≤(x18_1:Int):=oD
      have q109:x18_1 < (x16_2.length:Int):=oD
      obtain ⟨ad109,A109_0,c109_0,e109,hx109_0,hl109_0,hi109_0⟩:=at_L1 (Kd.S_reads' HO_16.out).2.2 x18_1 p109 q109
      obtain rfl:ad108=ad109:=(by injection e109)
      obtain ⟨ce109,hce109,hMe109,hcc109⟩:=Kd.S_get HO_16.out [] x18_1 p109 (by first|exact q109|exact oD|(have e_:=(Kd.S_reads' HO_16.out).1;omega))
      obtain ⟨ve109_0,rfl,ge109_0⟩:=hMe109
      have hv109_0:=hcc109 0 _ rfl
      rw [Nat.add_zero,show ((Kd.slice 2 (Kd.int .i64))).sz=1 from rfl,Nat.mul_one] at hv109_0
      replace hv109_0:=Option.some.inj (hv109_0.symm.trans hx109_0)
      rw [hv109_0] at ge109_0
      have HL109_0:=Aside0.mk (show Kd.R (Kd.int .i64) 2 _ _ _ _ (rd_L1 x16_2 x18_1) from ge109_0)
      clear hv109_0 ge109_0
      have HX109_0:=Aside0.mk hx109_0
      clear hcc109 hce109
      have HR109_0:=Aside0.mk hi109_0
      have HC109_0:=Aside0.mk hl109_0
      clear hi109_0 hl109_0
      replace p109:=eq_true p109
      replace q109:=eq_true q109
      obtain rfl:=hdr_eq HH_7.out HX109_0.out
      have p110:0≤(x24_2:Int):=oD
      have q110:x24_2 < ((rd_L1 x16_2 x18_1).length:Int):=oD
      obtain ⟨ad110,e110,hx110_0⟩:=Kd.at_int (by repeat (first|(with_reducible exact HR109_0.out)|(with_reducible refine Kd.C_alloc ?_ _)|(with_reducible refine Kd.C_drewN ?_ _)|(with_reducible refine Kd.C_drew ?_)|exact HR109_0.out)) x24_2 p110 q110
      cases e110
      replace p110:=eq_true p110
      replace q110:=eq_true q110
      go_wp2
      (try simp only [← hl16_2])
      first|go_roundg k2|((try (have e_:=HGZ7_2.out;injection e_ with e1_ e2_ e3_;subst e1_ e3_));go_roundg k2)
      case measure=>have:=HK1.out;have:=HK2.out;omega
      case rel=>exact ⟨(x16_2),(wrap64 (x24_2+1)),rs,H',⟨by have:=HK1.out;have:=HK2.out;omega⟩,⟨by (with_reducible repeat (first|apply HdrOf.alloc|apply HdrOf.drewN|apply HdrOf.drew));first|exact ⟨_,_,_,rfl,(by first|exact of_eq_true p109|exact hdr_lo HH_7.out|omega),(by first|exact of_eq_true q109|exact hdr_hi HH_7.out|(have h_:=of_eq_true q109;omega)|(have h_:=hdr_hi HH_7.out;omega)),HX109_0.out⟩|(rw [← HGZ7_2.out];exact ⟨_,_,_,rfl,(by first|exact of_eq_true p109|exact hdr_lo HH_7.out|omega),(by first|exact of_eq_true q109|exact hdr_hi HH_7.out|(have h_:=of_eq_true q109;omega)|(have h_:=hdr_hi HH_7.out;omega)),HX109_0.out⟩)⟩,⟨by (try simp only [hl16_1]);(try simp only [hl16_2]);(with_reducible repeat (first|apply Kd.S_alloc|apply Kd.S_drewN|apply Kd.S_drew));exact HO_16.out⟩,⟨by (try simp only [hl16_1]);(try simp only [hl16_2]);(with_reducible repeat (first|refine blk_drewN ?_ _|refine blk_drew ?_|refine blk_alloc ?_ _));exact BK101.out⟩,⟨by (try simp only [hl16_1]);(try simp only [hl16_2]);(with_reducible repeat (first|refine blk_drewN ?_ _|refine blk_drew ?_|refine blk_alloc ?_ _));exact BK102.out⟩,⟨by (try simp only [hl16_1]);(try simp only [hl16_2]);(with_reducible repeat (first|refine blk_drewN ?_ _|refine blk_drew ?_|refine blk_alloc ?_ _));exact BK107.out⟩,⟨bl⟩⟩
     rw [if_pos c20] at H
     have c20b0:decide (a1 < (rd (rd_L1 x16_2 x18_1) x24_2))=true:=decide_eq_true c20
     clear c20
     obtain ⟨y112,hy112⟩:∃ y_:List Int,y_=((rd_L1 x16_2 x18_1).set (x24_2:Int).toNat (wrap64 ((rd (rd_L1 x16_2 x18_1) x24_2) - 1))):=⟨_,rfl⟩
     replace H:(impl_Graph_withoutVertex.l1 k2 a1 (x16_2.set (x18_1:Int).toNat y112) (t104.length:Int) x18_1 ((rd_L1 x16_1 x18_1).length:Int) (wrap64 (x24_2+1)) (wrap64 (t103 - 1)))=some (r1,r2):=by first|(rw [hy112];with_reducible exact H)|(have H2_:=(Option.bind_some _ _).symm.trans H;rw [hy112];with_reducible exact H2_)|(have H2_:=(Option.bind_some _ _).symm.trans H;with_reducible exact H2_)|with_reducible exact H|(rw [hy112];exact H)|exact H
     have Ny112:=Aside0.mk hy112
     clear hy112
     obtain ⟨y114,hy114⟩:∃ y_:List (List Int),y_=(x16_2.set (x18_1:Int).toNat y112):=⟨_,rfl⟩
     replace H:(impl_Graph_withoutVertex.l1 k2 a1 y114 (t104.length:Int) x18_1 ((rd_L1 x16_1 x18_1).length:Int) (wrap64 (x24_2+1)) (wrap64 (t103 - 1)))=some (r1,r2):=by first|(rw [hy114];with_reducible exact H)|(have H2_:=(Option.bind_some _ _).symm.trans H;rw [hy114];with_reducible exact H2_)|(have H2_:=(Option.bind_some _ _).symm.trans H;with_reducible exact H2_)|with_reducible exact H|(rw [hy114];exact H)|exact H
     have Ny114:=Aside0.mk hy114
     clear hy114
     have H':=Aside0.mk H
     clear H
     have hza109:decide (0≤x18_1)=true:=decide_eq_true (hdr_lo HH_7.out)
     have hzb109:decide (x18_1 < (x16_2.length:Int))=true:=decide_eq_true (by have h_:=hdr_hi HH_7.out;have e_:=(Kd.S_reads' HO_16.out).1;omega)
     have p109:0≤(x18_1:Int):=oD
     have q109:x18_1 < (x16_2.length:Int):=oD
     obtain ⟨ad109,A109_0,c109_0,e109,hx109_0,hl109_0,hi109_0⟩:=at_L1 (Kd.S_reads' HO_16.out).2.2 x18_1 p109 q109
     obtain rfl:ad108=ad109:=(by injection e109)
     obtain ⟨ce109,hce109,hMe109,hcc109⟩:=Kd.S_get HO_16.out [] x18_1 p109 (by first|exact q109|exact oD|(have e_:=(Kd.S_reads' HO_16.out).1;omega))
     obtain ⟨ve109_0,rfl,ge109_0⟩:=hMe109
     have hv109_0:=hcc109 0 _ rfl
     rw [Nat.add_zero,show ((Kd.slice 2 (Kd.int .i64))).sz=1 from rfl,Nat.mul_one] at hv109_0
     replace hv109_0:=Option.some.inj (hv109_0.symm.trans hx109_0)
     rw [hv109_0] at ge109_0
     have HL109_0:=Aside0.mk (show Kd.R (Kd.int .i64) 2 _ _ _ _ (rd_L1 x16_2 x18_1) from ge109_0)
     clear hv109_0 ge109_0
     have HX109_0:=Aside0.mk hx109_0
     clear hcc109 hce109
     have HR109_0:=Aside0.mk hi109_0
     have HC109_0:=Aside0.mk hl109_0
     clear hi109_0 hl109_0
     replace p109:=eq_true p109
     replace q109:=eq_true q109
     obtain rfl:=hdr_eq HH_7.out HX109_0.out
     have p110:0≤(x24_2:Int):=oD
     have q110:x24_2 < ((rd_L1 x16_2 x18_1).length:Int):=oD
     obtain ⟨ad110,e110,hx110_0⟩:=Kd.at_int (by repeat (first|(with_reducible exact HR109_0.out)|(with_reducible refine Kd.C_alloc ?_ _)|(with_reducible refine Kd.C_drewN ?_ _)|(with_reducible refine Kd.C_drew ?_)|exact HR109_0.out)) x24_2 p110 q110
     cases e110
     replace p110:=eq_true p110
     replace q110:=eq_true q110
     have p111:0≤(x24_2:Int):=oD
     have q111:x24_2 < ((rd_L1 x16_2 x18_1).length:Int):=oD
     obtain ⟨ad111,e111,hx111_0⟩:=Kd.at_int (by repeat (first|(with_reducible exact HR109_0.out)|(with_reducible refine Kd.C_alloc ?_ _)|(with_reducible refine Kd.C_drewN ?_ _)|(with_reducible refine Kd.C_drew ?_)|exact HR109_0.out)) x24_2 p111 q111
     obtain rfl:ad110=ad111:=(by injection e111)
     replace p111:=eq_true p111
     replace q111:=eq_true q111
     have p21:0≤(x24_2:Int):=oD
     have q21:(x24_2:Int) < (((rd_L1 x16_2 x18_1).length:Int):Int):=oD
     obtain ⟨go21,co21,eo21,gb21,gl21,cl21,HG21⟩:=Kd.R_form HL109_0.out (by omega)
     (first|cases eo21|(injection eo21 with ea_ en_ ec_;(first|subst ea_|(injection ea_ with ea_;subst ea_));subst ec_;clear en_))
     (first|simp only [add_plain] at hx110_0|skip)
     have GB21:=Aside0.mk gb21
     have GG21:=Aside0.mk HG21
     clear gb21 gl21 HG21
     (first|simp only [add_plain] at hx110_0|skip)
     (first|simp only [add_plain] at hx111_0|skip)
     obtain ⟨hx21_0,hf21_0⟩:=Kd.R_celln 0 HL109_0.out (x24_2:Int) p21 q21
     replace p21:=eq_true p21
     replace q21:=eq_true q21
     have hq22:(x18_1:Int) < (x16_2.length:Int):=(by have h_:(x18_1:Int) < ((x16_2.length:Int):Int):=oD;first|exact h_|(have e_:=(Kd.S_reads' HO_16.out).1;omega)|simpa only [List.length_set,List.length_set] using h_)
     obtain ⟨oki22,ce22,hcl22,hM22,hcc22,hok22,hbk22⟩:=Kd.S_borrow HO_16.out [] (x18_1:Int) oD (by first|exact hq22|(have e_:=(Kd.S_reads' HO_16.out).1;omega))
     obtain ⟨ve22_0,rfl,ge22_0⟩:=hM22
     have hv22:=hcc22 0 _ rfl
     rw [Nat.add_zero,show ((Kd.slice 2 (Kd.int .i64))).sz=1 from rfl,Nat.mul_one] at hv22
     replace hv22:=Option.some.inj (hv22.symm.trans HX109_0.out)
     subst hv22
     clear hcc22 hcl22
     replace ge22_0:=(show Kd.R (Kd.int .i64) 2 _ _ _ _ (rd_L1 x16_2 x18_1) from ge22_0)
     have HP22:=Kd.R_putg ge22_0 (x24_2:Int) (wrap64 ((rd (rd_L1 x16_2 x18_1) x24_2) - 1))
     go_wp2_with (first|((with_reducible refine gate_store (t:=2) (p:=38) rfl ?_);refine store_event (t:=2) (p:=38) (v:=?vo_w23) (w1:=(wr.setCell ⟨go21,(x24_2:Int).toNat,none⟩ (.int .i64 (wrap64 ((rd (rd_L1 x16_2 x18_1) x24_2) - 1))))) ?hg ?ho ?hn ?hr ?_;(case ho=>rfl);(case hg=>rfl);(case hn=>rfl);(case hr=>first|(go_simp;done)|(go_simp;rfl));intro w23 hw;have hg:wr.grownBy w23 (some go21):=(by rw [hw];exact HP22.2);have hz_:Kd.R (Kd.int .i64) 2 w23 w.heap.size oki22 (.slice (some ⟨go21,0,none⟩) (rd_L1 x16_2 x18_1).length c109_0) y112:=(by rw [hw,Ny112.out];exact HP22.1);have hp_:Kd.S (Kd.slice 2 (Kd.int .i64)) 32 w23 w.heap.size (fun _=>True) (.slice (some ad108) x16_2.length co13) y114:=(by rw [Ny114.out];exact hbk22 hg (fun k_ e_=>by injection e_ with e_;subst e_;exact ge22_0.1 _ rfl) (Kd.M_row hz_));have hm_:=Kd.R_mono hz_ hok22;clear HP22 hbk22;have n0_:=Aside0.mk (hp_);have n1_:=Aside0.mk (blk_grown (g:=gb101) (o:=.cells #[.int .i64 a0_0,.slice A0_1 l0_1.length c0_1] 28 (0,0)) bk hg (Kd.R_ne HL109_0.out BK101.out (by decide)));have n2_:=Aside0.mk (blk_grown (g:=gb102) (o:=.cells #[.int .i64 0,.slice none 0 0] 28 (0,0)) bk hg (Kd.R_ne HL109_0.out BK102.out (by decide)));have n3_:=Aside0.mk (blk_grown (g:=gb107) (o:=.cells #[.int .i64 (wrap64 (t103 - 1)),.slice (some ad108) x16_2.length co13] 28 (0,0)) bk hg (Kd.R_ne HL109_0.out BK107.out (by decide)));have n4_:=Aside0.mk (cell_grown hg HX109_0.out (cell_ne (hok22 _ (ge22_0.1 _ rfl)).2));have n5_:=Aside0.mk ((by rw [hw];exact below_set (HB.out) GB21.out:Below w.heap.size w w23));have n6_:=Aside0.mk (hm_);have n7_:=Aside0.mk ((Kd.R_reads' hm_).2.1);clear HO_16;clear BK101;clear BK102;clear BK107;clear HX109_0;clear HB;clear HL109_0;have HO_16:=n0_;have BK101:=n1_;have BK102:=n2_;have BK107:=n3_;have HX109_0:=n4_;have HB:=n5_;have HL115:=n6_;have HC113:=n7_;clear n0_ n1_ n2_ n3_ n4_ n5_ n6_ n7_;clear hg hw hp_ hz_ hm_ hok22))
     (try simp only [← hl16_2])
     first|go_roundg k2|((try (have e_:=HGZ7_2.out;injection e_ with e1_ e2_ e3_;subst e1_ e3_));go_roundg k2)
     case measure=>have:=HK1.out;have:=HK2.out;omega
     case rel=>exact ⟨(y114),(wrap64 (x24_2+1)),rs,H',⟨by have:=HK1.out;have:=HK2.out;omega⟩,⟨by (with_reducible repeat (first|apply HdrOf.alloc|apply HdrOf.drewN|apply HdrOf.drew));first|exact ⟨_,_,_,rfl,(by first|exact of_eq_true p109|exact hdr_lo HH_7.out|omega),(by first|exact of_eq_true q109|exact hdr_hi HH_7.out|(have h_:=of_eq_true q109;omega)|(have h_:=hdr_hi HH_7.out;omega)),HX109_0.out⟩|(rw [← HGZ7_2.out];exact ⟨_,_,_,rfl,(by first|exact of_eq_true p109|exact hdr_lo HH_7.out|omega),(by first|exact of_eq_true q109|exact hdr_hi HH_7.out|(have h_:=of_eq_true q109;omega)|(have h_:=hdr_hi HH_7.out;omega)),HX109_0.out⟩)⟩,⟨by (try simp only [hl16_1]);(try simp only [hl16_2]);(with_reducible repeat (first|apply Kd.S_alloc|apply Kd.S_drewN|apply Kd.S_drew));exact HO_16.out⟩,⟨by (try simp only [hl16_1]);(try simp only [hl16_2]);(with_reducible repeat (first|refine blk_drewN ?_ _|refine blk_drew ?_|refine blk_alloc ?_ _));exact BK101.out⟩,⟨by (try simp only [hl16_1]);(try simp only [hl16_2]);(with_reducible repeat (first|refine blk_drewN ?_ _|refine blk_drew ?_|refine blk_alloc ?_ _));exact BK102.out⟩,⟨by (try simp only [hl16_1]);(try simp only [hl16_2]);(with_reducible repeat (first|refine blk_drewN ?_ _|refine blk_drew ?_|refine blk_alloc ?_ _));exact BK107.out⟩,⟨bl⟩⟩
/-! ### impl_PruneGraph: function 25 -/
def impl_PruneGraph.l0 : Nat → Int → List (List Int) → Option (Int × (List (List Int)) × Int)
 | 0,_,_=>none
 | k+1,x109000,x109001=>(impl_Graph_degrees.f k x109000 x109001).bind fun t109=>((slices_Index_int64_int64.f k t109 1).bind fun t112=>(if t112 < 0 then (some (x109000,x109001,0)) else ((impl_PruneGraph_1.f k x109001 t112).bind fun t114=>((impl_Graph_deleted.f k x109000 x109001 t114).bind fun bt115=>((impl_Graph_withoutVertex.f k bt115.1 bt115.2 t112).bind fun bt119=>(impl_PruneGraph.l0 k bt119.1 bt119.2))))))
def impl_PruneGraph.f (k:Nat) (a0_0:Int) (l0_1:List (List Int)):Option (Int × (List (List Int)) × Int):=(impl_IsGraph.f k a0_0 l0_1).bind fun t103=>(if t103=true then ((impl_Graph_own.f k a0_0 l0_1).bind fun bt104=>(impl_PruneGraph.l0 k bt104.1 bt104.2)) else (some (0,([]:List (List Int)),1)))
theorem impl_PruneGraph.mono_l : ∀ k, (∀ y0 y1, LeO (impl_PruneGraph.l0 k y0 y1) (impl_PruneGraph.l0 (k + 1) y0 y1))
 | 0=>fun _ _ r h=>by simp [impl_PruneGraph.l0] at h
 | k+1=>by
  have ih0:=impl_PruneGraph.mono_l k
  ·intro y0 y1
   unfold impl_PruneGraph.l0
   repeat' first
   | (with_reducible exact ih0 _ _)
   | (with_reducible exact impl_Graph_degrees.mono _ _ _)
   | (with_reducible exact impl_Graph_deleted.mono _ _ _ _)
   | (with_reducible exact impl_Graph_own.mono _ _ _)
   | (with_reducible exact impl_Graph_withoutVertex.mono _ _ _ _)
   | (with_reducible exact impl_IsGraph.mono _ _ _)
   | (with_reducible exact impl_PruneGraph_1.mono _ _ _)
   | (with_reducible exact slices_Index_int64_int64.mono _ _ _)
   | (with_reducible exact LeO.refl _)
   | (with_reducible exact LeO.none _)
   | (with_reducible refine LeO.ite ?_ ?_)
   | (with_reducible refine LeO.bind ?_ (fun _=>?_))
   | exact ih0 _ _
   | exact impl_Graph_degrees.mono _ _ _
   | exact impl_Graph_deleted.mono _ _ _ _
   | exact impl_Graph_own.mono _ _ _
   | exact impl_Graph_withoutVertex.mono _ _ _ _
   | exact impl_IsGraph.mono _ _ _
   | exact impl_PruneGraph_1.mono _ _ _
   | exact slices_Index_int64_int64.mono _ _ _
   | exact LeO.none _
   | refine LeO.ite ?_ ?_
   | refine LeO.bind ?_ (fun _=>?_)
theorem impl_PruneGraph.mono:∀ a0 a1 k,LeO (impl_PruneGraph.f k a0 a1) (impl_PruneGraph.f (k+1) a0 a1):=by
 intro a0 a1 k
 have ih0:=impl_PruneGraph.mono_l k
 unfold impl_PruneGraph.f
 repeat' first
   | (with_reducible exact ih0 _ _)
   | (with_reducible exact impl_Graph_degrees.mono _ _ _)
   | (with_reducible exact impl_Graph_deleted.mono _ _ _ _)
   | (with_reducible exact impl_Graph_own.mono _ _ _)
   | (with_reducible exact impl_Graph_withoutVertex.mono _ _ _ _)
   | (with_reducible exact impl_IsGraph.mono _ _ _)
   | (with_reducible exact impl_PruneGraph_1.mono _ _ _)
   | (with_reducible exact slices_Index_int64_int64.mono _ _ _)
   | (with_reducible exact LeO.refl _)
   | (with_reducible exact LeO.none _)
   | (with_reducible refine LeO.ite ?_ ?_)
   | (with_reducible refine LeO.bind ?_ (fun _=>?_))
   | exact ih0 _ _
   | exact impl_Graph_degrees.mono _ _ _
   | exact impl_Graph_deleted.mono _ _ _ _
   | exact impl_Graph_own.mono _ _ _
   | exact impl_Graph_withoutVertex.mono _ _ _ _
   | exact impl_IsGraph.mono _ _ _
   | exact impl_PruneGraph_1.mono _ _ _
   | exact slices_Index_int64_int64.mono _ _ _
   | exact LeO.none _
   | refine LeO.ite ?_ ?_
   | refine LeO.bind ?_ (fun _=>?_)
set_option maxHeartbeats 8000000 in
set_option maxRecDepth 100000 in
theorem impl_PruneGraph.calls (k : Nat) (a0_0 : Int) (A0_1 : Option Addr) (c0_1 : Nat) (l0_1 : List (List Int)) (r1 : Int) (r2 : List (List Int)) (r3 : Int) (w : World) (hr0_1 : Kd.C (Kd.slice 2 (Kd.int .i64)) w A0_1 l0_1.length l0_1) (hc0_1 : l0_1.length ≤ c0_1) (h : impl_PruneGraph.f k a0_0 l0_1 = some (r1, r2, r3)) :
  Calls Try.prog 25 #[.agg #[.int .i64 a0_0,.slice A0_1 l0_1.length c0_1]] w fun e w'=>∃ v1_:Value,e=.returned (.tuple #[.agg #[.int .i64 r1,v1_],.int .i64 r3])∧Kd.S (Kd.slice 2 (Kd.int .i64)) 32 w' w.heap.size (fun _=>True) v1_ r2∧Below w.heap.size w w':=by
 have hu28:=Try.underlying28
 have HR0_1:=Aside0.mk hr0_1
 have HC0_1:=Aside0.mk hc0_1
 clear hr0_1 hc0_1
 have HB:=Aside0.mk (Below.refl w.heap.size w)
 have H:((impl_IsGraph.f k a0_0 l0_1).bind fun t103=>(if t103=true then ((impl_Graph_own.f k a0_0 l0_1).bind fun bt104=>(impl_PruneGraph.l0 k bt104.1 bt104.2)) else (some (0,([]:List (List Int)),1))))=some (r1,r2,r3):=h
 clear h
 replace H:=Option.bind_eq_some_iff.mp H
 obtain ⟨t103,A20,H⟩:=H
 replace H:(if t103=true then ((impl_Graph_own.f k a0_0 l0_1).bind fun bt104=>(impl_PruneGraph.l0 k bt104.1 bt104.2)) else (some (0,([]:List (List Int)),1)))=some (r1,r2,r3):=H
 have A2:=Aside0.mk A20
 clear A20
 by_cases c3:t103=true
 case neg =>
  replace c3:=Bool.eq_false_iff.mpr c3
  subst c3
  have H1:(some (0,([]:List (List Int)),1))=some (r1,r2,r3):=by rw [if_neg (show ¬ (false=true) by decide)] at H;exact H
  clear H
  have H:=H1
  clear H1
  simp only [Option.some.injEq,Prod.mk.injEq] at H
  obtain ⟨rfl,rfl,rfl⟩:=H
  go_enter Try.func25,Try.ntmps25
  go_wp2_with (first|((with_reducible refine gate_dst (N:=1) rfl ?_);refine box_event ?hg (N:=1) ?hd (cs:=#[.int .i64 a0_0,.slice A0_1 l0_1.length c0_1]) (t:=28) ?hr ?_;(case hd=>rfl);(case hg=>rfl);(case hr=>first|(go_simp;done)|(go_simp;rfl));intro gb101 hg w57 hbox hb;have n0_:=Aside0.mk (below_step bl hb);have n1_:=Aside0.mk (hbox);have n2_:=Aside0.mk ((by rw [hg];exact (below_size bl):w.heap.size≤gb101));have n3_:=Aside0.mk ((by rw [hg];exact (below_size bl):w.heap.size≤gb101));clear HB;have HB:=n0_;have BK101:=n1_;have GW101:=n2_;have GE101:=n3_;clear n0_ n1_ n2_ n3_;clear hb hbox hg)|((with_reducible refine gate_dst (N:=2) rfl ?_);refine box_event ?hg (N:=2) ?hd (cs:=#[.int .i64 0,.slice none 0 0]) (t:=28) ?hr ?_;(case hd=>rfl);(case hg=>rfl);(case hr=>first|(go_simp;done)|(go_simp;rfl));intro gb102 hg w58 hbox hb;have n0_:=Aside0.mk (blk_below (g:=gb101) (o:=.cells #[.int .i64 a0_0,.slice A0_1 l0_1.length c0_1] 28 (0,0)) bk hb);have n1_:=Aside0.mk (below_step bl hb);have n2_:=Aside0.mk (hbox);have n3_:=Aside0.mk ((by rw [hg];exact (below_size bl):w.heap.size≤gb102));have n4_:=Aside0.mk ((by rw [hg];exact (below_size bl):w.heap.size≤gb102));have n5_:=Aside0.mk ((by rw [hg];exact Nat.ne_of_lt (blk_lt (g:=gb101) (o:=.cells #[.int .i64 a0_0,.slice A0_1 l0_1.length c0_1] 28 (0,0)) bk):gb101 ≠ gb102));have n6_:=Aside0.mk ((by rw [hg];exact Nat.ne_of_gt (blk_lt (g:=gb101) (o:=.cells #[.int .i64 a0_0,.slice A0_1 l0_1.length c0_1] 28 (0,0)) bk):gb102 ≠ gb101));clear BK101;clear HB;have BK101:=n0_;have HB:=n1_;have BK102:=n2_;have GW102:=n3_;have GE102:=n4_;have NB101_102:=n5_;have NB102_101:=n6_;clear n0_ n1_ n2_ n3_ n4_ n5_ n6_;clear hb hbox hg;have hnb59:=NB101_102.out;have hnc59:=NB102_101.out;have hcz60_0:w58.cell? ⟨gb101,0,none⟩=some (.int .i64 a0_0):=(blk_cell BK101.out 0).trans rfl;have hcz60_1:w58.cell? ⟨gb101,1,none⟩=some (.slice A0_1 l0_1.length c0_1):=(blk_cell BK101.out 1).trans rfl;have hfz60_0:=blk_frozen BK101.out 0;have hfz60_1:=blk_frozen BK101.out 1)|((with_reducible refine gate_callee (f:=29) rfl ?_);refine goesL_ (some 8) rfl rfl Try.func29 (by kernel_rfl) rfl #[.agg #[.int .i64 a0_0,.slice A0_1 l0_1.length c0_1]] rfl gm ?_;(with_reducible refine (impl_IsGraph.calls k a0_0 _ _ l0_1 false _ ?side1 ?side2 A2.out).mono ?_);(case side1=>repeat (first|exact (Kd.C_below HR0_1.out HB.out)|(with_reducible refine Kd.C_alloc ?_ _)|(with_reducible refine Kd.C_drewN ?_ _)|(with_reducible refine Kd.C_drew ?_)));(case side2=>exact HC0_1.out);rintro e w61 ⟨rfl,hb⟩;refine ⟨_,rfl,?_⟩;have n0_:=Aside0.mk (blk_below (g:=gb101) (o:=.cells #[.int .i64 a0_0,.slice A0_1 l0_1.length c0_1] 28 (0,0)) bk hb);have n1_:=Aside0.mk (blk_below (g:=gb102) (o:=.cells #[.int .i64 0,.slice none 0 0] 28 (0,0)) bk hb);have n2_:=Aside0.mk (below_step bl hb);clear BK101;clear BK102;clear HB;have BK101:=n0_;have BK102:=n1_;have HB:=n2_;clear n0_ n1_ n2_;(try clear hb);(try clear hb2);(try clear hk);(try clear hi);have hcz62_0:w61.cell? ⟨gb102,0,none⟩=some (.int .i64 0):=(blk_cell BK102.out 0).trans rfl;have hcz62_1:w61.cell? ⟨gb102,1,none⟩=some (.slice none 0 0):=(blk_cell BK102.out 1).trans rfl;have hfz62_0:=blk_frozen BK102.out 0;have hfz62_1:=blk_frozen BK102.out 1))
  refine bodyPost_ret (results_ct rfl _ _ gb102 28 #[.int .i64 0,.slice none 0 0] (0,0) _ rfl (by (with_reducible repeat (first|refine blk_drewN ?_ _|refine blk_drew ?_|refine blk_alloc ?_ _));refine blk_put (cs:=#[.int .i64 0,.slice none 0 0]) ?_ 1 _ rfl;(with_reducible repeat (first|refine blk_drewN ?_ _|refine blk_drew ?_|refine blk_alloc ?_ _));refine blk_put (cs:=#[.int .i64 0,.slice none 0 0]) ?_ 0 _ rfl;(with_reducible repeat (first|refine blk_drewN ?_ _|refine blk_drew ?_|refine blk_alloc ?_ _));exact BK102.out) Try.underlying28 rfl (by kernel_rfl)) rfl ?_
  exact ⟨_,by first|rfl|(simp [errW_none,errW_some]<;>rfl)|(simp [*,errW_none,errW_some]<;>rfl),by first|exact Kd.S_nil _ _ _ _ _|exact Kd.N_nil _ _ _ _ _|exact Kd.V_nil _ _ _ _ _|exact Kd.Q_nil _ _ _ _ _|exact Kd.R_nil _ _ _ _ _,bl⟩
 subst c3
 have H1:((impl_Graph_own.f k a0_0 l0_1).bind fun bt104=>(impl_PruneGraph.l0 k bt104.1 bt104.2))=some (r1,r2,r3):=by rw [if_pos rfl] at H;exact H
 clear H
 have H:=H1
 clear H1
 replace H:=Option.bind_eq_some_iff.mp H
 obtain ⟨⟨t104,t105⟩,A40,H⟩:=H
 replace H:(impl_PruneGraph.l0 k t104 t105)=some (r1,r2,r3):=H
 have A4:=Aside0.mk A40
 clear A40
 have H':=Aside0.mk H
 clear H
 go_enter Try.func25,Try.ntmps25
 go_wp2_with (first|((with_reducible refine gate_dst (N:=1) rfl ?_);refine box_event ?hg (N:=1) ?hd (cs:=#[.int .i64 a0_0,.slice A0_1 l0_1.length c0_1]) (t:=28) ?hr ?_;(case hd=>rfl);(case hg=>rfl);(case hr=>first|(go_simp;done)|(go_simp;rfl));intro gb101 hg w5 hbox hb;have n0_:=Aside0.mk (below_step bl hb);have n1_:=Aside0.mk (hbox);have n2_:=Aside0.mk ((by rw [hg];exact (below_size bl):w.heap.size≤gb101));have n3_:=Aside0.mk ((by rw [hg];exact (below_size bl):w.heap.size≤gb101));clear HB;have HB:=n0_;have BK101:=n1_;have GW101:=n2_;have GE101:=n3_;clear n0_ n1_ n2_ n3_;clear hb hbox hg)|((with_reducible refine gate_dst (N:=2) rfl ?_);refine box_event ?hg (N:=2) ?hd (cs:=#[.int .i64 0,.slice none 0 0]) (t:=28) ?hr ?_;(case hd=>rfl);(case hg=>rfl);(case hr=>first|(go_simp;done)|(go_simp;rfl));intro gb102 hg w6 hbox hb;have n0_:=Aside0.mk (blk_below (g:=gb101) (o:=.cells #[.int .i64 a0_0,.slice A0_1 l0_1.length c0_1] 28 (0,0)) bk hb);have n1_:=Aside0.mk (below_step bl hb);have n2_:=Aside0.mk (hbox);have n3_:=Aside0.mk ((by rw [hg];exact (below_size bl):w.heap.size≤gb102));have n4_:=Aside0.mk ((by rw [hg];exact (below_size bl):w.heap.size≤gb102));have n5_:=Aside0.mk ((by rw [hg];exact Nat.ne_of_lt (blk_lt (g:=gb101) (o:=.cells #[.int .i64 a0_0,.slice A0_1 l0_1.length c0_1] 28 (0,0)) bk):gb101 ≠ gb102));have n6_:=Aside0.mk ((by rw [hg];exact Nat.ne_of_gt (blk_lt (g:=gb101) (o:=.cells #[.int .i64 a0_0,.slice A0_1 l0_1.length c0_1] 28 (0,0)) bk):gb102 ≠ gb101));clear BK101;clear HB;have BK101:=n0_;have HB:=n1_;have BK102:=n2_;have GW102:=n3_;have GE102:=n4_;have NB101_102:=n5_;have NB102_101:=n6_;clear n0_ n1_ n2_ n3_ n4_ n5_ n6_;clear hb hbox hg;have hnb7:=NB101_102.out;have hnc7:=NB102_101.out;have hcz8_0:w6.cell? ⟨gb101,0,none⟩=some (.int .i64 a0_0):=(blk_cell BK101.out 0).trans rfl;have hcz8_1:w6.cell? ⟨gb101,1,none⟩=some (.slice A0_1 l0_1.length c0_1):=(blk_cell BK101.out 1).trans rfl;have hfz8_0:=blk_frozen BK101.out 0;have hfz8_1:=blk_frozen BK101.out 1)|((with_reducible refine gate_callee (f:=29) rfl ?_);refine goesL_ (some 8) rfl rfl Try.func29 (by kernel_rfl) rfl #[.agg #[.int .i64 a0_0,.slice A0_1 l0_1.length c0_1]] rfl gm ?_;(with_reducible refine (impl_IsGraph.calls k a0_0 _ _ l0_1 true _ ?side1 ?side2 A2.out).mono ?_);(case side1=>repeat (first|exact (Kd.C_below HR0_1.out HB.out)|(with_reducible refine Kd.C_alloc ?_ _)|(with_reducible refine Kd.C_drewN ?_ _)|(with_reducible refine Kd.C_drew ?_)));(case side2=>exact HC0_1.out);rintro e w9 ⟨rfl,hb⟩;refine ⟨_,rfl,?_⟩;have n0_:=Aside0.mk (blk_below (g:=gb101) (o:=.cells #[.int .i64 a0_0,.slice A0_1 l0_1.length c0_1] 28 (0,0)) bk hb);have n1_:=Aside0.mk (blk_below (g:=gb102) (o:=.cells #[.int .i64 0,.slice none 0 0] 28 (0,0)) bk hb);have n2_:=Aside0.mk (below_step bl hb);clear BK101;clear BK102;clear HB;have BK101:=n0_;have BK102:=n1_;have HB:=n2_;clear n0_ n1_ n2_;(try clear hb);(try clear hb2);(try clear hk);(try clear hi);have hcz10_0:w9.cell? ⟨gb101,0,none⟩=some (.int .i64 a0_0):=(blk_cell BK101.out 0).trans rfl;have hcz10_1:w9.cell? ⟨gb101,1,none⟩=some (.slice A0_1 l0_1.length c0_1):=(blk_cell BK101.out 1).trans rfl;have hfz10_0:=blk_frozen BK101.out 0;have hfz10_1:=blk_frozen BK101.out 1)|((with_reducible refine gate_callee (f:=59) rfl ?_);refine goesL_ (some 12) rfl rfl Try.func59 (by kernel_rfl) rfl #[.agg #[.int .i64 a0_0,.slice A0_1 l0_1.length c0_1]] rfl gm ?_;(with_reducible refine (impl_Graph_own.calls k a0_0 _ _ l0_1 t104 t105 _ ?side1 ?side2 A4.out).mono ?_);(case side1=>repeat (first|exact (Kd.C_below HR0_1.out HB.out)|(with_reducible refine Kd.C_alloc ?_ _)|(with_reducible refine Kd.C_drewN ?_ _)|(with_reducible refine Kd.C_drew ?_)));(case side2=>exact HC0_1.out);rintro e w11 ⟨v106,rfl,ho0,hb⟩;refine ⟨_,rfl,?_⟩;have n0_:=Aside0.mk (Kd.S_lower ho0 (below_size bl));have n1_:=Aside0.mk (blk_below (g:=gb101) (o:=.cells #[.int .i64 a0_0,.slice A0_1 l0_1.length c0_1] 28 (0,0)) bk hb);have n2_:=Aside0.mk (blk_below (g:=gb102) (o:=.cells #[.int .i64 0,.slice none 0 0] 28 (0,0)) bk hb);have n3_:=Aside0.mk (below_step bl hb);clear BK101;clear BK102;clear HB;have HO107:=n0_;have BK101:=n1_;have BK102:=n2_;have HB:=n3_;clear n0_ n1_ n2_ n3_;(try clear hb);(try clear hb2);(try clear hk);(try clear hi);(try clear ho0))|((with_reducible refine gate_dst (N:=4) rfl ?_);refine box_event ?hg (N:=4) ?hd (cs:=#[.int .i64 0,.slice none 0 0]) (t:=28) ?hr ?_;(case hd=>rfl);(case hg=>rfl);(case hr=>first|(go_simp;done)|(go_simp;rfl));intro gb108 hg w12 hbox hb;have n0_:=Aside0.mk (Kd.S_below (by (with_reducible repeat (first|apply Kd.S_alloc|apply Kd.S_drewN|apply Kd.S_drew));exact HO107.out) hb);have n1_:=Aside0.mk (blk_below (g:=gb101) (o:=.cells #[.int .i64 a0_0,.slice A0_1 l0_1.length c0_1] 28 (0,0)) bk hb);have n2_:=Aside0.mk (blk_below (g:=gb102) (o:=.cells #[.int .i64 0,.slice none 0 0] 28 (0,0)) bk hb);have n3_:=Aside0.mk (below_step bl hb);have n4_:=Aside0.mk (hbox);have n5_:=Aside0.mk ((by rw [hg];exact (below_size bl):w.heap.size≤gb108));have n6_:=Aside0.mk ((by rw [hg];exact (below_size bl):w.heap.size≤gb108));have n7_:=Aside0.mk ((by rw [hg];exact Nat.ne_of_lt (blk_lt (g:=gb101) (o:=.cells #[.int .i64 a0_0,.slice A0_1 l0_1.length c0_1] 28 (0,0)) bk):gb101 ≠ gb108));have n8_:=Aside0.mk ((by rw [hg];exact Nat.ne_of_gt (blk_lt (g:=gb101) (o:=.cells #[.int .i64 a0_0,.slice A0_1 l0_1.length c0_1] 28 (0,0)) bk):gb108 ≠ gb101));have n9_:=Aside0.mk ((by rw [hg];exact Nat.ne_of_lt (blk_lt (g:=gb102) (o:=.cells #[.int .i64 0,.slice none 0 0] 28 (0,0)) bk):gb102 ≠ gb108));have n10_:=Aside0.mk ((by rw [hg];exact Nat.ne_of_gt (blk_lt (g:=gb102) (o:=.cells #[.int .i64 0,.slice none 0 0] 28 (0,0)) bk):gb108 ≠ gb102));clear HO107;clear BK101;clear BK102;clear HB;have HO107:=n0_;have BK101:=n1_;have BK102:=n2_;have HB:=n3_;have BK108:=n4_;have GW108:=n5_;have GE108:=n6_;have NB101_108:=n7_;have NB108_101:=n8_;have NB102_108:=n9_;have NB108_102:=n10_;clear n0_ n1_ n2_ n3_ n4_ n5_ n6_ n7_ n8_ n9_ n10_;clear hb hbox hg;have hnb13:=NB108_101.out;have hnc13:=NB101_108.out;have hnb14:=NB108_102.out;have hnc14:=NB102_108.out;have hcz15_0:w12.cell? ⟨gb108,0,none⟩=some (.int .i64 0):=(blk_cell BK108.out 0).trans rfl;have hcz15_1:w12.cell? ⟨gb108,1,none⟩=some (.slice none 0 0):=(blk_cell BK108.out 1).trans rfl;have hfz15_0:=blk_frozen BK108.out 0;have hfz15_1:=blk_frozen BK108.out 1;obtain ⟨Ao16,co16,eo16⟩:=Kd.S_slice HO107.out;subst eo16))
 go_loopg [] k (fun kq w'=>∃ (x103000_1:Int) (x109000_1:Int) (x109001_1:List (List Int)) (u109001:Value),Aside0 (impl_PruneGraph.l0 kq x109000_1 x109001_1=some (r1,r2,r3))∧Aside0 (kq≤k)∧Aside0 (Kd.S (Kd.slice 2 (Kd.int .i64)) 32 w' w.heap.size (fun _=>True) u109001 x109001_1)∧Aside0 (w'.heap[gb101]?=some (.cells #[.int .i64 a0_0,(.slice A0_1 l0_1.length c0_1)] 28 (0,0)))∧Aside0 (w'.heap[gb102]?=some (.cells #[.int .i64 x103000_1,(.slice none 0 0)] 28 (0,0)))∧Aside0 (w'.heap[gb108]?=some (.cells #[.int .i64 x109000_1,u109001] 28 (0,0)))∧Aside0 (Below w.heap.size w w'))
 case atStart=>exact ⟨(0),(t104),(t105),(.slice Ao16 t105.length co16),H',⟨Nat.le_refl _⟩,⟨by (with_reducible repeat (first|apply Kd.S_alloc|apply Kd.S_drewN|apply Kd.S_drew));exact Kd.S_mono (Kd.S_far (p:=⟨gb108,1,none⟩) (Kd.S_far (p:=⟨gb108,0,none⟩) (Kd.S_types HO107.out BK108.out (by decide)) (fun _ hk=>hk.2) (.int .i64 t104)) (fun _ hk=>hk.2) (.slice Ao16 t105.length co16)) (fun _ hk=>trivial)⟩,⟨by (with_reducible repeat (first|refine blk_drewN ?_ _|refine blk_drew ?_|refine blk_alloc ?_ _));refine blk_far ?_ NB101_108.out _;(with_reducible repeat (first|refine blk_drewN ?_ _|refine blk_drew ?_|refine blk_alloc ?_ _));refine blk_far ?_ NB101_108.out _;(with_reducible repeat (first|refine blk_drewN ?_ _|refine blk_drew ?_|refine blk_alloc ?_ _));exact BK101.out⟩,⟨by (with_reducible repeat (first|refine blk_drewN ?_ _|refine blk_drew ?_|refine blk_alloc ?_ _));refine blk_far ?_ NB102_108.out _;(with_reducible repeat (first|refine blk_drewN ?_ _|refine blk_drew ?_|refine blk_alloc ?_ _));refine blk_far ?_ NB102_108.out _;(with_reducible repeat (first|refine blk_drewN ?_ _|refine blk_drew ?_|refine blk_alloc ?_ _));exact BK102.out⟩,⟨by (with_reducible repeat (first|refine blk_drewN ?_ _|refine blk_drew ?_|refine blk_alloc ?_ _));refine blk_put (cs:=#[.int .i64 t104,.slice none 0 0]) ?_ 1 _ rfl;(with_reducible repeat (first|refine blk_drewN ?_ _|refine blk_drew ?_|refine blk_alloc ?_ _));refine blk_put (cs:=#[.int .i64 0,.slice none 0 0]) ?_ 0 _ rfl;(with_reducible repeat (first|refine blk_drewN ?_ _|refine blk_drew ?_|refine blk_alloc ?_ _));exact BK108.out⟩,⟨bl⟩⟩
 case round =>
  clear H'
  (try clear c1);(try clear c2);(try clear p2);(try clear c3);(try clear c5);(try clear c7);(try clear c13);(try clear c14);(try clear hcz10_0);(try clear hcz10_1);(try clear hcz15_0);(try clear hcz15_1);(try clear hcz8_0);(try clear hcz8_1);(try clear hfz10_0);(try clear hfz10_1);(try clear hfz15_0);(try clear hfz15_1);(try clear hfz8_0);(try clear hfz8_1)
  obtain ⟨x103000_1,x109000_1,x109001_1,u109001,HA,HK1,HO_109001,BK101,BK102,BK108,HB⟩:=hrel
  cases gk with
  | zero=>exact absurd HA.out (by simp [impl_PruneGraph.l0])
  | succ k1 =>
   have H:=HA.out
   clear HA
   simp only [impl_PruneGraph.l0] at H
   replace H:=Option.bind_eq_some_iff.mp H
   obtain ⟨t109,A170,H⟩:=H
   replace H:((slices_Index_int64_int64.f k1 t109 1).bind fun t112=>(if t112 < 0 then (some (x109000_1,x109001_1,0)) else ((impl_PruneGraph_1.f k1 x109001_1 t112).bind fun t114=>((impl_Graph_deleted.f k1 x109000_1 x109001_1 t114).bind fun bt115=>((impl_Graph_withoutVertex.f k1 bt115.1 bt115.2 t112).bind fun bt119=>(impl_PruneGraph.l0 k1 bt119.1 bt119.2))))))=some (r1,r2,r3):=H
   have A17:=Aside0.mk A170
   clear A170
   replace H:=Option.bind_eq_some_iff.mp H
   obtain ⟨t112,A180,H⟩:=H
   replace H:(if t112 < 0 then (some (x109000_1,x109001_1,0)) else ((impl_PruneGraph_1.f k1 x109001_1 t112).bind fun t114=>((impl_Graph_deleted.f k1 x109000_1 x109001_1 t114).bind fun bt115=>((impl_Graph_withoutVertex.f k1 bt115.1 bt115.2 t112).bind fun bt119=>(impl_PruneGraph.l0 k1 bt119.1 bt119.2)))))=some (r1,r2,r3):=H
   have A18:=Aside0.mk A180
   clear A180
   by_cases c19:t112 < 0
   case neg =>
    rw [if_neg c19] at H
    have c19b0:decide (t112 < 0)=false:=decide_eq_false c19
    clear c19
    replace H:=Option.bind_eq_some_iff.mp H
    obtain ⟨t114,A340,H⟩:=H
    replace H:((impl_Graph_deleted.f k1 x109000_1 x109001_1 t114).bind fun bt115=>((impl_Graph_withoutVertex.f k1 bt115.1 bt115.2 t112).bind fun bt119=>(impl_PruneGraph.l0 k1 bt119.1 bt119.2)))=some (r1,r2,r3):=H
    have A34:=Aside0.mk A340
    clear A340
    replace H:=Option.bind_eq_some_iff.mp H
    obtain ⟨⟨t115,t116⟩,A350,H⟩:=H
    replace H:((impl_Graph_withoutVertex.f k1 t115 t116 t112).bind fun bt119=>(impl_PruneGraph.l0 k1 bt119.1 bt119.2))=some (r1,r2,r3):=H
    have A35:=Aside0.mk A350
    clear A350
    replace H:=Option.bind_eq_some_iff.mp H
    obtain ⟨⟨t119,t120⟩,A360,H⟩:=H
    replace H:(impl_PruneGraph.l0 k1 t119 t120)=some (r1,r2,r3):=H
    have A36:=Aside0.mk A360
    clear A360
    have H':=Aside0.mk H
    clear H
    have hnb37:=NB108_101.out
    have hnc37:=NB101_108.out
    have hnb38:=NB108_102.out
    have hnc38:=NB102_108.out
    have hcz39_0:wr.cell? ⟨gb108,0,none⟩=some (.int .i64 x109000_1):=(blk_cell BK108.out 0).trans rfl
    have hcz39_1:wr.cell? ⟨gb108,1,none⟩=some (u109001):=(blk_cell BK108.out 1).trans rfl
    have hfz39_0:=blk_frozen BK108.out 0
    have hfz39_1:=blk_frozen BK108.out 1
    obtain ⟨Ao40,co40,eo40⟩:=Kd.S_slice HO_109001.out
    subst eo40
    try go_wp2_with (first|((with_reducible refine gate_callee (f:=61) rfl ?_);refine goesL_ (some 14) rfl rfl Try.func61 (by kernel_rfl) rfl #[.agg #[.int .i64 x109000_1,.slice Ao40 x109001_1.length co40]] rfl gm ?_;(with_reducible refine (impl_Graph_degrees.calls k1 x109000_1 _ _ x109001_1 t109 _ ?side1 ?side2 A17.out).mono ?_);(case side1=>repeat (first|exact (Kd.S_reads' HO_109001.out).2.2|(with_reducible refine Kd.C_alloc ?_ _)|(with_reducible refine Kd.C_drewN ?_ _)|(with_reducible refine Kd.C_drew ?_)));(case side2=>exact (Kd.S_reads' HO_109001.out).2.1);rintro e w41 ⟨v110,rfl,ho0,hb⟩;refine ⟨_,rfl,?_⟩;have n0_:=Aside0.mk (Kd.S_elder' (by (with_reducible repeat (first|apply Kd.S_alloc|apply Kd.S_drewN|apply Kd.S_drew));exact HO_109001.out) (Kd.R_base ho0) hb);have n1_:=Aside0.mk (Kd.R_lower ho0 (below_size bl));have n2_:=Aside0.mk (blk_below (g:=gb101) (o:=.cells #[.int .i64 a0_0,.slice A0_1 l0_1.length c0_1] 28 (0,0)) bk hb);have n3_:=Aside0.mk (blk_below (g:=gb102) (o:=.cells #[.int .i64 x103000_1,.slice none 0 0] 28 (0,0)) bk hb);have n4_:=Aside0.mk (blk_below (g:=gb108) (o:=.cells #[.int .i64 x109000_1,.slice Ao40 x109001_1.length co40] 28 (0,0)) bk hb);have n5_:=Aside0.mk (below_step bl hb);clear HO_109001;clear BK101;clear BK102;clear BK108;clear HB;have HO_109001:=n0_;have HO111:=n1_;have BK101:=n2_;have BK102:=n3_;have BK108:=n4_;have HB:=n5_;clear n0_ n1_ n2_ n3_ n4_ n5_;(try clear hb);(try clear hb2);(try clear hk);(try clear hi);(try clear ho0);obtain ⟨Ao42,co42,eo42⟩:=Kd.R_slice HO111.out;subst eo42)|((with_reducible refine gate_callee (f:=60) rfl ?_);refine goesL_ (some 15) rfl rfl Try.func60 (by kernel_rfl) rfl #[.slice Ao42 t109.length co42,.int .i64 1] rfl gm ?_;(with_reducible refine (slices_Index_int64_int64.calls k1 _ _ t109 1 t112 _ ?side1 ?side2 A18.out).mono ?_);(case side1=>repeat (first|exact (Kd.R_reads' HO111.out).2.2|(with_reducible refine Kd.C_alloc ?_ _)|(with_reducible refine Kd.C_drewN ?_ _)|(with_reducible refine Kd.C_drew ?_)));(case side2=>exact (Kd.R_reads' HO111.out).2.1);rintro e w' ⟨rfl,⟨nd,rfl⟩⟩;refine ⟨_,rfl,?_⟩;(try (rw [drewN_self w41];generalize hq_:World.drewN w41 _=w41;have n0_:Aside0 (Kd.R (Kd.int .i64) 2 w41 w.heap.size (fun _=>True) (.slice Ao42 t109.length co42) t109):=⟨by rw [← hq_];exact (by (with_reducible repeat (first|apply Kd.R_alloc|apply Kd.R_drewN|apply Kd.R_drew));exact HO111.out)⟩;have n1_:Aside0 (Kd.S (Kd.slice 2 (Kd.int .i64)) 32 w41 w.heap.size (fun k_=>(True∧some k_ ≠ (.slice Ao42 t109.length co42:Value).ownBlock)) (.slice Ao40 x109001_1.length co40) x109001_1):=⟨by rw [← hq_];exact (by (with_reducible repeat (first|apply Kd.S_alloc|apply Kd.S_drewN|apply Kd.S_drew));exact HO_109001.out)⟩;have n2_:Aside0 (w41.heap[gb101]?=some (.cells #[.int .i64 a0_0,.slice A0_1 l0_1.length c0_1] 28 (0,0))):=⟨by rw [← hq_];exact bk⟩;have n3_:Aside0 (w41.heap[gb102]?=some (.cells #[.int .i64 x103000_1,.slice none 0 0] 28 (0,0))):=⟨by rw [← hq_];exact bk⟩;have n4_:Aside0 (w41.heap[gb108]?=some (.cells #[.int .i64 x109000_1,.slice Ao40 x109001_1.length co40] 28 (0,0))):=⟨by rw [← hq_];exact bk⟩;have n5_:Aside0 (Below w.heap.size w w41):=⟨by rw [← hq_];exact bl⟩;clear HO111 HO_109001 BK101 BK102 BK108 HB hq_;have HO111:=n0_;have HO_109001:=n1_;have BK101:=n2_;have BK102:=n3_;have BK108:=n4_;have HB:=n5_;clear n0_ n1_ n2_ n3_ n4_ n5_)))|((with_reducible refine gate_dst (N:=5) rfl ?_);refine box_event ?hg (N:=5) ?hd (cs:=#[.int .i64 0]) (t:=2) ?hr ?_;(case hd=>rfl);(case hg=>rfl);(case hr=>first|(go_simp;done)|(go_simp;rfl));intro gb113 hg w43 hbox hb;have n0_:=Aside0.mk (Kd.S_below (Kd.S_elderB (by (with_reducible repeat (first|apply Kd.S_alloc|apply Kd.S_drewN|apply Kd.S_drew));exact HO_109001.out) gb113 (Nat.le_of_eq hg.symm)) hb);have n1_:=Aside0.mk (Kd.R_below (Kd.R_elderB (by (with_reducible repeat (first|apply Kd.R_alloc|apply Kd.R_drewN|apply Kd.R_drew));exact HO111.out) gb113 (Nat.le_of_eq hg.symm)) hb);have n2_:=Aside0.mk (blk_below (g:=gb101) (o:=.cells #[.int .i64 a0_0,.slice A0_1 l0_1.length c0_1] 28 (0,0)) bk hb);have n3_:=Aside0.mk (blk_below (g:=gb102) (o:=.cells #[.int .i64 x103000_1,.slice none 0 0] 28 (0,0)) bk hb);have n4_:=Aside0.mk (blk_below (g:=gb108) (o:=.cells #[.int .i64 x109000_1,.slice Ao40 x109001_1.length co40] 28 (0,0)) bk hb);have n5_:=Aside0.mk (below_step bl hb);have n6_:=Aside0.mk (hbox);have n7_:=Aside0.mk ((by rw [hg];exact (below_size bl):w.heap.size≤gb113));have n8_:=Aside0.mk ((by rw [hg];exact (below_size bl):w.heap.size≤gb113));have n9_:=Aside0.mk ((by rw [hg];exact Nat.ne_of_lt (blk_lt (g:=gb101) (o:=.cells #[.int .i64 a0_0,.slice A0_1 l0_1.length c0_1] 28 (0,0)) bk):gb101 ≠ gb113));have n10_:=Aside0.mk ((by rw [hg];exact Nat.ne_of_gt (blk_lt (g:=gb101) (o:=.cells #[.int .i64 a0_0,.slice A0_1 l0_1.length c0_1] 28 (0,0)) bk):gb113 ≠ gb101));have n11_:=Aside0.mk ((by rw [hg];exact Nat.ne_of_lt (blk_lt (g:=gb102) (o:=.cells #[.int .i64 x103000_1,.slice none 0 0] 28 (0,0)) bk):gb102 ≠ gb113));have n12_:=Aside0.mk ((by rw [hg];exact Nat.ne_of_gt (blk_lt (g:=gb102) (o:=.cells #[.int .i64 x103000_1,.slice none 0 0] 28 (0,0)) bk):gb113 ≠ gb102));have n13_:=Aside0.mk ((by rw [hg];exact Nat.ne_of_lt (blk_lt (g:=gb108) (o:=.cells #[.int .i64 x109000_1,.slice Ao40 x109001_1.length co40] 28 (0,0)) bk):gb108 ≠ gb113));have n14_:=Aside0.mk ((by rw [hg];exact Nat.ne_of_gt (blk_lt (g:=gb108) (o:=.cells #[.int .i64 x109000_1,.slice Ao40 x109001_1.length co40] 28 (0,0)) bk):gb113 ≠ gb108));clear HO_109001;clear HO111;clear BK101;clear BK102;clear BK108;clear HB;have HO_109001:=n0_;have HO111:=n1_;have BK101:=n2_;have BK102:=n3_;have BK108:=n4_;have HB:=n5_;have BK113:=n6_;have GW113:=n7_;have GE113:=n8_;have NB101_113:=n9_;have NB113_101:=n10_;have NB102_113:=n11_;have NB113_102:=n12_;have NB108_113:=n13_;have NB113_108:=n14_;clear n0_ n1_ n2_ n3_ n4_ n5_ n6_ n7_ n8_ n9_ n10_ n11_ n12_ n13_ n14_;clear hb hbox hg;have hnb44:=NB113_101.out;have hnc44:=NB101_113.out;have hnb45:=NB113_102.out;have hnc45:=NB102_113.out;have hnb46:=NB113_108.out;have hnc46:=NB108_113.out;have hcz47_0:w43.cell? ⟨gb113,0,none⟩=some (.int .i64 0):=(blk_cell BK113.out 0).trans rfl;have hfz47_0:=blk_frozen BK113.out 0;have hcz48_0:w43.cell? ⟨gb108,0,none⟩=some (.int .i64 x109000_1):=(blk_cell BK108.out 0).trans rfl;have hcz48_1:w43.cell? ⟨gb108,1,none⟩=some (.slice Ao40 x109001_1.length co40):=(blk_cell BK108.out 1).trans rfl;have hfz48_0:=blk_frozen BK108.out 0;have hfz48_1:=blk_frozen BK108.out 1)|((with_reducible refine gate_callee (f:=62) rfl ?_);refine goesL_ (some 22) rfl rfl Try.func62 (by kernel_rfl) rfl #[.slice Ao40 x109001_1.length co40,.func (.func 63) #[] #[.pointer (some ⟨gb113,0,none⟩)]] rfl gm ?_;(with_reducible refine (impl_PruneGraph_1.calls k1 _ _ x109001_1 t112 t114 _ ?side1 ?side2 ?side3 A34.out).mono ?_);(case side1=>first|(refine (Kd.S_reads' (e:=32) (base:=w.heap.size) (ok:=fun k_=>((True∧some k_ ≠ (.slice Ao42 t109.length co42:Value).ownBlock)∧k_ ≠ gb113)) (n:=x109001_1.length) (c:=co40) ?_).2.2;exact (by (with_reducible repeat (first|apply Kd.S_alloc|apply Kd.S_drewN|apply Kd.S_drew));exact (Kd.S_mono (Kd.S_far (p:=⟨gb113,0,none⟩) (Kd.S_mono HO_109001.out (fun k_ hk=>(⟨hk,hk.2⟩:_∧k_ ≠ gb113))) (fun _ hk=>hk.2) (.int .i64 t112)) (fun _ h_=>h_.1))))|(refine (Kd.S_reads' (e:=32) (base:=w.heap.size) (ok:=fun k_=>(some k_ ≠ (.slice Ao42 t109.length co42:Value).ownBlock∧k_ ≠ gb113)) (n:=x109001_1.length) (c:=co40) ?_).2.2;exact (by (with_reducible repeat (first|apply Kd.S_alloc|apply Kd.S_drewN|apply Kd.S_drew));exact (Kd.S_mono (Kd.S_far (p:=⟨gb113,0,none⟩) (Kd.S_mono HO_109001.out (fun k_ hk=>(⟨hk,hk.2⟩:_∧k_ ≠ gb113))) (fun _ hk=>hk.2) (.int .i64 t112)) (fun _ h_=>h_.1)))));(case side2=>exact (Kd.S_reads' HO_109001.out).2.1);(case side3=>exact by (with_reducible repeat (first|refine blk_drewN ?_ _|refine blk_drew ?_|refine blk_alloc ?_ _));refine blk_put (cs:=#[.int .i64 0]) ?_ 0 _ rfl;(with_reducible repeat (first|refine blk_drewN ?_ _|refine blk_drew ?_|refine blk_alloc ?_ _));exact BK113.out);rintro e w49 ⟨rfl,hb⟩;refine ⟨_,rfl,?_⟩;have n0_:=Aside0.mk (Kd.S_below (by (with_reducible repeat (first|apply Kd.S_alloc|apply Kd.S_drewN|apply Kd.S_drew));exact (Kd.S_mono (Kd.S_far (p:=⟨gb113,0,none⟩) (Kd.S_mono HO_109001.out (fun k_ hk=>(⟨hk,hk.2⟩:_∧k_ ≠ gb113))) (fun _ hk=>hk.2) (.int .i64 t112)) (fun _ h_=>h_.1))) hb);have n1_:=Aside0.mk (Kd.R_below (by (with_reducible repeat (first|apply Kd.R_alloc|apply Kd.R_drewN|apply Kd.R_drew));exact (Kd.R_mono (Kd.R_far (p:=⟨gb113,0,none⟩) (Kd.R_mono HO111.out (fun k_ hk=>(⟨hk,hk.2⟩:_∧k_ ≠ gb113))) (fun _ hk=>hk.2) (.int .i64 t112)) (fun _ h_=>h_.1))) hb);have n2_:=Aside0.mk (blk_below (g:=gb101) (o:=.cells #[.int .i64 a0_0,.slice A0_1 l0_1.length c0_1] 28 (0,0)) (by (with_reducible repeat (first|refine blk_drewN ?_ _|refine blk_drew ?_|refine blk_alloc ?_ _));refine blk_far ?_ NB101_113.out _;(with_reducible repeat (first|refine blk_drewN ?_ _|refine blk_drew ?_|refine blk_alloc ?_ _));exact BK101.out) hb);have n3_:=Aside0.mk (blk_below (g:=gb102) (o:=.cells #[.int .i64 x103000_1,.slice none 0 0] 28 (0,0)) (by (with_reducible repeat (first|refine blk_drewN ?_ _|refine blk_drew ?_|refine blk_alloc ?_ _));refine blk_far ?_ NB102_113.out _;(with_reducible repeat (first|refine blk_drewN ?_ _|refine blk_drew ?_|refine blk_alloc ?_ _));exact BK102.out) hb);have n4_:=Aside0.mk (blk_below (g:=gb108) (o:=.cells #[.int .i64 x109000_1,.slice Ao40 x109001_1.length co40] 28 (0,0)) (by (with_reducible repeat (first|refine blk_drewN ?_ _|refine blk_drew ?_|refine blk_alloc ?_ _));refine blk_far ?_ NB108_113.out _;(with_reducible repeat (first|refine blk_drewN ?_ _|refine blk_drew ?_|refine blk_alloc ?_ _));exact BK108.out) hb);have n5_:=Aside0.mk (blk_below (g:=gb113) (o:=.cells #[.int .i64 t112] 2 (0,0)) (by (with_reducible repeat (first|refine blk_drewN ?_ _|refine blk_drew ?_|refine blk_alloc ?_ _));refine blk_put (cs:=#[.int .i64 0]) ?_ 0 _ rfl;(with_reducible repeat (first|refine blk_drewN ?_ _|refine blk_drew ?_|refine blk_alloc ?_ _));exact BK113.out) hb);have n6_:=Aside0.mk (below_step bl hb);clear HO_109001;clear HO111;clear BK101;clear BK102;clear BK108;clear BK113;clear HB;have HO_109001:=n0_;have HO111:=n1_;have BK101:=n2_;have BK102:=n3_;have BK108:=n4_;have BK113:=n5_;have HB:=n6_;clear n0_ n1_ n2_ n3_ n4_ n5_ n6_;(try clear hb);(try clear hb2);(try clear hk);(try clear hi)))
    have n0_:=Aside0.mk (Kd.S_drew HO_109001.out)
    have n1_:=Aside0.mk (Kd.R_drew HO111.out)
    have n2_:=Aside0.mk (blk_drew BK101.out)
    have n3_:=Aside0.mk (blk_drew BK102.out)
    have n4_:=Aside0.mk (blk_drew BK108.out)
    have n5_:=Aside0.mk (blk_drew BK113.out)
    have n6_:=Aside0.mk (below_drew1 HB.out)
    clear HO_109001
    clear HO111
    clear BK101
    clear BK102
    clear BK108
    clear BK113
    clear HB
    have HO_109001:=n0_
    have HO111:=n1_
    have BK101:=n2_
    have BK102:=n3_
    have BK108:=n4_
    have BK113:=n5_
    have HB:=n6_
    clear n0_ n1_ n2_ n3_ n4_ n5_ n6_
    refine start_ (n:=6) (S:=fun w'=>w'.cell? ⟨gb108,0,none⟩=some (.int .i64 x109000_1)∧w'.cell? ⟨gb108,1,none⟩=some (.slice Ao40 x109001_1.length co40)∧w'.cell? ⟨gb113,0,none⟩=some (.int .i64 t112)) (ds:=[5]) #[false,false,false,false,false,false] (by kernel_rfl) rfl rfl ⟨(blk_cell BK108.out 0).trans rfl,(blk_cell BK108.out 1).trans rfl,(blk_cell BK113.out 0).trans rfl⟩ (fun hHeld=>?_)
    generalize w49.drew=w50 at HO_109001 HO111 BK101 BK102 BK108 BK113 HB hHeld ⊢
    refine pure_ (i:=1) (N:=some 24) (v:=?_) (a':=?_) #[false,true,false,false,false,false] rfl rfl (by kernel_rfl) (fun _ _ _ h=>h) (Or.inl ⟨by rfl,?_⟩) ?_ ?_
    rotate_left;· intro w';go_simp;with_reducible rfl
    rotate_left;· simp only [Act.put,zI,zZ,zS,i64_w,i32_w];rfl
    refine take_ (i:=0) (N:=some 23) (v:=?_) (a':=?_) #[true,true,false,false,false,false] rfl rfl (by kernel_rfl) (fun _ _ _ h=>h) (Or.inl ⟨by rfl,?_⟩) hHeld ?_ ?_
    rotate_left;· rintro w' ⟨s0,s1,s2⟩;go_simp;with_reducible rfl
    rotate_left;· simp only [Act.put,zI,zZ,zS,i64_w,i32_w];rfl
    refine take_ (i:=3) (N:=some 26) (v:=?_) (a':=?_) #[true,true,false,true,false,false] rfl rfl (by kernel_rfl) (fun _ _ _ h=>h) (Or.inl ⟨by rfl,?_⟩) hHeld ?_ ?_
    rotate_left;· rintro w' ⟨s0,s1,s2⟩;go_simp;with_reducible rfl
    rotate_left;· simp only [Act.put,zI,zZ,zS,i64_w,i32_w];rfl
    refine one_ (i:=2) (N:=some 25) #[true,true,true,true,false,false] rfl rfl (by kernel_rfl) (by decide) (fun K hK=>?_)
    refine goes_ Try.func65 (by kernel_rfl) rfl #[.agg #[.int .i64 x109000_1,.slice Ao40 x109001_1.length co40],.int .i64 t114] (by rfl) rfl rfl gm ?_
    with_reducible refine (impl_Graph_deleted.calls k1 x109000_1 _ _ x109001_1 t114 t115 t116 _ ?side1 ?side2 A35.out).mono ?_
    (case side1=>repeat (first|exact (Kd.S_reads' HO_109001.out).2.2|(with_reducible refine Kd.C_alloc ?_ _)|(with_reducible refine Kd.C_drewN ?_ _)|(with_reducible refine Kd.C_drew ?_)))
    (case side2=>exact (Kd.S_reads' HO_109001.out).2.1)
    rintro e w51 ⟨v117,rfl,ho0,hb⟩
    refine ⟨_,rfl,?_⟩
    have n0_:=Aside0.mk (Kd.S_elder' (by (with_reducible repeat (first|apply Kd.S_alloc|apply Kd.S_drewN|apply Kd.S_drew));exact HO_109001.out) (Kd.S_base ho0) hb)
    have n1_:=Aside0.mk (Kd.R_below (by (with_reducible repeat (first|apply Kd.R_alloc|apply Kd.R_drewN|apply Kd.R_drew));exact HO111.out) hb)
    have n2_:=Aside0.mk (Kd.S_lower (Kd.S_newB (Kd.S_new' (Kd.S_new' ho0 (Kd.S_lt (by (with_reducible repeat (first|apply Kd.S_alloc|apply Kd.S_drewN|apply Kd.S_drew));exact HO_109001.out))) (Kd.R_lt (by (with_reducible repeat (first|apply Kd.R_alloc|apply Kd.R_drewN|apply Kd.R_drew));exact HO111.out))) (g:=gb113) (o:=.cells #[.int .i64 t112] 2 (0,0)) bk) (below_size bl))
    have n3_:=Aside0.mk (blk_below (g:=gb101) (o:=.cells #[.int .i64 a0_0,.slice A0_1 l0_1.length c0_1] 28 (0,0)) bk hb)
    have n4_:=Aside0.mk (blk_below (g:=gb102) (o:=.cells #[.int .i64 x103000_1,.slice none 0 0] 28 (0,0)) bk hb)
    have n5_:=Aside0.mk (blk_below (g:=gb108) (o:=.cells #[.int .i64 x109000_1,.slice Ao40 x109001_1.length co40] 28 (0,0)) bk hb)
    have n6_:=Aside0.mk (blk_below (g:=gb113) (o:=.cells #[.int .i64 t112] 2 (0,0)) bk hb)
    have n7_:=Aside0.mk (below_step bl hb)
    clear HO_109001
    clear HO111
    clear BK101
    clear BK102
    clear BK108
    clear BK113
    clear HB
    have HO_109001:=n0_
    have HO111:=n1_
    have HO118:=n2_
    have BK101:=n3_
    have BK102:=n4_
    have BK108:=n5_
    have BK113:=n6_
    have HB:=n7_
    clear n0_ n1_ n2_ n3_ n4_ n5_ n6_ n7_
    (try clear hb)
    (try clear hb2)
    (try clear hk)
    (try clear hi)
    (try clear ho0)
    obtain ⟨Ao52,co52,eo52⟩:=Kd.S_slice HO118.out
    (first|subst eo52|(injection eo52 with f1_ f2_ f3_;have f4_:=f1_.symm;have f5_:=f3_.symm;clear f1_ f2_ f3_;subst f4_;subst f5_))
    refine hK.out _ _ ⟨(blk_cell BK108.out 0).trans rfl,(blk_cell BK108.out 1).trans rfl,(blk_cell BK113.out 0).trans rfl⟩ (fun hHeld=>?_)
    clear hK K
    refine norm_ (a':=?_) ?_ ?_
    rotate_left;· show Act.put _ (some 25) _=_;simp only [Act.put,zI,zZ,zS,i64_w,i32_w];rfl
    refine one_ (i:=4) (N:=some 27) #[true,true,true,true,true,false] rfl rfl (by kernel_rfl) (by decide) (fun K hK=>?_)
    refine goes_ Try.func66 (by kernel_rfl) rfl #[.agg #[.int .i64 t115,.slice Ao52 t116.length co52],.int .i64 t112] (by rfl) rfl rfl gm ?_
    with_reducible refine (impl_Graph_withoutVertex.calls k1 t115 _ _ t116 t112 t119 t120 _ ?side1 ?side2 A36.out).mono ?_
    (case side1=>repeat (first|exact (Kd.S_reads' HO118.out).2.2|(with_reducible refine Kd.C_alloc ?_ _)|(with_reducible refine Kd.C_drewN ?_ _)|(with_reducible refine Kd.C_drew ?_)))
    (case side2=>exact (Kd.S_reads' HO118.out).2.1)
    rintro e w53 ⟨v121,rfl,ho0,hb⟩
    refine ⟨_,rfl,?_⟩
    have n0_:=Aside0.mk (Kd.S_elder' (by (with_reducible repeat (first|apply Kd.S_alloc|apply Kd.S_drewN|apply Kd.S_drew));exact HO_109001.out) (Kd.S_base ho0) hb)
    have n1_:=Aside0.mk (Kd.R_below (by (with_reducible repeat (first|apply Kd.R_alloc|apply Kd.R_drewN|apply Kd.R_drew));exact HO111.out) hb)
    have n2_:=Aside0.mk (Kd.S_elder' (by (with_reducible repeat (first|apply Kd.S_alloc|apply Kd.S_drewN|apply Kd.S_drew));exact HO118.out) (Kd.S_base ho0) hb)
    have n3_:=Aside0.mk (Kd.S_lower (Kd.S_newB (Kd.S_new' (Kd.S_new' (Kd.S_new' ho0 (Kd.S_lt (by (with_reducible repeat (first|apply Kd.S_alloc|apply Kd.S_drewN|apply Kd.S_drew));exact HO_109001.out))) (Kd.R_lt (by (with_reducible repeat (first|apply Kd.R_alloc|apply Kd.R_drewN|apply Kd.R_drew));exact HO111.out))) (Kd.S_lt (by (with_reducible repeat (first|apply Kd.S_alloc|apply Kd.S_drewN|apply Kd.S_drew));exact HO118.out))) (g:=gb113) (o:=.cells #[.int .i64 t112] 2 (0,0)) bk) (below_size bl))
    have n4_:=Aside0.mk (blk_below (g:=gb101) (o:=.cells #[.int .i64 a0_0,.slice A0_1 l0_1.length c0_1] 28 (0,0)) bk hb)
    have n5_:=Aside0.mk (blk_below (g:=gb102) (o:=.cells #[.int .i64 x103000_1,.slice none 0 0] 28 (0,0)) bk hb)
    have n6_:=Aside0.mk (blk_below (g:=gb108) (o:=.cells #[.int .i64 x109000_1,.slice Ao40 x109001_1.length co40] 28 (0,0)) bk hb)
    have n7_:=Aside0.mk (blk_below (g:=gb113) (o:=.cells #[.int .i64 t112] 2 (0,0)) bk hb)
    have n8_:=Aside0.mk (below_step bl hb)
    clear HO_109001
    clear HO111
    clear HO118
    clear BK101
    clear BK102
    clear BK108
    clear BK113
    clear HB
    have HO_109001:=n0_
    have HO111:=n1_
    have HO118:=n2_
    have HO122:=n3_
    have BK101:=n4_
    have BK102:=n5_
    have BK108:=n6_
    have BK113:=n7_
    have HB:=n8_
    clear n0_ n1_ n2_ n3_ n4_ n5_ n6_ n7_ n8_
    (try clear hb)
    (try clear hb2)
    (try clear hk)
    (try clear hi)
    (try clear ho0)
    obtain ⟨Ao55,co55,eo55⟩:=Kd.S_slice HO122.out
    (first|subst eo55|(injection eo55 with f1_ f2_ f3_;have f4_:=f1_.symm;have f5_:=f3_.symm;clear f1_ f2_ f3_;subst f4_;subst f5_))
    refine hK.out _ _ ⟨(blk_cell BK108.out 0).trans rfl,(blk_cell BK108.out 1).trans rfl,(blk_cell BK113.out 0).trans rfl⟩ (fun hHeld=>?_)
    clear hK K
    refine norm_ (a':=?_) ?_ ?_
    rotate_left;· show Act.put _ (some 27) _=_;simp only [Act.put,zI,zZ,zS,i64_w,i32_w];rfl
    refine last_ (i:=5) (N:=none) #[true,true,true,true,true,true] rfl rfl (by kernel_rfl) (by decide) (fun K hK=>?_)
    have hs54:w53.cell? ⟨gb108,0,none⟩=some (.int .i64 x109000_1):=(blk_cell BK108.out 0).trans rfl
    have hfs54:=blk_frozen BK108.out 0
    have hns54_0:=NB101_108.out
    have hns54_1:=NB102_108.out
    have hns54_3:=NB113_108.out
    have hms54_0:=NB108_101.out
    have hms54_1:=NB108_102.out
    have hms54_3:=NB108_113.out
    have hs56:w53.cell? ⟨gb108,1,none⟩=some (.slice Ao40 x109001_1.length co40):=(blk_cell BK108.out 1).trans rfl
    have hfs56:=blk_frozen BK108.out 1
    have hns56_0:=NB101_108.out
    have hns56_1:=NB102_108.out
    have hns56_3:=NB113_108.out
    have hms56_0:=NB108_101.out
    have hms56_1:=NB108_102.out
    have hms56_3:=NB108_113.out
    refine skip_ (w1:=?_) (by rfl) rfl ?_ ?_
    rotate_left;· go_simp;rfl
    refine hK.out _ _ ?_
    clear hK K
    refine done_ (by kernel_rfl) ?_
    try go_wp2
    go_roundg k1
    case measure=>have:=HK1.out;omega
    case rel=>exact ⟨(x103000_1),(t119),(t120),(.slice Ao55 t120.length co55),H',⟨by have:=HK1.out;omega⟩,⟨by (with_reducible repeat (first|apply Kd.S_alloc|apply Kd.S_drewN|apply Kd.S_drew));exact Kd.S_mono (Kd.S_far (p:=⟨gb108,1,none⟩) (Kd.S_far (p:=⟨gb108,0,none⟩) (Kd.S_types HO122.out BK108.out (by decide)) (fun _ hk=>hk.2) (.int .i64 t119)) (fun _ hk=>hk.2) (.slice Ao55 t120.length co55)) (fun _ hk=>trivial)⟩,⟨by (with_reducible repeat (first|refine blk_drewN ?_ _|refine blk_drew ?_|refine blk_alloc ?_ _));refine blk_far ?_ NB101_108.out _;(with_reducible repeat (first|refine blk_drewN ?_ _|refine blk_drew ?_|refine blk_alloc ?_ _));refine blk_far ?_ NB101_108.out _;(with_reducible repeat (first|refine blk_drewN ?_ _|refine blk_drew ?_|refine blk_alloc ?_ _));exact BK101.out⟩,⟨by (with_reducible repeat (first|refine blk_drewN ?_ _|refine blk_drew ?_|refine blk_alloc ?_ _));refine blk_far ?_ NB102_108.out _;(with_reducible repeat (first|refine blk_drewN ?_ _|refine blk_drew ?_|refine blk_alloc ?_ _));refine blk_far ?_ NB102_108.out _;(with_reducible repeat (first|refine blk_drewN ?_ _|refine blk_drew ?_|refine blk_alloc ?_ _));exact BK102.out⟩,⟨by (with_reducible repeat (first|refine blk_drewN ?_ _|refine blk_drew ?_|refine blk_alloc ?_ _));refine blk_put (cs:=#[.int .i64 t119,.slice Ao40 x109001_1.length co40]) ?_ 1 _ rfl;(with_reducible repeat (first|refine blk_drewN ?_ _|refine blk_drew ?_|refine blk_alloc ?_ _));refine blk_put (cs:=#[.int .i64 x109000_1,.slice Ao40 x109001_1.length co40]) ?_ 0 _ rfl;(with_reducible repeat (first|refine blk_drewN ?_ _|refine blk_drew ?_|refine blk_alloc ?_ _));exact BK108.out⟩,⟨bl⟩⟩
   rw [if_pos c19] at H
   have c19b0:decide (t112 < 0)=true:=decide_eq_true c19
   clear c19
   simp only [Option.some.injEq,Prod.mk.injEq] at H
   obtain ⟨rfl,rfl,rfl⟩:=H
   have hnb20:=NB108_101.out
   have hnc20:=NB101_108.out
   have hnb21:=NB108_102.out
   have hnc21:=NB102_108.out
   have hcz22_0:wr.cell? ⟨gb108,0,none⟩=some (.int .i64 x109000_1):=(blk_cell BK108.out 0).trans rfl
   have hcz22_1:wr.cell? ⟨gb108,1,none⟩=some (u109001):=(blk_cell BK108.out 1).trans rfl
   have hfz22_0:=blk_frozen BK108.out 0
   have hfz22_1:=blk_frozen BK108.out 1
   obtain ⟨Ao23,co23,eo23⟩:=Kd.S_slice HO_109001.out
   subst eo23
   go_wp2_with (first|((with_reducible refine gate_callee (f:=61) rfl ?_);refine goesL_ (some 14) rfl rfl Try.func61 (by kernel_rfl) rfl #[.agg #[.int .i64 x109000_1,.slice Ao23 x109001_1.length co23]] rfl gm ?_;(with_reducible refine (impl_Graph_degrees.calls k1 x109000_1 _ _ x109001_1 t109 _ ?side1 ?side2 A17.out).mono ?_);(case side1=>repeat (first|exact (Kd.S_reads' HO_109001.out).2.2|(with_reducible refine Kd.C_alloc ?_ _)|(with_reducible refine Kd.C_drewN ?_ _)|(with_reducible refine Kd.C_drew ?_)));(case side2=>exact (Kd.S_reads' HO_109001.out).2.1);rintro e w24 ⟨v110,rfl,ho0,hb⟩;refine ⟨_,rfl,?_⟩;have n0_:=Aside0.mk (Kd.S_elder' (by (with_reducible repeat (first|apply Kd.S_alloc|apply Kd.S_drewN|apply Kd.S_drew));exact HO_109001.out) (Kd.R_base ho0) hb);have n1_:=Aside0.mk (Kd.R_lower ho0 (below_size bl));have n2_:=Aside0.mk (blk_below (g:=gb101) (o:=.cells #[.int .i64 a0_0,.slice A0_1 l0_1.length c0_1] 28 (0,0)) bk hb);have n3_:=Aside0.mk (blk_below (g:=gb102) (o:=.cells #[.int .i64 x103000_1,.slice none 0 0] 28 (0,0)) bk hb);have n4_:=Aside0.mk (blk_below (g:=gb108) (o:=.cells #[.int .i64 x109000_1,.slice Ao23 x109001_1.length co23] 28 (0,0)) bk hb);have n5_:=Aside0.mk (below_step bl hb);clear HO_109001;clear BK101;clear BK102;clear BK108;clear HB;have HO_109001:=n0_;have HO111:=n1_;have BK101:=n2_;have BK102:=n3_;have BK108:=n4_;have HB:=n5_;clear n0_ n1_ n2_ n3_ n4_ n5_;(try clear hb);(try clear hb2);(try clear hk);(try clear hi);(try clear ho0);obtain ⟨Ao25,co25,eo25⟩:=Kd.R_slice HO111.out;subst eo25)|((with_reducible refine gate_callee (f:=60) rfl ?_);refine goesL_ (some 15) rfl rfl Try.func60 (by kernel_rfl) rfl #[.slice Ao25 t109.length co25,.int .i64 1] rfl gm ?_;(with_reducible refine (slices_Index_int64_int64.calls k1 _ _ t109 1 t112 _ ?side1 ?side2 A18.out).mono ?_);(case side1=>repeat (first|exact (Kd.R_reads' HO111.out).2.2|(with_reducible refine Kd.C_alloc ?_ _)|(with_reducible refine Kd.C_drewN ?_ _)|(with_reducible refine Kd.C_drew ?_)));(case side2=>exact (Kd.R_reads' HO111.out).2.1);rintro e w' ⟨rfl,⟨nd,rfl⟩⟩;refine ⟨_,rfl,?_⟩;(try (rw [drewN_self w24];generalize hq_:World.drewN w24 _=w24;have n0_:Aside0 (Kd.R (Kd.int .i64) 2 w24 w.heap.size (fun _=>True) (.slice Ao25 t109.length co25) t109):=⟨by rw [← hq_];exact (by (with_reducible repeat (first|apply Kd.R_alloc|apply Kd.R_drewN|apply Kd.R_drew));exact HO111.out)⟩;have n1_:Aside0 (Kd.S (Kd.slice 2 (Kd.int .i64)) 32 w24 w.heap.size (fun k_=>(True∧some k_ ≠ (.slice Ao25 t109.length co25:Value).ownBlock)) (.slice Ao23 x109001_1.length co23) x109001_1):=⟨by rw [← hq_];exact (by (with_reducible repeat (first|apply Kd.S_alloc|apply Kd.S_drewN|apply Kd.S_drew));exact HO_109001.out)⟩;have n2_:Aside0 (w24.heap[gb101]?=some (.cells #[.int .i64 a0_0,.slice A0_1 l0_1.length c0_1] 28 (0,0))):=⟨by rw [← hq_];exact bk⟩;have n3_:Aside0 (w24.heap[gb102]?=some (.cells #[.int .i64 x103000_1,.slice none 0 0] 28 (0,0))):=⟨by rw [← hq_];exact bk⟩;have n4_:Aside0 (w24.heap[gb108]?=some (.cells #[.int .i64 x109000_1,.slice Ao23 x109001_1.length co23] 28 (0,0))):=⟨by rw [← hq_];exact bk⟩;have n5_:Aside0 (Below w.heap.size w w24):=⟨by rw [← hq_];exact bl⟩;clear HO111 HO_109001 BK101 BK102 BK108 HB hq_;have HO111:=n0_;have HO_109001:=n1_;have BK101:=n2_;have BK102:=n3_;have BK108:=n4_;have HB:=n5_;clear n0_ n1_ n2_ n3_ n4_ n5_)))|((with_reducible refine gate_dst (N:=5) rfl ?_);refine box_event ?hg (N:=5) ?hd (cs:=#[.int .i64 0]) (t:=2) ?hr ?_;(case hd=>rfl);(case hg=>rfl);(case hr=>first|(go_simp;done)|(go_simp;rfl));intro gb113 hg w26 hbox hb;have n0_:=Aside0.mk (Kd.S_below (Kd.S_elderB (by (with_reducible repeat (first|apply Kd.S_alloc|apply Kd.S_drewN|apply Kd.S_drew));exact HO_109001.out) gb113 (Nat.le_of_eq hg.symm)) hb);have n1_:=Aside0.mk (Kd.R_below (Kd.R_elderB (by (with_reducible repeat (first|apply Kd.R_alloc|apply Kd.R_drewN|apply Kd.R_drew));exact HO111.out) gb113 (Nat.le_of_eq hg.symm)) hb);have n2_:=Aside0.mk (blk_below (g:=gb101) (o:=.cells #[.int .i64 a0_0,.slice A0_1 l0_1.length c0_1] 28 (0,0)) bk hb);have n3_:=Aside0.mk (blk_below (g:=gb102) (o:=.cells #[.int .i64 x103000_1,.slice none 0 0] 28 (0,0)) bk hb);have n4_:=Aside0.mk (blk_below (g:=gb108) (o:=.cells #[.int .i64 x109000_1,.slice Ao23 x109001_1.length co23] 28 (0,0)) bk hb);have n5_:=Aside0.mk (below_step bl hb);have n6_:=Aside0.mk (hbox);have n7_:=Aside0.mk ((by rw [hg];exact (below_size bl):w.heap.size≤gb113));have n8_:=Aside0.mk ((by rw [hg];exact (below_size bl):w.heap.size≤gb113));have n9_:=Aside0.mk ((by rw [hg];exact Nat.ne_of_lt (blk_lt (g:=gb101) (o:=.cells #[.int .i64 a0_0,.slice A0_1 l0_1.length c0_1] 28 (0,0)) bk):gb101 ≠ gb113));have n10_:=Aside0.mk ((by rw [hg];exact Nat.ne_of_gt (blk_lt (g:=gb101) (o:=.cells #[.int .i64 a0_0,.slice A0_1 l0_1.length c0_1] 28 (0,0)) bk):gb113 ≠ gb101));have n11_:=Aside0.mk ((by rw [hg];exact Nat.ne_of_lt (blk_lt (g:=gb102) (o:=.cells #[.int .i64 x103000_1,.slice none 0 0] 28 (0,0)) bk):gb102 ≠ gb113));have n12_:=Aside0.mk ((by rw [hg];exact Nat.ne_of_gt (blk_lt (g:=gb102) (o:=.cells #[.int .i64 x103000_1,.slice none 0 0] 28 (0,0)) bk):gb113 ≠ gb102));have n13_:=Aside0.mk ((by rw [hg];exact Nat.ne_of_lt (blk_lt (g:=gb108) (o:=.cells #[.int .i64 x109000_1,.slice Ao23 x109001_1.length co23] 28 (0,0)) bk):gb108 ≠ gb113));have n14_:=Aside0.mk ((by rw [hg];exact Nat.ne_of_gt (blk_lt (g:=gb108) (o:=.cells #[.int .i64 x109000_1,.slice Ao23 x109001_1.length co23] 28 (0,0)) bk):gb113 ≠ gb108));clear HO_109001;clear HO111;clear BK101;clear BK102;clear BK108;clear HB;have HO_109001:=n0_;have HO111:=n1_;have BK101:=n2_;have BK102:=n3_;have BK108:=n4_;have HB:=n5_;have BK113:=n6_;have GW113:=n7_;have GE113:=n8_;have NB101_113:=n9_;have NB113_101:=n10_;have NB102_113:=n11_;have NB113_102:=n12_;have NB108_113:=n13_;have NB113_108:=n14_;clear n0_ n1_ n2_ n3_ n4_ n5_ n6_ n7_ n8_ n9_ n10_ n11_ n12_ n13_ n14_;clear hb hbox hg;have hnb27:=NB113_101.out;have hnc27:=NB101_113.out;have hnb28:=NB113_102.out;have hnc28:=NB102_113.out;have hnb29:=NB113_108.out;have hnc29:=NB108_113.out;have hcz30_0:w26.cell? ⟨gb113,0,none⟩=some (.int .i64 0):=(blk_cell BK113.out 0).trans rfl;have hfz30_0:=blk_frozen BK113.out 0;have hcz31_0:w26.cell? ⟨gb108,0,none⟩=some (.int .i64 x109000_1):=(blk_cell BK108.out 0).trans rfl;have hcz31_1:w26.cell? ⟨gb108,1,none⟩=some (.slice Ao23 x109001_1.length co23):=(blk_cell BK108.out 1).trans rfl;have hfz31_0:=blk_frozen BK108.out 0;have hfz31_1:=blk_frozen BK108.out 1;have hnb32:=NB102_101.out;have hnc32:=NB101_102.out;have hcz33_0:w26.cell? ⟨gb102,0,none⟩=some (.int .i64 x103000_1):=(blk_cell BK102.out 0).trans rfl;have hcz33_1:w26.cell? ⟨gb102,1,none⟩=some (.slice none 0 0):=(blk_cell BK102.out 1).trans rfl;have hfz33_0:=blk_frozen BK102.out 0;have hfz33_1:=blk_frozen BK102.out 1))
   refine bodyPost_ret (results_ct rfl _ _ gb102 28 #[.int .i64 x109000_1,.slice Ao23 x109001_1.length co23] (0,0) _ rfl (by (with_reducible repeat (first|refine blk_drewN ?_ _|refine blk_drew ?_|refine blk_alloc ?_ _));refine blk_put (cs:=#[.int .i64 x109000_1,.slice none 0 0]) ?_ 1 _ rfl;(with_reducible repeat (first|refine blk_drewN ?_ _|refine blk_drew ?_|refine blk_alloc ?_ _));refine blk_put (cs:=#[.int .i64 x103000_1,.slice none 0 0]) ?_ 0 _ rfl;(with_reducible repeat (first|refine blk_drewN ?_ _|refine blk_drew ?_|refine blk_alloc ?_ _));refine blk_far ?_ NB102_113.out _;(with_reducible repeat (first|refine blk_drewN ?_ _|refine blk_drew ?_|refine blk_alloc ?_ _));exact BK102.out) Try.underlying28 rfl (by kernel_rfl)) rfl ?_
   exact ⟨_,by first|rfl|(simp [errW_none,errW_some]<;>rfl)|(simp [*,errW_none,errW_some]<;>rfl),by (with_reducible repeat (first|apply Kd.S_alloc|apply Kd.S_drewN|apply Kd.S_drew));exact Kd.S_mono (Kd.S_far (p:=⟨gb102,1,none⟩) (Kd.S_far (p:=⟨gb102,0,none⟩) (Kd.S_far (p:=⟨gb113,0,none⟩) (Kd.S_types (Kd.S_mono HO_109001.out (fun k_ hk=>(⟨hk,hk.2⟩:_∧k_ ≠ gb113))) BK102.out (by decide)) (fun _ hk=>hk.1.2) (.int .i64 t112)) (fun _ hk=>hk.2) (.int .i64 x109000_1)) (fun _ hk=>hk.2) (.slice Ao23 x109001_1.length co23)) (fun _ hk=>trivial),bl⟩
end Go.Proofs.Ytjgdibhalmcigaa.D
/- Set with little white space, by a program. -/
