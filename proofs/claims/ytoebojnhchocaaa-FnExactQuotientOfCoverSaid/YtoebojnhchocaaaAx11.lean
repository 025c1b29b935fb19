/- The functions that one law reaches, each as a Lean function, and that Go's call comes to what it says. Condition of each: that the Lean function answers (is not none). -/
import Derived.Test.YtoebojnhchocaaaAx0
import Derived.Test.YtoebojnhchocaaaAx9
import Derived.Test.YtoebojnhchocaaaAx10
namespace Go.Proofs.Ytoebojnhchocaaa.A
open Go.RowKit Go.Proofs.YtoebojnhchocaaaW.PrintWords Go.Proofs.YtoebojnhchocaaaW.PrintLast Go.Proofs.YtoebojnhchocaaaW.PrintMore
attribute [local go_sem] max2_int min2_int max_two min_two max_three min_three max_four min_four   -- for this text's walks alone
set_option linter.unusedVariables false
set_option linter.unusedSimpArgs false
/-! ### F162: function 162 -/
mutual
def F162.l0 : Nat → List (List Int) → Int → Int → Int → List (List Int) → Int → List (List Int) → Int → List (List Int) → Option (Int × (List (List Int)))
 | 0,_,_,_,_,_,_,_,_,_=>none
 | k+1,x16,x17,x18,x102000,x102001,x102002,x102003,x104000,x104001=>if x18 < x17 then (if 0≤x18 then (if x18 < (x16.length:Int) then (F162.l1 k x18 (rd_L1 x16 x18) x16 x17 x18 x102002 0 x102000 x102001 x102002 x102003 x104000 x104001) else (none)) else (none)) else (some (x104000,x104001))
def F162.l1 : Nat → Int → List Int → List (List Int) → Int → Int → Int → Int → Int → List (List Int) → Int → List (List Int) → Int → List (List Int) → Option (Int × (List (List Int)))
 | 0,_,_,_,_,_,_,_,_,_,_,_,_,_=>none
 | k+1,x4,x5,x16,x17,x18,x24,x25,x102000,x102001,x102002,x102003,x104000,x104001=>if x25 < x24 then (if 0 < (x5.length:Int) then (if 1 < (x5.length:Int) then (if 0≤x4 then (if x4 < (x102003.length:Int) then (if 0≤x25 then (if x25 < ((rd_L1 x102003 x4).length:Int) then (if x104001.length < 5864062014805 then (F162.l1 k x4 x5 x16 x17 x18 x24 (wrap64 (x25+1)) x102000 x102001 x102002 x102003 x104000 (x104001 ++ [(([wrap64 ((wrap64 ((rd x5 0) * x102002))+x25),wrap64 ((wrap64 ((rd x5 1) * x102002))+(rd (rd_L1 x102003 x4) x25))]:List Int))])) else (none)) else (none)) else (none)) else (none)) else (none)) else (none)) else (none)) else (F162.l0 k x16 x17 (wrap64 (x18+1)) x102000 x102001 x102002 x102003 x104000 x104001)
end
def F162.f (k:Nat) (a0_0:Int) (l0_1:List (List Int)) (a0_2:Int) (l0_3:List (List Int)):Option (Int × (List (List Int))):=F162.l0 k l0_1 (l0_1.length:Int) 0 a0_0 l0_1 a0_2 l0_3 (wrap64 (a0_0 * a0_2)) ([]:List (List Int))
theorem F162.mono_l : ∀ k, (∀ y0 y1 y2 y3 y4 y5 y6 y7 y8, LeO (F162.l0 k y0 y1 y2 y3 y4 y5 y6 y7 y8) (F162.l0 (k + 1) y0 y1 y2 y3 y4 y5 y6 y7 y8)) ∧ (∀ y0 y1 y2 y3 y4 y5 y6 y7 y8 y9 y10 y11 y12, LeO (F162.l1 k y0 y1 y2 y3 y4 y5 y6 y7 y8 y9 y10 y11 y12) (F162.l1 (k + 1) y0 y1 y2 y3 y4 y5 y6 y7 y8 y9 y10 y11 y12))
 | 0=>⟨fun _ _ _ _ _ _ _ _ _ r h=>by simp [F162.l0] at h,fun _ _ _ _ _ _ _ _ _ _ _ _ _ r h=>by simp [F162.l1] at h⟩
 | k+1=>by
  obtain ⟨ih0,ih1⟩:=F162.mono_l k
  refine ⟨?_, ?_⟩ <;> intros <;> (first | unfold F162.l0 | unfold F162.l1) <;> repeat' first
   | (with_reducible first|exact ih0 _ _ _ _ _ _ _ _ _|exact ih1 _ _ _ _ _ _ _ _ _ _ _ _ _|exact LeO.refl _|exact LeO.none _|refine LeO.ite ?_ ?_|refine LeO.bind ?_ (fun _=>?_))
   | exact ih0 _ _ _ _ _ _ _ _ _|exact ih1 _ _ _ _ _ _ _ _ _ _ _ _ _|exact LeO.none _|refine LeO.ite ?_ ?_|refine LeO.bind ?_ (fun _=>?_)
theorem F162.mono:∀ a0 a1 a2 a3 k,LeO (F162.f k a0 a1 a2 a3) (F162.f (k+1) a0 a1 a2 a3):=by
 intro a0 a1 a2 a3 k
 obtain ⟨ih0,ih1⟩:=F162.mono_l k
 unfold F162.f
 repeat' first
  | (with_reducible first|exact ih0 _ _ _ _ _ _ _ _ _|exact ih1 _ _ _ _ _ _ _ _ _ _ _ _ _|exact LeO.refl _|exact LeO.none _|refine LeO.ite ?_ ?_|refine LeO.bind ?_ (fun _=>?_))
  | exact ih0 _ _ _ _ _ _ _ _ _|exact ih1 _ _ _ _ _ _ _ _ _ _ _ _ _|exact LeO.none _|refine LeO.ite ?_ ?_|refine LeO.bind ?_ (fun _=>?_)
def F162.T8:Bool × List (List Nat × List Nat):=(true,[([],[]),([0],[0]),([],[]),([2],[2]),([3],[3]),([],[]),([5],[5]),([4,6],[4,6]),([],[]),([7,8],[7,8]),([],[]),([10],[10]),([11],[11]),([],[]),([13],[13]),([12,14],[12,14]),([],[]),([16],[16]),([],[]),([17,18],[17,18]),([19],[19]),([],[]),([20,21],[20,21]),([22],[22]),([15,23],[15,23]),([9,24],[9,24]),([25],[25]),([1,26],[1,26]),([0,1,2,3,4,5,6,7,8,9,10,11,12,13,14,15,16,17,18,19,20,21,22,23,24,25,26,27],[]),([28,27,27,0,1,2,3,4,5,6,7,8,9,10,11,12,13,14,15,16,17,18,19,20,21,22,23,24,25,26,27],[27,28])])
def F162.B8:List Nat:=[0,1,0,4,12,0,32,124,0,508,0,1024,3072,0,8192,31744,0,65536,0,458752,983040,0,4128768,8323072,16776192,33554428,67108860,134217727,268435455,536870911]
theorem F162.tab8:rtab .any (opsOf Try.f162 8)=F162.T8:=by kernel_rfl
theorem F162.bits8:waitsOk F162.T8.2 F162.B8=true:=by kernel_rfl
set_option maxHeartbeats 8000000 in
set_option maxRecDepth 100000 in
theorem F162.calls (k : Nat) (a0_0 : Int) (A0_1 : Option Addr) (c0_1 : Nat) (l0_1 : List (List Int)) (a0_2 : Int) (A0_3 : Option Addr) (c0_3 : Nat) (l0_3 : List (List Int)) (r1 : Int) (r2 : List (List Int)) (w : World) (hr0_1 : Kd.C (Kd.slice 2 (Kd.int .i64)) w A0_1 l0_1.length l0_1) (hc0_1 : l0_1.length ≤ c0_1) (hr0_3 : Kd.C (Kd.slice 2 (Kd.int .i64)) w A0_3 l0_3.length l0_3) (hc0_3 : l0_3.length ≤ c0_3) (h : F162.f k a0_0 l0_1 a0_2 l0_3 = some (r1, r2)) :
  Calls Try.prog 162 #[.agg #[.int .i64 a0_0,.slice A0_1 l0_1.length c0_1,.int .i64 a0_2,.slice A0_3 l0_3.length c0_3]] w fun e w'=>∃ v1_:Value,e=.returned (.agg #[.int .i64 r1,v1_])∧Kd.S (Kd.slice 2 (Kd.int .i64)) 28 w' w.heap.size (fun _=>True) v1_ r2∧Below w.heap.size w w':=by
 have hu33:=Try.underlying33
 have hu31:=Try.underlying31
 have HR0_1:=Aside0.mk hr0_1
 have HC0_1:=Aside0.mk hc0_1
 clear hr0_1 hc0_1
 have HR0_3:=Aside0.mk hr0_3
 have HC0_3:=Aside0.mk hc0_3
 clear hr0_3 hc0_3
 have HB:=Aside0.mk (Below.refl w.heap.size w)
 have H:(F162.l0 k l0_1 (l0_1.length:Int) 0 a0_0 l0_1 a0_2 l0_3 (wrap64 (a0_0 * a0_2)) ([]:List (List Int)))=some (r1,r2):=h
 clear h
 have H':=Aside0.mk H
 clear H
 go_enter Try.func162,Try.ntmps162
 go_wp2_with (first|((with_reducible refine gate_dst (N:=1) rfl ?_);refine box_event ?hg (N:=1) ?hd (cs:=#[.int .i64 a0_0,.slice A0_1 l0_1.length c0_1,.int .i64 a0_2,.slice A0_3 l0_3.length c0_3]) (t:=33) ?hr ?_;(case hd=>rfl);(case hg=>rfl);(case hr=>first|(go_simp;done)|(go_simp;rfl));intro gb101 hg w2 hbox hb;have BK101:=Aside0.mk (hbox);have GW101:=Aside0.mk ((by rw [hg];exact (below_size bl):w.heap.size≤gb101));have GE101:=Aside0.mk ((by rw [hg];exact (below_size bl):w.heap.size≤gb101));replace HB:=Aside0.mk (below_step bl hb);clear hb hbox hg)|((with_reducible refine gate_dst (N:=2) rfl ?_);refine box_event ?hg (N:=2) ?hd (cs:=#[.int .i64 0,.slice none 0 0]) (t:=31) ?hr ?_;(case hd=>rfl);(case hg=>rfl);(case hr=>first|(go_simp;done)|(go_simp;rfl));intro gb102 hg w3 hbox hb;have BK102:=Aside0.mk (hbox);have GW102:=Aside0.mk ((by rw [hg];exact (below_size bl):w.heap.size≤gb102));have GE102:=Aside0.mk ((by rw [hg];exact (below_size bl):w.heap.size≤gb102));replace HB:=Aside0.mk (below_step bl hb);have NB101_102:=Aside0.mk ((by rw [hg];exact Nat.ne_of_lt (blk_lt (g:=gb101) (o:=.cells #[.int .i64 a0_0,.slice A0_1 l0_1.length c0_1,.int .i64 a0_2,.slice A0_3 l0_3.length c0_3] 33 (0,0)) bk):gb101 ≠ gb102));have NB102_101:=Aside0.mk ((by rw [hg];exact Nat.ne_of_gt (blk_lt (g:=gb101) (o:=.cells #[.int .i64 a0_0,.slice A0_1 l0_1.length c0_1,.int .i64 a0_2,.slice A0_3 l0_3.length c0_3] 33 (0,0)) bk):gb102 ≠ gb101));replace BK101:=Aside0.mk (blk_below (g:=gb101) (o:=.cells #[.int .i64 a0_0,.slice A0_1 l0_1.length c0_1,.int .i64 a0_2,.slice A0_3 l0_3.length c0_3] 33 (0,0)) bk hb);clear hb hbox hg;have hnb4:=NB101_102.out;have hnc4:=NB102_101.out;have hcz5_0:w3.cell? ⟨gb101,0,none⟩=some (.int .i64 a0_0):=(blk_cell BK101.out 0).trans rfl;have hcz5_1:w3.cell? ⟨gb101,1,none⟩=some (.slice A0_1 l0_1.length c0_1):=(blk_cell BK101.out 1).trans rfl;have hcz5_2:w3.cell? ⟨gb101,2,none⟩=some (.int .i64 a0_2):=(blk_cell BK101.out 2).trans rfl;have hcz5_3:w3.cell? ⟨gb101,3,none⟩=some (.slice A0_3 l0_3.length c0_3):=(blk_cell BK101.out 3).trans rfl;have hfz5_0:=blk_frozen BK101.out 0;have hfz5_1:=blk_frozen BK101.out 1;have hfz5_2:=blk_frozen BK101.out 2;have hfz5_3:=blk_frozen BK101.out 3)|((with_reducible refine gate_dst (N:=3) rfl ?_);refine box_event ?hg (N:=3) ?hd (cs:=#[.int .i64 0,.slice none 0 0]) (t:=31) ?hr ?_;(case hd=>rfl);(case hg=>rfl);(case hr=>first|(go_simp;done)|(go_simp;rfl));intro gb103 hg w6 hbox hb;have n0_:=Aside0.mk (blk_below (g:=gb101) (o:=.cells #[.int .i64 a0_0,.slice A0_1 l0_1.length c0_1,.int .i64 a0_2,.slice A0_3 l0_3.length c0_3] 33 (0,0)) bk hb);have n1_:=Aside0.mk (blk_below (g:=gb102) (o:=.cells #[.int .i64 0,.slice none 0 0] 31 (0,0)) bk hb);have n2_:=Aside0.mk (below_step bl hb);have n3_:=Aside0.mk (hbox);have n4_:=Aside0.mk ((by rw [hg];exact (below_size bl):w.heap.size≤gb103));have n5_:=Aside0.mk ((by rw [hg];exact (below_size bl):w.heap.size≤gb103));have n6_:=Aside0.mk ((by rw [hg];exact Nat.ne_of_lt (blk_lt (g:=gb101) (o:=.cells #[.int .i64 a0_0,.slice A0_1 l0_1.length c0_1,.int .i64 a0_2,.slice A0_3 l0_3.length c0_3] 33 (0,0)) bk):gb101 ≠ gb103));have n7_:=Aside0.mk ((by rw [hg];exact Nat.ne_of_gt (blk_lt (g:=gb101) (o:=.cells #[.int .i64 a0_0,.slice A0_1 l0_1.length c0_1,.int .i64 a0_2,.slice A0_3 l0_3.length c0_3] 33 (0,0)) bk):gb103 ≠ gb101));have n8_:=Aside0.mk ((by rw [hg];exact Nat.ne_of_lt (blk_lt (g:=gb102) (o:=.cells #[.int .i64 0,.slice none 0 0] 31 (0,0)) bk):gb102 ≠ gb103));have n9_:=Aside0.mk ((by rw [hg];exact Nat.ne_of_gt (blk_lt (g:=gb102) (o:=.cells #[.int .i64 0,.slice none 0 0] 31 (0,0)) bk):gb103 ≠ gb102));clear BK101;clear BK102;clear HB;have BK101:=n0_;have BK102:=n1_;have HB:=n2_;have BK103:=n3_;have GW103:=n4_;have GE103:=n5_;have NB101_103:=n6_;have NB103_101:=n7_;have NB102_103:=n8_;have NB103_102:=n9_;clear n0_ n1_ n2_ n3_ n4_ n5_ n6_ n7_ n8_ n9_;clear hb hbox hg;have hnb7:=NB103_101.out;have hnc7:=NB101_103.out;have hnb8:=NB103_102.out;have hnc8:=NB102_103.out;have hcz9_0:w6.cell? ⟨gb103,0,none⟩=some (.int .i64 0):=(blk_cell BK103.out 0).trans rfl;have hcz9_1:w6.cell? ⟨gb103,1,none⟩=some (.slice none 0 0):=(blk_cell BK103.out 1).trans rfl;have hfz9_0:=blk_frozen BK103.out 0;have hfz9_1:=blk_frozen BK103.out 1;have hcz10_0:w6.cell? ⟨gb101,0,none⟩=some (.int .i64 a0_0):=(blk_cell BK101.out 0).trans rfl;have hcz10_1:w6.cell? ⟨gb101,1,none⟩=some (.slice A0_1 l0_1.length c0_1):=(blk_cell BK101.out 1).trans rfl;have hcz10_2:w6.cell? ⟨gb101,2,none⟩=some (.int .i64 a0_2):=(blk_cell BK101.out 2).trans rfl;have hcz10_3:w6.cell? ⟨gb101,3,none⟩=some (.slice A0_3 l0_3.length c0_3):=(blk_cell BK101.out 3).trans rfl;have hfz10_0:=blk_frozen BK101.out 0;have hfz10_1:=blk_frozen BK101.out 1;have hfz10_2:=blk_frozen BK101.out 2;have hfz10_3:=blk_frozen BK101.out 3))
 go_loopg [18] k (fun kq v18 w'=>∃ (x18_1:Int) (x104001_1:List (List Int)) (u104001:Value),v18=.int .i64 x18_1∧Aside0 (F162.l0 kq l0_1 (l0_1.length:Int) x18_1 a0_0 l0_1 a0_2 l0_3 (wrap64 (a0_0 * a0_2)) x104001_1=some (r1,r2))∧Aside0 (kq≤k)∧Aside0 (Kd.S (Kd.slice 2 (Kd.int .i64)) 28 w' w.heap.size (fun _=>True) u104001 x104001_1)∧Aside0 (w'.heap[gb101]?=some (.cells #[.int .i64 a0_0,(.slice A0_1 l0_1.length c0_1),.int .i64 a0_2,(.slice A0_3 l0_3.length c0_3)] 33 (0,0)))∧Aside0 (w'.heap[gb102]?=some (.cells #[.int .i64 0,(.slice none 0 0)] 31 (0,0)))∧Aside0 (w'.heap[gb103]?=some (.cells #[.int .i64 (wrap64 (a0_0 * a0_2)),u104001] 31 (0,0)))∧Aside0 (Below w.heap.size w w'))
 case atStart=>exact ⟨(0),(([]:List (List Int))),(.slice none 0 0),rs,H',⟨Nat.le_refl _⟩,⟨by first|exact Kd.S_nil _ _ _ _ _|exact Kd.N_nil _ _ _ _ _|exact Kd.V_nil _ _ _ _ _|exact Kd.Q_nil _ _ _ _ _|exact Kd.R_nil _ _ _ _ _⟩,⟨by (with_reducible repeat (first|refine blk_drewN ?_ _|refine blk_drew ?_|refine blk_alloc ?_ _));refine blk_far ?_ NB101_103.out _;(with_reducible repeat (first|refine blk_drewN ?_ _|refine blk_drew ?_|refine blk_alloc ?_ _));refine blk_far ?_ NB101_103.out _;(with_reducible repeat (first|refine blk_drewN ?_ _|refine blk_drew ?_|refine blk_alloc ?_ _));exact BK101.out⟩,⟨by (with_reducible repeat (first|refine blk_drewN ?_ _|refine blk_drew ?_|refine blk_alloc ?_ _));refine blk_far ?_ NB102_103.out _;(with_reducible repeat (first|refine blk_drewN ?_ _|refine blk_drew ?_|refine blk_alloc ?_ _));refine blk_far ?_ NB102_103.out _;(with_reducible repeat (first|refine blk_drewN ?_ _|refine blk_drew ?_|refine blk_alloc ?_ _));exact BK102.out⟩,⟨by (with_reducible repeat (first|refine blk_drewN ?_ _|refine blk_drew ?_|refine blk_alloc ?_ _));refine blk_put (cs:=#[.int .i64 (wrap64 (a0_0 * a0_2)),.slice none 0 0]) ?_ 1 _ rfl;(with_reducible repeat (first|refine blk_drewN ?_ _|refine blk_drew ?_|refine blk_alloc ?_ _));refine blk_put (cs:=#[.int .i64 0,.slice none 0 0]) ?_ 0 _ rfl;(with_reducible repeat (first|refine blk_drewN ?_ _|refine blk_drew ?_|refine blk_alloc ?_ _));exact BK103.out⟩,⟨bl⟩⟩
 case round =>
  clear H'
  (try clear c1);(try clear p2);(try clear c4);(try clear p6);(try clear c7);(try clear c8);(try clear hcz10_0);(try clear hcz10_1);(try clear hcz10_2);(try clear hcz10_3);(try clear hcz5_0);(try clear hcz5_1);(try clear hcz5_2);(try clear hcz5_3);(try clear hcz9_0);(try clear hcz9_1);(try clear hfz10_0);(try clear hfz10_1);(try clear hfz10_2);(try clear hfz10_3);(try clear hfz5_0);(try clear hfz5_1);(try clear hfz5_2);(try clear hfz5_3);(try clear hfz9_0);(try clear hfz9_1)
  obtain ⟨x18_1,x104001_1,u104001,rfl,HA,HK1,HO_104001,BK101,BK102,BK103,HB⟩:=hrel
  cases gk with
  | zero=>exact absurd HA.out (by simp [F162.l0])
  | succ k1 =>
   have H:=HA.out
   clear HA
   simp only [F162.l0] at H
   by_cases c11:x18_1 < (l0_1.length:Int)
   case neg =>
    rw [if_neg c11] at H
    have c11b0:decide (x18_1 < (l0_1.length:Int))=false:=decide_eq_false c11
    clear c11
    simp only [Option.some.injEq,Prod.mk.injEq] at H
    obtain ⟨rfl,rfl⟩:=H
    have hnb32:=NB103_101.out
    have hnc32:=NB101_103.out
    have hnb33:=NB103_102.out
    have hnc33:=NB102_103.out
    have hcz34_0:wr.cell? ⟨gb103,0,none⟩=some (.int .i64 (wrap64 (a0_0 * a0_2))):=(blk_cell BK103.out 0).trans rfl
    have hcz34_1:wr.cell? ⟨gb103,1,none⟩=some (u104001):=(blk_cell BK103.out 1).trans rfl
    have hfz34_0:=blk_frozen BK103.out 0
    have hfz34_1:=blk_frozen BK103.out 1
    have hnb35:=NB102_101.out
    have hnc35:=NB101_102.out
    have hcz36_0:wr.cell? ⟨gb102,0,none⟩=some (.int .i64 0):=(blk_cell BK102.out 0).trans rfl
    have hcz36_1:wr.cell? ⟨gb102,1,none⟩=some (.slice none 0 0):=(blk_cell BK102.out 1).trans rfl
    have hfz36_0:=blk_frozen BK102.out 0
    have hfz36_1:=blk_frozen BK102.out 1
    obtain ⟨Ao37,co37,eo37⟩:=Kd.S_slice HO_104001.out
    subst eo37
    go_wp2
    refine bodyPost_ret (results_cell_row rfl _ _ gb102 31 #[.int .i64 (wrap64 (a0_0 * a0_2)),.slice Ao37 x104001_1.length co37] (0,0) _ rfl (by (with_reducible repeat (first|refine blk_drewN ?_ _|refine blk_drew ?_|refine blk_alloc ?_ _));refine blk_put (cs:=#[.int .i64 (wrap64 (a0_0 * a0_2)),.slice none 0 0]) ?_ 1 _ rfl;(with_reducible repeat (first|refine blk_drewN ?_ _|refine blk_drew ?_|refine blk_alloc ?_ _));refine blk_put (cs:=#[.int .i64 0,.slice none 0 0]) ?_ 0 _ rfl;(with_reducible repeat (first|refine blk_drewN ?_ _|refine blk_drew ?_|refine blk_alloc ?_ _));exact BK102.out) Try.underlying31 rfl (by kernel_rfl)) rfl ?_
    exact ⟨_,by first|rfl|(simp [errW_none,errW_some]<;>rfl)|(simp [*,errW_none,errW_some]<;>rfl),by (with_reducible repeat (first|apply Kd.S_alloc|apply Kd.S_drewN|apply Kd.S_drew));exact Kd.S_mono (Kd.S_far (p:=⟨gb102,1,none⟩) (Kd.S_far (p:=⟨gb102,0,none⟩) (Kd.S_types HO_104001.out BK102.out (by decide)) (fun _ hk=>hk.2) (.int .i64 (wrap64 (a0_0 * a0_2)))) (fun _ hk=>hk.2) (.slice Ao37 x104001_1.length co37)) (fun _ hk=>trivial),bl⟩
   rw [if_pos c11] at H
   have c11b0:=decide_eq_true c11
   clear c11
   replace H:=iS H;obtain ⟨c12,H⟩:=H
   have c12b0:=decide_eq_true c12
   clear c12
   replace H:=iS H;obtain ⟨c13,H⟩:=H
   have c13b0:=decide_eq_true c13
   clear c13
   have H':=Aside0.mk H
   clear H
   have p104:0≤(x18_1:Int):=oD
   have q104:x18_1 < (l0_1.length:Int):=oD
   obtain ⟨ad104,A104_0,c104_0,e104,hx104_0,hl104_0,hi104_0⟩:=at_L1 HR0_1.out x18_1 p104 q104
   cases e104
   replace hx104_0:=hbc HB hx104_0
   have HR104_0:=Aside0.mk hi104_0
   have HC104_0:=Aside0.mk hl104_0
   clear hi104_0 hl104_0
   replace p104:=eq_true p104
   replace q104:=eq_true q104
   have hnb14:=NB101_102.out
   have hnc14:=NB102_101.out
   have hnb15:=NB101_103.out
   have hnc15:=NB103_101.out
   have hcz16_0:wr.cell? ⟨gb101,0,none⟩=some (.int .i64 a0_0):=(blk_cell BK101.out 0).trans rfl
   have hcz16_1:wr.cell? ⟨gb101,1,none⟩=some (.slice (some ad104) l0_1.length c0_1):=(blk_cell BK101.out 1).trans rfl
   have hcz16_2:wr.cell? ⟨gb101,2,none⟩=some (.int .i64 a0_2):=(blk_cell BK101.out 2).trans rfl
   have hcz16_3:wr.cell? ⟨gb101,3,none⟩=some (.slice A0_3 l0_3.length c0_3):=(blk_cell BK101.out 3).trans rfl
   have hfz16_0:=blk_frozen BK101.out 0
   have hfz16_1:=blk_frozen BK101.out 1
   have hfz16_2:=blk_frozen BK101.out 2
   have hfz16_3:=blk_frozen BK101.out 3
   go_wp2
   go_loopg [25] k1 (fun kq v25 w'=>∃ (x25_2:Int) (x104001_2:List (List Int)) (u104001:Value),v25=.int .i64 x25_2∧Aside0 (F162.l1 kq x18_1 (rd_L1 l0_1 x18_1) l0_1 (l0_1.length:Int) x18_1 a0_2 x25_2 a0_0 l0_1 a0_2 l0_3 (wrap64 (a0_0 * a0_2)) x104001_2=some (r1,r2))∧Aside0 (kq≤k1)∧Aside0 (Kd.S (Kd.slice 2 (Kd.int .i64)) 28 w' w.heap.size (fun _=>True) u104001 x104001_2)∧Aside0 (w'.heap[gb101]?=some (.cells #[.int .i64 a0_0,(.slice (some ad104) l0_1.length c0_1),.int .i64 a0_2,(.slice A0_3 l0_3.length c0_3)] 33 (0,0)))∧Aside0 (w'.heap[gb102]?=some (.cells #[.int .i64 0,(.slice none 0 0)] 31 (0,0)))∧Aside0 (w'.heap[gb103]?=some (.cells #[.int .i64 (wrap64 (a0_0 * a0_2)),u104001] 31 (0,0)))∧Aside0 (Below w.heap.size w w'))
   case atStart=>exact ⟨(0),(x104001_1),(u104001),rs,H',⟨Nat.le_refl _⟩,⟨by (with_reducible repeat (first|apply Kd.S_alloc|apply Kd.S_drewN|apply Kd.S_drew));exact HO_104001.out⟩,⟨bk⟩,⟨bk⟩,⟨bk⟩,⟨bl⟩⟩
   case round =>
    clear H'
    (try clear c1);(try clear p1);(try clear q1);(try clear hx1);(try clear p2);(try clear c4);(try clear p6);(try clear c7);(try clear c8);(try clear c10);(try clear p10);(try clear q10);(try clear hx10);(try clear c11);(try clear c11b0);(try clear c12);(try clear c12b0);(try clear c13);(try clear c13b0);(try clear c14);(try clear c15);(try clear c16);(try clear hcz10_0);(try clear hcz10_1);(try clear hcz10_2);(try clear hcz10_3);(try clear hcz16_0);(try clear hcz16_1);(try clear hcz16_2);(try clear hcz16_3);(try clear hcz5_0);(try clear hcz5_1);(try clear hcz5_2);(try clear hcz5_3);(try clear hcz9_0);(try clear hcz9_1);(try clear hfz10_0);(try clear hfz10_1);(try clear hfz10_2);(try clear hfz10_3);(try clear hfz16_0);(try clear hfz16_1);(try clear hfz16_2);(try clear hfz16_3);(try clear hfz5_0);(try clear hfz5_1);(try clear hfz5_2);(try clear hfz5_3);(try clear hfz9_0);(try clear hfz9_1);(try clear hx104_0);(try clear p104);(try clear p2);(try clear p6);(try clear q104)
    obtain ⟨x25_2,x104001_2,u104001,rfl,HA,HK2,HO_104001,BK101,BK102,BK103,HB⟩:=hrel
    cases gk with
    | zero=>exact absurd HA.out (by simp [F162.l1])
    | succ k2 =>
     have H:=HA.out
     clear HA
     simp only [F162.l1] at H
     by_cases c17:x25_2 < a0_2
     case neg =>
      rw [if_neg c17] at H
      have c17b0:decide (x25_2 < a0_2)=false:=decide_eq_false c17
      clear c17
      have H':=Aside0.mk H
      clear H
      go_wp2
      go_roundg k2
      case measure=>have:=HK1.out;have:=HK2.out;omega
      case rel=>exact ⟨(wrap64 (x18_1+1)),(x104001_2),(u104001),rs,H',⟨by have:=HK1.out;have:=HK2.out;omega⟩,⟨by (with_reducible repeat (first|apply Kd.S_alloc|apply Kd.S_drewN|apply Kd.S_drew));exact HO_104001.out⟩,⟨bk⟩,⟨bk⟩,⟨bk⟩,⟨bl⟩⟩
     rw [if_pos c17] at H
     have c17b0:=decide_eq_true c17
     clear c17
     replace H:=iS H;obtain ⟨c18,H⟩:=H
     have c18b0:=decide_eq_true c18
     have c18b1:decide (0 < (rd_L1 l0_1 x18_1).length)=true:=decide_eq_true (by omega)
     clear c18
     replace H:=iS H;obtain ⟨c19,H⟩:=H
     have c19b0:=decide_eq_true c19
     have c19b1:decide (1 < (rd_L1 l0_1 x18_1).length)=true:=decide_eq_true (by omega)
     clear c19
     replace H:=iS H;obtain ⟨c20,H⟩:=H
     have c20b0:=decide_eq_true c20
     clear c20
     replace H:=iS H;obtain ⟨c21,H⟩:=H
     have c21b0:=decide_eq_true c21
     clear c21
     replace H:=iS H;obtain ⟨c22,H⟩:=H
     have c22b0:=decide_eq_true c22
     clear c22
     replace H:=iS H;obtain ⟨c23,H⟩:=H
     have c23b0:=decide_eq_true c23
     clear c23
     obtain ⟨y109,hy109⟩:∃ y_:List Int,y_=(([wrap64 ((wrap64 ((rd (rd_L1 l0_1 x18_1) 0) * a0_2))+x25_2),wrap64 ((wrap64 ((rd (rd_L1 l0_1 x18_1) 1) * a0_2))+(rd (rd_L1 l0_3 x18_1) x25_2))]:List Int)):=⟨_,rfl⟩
     replace H:(if x104001_2.length < 5864062014805 then (F162.l1 k2 x18_1 (rd_L1 l0_1 x18_1) l0_1 (l0_1.length:Int) x18_1 a0_2 (wrap64 (x25_2+1)) a0_0 l0_1 a0_2 l0_3 (wrap64 (a0_0 * a0_2)) (x104001_2 ++ [y109])) else (none))=some (r1,r2):=by first|(rw [hy109];with_reducible exact H)|(have H2_:=(Option.bind_some _ _).symm.trans H;rw [hy109];with_reducible exact H2_)|(have H2_:=(Option.bind_some _ _).symm.trans H;with_reducible exact H2_)|with_reducible exact H|(rw [hy109];exact H)|exact H
     have Ny109:=Aside0.mk hy109
     clear hy109
     replace H:=iS H;obtain ⟨c24,H⟩:=H
     have LMc24:=Aside0.mk c24
     clear c24
     obtain ⟨y112,hy112⟩:∃ y_:List (List Int),y_=(x104001_2 ++ [y109]):=⟨_,rfl⟩
     replace H:(F162.l1 k2 x18_1 (rd_L1 l0_1 x18_1) l0_1 (l0_1.length:Int) x18_1 a0_2 (wrap64 (x25_2+1)) a0_0 l0_1 a0_2 l0_3 (wrap64 (a0_0 * a0_2)) y112)=some (r1,r2):=by first|(rw [hy112];with_reducible exact H)|(have H2_:=(Option.bind_some _ _).symm.trans H;rw [hy112];with_reducible exact H2_)|(have H2_:=(Option.bind_some _ _).symm.trans H;with_reducible exact H2_)|with_reducible exact H|(rw [hy112];exact H)|exact H
     have Ny112:=Aside0.mk hy112
     clear hy112
     have H':=Aside0.mk H
     clear H
     try go_wp2
     replace HO_104001:=Aside0.mk (Kd.S_drew HO_104001.out);replace BK101:=Aside0.mk (blk_drew BK101.out);replace BK102:=Aside0.mk (blk_drew BK102.out);replace BK103:=Aside0.mk (blk_drew BK103.out);replace HB:=Aside0.mk (below_drew1 HB.out)
     have p105:0≤(0:Int):=(by omega)
     have q105:0 < ((rd_L1 l0_1 x18_1).length:Int):=oD
     obtain ⟨ad105,e105,hx105_0⟩:=Kd.at_int HR104_0.out 0 p105 q105
     have hw105_0:=hx105_0
     (try rw [show ((0:Int)).toNat=0 from rfl] at hw105_0)
     (try rw [show 0 * 1=0 from rfl] at hw105_0)
     (try rw [Addr.add_zero'] at hw105_0)
     cases e105
     have qi105:(0 < (rd_L1 l0_1 x18_1).length)=True:=eq_true (by omega)
     (try rw [show ((0:Int)).toNat=0 from rfl] at hx105_0)
     (try rw [Addr.add_zero'] at hx105_0)
     replace hx105_0:=hbc HB hx105_0
     replace p105:=eq_true p105
     replace q105:=eq_true q105
     have p106:0≤(1:Int):=(by omega)
     have q106:1 < ((rd_L1 l0_1 x18_1).length:Int):=oD
     obtain ⟨ad106,e106,hx106_0⟩:=Kd.at_int HR104_0.out 1 p106 q106
     have hw106_0:=hx106_0
     (try rw [show ((1:Int)).toNat=1 from rfl] at hw106_0)
     (try rw [show 1 * 1=1 from rfl] at hw106_0)
     (try simp only [Nat.reduceMul,Nat.reduceEqDiff,Go.Addr.add,↓reduceIte] at hw106_0)
     obtain rfl:ad105=ad106:=(by injection e106)
     (try simp only [show (1:Int).toNat=1 from rfl,Nat.reduceMul,Nat.reduceEqDiff,Go.Addr.add,↓reduceIte] at hx106_0)
     have qi106:(1 < (rd_L1 l0_1 x18_1).length)=True:=eq_true (by omega)
     (try rw [show ((1:Int)).toNat=1 from rfl] at hx106_0)
     replace hx106_0:=hbc HB hx106_0
     replace p106:=eq_true p106
     replace q106:=eq_true q106
     have p107:0≤(x18_1:Int):=oD
     have q107:x18_1 < (l0_3.length:Int):=oD
     obtain ⟨ad107,A107_0,c107_0,e107,hx107_0,hl107_0,hi107_0⟩:=at_L1 HR0_3.out x18_1 p107 q107
     have hw107_0:=hx107_0
     cases e107
     replace hx107_0:=hbc HB hx107_0
     have HR107_0:=Aside0.mk hi107_0
     have HC107_0:=Aside0.mk hl107_0
     clear hi107_0 hl107_0
     replace p107:=eq_true p107
     replace q107:=eq_true q107
     have p108:0≤(x25_2:Int):=oD
     have q108:x25_2 < ((rd_L1 l0_3 x18_1).length:Int):=oD
     obtain ⟨ad108,e108,hx108_0⟩:=Kd.at_int HR107_0.out x25_2 p108 q108
     have hw108_0:=hx108_0
     cases e108
     replace hx108_0:=hbc HB hx108_0
     replace p108:=eq_true p108
     replace q108:=eq_true q108
     refine start_ (n:=30) (S:=fun w'=>w'.cell? ⟨gb103,0,none⟩=some (.int .i64 (wrap64 (a0_0 * a0_2)))∧w'.cell? ⟨gb103,1,none⟩=some (u104001)∧w'.cell? ⟨gb101,0,none⟩=some (.int .i64 a0_0)∧w'.cell? ⟨gb101,1,none⟩=some (.slice (some ad104) l0_1.length c0_1)∧w'.cell? ⟨gb101,2,none⟩=some (.int .i64 a0_2)∧w'.cell? ⟨gb101,3,none⟩=some (.slice (some ad107) l0_3.length c0_3)∧w'.cell? ad105=some (.int .i64 (rd (rd_L1 l0_1 x18_1) 0))∧w'.cell? ⟨ad105.block,ad105.off+1,none⟩=some (.int .i64 (rd (rd_L1 l0_1 x18_1) 1))∧w'.cell? (ad107.add (x18_1).toNat)=some (.slice (some ad108) (rd_L1 l0_3 x18_1).length c107_0)∧w'.cell? (ad108.add (x25_2).toNat)=some (.int .i64 (rd (rd_L1 l0_3 x18_1) x25_2))) (ds:=[29]) (ba 30 0) (by kernel_rfl) rfl rfl ⟨(blk_cell BK103.out 0).trans rfl,(blk_cell BK103.out 1).trans rfl,(blk_cell BK101.out 0).trans rfl,(blk_cell BK101.out 1).trans rfl,(blk_cell BK101.out 2).trans rfl,(blk_cell BK101.out 3).trans rfl,(hbc HB hw105_0),(hbc HB hw106_0),(hbc HB hw107_0),(hbc HB hw108_0)⟩ (fun hHeld=>?_);refine with_tabW F162.tab8 F162.bits8 (fun HT_ HW_=>?_)
     generalize wr.drew=w25 at HO_104001 BK101 BK102 BK103 HB HR107_0 hx105_0 hx106_0 hx107_0 hx108_0 hHeld ⊢
     refine pu 0 (some 28) (ba 30 1) HT_ (h:=?_)
     refine pu 2 (some 30) (ba 30 5) HT_ (h:=?_)
     refine pu 3 (some 31) (ba 30 13) HT_ (h:=?_)
     refine pu 5 (some 33) (ba 30 45) HT_ (h:=?_)
     refine pu 8 (some 36) (ba 30 301) HT_ (h:=?_)
     refine pu 10 (some 38) (ba 30 1325) HT_ (h:=?_)
     refine pu 11 (some 39) (ba 30 3373) HT_ (h:=?_)
     refine pu 13 (some 41) (ba 30 11565) HT_ (h:=?_)
     refine pu 16 (some 44) (ba 30 77101) HT_ (h:=?_)
     refine pu 18 (some 46) (ba 30 339245) HT_ (h:=?_)
     refine pu 21 (some 49) (ba 30 2436397) HT_ (h:=?_)
     refine ta 1 (some 29) (ba 30 2436399) HT_ HW_ hHeld (hy:=Or.inl ⟨by rfl,by rintro w' ⟨s0,s1,s2,s3,s4,s5,s6,s7,s8,s9⟩;go_simp;with_reducible rfl⟩) (h:=?_)
     refine ta 4 (some 32) (ba 30 2436415) HT_ HW_ hHeld (hy:=Or.inl ⟨by rfl,by rintro w' ⟨s0,s1,s2,s3,s4,s5,s6,s7,s8,s9⟩;go_simp;with_reducible rfl⟩) (h:=?_)
     refine ta 6 (some 34) (ba 30 2436479) HT_ HW_ hHeld (hy:=Or.inl ⟨by rfl,by rintro w' ⟨s0,s1,s2,s3,s4,s5,s6,s7,s8,s9⟩;go_simp;with_reducible rfl⟩) (h:=?_)
     refine pu 7 (some 35) (ba 30 2436607) HT_ (h:=?_)
     refine pu 9 (some 37) (ba 30 2437119) HT_ (h:=?_)
     refine ta 12 (some 40) (ba 30 2441215) HT_ HW_ hHeld (hy:=Or.inl ⟨by rfl,by rintro w' ⟨s0,s1,s2,s3,s4,s5,s6,s7,s8,s9⟩;go_simp;with_reducible rfl⟩) (h:=?_)
     refine ta 14 (some 42) (ba 30 2457599) HT_ HW_ hHeld (hy:=Or.inl ⟨by rfl,by rintro w' ⟨s0,s1,s2,s3,s4,s5,s6,s7,s8,s9⟩;go_simp;with_reducible rfl⟩) (h:=?_)
     refine pu 15 (some 43) (ba 30 2490367) HT_ (h:=?_)
     refine ta 17 (some 45) (ba 30 2621439) HT_ HW_ hHeld (hy:=Or.inl ⟨by rfl,by rintro w' ⟨s0,s1,s2,s3,s4,s5,s6,s7,s8,s9⟩;go_simp;with_reducible rfl⟩) (h:=?_)
     refine pu 19 (some 47) (ba 30 3145727) HT_ (h:=?_)
     refine ta 20 (some 48) (ba 30 4194303) HT_ HW_ hHeld (hy:=Or.inl ⟨by rfl,by rintro w' ⟨s0,s1,s2,s3,s4,s5,s6,s7,s8,s9⟩;go_simp;with_reducible rfl⟩) (h:=?_)
     refine pu 22 (some 50) (ba 30 8388607) HT_ (h:=?_)
     refine ta 23 (some 51) (ba 30 16777215) HT_ HW_ hHeld (hy:=Or.inl ⟨by rfl,by rintro w' ⟨s0,s1,s2,s3,s4,s5,s6,s7,s8,s9⟩;go_simp;with_reducible rfl⟩) (h:=?_)
     refine pu 24 (some 52) (ba 30 33554431) HT_ (h:=?_)
     refine one_ (i:=25) (N:=some 53) (ba 30 67108863) rfl rfl (one_of HT_.out (by kernel_rfl)) (by decide) (fun K hK=>?_)
     refine Kd.R_lit_step (Kd.int .i64) _ 2 ?hg (N:=53) ?hd (xs:=([wrap64 ((wrap64 ((rd (rd_L1 l0_1 x18_1) 0) * a0_2))+x25_2),wrap64 ((wrap64 ((rd (rd_L1 l0_1 x18_1) 1) * a0_2))+(rd (rd_L1 l0_3 x18_1) x25_2))]:List Int)) (inner:=[.int .i64 (wrap64 ((wrap64 ((rd (rd_L1 l0_1 x18_1) 0) * a0_2))+x25_2)),.int .i64 (wrap64 ((wrap64 ((rd (rd_L1 l0_1 x18_1) 1) * a0_2))+(rd (rd_L1 l0_3 x18_1) x25_2)))]) (ok:=fun _=>True) (okp:=fun _=>True) ?hr ?hp (fun _ hk=>hk) trivial (Below.refl _ _) (Nat.le_refl _) (by simp) ?_;(case hd=>rfl);(case hg=>rfl);(case hr=>first|(go_simp;done)|(go_simp;rfl));(case hp=>exact (Reps.one (show Kd.M (Kd.int .i64) _ _ _ (wrap64 ((wrap64 ((rd (rd_L1 l0_1 x18_1) 0) * a0_2))+x25_2)) [.int .i64 (wrap64 ((wrap64 ((rd (rd_L1 l0_1 x18_1) 0) * a0_2))+x25_2))] from rfl) (Reps.one (show Kd.M (Kd.int .i64) _ _ _ (wrap64 ((wrap64 ((rd (rd_L1 l0_1 x18_1) 1) * a0_2))+(rd (rd_L1 l0_3 x18_1) x25_2))) [.int .i64 (wrap64 ((wrap64 ((rd (rd_L1 l0_1 x18_1) 1) * a0_2))+(rd (rd_L1 l0_3 x18_1) x25_2)))] from rfl) (Reps.none _ _))))
     intro v110 w26 ho27 hb hg_ hnew_
     clear hg_ hnew_
     (first|rw [← Ny109.out] at ho27|(simp only [Int.reduceToNat] at ho27;rw [← Ny109.out] at ho27))
     have n0_:=Aside0.mk (Kd.S_elder' (aS HO_104001.out) (Kd.R_base ho27) hb)
     have n1_:=Aside0.mk (Kd.R_lower ho27 (below_size bl))
     have n2_:=Aside0.mk (blk_below (g:=gb101) (o:=.cells #[.int .i64 a0_0,.slice (some ad104) l0_1.length c0_1,.int .i64 a0_2,.slice (some ad107) l0_3.length c0_3] 33 (0,0)) bk hb)
     have n3_:=Aside0.mk (blk_below (g:=gb102) (o:=.cells #[.int .i64 0,.slice none 0 0] 31 (0,0)) bk hb)
     have n4_:=Aside0.mk (blk_below (g:=gb103) (o:=.cells #[.int .i64 (wrap64 (a0_0 * a0_2)),u104001] 31 (0,0)) bk hb)
     have n5_:=Aside0.mk (below_step bl hb)
     clear HO_104001
     clear BK101
     clear BK102
     clear BK103
     clear HB
     have HO_104001:=n0_
     have HO111:=n1_
     have BK101:=n2_
     have BK102:=n3_
     have BK103:=n4_
     have HB:=n5_
     clear n0_ n1_ n2_ n3_ n4_ n5_
     clear hb ho27
     obtain ⟨Ao29,co29,eo29⟩:=Kd.R_slice HO111.out
     (first|subst eo29|(injection eo29 with f1_ f2_ f3_;have f4_:=f1_.symm;have f5_:=f3_.symm;clear f1_ f2_ f3_;subst f4_;subst f5_))
     refine hK.out _ _ ⟨(blk_cell BK103.out 0).trans rfl,(blk_cell BK103.out 1).trans rfl,(blk_cell BK101.out 0).trans rfl,(blk_cell BK101.out 1).trans rfl,(blk_cell BK101.out 2).trans rfl,(blk_cell BK101.out 3).trans rfl,(hbc HB hw105_0),(hbc HB hw106_0),(hbc HB hw107_0),(hbc HB hw108_0)⟩ (fun hHeld=>?_)
     clear hK K
     refine norm_ (a':=?_) ?_ ?_
     rotate_left;· show Act.put _ (some 53) _=_;simp only [Act.put,zI,zZ,zS,i64_w,i32_w];rfl
     refine one_ (i:=26) (N:=some 54) (ba 30 134217727) rfl rfl (one_of HT_.out (by kernel_rfl)) (by decide) (fun K hK=>?_)
     refine value_ (w1:=?_) (v:=?_) (by rfl) rfl ?_ ?_
     rotate_left 2
     ·go_simp
      constructor
      ·rfl
      ·rfl
     refine hK.out _ _ ⟨(blk_cell (blk_alloc BK103.out _) 0).trans rfl,(blk_cell (blk_alloc BK103.out _) 1).trans rfl,(blk_cell (blk_alloc BK101.out _) 0).trans rfl,(blk_cell (blk_alloc BK101.out _) 1).trans rfl,(blk_cell (blk_alloc BK101.out _) 2).trans rfl,(blk_cell (blk_alloc BK101.out _) 3).trans rfl,(World.cell?_alloc_lt _ _ _ (World.block_lt_of_cell? _ _ ((hbc HB hw105_0)))).trans ((hbc HB hw105_0)),(World.cell?_alloc_lt _ _ _ (World.block_lt_of_cell? _ _ ((hbc HB hw106_0)))).trans ((hbc HB hw106_0)),(World.cell?_alloc_lt _ _ _ (World.block_lt_of_cell? _ _ ((hbc HB hw107_0)))).trans ((hbc HB hw107_0)),(World.cell?_alloc_lt _ _ _ (World.block_lt_of_cell? _ _ ((hbc HB hw108_0)))).trans ((hbc HB hw108_0))⟩ (fun hHeld=>?_)
     clear hK K
     refine norm_ (a':=?_) ?_ ?_
     rotate_left;· show Act.put _ (some 54) _=_;simp only [Act.put,zI,zZ,zS,i64_w,i32_w];rfl
     refine one_ (i:=27) (N:=some 55) (ba 30 268435455) rfl rfl (one_of HT_.out (by kernel_rfl)) (by decide) (fun K hK=>?_)
     refine Kd.S_append_step (Kd.slice 2 (Kd.int .i64)) (w0:=w) w.heap.size (by rfl) (.tmp 29) (.tmp 54) 22 28 (.slice none 0 0) 24 rfl Try.underlying22 info28 rfl (by decide) (by omega) u104001 x104001_2 y109 [.slice Ao29 y109.length co29] (fun _=>True) (fun k_=>some k_=(.slice Ao29 y109.length co29:Value).ownBlock) rfl rfl ?aP (fun k_ hk_=>((Kd.R_mono (ok':=fun k_=>((fun _=>True)) k_∧some k_ ≠ (u104001:Value).ownBlock) (Kd.R_apart' (HO111.out) (Kd.S_typed HO_104001.out) (by decide)) (fun k_ hk=>⟨trivial,hk.2⟩))).1 k_ hk_.symm) ?aF ?aO ?aB ?aS ?aL ?_
     (case aP=>exact Kd.M_row (Kd.R_mono (Kd.R_tight rfl (Kd.R_mono (ok':=fun k_=>((fun _=>True)) k_∧some k_ ≠ (u104001:Value).ownBlock) (Kd.R_apart' (HO111.out) (Kd.S_typed HO_104001.out) (by decide)) (fun k_ hk=>⟨trivial,hk.2⟩))) (fun _ h_=>h_)))
     (case aB=>exact bl)
     (case aF=>exact (fun _ _=>trivial))
     (case aO=>exact (by (with_reducible repeat (first|apply Kd.S_alloc|apply Kd.S_drewN|apply Kd.S_drew));exact Kd.S_mono HO_104001.out (fun k_ hk=>⟨trivial,fun e_=>hk.2 e_⟩)))
     (case aS=>exact (below_size bl))
     (case aL=>have:=LMc24.out;omega)
     intro v113 w28 ho hb hg hat
     rw [← Ny112.out] at ho
     have n0_:=Aside0.mk (blk_grown (g:=gb101) (o:=.cells #[.int .i64 a0_0,.slice (some ad104) l0_1.length c0_1,.int .i64 a0_2,.slice (some ad107) l0_3.length c0_3] 33 (0,0)) bk hg (Kd.S_ne HO_104001.out BK101.out (by decide)))
     have n1_:=Aside0.mk (blk_grown (g:=gb102) (o:=.cells #[.int .i64 0,.slice none 0 0] 31 (0,0)) bk hg (Kd.S_ne HO_104001.out BK102.out (by decide)))
     have n2_:=Aside0.mk (blk_grown (g:=gb103) (o:=.cells #[.int .i64 (wrap64 (a0_0 * a0_2)),u104001] 31 (0,0)) bk hg (Kd.S_ne HO_104001.out BK103.out (by decide)))
     have n3_:=Aside0.mk (hb)
     have n4_:=Aside0.mk (ho)
     clear BK101
     clear BK102
     clear BK103
     clear HB
     clear HO_104001
     clear HO111
     have BK101:=n0_
     have BK102:=n1_
     have BK103:=n2_
     have HB:=n3_
     have HO114:=n4_
     clear n0_ n1_ n2_ n3_ n4_
     clear ho hb hg hat
     obtain ⟨Ao30,co30,eo30⟩:=Kd.S_slice HO114.out
     (first|subst eo30|(injection eo30 with f1_ f2_ f3_;have f4_:=f1_.symm;have f5_:=f3_.symm;clear f1_ f2_ f3_;subst f4_;subst f5_))
     refine hK.out _ _ ⟨(blk_cell BK103.out 0).trans rfl,(blk_cell BK103.out 1).trans rfl,(blk_cell BK101.out 0).trans rfl,(blk_cell BK101.out 1).trans rfl,(blk_cell BK101.out 2).trans rfl,(blk_cell BK101.out 3).trans rfl,(hbc HB hw105_0),(hbc HB hw106_0),(hbc HB hw107_0),(hbc HB hw108_0)⟩ (fun hHeld=>?_)
     clear hK K
     refine norm_ (a':=?_) ?_ ?_
     rotate_left;· show Act.put _ (some 55) _=_;simp only [Act.put,zI,zZ,zS,i64_w,i32_w];rfl
     refine pu 28 (some 56) (ba 30 536870911) HT_ (h:=?_)
     refine last_ (i:=29) (N:=none) (ba 30 1073741823) rfl rfl (one_of HT_.out (by kernel_rfl)) (by decide) (fun K hK=>?_)
     have hs31:w28.cell? ⟨gb103,1,none⟩=some (u104001):=(blk_cell BK103.out 1).trans rfl
     have hfs31:=blk_frozen BK103.out 1
     have hns31_0:=NB101_103.out
     have hns31_1:=NB102_103.out
     have hms31_0:=NB103_101.out
     have hms31_1:=NB103_102.out
     refine skip_ (w1:=?_) (by rfl) rfl ?_ ?_
     rotate_left;· go_simp;rfl
     refine hK.out _ _ ?_
     clear hK K
     refine done_ (done_of HT_.out (by kernel_rfl)) ?_
     try go_wp2
     go_roundg k2
     case measure=>have:=HK1.out;have:=HK2.out;omega
     case rel=>exact ⟨(wrap64 (x25_2+1)),(y112),(.slice Ao30 y112.length co30),rs,H',⟨by have:=HK1.out;have:=HK2.out;omega⟩,⟨by (with_reducible repeat (first|apply Kd.S_alloc|apply Kd.S_drewN|apply Kd.S_drew));exact Kd.S_mono (Kd.S_far (p:=⟨gb103,1,none⟩) (Kd.S_types HO114.out BK103.out (by decide)) (fun _ hk=>hk.2) (.slice Ao30 y112.length co30)) (fun _ hk=>trivial)⟩,⟨by (with_reducible repeat (first|refine blk_drewN ?_ _|refine blk_drew ?_|refine blk_alloc ?_ _));refine blk_far ?_ NB101_103.out _;(with_reducible repeat (first|refine blk_drewN ?_ _|refine blk_drew ?_|refine blk_alloc ?_ _));exact BK101.out⟩,⟨by (with_reducible repeat (first|refine blk_drewN ?_ _|refine blk_drew ?_|refine blk_alloc ?_ _));refine blk_far ?_ NB102_103.out _;(with_reducible repeat (first|refine blk_drewN ?_ _|refine blk_drew ?_|refine blk_alloc ?_ _));exact BK102.out⟩,⟨by (with_reducible repeat (first|refine blk_drewN ?_ _|refine blk_drew ?_|refine blk_alloc ?_ _));refine blk_put (cs:=#[.int .i64 (wrap64 (a0_0 * a0_2)),u104001]) ?_ 1 _ rfl;(with_reducible repeat (first|refine blk_drewN ?_ _|refine blk_drew ?_|refine blk_alloc ?_ _));exact BK103.out⟩,⟨bl⟩⟩
/-! ### F84: function 84 -/
def F84.f (k:Nat) (a0_0:Int) (l0_1:List (List Int)) (a0_2:Int) (l0_3:List (List Int)):Option (Int × (List (List Int)) × Int):=(F161.f k a0_0 l0_1 a0_2 l0_3).bind fun t103=>(if t103=true then ((F162.f k a0_0 l0_1 a0_2 l0_3).bind fun bt104=>(if bt104.1 > 8 then (some (0,([]:List (List Int)),3)) else ((F163.f bt104.1 bt104.2).bind fun t109=>(if t109 > 10 then (some (0,([]:List (List Int)),3)) else (some (bt104.1,bt104.2,0)))))) else (some (0,([]:List (List Int)),1)))
theorem F84.mono:∀ a0 a1 a2 a3 k,LeO (F84.f k a0 a1 a2 a3) (F84.f (k+1) a0 a1 a2 a3):=by
 intro a0 a1 a2 a3 k
 unfold F84.f
 repeat' first
  | (with_reducible first|exact F162.mono _ _ _ _ _|exact F161.mono _ _ _ _ _|exact LeO.refl _|exact LeO.none _|refine LeO.ite ?_ ?_|refine LeO.bind ?_ (fun _=>?_))
  | exact F162.mono _ _ _ _ _|exact F161.mono _ _ _ _ _|exact LeO.none _|refine LeO.ite ?_ ?_|refine LeO.bind ?_ (fun _=>?_)
set_option maxHeartbeats 8000000 in
set_option maxRecDepth 100000 in
theorem F84.calls (k : Nat) (a0_0 : Int) (A0_1 : Option Addr) (c0_1 : Nat) (l0_1 : List (List Int)) (a0_2 : Int) (A0_3 : Option Addr) (c0_3 : Nat) (l0_3 : List (List Int)) (r1 : Int) (r2 : List (List Int)) (r3 : Int) (w : World) (hr0_1 : Kd.C (Kd.slice 2 (Kd.int .i64)) w A0_1 l0_1.length l0_1) (hc0_1 : l0_1.length ≤ c0_1) (hr0_3 : Kd.C (Kd.slice 2 (Kd.int .i64)) w A0_3 l0_3.length l0_3) (hc0_3 : l0_3.length ≤ c0_3) (h : F84.f k a0_0 l0_1 a0_2 l0_3 = some (r1, r2, r3)) :
  Calls Try.prog 84 #[.agg #[.int .i64 a0_0,.slice A0_1 l0_1.length c0_1,.int .i64 a0_2,.slice A0_3 l0_3.length c0_3]] w fun e w'=>∃ v1_:Value,e=.returned (.tuple #[.agg #[.int .i64 r1,v1_],.int .i64 r3])∧Kd.S (Kd.slice 2 (Kd.int .i64)) 28 w' w.heap.size (fun _=>True) v1_ r2∧Below w.heap.size w w':=by
 have hu33:=Try.underlying33
 have hu31:=Try.underlying31
 have HR0_1:=Aside0.mk hr0_1
 have HC0_1:=Aside0.mk hc0_1
 clear hr0_1 hc0_1
 have HR0_3:=Aside0.mk hr0_3
 have HC0_3:=Aside0.mk hc0_3
 clear hr0_3 hc0_3
 have HB:=Aside0.mk (Below.refl w.heap.size w)
 have H:((F161.f k a0_0 l0_1 a0_2 l0_3).bind fun t103=>(if t103=true then ((F162.f k a0_0 l0_1 a0_2 l0_3).bind fun bt104=>(if bt104.1 > 8 then (some (0,([]:List (List Int)),3)) else ((F163.f bt104.1 bt104.2).bind fun t109=>(if t109 > 10 then (some (0,([]:List (List Int)),3)) else (some (bt104.1,bt104.2,0)))))) else (some (0,([]:List (List Int)),1))))=some (r1,r2,r3):=h
 clear h
 replace H:=Option.bind_eq_some_iff.mp H
 obtain ⟨t103,A20,H⟩:=H
 replace H:(if t103=true then ((F162.f k a0_0 l0_1 a0_2 l0_3).bind fun bt104=>(if bt104.1 > 8 then (some (0,([]:List (List Int)),3)) else ((F163.f bt104.1 bt104.2).bind fun t109=>(if t109 > 10 then (some (0,([]:List (List Int)),3)) else (some (bt104.1,bt104.2,0)))))) else (some (0,([]:List (List Int)),1)))=some (r1,r2,r3):=H
 have A2:=Aside0.mk A20
 clear A20
 by_cases c3:t103=true
 case neg =>
  replace c3:=Bool.eq_false_iff.mpr c3
  subst c3
  have H1:(some (0,([]:List (List Int)),1))=some (r1,r2,r3):=by rw [if_neg (show ¬ (false=true) by decide)] at H;exact H
  clear H
  have H:=H1
  clear H1
  simp only [Option.some.injEq,Prod.mk.injEq] at H
  obtain ⟨rfl,rfl,rfl⟩:=H
  go_enter Try.func84,Try.ntmps84
  go_wp2_with (first|((with_reducible refine gate_dst (N:=1) rfl ?_);refine box_event ?hg (N:=1) ?hd (cs:=#[.int .i64 a0_0,.slice A0_1 l0_1.length c0_1,.int .i64 a0_2,.slice A0_3 l0_3.length c0_3]) (t:=33) ?hr ?_;(case hd=>rfl);(case hg=>rfl);(case hr=>first|(go_simp;done)|(go_simp;rfl));intro gb101 hg w50 hbox hb;have BK101:=Aside0.mk (hbox);have GW101:=Aside0.mk ((by rw [hg];exact (below_size bl):w.heap.size≤gb101));have GE101:=Aside0.mk ((by rw [hg];exact (below_size bl):w.heap.size≤gb101));replace HB:=Aside0.mk (below_step bl hb);clear hb hbox hg)|((with_reducible refine gate_dst (N:=2) rfl ?_);refine box_event ?hg (N:=2) ?hd (cs:=#[.int .i64 0,.slice none 0 0]) (t:=31) ?hr ?_;(case hd=>rfl);(case hg=>rfl);(case hr=>first|(go_simp;done)|(go_simp;rfl));intro gb102 hg w51 hbox hb;have BK102:=Aside0.mk (hbox);have GW102:=Aside0.mk ((by rw [hg];exact (below_size bl):w.heap.size≤gb102));have GE102:=Aside0.mk ((by rw [hg];exact (below_size bl):w.heap.size≤gb102));replace HB:=Aside0.mk (below_step bl hb);have NB101_102:=Aside0.mk ((by rw [hg];exact Nat.ne_of_lt (blk_lt (g:=gb101) (o:=.cells #[.int .i64 a0_0,.slice A0_1 l0_1.length c0_1,.int .i64 a0_2,.slice A0_3 l0_3.length c0_3] 33 (0,0)) bk):gb101 ≠ gb102));have NB102_101:=Aside0.mk ((by rw [hg];exact Nat.ne_of_gt (blk_lt (g:=gb101) (o:=.cells #[.int .i64 a0_0,.slice A0_1 l0_1.length c0_1,.int .i64 a0_2,.slice A0_3 l0_3.length c0_3] 33 (0,0)) bk):gb102 ≠ gb101));replace BK101:=Aside0.mk (blk_below (g:=gb101) (o:=.cells #[.int .i64 a0_0,.slice A0_1 l0_1.length c0_1,.int .i64 a0_2,.slice A0_3 l0_3.length c0_3] 33 (0,0)) bk hb);clear hb hbox hg;have hnb52:=NB101_102.out;have hnc52:=NB102_101.out;have hcz53_0:w51.cell? ⟨gb101,0,none⟩=some (.int .i64 a0_0):=(blk_cell BK101.out 0).trans rfl;have hcz53_1:w51.cell? ⟨gb101,1,none⟩=some (.slice A0_1 l0_1.length c0_1):=(blk_cell BK101.out 1).trans rfl;have hcz53_2:w51.cell? ⟨gb101,2,none⟩=some (.int .i64 a0_2):=(blk_cell BK101.out 2).trans rfl;have hcz53_3:w51.cell? ⟨gb101,3,none⟩=some (.slice A0_3 l0_3.length c0_3):=(blk_cell BK101.out 3).trans rfl;have hfz53_0:=blk_frozen BK101.out 0;have hfz53_1:=blk_frozen BK101.out 1;have hfz53_2:=blk_frozen BK101.out 2;have hfz53_3:=blk_frozen BK101.out 3)|((with_reducible refine gate_callee (f:=161) rfl ?_);refine goesL_ (some 6) rfl rfl Try.func161 (by kernel_rfl) rfl #[.agg #[.int .i64 a0_0,.slice A0_1 l0_1.length c0_1,.int .i64 a0_2,.slice A0_3 l0_3.length c0_3]] rfl gm ?_;(with_reducible refine (F161.calls k a0_0 _ _ l0_1 a0_2 _ _ l0_3 false _ ?side1 ?side2 ?side3 ?side4 A2.out).mono ?_);(case side1=>exact aC (Kd.C_below HR0_1.out HB.out));(case side2=>exact HC0_1.out);(case side3=>exact aC (Kd.C_below HR0_3.out HB.out));(case side4=>exact HC0_3.out);rintro e w54 ⟨rfl,hb⟩;refine ⟨_,rfl,?_⟩;have n0_:=Aside0.mk (blk_below (g:=gb101) (o:=.cells #[.int .i64 a0_0,.slice A0_1 l0_1.length c0_1,.int .i64 a0_2,.slice A0_3 l0_3.length c0_3] 33 (0,0)) bk hb);have n1_:=Aside0.mk (blk_below (g:=gb102) (o:=.cells #[.int .i64 0,.slice none 0 0] 31 (0,0)) bk hb);have n2_:=Aside0.mk (below_step bl hb);clear BK101;clear BK102;clear HB;have BK101:=n0_;have BK102:=n1_;have HB:=n2_;clear n0_ n1_ n2_;(try clear hb);(try clear hb2);(try clear hk);(try clear hi);have hcz55_0:w54.cell? ⟨gb102,0,none⟩=some (.int .i64 0):=(blk_cell BK102.out 0).trans rfl;have hcz55_1:w54.cell? ⟨gb102,1,none⟩=some (.slice none 0 0):=(blk_cell BK102.out 1).trans rfl;have hfz55_0:=blk_frozen BK102.out 0;have hfz55_1:=blk_frozen BK102.out 1))
  refine bodyPost_ret (results_ct rfl _ _ gb102 31 #[.int .i64 0,.slice none 0 0] (0,0) _ rfl (by (with_reducible repeat (first|refine blk_drewN ?_ _|refine blk_drew ?_|refine blk_alloc ?_ _));refine blk_put (cs:=#[.int .i64 0,.slice none 0 0]) ?_ 1 _ rfl;(with_reducible repeat (first|refine blk_drewN ?_ _|refine blk_drew ?_|refine blk_alloc ?_ _));refine blk_put (cs:=#[.int .i64 0,.slice none 0 0]) ?_ 0 _ rfl;(with_reducible repeat (first|refine blk_drewN ?_ _|refine blk_drew ?_|refine blk_alloc ?_ _));exact BK102.out) Try.underlying31 rfl (by kernel_rfl)) rfl ?_
  exact ⟨_,by first|rfl|(simp [errW_none,errW_some]<;>rfl)|(simp [*,errW_none,errW_some]<;>rfl),by first|exact Kd.S_nil _ _ _ _ _|exact Kd.N_nil _ _ _ _ _|exact Kd.V_nil _ _ _ _ _|exact Kd.Q_nil _ _ _ _ _|exact Kd.R_nil _ _ _ _ _,bl⟩
 subst c3
 have H1:((F162.f k a0_0 l0_1 a0_2 l0_3).bind fun bt104=>(if bt104.1 > 8 then (some (0,([]:List (List Int)),3)) else ((F163.f bt104.1 bt104.2).bind fun t109=>(if t109 > 10 then (some (0,([]:List (List Int)),3)) else (some (bt104.1,bt104.2,0))))))=some (r1,r2,r3):=by rw [if_pos rfl] at H;exact H
 clear H
 have H:=H1
 clear H1
 replace H:=Option.bind_eq_some_iff.mp H
 obtain ⟨⟨t104,t105⟩,A40,H⟩:=H
 replace H:(if t104 > 8 then (some (0,([]:List (List Int)),3)) else ((F163.f t104 t105).bind fun t109=>(if t109 > 10 then (some (0,([]:List (List Int)),3)) else (some (t104,t105,0)))))=some (r1,r2,r3):=H
 have A4:=Aside0.mk A40
 clear A40
 by_cases c5:t104 > 8
 case neg =>
  rw [if_neg c5] at H
  have c5b0:decide (8 < t104)=false:=decide_eq_false c5
  clear c5
  replace H:=Option.bind_eq_some_iff.mp H
  obtain ⟨t109,A190,H⟩:=H
  replace H:(if t109 > 10 then (some (0,([]:List (List Int)),3)) else (some (t104,t105,0)))=some (r1,r2,r3):=H
  have A19:=Aside0.mk A190
  clear A190
  by_cases c20:t109 > 10
  case neg =>
   rw [if_neg c20] at H
   have c20b0:decide (10 < t109)=false:=decide_eq_false c20
   clear c20
   simp only [Option.some.injEq,Prod.mk.injEq] at H
   obtain ⟨rfl,rfl,rfl⟩:=H
   go_enter Try.func84,Try.ntmps84
   go_wp2_with (first|((with_reducible refine gate_dst (N:=1) rfl ?_);refine box_event ?hg (N:=1) ?hd (cs:=#[.int .i64 a0_0,.slice A0_1 l0_1.length c0_1,.int .i64 a0_2,.slice A0_3 l0_3.length c0_3]) (t:=33) ?hr ?_;(case hd=>rfl);(case hg=>rfl);(case hr=>first|(go_simp;done)|(go_simp;rfl));intro gb101 hg w35 hbox hb;have BK101:=Aside0.mk (hbox);have GW101:=Aside0.mk ((by rw [hg];exact (below_size bl):w.heap.size≤gb101));have GE101:=Aside0.mk ((by rw [hg];exact (below_size bl):w.heap.size≤gb101));replace HB:=Aside0.mk (below_step bl hb);clear hb hbox hg)|((with_reducible refine gate_dst (N:=2) rfl ?_);refine box_event ?hg (N:=2) ?hd (cs:=#[.int .i64 0,.slice none 0 0]) (t:=31) ?hr ?_;(case hd=>rfl);(case hg=>rfl);(case hr=>first|(go_simp;done)|(go_simp;rfl));intro gb102 hg w36 hbox hb;have BK102:=Aside0.mk (hbox);have GW102:=Aside0.mk ((by rw [hg];exact (below_size bl):w.heap.size≤gb102));have GE102:=Aside0.mk ((by rw [hg];exact (below_size bl):w.heap.size≤gb102));replace HB:=Aside0.mk (below_step bl hb);have NB101_102:=Aside0.mk ((by rw [hg];exact Nat.ne_of_lt (blk_lt (g:=gb101) (o:=.cells #[.int .i64 a0_0,.slice A0_1 l0_1.length c0_1,.int .i64 a0_2,.slice A0_3 l0_3.length c0_3] 33 (0,0)) bk):gb101 ≠ gb102));have NB102_101:=Aside0.mk ((by rw [hg];exact Nat.ne_of_gt (blk_lt (g:=gb101) (o:=.cells #[.int .i64 a0_0,.slice A0_1 l0_1.length c0_1,.int .i64 a0_2,.slice A0_3 l0_3.length c0_3] 33 (0,0)) bk):gb102 ≠ gb101));replace BK101:=Aside0.mk (blk_below (g:=gb101) (o:=.cells #[.int .i64 a0_0,.slice A0_1 l0_1.length c0_1,.int .i64 a0_2,.slice A0_3 l0_3.length c0_3] 33 (0,0)) bk hb);clear hb hbox hg;have hnb37:=NB101_102.out;have hnc37:=NB102_101.out;have hcz38_0:w36.cell? ⟨gb101,0,none⟩=some (.int .i64 a0_0):=(blk_cell BK101.out 0).trans rfl;have hcz38_1:w36.cell? ⟨gb101,1,none⟩=some (.slice A0_1 l0_1.length c0_1):=(blk_cell BK101.out 1).trans rfl;have hcz38_2:w36.cell? ⟨gb101,2,none⟩=some (.int .i64 a0_2):=(blk_cell BK101.out 2).trans rfl;have hcz38_3:w36.cell? ⟨gb101,3,none⟩=some (.slice A0_3 l0_3.length c0_3):=(blk_cell BK101.out 3).trans rfl;have hfz38_0:=blk_frozen BK101.out 0;have hfz38_1:=blk_frozen BK101.out 1;have hfz38_2:=blk_frozen BK101.out 2;have hfz38_3:=blk_frozen BK101.out 3)|((with_reducible refine gate_callee (f:=161) rfl ?_);refine goesL_ (some 6) rfl rfl Try.func161 (by kernel_rfl) rfl #[.agg #[.int .i64 a0_0,.slice A0_1 l0_1.length c0_1,.int .i64 a0_2,.slice A0_3 l0_3.length c0_3]] rfl gm ?_;(with_reducible refine (F161.calls k a0_0 _ _ l0_1 a0_2 _ _ l0_3 true _ ?side1 ?side2 ?side3 ?side4 A2.out).mono ?_);(case side1=>exact aC (Kd.C_below HR0_1.out HB.out));(case side2=>exact HC0_1.out);(case side3=>exact aC (Kd.C_below HR0_3.out HB.out));(case side4=>exact HC0_3.out);rintro e w39 ⟨rfl,hb⟩;refine ⟨_,rfl,?_⟩;have n0_:=Aside0.mk (blk_below (g:=gb101) (o:=.cells #[.int .i64 a0_0,.slice A0_1 l0_1.length c0_1,.int .i64 a0_2,.slice A0_3 l0_3.length c0_3] 33 (0,0)) bk hb);have n1_:=Aside0.mk (blk_below (g:=gb102) (o:=.cells #[.int .i64 0,.slice none 0 0] 31 (0,0)) bk hb);have n2_:=Aside0.mk (below_step bl hb);clear BK101;clear BK102;clear HB;have BK101:=n0_;have BK102:=n1_;have HB:=n2_;clear n0_ n1_ n2_;(try clear hb);(try clear hb2);(try clear hk);(try clear hi);have hcz40_0:w39.cell? ⟨gb101,0,none⟩=some (.int .i64 a0_0):=(blk_cell BK101.out 0).trans rfl;have hcz40_1:w39.cell? ⟨gb101,1,none⟩=some (.slice A0_1 l0_1.length c0_1):=(blk_cell BK101.out 1).trans rfl;have hcz40_2:w39.cell? ⟨gb101,2,none⟩=some (.int .i64 a0_2):=(blk_cell BK101.out 2).trans rfl;have hcz40_3:w39.cell? ⟨gb101,3,none⟩=some (.slice A0_3 l0_3.length c0_3):=(blk_cell BK101.out 3).trans rfl;have hfz40_0:=blk_frozen BK101.out 0;have hfz40_1:=blk_frozen BK101.out 1;have hfz40_2:=blk_frozen BK101.out 2;have hfz40_3:=blk_frozen BK101.out 3)|((with_reducible refine gate_callee (f:=162) rfl ?_);refine goesL_ (some 10) rfl rfl Try.func162 (by kernel_rfl) rfl #[.agg #[.int .i64 a0_0,.slice A0_1 l0_1.length c0_1,.int .i64 a0_2,.slice A0_3 l0_3.length c0_3]] rfl gm ?_;(with_reducible refine (F162.calls k a0_0 _ _ l0_1 a0_2 _ _ l0_3 t104 t105 _ ?side1 ?side2 ?side3 ?side4 A4.out).mono ?_);(case side1=>exact aC (Kd.C_below HR0_1.out HB.out));(case side2=>exact HC0_1.out);(case side3=>exact aC (Kd.C_below HR0_3.out HB.out));(case side4=>exact HC0_3.out);rintro e w41 ⟨v106,rfl,ho0,hb⟩;refine ⟨_,rfl,?_⟩;have n0_:=Aside0.mk (Kd.S_lower ho0 (below_size bl));have n1_:=Aside0.mk (blk_below (g:=gb101) (o:=.cells #[.int .i64 a0_0,.slice A0_1 l0_1.length c0_1,.int .i64 a0_2,.slice A0_3 l0_3.length c0_3] 33 (0,0)) bk hb);have n2_:=Aside0.mk (blk_below (g:=gb102) (o:=.cells #[.int .i64 0,.slice none 0 0] 31 (0,0)) bk hb);have n3_:=Aside0.mk (below_step bl hb);clear BK101;clear BK102;clear HB;have HO107:=n0_;have BK101:=n1_;have BK102:=n2_;have HB:=n3_;clear n0_ n1_ n2_ n3_;(try clear hb);(try clear hb2);(try clear hk);(try clear hi);(try clear ho0))|((with_reducible refine gate_dst (N:=4) rfl ?_);refine box_event ?hg (N:=4) ?hd (cs:=#[.int .i64 0,.slice none 0 0]) (t:=31) ?hr ?_;(case hd=>rfl);(case hg=>rfl);(case hr=>first|(go_simp;done)|(go_simp;rfl));intro gb108 hg w42 hbox hb;have n0_:=Aside0.mk (Kd.S_below (aS HO107.out) hb);have n1_:=Aside0.mk (blk_below (g:=gb101) (o:=.cells #[.int .i64 a0_0,.slice A0_1 l0_1.length c0_1,.int .i64 a0_2,.slice A0_3 l0_3.length c0_3] 33 (0,0)) bk hb);have n2_:=Aside0.mk (blk_below (g:=gb102) (o:=.cells #[.int .i64 0,.slice none 0 0] 31 (0,0)) bk hb);have n3_:=Aside0.mk (below_step bl hb);have n4_:=Aside0.mk (hbox);have n5_:=Aside0.mk ((by rw [hg];exact (below_size bl):w.heap.size≤gb108));have n6_:=Aside0.mk ((by rw [hg];exact (below_size bl):w.heap.size≤gb108));have n7_:=Aside0.mk ((by rw [hg];exact Nat.ne_of_lt (blk_lt (g:=gb101) (o:=.cells #[.int .i64 a0_0,.slice A0_1 l0_1.length c0_1,.int .i64 a0_2,.slice A0_3 l0_3.length c0_3] 33 (0,0)) bk):gb101 ≠ gb108));have n8_:=Aside0.mk ((by rw [hg];exact Nat.ne_of_gt (blk_lt (g:=gb101) (o:=.cells #[.int .i64 a0_0,.slice A0_1 l0_1.length c0_1,.int .i64 a0_2,.slice A0_3 l0_3.length c0_3] 33 (0,0)) bk):gb108 ≠ gb101));have n9_:=Aside0.mk ((by rw [hg];exact Nat.ne_of_lt (blk_lt (g:=gb102) (o:=.cells #[.int .i64 0,.slice none 0 0] 31 (0,0)) bk):gb102 ≠ gb108));have n10_:=Aside0.mk ((by rw [hg];exact Nat.ne_of_gt (blk_lt (g:=gb102) (o:=.cells #[.int .i64 0,.slice none 0 0] 31 (0,0)) bk):gb108 ≠ gb102));clear HO107;clear BK101;clear BK102;clear HB;have HO107:=n0_;have BK101:=n1_;have BK102:=n2_;have HB:=n3_;have BK108:=n4_;have GW108:=n5_;have GE108:=n6_;have NB101_108:=n7_;have NB108_101:=n8_;have NB102_108:=n9_;have NB108_102:=n10_;clear n0_ n1_ n2_ n3_ n4_ n5_ n6_ n7_ n8_ n9_ n10_;clear hb hbox hg;have hnb43:=NB108_101.out;have hnc43:=NB101_108.out;have hnb44:=NB108_102.out;have hnc44:=NB102_108.out;have hcz45_0:w42.cell? ⟨gb108,0,none⟩=some (.int .i64 0):=(blk_cell BK108.out 0).trans rfl;have hcz45_1:w42.cell? ⟨gb108,1,none⟩=some (.slice none 0 0):=(blk_cell BK108.out 1).trans rfl;have hfz45_0:=blk_frozen BK108.out 0;have hfz45_1:=blk_frozen BK108.out 1;obtain ⟨Ao46,co46,eo46⟩:=Kd.S_slice HO107.out;subst eo46)|(go_at_call 163;(with_reducible refine (F163.calls t104 _ _ t105 t109 _ ?side1 ?side2 A19.out).mono ?_);(case side1=>refine (Kd.S_reads' (e:=28) (base:=w.heap.size) (ok:=fun k_=>True) (n:=t105.length) (c:=co46) ?_).2.2;exact (by (with_reducible repeat (first|apply Kd.S_alloc|apply Kd.S_drewN|apply Kd.S_drew));exact (Kd.S_mono (Kd.S_far (p:=⟨gb108,1,none⟩) (Kd.S_far (p:=⟨gb108,0,none⟩) (Kd.S_types HO107.out BK108.out (by decide)) (fun _ hk=>hk.2) (.int .i64 t104)) (fun _ hk=>hk.2) (.slice Ao46 t105.length co46)) (fun _ h_=>h_.1))));(case side2=>exact (Kd.S_reads' HO107.out).2.1);rintro e w47 ⟨rfl,hb⟩;replace HO107:=Aside0.mk (Kd.S_below (by (with_reducible repeat (first|apply Kd.S_alloc|apply Kd.S_drewN|apply Kd.S_drew));exact (Kd.S_mono (Kd.S_far (p:=⟨gb108,1,none⟩) (Kd.S_far (p:=⟨gb108,0,none⟩) (Kd.S_types HO107.out BK108.out (by decide)) (fun _ hk=>hk.2) (.int .i64 t104)) (fun _ hk=>hk.2) (.slice Ao46 t105.length co46)) (fun _ h_=>h_.1))) hb);replace BK101:=Aside0.mk (blk_below (g:=gb101) (o:=.cells #[.int .i64 a0_0,.slice A0_1 l0_1.length c0_1,.int .i64 a0_2,.slice A0_3 l0_3.length c0_3] 33 (0,0)) (by (with_reducible repeat (first|refine blk_drewN ?_ _|refine blk_drew ?_|refine blk_alloc ?_ _));refine blk_far ?_ NB101_108.out _;(with_reducible repeat (first|refine blk_drewN ?_ _|refine blk_drew ?_|refine blk_alloc ?_ _));refine blk_far ?_ NB101_108.out _;(with_reducible repeat (first|refine blk_drewN ?_ _|refine blk_drew ?_|refine blk_alloc ?_ _));exact BK101.out) hb);replace BK102:=Aside0.mk (blk_below (g:=gb102) (o:=.cells #[.int .i64 0,.slice none 0 0] 31 (0,0)) (by (with_reducible repeat (first|refine blk_drewN ?_ _|refine blk_drew ?_|refine blk_alloc ?_ _));refine blk_far ?_ NB102_108.out _;(with_reducible repeat (first|refine blk_drewN ?_ _|refine blk_drew ?_|refine blk_alloc ?_ _));refine blk_far ?_ NB102_108.out _;(with_reducible repeat (first|refine blk_drewN ?_ _|refine blk_drew ?_|refine blk_alloc ?_ _));exact BK102.out) hb);replace BK108:=Aside0.mk (blk_below (g:=gb108) (o:=.cells #[.int .i64 t104,.slice Ao46 t105.length co46] 31 (0,0)) (by (with_reducible repeat (first|refine blk_drewN ?_ _|refine blk_drew ?_|refine blk_alloc ?_ _));refine blk_put (cs:=#[.int .i64 t104,.slice none 0 0]) ?_ 1 _ rfl;(with_reducible repeat (first|refine blk_drewN ?_ _|refine blk_drew ?_|refine blk_alloc ?_ _));refine blk_put (cs:=#[.int .i64 0,.slice none 0 0]) ?_ 0 _ rfl;(with_reducible repeat (first|refine blk_drewN ?_ _|refine blk_drew ?_|refine blk_alloc ?_ _));exact BK108.out) hb);replace HB:=Aside0.mk (below_step bl hb);(try clear hb);(try clear hb2);(try clear hk);(try clear hi);have hcz48_0:w47.cell? ⟨gb108,0,none⟩=some (.int .i64 t104):=(blk_cell BK108.out 0).trans rfl;have hcz48_1:w47.cell? ⟨gb108,1,none⟩=some (.slice Ao46 t105.length co46):=(blk_cell BK108.out 1).trans rfl;have hfz48_0:=blk_frozen BK108.out 0;have hfz48_1:=blk_frozen BK108.out 1;have hcz49_0:w47.cell? ⟨gb102,0,none⟩=some (.int .i64 0):=(blk_cell BK102.out 0).trans rfl;have hcz49_1:w47.cell? ⟨gb102,1,none⟩=some (.slice none 0 0):=(blk_cell BK102.out 1).trans rfl;have hfz49_0:=blk_frozen BK102.out 0;have hfz49_1:=blk_frozen BK102.out 1))
   refine bodyPost_ret (results_ct rfl _ _ gb102 31 #[.int .i64 t104,.slice Ao46 t105.length co46] (0,0) _ rfl (by (with_reducible repeat (first|refine blk_drewN ?_ _|refine blk_drew ?_|refine blk_alloc ?_ _));refine blk_put (cs:=#[.int .i64 t104,.slice none 0 0]) ?_ 1 _ rfl;(with_reducible repeat (first|refine blk_drewN ?_ _|refine blk_drew ?_|refine blk_alloc ?_ _));refine blk_put (cs:=#[.int .i64 0,.slice none 0 0]) ?_ 0 _ rfl;(with_reducible repeat (first|refine blk_drewN ?_ _|refine blk_drew ?_|refine blk_alloc ?_ _));exact BK102.out) Try.underlying31 rfl (by kernel_rfl)) rfl ?_
   exact ⟨_,by first|rfl|(simp [errW_none,errW_some]<;>rfl)|(simp [*,errW_none,errW_some]<;>rfl),by (with_reducible repeat (first|apply Kd.S_alloc|apply Kd.S_drewN|apply Kd.S_drew));exact Kd.S_mono (Kd.S_far (p:=⟨gb102,1,none⟩) (Kd.S_far (p:=⟨gb102,0,none⟩) (Kd.S_types HO107.out BK102.out (by decide)) (fun _ hk=>hk.2) (.int .i64 t104)) (fun _ hk=>hk.2) (.slice Ao46 t105.length co46)) (fun _ hk=>trivial),bl⟩
  rw [if_pos c20] at H
  have c20b0:=decide_eq_true c20
  clear c20
  simp only [Option.some.injEq,Prod.mk.injEq] at H
  obtain ⟨rfl,rfl,rfl⟩:=H
  go_enter Try.func84,Try.ntmps84
  go_wp2_with (first|((with_reducible refine gate_dst (N:=1) rfl ?_);refine box_event ?hg (N:=1) ?hd (cs:=#[.int .i64 a0_0,.slice A0_1 l0_1.length c0_1,.int .i64 a0_2,.slice A0_3 l0_3.length c0_3]) (t:=33) ?hr ?_;(case hd=>rfl);(case hg=>rfl);(case hr=>first|(go_simp;done)|(go_simp;rfl));intro gb101 hg w21 hbox hb;have BK101:=Aside0.mk (hbox);have GW101:=Aside0.mk ((by rw [hg];exact (below_size bl):w.heap.size≤gb101));have GE101:=Aside0.mk ((by rw [hg];exact (below_size bl):w.heap.size≤gb101));replace HB:=Aside0.mk (below_step bl hb);clear hb hbox hg)|((with_reducible refine gate_dst (N:=2) rfl ?_);refine box_event ?hg (N:=2) ?hd (cs:=#[.int .i64 0,.slice none 0 0]) (t:=31) ?hr ?_;(case hd=>rfl);(case hg=>rfl);(case hr=>first|(go_simp;done)|(go_simp;rfl));intro gb102 hg w22 hbox hb;have BK102:=Aside0.mk (hbox);have GW102:=Aside0.mk ((by rw [hg];exact (below_size bl):w.heap.size≤gb102));have GE102:=Aside0.mk ((by rw [hg];exact (below_size bl):w.heap.size≤gb102));replace HB:=Aside0.mk (below_step bl hb);have NB101_102:=Aside0.mk ((by rw [hg];exact Nat.ne_of_lt (blk_lt (g:=gb101) (o:=.cells #[.int .i64 a0_0,.slice A0_1 l0_1.length c0_1,.int .i64 a0_2,.slice A0_3 l0_3.length c0_3] 33 (0,0)) bk):gb101 ≠ gb102));have NB102_101:=Aside0.mk ((by rw [hg];exact Nat.ne_of_gt (blk_lt (g:=gb101) (o:=.cells #[.int .i64 a0_0,.slice A0_1 l0_1.length c0_1,.int .i64 a0_2,.slice A0_3 l0_3.length c0_3] 33 (0,0)) bk):gb102 ≠ gb101));replace BK101:=Aside0.mk (blk_below (g:=gb101) (o:=.cells #[.int .i64 a0_0,.slice A0_1 l0_1.length c0_1,.int .i64 a0_2,.slice A0_3 l0_3.length c0_3] 33 (0,0)) bk hb);clear hb hbox hg;have hnb23:=NB101_102.out;have hnc23:=NB102_101.out;have hcz24_0:w22.cell? ⟨gb101,0,none⟩=some (.int .i64 a0_0):=(blk_cell BK101.out 0).trans rfl;have hcz24_1:w22.cell? ⟨gb101,1,none⟩=some (.slice A0_1 l0_1.length c0_1):=(blk_cell BK101.out 1).trans rfl;have hcz24_2:w22.cell? ⟨gb101,2,none⟩=some (.int .i64 a0_2):=(blk_cell BK101.out 2).trans rfl;have hcz24_3:w22.cell? ⟨gb101,3,none⟩=some (.slice A0_3 l0_3.length c0_3):=(blk_cell BK101.out 3).trans rfl;have hfz24_0:=blk_frozen BK101.out 0;have hfz24_1:=blk_frozen BK101.out 1;have hfz24_2:=blk_frozen BK101.out 2;have hfz24_3:=blk_frozen BK101.out 3)|((with_reducible refine gate_callee (f:=161) rfl ?_);refine goesL_ (some 6) rfl rfl Try.func161 (by kernel_rfl) rfl #[.agg #[.int .i64 a0_0,.slice A0_1 l0_1.length c0_1,.int .i64 a0_2,.slice A0_3 l0_3.length c0_3]] rfl gm ?_;(with_reducible refine (F161.calls k a0_0 _ _ l0_1 a0_2 _ _ l0_3 true _ ?side1 ?side2 ?side3 ?side4 A2.out).mono ?_);(case side1=>exact aC (Kd.C_below HR0_1.out HB.out));(case side2=>exact HC0_1.out);(case side3=>exact aC (Kd.C_below HR0_3.out HB.out));(case side4=>exact HC0_3.out);rintro e w25 ⟨rfl,hb⟩;refine ⟨_,rfl,?_⟩;have n0_:=Aside0.mk (blk_below (g:=gb101) (o:=.cells #[.int .i64 a0_0,.slice A0_1 l0_1.length c0_1,.int .i64 a0_2,.slice A0_3 l0_3.length c0_3] 33 (0,0)) bk hb);have n1_:=Aside0.mk (blk_below (g:=gb102) (o:=.cells #[.int .i64 0,.slice none 0 0] 31 (0,0)) bk hb);have n2_:=Aside0.mk (below_step bl hb);clear BK101;clear BK102;clear HB;have BK101:=n0_;have BK102:=n1_;have HB:=n2_;clear n0_ n1_ n2_;(try clear hb);(try clear hb2);(try clear hk);(try clear hi);have hcz26_0:w25.cell? ⟨gb101,0,none⟩=some (.int .i64 a0_0):=(blk_cell BK101.out 0).trans rfl;have hcz26_1:w25.cell? ⟨gb101,1,none⟩=some (.slice A0_1 l0_1.length c0_1):=(blk_cell BK101.out 1).trans rfl;have hcz26_2:w25.cell? ⟨gb101,2,none⟩=some (.int .i64 a0_2):=(blk_cell BK101.out 2).trans rfl;have hcz26_3:w25.cell? ⟨gb101,3,none⟩=some (.slice A0_3 l0_3.length c0_3):=(blk_cell BK101.out 3).trans rfl;have hfz26_0:=blk_frozen BK101.out 0;have hfz26_1:=blk_frozen BK101.out 1;have hfz26_2:=blk_frozen BK101.out 2;have hfz26_3:=blk_frozen BK101.out 3)|((with_reducible refine gate_callee (f:=162) rfl ?_);refine goesL_ (some 10) rfl rfl Try.func162 (by kernel_rfl) rfl #[.agg #[.int .i64 a0_0,.slice A0_1 l0_1.length c0_1,.int .i64 a0_2,.slice A0_3 l0_3.length c0_3]] rfl gm ?_;(with_reducible refine (F162.calls k a0_0 _ _ l0_1 a0_2 _ _ l0_3 t104 t105 _ ?side1 ?side2 ?side3 ?side4 A4.out).mono ?_);(case side1=>exact aC (Kd.C_below HR0_1.out HB.out));(case side2=>exact HC0_1.out);(case side3=>exact aC (Kd.C_below HR0_3.out HB.out));(case side4=>exact HC0_3.out);rintro e w27 ⟨v106,rfl,ho0,hb⟩;refine ⟨_,rfl,?_⟩;have n0_:=Aside0.mk (Kd.S_lower ho0 (below_size bl));have n1_:=Aside0.mk (blk_below (g:=gb101) (o:=.cells #[.int .i64 a0_0,.slice A0_1 l0_1.length c0_1,.int .i64 a0_2,.slice A0_3 l0_3.length c0_3] 33 (0,0)) bk hb);have n2_:=Aside0.mk (blk_below (g:=gb102) (o:=.cells #[.int .i64 0,.slice none 0 0] 31 (0,0)) bk hb);have n3_:=Aside0.mk (below_step bl hb);clear BK101;clear BK102;clear HB;have HO107:=n0_;have BK101:=n1_;have BK102:=n2_;have HB:=n3_;clear n0_ n1_ n2_ n3_;(try clear hb);(try clear hb2);(try clear hk);(try clear hi);(try clear ho0))|((with_reducible refine gate_dst (N:=4) rfl ?_);refine box_event ?hg (N:=4) ?hd (cs:=#[.int .i64 0,.slice none 0 0]) (t:=31) ?hr ?_;(case hd=>rfl);(case hg=>rfl);(case hr=>first|(go_simp;done)|(go_simp;rfl));intro gb108 hg w28 hbox hb;have n0_:=Aside0.mk (Kd.S_below (aS HO107.out) hb);have n1_:=Aside0.mk (blk_below (g:=gb101) (o:=.cells #[.int .i64 a0_0,.slice A0_1 l0_1.length c0_1,.int .i64 a0_2,.slice A0_3 l0_3.length c0_3] 33 (0,0)) bk hb);have n2_:=Aside0.mk (blk_below (g:=gb102) (o:=.cells #[.int .i64 0,.slice none 0 0] 31 (0,0)) bk hb);have n3_:=Aside0.mk (below_step bl hb);have n4_:=Aside0.mk (hbox);have n5_:=Aside0.mk ((by rw [hg];exact (below_size bl):w.heap.size≤gb108));have n6_:=Aside0.mk ((by rw [hg];exact (below_size bl):w.heap.size≤gb108));have n7_:=Aside0.mk ((by rw [hg];exact Nat.ne_of_lt (blk_lt (g:=gb101) (o:=.cells #[.int .i64 a0_0,.slice A0_1 l0_1.length c0_1,.int .i64 a0_2,.slice A0_3 l0_3.length c0_3] 33 (0,0)) bk):gb101 ≠ gb108));have n8_:=Aside0.mk ((by rw [hg];exact Nat.ne_of_gt (blk_lt (g:=gb101) (o:=.cells #[.int .i64 a0_0,.slice A0_1 l0_1.length c0_1,.int .i64 a0_2,.slice A0_3 l0_3.length c0_3] 33 (0,0)) bk):gb108 ≠ gb101));have n9_:=Aside0.mk ((by rw [hg];exact Nat.ne_of_lt (blk_lt (g:=gb102) (o:=.cells #[.int .i64 0,.slice none 0 0] 31 (0,0)) bk):gb102 ≠ gb108));have n10_:=Aside0.mk ((by rw [hg];exact Nat.ne_of_gt (blk_lt (g:=gb102) (o:=.cells #[.int .i64 0,.slice none 0 0] 31 (0,0)) bk):gb108 ≠ gb102));clear HO107;clear BK101;clear BK102;clear HB;have HO107:=n0_;have BK101:=n1_;have BK102:=n2_;have HB:=n3_;have BK108:=n4_;have GW108:=n5_;have GE108:=n6_;have NB101_108:=n7_;have NB108_101:=n8_;have NB102_108:=n9_;have NB108_102:=n10_;clear n0_ n1_ n2_ n3_ n4_ n5_ n6_ n7_ n8_ n9_ n10_;clear hb hbox hg;have hnb29:=NB108_101.out;have hnc29:=NB101_108.out;have hnb30:=NB108_102.out;have hnc30:=NB102_108.out;have hcz31_0:w28.cell? ⟨gb108,0,none⟩=some (.int .i64 0):=(blk_cell BK108.out 0).trans rfl;have hcz31_1:w28.cell? ⟨gb108,1,none⟩=some (.slice none 0 0):=(blk_cell BK108.out 1).trans rfl;have hfz31_0:=blk_frozen BK108.out 0;have hfz31_1:=blk_frozen BK108.out 1;obtain ⟨Ao32,co32,eo32⟩:=Kd.S_slice HO107.out;subst eo32)|(go_at_call 163;(with_reducible refine (F163.calls t104 _ _ t105 t109 _ ?side1 ?side2 A19.out).mono ?_);(case side1=>refine (Kd.S_reads' (e:=28) (base:=w.heap.size) (ok:=fun k_=>True) (n:=t105.length) (c:=co32) ?_).2.2;exact (by (with_reducible repeat (first|apply Kd.S_alloc|apply Kd.S_drewN|apply Kd.S_drew));exact (Kd.S_mono (Kd.S_far (p:=⟨gb108,1,none⟩) (Kd.S_far (p:=⟨gb108,0,none⟩) (Kd.S_types HO107.out BK108.out (by decide)) (fun _ hk=>hk.2) (.int .i64 t104)) (fun _ hk=>hk.2) (.slice Ao32 t105.length co32)) (fun _ h_=>h_.1))));(case side2=>exact (Kd.S_reads' HO107.out).2.1);rintro e w33 ⟨rfl,hb⟩;replace HO107:=Aside0.mk (Kd.S_below (by (with_reducible repeat (first|apply Kd.S_alloc|apply Kd.S_drewN|apply Kd.S_drew));exact (Kd.S_mono (Kd.S_far (p:=⟨gb108,1,none⟩) (Kd.S_far (p:=⟨gb108,0,none⟩) (Kd.S_types HO107.out BK108.out (by decide)) (fun _ hk=>hk.2) (.int .i64 t104)) (fun _ hk=>hk.2) (.slice Ao32 t105.length co32)) (fun _ h_=>h_.1))) hb);replace BK101:=Aside0.mk (blk_below (g:=gb101) (o:=.cells #[.int .i64 a0_0,.slice A0_1 l0_1.length c0_1,.int .i64 a0_2,.slice A0_3 l0_3.length c0_3] 33 (0,0)) (by (with_reducible repeat (first|refine blk_drewN ?_ _|refine blk_drew ?_|refine blk_alloc ?_ _));refine blk_far ?_ NB101_108.out _;(with_reducible repeat (first|refine blk_drewN ?_ _|refine blk_drew ?_|refine blk_alloc ?_ _));refine blk_far ?_ NB101_108.out _;(with_reducible repeat (first|refine blk_drewN ?_ _|refine blk_drew ?_|refine blk_alloc ?_ _));exact BK101.out) hb);replace BK102:=Aside0.mk (blk_below (g:=gb102) (o:=.cells #[.int .i64 0,.slice none 0 0] 31 (0,0)) (by (with_reducible repeat (first|refine blk_drewN ?_ _|refine blk_drew ?_|refine blk_alloc ?_ _));refine blk_far ?_ NB102_108.out _;(with_reducible repeat (first|refine blk_drewN ?_ _|refine blk_drew ?_|refine blk_alloc ?_ _));refine blk_far ?_ NB102_108.out _;(with_reducible repeat (first|refine blk_drewN ?_ _|refine blk_drew ?_|refine blk_alloc ?_ _));exact BK102.out) hb);replace BK108:=Aside0.mk (blk_below (g:=gb108) (o:=.cells #[.int .i64 t104,.slice Ao32 t105.length co32] 31 (0,0)) (by (with_reducible repeat (first|refine blk_drewN ?_ _|refine blk_drew ?_|refine blk_alloc ?_ _));refine blk_put (cs:=#[.int .i64 t104,.slice none 0 0]) ?_ 1 _ rfl;(with_reducible repeat (first|refine blk_drewN ?_ _|refine blk_drew ?_|refine blk_alloc ?_ _));refine blk_put (cs:=#[.int .i64 0,.slice none 0 0]) ?_ 0 _ rfl;(with_reducible repeat (first|refine blk_drewN ?_ _|refine blk_drew ?_|refine blk_alloc ?_ _));exact BK108.out) hb);replace HB:=Aside0.mk (below_step bl hb);(try clear hb);(try clear hb2);(try clear hk);(try clear hi);have hcz34_0:w33.cell? ⟨gb102,0,none⟩=some (.int .i64 0):=(blk_cell BK102.out 0).trans rfl;have hcz34_1:w33.cell? ⟨gb102,1,none⟩=some (.slice none 0 0):=(blk_cell BK102.out 1).trans rfl;have hfz34_0:=blk_frozen BK102.out 0;have hfz34_1:=blk_frozen BK102.out 1))
  refine bodyPost_ret (results_ct rfl _ _ gb102 31 #[.int .i64 0,.slice none 0 0] (0,0) _ rfl (by (with_reducible repeat (first|refine blk_drewN ?_ _|refine blk_drew ?_|refine blk_alloc ?_ _));refine blk_put (cs:=#[.int .i64 0,.slice none 0 0]) ?_ 1 _ rfl;(with_reducible repeat (first|refine blk_drewN ?_ _|refine blk_drew ?_|refine blk_alloc ?_ _));refine blk_put (cs:=#[.int .i64 0,.slice none 0 0]) ?_ 0 _ rfl;(with_reducible repeat (first|refine blk_drewN ?_ _|refine blk_drew ?_|refine blk_alloc ?_ _));exact BK102.out) Try.underlying31 rfl (by kernel_rfl)) rfl ?_
  exact ⟨_,by first|rfl|(simp [errW_none,errW_some]<;>rfl)|(simp [*,errW_none,errW_some]<;>rfl),by first|exact Kd.S_nil _ _ _ _ _|exact Kd.N_nil _ _ _ _ _|exact Kd.V_nil _ _ _ _ _|exact Kd.Q_nil _ _ _ _ _|exact Kd.R_nil _ _ _ _ _,bl⟩
 rw [if_pos c5] at H
 have c5b0:=decide_eq_true c5
 clear c5
 simp only [Option.some.injEq,Prod.mk.injEq] at H
 obtain ⟨rfl,rfl,rfl⟩:=H
 go_enter Try.func84,Try.ntmps84
 go_wp2_with (first|((with_reducible refine gate_dst (N:=1) rfl ?_);refine box_event ?hg (N:=1) ?hd (cs:=#[.int .i64 a0_0,.slice A0_1 l0_1.length c0_1,.int .i64 a0_2,.slice A0_3 l0_3.length c0_3]) (t:=33) ?hr ?_;(case hd=>rfl);(case hg=>rfl);(case hr=>first|(go_simp;done)|(go_simp;rfl));intro gb101 hg w6 hbox hb;have BK101:=Aside0.mk (hbox);have GW101:=Aside0.mk ((by rw [hg];exact (below_size bl):w.heap.size≤gb101));have GE101:=Aside0.mk ((by rw [hg];exact (below_size bl):w.heap.size≤gb101));replace HB:=Aside0.mk (below_step bl hb);clear hb hbox hg)|((with_reducible refine gate_dst (N:=2) rfl ?_);refine box_event ?hg (N:=2) ?hd (cs:=#[.int .i64 0,.slice none 0 0]) (t:=31) ?hr ?_;(case hd=>rfl);(case hg=>rfl);(case hr=>first|(go_simp;done)|(go_simp;rfl));intro gb102 hg w7 hbox hb;have BK102:=Aside0.mk (hbox);have GW102:=Aside0.mk ((by rw [hg];exact (below_size bl):w.heap.size≤gb102));have GE102:=Aside0.mk ((by rw [hg];exact (below_size bl):w.heap.size≤gb102));replace HB:=Aside0.mk (below_step bl hb);have NB101_102:=Aside0.mk ((by rw [hg];exact Nat.ne_of_lt (blk_lt (g:=gb101) (o:=.cells #[.int .i64 a0_0,.slice A0_1 l0_1.length c0_1,.int .i64 a0_2,.slice A0_3 l0_3.length c0_3] 33 (0,0)) bk):gb101 ≠ gb102));have NB102_101:=Aside0.mk ((by rw [hg];exact Nat.ne_of_gt (blk_lt (g:=gb101) (o:=.cells #[.int .i64 a0_0,.slice A0_1 l0_1.length c0_1,.int .i64 a0_2,.slice A0_3 l0_3.length c0_3] 33 (0,0)) bk):gb102 ≠ gb101));replace BK101:=Aside0.mk (blk_below (g:=gb101) (o:=.cells #[.int .i64 a0_0,.slice A0_1 l0_1.length c0_1,.int .i64 a0_2,.slice A0_3 l0_3.length c0_3] 33 (0,0)) bk hb);clear hb hbox hg;have hnb8:=NB101_102.out;have hnc8:=NB102_101.out;have hcz9_0:w7.cell? ⟨gb101,0,none⟩=some (.int .i64 a0_0):=(blk_cell BK101.out 0).trans rfl;have hcz9_1:w7.cell? ⟨gb101,1,none⟩=some (.slice A0_1 l0_1.length c0_1):=(blk_cell BK101.out 1).trans rfl;have hcz9_2:w7.cell? ⟨gb101,2,none⟩=some (.int .i64 a0_2):=(blk_cell BK101.out 2).trans rfl;have hcz9_3:w7.cell? ⟨gb101,3,none⟩=some (.slice A0_3 l0_3.length c0_3):=(blk_cell BK101.out 3).trans rfl;have hfz9_0:=blk_frozen BK101.out 0;have hfz9_1:=blk_frozen BK101.out 1;have hfz9_2:=blk_frozen BK101.out 2;have hfz9_3:=blk_frozen BK101.out 3)|((with_reducible refine gate_callee (f:=161) rfl ?_);refine goesL_ (some 6) rfl rfl Try.func161 (by kernel_rfl) rfl #[.agg #[.int .i64 a0_0,.slice A0_1 l0_1.length c0_1,.int .i64 a0_2,.slice A0_3 l0_3.length c0_3]] rfl gm ?_;(with_reducible refine (F161.calls k a0_0 _ _ l0_1 a0_2 _ _ l0_3 true _ ?side1 ?side2 ?side3 ?side4 A2.out).mono ?_);(case side1=>exact aC (Kd.C_below HR0_1.out HB.out));(case side2=>exact HC0_1.out);(case side3=>exact aC (Kd.C_below HR0_3.out HB.out));(case side4=>exact HC0_3.out);rintro e w10 ⟨rfl,hb⟩;refine ⟨_,rfl,?_⟩;have n0_:=Aside0.mk (blk_below (g:=gb101) (o:=.cells #[.int .i64 a0_0,.slice A0_1 l0_1.length c0_1,.int .i64 a0_2,.slice A0_3 l0_3.length c0_3] 33 (0,0)) bk hb);have n1_:=Aside0.mk (blk_below (g:=gb102) (o:=.cells #[.int .i64 0,.slice none 0 0] 31 (0,0)) bk hb);have n2_:=Aside0.mk (below_step bl hb);clear BK101;clear BK102;clear HB;have BK101:=n0_;have BK102:=n1_;have HB:=n2_;clear n0_ n1_ n2_;(try clear hb);(try clear hb2);(try clear hk);(try clear hi);have hcz11_0:w10.cell? ⟨gb101,0,none⟩=some (.int .i64 a0_0):=(blk_cell BK101.out 0).trans rfl;have hcz11_1:w10.cell? ⟨gb101,1,none⟩=some (.slice A0_1 l0_1.length c0_1):=(blk_cell BK101.out 1).trans rfl;have hcz11_2:w10.cell? ⟨gb101,2,none⟩=some (.int .i64 a0_2):=(blk_cell BK101.out 2).trans rfl;have hcz11_3:w10.cell? ⟨gb101,3,none⟩=some (.slice A0_3 l0_3.length c0_3):=(blk_cell BK101.out 3).trans rfl;have hfz11_0:=blk_frozen BK101.out 0;have hfz11_1:=blk_frozen BK101.out 1;have hfz11_2:=blk_frozen BK101.out 2;have hfz11_3:=blk_frozen BK101.out 3)|((with_reducible refine gate_callee (f:=162) rfl ?_);refine goesL_ (some 10) rfl rfl Try.func162 (by kernel_rfl) rfl #[.agg #[.int .i64 a0_0,.slice A0_1 l0_1.length c0_1,.int .i64 a0_2,.slice A0_3 l0_3.length c0_3]] rfl gm ?_;(with_reducible refine (F162.calls k a0_0 _ _ l0_1 a0_2 _ _ l0_3 t104 t105 _ ?side1 ?side2 ?side3 ?side4 A4.out).mono ?_);(case side1=>exact aC (Kd.C_below HR0_1.out HB.out));(case side2=>exact HC0_1.out);(case side3=>exact aC (Kd.C_below HR0_3.out HB.out));(case side4=>exact HC0_3.out);rintro e w12 ⟨v106,rfl,ho0,hb⟩;refine ⟨_,rfl,?_⟩;have n0_:=Aside0.mk (Kd.S_lower ho0 (below_size bl));have n1_:=Aside0.mk (blk_below (g:=gb101) (o:=.cells #[.int .i64 a0_0,.slice A0_1 l0_1.length c0_1,.int .i64 a0_2,.slice A0_3 l0_3.length c0_3] 33 (0,0)) bk hb);have n2_:=Aside0.mk (blk_below (g:=gb102) (o:=.cells #[.int .i64 0,.slice none 0 0] 31 (0,0)) bk hb);have n3_:=Aside0.mk (below_step bl hb);clear BK101;clear BK102;clear HB;have HO107:=n0_;have BK101:=n1_;have BK102:=n2_;have HB:=n3_;clear n0_ n1_ n2_ n3_;(try clear hb);(try clear hb2);(try clear hk);(try clear hi);(try clear ho0))|((with_reducible refine gate_dst (N:=4) rfl ?_);refine box_event ?hg (N:=4) ?hd (cs:=#[.int .i64 0,.slice none 0 0]) (t:=31) ?hr ?_;(case hd=>rfl);(case hg=>rfl);(case hr=>first|(go_simp;done)|(go_simp;rfl));intro gb108 hg w13 hbox hb;have n0_:=Aside0.mk (Kd.S_below (aS HO107.out) hb);have n1_:=Aside0.mk (blk_below (g:=gb101) (o:=.cells #[.int .i64 a0_0,.slice A0_1 l0_1.length c0_1,.int .i64 a0_2,.slice A0_3 l0_3.length c0_3] 33 (0,0)) bk hb);have n2_:=Aside0.mk (blk_below (g:=gb102) (o:=.cells #[.int .i64 0,.slice none 0 0] 31 (0,0)) bk hb);have n3_:=Aside0.mk (below_step bl hb);have n4_:=Aside0.mk (hbox);have n5_:=Aside0.mk ((by rw [hg];exact (below_size bl):w.heap.size≤gb108));have n6_:=Aside0.mk ((by rw [hg];exact (below_size bl):w.heap.size≤gb108));have n7_:=Aside0.mk ((by rw [hg];exact Nat.ne_of_lt (blk_lt (g:=gb101) (o:=.cells #[.int .i64 a0_0,.slice A0_1 l0_1.length c0_1,.int .i64 a0_2,.slice A0_3 l0_3.length c0_3] 33 (0,0)) bk):gb101 ≠ gb108));have n8_:=Aside0.mk ((by rw [hg];exact Nat.ne_of_gt (blk_lt (g:=gb101) (o:=.cells #[.int .i64 a0_0,.slice A0_1 l0_1.length c0_1,.int .i64 a0_2,.slice A0_3 l0_3.length c0_3] 33 (0,0)) bk):gb108 ≠ gb101));have n9_:=Aside0.mk ((by rw [hg];exact Nat.ne_of_lt (blk_lt (g:=gb102) (o:=.cells #[.int .i64 0,.slice none 0 0] 31 (0,0)) bk):gb102 ≠ gb108));have n10_:=Aside0.mk ((by rw [hg];exact Nat.ne_of_gt (blk_lt (g:=gb102) (o:=.cells #[.int .i64 0,.slice none 0 0] 31 (0,0)) bk):gb108 ≠ gb102));clear HO107;clear BK101;clear BK102;clear HB;have HO107:=n0_;have BK101:=n1_;have BK102:=n2_;have HB:=n3_;have BK108:=n4_;have GW108:=n5_;have GE108:=n6_;have NB101_108:=n7_;have NB108_101:=n8_;have NB102_108:=n9_;have NB108_102:=n10_;clear n0_ n1_ n2_ n3_ n4_ n5_ n6_ n7_ n8_ n9_ n10_;clear hb hbox hg;have hnb14:=NB108_101.out;have hnc14:=NB101_108.out;have hnb15:=NB108_102.out;have hnc15:=NB102_108.out;have hcz16_0:w13.cell? ⟨gb108,0,none⟩=some (.int .i64 0):=(blk_cell BK108.out 0).trans rfl;have hcz16_1:w13.cell? ⟨gb108,1,none⟩=some (.slice none 0 0):=(blk_cell BK108.out 1).trans rfl;have hfz16_0:=blk_frozen BK108.out 0;have hfz16_1:=blk_frozen BK108.out 1;obtain ⟨Ao17,co17,eo17⟩:=Kd.S_slice HO107.out;subst eo17;have hcz18_0:w13.cell? ⟨gb102,0,none⟩=some (.int .i64 0):=(blk_cell BK102.out 0).trans rfl;have hcz18_1:w13.cell? ⟨gb102,1,none⟩=some (.slice none 0 0):=(blk_cell BK102.out 1).trans rfl;have hfz18_0:=blk_frozen BK102.out 0;have hfz18_1:=blk_frozen BK102.out 1))
 refine bodyPost_ret (results_ct rfl _ _ gb102 31 #[.int .i64 0,.slice none 0 0] (0,0) _ rfl (by (with_reducible repeat (first|refine blk_drewN ?_ _|refine blk_drew ?_|refine blk_alloc ?_ _));refine blk_put (cs:=#[.int .i64 0,.slice none 0 0]) ?_ 1 _ rfl;(with_reducible repeat (first|refine blk_drewN ?_ _|refine blk_drew ?_|refine blk_alloc ?_ _));refine blk_put (cs:=#[.int .i64 0,.slice none 0 0]) ?_ 0 _ rfl;(with_reducible repeat (first|refine blk_drewN ?_ _|refine blk_drew ?_|refine blk_alloc ?_ _));refine blk_far ?_ NB102_108.out _;(with_reducible repeat (first|refine blk_drewN ?_ _|refine blk_drew ?_|refine blk_alloc ?_ _));refine blk_far ?_ NB102_108.out _;(with_reducible repeat (first|refine blk_drewN ?_ _|refine blk_drew ?_|refine blk_alloc ?_ _));exact BK102.out) Try.underlying31 rfl (by kernel_rfl)) rfl ?_
 exact ⟨_,by first|rfl|(simp [errW_none,errW_some]<;>rfl)|(simp [*,errW_none,errW_some]<;>rfl),by first|exact Kd.S_nil _ _ _ _ _|exact Kd.N_nil _ _ _ _ _|exact Kd.V_nil _ _ _ _ _|exact Kd.Q_nil _ _ _ _ _|exact Kd.R_nil _ _ _ _ _,bl⟩
end Go.Proofs.Ytoebojnhchocaaa.A
/- Set with little white space, by a program. -/
