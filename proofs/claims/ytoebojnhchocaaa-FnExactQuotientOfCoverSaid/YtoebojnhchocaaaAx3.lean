/- The functions that one law reaches, each as a Lean function, and that Go's call comes to what it says. Condition of each: that the Lean function answers (is not none). -/
import Derived.Test.YtoebojnhchocaaaAx0
import Derived.Test.YtoebojnhchocaaaAx2
namespace Go.Proofs.Ytoebojnhchocaaa.A
open Go.RowKit Go.Proofs.YtoebojnhchocaaaW.PrintWords Go.Proofs.YtoebojnhchocaaaW.PrintLast Go.Proofs.YtoebojnhchocaaaW.PrintMore
attribute [local go_sem] max2_int min2_int max_two min_two max_three min_three max_four min_four   -- for this text's walks alone
set_option linter.unusedVariables false
set_option linter.unusedSimpArgs false
/-! ### F158: function 158 -/
mutual
def F158.l0 : Nat → Int → Int → List (List Int) → Int → List (List Int) → Int → List (List Int) → Option (Int × (List (List Int)))
 | 0,_,_,_,_,_,_,_=>none
 | k+1,x4,x102000,x102001,x102002,x102003,x107000,x107001=>if x4 < (x102003.length:Int) then (F158.l1 k x4 0 x102000 x102001 x102002 x102003 x107000 x107001) else (some (x107000,x107001))
def F158.l1 : Nat → Int → Int → Int → List (List Int) → Int → List (List Int) → Int → List (List Int) → Option (Int × (List (List Int)))
 | 0,_,_,_,_,_,_,_,_=>none
 | k+1,x4,x5,x102000,x102001,x102002,x102003,x107000,x107001=>if x5 < x102002 then (if 0≤x4 then (if x4 < (x102001.length:Int) then (if 0 < ((rd_L1 x102001 x4).length:Int) then (if 1 < ((rd_L1 x102001 x4).length:Int) then (if x4 < (x102003.length:Int) then (if 0≤x5 then (if x5 < ((rd_L1 x102003 x4).length:Int) then (if x107001.length < 5864062014805 then (F158.l1 k x4 (wrap64 (x5+1)) x102000 x102001 x102002 x102003 x107000 (x107001 ++ [(([wrap64 ((wrap64 ((rd (rd_L1 x102001 x4) 0) * x102002))+x5),wrap64 ((wrap64 ((rd (rd_L1 x102001 x4) 1) * x102002))+(rd (rd_L1 x102003 x4) x5))]:List Int))])) else (none)) else (none)) else (none)) else (none)) else (none)) else (none)) else (none)) else (none)) else (F158.l0 k (wrap64 (x4+1)) x102000 x102001 x102002 x102003 x107000 x107001)
end
def F158.f (k:Nat) (a0_0:Int) (l0_1:List (List Int)) (a0_2:Int) (l0_3:List (List Int)):Option (Int × (List (List Int))):=F158.l0 k 0 a0_0 l0_1 a0_2 l0_3 (wrap64 (a0_0 * a0_2)) (([]:List (List Int)))
theorem F158.mono_l : ∀ k, (∀ y0 y1 y2 y3 y4 y5 y6, LeO (F158.l0 k y0 y1 y2 y3 y4 y5 y6) (F158.l0 (k + 1) y0 y1 y2 y3 y4 y5 y6)) ∧ (∀ y0 y1 y2 y3 y4 y5 y6 y7, LeO (F158.l1 k y0 y1 y2 y3 y4 y5 y6 y7) (F158.l1 (k + 1) y0 y1 y2 y3 y4 y5 y6 y7))
 | 0=>⟨fun _ _ _ _ _ _ _ r h=>by simp [F158.l0] at h,fun _ _ _ _ _ _ _ _ r h=>by simp [F158.l1] at h⟩
 | k+1=>by
  obtain ⟨ih0,ih1⟩:=F158.mono_l k
  refine ⟨?_, ?_⟩ <;> intros <;> (first | unfold F158.l0 | unfold F158.l1) <;> repeat' first
   | (with_reducible first|exact ih0 _ _ _ _ _ _ _|exact ih1 _ _ _ _ _ _ _ _|exact LeO.refl _|exact LeO.none _|refine LeO.ite ?_ ?_|refine LeO.bind ?_ (fun _=>?_))
   | exact ih0 _ _ _ _ _ _ _|exact ih1 _ _ _ _ _ _ _ _|exact LeO.none _|refine LeO.ite ?_ ?_|refine LeO.bind ?_ (fun _=>?_)
theorem F158.mono:∀ a0 a1 a2 a3 k,LeO (F158.f k a0 a1 a2 a3) (F158.f (k+1) a0 a1 a2 a3):=by
 intro a0 a1 a2 a3 k
 obtain ⟨ih0,ih1⟩:=F158.mono_l k
 unfold F158.f
 repeat' first
  | (with_reducible first|exact ih0 _ _ _ _ _ _ _|exact ih1 _ _ _ _ _ _ _ _|exact LeO.refl _|exact LeO.none _|refine LeO.ite ?_ ?_|refine LeO.bind ?_ (fun _=>?_))
  | exact ih0 _ _ _ _ _ _ _|exact ih1 _ _ _ _ _ _ _ _|exact LeO.none _|refine LeO.ite ?_ ?_|refine LeO.bind ?_ (fun _=>?_)
def F158.T8:Bool × List (List Nat × List Nat):=(true,[([],[]),([0],[0]),([],[]),([2],[2]),([3],[3]),([],[]),([4,5],[4,5]),([6],[6]),([7],[7]),([8],[8]),([],[]),([10],[10]),([9,11],[9,11]),([],[]),([12,13],[12,13]),([],[]),([15],[15]),([16],[16]),([],[]),([17,18],[17,18]),([19],[19]),([20],[20]),([21],[21]),([],[]),([23],[23]),([22,24],[22,24]),([],[]),([26],[26]),([],[]),([27,28],[27,28]),([29],[29]),([],[]),([30,31],[30,31]),([32],[32]),([25,33],[25,33]),([14,34],[14,34]),([35],[35]),([1,36],[1,36]),([0,1,2,3,4,5,6,7,8,9,10,11,12,13,14,15,16,17,18,19,20,21,22,23,24,25,26,27,28,29,30,31,32,33,34,35,36,37],[]),([38,37,37,0,1,2,3,4,5,6,7,8,9,10,11,12,13,14,15,16,17,18,19,20,21,22,23,24,25,26,27,28,29,30,31,32,33,34,35,36,37],[37,38])])
def F158.B8:List Nat:=[0,1,0,4,12,0,60,124,252,508,0,1024,4092,0,16380,0,32768,98304,0,491520,1015808,2064384,4161536,0,8388608,33521664,0,67108864,0,469762048,1006632960,0,4227858432,8522825728,17179836416,34359738364,68719476732,137438953471,274877906943,549755813887]
theorem F158.tab8:rtab .any (opsOf Try.f158 8)=F158.T8:=by kernel_rfl
theorem F158.bits8:waitsOk F158.T8.2 F158.B8=true:=by kernel_rfl
set_option maxHeartbeats 8000000 in
set_option maxRecDepth 100000 in
theorem F158.calls (k : Nat) (a0_0 : Int) (A0_1 : Option Addr) (c0_1 : Nat) (l0_1 : List (List Int)) (a0_2 : Int) (A0_3 : Option Addr) (c0_3 : Nat) (l0_3 : List (List Int)) (r1 : Int) (r2 : List (List Int)) (w : World) (hr0_1 : Kd.C (Kd.slice 2 (Kd.int .i64)) w A0_1 l0_1.length l0_1) (hc0_1 : l0_1.length ≤ c0_1) (hr0_3 : Kd.C (Kd.slice 2 (Kd.int .i64)) w A0_3 l0_3.length l0_3) (hc0_3 : l0_3.length ≤ c0_3) (h : F158.f k a0_0 l0_1 a0_2 l0_3 = some (r1, r2)) :
  Calls Try.prog 158 #[.agg #[.int .i64 a0_0,.slice A0_1 l0_1.length c0_1,.int .i64 a0_2,.slice A0_3 l0_3.length c0_3]] w fun e w'=>∃ v1_:Value,e=.returned (.agg #[.int .i64 r1,v1_])∧Kd.S (Kd.slice 2 (Kd.int .i64)) 28 w' w.heap.size (fun _=>True) v1_ r2∧Below w.heap.size w w':=by
 have hu33:=Try.underlying33
 have hu31:=Try.underlying31
 have HR0_1:=Aside0.mk hr0_1
 have HC0_1:=Aside0.mk hc0_1
 clear hr0_1 hc0_1
 have HR0_3:=Aside0.mk hr0_3
 have HC0_3:=Aside0.mk hc0_3
 clear hr0_3 hc0_3
 have HB:=Aside0.mk (Below.refl w.heap.size w)
 have H:(F158.l0 k 0 a0_0 l0_1 a0_2 l0_3 (wrap64 (a0_0 * a0_2)) (([]:List (List Int))))=some (r1,r2):=h
 clear h
 obtain ⟨y103,hy103⟩:∃ y_:List (List Int),y_=(([]:List (List Int))):=⟨_,rfl⟩
 replace H:(F158.l0 k 0 a0_0 l0_1 a0_2 l0_3 (wrap64 (a0_0 * a0_2)) y103)=some (r1,r2):=by first|(rw [hy103];with_reducible exact H)|(have H2_:=(Option.bind_some _ _).symm.trans H;rw [hy103];with_reducible exact H2_)|(have H2_:=(Option.bind_some _ _).symm.trans H;with_reducible exact H2_)|with_reducible exact H|(rw [hy103];exact H)|exact H
 have Ny103:=Aside0.mk hy103
 clear hy103
 have H':=Aside0.mk H
 clear H
 go_enter Try.func158,Try.ntmps158
 go_wp2_with (first|((with_reducible refine gate_dst (N:=1) rfl ?_);refine box_event ?hg (N:=1) ?hd (cs:=#[.int .i64 a0_0,.slice A0_1 l0_1.length c0_1,.int .i64 a0_2,.slice A0_3 l0_3.length c0_3]) (t:=33) ?hr ?_;(case hd=>rfl);(case hg=>rfl);(case hr=>first|(go_simp;done)|(go_simp;rfl));intro gb101 hg w2 hbox hb;have BK101:=Aside0.mk (hbox);have GW101:=Aside0.mk ((by rw [hg];exact (below_size bl):w.heap.size≤gb101));have GE101:=Aside0.mk ((by rw [hg];exact (below_size bl):w.heap.size≤gb101));replace HB:=Aside0.mk (below_step bl hb);clear hb hbox hg)|((with_reducible refine gate_dst (N:=2) rfl ?_);refine box_event ?hg (N:=2) ?hd (cs:=#[.int .i64 0,.slice none 0 0]) (t:=31) ?hr ?_;(case hd=>rfl);(case hg=>rfl);(case hr=>first|(go_simp;done)|(go_simp;rfl));intro gb102 hg w3 hbox hb;have BK102:=Aside0.mk (hbox);have GW102:=Aside0.mk ((by rw [hg];exact (below_size bl):w.heap.size≤gb102));have GE102:=Aside0.mk ((by rw [hg];exact (below_size bl):w.heap.size≤gb102));replace HB:=Aside0.mk (below_step bl hb);have NB101_102:=Aside0.mk ((by rw [hg];exact Nat.ne_of_lt (blk_lt (g:=gb101) (o:=.cells #[.int .i64 a0_0,.slice A0_1 l0_1.length c0_1,.int .i64 a0_2,.slice A0_3 l0_3.length c0_3] 33 (0,0)) bk):gb101 ≠ gb102));have NB102_101:=Aside0.mk ((by rw [hg];exact Nat.ne_of_gt (blk_lt (g:=gb101) (o:=.cells #[.int .i64 a0_0,.slice A0_1 l0_1.length c0_1,.int .i64 a0_2,.slice A0_3 l0_3.length c0_3] 33 (0,0)) bk):gb102 ≠ gb101));replace BK101:=Aside0.mk (blk_below (g:=gb101) (o:=.cells #[.int .i64 a0_0,.slice A0_1 l0_1.length c0_1,.int .i64 a0_2,.slice A0_3 l0_3.length c0_3] 33 (0,0)) bk hb);clear hb hbox hg;have hnb4:=NB101_102.out;have hnc4:=NB102_101.out;have hcz5_0:w3.cell? ⟨gb101,0,none⟩=some (.int .i64 a0_0):=(blk_cell BK101.out 0).trans rfl;have hcz5_1:w3.cell? ⟨gb101,1,none⟩=some (.slice A0_1 l0_1.length c0_1):=(blk_cell BK101.out 1).trans rfl;have hcz5_2:w3.cell? ⟨gb101,2,none⟩=some (.int .i64 a0_2):=(blk_cell BK101.out 2).trans rfl;have hcz5_3:w3.cell? ⟨gb101,3,none⟩=some (.slice A0_3 l0_3.length c0_3):=(blk_cell BK101.out 3).trans rfl;have hfz5_0:=blk_frozen BK101.out 0;have hfz5_1:=blk_frozen BK101.out 1;have hfz5_2:=blk_frozen BK101.out 2;have hfz5_3:=blk_frozen BK101.out 3)|((with_reducible refine gate_dst (N:=12) rfl ?_);refine Kd.S_lit (Kd.slice 2 (Kd.int .i64)) _ 28 ?hg (N:=12) ?hd (xs:=([]:List (List Int))) (inner:=[]) (ok:=fun _=>True) (okp:=fun _=>True) ?hr ?hp (fun _ hk=>hk) trivial (Below.refl _ _) (Nat.le_refl _) (by simp) ?_;(case hd=>rfl);(case hg=>rfl);(case hr=>first|(go_simp;done)|(go_simp;rfl));(case hp=>exact (Reps.none _ _));intro v104 w6 ho7 hb hg_ hnew_;clear hg_ hnew_;(first|rw [← Ny103.out] at ho7|(simp only [Int.reduceToNat] at ho7;rw [← Ny103.out] at ho7));have n0_:=Aside0.mk (Kd.S_lower ho7 (below_size bl));have n1_:=Aside0.mk (blk_below (g:=gb101) (o:=.cells #[.int .i64 a0_0,.slice A0_1 l0_1.length c0_1,.int .i64 a0_2,.slice A0_3 l0_3.length c0_3] 33 (0,0)) bk hb);have n2_:=Aside0.mk (blk_below (g:=gb102) (o:=.cells #[.int .i64 0,.slice none 0 0] 31 (0,0)) bk hb);have n3_:=Aside0.mk (below_step bl hb);clear BK101;clear BK102;clear HB;have HO105:=n0_;have BK101:=n1_;have BK102:=n2_;have HB:=n3_;clear n0_ n1_ n2_ n3_;clear hb ho7;obtain ⟨Ao8,co8,eo8⟩:=Kd.S_slice HO105.out;subst eo8)|((with_reducible refine gate_dst (N:=3) rfl ?_);refine box_event ?hg (N:=3) ?hd (cs:=#[.int .i64 0,.slice none 0 0]) (t:=31) ?hr ?_;(case hd=>rfl);(case hg=>rfl);(case hr=>first|(go_simp;done)|(go_simp;rfl));intro gb106 hg w9 hbox hb;have n0_:=Aside0.mk (Kd.S_below (aS HO105.out) hb);have n1_:=Aside0.mk (blk_below (g:=gb101) (o:=.cells #[.int .i64 a0_0,.slice A0_1 l0_1.length c0_1,.int .i64 a0_2,.slice A0_3 l0_3.length c0_3] 33 (0,0)) bk hb);have n2_:=Aside0.mk (blk_below (g:=gb102) (o:=.cells #[.int .i64 0,.slice none 0 0] 31 (0,0)) bk hb);have n3_:=Aside0.mk (below_step bl hb);have n4_:=Aside0.mk (hbox);have n5_:=Aside0.mk ((by rw [hg];exact (below_size bl):w.heap.size≤gb106));have n6_:=Aside0.mk ((by rw [hg];exact (below_size bl):w.heap.size≤gb106));have n7_:=Aside0.mk ((by rw [hg];exact Nat.ne_of_lt (blk_lt (g:=gb101) (o:=.cells #[.int .i64 a0_0,.slice A0_1 l0_1.length c0_1,.int .i64 a0_2,.slice A0_3 l0_3.length c0_3] 33 (0,0)) bk):gb101 ≠ gb106));have n8_:=Aside0.mk ((by rw [hg];exact Nat.ne_of_gt (blk_lt (g:=gb101) (o:=.cells #[.int .i64 a0_0,.slice A0_1 l0_1.length c0_1,.int .i64 a0_2,.slice A0_3 l0_3.length c0_3] 33 (0,0)) bk):gb106 ≠ gb101));have n9_:=Aside0.mk ((by rw [hg];exact Nat.ne_of_lt (blk_lt (g:=gb102) (o:=.cells #[.int .i64 0,.slice none 0 0] 31 (0,0)) bk):gb102 ≠ gb106));have n10_:=Aside0.mk ((by rw [hg];exact Nat.ne_of_gt (blk_lt (g:=gb102) (o:=.cells #[.int .i64 0,.slice none 0 0] 31 (0,0)) bk):gb106 ≠ gb102));clear HO105;clear BK101;clear BK102;clear HB;have HO105:=n0_;have BK101:=n1_;have BK102:=n2_;have HB:=n3_;have BK106:=n4_;have GW106:=n5_;have GE106:=n6_;have NB101_106:=n7_;have NB106_101:=n8_;have NB102_106:=n9_;have NB106_102:=n10_;clear n0_ n1_ n2_ n3_ n4_ n5_ n6_ n7_ n8_ n9_ n10_;clear hb hbox hg;have hnb10:=NB106_101.out;have hnc10:=NB101_106.out;have hnb11:=NB106_102.out;have hnc11:=NB102_106.out;have hcz12_0:w9.cell? ⟨gb106,0,none⟩=some (.int .i64 0):=(blk_cell BK106.out 0).trans rfl;have hcz12_1:w9.cell? ⟨gb106,1,none⟩=some (.slice none 0 0):=(blk_cell BK106.out 1).trans rfl;have hfz12_0:=blk_frozen BK106.out 0;have hfz12_1:=blk_frozen BK106.out 1))
 go_loopg [4] k (fun kq v4 w'=>∃ (x4_1:Int) (x107001_1:List (List Int)) (u107001:Value),v4=.int .i64 x4_1∧Aside0 (F158.l0 kq x4_1 a0_0 l0_1 a0_2 l0_3 (wrap64 (a0_0 * a0_2)) x107001_1=some (r1,r2))∧Aside0 (kq≤k)∧Aside0 (Kd.S (Kd.slice 2 (Kd.int .i64)) 28 w' w.heap.size (fun _=>True) u107001 x107001_1)∧Aside0 (w'.heap[gb101]?=some (.cells #[.int .i64 a0_0,(.slice A0_1 l0_1.length c0_1),.int .i64 a0_2,(.slice A0_3 l0_3.length c0_3)] 33 (0,0)))∧Aside0 (w'.heap[gb102]?=some (.cells #[.int .i64 0,(.slice none 0 0)] 31 (0,0)))∧Aside0 (w'.heap[gb106]?=some (.cells #[.int .i64 (wrap64 (a0_0 * a0_2)),u107001] 31 (0,0)))∧Aside0 (Below w.heap.size w w'))
 case atStart=>exact ⟨(0),(y103),(.slice Ao8 y103.length co8),rs,H',⟨Nat.le_refl _⟩,⟨by (with_reducible repeat (first|apply Kd.S_alloc|apply Kd.S_drewN|apply Kd.S_drew));exact Kd.S_mono (Kd.S_far (p:=⟨gb106,1,none⟩) (Kd.S_far (p:=⟨gb106,0,none⟩) (Kd.S_types HO105.out BK106.out (by decide)) (fun _ hk=>hk.2) (.int .i64 (wrap64 (a0_0 * a0_2)))) (fun _ hk=>hk.2) (.slice Ao8 y103.length co8)) (fun _ hk=>trivial)⟩,⟨by (with_reducible repeat (first|refine blk_drewN ?_ _|refine blk_drew ?_|refine blk_alloc ?_ _));refine blk_far ?_ NB101_106.out _;(with_reducible repeat (first|refine blk_drewN ?_ _|refine blk_drew ?_|refine blk_alloc ?_ _));refine blk_far ?_ NB101_106.out _;(with_reducible repeat (first|refine blk_drewN ?_ _|refine blk_drew ?_|refine blk_alloc ?_ _));exact BK101.out⟩,⟨by (with_reducible repeat (first|refine blk_drewN ?_ _|refine blk_drew ?_|refine blk_alloc ?_ _));refine blk_far ?_ NB102_106.out _;(with_reducible repeat (first|refine blk_drewN ?_ _|refine blk_drew ?_|refine blk_alloc ?_ _));refine blk_far ?_ NB102_106.out _;(with_reducible repeat (first|refine blk_drewN ?_ _|refine blk_drew ?_|refine blk_alloc ?_ _));exact BK102.out⟩,⟨by (with_reducible repeat (first|refine blk_drewN ?_ _|refine blk_drew ?_|refine blk_alloc ?_ _));refine blk_put (cs:=#[.int .i64 (wrap64 (a0_0 * a0_2)),.slice none 0 0]) ?_ 1 _ rfl;(with_reducible repeat (first|refine blk_drewN ?_ _|refine blk_drew ?_|refine blk_alloc ?_ _));refine blk_put (cs:=#[.int .i64 0,.slice none 0 0]) ?_ 0 _ rfl;(with_reducible repeat (first|refine blk_drewN ?_ _|refine blk_drew ?_|refine blk_alloc ?_ _));exact BK106.out⟩,⟨bl⟩⟩
 case round =>
  clear H'
  (try clear c1);(try clear p2);(try clear c4);(try clear p6);(try clear c10);(try clear c11);(try clear hcz12_0);(try clear hcz12_1);(try clear hcz5_0);(try clear hcz5_1);(try clear hcz5_2);(try clear hcz5_3);(try clear hfz12_0);(try clear hfz12_1);(try clear hfz5_0);(try clear hfz5_1);(try clear hfz5_2);(try clear hfz5_3)
  obtain ⟨x4_1,x107001_1,u107001,rfl,HA,HK1,HO_107001,BK101,BK102,BK106,HB⟩:=hrel
  cases gk with
  | zero=>exact absurd HA.out (by simp [F158.l0])
  | succ k1 =>
   have H:=HA.out
   clear HA
   simp only [F158.l0] at H
   by_cases c13:x4_1 < (l0_3.length:Int)
   case neg =>
    rw [if_neg c13] at H
    have c13b0:decide (x4_1 < (l0_3.length:Int))=false:=decide_eq_false c13
    clear c13
    simp only [Option.some.injEq,Prod.mk.injEq] at H
    obtain ⟨rfl,rfl⟩:=H
    have hnb39:=NB101_102.out
    have hnc39:=NB102_101.out
    have hnb40:=NB101_106.out
    have hnc40:=NB106_101.out
    have hcz41_0:wr.cell? ⟨gb101,0,none⟩=some (.int .i64 a0_0):=(blk_cell BK101.out 0).trans rfl
    have hcz41_1:wr.cell? ⟨gb101,1,none⟩=some (.slice A0_1 l0_1.length c0_1):=(blk_cell BK101.out 1).trans rfl
    have hcz41_2:wr.cell? ⟨gb101,2,none⟩=some (.int .i64 a0_2):=(blk_cell BK101.out 2).trans rfl
    have hcz41_3:wr.cell? ⟨gb101,3,none⟩=some (.slice A0_3 l0_3.length c0_3):=(blk_cell BK101.out 3).trans rfl
    have hfz41_0:=blk_frozen BK101.out 0
    have hfz41_1:=blk_frozen BK101.out 1
    have hfz41_2:=blk_frozen BK101.out 2
    have hfz41_3:=blk_frozen BK101.out 3
    have hnb42:=NB106_102.out
    have hnc42:=NB102_106.out
    have hcz43_0:wr.cell? ⟨gb106,0,none⟩=some (.int .i64 (wrap64 (a0_0 * a0_2))):=(blk_cell BK106.out 0).trans rfl
    have hcz43_1:wr.cell? ⟨gb106,1,none⟩=some (u107001):=(blk_cell BK106.out 1).trans rfl
    have hfz43_0:=blk_frozen BK106.out 0
    have hfz43_1:=blk_frozen BK106.out 1
    have hcz44_0:wr.cell? ⟨gb102,0,none⟩=some (.int .i64 0):=(blk_cell BK102.out 0).trans rfl
    have hcz44_1:wr.cell? ⟨gb102,1,none⟩=some (.slice none 0 0):=(blk_cell BK102.out 1).trans rfl
    have hfz44_0:=blk_frozen BK102.out 0
    have hfz44_1:=blk_frozen BK102.out 1
    obtain ⟨Ao45,co45,eo45⟩:=Kd.S_slice HO_107001.out
    subst eo45
    go_wp2
    refine bodyPost_ret (results_cell_row rfl _ _ gb102 31 #[.int .i64 (wrap64 (a0_0 * a0_2)),.slice Ao45 x107001_1.length co45] (0,0) _ rfl (by (with_reducible repeat (first|refine blk_drewN ?_ _|refine blk_drew ?_|refine blk_alloc ?_ _));refine blk_put (cs:=#[.int .i64 (wrap64 (a0_0 * a0_2)),.slice none 0 0]) ?_ 1 _ rfl;(with_reducible repeat (first|refine blk_drewN ?_ _|refine blk_drew ?_|refine blk_alloc ?_ _));refine blk_put (cs:=#[.int .i64 0,.slice none 0 0]) ?_ 0 _ rfl;(with_reducible repeat (first|refine blk_drewN ?_ _|refine blk_drew ?_|refine blk_alloc ?_ _));exact BK102.out) Try.underlying31 rfl (by kernel_rfl)) rfl ?_
    exact ⟨_,by first|rfl|(simp [errW_none,errW_some]<;>rfl)|(simp [*,errW_none,errW_some]<;>rfl),by (with_reducible repeat (first|apply Kd.S_alloc|apply Kd.S_drewN|apply Kd.S_drew));exact Kd.S_mono (Kd.S_far (p:=⟨gb102,1,none⟩) (Kd.S_far (p:=⟨gb102,0,none⟩) (Kd.S_types HO_107001.out BK102.out (by decide)) (fun _ hk=>hk.2) (.int .i64 (wrap64 (a0_0 * a0_2)))) (fun _ hk=>hk.2) (.slice Ao45 x107001_1.length co45)) (fun _ hk=>trivial),bl⟩
   rw [if_pos c13] at H
   have c13b0:=decide_eq_true c13
   clear c13
   have H':=Aside0.mk H
   clear H
   have hnb14:=NB101_102.out
   have hnc14:=NB102_101.out
   have hnb15:=NB101_106.out
   have hnc15:=NB106_101.out
   have hcz16_0:wr.cell? ⟨gb101,0,none⟩=some (.int .i64 a0_0):=(blk_cell BK101.out 0).trans rfl
   have hcz16_1:wr.cell? ⟨gb101,1,none⟩=some (.slice A0_1 l0_1.length c0_1):=(blk_cell BK101.out 1).trans rfl
   have hcz16_2:wr.cell? ⟨gb101,2,none⟩=some (.int .i64 a0_2):=(blk_cell BK101.out 2).trans rfl
   have hcz16_3:wr.cell? ⟨gb101,3,none⟩=some (.slice A0_3 l0_3.length c0_3):=(blk_cell BK101.out 3).trans rfl
   have hfz16_0:=blk_frozen BK101.out 0
   have hfz16_1:=blk_frozen BK101.out 1
   have hfz16_2:=blk_frozen BK101.out 2
   have hfz16_3:=blk_frozen BK101.out 3
   go_wp2
   go_loopg [5] k1 (fun kq v5 w'=>∃ (x5_2:Int) (x107001_2:List (List Int)) (u107001:Value),v5=.int .i64 x5_2∧Aside0 (F158.l1 kq x4_1 x5_2 a0_0 l0_1 a0_2 l0_3 (wrap64 (a0_0 * a0_2)) x107001_2=some (r1,r2))∧Aside0 (kq≤k1)∧Aside0 (Kd.S (Kd.slice 2 (Kd.int .i64)) 28 w' w.heap.size (fun _=>True) u107001 x107001_2)∧Aside0 (w'.heap[gb101]?=some (.cells #[.int .i64 a0_0,(.slice A0_1 l0_1.length c0_1),.int .i64 a0_2,(.slice A0_3 l0_3.length c0_3)] 33 (0,0)))∧Aside0 (w'.heap[gb102]?=some (.cells #[.int .i64 0,(.slice none 0 0)] 31 (0,0)))∧Aside0 (w'.heap[gb106]?=some (.cells #[.int .i64 (wrap64 (a0_0 * a0_2)),u107001] 31 (0,0)))∧Aside0 (Below w.heap.size w w'))
   case atStart=>exact ⟨(0),(x107001_1),(u107001),rs,H',⟨Nat.le_refl _⟩,⟨by (with_reducible repeat (first|apply Kd.S_alloc|apply Kd.S_drewN|apply Kd.S_drew));exact HO_107001.out⟩,⟨bk⟩,⟨bk⟩,⟨bk⟩,⟨bl⟩⟩
   case round =>
    clear H'
    (try clear c1);(try clear p2);(try clear c4);(try clear p6);(try clear c10);(try clear c11);(try clear c13);(try clear c13b0);(try clear c14);(try clear c15);(try clear hcz12_0);(try clear hcz12_1);(try clear hcz16_0);(try clear hcz16_1);(try clear hcz16_2);(try clear hcz16_3);(try clear hcz5_0);(try clear hcz5_1);(try clear hcz5_2);(try clear hcz5_3);(try clear hfz12_0);(try clear hfz12_1);(try clear hfz16_0);(try clear hfz16_1);(try clear hfz16_2);(try clear hfz16_3);(try clear hfz5_0);(try clear hfz5_1);(try clear hfz5_2);(try clear hfz5_3);(try clear p2);(try clear p6)
    obtain ⟨x5_2,x107001_2,u107001,rfl,HA,HK2,HO_107001,BK101,BK102,BK106,HB⟩:=hrel
    cases gk with
    | zero=>exact absurd HA.out (by simp [F158.l1])
    | succ k2 =>
     have H:=HA.out
     clear HA
     simp only [F158.l1] at H
     by_cases c17:x5_2 < a0_2
     case neg =>
      rw [if_neg c17] at H
      have c17b0:decide (x5_2 < a0_2)=false:=decide_eq_false c17
      clear c17
      have H':=Aside0.mk H
      clear H
      have hnb36:=NB101_102.out
      have hnc36:=NB102_101.out
      have hnb37:=NB101_106.out
      have hnc37:=NB106_101.out
      have hcz38_0:wr.cell? ⟨gb101,0,none⟩=some (.int .i64 a0_0):=(blk_cell BK101.out 0).trans rfl
      have hcz38_1:wr.cell? ⟨gb101,1,none⟩=some (.slice A0_1 l0_1.length c0_1):=(blk_cell BK101.out 1).trans rfl
      have hcz38_2:wr.cell? ⟨gb101,2,none⟩=some (.int .i64 a0_2):=(blk_cell BK101.out 2).trans rfl
      have hcz38_3:wr.cell? ⟨gb101,3,none⟩=some (.slice A0_3 l0_3.length c0_3):=(blk_cell BK101.out 3).trans rfl
      have hfz38_0:=blk_frozen BK101.out 0
      have hfz38_1:=blk_frozen BK101.out 1
      have hfz38_2:=blk_frozen BK101.out 2
      have hfz38_3:=blk_frozen BK101.out 3
      go_wp2
      go_roundg k2
      case measure=>have:=HK1.out;have:=HK2.out;omega
      case rel=>exact ⟨(wrap64 (x4_1+1)),(x107001_2),(u107001),rs,H',⟨by have:=HK1.out;have:=HK2.out;omega⟩,⟨by (with_reducible repeat (first|apply Kd.S_alloc|apply Kd.S_drewN|apply Kd.S_drew));exact HO_107001.out⟩,⟨bk⟩,⟨bk⟩,⟨bk⟩,⟨bl⟩⟩
     rw [if_pos c17] at H
     have c17b0:=decide_eq_true c17
     clear c17
     replace H:=iS H;obtain ⟨c18,H⟩:=H
     have c18b0:=decide_eq_true c18
     clear c18
     replace H:=iS H;obtain ⟨c19,H⟩:=H
     have c19b0:=decide_eq_true c19
     clear c19
     replace H:=iS H;obtain ⟨c20,H⟩:=H
     have c20b0:=decide_eq_true c20
     have c20b1:decide (0 < (rd_L1 l0_1 x4_1).length)=true:=decide_eq_true (by omega)
     clear c20
     replace H:=iS H;obtain ⟨c21,H⟩:=H
     have c21b0:=decide_eq_true c21
     have c21b1:decide (1 < (rd_L1 l0_1 x4_1).length)=true:=decide_eq_true (by omega)
     clear c21
     replace H:=iS H;obtain ⟨c22,H⟩:=H
     have c22b0:=decide_eq_true c22
     clear c22
     replace H:=iS H;obtain ⟨c23,H⟩:=H
     have c23b0:=decide_eq_true c23
     clear c23
     replace H:=iS H;obtain ⟨c24,H⟩:=H
     have c24b0:=decide_eq_true c24
     clear c24
     obtain ⟨y113,hy113⟩:∃ y_:List Int,y_=(([wrap64 ((wrap64 ((rd (rd_L1 l0_1 x4_1) 0) * a0_2))+x5_2),wrap64 ((wrap64 ((rd (rd_L1 l0_1 x4_1) 1) * a0_2))+(rd (rd_L1 l0_3 x4_1) x5_2))]:List Int)):=⟨_,rfl⟩
     replace H:(if x107001_2.length < 5864062014805 then (F158.l1 k2 x4_1 (wrap64 (x5_2+1)) a0_0 l0_1 a0_2 l0_3 (wrap64 (a0_0 * a0_2)) (x107001_2 ++ [y113])) else (none))=some (r1,r2):=by first|(rw [hy113];with_reducible exact H)|(have H2_:=(Option.bind_some _ _).symm.trans H;rw [hy113];with_reducible exact H2_)|(have H2_:=(Option.bind_some _ _).symm.trans H;with_reducible exact H2_)|with_reducible exact H|(rw [hy113];exact H)|exact H
     have Ny113:=Aside0.mk hy113
     clear hy113
     replace H:=iS H;obtain ⟨c25,H⟩:=H
     have LMc25:=Aside0.mk c25
     clear c25
     obtain ⟨y116,hy116⟩:∃ y_:List (List Int),y_=(x107001_2 ++ [y113]):=⟨_,rfl⟩
     replace H:(F158.l1 k2 x4_1 (wrap64 (x5_2+1)) a0_0 l0_1 a0_2 l0_3 (wrap64 (a0_0 * a0_2)) y116)=some (r1,r2):=by first|(rw [hy116];with_reducible exact H)|(have H2_:=(Option.bind_some _ _).symm.trans H;rw [hy116];with_reducible exact H2_)|(have H2_:=(Option.bind_some _ _).symm.trans H;with_reducible exact H2_)|with_reducible exact H|(rw [hy116];exact H)|exact H
     have Ny116:=Aside0.mk hy116
     clear hy116
     have H':=Aside0.mk H
     clear H
     have hnb26:=NB101_102.out
     have hnc26:=NB102_101.out
     have hnb27:=NB101_106.out
     have hnc27:=NB106_101.out
     have hcz28_0:wr.cell? ⟨gb101,0,none⟩=some (.int .i64 a0_0):=(blk_cell BK101.out 0).trans rfl
     have hcz28_1:wr.cell? ⟨gb101,1,none⟩=some (.slice A0_1 l0_1.length c0_1):=(blk_cell BK101.out 1).trans rfl
     have hcz28_2:wr.cell? ⟨gb101,2,none⟩=some (.int .i64 a0_2):=(blk_cell BK101.out 2).trans rfl
     have hcz28_3:wr.cell? ⟨gb101,3,none⟩=some (.slice A0_3 l0_3.length c0_3):=(blk_cell BK101.out 3).trans rfl
     have hfz28_0:=blk_frozen BK101.out 0
     have hfz28_1:=blk_frozen BK101.out 1
     have hfz28_2:=blk_frozen BK101.out 2
     have hfz28_3:=blk_frozen BK101.out 3
     try go_wp2
     replace HO_107001:=Aside0.mk (Kd.S_drew HO_107001.out);replace BK101:=Aside0.mk (blk_drew BK101.out);replace BK102:=Aside0.mk (blk_drew BK102.out);replace BK106:=Aside0.mk (blk_drew BK106.out);replace HB:=Aside0.mk (below_drew1 HB.out)
     have p107:0≤(x4_1:Int):=oD
     have q107:x4_1 < (l0_1.length:Int):=oD
     obtain ⟨ad107,A107_0,c107_0,e107,hx107_0,hl107_0,hi107_0⟩:=at_L1 HR0_1.out x4_1 p107 q107
     have hw107_0:=hx107_0
     cases e107
     replace hx107_0:=hbc HB hx107_0
     have HR107_0:=Aside0.mk hi107_0
     have HC107_0:=Aside0.mk hl107_0
     clear hi107_0 hl107_0
     replace p107:=eq_true p107
     replace q107:=eq_true q107
     have p108:0≤(0:Int):=(by omega)
     have q108:0 < ((rd_L1 l0_1 x4_1).length:Int):=oD
     obtain ⟨ad108,e108,hx108_0⟩:=Kd.at_int HR107_0.out 0 p108 q108
     have hw108_0:=hx108_0
     (try rw [show ((0:Int)).toNat=0 from rfl] at hw108_0)
     (try rw [show 0 * 1=0 from rfl] at hw108_0)
     (try rw [Addr.add_zero'] at hw108_0)
     cases e108
     have qi108:(0 < (rd_L1 l0_1 x4_1).length)=True:=eq_true (by omega)
     (try rw [show ((0:Int)).toNat=0 from rfl] at hx108_0)
     (try rw [Addr.add_zero'] at hx108_0)
     replace hx108_0:=hbc HB hx108_0
     replace p108:=eq_true p108
     replace q108:=eq_true q108
     have p109:0≤(x4_1:Int):=oD
     have q109:x4_1 < (l0_1.length:Int):=oD
     obtain ⟨ad109,A109_0,c109_0,e109,hx109_0,hl109_0,hi109_0⟩:=at_L1 HR0_1.out x4_1 p109 q109
     have hw109_0:=hx109_0
     obtain rfl:ad107=ad109:=(by injection e109)
     replace hx109_0:=hbc HB hx109_0
     have HR109_0:=Aside0.mk hi109_0
     have HC109_0:=Aside0.mk hl109_0
     clear hi109_0 hl109_0
     replace p109:=eq_true p109
     replace q109:=eq_true q109
     have ea_:=Option.some.inj (hx107_0.symm.trans hx109_0)
     injection ea_ with ea_ en_ ec_
     subst ea_
     subst ec_
     clear en_
     have p110:0≤(1:Int):=(by omega)
     have q110:1 < ((rd_L1 l0_1 x4_1).length:Int):=oD
     obtain ⟨ad110,e110,hx110_0⟩:=Kd.at_int HR109_0.out 1 p110 q110
     have hw110_0:=hx110_0
     (try rw [show ((1:Int)).toNat=1 from rfl] at hw110_0)
     (try rw [show 1 * 1=1 from rfl] at hw110_0)
     (try simp only [Nat.reduceMul,Nat.reduceEqDiff,Go.Addr.add,↓reduceIte] at hw110_0)
     obtain rfl:ad108=ad110:=(by injection e110)
     (try simp only [show (1:Int).toNat=1 from rfl,Nat.reduceMul,Nat.reduceEqDiff,Go.Addr.add,↓reduceIte] at hx110_0)
     have qi110:(1 < (rd_L1 l0_1 x4_1).length)=True:=eq_true (by omega)
     (try rw [show ((1:Int)).toNat=1 from rfl] at hx110_0)
     replace hx110_0:=hbc HB hx110_0
     replace p110:=eq_true p110
     replace q110:=eq_true q110
     have p111:0≤(x4_1:Int):=oD
     have q111:x4_1 < (l0_3.length:Int):=oD
     obtain ⟨ad111,A111_0,c111_0,e111,hx111_0,hl111_0,hi111_0⟩:=at_L1 HR0_3.out x4_1 p111 q111
     have hw111_0:=hx111_0
     cases e111
     replace hx111_0:=hbc HB hx111_0
     have HR111_0:=Aside0.mk hi111_0
     have HC111_0:=Aside0.mk hl111_0
     clear hi111_0 hl111_0
     replace p111:=eq_true p111
     replace q111:=eq_true q111
     have p112:0≤(x5_2:Int):=oD
     have q112:x5_2 < ((rd_L1 l0_3 x4_1).length:Int):=oD
     obtain ⟨ad112,e112,hx112_0⟩:=Kd.at_int HR111_0.out x5_2 p112 q112
     have hw112_0:=hx112_0
     cases e112
     replace hx112_0:=hbc HB hx112_0
     replace p112:=eq_true p112
     replace q112:=eq_true q112
     refine start_ (n:=40) (S:=fun w'=>w'.cell? ⟨gb106,0,none⟩=some (.int .i64 (wrap64 (a0_0 * a0_2)))∧w'.cell? ⟨gb106,1,none⟩=some (u107001)∧w'.cell? ⟨gb101,0,none⟩=some (.int .i64 a0_0)∧w'.cell? ⟨gb101,1,none⟩=some (.slice (some ad107) l0_1.length c0_1)∧w'.cell? ⟨gb101,2,none⟩=some (.int .i64 a0_2)∧w'.cell? ⟨gb101,3,none⟩=some (.slice (some ad111) l0_3.length c0_3)∧w'.cell? (ad107.add (x4_1).toNat)=some (.slice (some ad108) (rd_L1 l0_1 x4_1).length c107_0)∧w'.cell? ad108=some (.int .i64 (rd (rd_L1 l0_1 x4_1) 0))∧w'.cell? (ad107.add (x4_1).toNat)=some (.slice (some ad108) (rd_L1 l0_1 x4_1).length c107_0)∧w'.cell? ⟨ad108.block,ad108.off+1,none⟩=some (.int .i64 (rd (rd_L1 l0_1 x4_1) 1))∧w'.cell? (ad111.add (x4_1).toNat)=some (.slice (some ad112) (rd_L1 l0_3 x4_1).length c111_0)∧w'.cell? (ad112.add (x5_2).toNat)=some (.int .i64 (rd (rd_L1 l0_3 x4_1) x5_2))) (ds:=[39]) (ba 40 0) (by kernel_rfl) rfl rfl ⟨(blk_cell BK106.out 0).trans rfl,(blk_cell BK106.out 1).trans rfl,(blk_cell BK101.out 0).trans rfl,(blk_cell BK101.out 1).trans rfl,(blk_cell BK101.out 2).trans rfl,(blk_cell BK101.out 3).trans rfl,(hbc HB hw107_0),(hbc HB hw108_0),(hbc HB hw109_0),(hbc HB hw110_0),(hbc HB hw111_0),(hbc HB hw112_0)⟩ (fun hHeld=>?_);refine with_tabW F158.tab8 F158.bits8 (fun HT_ HW_=>?_)
     generalize wr.drew=w29 at HO_107001 BK101 BK102 BK106 HB HR107_0 HR109_0 HR111_0 hx107_0 hx108_0 hx109_0 hx110_0 hx111_0 hx112_0 hHeld ⊢
     refine pu 0 (some 27) (ba 40 1) HT_ (h:=?_)
     refine pu 2 (some 29) (ba 40 5) HT_ (h:=?_)
     refine pu 3 (some 30) (ba 40 13) HT_ (h:=?_)
     refine pu 5 (some 32) (ba 40 45) HT_ (h:=?_)
     refine pu 10 (some 37) (ba 40 1069) HT_ (h:=?_)
     refine pu 13 (some 40) (ba 40 9261) HT_ (h:=?_)
     refine pu 15 (some 42) (ba 40 42029) HT_ (h:=?_)
     refine pu 16 (some 43) (ba 40 107565) HT_ (h:=?_)
     refine pu 18 (some 45) (ba 40 369709) HT_ (h:=?_)
     refine pu 23 (some 50) (ba 40 8758317) HT_ (h:=?_)
     refine pu 26 (some 53) (ba 40 75867181) HT_ (h:=?_)
     refine pu 28 (some 55) (ba 40 344302637) HT_ (h:=?_)
     refine pu 31 (some 58) (ba 40 2491786285) HT_ (h:=?_)
     refine ta 1 (some 28) (ba 40 2491786287) HT_ HW_ hHeld (hy:=Or.inl ⟨by rfl,by rintro w' ⟨s0,s1,s2,s3,s4,s5,s6,s7,s8,s9,s10,s11⟩;go_simp;with_reducible rfl⟩) (h:=?_)
     refine ta 4 (some 31) (ba 40 2491786303) HT_ HW_ hHeld (hy:=Or.inl ⟨by rfl,by rintro w' ⟨s0,s1,s2,s3,s4,s5,s6,s7,s8,s9,s10,s11⟩;go_simp;with_reducible rfl⟩) (h:=?_)
     refine pu 6 (some 33) (ba 40 2491786367) HT_ (h:=?_)
     refine ta 7 (some 34) (ba 40 2491786495) HT_ HW_ hHeld (hy:=Or.inl ⟨by rfl,by rintro w' ⟨s0,s1,s2,s3,s4,s5,s6,s7,s8,s9,s10,s11⟩;go_simp;with_reducible rfl⟩) (h:=?_)
     refine pu 8 (some 35) (ba 40 2491786751) HT_ (h:=?_)
     refine ta 9 (some 36) (ba 40 2491787263) HT_ HW_ hHeld (hy:=Or.inl ⟨by rfl,by rintro w' ⟨s0,s1,s2,s3,s4,s5,s6,s7,s8,s9,s10,s11⟩;go_simp;with_reducible rfl⟩) (h:=?_)
     refine ta 11 (some 38) (ba 40 2491789311) HT_ HW_ hHeld (hy:=Or.inl ⟨by rfl,by rintro w' ⟨s0,s1,s2,s3,s4,s5,s6,s7,s8,s9,s10,s11⟩;go_simp;with_reducible rfl⟩) (h:=?_)
     refine pu 12 (some 39) (ba 40 2491793407) HT_ (h:=?_)
     refine pu 14 (some 41) (ba 40 2491809791) HT_ (h:=?_)
     refine ta 17 (some 44) (ba 40 2491940863) HT_ HW_ hHeld (hy:=Or.inl ⟨by rfl,by rintro w' ⟨s0,s1,s2,s3,s4,s5,s6,s7,s8,s9,s10,s11⟩;go_simp;with_reducible rfl⟩) (h:=?_)
     refine pu 19 (some 46) (ba 40 2492465151) HT_ (h:=?_)
     refine ta 20 (some 47) (ba 40 2493513727) HT_ HW_ hHeld (hy:=Or.inl ⟨by rfl,by rintro w' ⟨s0,s1,s2,s3,s4,s5,s6,s7,s8,s9,s10,s11⟩;go_simp;with_reducible rfl⟩) (h:=?_)
     refine pu 21 (some 48) (ba 40 2495610879) HT_ (h:=?_)
     refine ta 22 (some 49) (ba 40 2499805183) HT_ HW_ hHeld (hy:=Or.inl ⟨by rfl,by rintro w' ⟨s0,s1,s2,s3,s4,s5,s6,s7,s8,s9,s10,s11⟩;go_simp;with_reducible rfl⟩) (h:=?_)
     refine ta 24 (some 51) (ba 40 2516582399) HT_ HW_ hHeld (hy:=Or.inl ⟨by rfl,by rintro w' ⟨s0,s1,s2,s3,s4,s5,s6,s7,s8,s9,s10,s11⟩;go_simp;with_reducible rfl⟩) (h:=?_)
     refine pu 25 (some 52) (ba 40 2550136831) HT_ (h:=?_)
     refine ta 27 (some 54) (ba 40 2684354559) HT_ HW_ hHeld (hy:=Or.inl ⟨by rfl,by rintro w' ⟨s0,s1,s2,s3,s4,s5,s6,s7,s8,s9,s10,s11⟩;go_simp;with_reducible rfl⟩) (h:=?_)
     refine pu 29 (some 56) (ba 40 3221225471) HT_ (h:=?_)
     refine ta 30 (some 57) (ba 40 4294967295) HT_ HW_ hHeld (hy:=Or.inl ⟨by rfl,by rintro w' ⟨s0,s1,s2,s3,s4,s5,s6,s7,s8,s9,s10,s11⟩;go_simp;with_reducible rfl⟩) (h:=?_)
     refine pu 32 (some 59) (ba 40 8589934591) HT_ (h:=?_)
     refine ta 33 (some 60) (ba 40 17179869183) HT_ HW_ hHeld (hy:=Or.inl ⟨by rfl,by rintro w' ⟨s0,s1,s2,s3,s4,s5,s6,s7,s8,s9,s10,s11⟩;go_simp;with_reducible rfl⟩) (h:=?_)
     refine pu 34 (some 61) (ba 40 34359738367) HT_ (h:=?_)
     refine one_ (i:=35) (N:=some 62) (ba 40 68719476735) rfl rfl (one_of HT_.out (by kernel_rfl)) (by decide) (fun K hK=>?_)
     refine Kd.R_lit_step (Kd.int .i64) _ 2 ?hg (N:=62) ?hd (xs:=([wrap64 ((wrap64 ((rd (rd_L1 l0_1 x4_1) 0) * a0_2))+x5_2),wrap64 ((wrap64 ((rd (rd_L1 l0_1 x4_1) 1) * a0_2))+(rd (rd_L1 l0_3 x4_1) x5_2))]:List Int)) (inner:=[.int .i64 (wrap64 ((wrap64 ((rd (rd_L1 l0_1 x4_1) 0) * a0_2))+x5_2)),.int .i64 (wrap64 ((wrap64 ((rd (rd_L1 l0_1 x4_1) 1) * a0_2))+(rd (rd_L1 l0_3 x4_1) x5_2)))]) (ok:=fun _=>True) (okp:=fun _=>True) ?hr ?hp (fun _ hk=>hk) trivial (Below.refl _ _) (Nat.le_refl _) (by simp) ?_;(case hd=>rfl);(case hg=>rfl);(case hr=>first|(go_simp;done)|(go_simp;rfl));(case hp=>exact (Reps.one (show Kd.M (Kd.int .i64) _ _ _ (wrap64 ((wrap64 ((rd (rd_L1 l0_1 x4_1) 0) * a0_2))+x5_2)) [.int .i64 (wrap64 ((wrap64 ((rd (rd_L1 l0_1 x4_1) 0) * a0_2))+x5_2))] from rfl) (Reps.one (show Kd.M (Kd.int .i64) _ _ _ (wrap64 ((wrap64 ((rd (rd_L1 l0_1 x4_1) 1) * a0_2))+(rd (rd_L1 l0_3 x4_1) x5_2))) [.int .i64 (wrap64 ((wrap64 ((rd (rd_L1 l0_1 x4_1) 1) * a0_2))+(rd (rd_L1 l0_3 x4_1) x5_2)))] from rfl) (Reps.none _ _))))
     intro v114 w30 ho31 hb hg_ hnew_
     clear hg_ hnew_
     (first|rw [← Ny113.out] at ho31|(simp only [Int.reduceToNat] at ho31;rw [← Ny113.out] at ho31))
     have n0_:=Aside0.mk (Kd.S_elder' (aS HO_107001.out) (Kd.R_base ho31) hb)
     have n1_:=Aside0.mk (Kd.R_lower ho31 (below_size bl))
     have n2_:=Aside0.mk (blk_below (g:=gb101) (o:=.cells #[.int .i64 a0_0,.slice (some ad107) l0_1.length c0_1,.int .i64 a0_2,.slice (some ad111) l0_3.length c0_3] 33 (0,0)) bk hb)
     have n3_:=Aside0.mk (blk_below (g:=gb102) (o:=.cells #[.int .i64 0,.slice none 0 0] 31 (0,0)) bk hb)
     have n4_:=Aside0.mk (blk_below (g:=gb106) (o:=.cells #[.int .i64 (wrap64 (a0_0 * a0_2)),u107001] 31 (0,0)) bk hb)
     have n5_:=Aside0.mk (below_step bl hb)
     clear HO_107001
     clear BK101
     clear BK102
     clear BK106
     clear HB
     have HO_107001:=n0_
     have HO115:=n1_
     have BK101:=n2_
     have BK102:=n3_
     have BK106:=n4_
     have HB:=n5_
     clear n0_ n1_ n2_ n3_ n4_ n5_
     clear hb ho31
     obtain ⟨Ao33,co33,eo33⟩:=Kd.R_slice HO115.out
     (first|subst eo33|(injection eo33 with f1_ f2_ f3_;have f4_:=f1_.symm;have f5_:=f3_.symm;clear f1_ f2_ f3_;subst f4_;subst f5_))
     refine hK.out _ _ ⟨(blk_cell BK106.out 0).trans rfl,(blk_cell BK106.out 1).trans rfl,(blk_cell BK101.out 0).trans rfl,(blk_cell BK101.out 1).trans rfl,(blk_cell BK101.out 2).trans rfl,(blk_cell BK101.out 3).trans rfl,(hbc HB hw107_0),(hbc HB hw108_0),(hbc HB hw109_0),(hbc HB hw110_0),(hbc HB hw111_0),(hbc HB hw112_0)⟩ (fun hHeld=>?_)
     clear hK K
     refine norm_ (a':=?_) ?_ ?_
     rotate_left;· show Act.put _ (some 62) _=_;simp only [Act.put,zI,zZ,zS,i64_w,i32_w];rfl
     refine one_ (i:=36) (N:=some 63) (ba 40 137438953471) rfl rfl (one_of HT_.out (by kernel_rfl)) (by decide) (fun K hK=>?_)
     refine value_ (w1:=?_) (v:=?_) (by rfl) rfl ?_ ?_
     rotate_left 2
     ·go_simp
      constructor
      ·rfl
      ·rfl
     refine hK.out _ _ ⟨(blk_cell (blk_alloc BK106.out _) 0).trans rfl,(blk_cell (blk_alloc BK106.out _) 1).trans rfl,(blk_cell (blk_alloc BK101.out _) 0).trans rfl,(blk_cell (blk_alloc BK101.out _) 1).trans rfl,(blk_cell (blk_alloc BK101.out _) 2).trans rfl,(blk_cell (blk_alloc BK101.out _) 3).trans rfl,(World.cell?_alloc_lt _ _ _ (World.block_lt_of_cell? _ _ ((hbc HB hw107_0)))).trans ((hbc HB hw107_0)),(World.cell?_alloc_lt _ _ _ (World.block_lt_of_cell? _ _ ((hbc HB hw108_0)))).trans ((hbc HB hw108_0)),(World.cell?_alloc_lt _ _ _ (World.block_lt_of_cell? _ _ ((hbc HB hw109_0)))).trans ((hbc HB hw109_0)),(World.cell?_alloc_lt _ _ _ (World.block_lt_of_cell? _ _ ((hbc HB hw110_0)))).trans ((hbc HB hw110_0)),(World.cell?_alloc_lt _ _ _ (World.block_lt_of_cell? _ _ ((hbc HB hw111_0)))).trans ((hbc HB hw111_0)),(World.cell?_alloc_lt _ _ _ (World.block_lt_of_cell? _ _ ((hbc HB hw112_0)))).trans ((hbc HB hw112_0))⟩ (fun hHeld=>?_)
     clear hK K
     refine norm_ (a':=?_) ?_ ?_
     rotate_left;· show Act.put _ (some 63) _=_;simp only [Act.put,zI,zZ,zS,i64_w,i32_w];rfl
     refine one_ (i:=37) (N:=some 64) (ba 40 274877906943) rfl rfl (one_of HT_.out (by kernel_rfl)) (by decide) (fun K hK=>?_)
     refine Kd.S_append_step (Kd.slice 2 (Kd.int .i64)) (w0:=w) w.heap.size (by rfl) (.tmp 28) (.tmp 63) 22 28 (.slice none 0 0) 24 rfl Try.underlying22 info28 rfl (by decide) (by omega) u107001 x107001_2 y113 [.slice Ao33 y113.length co33] (fun _=>True) (fun k_=>some k_=(.slice Ao33 y113.length co33:Value).ownBlock) rfl rfl ?aP (fun k_ hk_=>((Kd.R_mono (ok':=fun k_=>((fun _=>True)) k_∧some k_ ≠ (u107001:Value).ownBlock) (Kd.R_apart' (HO115.out) (Kd.S_typed HO_107001.out) (by decide)) (fun k_ hk=>⟨trivial,hk.2⟩))).1 k_ hk_.symm) ?aF ?aO ?aB ?aS ?aL ?_
     (case aP=>exact Kd.M_row (Kd.R_mono (Kd.R_tight rfl (Kd.R_mono (ok':=fun k_=>((fun _=>True)) k_∧some k_ ≠ (u107001:Value).ownBlock) (Kd.R_apart' (HO115.out) (Kd.S_typed HO_107001.out) (by decide)) (fun k_ hk=>⟨trivial,hk.2⟩))) (fun _ h_=>h_)))
     (case aB=>exact bl)
     (case aF=>exact (fun _ _=>trivial))
     (case aO=>exact (by (with_reducible repeat (first|apply Kd.S_alloc|apply Kd.S_drewN|apply Kd.S_drew));exact Kd.S_mono HO_107001.out (fun k_ hk=>⟨trivial,fun e_=>hk.2 e_⟩)))
     (case aS=>exact (below_size bl))
     (case aL=>have:=LMc25.out;omega)
     intro v117 w32 ho hb hg hat
     rw [← Ny116.out] at ho
     have n0_:=Aside0.mk (blk_grown (g:=gb101) (o:=.cells #[.int .i64 a0_0,.slice (some ad107) l0_1.length c0_1,.int .i64 a0_2,.slice (some ad111) l0_3.length c0_3] 33 (0,0)) bk hg (Kd.S_ne HO_107001.out BK101.out (by decide)))
     have n1_:=Aside0.mk (blk_grown (g:=gb102) (o:=.cells #[.int .i64 0,.slice none 0 0] 31 (0,0)) bk hg (Kd.S_ne HO_107001.out BK102.out (by decide)))
     have n2_:=Aside0.mk (blk_grown (g:=gb106) (o:=.cells #[.int .i64 (wrap64 (a0_0 * a0_2)),u107001] 31 (0,0)) bk hg (Kd.S_ne HO_107001.out BK106.out (by decide)))
     have n3_:=Aside0.mk (hb)
     have n4_:=Aside0.mk (ho)
     clear BK101
     clear BK102
     clear BK106
     clear HB
     clear HO_107001
     clear HO115
     have BK101:=n0_
     have BK102:=n1_
     have BK106:=n2_
     have HB:=n3_
     have HO118:=n4_
     clear n0_ n1_ n2_ n3_ n4_
     clear ho hb hg hat
     obtain ⟨Ao34,co34,eo34⟩:=Kd.S_slice HO118.out
     (first|subst eo34|(injection eo34 with f1_ f2_ f3_;have f4_:=f1_.symm;have f5_:=f3_.symm;clear f1_ f2_ f3_;subst f4_;subst f5_))
     refine hK.out _ _ ⟨(blk_cell BK106.out 0).trans rfl,(blk_cell BK106.out 1).trans rfl,(blk_cell BK101.out 0).trans rfl,(blk_cell BK101.out 1).trans rfl,(blk_cell BK101.out 2).trans rfl,(blk_cell BK101.out 3).trans rfl,(hbc HB hw107_0),(hbc HB hw108_0),(hbc HB hw109_0),(hbc HB hw110_0),(hbc HB hw111_0),(hbc HB hw112_0)⟩ (fun hHeld=>?_)
     clear hK K
     refine norm_ (a':=?_) ?_ ?_
     rotate_left;· show Act.put _ (some 64) _=_;simp only [Act.put,zI,zZ,zS,i64_w,i32_w];rfl
     refine pu 38 (some 65) (ba 40 549755813887) HT_ (h:=?_)
     refine last_ (i:=39) (N:=none) (ba 40 1099511627775) rfl rfl (one_of HT_.out (by kernel_rfl)) (by decide) (fun K hK=>?_)
     have hs35:w32.cell? ⟨gb106,1,none⟩=some (u107001):=(blk_cell BK106.out 1).trans rfl
     have hfs35:=blk_frozen BK106.out 1
     have hns35_0:=NB101_106.out
     have hns35_1:=NB102_106.out
     have hms35_0:=NB106_101.out
     have hms35_1:=NB106_102.out
     refine skip_ (w1:=?_) (by rfl) rfl ?_ ?_
     rotate_left;· go_simp;rfl
     refine hK.out _ _ ?_
     clear hK K
     refine done_ (done_of HT_.out (by kernel_rfl)) ?_
     try go_wp2
     go_roundg k2
     case measure=>have:=HK1.out;have:=HK2.out;omega
     case rel=>exact ⟨(wrap64 (x5_2+1)),(y116),(.slice Ao34 y116.length co34),rs,H',⟨by have:=HK1.out;have:=HK2.out;omega⟩,⟨by (with_reducible repeat (first|apply Kd.S_alloc|apply Kd.S_drewN|apply Kd.S_drew));exact Kd.S_mono (Kd.S_far (p:=⟨gb106,1,none⟩) (Kd.S_types HO118.out BK106.out (by decide)) (fun _ hk=>hk.2) (.slice Ao34 y116.length co34)) (fun _ hk=>trivial)⟩,⟨by (with_reducible repeat (first|refine blk_drewN ?_ _|refine blk_drew ?_|refine blk_alloc ?_ _));refine blk_far ?_ NB101_106.out _;(with_reducible repeat (first|refine blk_drewN ?_ _|refine blk_drew ?_|refine blk_alloc ?_ _));exact BK101.out⟩,⟨by (with_reducible repeat (first|refine blk_drewN ?_ _|refine blk_drew ?_|refine blk_alloc ?_ _));refine blk_far ?_ NB102_106.out _;(with_reducible repeat (first|refine blk_drewN ?_ _|refine blk_drew ?_|refine blk_alloc ?_ _));exact BK102.out⟩,⟨by (with_reducible repeat (first|refine blk_drewN ?_ _|refine blk_drew ?_|refine blk_alloc ?_ _));refine blk_put (cs:=#[.int .i64 (wrap64 (a0_0 * a0_2)),u107001]) ?_ 1 _ rfl;(with_reducible repeat (first|refine blk_drewN ?_ _|refine blk_drew ?_|refine blk_alloc ?_ _));exact BK106.out⟩,⟨bl⟩⟩
/-! ### F80: function 80 -/
def F80.f (k:Nat) (a0_0:Int) (l0_1:List (List Int)) (a0_2:Int) (l0_3:List (List Int)):Option (Int × (List (List Int)) × Int):=(F157.f k a0_0 l0_1 a0_2 l0_3).bind fun t103=>(if t103=true then ((F158.f k a0_0 l0_1 a0_2 l0_3).bind fun bt104=>(if bt104.1 > 8 then (some (0,([]:List (List Int)),3)) else (if (bt104.2.length:Int) > 10 then (some (0,([]:List (List Int)),3)) else (some (bt104.1,bt104.2,0))))) else (some (0,([]:List (List Int)),1)))
theorem F80.mono:∀ a0 a1 a2 a3 k,LeO (F80.f k a0 a1 a2 a3) (F80.f (k+1) a0 a1 a2 a3):=by
 intro a0 a1 a2 a3 k
 unfold F80.f
 repeat' first
  | (with_reducible first|exact F158.mono _ _ _ _ _|exact F157.mono _ _ _ _ _|exact LeO.refl _|exact LeO.none _|refine LeO.ite ?_ ?_|refine LeO.bind ?_ (fun _=>?_))
  | exact F158.mono _ _ _ _ _|exact F157.mono _ _ _ _ _|exact LeO.none _|refine LeO.ite ?_ ?_|refine LeO.bind ?_ (fun _=>?_)
set_option maxHeartbeats 8000000 in
set_option maxRecDepth 100000 in
theorem F80.calls (k : Nat) (a0_0 : Int) (A0_1 : Option Addr) (c0_1 : Nat) (l0_1 : List (List Int)) (a0_2 : Int) (A0_3 : Option Addr) (c0_3 : Nat) (l0_3 : List (List Int)) (r1 : Int) (r2 : List (List Int)) (r3 : Int) (w : World) (hr0_1 : Kd.C (Kd.slice 2 (Kd.int .i64)) w A0_1 l0_1.length l0_1) (hc0_1 : l0_1.length ≤ c0_1) (hr0_3 : Kd.C (Kd.slice 2 (Kd.int .i64)) w A0_3 l0_3.length l0_3) (hc0_3 : l0_3.length ≤ c0_3) (h : F80.f k a0_0 l0_1 a0_2 l0_3 = some (r1, r2, r3)) :
  Calls Try.prog 80 #[.agg #[.int .i64 a0_0,.slice A0_1 l0_1.length c0_1,.int .i64 a0_2,.slice A0_3 l0_3.length c0_3]] w fun e w'=>∃ v1_:Value,e=.returned (.tuple #[.agg #[.int .i64 r1,v1_],.int .i64 r3])∧Kd.S (Kd.slice 2 (Kd.int .i64)) 28 w' w.heap.size (fun _=>True) v1_ r2∧Below w.heap.size w w':=by
 have hu33:=Try.underlying33
 have hu31:=Try.underlying31
 have HR0_1:=Aside0.mk hr0_1
 have HC0_1:=Aside0.mk hc0_1
 clear hr0_1 hc0_1
 have HR0_3:=Aside0.mk hr0_3
 have HC0_3:=Aside0.mk hc0_3
 clear hr0_3 hc0_3
 have HB:=Aside0.mk (Below.refl w.heap.size w)
 have H:((F157.f k a0_0 l0_1 a0_2 l0_3).bind fun t103=>(if t103=true then ((F158.f k a0_0 l0_1 a0_2 l0_3).bind fun bt104=>(if bt104.1 > 8 then (some (0,([]:List (List Int)),3)) else (if (bt104.2.length:Int) > 10 then (some (0,([]:List (List Int)),3)) else (some (bt104.1,bt104.2,0))))) else (some (0,([]:List (List Int)),1))))=some (r1,r2,r3):=h
 clear h
 replace H:=Option.bind_eq_some_iff.mp H
 obtain ⟨t103,A20,H⟩:=H
 replace H:(if t103=true then ((F158.f k a0_0 l0_1 a0_2 l0_3).bind fun bt104=>(if bt104.1 > 8 then (some (0,([]:List (List Int)),3)) else (if (bt104.2.length:Int) > 10 then (some (0,([]:List (List Int)),3)) else (some (bt104.1,bt104.2,0))))) else (some (0,([]:List (List Int)),1)))=some (r1,r2,r3):=H
 have A2:=Aside0.mk A20
 clear A20
 by_cases c3:t103=true
 case neg =>
  replace c3:=Bool.eq_false_iff.mpr c3
  subst c3
  have H1:(some (0,([]:List (List Int)),1))=some (r1,r2,r3):=by rw [if_neg (show ¬ (false=true) by decide)] at H;exact H
  clear H
  have H:=H1
  clear H1
  simp only [Option.some.injEq,Prod.mk.injEq] at H
  obtain ⟨rfl,rfl,rfl⟩:=H
  go_enter Try.func80,Try.ntmps80
  go_wp2_with (first|((with_reducible refine gate_dst (N:=1) rfl ?_);(try (refine gate_guard (by rfl) ?_;dsimp only));refine box_event ?hg (N:=1) ?hd (cs:=#[.int .i64 a0_0,.slice A0_1 l0_1.length c0_1,.int .i64 a0_2,.slice A0_3 l0_3.length c0_3]) (t:=33) ?hr ?_;(case hd=>rfl);(case hg=>rfl);(case hr=>first|(go_simp;done)|(go_simp;rfl));intro gb101 hg w46 hbox hb;have BK101:=Aside0.mk (hbox);have GW101:=Aside0.mk ((by rw [hg];exact (below_size bl):w.heap.size≤gb101));have GE101:=Aside0.mk ((by rw [hg];exact (below_size bl):w.heap.size≤gb101));replace HB:=Aside0.mk (below_step bl hb);clear hb hbox hg)|((with_reducible refine gate_dst (N:=2) rfl ?_);(try (refine gate_guard (by rfl) ?_;dsimp only));refine box_event ?hg (N:=2) ?hd (cs:=#[.int .i64 0,.slice none 0 0]) (t:=31) ?hr ?_;(case hd=>rfl);(case hg=>rfl);(case hr=>first|(go_simp;done)|(go_simp;rfl));intro gb102 hg w47 hbox hb;have BK102:=Aside0.mk (hbox);have GW102:=Aside0.mk ((by rw [hg];exact (below_size bl):w.heap.size≤gb102));have GE102:=Aside0.mk ((by rw [hg];exact (below_size bl):w.heap.size≤gb102));replace HB:=Aside0.mk (below_step bl hb);have NB101_102:=Aside0.mk ((by rw [hg];exact Nat.ne_of_lt (blk_lt (g:=gb101) (o:=.cells #[.int .i64 a0_0,.slice A0_1 l0_1.length c0_1,.int .i64 a0_2,.slice A0_3 l0_3.length c0_3] 33 (0,0)) bk):gb101 ≠ gb102));have NB102_101:=Aside0.mk ((by rw [hg];exact Nat.ne_of_gt (blk_lt (g:=gb101) (o:=.cells #[.int .i64 a0_0,.slice A0_1 l0_1.length c0_1,.int .i64 a0_2,.slice A0_3 l0_3.length c0_3] 33 (0,0)) bk):gb102 ≠ gb101));replace BK101:=Aside0.mk (blk_below (g:=gb101) (o:=.cells #[.int .i64 a0_0,.slice A0_1 l0_1.length c0_1,.int .i64 a0_2,.slice A0_3 l0_3.length c0_3] 33 (0,0)) bk hb);clear hb hbox hg;have hnb48:=NB101_102.out;have hnc48:=NB102_101.out;have hcz49_0:w47.cell? ⟨gb101,0,none⟩=some (.int .i64 a0_0):=(blk_cell BK101.out 0).trans rfl;have hcz49_1:w47.cell? ⟨gb101,1,none⟩=some (.slice A0_1 l0_1.length c0_1):=(blk_cell BK101.out 1).trans rfl;have hcz49_2:w47.cell? ⟨gb101,2,none⟩=some (.int .i64 a0_2):=(blk_cell BK101.out 2).trans rfl;have hcz49_3:w47.cell? ⟨gb101,3,none⟩=some (.slice A0_3 l0_3.length c0_3):=(blk_cell BK101.out 3).trans rfl;have hfz49_0:=blk_frozen BK101.out 0;have hfz49_1:=blk_frozen BK101.out 1;have hfz49_2:=blk_frozen BK101.out 2;have hfz49_3:=blk_frozen BK101.out 3)|((with_reducible refine gate_callee (f:=157) rfl ?_);refine goesL_ (some 6) rfl rfl Try.func157 (by kernel_rfl) rfl #[.agg #[.int .i64 a0_0,.slice A0_1 l0_1.length c0_1,.int .i64 a0_2,.slice A0_3 l0_3.length c0_3]] rfl gm ?_;(with_reducible refine (F157.calls k a0_0 _ _ l0_1 a0_2 _ _ l0_3 false _ ?side1 ?side2 ?side3 ?side4 A2.out).mono ?_);(case side1=>exact aC (Kd.C_below HR0_1.out HB.out));(case side2=>exact HC0_1.out);(case side3=>exact aC (Kd.C_below HR0_3.out HB.out));(case side4=>exact HC0_3.out);rintro e w50 ⟨rfl,hb⟩;refine ⟨_,rfl,?_⟩;have n0_:=Aside0.mk (blk_below (g:=gb101) (o:=.cells #[.int .i64 a0_0,.slice A0_1 l0_1.length c0_1,.int .i64 a0_2,.slice A0_3 l0_3.length c0_3] 33 (0,0)) bk hb);have n1_:=Aside0.mk (blk_below (g:=gb102) (o:=.cells #[.int .i64 0,.slice none 0 0] 31 (0,0)) bk hb);have n2_:=Aside0.mk (below_step bl hb);clear BK101;clear BK102;clear HB;have BK101:=n0_;have BK102:=n1_;have HB:=n2_;clear n0_ n1_ n2_;(try clear hb);(try clear hb2);(try clear hk);(try clear hi);have hcz51_0:w50.cell? ⟨gb102,0,none⟩=some (.int .i64 0):=(blk_cell BK102.out 0).trans rfl;have hcz51_1:w50.cell? ⟨gb102,1,none⟩=some (.slice none 0 0):=(blk_cell BK102.out 1).trans rfl;have hfz51_0:=blk_frozen BK102.out 0;have hfz51_1:=blk_frozen BK102.out 1))
  refine bodyPost_ret (results_ct rfl _ _ gb102 31 #[.int .i64 0,.slice none 0 0] (0,0) _ rfl (by (with_reducible repeat (first|refine blk_drewN ?_ _|refine blk_drew ?_|refine blk_alloc ?_ _));refine blk_put (cs:=#[.int .i64 0,.slice none 0 0]) ?_ 1 _ rfl;(with_reducible repeat (first|refine blk_drewN ?_ _|refine blk_drew ?_|refine blk_alloc ?_ _));refine blk_put (cs:=#[.int .i64 0,.slice none 0 0]) ?_ 0 _ rfl;(with_reducible repeat (first|refine blk_drewN ?_ _|refine blk_drew ?_|refine blk_alloc ?_ _));exact BK102.out) Try.underlying31 rfl (by kernel_rfl)) rfl ?_
  exact ⟨_,by first|rfl|(simp [errW_none,errW_some]<;>rfl)|(simp [*,errW_none,errW_some]<;>rfl),by first|exact Kd.S_nil _ _ _ _ _|exact Kd.N_nil _ _ _ _ _|exact Kd.V_nil _ _ _ _ _|exact Kd.Q_nil _ _ _ _ _|exact Kd.R_nil _ _ _ _ _,bl⟩
 subst c3
 have H1:((F158.f k a0_0 l0_1 a0_2 l0_3).bind fun bt104=>(if bt104.1 > 8 then (some (0,([]:List (List Int)),3)) else (if (bt104.2.length:Int) > 10 then (some (0,([]:List (List Int)),3)) else (some (bt104.1,bt104.2,0)))))=some (r1,r2,r3):=by rw [if_pos rfl] at H;exact H
 clear H
 have H:=H1
 clear H1
 replace H:=Option.bind_eq_some_iff.mp H
 obtain ⟨⟨t104,t105⟩,A40,H⟩:=H
 replace H:(if t104 > 8 then (some (0,([]:List (List Int)),3)) else (if (t105.length:Int) > 10 then (some (0,([]:List (List Int)),3)) else (some (t104,t105,0))))=some (r1,r2,r3):=H
 have A4:=Aside0.mk A40
 clear A40
 by_cases c5:t104 > 8
 case neg =>
  rw [if_neg c5] at H
  have c5b0:decide (8 < t104)=false:=decide_eq_false c5
  clear c5
  by_cases c19:(t105.length:Int) > 10
  case neg =>
   rw [if_neg c19] at H
   have c19b0:decide (10 < (t105.length:Int))=false:=decide_eq_false c19
   have c19b1:decide (10 < t105.length)=false:=decide_eq_false (by omega)
   clear c19
   simp only [Option.some.injEq,Prod.mk.injEq] at H
   obtain ⟨rfl,rfl,rfl⟩:=H
   go_enter Try.func80,Try.ntmps80
   go_wp2_with (first|((with_reducible refine gate_dst (N:=1) rfl ?_);(try (refine gate_guard (by rfl) ?_;dsimp only));refine box_event ?hg (N:=1) ?hd (cs:=#[.int .i64 a0_0,.slice A0_1 l0_1.length c0_1,.int .i64 a0_2,.slice A0_3 l0_3.length c0_3]) (t:=33) ?hr ?_;(case hd=>rfl);(case hg=>rfl);(case hr=>first|(go_simp;done)|(go_simp;rfl));intro gb101 hg w33 hbox hb;have BK101:=Aside0.mk (hbox);have GW101:=Aside0.mk ((by rw [hg];exact (below_size bl):w.heap.size≤gb101));have GE101:=Aside0.mk ((by rw [hg];exact (below_size bl):w.heap.size≤gb101));replace HB:=Aside0.mk (below_step bl hb);clear hb hbox hg)|((with_reducible refine gate_dst (N:=2) rfl ?_);(try (refine gate_guard (by rfl) ?_;dsimp only));refine box_event ?hg (N:=2) ?hd (cs:=#[.int .i64 0,.slice none 0 0]) (t:=31) ?hr ?_;(case hd=>rfl);(case hg=>rfl);(case hr=>first|(go_simp;done)|(go_simp;rfl));intro gb102 hg w34 hbox hb;have BK102:=Aside0.mk (hbox);have GW102:=Aside0.mk ((by rw [hg];exact (below_size bl):w.heap.size≤gb102));have GE102:=Aside0.mk ((by rw [hg];exact (below_size bl):w.heap.size≤gb102));replace HB:=Aside0.mk (below_step bl hb);have NB101_102:=Aside0.mk ((by rw [hg];exact Nat.ne_of_lt (blk_lt (g:=gb101) (o:=.cells #[.int .i64 a0_0,.slice A0_1 l0_1.length c0_1,.int .i64 a0_2,.slice A0_3 l0_3.length c0_3] 33 (0,0)) bk):gb101 ≠ gb102));have NB102_101:=Aside0.mk ((by rw [hg];exact Nat.ne_of_gt (blk_lt (g:=gb101) (o:=.cells #[.int .i64 a0_0,.slice A0_1 l0_1.length c0_1,.int .i64 a0_2,.slice A0_3 l0_3.length c0_3] 33 (0,0)) bk):gb102 ≠ gb101));replace BK101:=Aside0.mk (blk_below (g:=gb101) (o:=.cells #[.int .i64 a0_0,.slice A0_1 l0_1.length c0_1,.int .i64 a0_2,.slice A0_3 l0_3.length c0_3] 33 (0,0)) bk hb);clear hb hbox hg;have hnb35:=NB101_102.out;have hnc35:=NB102_101.out;have hcz36_0:w34.cell? ⟨gb101,0,none⟩=some (.int .i64 a0_0):=(blk_cell BK101.out 0).trans rfl;have hcz36_1:w34.cell? ⟨gb101,1,none⟩=some (.slice A0_1 l0_1.length c0_1):=(blk_cell BK101.out 1).trans rfl;have hcz36_2:w34.cell? ⟨gb101,2,none⟩=some (.int .i64 a0_2):=(blk_cell BK101.out 2).trans rfl;have hcz36_3:w34.cell? ⟨gb101,3,none⟩=some (.slice A0_3 l0_3.length c0_3):=(blk_cell BK101.out 3).trans rfl;have hfz36_0:=blk_frozen BK101.out 0;have hfz36_1:=blk_frozen BK101.out 1;have hfz36_2:=blk_frozen BK101.out 2;have hfz36_3:=blk_frozen BK101.out 3)|((with_reducible refine gate_callee (f:=157) rfl ?_);refine goesL_ (some 6) rfl rfl Try.func157 (by kernel_rfl) rfl #[.agg #[.int .i64 a0_0,.slice A0_1 l0_1.length c0_1,.int .i64 a0_2,.slice A0_3 l0_3.length c0_3]] rfl gm ?_;(with_reducible refine (F157.calls k a0_0 _ _ l0_1 a0_2 _ _ l0_3 true _ ?side1 ?side2 ?side3 ?side4 A2.out).mono ?_);(case side1=>exact aC (Kd.C_below HR0_1.out HB.out));(case side2=>exact HC0_1.out);(case side3=>exact aC (Kd.C_below HR0_3.out HB.out));(case side4=>exact HC0_3.out);rintro e w37 ⟨rfl,hb⟩;refine ⟨_,rfl,?_⟩;have n0_:=Aside0.mk (blk_below (g:=gb101) (o:=.cells #[.int .i64 a0_0,.slice A0_1 l0_1.length c0_1,.int .i64 a0_2,.slice A0_3 l0_3.length c0_3] 33 (0,0)) bk hb);have n1_:=Aside0.mk (blk_below (g:=gb102) (o:=.cells #[.int .i64 0,.slice none 0 0] 31 (0,0)) bk hb);have n2_:=Aside0.mk (below_step bl hb);clear BK101;clear BK102;clear HB;have BK101:=n0_;have BK102:=n1_;have HB:=n2_;clear n0_ n1_ n2_;(try clear hb);(try clear hb2);(try clear hk);(try clear hi);have hcz38_0:w37.cell? ⟨gb101,0,none⟩=some (.int .i64 a0_0):=(blk_cell BK101.out 0).trans rfl;have hcz38_1:w37.cell? ⟨gb101,1,none⟩=some (.slice A0_1 l0_1.length c0_1):=(blk_cell BK101.out 1).trans rfl;have hcz38_2:w37.cell? ⟨gb101,2,none⟩=some (.int .i64 a0_2):=(blk_cell BK101.out 2).trans rfl;have hcz38_3:w37.cell? ⟨gb101,3,none⟩=some (.slice A0_3 l0_3.length c0_3):=(blk_cell BK101.out 3).trans rfl;have hfz38_0:=blk_frozen BK101.out 0;have hfz38_1:=blk_frozen BK101.out 1;have hfz38_2:=blk_frozen BK101.out 2;have hfz38_3:=blk_frozen BK101.out 3)|((with_reducible refine gate_callee (f:=158) rfl ?_);refine goesL_ (some 10) rfl rfl Try.func158 (by kernel_rfl) rfl #[.agg #[.int .i64 a0_0,.slice A0_1 l0_1.length c0_1,.int .i64 a0_2,.slice A0_3 l0_3.length c0_3]] rfl gm ?_;(with_reducible refine (F158.calls k a0_0 _ _ l0_1 a0_2 _ _ l0_3 t104 t105 _ ?side1 ?side2 ?side3 ?side4 A4.out).mono ?_);(case side1=>exact aC (Kd.C_below HR0_1.out HB.out));(case side2=>exact HC0_1.out);(case side3=>exact aC (Kd.C_below HR0_3.out HB.out));(case side4=>exact HC0_3.out);rintro e w39 ⟨v106,rfl,ho0,hb⟩;refine ⟨_,rfl,?_⟩;have n0_:=Aside0.mk (Kd.S_lower ho0 (below_size bl));have n1_:=Aside0.mk (blk_below (g:=gb101) (o:=.cells #[.int .i64 a0_0,.slice A0_1 l0_1.length c0_1,.int .i64 a0_2,.slice A0_3 l0_3.length c0_3] 33 (0,0)) bk hb);have n2_:=Aside0.mk (blk_below (g:=gb102) (o:=.cells #[.int .i64 0,.slice none 0 0] 31 (0,0)) bk hb);have n3_:=Aside0.mk (below_step bl hb);clear BK101;clear BK102;clear HB;have HO107:=n0_;have BK101:=n1_;have BK102:=n2_;have HB:=n3_;clear n0_ n1_ n2_ n3_;(try clear hb);(try clear hb2);(try clear hk);(try clear hi);(try clear ho0))|((with_reducible refine gate_dst (N:=4) rfl ?_);(try (refine gate_guard (by rfl) ?_;dsimp only));refine box_event ?hg (N:=4) ?hd (cs:=#[.int .i64 0,.slice none 0 0]) (t:=31) ?hr ?_;(case hd=>rfl);(case hg=>rfl);(case hr=>first|(go_simp;done)|(go_simp;rfl));intro gb108 hg w40 hbox hb;have n0_:=Aside0.mk (Kd.S_below (aS HO107.out) hb);have n1_:=Aside0.mk (blk_below (g:=gb101) (o:=.cells #[.int .i64 a0_0,.slice A0_1 l0_1.length c0_1,.int .i64 a0_2,.slice A0_3 l0_3.length c0_3] 33 (0,0)) bk hb);have n2_:=Aside0.mk (blk_below (g:=gb102) (o:=.cells #[.int .i64 0,.slice none 0 0] 31 (0,0)) bk hb);have n3_:=Aside0.mk (below_step bl hb);have n4_:=Aside0.mk (hbox);have n5_:=Aside0.mk ((by rw [hg];exact (below_size bl):w.heap.size≤gb108));have n6_:=Aside0.mk ((by rw [hg];exact (below_size bl):w.heap.size≤gb108));have n7_:=Aside0.mk ((by rw [hg];exact Nat.ne_of_lt (blk_lt (g:=gb101) (o:=.cells #[.int .i64 a0_0,.slice A0_1 l0_1.length c0_1,.int .i64 a0_2,.slice A0_3 l0_3.length c0_3] 33 (0,0)) bk):gb101 ≠ gb108));have n8_:=Aside0.mk ((by rw [hg];exact Nat.ne_of_gt (blk_lt (g:=gb101) (o:=.cells #[.int .i64 a0_0,.slice A0_1 l0_1.length c0_1,.int .i64 a0_2,.slice A0_3 l0_3.length c0_3] 33 (0,0)) bk):gb108 ≠ gb101));have n9_:=Aside0.mk ((by rw [hg];exact Nat.ne_of_lt (blk_lt (g:=gb102) (o:=.cells #[.int .i64 0,.slice none 0 0] 31 (0,0)) bk):gb102 ≠ gb108));have n10_:=Aside0.mk ((by rw [hg];exact Nat.ne_of_gt (blk_lt (g:=gb102) (o:=.cells #[.int .i64 0,.slice none 0 0] 31 (0,0)) bk):gb108 ≠ gb102));clear HO107;clear BK101;clear BK102;clear HB;have HO107:=n0_;have BK101:=n1_;have BK102:=n2_;have HB:=n3_;have BK108:=n4_;have GW108:=n5_;have GE108:=n6_;have NB101_108:=n7_;have NB108_101:=n8_;have NB102_108:=n9_;have NB108_102:=n10_;clear n0_ n1_ n2_ n3_ n4_ n5_ n6_ n7_ n8_ n9_ n10_;clear hb hbox hg;have hnb41:=NB108_101.out;have hnc41:=NB101_108.out;have hnb42:=NB108_102.out;have hnc42:=NB102_108.out;have hcz43_0:w40.cell? ⟨gb108,0,none⟩=some (.int .i64 0):=(blk_cell BK108.out 0).trans rfl;have hcz43_1:w40.cell? ⟨gb108,1,none⟩=some (.slice none 0 0):=(blk_cell BK108.out 1).trans rfl;have hfz43_0:=blk_frozen BK108.out 0;have hfz43_1:=blk_frozen BK108.out 1;obtain ⟨Ao44,co44,eo44⟩:=Kd.S_slice HO107.out;subst eo44;have hcz45_0:w40.cell? ⟨gb102,0,none⟩=some (.int .i64 0):=(blk_cell BK102.out 0).trans rfl;have hcz45_1:w40.cell? ⟨gb102,1,none⟩=some (.slice none 0 0):=(blk_cell BK102.out 1).trans rfl;have hfz45_0:=blk_frozen BK102.out 0;have hfz45_1:=blk_frozen BK102.out 1))
   refine bodyPost_ret (results_ct rfl _ _ gb102 31 #[.int .i64 t104,.slice Ao44 t105.length co44] (0,0) _ rfl (by (with_reducible repeat (first|refine blk_drewN ?_ _|refine blk_drew ?_|refine blk_alloc ?_ _));refine blk_put (cs:=#[.int .i64 t104,.slice none 0 0]) ?_ 1 _ rfl;(with_reducible repeat (first|refine blk_drewN ?_ _|refine blk_drew ?_|refine blk_alloc ?_ _));refine blk_put (cs:=#[.int .i64 0,.slice none 0 0]) ?_ 0 _ rfl;(with_reducible repeat (first|refine blk_drewN ?_ _|refine blk_drew ?_|refine blk_alloc ?_ _));refine blk_far ?_ NB102_108.out _;(with_reducible repeat (first|refine blk_drewN ?_ _|refine blk_drew ?_|refine blk_alloc ?_ _));refine blk_far ?_ NB102_108.out _;(with_reducible repeat (first|refine blk_drewN ?_ _|refine blk_drew ?_|refine blk_alloc ?_ _));exact BK102.out) Try.underlying31 rfl (by kernel_rfl)) rfl ?_
   exact ⟨_,by first|rfl|(simp [errW_none,errW_some]<;>rfl)|(simp [*,errW_none,errW_some]<;>rfl),by (with_reducible repeat (first|apply Kd.S_alloc|apply Kd.S_drewN|apply Kd.S_drew));exact Kd.S_mono (Kd.S_far (p:=⟨gb102,1,none⟩) (Kd.S_far (p:=⟨gb102,0,none⟩) (Kd.S_far (p:=⟨gb108,1,none⟩) (Kd.S_far (p:=⟨gb108,0,none⟩) (Kd.S_types (Kd.S_types HO107.out BK108.out (by decide)) BK102.out (by decide)) (fun _ hk=>hk.1.2) (.int .i64 t104)) (fun _ hk=>hk.1.2) (.slice Ao44 t105.length co44)) (fun _ hk=>hk.2) (.int .i64 t104)) (fun _ hk=>hk.2) (.slice Ao44 t105.length co44)) (fun _ hk=>trivial),bl⟩
  rw [if_pos c19] at H
  have c19b0:=decide_eq_true c19
  have c19b1:decide (10 < t105.length)=true:=decide_eq_true (by omega)
  clear c19
  simp only [Option.some.injEq,Prod.mk.injEq] at H
  obtain ⟨rfl,rfl,rfl⟩:=H
  go_enter Try.func80,Try.ntmps80
  go_wp2_with (first|((with_reducible refine gate_dst (N:=1) rfl ?_);(try (refine gate_guard (by rfl) ?_;dsimp only));refine box_event ?hg (N:=1) ?hd (cs:=#[.int .i64 a0_0,.slice A0_1 l0_1.length c0_1,.int .i64 a0_2,.slice A0_3 l0_3.length c0_3]) (t:=33) ?hr ?_;(case hd=>rfl);(case hg=>rfl);(case hr=>first|(go_simp;done)|(go_simp;rfl));intro gb101 hg w20 hbox hb;have BK101:=Aside0.mk (hbox);have GW101:=Aside0.mk ((by rw [hg];exact (below_size bl):w.heap.size≤gb101));have GE101:=Aside0.mk ((by rw [hg];exact (below_size bl):w.heap.size≤gb101));replace HB:=Aside0.mk (below_step bl hb);clear hb hbox hg)|((with_reducible refine gate_dst (N:=2) rfl ?_);(try (refine gate_guard (by rfl) ?_;dsimp only));refine box_event ?hg (N:=2) ?hd (cs:=#[.int .i64 0,.slice none 0 0]) (t:=31) ?hr ?_;(case hd=>rfl);(case hg=>rfl);(case hr=>first|(go_simp;done)|(go_simp;rfl));intro gb102 hg w21 hbox hb;have BK102:=Aside0.mk (hbox);have GW102:=Aside0.mk ((by rw [hg];exact (below_size bl):w.heap.size≤gb102));have GE102:=Aside0.mk ((by rw [hg];exact (below_size bl):w.heap.size≤gb102));replace HB:=Aside0.mk (below_step bl hb);have NB101_102:=Aside0.mk ((by rw [hg];exact Nat.ne_of_lt (blk_lt (g:=gb101) (o:=.cells #[.int .i64 a0_0,.slice A0_1 l0_1.length c0_1,.int .i64 a0_2,.slice A0_3 l0_3.length c0_3] 33 (0,0)) bk):gb101 ≠ gb102));have NB102_101:=Aside0.mk ((by rw [hg];exact Nat.ne_of_gt (blk_lt (g:=gb101) (o:=.cells #[.int .i64 a0_0,.slice A0_1 l0_1.length c0_1,.int .i64 a0_2,.slice A0_3 l0_3.length c0_3] 33 (0,0)) bk):gb102 ≠ gb101));replace BK101:=Aside0.mk (blk_below (g:=gb101) (o:=.cells #[.int .i64 a0_0,.slice A0_1 l0_1.length c0_1,.int .i64 a0_2,.slice A0_3 l0_3.length c0_3] 33 (0,0)) bk hb);clear hb hbox hg;have hnb22:=NB101_102.out;have hnc22:=NB102_101.out;have hcz23_0:w21.cell? ⟨gb101,0,none⟩=some (.int .i64 a0_0):=(blk_cell BK101.out 0).trans rfl;have hcz23_1:w21.cell? ⟨gb101,1,none⟩=some (.slice A0_1 l0_1.length c0_1):=(blk_cell BK101.out 1).trans rfl;have hcz23_2:w21.cell? ⟨gb101,2,none⟩=some (.int .i64 a0_2):=(blk_cell BK101.out 2).trans rfl;have hcz23_3:w21.cell? ⟨gb101,3,none⟩=some (.slice A0_3 l0_3.length c0_3):=(blk_cell BK101.out 3).trans rfl;have hfz23_0:=blk_frozen BK101.out 0;have hfz23_1:=blk_frozen BK101.out 1;have hfz23_2:=blk_frozen BK101.out 2;have hfz23_3:=blk_frozen BK101.out 3)|((with_reducible refine gate_callee (f:=157) rfl ?_);refine goesL_ (some 6) rfl rfl Try.func157 (by kernel_rfl) rfl #[.agg #[.int .i64 a0_0,.slice A0_1 l0_1.length c0_1,.int .i64 a0_2,.slice A0_3 l0_3.length c0_3]] rfl gm ?_;(with_reducible refine (F157.calls k a0_0 _ _ l0_1 a0_2 _ _ l0_3 true _ ?side1 ?side2 ?side3 ?side4 A2.out).mono ?_);(case side1=>exact aC (Kd.C_below HR0_1.out HB.out));(case side2=>exact HC0_1.out);(case side3=>exact aC (Kd.C_below HR0_3.out HB.out));(case side4=>exact HC0_3.out);rintro e w24 ⟨rfl,hb⟩;refine ⟨_,rfl,?_⟩;have n0_:=Aside0.mk (blk_below (g:=gb101) (o:=.cells #[.int .i64 a0_0,.slice A0_1 l0_1.length c0_1,.int .i64 a0_2,.slice A0_3 l0_3.length c0_3] 33 (0,0)) bk hb);have n1_:=Aside0.mk (blk_below (g:=gb102) (o:=.cells #[.int .i64 0,.slice none 0 0] 31 (0,0)) bk hb);have n2_:=Aside0.mk (below_step bl hb);clear BK101;clear BK102;clear HB;have BK101:=n0_;have BK102:=n1_;have HB:=n2_;clear n0_ n1_ n2_;(try clear hb);(try clear hb2);(try clear hk);(try clear hi);have hcz25_0:w24.cell? ⟨gb101,0,none⟩=some (.int .i64 a0_0):=(blk_cell BK101.out 0).trans rfl;have hcz25_1:w24.cell? ⟨gb101,1,none⟩=some (.slice A0_1 l0_1.length c0_1):=(blk_cell BK101.out 1).trans rfl;have hcz25_2:w24.cell? ⟨gb101,2,none⟩=some (.int .i64 a0_2):=(blk_cell BK101.out 2).trans rfl;have hcz25_3:w24.cell? ⟨gb101,3,none⟩=some (.slice A0_3 l0_3.length c0_3):=(blk_cell BK101.out 3).trans rfl;have hfz25_0:=blk_frozen BK101.out 0;have hfz25_1:=blk_frozen BK101.out 1;have hfz25_2:=blk_frozen BK101.out 2;have hfz25_3:=blk_frozen BK101.out 3)|((with_reducible refine gate_callee (f:=158) rfl ?_);refine goesL_ (some 10) rfl rfl Try.func158 (by kernel_rfl) rfl #[.agg #[.int .i64 a0_0,.slice A0_1 l0_1.length c0_1,.int .i64 a0_2,.slice A0_3 l0_3.length c0_3]] rfl gm ?_;(with_reducible refine (F158.calls k a0_0 _ _ l0_1 a0_2 _ _ l0_3 t104 t105 _ ?side1 ?side2 ?side3 ?side4 A4.out).mono ?_);(case side1=>exact aC (Kd.C_below HR0_1.out HB.out));(case side2=>exact HC0_1.out);(case side3=>exact aC (Kd.C_below HR0_3.out HB.out));(case side4=>exact HC0_3.out);rintro e w26 ⟨v106,rfl,ho0,hb⟩;refine ⟨_,rfl,?_⟩;have n0_:=Aside0.mk (Kd.S_lower ho0 (below_size bl));have n1_:=Aside0.mk (blk_below (g:=gb101) (o:=.cells #[.int .i64 a0_0,.slice A0_1 l0_1.length c0_1,.int .i64 a0_2,.slice A0_3 l0_3.length c0_3] 33 (0,0)) bk hb);have n2_:=Aside0.mk (blk_below (g:=gb102) (o:=.cells #[.int .i64 0,.slice none 0 0] 31 (0,0)) bk hb);have n3_:=Aside0.mk (below_step bl hb);clear BK101;clear BK102;clear HB;have HO107:=n0_;have BK101:=n1_;have BK102:=n2_;have HB:=n3_;clear n0_ n1_ n2_ n3_;(try clear hb);(try clear hb2);(try clear hk);(try clear hi);(try clear ho0))|((with_reducible refine gate_dst (N:=4) rfl ?_);(try (refine gate_guard (by rfl) ?_;dsimp only));refine box_event ?hg (N:=4) ?hd (cs:=#[.int .i64 0,.slice none 0 0]) (t:=31) ?hr ?_;(case hd=>rfl);(case hg=>rfl);(case hr=>first|(go_simp;done)|(go_simp;rfl));intro gb108 hg w27 hbox hb;have n0_:=Aside0.mk (Kd.S_below (aS HO107.out) hb);have n1_:=Aside0.mk (blk_below (g:=gb101) (o:=.cells #[.int .i64 a0_0,.slice A0_1 l0_1.length c0_1,.int .i64 a0_2,.slice A0_3 l0_3.length c0_3] 33 (0,0)) bk hb);have n2_:=Aside0.mk (blk_below (g:=gb102) (o:=.cells #[.int .i64 0,.slice none 0 0] 31 (0,0)) bk hb);have n3_:=Aside0.mk (below_step bl hb);have n4_:=Aside0.mk (hbox);have n5_:=Aside0.mk ((by rw [hg];exact (below_size bl):w.heap.size≤gb108));have n6_:=Aside0.mk ((by rw [hg];exact (below_size bl):w.heap.size≤gb108));have n7_:=Aside0.mk ((by rw [hg];exact Nat.ne_of_lt (blk_lt (g:=gb101) (o:=.cells #[.int .i64 a0_0,.slice A0_1 l0_1.length c0_1,.int .i64 a0_2,.slice A0_3 l0_3.length c0_3] 33 (0,0)) bk):gb101 ≠ gb108));have n8_:=Aside0.mk ((by rw [hg];exact Nat.ne_of_gt (blk_lt (g:=gb101) (o:=.cells #[.int .i64 a0_0,.slice A0_1 l0_1.length c0_1,.int .i64 a0_2,.slice A0_3 l0_3.length c0_3] 33 (0,0)) bk):gb108 ≠ gb101));have n9_:=Aside0.mk ((by rw [hg];exact Nat.ne_of_lt (blk_lt (g:=gb102) (o:=.cells #[.int .i64 0,.slice none 0 0] 31 (0,0)) bk):gb102 ≠ gb108));have n10_:=Aside0.mk ((by rw [hg];exact Nat.ne_of_gt (blk_lt (g:=gb102) (o:=.cells #[.int .i64 0,.slice none 0 0] 31 (0,0)) bk):gb108 ≠ gb102));clear HO107;clear BK101;clear BK102;clear HB;have HO107:=n0_;have BK101:=n1_;have BK102:=n2_;have HB:=n3_;have BK108:=n4_;have GW108:=n5_;have GE108:=n6_;have NB101_108:=n7_;have NB108_101:=n8_;have NB102_108:=n9_;have NB108_102:=n10_;clear n0_ n1_ n2_ n3_ n4_ n5_ n6_ n7_ n8_ n9_ n10_;clear hb hbox hg;have hnb28:=NB108_101.out;have hnc28:=NB101_108.out;have hnb29:=NB108_102.out;have hnc29:=NB102_108.out;have hcz30_0:w27.cell? ⟨gb108,0,none⟩=some (.int .i64 0):=(blk_cell BK108.out 0).trans rfl;have hcz30_1:w27.cell? ⟨gb108,1,none⟩=some (.slice none 0 0):=(blk_cell BK108.out 1).trans rfl;have hfz30_0:=blk_frozen BK108.out 0;have hfz30_1:=blk_frozen BK108.out 1;obtain ⟨Ao31,co31,eo31⟩:=Kd.S_slice HO107.out;subst eo31;have hcz32_0:w27.cell? ⟨gb102,0,none⟩=some (.int .i64 0):=(blk_cell BK102.out 0).trans rfl;have hcz32_1:w27.cell? ⟨gb102,1,none⟩=some (.slice none 0 0):=(blk_cell BK102.out 1).trans rfl;have hfz32_0:=blk_frozen BK102.out 0;have hfz32_1:=blk_frozen BK102.out 1))
  refine bodyPost_ret (results_ct rfl _ _ gb102 31 #[.int .i64 0,.slice none 0 0] (0,0) _ rfl (by (with_reducible repeat (first|refine blk_drewN ?_ _|refine blk_drew ?_|refine blk_alloc ?_ _));refine blk_put (cs:=#[.int .i64 0,.slice none 0 0]) ?_ 1 _ rfl;(with_reducible repeat (first|refine blk_drewN ?_ _|refine blk_drew ?_|refine blk_alloc ?_ _));refine blk_put (cs:=#[.int .i64 0,.slice none 0 0]) ?_ 0 _ rfl;(with_reducible repeat (first|refine blk_drewN ?_ _|refine blk_drew ?_|refine blk_alloc ?_ _));refine blk_far ?_ NB102_108.out _;(with_reducible repeat (first|refine blk_drewN ?_ _|refine blk_drew ?_|refine blk_alloc ?_ _));refine blk_far ?_ NB102_108.out _;(with_reducible repeat (first|refine blk_drewN ?_ _|refine blk_drew ?_|refine blk_alloc ?_ _));exact BK102.out) Try.underlying31 rfl (by kernel_rfl)) rfl ?_
  exact ⟨_,by first|rfl|(simp [errW_none,errW_some]<;>rfl)|(simp [*,errW_none,errW_some]<;>rfl),by first|exact Kd.S_nil _ _ _ _ _|exact Kd.N_nil _ _ _ _ _|exact Kd.V_nil _ _ _ _ _|exact Kd.Q_nil _ _ _ _ _|exact Kd.R_nil _ _ _ _ _,bl⟩
 rw [if_pos c5] at H
 have c5b0:=decide_eq_true c5
 clear c5
 simp only [Option.some.injEq,Prod.mk.injEq] at H
 obtain ⟨rfl,rfl,rfl⟩:=H
 go_enter Try.func80,Try.ntmps80
 go_wp2_with (first|((with_reducible refine gate_dst (N:=1) rfl ?_);(try (refine gate_guard (by rfl) ?_;dsimp only));refine box_event ?hg (N:=1) ?hd (cs:=#[.int .i64 a0_0,.slice A0_1 l0_1.length c0_1,.int .i64 a0_2,.slice A0_3 l0_3.length c0_3]) (t:=33) ?hr ?_;(case hd=>rfl);(case hg=>rfl);(case hr=>first|(go_simp;done)|(go_simp;rfl));intro gb101 hg w6 hbox hb;have BK101:=Aside0.mk (hbox);have GW101:=Aside0.mk ((by rw [hg];exact (below_size bl):w.heap.size≤gb101));have GE101:=Aside0.mk ((by rw [hg];exact (below_size bl):w.heap.size≤gb101));replace HB:=Aside0.mk (below_step bl hb);clear hb hbox hg)|((with_reducible refine gate_dst (N:=2) rfl ?_);(try (refine gate_guard (by rfl) ?_;dsimp only));refine box_event ?hg (N:=2) ?hd (cs:=#[.int .i64 0,.slice none 0 0]) (t:=31) ?hr ?_;(case hd=>rfl);(case hg=>rfl);(case hr=>first|(go_simp;done)|(go_simp;rfl));intro gb102 hg w7 hbox hb;have BK102:=Aside0.mk (hbox);have GW102:=Aside0.mk ((by rw [hg];exact (below_size bl):w.heap.size≤gb102));have GE102:=Aside0.mk ((by rw [hg];exact (below_size bl):w.heap.size≤gb102));replace HB:=Aside0.mk (below_step bl hb);have NB101_102:=Aside0.mk ((by rw [hg];exact Nat.ne_of_lt (blk_lt (g:=gb101) (o:=.cells #[.int .i64 a0_0,.slice A0_1 l0_1.length c0_1,.int .i64 a0_2,.slice A0_3 l0_3.length c0_3] 33 (0,0)) bk):gb101 ≠ gb102));have NB102_101:=Aside0.mk ((by rw [hg];exact Nat.ne_of_gt (blk_lt (g:=gb101) (o:=.cells #[.int .i64 a0_0,.slice A0_1 l0_1.length c0_1,.int .i64 a0_2,.slice A0_3 l0_3.length c0_3] 33 (0,0)) bk):gb102 ≠ gb101));replace BK101:=Aside0.mk (blk_below (g:=gb101) (o:=.cells #[.int .i64 a0_0,.slice A0_1 l0_1.length c0_1,.int .i64 a0_2,.slice A0_3 l0_3.length c0_3] 33 (0,0)) bk hb);clear hb hbox hg;have hnb8:=NB101_102.out;have hnc8:=NB102_101.out;have hcz9_0:w7.cell? ⟨gb101,0,none⟩=some (.int .i64 a0_0):=(blk_cell BK101.out 0).trans rfl;have hcz9_1:w7.cell? ⟨gb101,1,none⟩=some (.slice A0_1 l0_1.length c0_1):=(blk_cell BK101.out 1).trans rfl;have hcz9_2:w7.cell? ⟨gb101,2,none⟩=some (.int .i64 a0_2):=(blk_cell BK101.out 2).trans rfl;have hcz9_3:w7.cell? ⟨gb101,3,none⟩=some (.slice A0_3 l0_3.length c0_3):=(blk_cell BK101.out 3).trans rfl;have hfz9_0:=blk_frozen BK101.out 0;have hfz9_1:=blk_frozen BK101.out 1;have hfz9_2:=blk_frozen BK101.out 2;have hfz9_3:=blk_frozen BK101.out 3)|((with_reducible refine gate_callee (f:=157) rfl ?_);refine goesL_ (some 6) rfl rfl Try.func157 (by kernel_rfl) rfl #[.agg #[.int .i64 a0_0,.slice A0_1 l0_1.length c0_1,.int .i64 a0_2,.slice A0_3 l0_3.length c0_3]] rfl gm ?_;(with_reducible refine (F157.calls k a0_0 _ _ l0_1 a0_2 _ _ l0_3 true _ ?side1 ?side2 ?side3 ?side4 A2.out).mono ?_);(case side1=>exact aC (Kd.C_below HR0_1.out HB.out));(case side2=>exact HC0_1.out);(case side3=>exact aC (Kd.C_below HR0_3.out HB.out));(case side4=>exact HC0_3.out);rintro e w10 ⟨rfl,hb⟩;refine ⟨_,rfl,?_⟩;have n0_:=Aside0.mk (blk_below (g:=gb101) (o:=.cells #[.int .i64 a0_0,.slice A0_1 l0_1.length c0_1,.int .i64 a0_2,.slice A0_3 l0_3.length c0_3] 33 (0,0)) bk hb);have n1_:=Aside0.mk (blk_below (g:=gb102) (o:=.cells #[.int .i64 0,.slice none 0 0] 31 (0,0)) bk hb);have n2_:=Aside0.mk (below_step bl hb);clear BK101;clear BK102;clear HB;have BK101:=n0_;have BK102:=n1_;have HB:=n2_;clear n0_ n1_ n2_;(try clear hb);(try clear hb2);(try clear hk);(try clear hi);have hcz11_0:w10.cell? ⟨gb101,0,none⟩=some (.int .i64 a0_0):=(blk_cell BK101.out 0).trans rfl;have hcz11_1:w10.cell? ⟨gb101,1,none⟩=some (.slice A0_1 l0_1.length c0_1):=(blk_cell BK101.out 1).trans rfl;have hcz11_2:w10.cell? ⟨gb101,2,none⟩=some (.int .i64 a0_2):=(blk_cell BK101.out 2).trans rfl;have hcz11_3:w10.cell? ⟨gb101,3,none⟩=some (.slice A0_3 l0_3.length c0_3):=(blk_cell BK101.out 3).trans rfl;have hfz11_0:=blk_frozen BK101.out 0;have hfz11_1:=blk_frozen BK101.out 1;have hfz11_2:=blk_frozen BK101.out 2;have hfz11_3:=blk_frozen BK101.out 3)|((with_reducible refine gate_callee (f:=158) rfl ?_);refine goesL_ (some 10) rfl rfl Try.func158 (by kernel_rfl) rfl #[.agg #[.int .i64 a0_0,.slice A0_1 l0_1.length c0_1,.int .i64 a0_2,.slice A0_3 l0_3.length c0_3]] rfl gm ?_;(with_reducible refine (F158.calls k a0_0 _ _ l0_1 a0_2 _ _ l0_3 t104 t105 _ ?side1 ?side2 ?side3 ?side4 A4.out).mono ?_);(case side1=>exact aC (Kd.C_below HR0_1.out HB.out));(case side2=>exact HC0_1.out);(case side3=>exact aC (Kd.C_below HR0_3.out HB.out));(case side4=>exact HC0_3.out);rintro e w12 ⟨v106,rfl,ho0,hb⟩;refine ⟨_,rfl,?_⟩;have n0_:=Aside0.mk (Kd.S_lower ho0 (below_size bl));have n1_:=Aside0.mk (blk_below (g:=gb101) (o:=.cells #[.int .i64 a0_0,.slice A0_1 l0_1.length c0_1,.int .i64 a0_2,.slice A0_3 l0_3.length c0_3] 33 (0,0)) bk hb);have n2_:=Aside0.mk (blk_below (g:=gb102) (o:=.cells #[.int .i64 0,.slice none 0 0] 31 (0,0)) bk hb);have n3_:=Aside0.mk (below_step bl hb);clear BK101;clear BK102;clear HB;have HO107:=n0_;have BK101:=n1_;have BK102:=n2_;have HB:=n3_;clear n0_ n1_ n2_ n3_;(try clear hb);(try clear hb2);(try clear hk);(try clear hi);(try clear ho0))|((with_reducible refine gate_dst (N:=4) rfl ?_);(try (refine gate_guard (by rfl) ?_;dsimp only));refine box_event ?hg (N:=4) ?hd (cs:=#[.int .i64 0,.slice none 0 0]) (t:=31) ?hr ?_;(case hd=>rfl);(case hg=>rfl);(case hr=>first|(go_simp;done)|(go_simp;rfl));intro gb108 hg w13 hbox hb;have n0_:=Aside0.mk (Kd.S_below (aS HO107.out) hb);have n1_:=Aside0.mk (blk_below (g:=gb101) (o:=.cells #[.int .i64 a0_0,.slice A0_1 l0_1.length c0_1,.int .i64 a0_2,.slice A0_3 l0_3.length c0_3] 33 (0,0)) bk hb);have n2_:=Aside0.mk (blk_below (g:=gb102) (o:=.cells #[.int .i64 0,.slice none 0 0] 31 (0,0)) bk hb);have n3_:=Aside0.mk (below_step bl hb);have n4_:=Aside0.mk (hbox);have n5_:=Aside0.mk ((by rw [hg];exact (below_size bl):w.heap.size≤gb108));have n6_:=Aside0.mk ((by rw [hg];exact (below_size bl):w.heap.size≤gb108));have n7_:=Aside0.mk ((by rw [hg];exact Nat.ne_of_lt (blk_lt (g:=gb101) (o:=.cells #[.int .i64 a0_0,.slice A0_1 l0_1.length c0_1,.int .i64 a0_2,.slice A0_3 l0_3.length c0_3] 33 (0,0)) bk):gb101 ≠ gb108));have n8_:=Aside0.mk ((by rw [hg];exact Nat.ne_of_gt (blk_lt (g:=gb101) (o:=.cells #[.int .i64 a0_0,.slice A0_1 l0_1.length c0_1,.int .i64 a0_2,.slice A0_3 l0_3.length c0_3] 33 (0,0)) bk):gb108 ≠ gb101));have n9_:=Aside0.mk ((by rw [hg];exact Nat.ne_of_lt (blk_lt (g:=gb102) (o:=.cells #[.int .i64 0,.slice none 0 0] 31 (0,0)) bk):gb102 ≠ gb108));have n10_:=Aside0.mk ((by rw [hg];exact Nat.ne_of_gt (blk_lt (g:=gb102) (o:=.cells #[.int .i64 0,.slice none 0 0] 31 (0,0)) bk):gb108 ≠ gb102));clear HO107;clear BK101;clear BK102;clear HB;have HO107:=n0_;have BK101:=n1_;have BK102:=n2_;have HB:=n3_;have BK108:=n4_;have GW108:=n5_;have GE108:=n6_;have NB101_108:=n7_;have NB108_101:=n8_;have NB102_108:=n9_;have NB108_102:=n10_;clear n0_ n1_ n2_ n3_ n4_ n5_ n6_ n7_ n8_ n9_ n10_;clear hb hbox hg;have hnb14:=NB108_101.out;have hnc14:=NB101_108.out;have hnb15:=NB108_102.out;have hnc15:=NB102_108.out;have hcz16_0:w13.cell? ⟨gb108,0,none⟩=some (.int .i64 0):=(blk_cell BK108.out 0).trans rfl;have hcz16_1:w13.cell? ⟨gb108,1,none⟩=some (.slice none 0 0):=(blk_cell BK108.out 1).trans rfl;have hfz16_0:=blk_frozen BK108.out 0;have hfz16_1:=blk_frozen BK108.out 1;obtain ⟨Ao17,co17,eo17⟩:=Kd.S_slice HO107.out;subst eo17;have hcz18_0:w13.cell? ⟨gb102,0,none⟩=some (.int .i64 0):=(blk_cell BK102.out 0).trans rfl;have hcz18_1:w13.cell? ⟨gb102,1,none⟩=some (.slice none 0 0):=(blk_cell BK102.out 1).trans rfl;have hfz18_0:=blk_frozen BK102.out 0;have hfz18_1:=blk_frozen BK102.out 1))
 refine bodyPost_ret (results_ct rfl _ _ gb102 31 #[.int .i64 0,.slice none 0 0] (0,0) _ rfl (by (with_reducible repeat (first|refine blk_drewN ?_ _|refine blk_drew ?_|refine blk_alloc ?_ _));refine blk_put (cs:=#[.int .i64 0,.slice none 0 0]) ?_ 1 _ rfl;(with_reducible repeat (first|refine blk_drewN ?_ _|refine blk_drew ?_|refine blk_alloc ?_ _));refine blk_put (cs:=#[.int .i64 0,.slice none 0 0]) ?_ 0 _ rfl;(with_reducible repeat (first|refine blk_drewN ?_ _|refine blk_drew ?_|refine blk_alloc ?_ _));refine blk_far ?_ NB102_108.out _;(with_reducible repeat (first|refine blk_drewN ?_ _|refine blk_drew ?_|refine blk_alloc ?_ _));refine blk_far ?_ NB102_108.out _;(with_reducible repeat (first|refine blk_drewN ?_ _|refine blk_drew ?_|refine blk_alloc ?_ _));exact BK102.out) Try.underlying31 rfl (by kernel_rfl)) rfl ?_
 exact ⟨_,by first|rfl|(simp [errW_none,errW_some]<;>rfl)|(simp [*,errW_none,errW_some]<;>rfl),by first|exact Kd.S_nil _ _ _ _ _|exact Kd.N_nil _ _ _ _ _|exact Kd.V_nil _ _ _ _ _|exact Kd.Q_nil _ _ _ _ _|exact Kd.R_nil _ _ _ _ _,bl⟩
end Go.Proofs.Ytoebojnhchocaaa.A
/- Set with little white space, by a program. -/
