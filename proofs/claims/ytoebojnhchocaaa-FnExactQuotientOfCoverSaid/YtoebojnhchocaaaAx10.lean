/- The functions that one law reaches, each as a Lean function, and that Go's call comes to what it says. Condition of each: that the Lean function answers (is not none). -/
import Derived.Test.YtoebojnhchocaaaAx0
import Derived.Test.YtoebojnhchocaaaAx8
import Derived.Test.YtoebojnhchocaaaAx9
namespace Go.Proofs.Ytoebojnhchocaaa.A
open Go.RowKit Go.Proofs.YtoebojnhchocaaaW.PrintWords Go.Proofs.YtoebojnhchocaaaW.PrintLast Go.Proofs.YtoebojnhchocaaaW.PrintMore
attribute [local go_sem] max2_int min2_int max_two min_two max_three min_three max_four min_four   -- for this text's walks alone
set_option linter.unusedVariables false
set_option linter.unusedSimpArgs false
/-! ### F161: function 161 -/
def F161.f (k:Nat) (a0_0:Int) (l0_1:List (List Int)) (a0_2:Int) (l0_3:List (List Int)):Option (Bool):=(F106.f k a0_0 l0_1).bind fun t102=>(if t102=true then ((F194.f a0_2 1 4).bind fun t103=>(if t103=true then ((F163.f a0_0 l0_1).bind fun t104=>(if (l0_3.length:Int)=t104 then ((F215.f k l0_3 a0_0 l0_1 a0_2 l0_3).bind fun t105=>(some (!t105))) else (some false))) else (some false))) else (some false))
theorem F161.mono:∀ a0 a1 a2 a3 k,LeO (F161.f k a0 a1 a2 a3) (F161.f (k+1) a0 a1 a2 a3):=by
 intro a0 a1 a2 a3 k
 unfold F161.f
 repeat' first
  | (with_reducible first|exact F215.mono _ _ _ _ _ _|exact F106.mono _ _ _|exact LeO.refl _|exact LeO.none _|refine LeO.ite ?_ ?_|refine LeO.bind ?_ (fun _=>?_))
  | exact F215.mono _ _ _ _ _ _|exact F106.mono _ _ _|exact LeO.none _|refine LeO.ite ?_ ?_|refine LeO.bind ?_ (fun _=>?_)
def F161.T1:Bool × List (List Nat × List Nat):=(true,[([],[]),([0],[0]),([1],[1]),([2],[2]),([3,2],[3]),([4],[4]),([5,4],[4,5]),([6,4,4],[4,6]),([7,4],[4,7]),([4,8],[4,8]),([9,7],[9]),([10],[10]),([11,10],[10,11]),([12,10],[10,12]),([10],[10]),([14,10],[10,14]),([15,10,10],[10,15]),([13,16,10],[10,13,16]),([10,17],[10,17])])
def F161.B1:List Nat:=[0,1,3,7,15,31,63,127,255,511,1023,2047,4095,8191,2047,18431,51199,131071,262143]
theorem F161.tab1:rtab .any (opsOf Try.f161 1)=F161.T1:=by kernel_rfl
theorem F161.bits1:waitsOk F161.T1.2 F161.B1=true:=by kernel_rfl
set_option maxHeartbeats 8000000 in
set_option maxRecDepth 100000 in
theorem F161.calls (k : Nat) (a0_0 : Int) (A0_1 : Option Addr) (c0_1 : Nat) (l0_1 : List (List Int)) (a0_2 : Int) (A0_3 : Option Addr) (c0_3 : Nat) (l0_3 : List (List Int)) (r : Bool) (w : World) (hr0_1 : Kd.C (Kd.slice 2 (Kd.int .i64)) w A0_1 l0_1.length l0_1) (hc0_1 : l0_1.length ≤ c0_1) (hr0_3 : Kd.C (Kd.slice 2 (Kd.int .i64)) w A0_3 l0_3.length l0_3) (hc0_3 : l0_3.length ≤ c0_3) (h : F161.f k a0_0 l0_1 a0_2 l0_3 = some r) :
  Calls Try.prog 161 #[.agg #[.int .i64 a0_0,.slice A0_1 l0_1.length c0_1,.int .i64 a0_2,.slice A0_3 l0_3.length c0_3]] w fun e w'=>e=.returned (.bool r)∧Below w.heap.size w w':=by
 have hu33:=Try.underlying33
 have hu31:=Try.underlying31
 have HR0_1:=Aside0.mk hr0_1
 have HC0_1:=Aside0.mk hc0_1
 clear hr0_1 hc0_1
 have HR0_3:=Aside0.mk hr0_3
 have HC0_3:=Aside0.mk hc0_3
 clear hr0_3 hc0_3
 have HB:=Aside0.mk (Below.refl w.heap.size w)
 have H:((F106.f k a0_0 l0_1).bind fun t102=>(if t102=true then ((F194.f a0_2 1 4).bind fun t103=>(if t103=true then ((F163.f a0_0 l0_1).bind fun t104=>(if (l0_3.length:Int)=t104 then ((F215.f k l0_3 a0_0 l0_1 a0_2 l0_3).bind fun t105=>(some (!t105))) else (some false))) else (some false))) else (some false)))=some r:=h
 clear h
 replace H:=Option.bind_eq_some_iff.mp H
 obtain ⟨t102,A20,H⟩:=H
 replace H:(if t102=true then ((F194.f a0_2 1 4).bind fun t103=>(if t103=true then ((F163.f a0_0 l0_1).bind fun t104=>(if (l0_3.length:Int)=t104 then ((F215.f k l0_3 a0_0 l0_1 a0_2 l0_3).bind fun t105=>(some (!t105))) else (some false))) else (some false))) else (some false))=some r:=H
 have A2:=Aside0.mk A20
 clear A20
 by_cases c3:t102=true
 case neg =>
  replace c3:=Bool.eq_false_iff.mpr c3
  subst c3
  have H1:(some false)=some r:=by rw [if_neg (show ¬ (false=true) by decide)] at H;exact H
  clear H
  have H:=H1
  clear H1
  obtain rfl:=Option.some.inj H
  go_enter Try.func161,Try.ntmps161
  try go_wp2_with (first|((with_reducible refine gate_dst (N:=1) rfl ?_);(try (refine gate_guard (by rfl) ?_;dsimp only));refine box_event ?hg (N:=1) ?hd (cs:=#[.int .i64 a0_0,.slice A0_1 l0_1.length c0_1,.int .i64 a0_2,.slice A0_3 l0_3.length c0_3]) (t:=33) ?hr ?_;(case hd=>rfl);(case hg=>rfl);(case hr=>first|(go_simp;done)|(go_simp;rfl));intro gb101 hg w22 hbox hb;have BK101:=Aside0.mk (hbox);have GW101:=Aside0.mk ((by rw [hg];exact (below_size bl):w.heap.size≤gb101));have GE101:=Aside0.mk ((by rw [hg];exact (below_size bl):w.heap.size≤gb101));replace HB:=Aside0.mk (below_step bl hb);clear hb hbox hg))
  replace BK101:=Aside0.mk (blk_drew BK101.out);replace HB:=Aside0.mk (below_drew1 HB.out)
  refine start_ (n:=19) (S:=fun w'=>w'.cell? ⟨gb101,0,none⟩=some (.int .i64 a0_0)∧w'.cell? ⟨gb101,1,none⟩=some (.slice A0_1 l0_1.length c0_1)∧w'.cell? ⟨gb101,2,none⟩=some (.int .i64 a0_2)∧w'.cell? ⟨gb101,3,none⟩=some (.slice A0_3 l0_3.length c0_3)) (ds:=[]) (ba 19 0) (by kernel_rfl) rfl rfl ⟨(blk_cell BK101.out 0).trans rfl,(blk_cell BK101.out 1).trans rfl,(blk_cell BK101.out 2).trans rfl,(blk_cell BK101.out 3).trans rfl⟩ (fun hHeld=>?_);refine with_tabW F161.tab1 F161.bits1 (fun HT_ HW_=>?_)
  generalize w22.drew=w23 at BK101 HB hHeld ⊢
  refine pu 0 (some 3) (ba 19 1) HT_ (h:=?_)
  refine ta 1 (some 4) (ba 19 3) HT_ HW_ hHeld (hy:=Or.inl ⟨by rfl,by rintro w' ⟨s0,s1,s2,s3⟩;go_simp;with_reducible rfl⟩) (h:=?_)
  refine one_ (i:=2) (N:=some 5) (ba 19 7) rfl rfl (one_of HT_.out (by kernel_rfl)) (by decide) (fun K hK=>?_)
  refine goes_ Try.func106 (by kernel_rfl) rfl #[.agg #[.int .i64 a0_0,.slice A0_1 l0_1.length c0_1]] (by rfl) rfl rfl gm ?_
  with_reducible refine (F106.calls k a0_0 _ _ l0_1 false _ ?side1 ?side2 A2.out).mono ?_
  (case side1=>exact aC (Kd.C_below HR0_1.out HB.out))
  (case side2=>exact HC0_1.out)
  rintro e w24 ⟨rfl,hb⟩
  refine ⟨_,rfl,?_⟩
  replace BK101:=Aside0.mk (blk_below (g:=gb101) (o:=.cells #[.int .i64 a0_0,.slice A0_1 l0_1.length c0_1,.int .i64 a0_2,.slice A0_3 l0_3.length c0_3] 33 (0,0)) bk hb);replace HB:=Aside0.mk (below_step bl hb)
  (try clear hb)
  (try clear hb2)
  (try clear hk)
  (try clear hi)
  refine hK.out _ _ ⟨(blk_cell BK101.out 0).trans rfl,(blk_cell BK101.out 1).trans rfl,(blk_cell BK101.out 2).trans rfl,(blk_cell BK101.out 3).trans rfl⟩ (fun hHeld=>?_)
  clear hK K
  refine norm_ (a':=?_) ?_ ?_
  rotate_left;· show Act.put _ (some 5) _=_;simp only [Act.put,zI,zZ,zS,i64_w,i32_w];rfl
  refine pu 3 (some 6) (ba 19 15) HT_ (h:=?_)
  refine pu 4 (some 7) (ba 19 31) HT_ (h:=?_)
  refine pure_ (i:=5) (N:=some 8) (v:=undef) (a':=?_) (ba 19 63) rfl rfl (any_of HT_.out (by kernel_rfl)) (fun _ _ _ h=>h) (Or.inr ⟨by rfl,rfl⟩) ?_ ?_
  rotate_left;· simp only [Act.put,zI,zZ,zS,i64_w,i32_w];rfl
  refine pure_ (i:=6) (N:=some 9) (v:=undef) (a':=?_) (ba 19 127) rfl rfl (any_of HT_.out (by kernel_rfl)) (fun _ _ _ h=>h) (Or.inr ⟨by rfl,rfl⟩) ?_ ?_
  rotate_left;· simp only [Act.put,zI,zZ,zS,i64_w,i32_w];rfl
  refine pure_ (i:=7) (N:=some 10) (v:=undef) (a':=?_) (ba 19 255) rfl rfl (any_of HT_.out (by kernel_rfl)) (fun _ _ _ h=>h) (Or.inr ⟨by rfl,rfl⟩) ?_ ?_
  rotate_left;· simp only [Act.put,zI,zZ,zS,i64_w,i32_w];rfl
  refine pure_ (i:=8) (N:=some 11) (v:=undef) (a':=?_) (ba 19 511) rfl rfl (any_of HT_.out (by kernel_rfl)) (fun _ _ _ h=>h) (Or.inr ⟨by rfl,rfl⟩) ?_ ?_
  rotate_left;· simp only [Act.put,zI,zZ,zS,i64_w,i32_w];rfl
  refine pu 9 (some 12) (ba 19 1023) HT_ (h:=?_)
  refine pu 10 (some 13) (ba 19 2047) HT_ (h:=?_)
  refine pure_ (i:=11) (N:=some 14) (v:=undef) (a':=?_) (ba 19 4095) rfl rfl (any_of HT_.out (by kernel_rfl)) (fun _ _ _ h=>h) (Or.inr ⟨by rfl,rfl⟩) ?_ ?_
  rotate_left;· simp only [Act.put,zI,zZ,zS,i64_w,i32_w];rfl
  refine pure_ (i:=12) (N:=some 15) (v:=undef) (a':=?_) (ba 19 8191) rfl rfl (any_of HT_.out (by kernel_rfl)) (fun _ _ _ h=>h) (Or.inr ⟨by rfl,rfl⟩) ?_ ?_
  rotate_left;· simp only [Act.put,zI,zZ,zS,i64_w,i32_w];rfl
  refine pure_ (i:=13) (N:=some 16) (v:=undef) (a':=?_) (ba 19 16383) rfl rfl (any_of HT_.out (by kernel_rfl)) (fun _ _ _ h=>h) (Or.inr ⟨by rfl,rfl⟩) ?_ ?_
  rotate_left;· simp only [Act.put,zI,zZ,zS,i64_w,i32_w];rfl
  refine pure_ (i:=14) (N:=some 17) (v:=undef) (a':=?_) (ba 19 32767) rfl rfl (any_of HT_.out (by kernel_rfl)) (fun _ _ _ h=>h) (Or.inr ⟨by rfl,rfl⟩) ?_ ?_
  rotate_left;· simp only [Act.put,zI,zZ,zS,i64_w,i32_w];rfl
  refine pure_ (i:=15) (N:=some 18) (v:=undef) (a':=?_) (ba 19 65535) rfl rfl (any_of HT_.out (by kernel_rfl)) (fun _ _ _ h=>h) (Or.inr ⟨by rfl,rfl⟩) ?_ ?_
  rotate_left;· simp only [Act.put,zI,zZ,zS,i64_w,i32_w];rfl
  refine pure_ (i:=16) (N:=some 19) (v:=undef) (a':=?_) (ba 19 131071) rfl rfl (any_of HT_.out (by kernel_rfl)) (fun _ _ _ h=>h) (Or.inr ⟨by rfl,rfl⟩) ?_ ?_
  rotate_left;· simp only [Act.put,zI,zZ,zS,i64_w,i32_w];rfl
  refine pure_ (i:=17) (N:=some 20) (v:=undef) (a':=?_) (ba 19 262143) rfl rfl (any_of HT_.out (by kernel_rfl)) (fun _ _ _ h=>h) (Or.inr ⟨by rfl,rfl⟩) ?_ ?_
  rotate_left;· simp only [Act.put,zI,zZ,zS,i64_w,i32_w];rfl
  refine pu 18 (some 21) (ba 19 524287) HT_ (h:=?_)
  refine done_ (done_of HT_.out (by kernel_rfl)) ?_
  try go_wp2
  go_ret
  exact ⟨by first|rfl|(simp [errW_none,errW_some]<;>rfl)|(simp [*,errW_none,errW_some]<;>rfl),bl⟩
 subst c3
 have H1:((F194.f a0_2 1 4).bind fun t103=>(if t103=true then ((F163.f a0_0 l0_1).bind fun t104=>(if (l0_3.length:Int)=t104 then ((F215.f k l0_3 a0_0 l0_1 a0_2 l0_3).bind fun t105=>(some (!t105))) else (some false))) else (some false)))=some r:=by rw [if_pos rfl] at H;exact H
 clear H
 have H:=H1
 clear H1
 replace H:=Option.bind_eq_some_iff.mp H
 obtain ⟨t103,A40,H⟩:=H
 replace H:(if t103=true then ((F163.f a0_0 l0_1).bind fun t104=>(if (l0_3.length:Int)=t104 then ((F215.f k l0_3 a0_0 l0_1 a0_2 l0_3).bind fun t105=>(some (!t105))) else (some false))) else (some false))=some r:=H
 have A4:=Aside0.mk A40
 clear A40
 by_cases c5:t103=true
 case neg =>
  replace c5:=Bool.eq_false_iff.mpr c5
  subst c5
  have H1:(some false)=some r:=by rw [if_neg (show ¬ (false=true) by decide)] at H;exact H
  clear H
  have H:=H1
  clear H1
  obtain rfl:=Option.some.inj H
  go_enter Try.func161,Try.ntmps161
  try go_wp2_with (first|((with_reducible refine gate_dst (N:=1) rfl ?_);(try (refine gate_guard (by rfl) ?_;dsimp only));refine box_event ?hg (N:=1) ?hd (cs:=#[.int .i64 a0_0,.slice A0_1 l0_1.length c0_1,.int .i64 a0_2,.slice A0_3 l0_3.length c0_3]) (t:=33) ?hr ?_;(case hd=>rfl);(case hg=>rfl);(case hr=>first|(go_simp;done)|(go_simp;rfl));intro gb101 hg w19 hbox hb;have BK101:=Aside0.mk (hbox);have GW101:=Aside0.mk ((by rw [hg];exact (below_size bl):w.heap.size≤gb101));have GE101:=Aside0.mk ((by rw [hg];exact (below_size bl):w.heap.size≤gb101));replace HB:=Aside0.mk (below_step bl hb);clear hb hbox hg))
  replace BK101:=Aside0.mk (blk_drew BK101.out);replace HB:=Aside0.mk (below_drew1 HB.out)
  refine start_ (n:=19) (S:=fun w'=>w'.cell? ⟨gb101,0,none⟩=some (.int .i64 a0_0)∧w'.cell? ⟨gb101,1,none⟩=some (.slice A0_1 l0_1.length c0_1)∧w'.cell? ⟨gb101,2,none⟩=some (.int .i64 a0_2)∧w'.cell? ⟨gb101,3,none⟩=some (.slice A0_3 l0_3.length c0_3)) (ds:=[]) (ba 19 0) (by kernel_rfl) rfl rfl ⟨(blk_cell BK101.out 0).trans rfl,(blk_cell BK101.out 1).trans rfl,(blk_cell BK101.out 2).trans rfl,(blk_cell BK101.out 3).trans rfl⟩ (fun hHeld=>?_);refine with_tabW F161.tab1 F161.bits1 (fun HT_ HW_=>?_)
  generalize w19.drew=w20 at BK101 HB hHeld ⊢
  refine pu 0 (some 3) (ba 19 1) HT_ (h:=?_)
  refine ta 1 (some 4) (ba 19 3) HT_ HW_ hHeld (hy:=Or.inl ⟨by rfl,by rintro w' ⟨s0,s1,s2,s3⟩;go_simp;with_reducible rfl⟩) (h:=?_)
  refine one_ (i:=2) (N:=some 5) (ba 19 7) rfl rfl (one_of HT_.out (by kernel_rfl)) (by decide) (fun K hK=>?_)
  refine goes_ Try.func106 (by kernel_rfl) rfl #[.agg #[.int .i64 a0_0,.slice A0_1 l0_1.length c0_1]] (by rfl) rfl rfl gm ?_
  with_reducible refine (F106.calls k a0_0 _ _ l0_1 true _ ?side1 ?side2 A2.out).mono ?_
  (case side1=>exact aC (Kd.C_below HR0_1.out HB.out))
  (case side2=>exact HC0_1.out)
  rintro e w21 ⟨rfl,hb⟩
  refine ⟨_,rfl,?_⟩
  replace BK101:=Aside0.mk (blk_below (g:=gb101) (o:=.cells #[.int .i64 a0_0,.slice A0_1 l0_1.length c0_1,.int .i64 a0_2,.slice A0_3 l0_3.length c0_3] 33 (0,0)) bk hb);replace HB:=Aside0.mk (below_step bl hb)
  (try clear hb)
  (try clear hb2)
  (try clear hk)
  (try clear hi)
  refine hK.out _ _ ⟨(blk_cell BK101.out 0).trans rfl,(blk_cell BK101.out 1).trans rfl,(blk_cell BK101.out 2).trans rfl,(blk_cell BK101.out 3).trans rfl⟩ (fun hHeld=>?_)
  clear hK K
  refine norm_ (a':=?_) ?_ ?_
  rotate_left;· show Act.put _ (some 5) _=_;simp only [Act.put,zI,zZ,zS,i64_w,i32_w];rfl
  refine pu 3 (some 6) (ba 19 15) HT_ (h:=?_)
  refine pu 4 (some 7) (ba 19 31) HT_ (h:=?_)
  refine pu 5 (some 8) (ba 19 63) HT_ (h:=?_)
  refine ta 6 (some 9) (ba 19 127) HT_ HW_ hHeld (hy:=Or.inl ⟨by rfl,by rintro w' ⟨s0,s1,s2,s3⟩;go_simp;with_reducible rfl⟩) (h:=?_)
  refine one_ (i:=7) (N:=some 10) (ba 19 255) rfl rfl (one_of HT_.out (by kernel_rfl)) (by decide) (fun K hK=>?_)
  refine goes_ Try.func194 (by kernel_rfl) rfl #[.int .i64 a0_2,.int .i64 1,.int .i64 4] (by rfl) rfl rfl gm ?_
  with_reducible refine (F194.calls a0_2 1 4 false _ A4.out).mono ?_
  rintro e w' ⟨rfl,⟨nd,rfl⟩⟩
  refine ⟨_,rfl,?_⟩
  refine hK.out _ _ ⟨(blk_cell BK101.out 0).trans rfl,(blk_cell BK101.out 1).trans rfl,(blk_cell BK101.out 2).trans rfl,(blk_cell BK101.out 3).trans rfl⟩ (fun hHeld=>?_)
  clear hK K
  refine norm_ (a':=?_) ?_ ?_
  rotate_left;· show Act.put _ (some 10) _=_;simp only [Act.put,zI,zZ,zS,i64_w,i32_w];rfl
  refine pu 8 (some 11) (ba 19 511) HT_ (h:=?_)
  refine pu 9 (some 12) (ba 19 1023) HT_ (h:=?_)
  refine pu 10 (some 13) (ba 19 2047) HT_ (h:=?_)
  refine pure_ (i:=11) (N:=some 14) (v:=undef) (a':=?_) (ba 19 4095) rfl rfl (any_of HT_.out (by kernel_rfl)) (fun _ _ _ h=>h) (Or.inr ⟨by rfl,rfl⟩) ?_ ?_
  rotate_left;· simp only [Act.put,zI,zZ,zS,i64_w,i32_w];rfl
  refine pure_ (i:=12) (N:=some 15) (v:=undef) (a':=?_) (ba 19 8191) rfl rfl (any_of HT_.out (by kernel_rfl)) (fun _ _ _ h=>h) (Or.inr ⟨by rfl,rfl⟩) ?_ ?_
  rotate_left;· simp only [Act.put,zI,zZ,zS,i64_w,i32_w];rfl
  refine pure_ (i:=13) (N:=some 16) (v:=undef) (a':=?_) (ba 19 16383) rfl rfl (any_of HT_.out (by kernel_rfl)) (fun _ _ _ h=>h) (Or.inr ⟨by rfl,rfl⟩) ?_ ?_
  rotate_left;· simp only [Act.put,zI,zZ,zS,i64_w,i32_w];rfl
  refine pure_ (i:=14) (N:=some 17) (v:=undef) (a':=?_) (ba 19 32767) rfl rfl (any_of HT_.out (by kernel_rfl)) (fun _ _ _ h=>h) (Or.inr ⟨by rfl,rfl⟩) ?_ ?_
  rotate_left;· simp only [Act.put,zI,zZ,zS,i64_w,i32_w];rfl
  refine pure_ (i:=15) (N:=some 18) (v:=undef) (a':=?_) (ba 19 65535) rfl rfl (any_of HT_.out (by kernel_rfl)) (fun _ _ _ h=>h) (Or.inr ⟨by rfl,rfl⟩) ?_ ?_
  rotate_left;· simp only [Act.put,zI,zZ,zS,i64_w,i32_w];rfl
  refine pure_ (i:=16) (N:=some 19) (v:=undef) (a':=?_) (ba 19 131071) rfl rfl (any_of HT_.out (by kernel_rfl)) (fun _ _ _ h=>h) (Or.inr ⟨by rfl,rfl⟩) ?_ ?_
  rotate_left;· simp only [Act.put,zI,zZ,zS,i64_w,i32_w];rfl
  refine pure_ (i:=17) (N:=some 20) (v:=undef) (a':=?_) (ba 19 262143) rfl rfl (any_of HT_.out (by kernel_rfl)) (fun _ _ _ h=>h) (Or.inr ⟨by rfl,rfl⟩) ?_ ?_
  rotate_left;· simp only [Act.put,zI,zZ,zS,i64_w,i32_w];rfl
  refine pu 18 (some 21) (ba 19 524287) HT_ (h:=?_)
  refine done_ (done_of HT_.out (by kernel_rfl)) ?_
  try go_wp2
  go_ret
  exact ⟨by first|rfl|(simp [errW_none,errW_some]<;>rfl)|(simp [*,errW_none,errW_some]<;>rfl),bl⟩
 subst c5
 have H1:((F163.f a0_0 l0_1).bind fun t104=>(if (l0_3.length:Int)=t104 then ((F215.f k l0_3 a0_0 l0_1 a0_2 l0_3).bind fun t105=>(some (!t105))) else (some false)))=some r:=by rw [if_pos rfl] at H;exact H
 clear H
 have H:=H1
 clear H1
 replace H:=Option.bind_eq_some_iff.mp H
 obtain ⟨t104,A60,H⟩:=H
 replace H:(if (l0_3.length:Int)=t104 then ((F215.f k l0_3 a0_0 l0_1 a0_2 l0_3).bind fun t105=>(some (!t105))) else (some false))=some r:=H
 have A6:=Aside0.mk A60
 clear A60
 by_cases c7:(l0_3.length:Int)=t104
 case neg =>
  rw [if_neg c7] at H
  have c7b0:((l0_3.length:Int) == t104)=false:=beq_eq_false_iff_ne.mpr c7
  have c7b1:((l0_3.length:Int) != t104)=true:=bne_iff_ne.mpr c7
  obtain rfl:=Option.some.inj H
  go_enter Try.func161,Try.ntmps161
  try go_wp2_with (first|((with_reducible refine gate_dst (N:=1) rfl ?_);(try (refine gate_guard (by rfl) ?_;dsimp only));refine box_event ?hg (N:=1) ?hd (cs:=#[.int .i64 a0_0,.slice A0_1 l0_1.length c0_1,.int .i64 a0_2,.slice A0_3 l0_3.length c0_3]) (t:=33) ?hr ?_;(case hd=>rfl);(case hg=>rfl);(case hr=>first|(go_simp;done)|(go_simp;rfl));intro gb101 hg w15 hbox hb;have BK101:=Aside0.mk (hbox);have GW101:=Aside0.mk ((by rw [hg];exact (below_size bl):w.heap.size≤gb101));have GE101:=Aside0.mk ((by rw [hg];exact (below_size bl):w.heap.size≤gb101));replace HB:=Aside0.mk (below_step bl hb);clear hb hbox hg))
  replace BK101:=Aside0.mk (blk_drew BK101.out);replace HB:=Aside0.mk (below_drew1 HB.out)
  refine start_ (n:=19) (S:=fun w'=>w'.cell? ⟨gb101,0,none⟩=some (.int .i64 a0_0)∧w'.cell? ⟨gb101,1,none⟩=some (.slice A0_1 l0_1.length c0_1)∧w'.cell? ⟨gb101,2,none⟩=some (.int .i64 a0_2)∧w'.cell? ⟨gb101,3,none⟩=some (.slice A0_3 l0_3.length c0_3)) (ds:=[]) (ba 19 0) (by kernel_rfl) rfl rfl ⟨(blk_cell BK101.out 0).trans rfl,(blk_cell BK101.out 1).trans rfl,(blk_cell BK101.out 2).trans rfl,(blk_cell BK101.out 3).trans rfl⟩ (fun hHeld=>?_);refine with_tabW F161.tab1 F161.bits1 (fun HT_ HW_=>?_)
  generalize w15.drew=w16 at BK101 HB hHeld ⊢
  refine pu 0 (some 3) (ba 19 1) HT_ (h:=?_)
  refine ta 1 (some 4) (ba 19 3) HT_ HW_ hHeld (hy:=Or.inl ⟨by rfl,by rintro w' ⟨s0,s1,s2,s3⟩;go_simp;with_reducible rfl⟩) (h:=?_)
  refine one_ (i:=2) (N:=some 5) (ba 19 7) rfl rfl (one_of HT_.out (by kernel_rfl)) (by decide) (fun K hK=>?_)
  refine goes_ Try.func106 (by kernel_rfl) rfl #[.agg #[.int .i64 a0_0,.slice A0_1 l0_1.length c0_1]] (by rfl) rfl rfl gm ?_
  with_reducible refine (F106.calls k a0_0 _ _ l0_1 true _ ?side1 ?side2 A2.out).mono ?_
  (case side1=>exact aC (Kd.C_below HR0_1.out HB.out))
  (case side2=>exact HC0_1.out)
  rintro e w17 ⟨rfl,hb⟩
  refine ⟨_,rfl,?_⟩
  replace BK101:=Aside0.mk (blk_below (g:=gb101) (o:=.cells #[.int .i64 a0_0,.slice A0_1 l0_1.length c0_1,.int .i64 a0_2,.slice A0_3 l0_3.length c0_3] 33 (0,0)) bk hb);replace HB:=Aside0.mk (below_step bl hb)
  (try clear hb)
  (try clear hb2)
  (try clear hk)
  (try clear hi)
  refine hK.out _ _ ⟨(blk_cell BK101.out 0).trans rfl,(blk_cell BK101.out 1).trans rfl,(blk_cell BK101.out 2).trans rfl,(blk_cell BK101.out 3).trans rfl⟩ (fun hHeld=>?_)
  clear hK K
  refine norm_ (a':=?_) ?_ ?_
  rotate_left;· show Act.put _ (some 5) _=_;simp only [Act.put,zI,zZ,zS,i64_w,i32_w];rfl
  refine pu 3 (some 6) (ba 19 15) HT_ (h:=?_)
  refine pu 4 (some 7) (ba 19 31) HT_ (h:=?_)
  refine pu 5 (some 8) (ba 19 63) HT_ (h:=?_)
  refine ta 6 (some 9) (ba 19 127) HT_ HW_ hHeld (hy:=Or.inl ⟨by rfl,by rintro w' ⟨s0,s1,s2,s3⟩;go_simp;with_reducible rfl⟩) (h:=?_)
  refine one_ (i:=7) (N:=some 10) (ba 19 255) rfl rfl (one_of HT_.out (by kernel_rfl)) (by decide) (fun K hK=>?_)
  refine goes_ Try.func194 (by kernel_rfl) rfl #[.int .i64 a0_2,.int .i64 1,.int .i64 4] (by rfl) rfl rfl gm ?_
  with_reducible refine (F194.calls a0_2 1 4 true _ A4.out).mono ?_
  rintro e w' ⟨rfl,⟨nd,rfl⟩⟩
  refine ⟨_,rfl,?_⟩
  refine hK.out _ _ ⟨(blk_cell BK101.out 0).trans rfl,(blk_cell BK101.out 1).trans rfl,(blk_cell BK101.out 2).trans rfl,(blk_cell BK101.out 3).trans rfl⟩ (fun hHeld=>?_)
  clear hK K
  refine norm_ (a':=?_) ?_ ?_
  rotate_left;· show Act.put _ (some 10) _=_;simp only [Act.put,zI,zZ,zS,i64_w,i32_w];rfl
  refine pu 8 (some 11) (ba 19 511) HT_ (h:=?_)
  refine pu 9 (some 12) (ba 19 1023) HT_ (h:=?_)
  refine pu 10 (some 13) (ba 19 2047) HT_ (h:=?_)
  refine pu 11 (some 14) (ba 19 4095) HT_ (h:=?_)
  refine pu 14 (some 17) (ba 19 20479) HT_ (h:=?_)
  refine ta 12 (some 15) (ba 19 24575) HT_ HW_ hHeld (hy:=Or.inl ⟨by rfl,by rintro w' ⟨s0,s1,s2,s3⟩;go_simp;with_reducible rfl⟩) (h:=?_)
  refine pu 13 (some 16) (ba 19 32767) HT_ (h:=?_)
  refine ta 15 (some 18) (ba 19 65535) HT_ HW_ hHeld (hy:=Or.inl ⟨by rfl,by rintro w' ⟨s0,s1,s2,s3⟩;go_simp;with_reducible rfl⟩) (h:=?_)
  refine one_ (i:=16) (N:=some 19) (ba 19 131071) rfl rfl (one_of HT_.out (by kernel_rfl)) (by decide) (fun K hK=>?_)
  refine goes_ Try.func163 (by kernel_rfl) rfl #[.agg #[.int .i64 a0_0,.slice A0_1 l0_1.length c0_1]] (by rfl) rfl rfl gm ?_
  with_reducible refine (F163.calls a0_0 _ _ l0_1 t104 _ ?side1 ?side2 A6.out).mono ?_
  (case side1=>exact aC (Kd.C_below HR0_1.out bl))
  (case side2=>exact HC0_1.out)
  rintro e w18 ⟨rfl,hb⟩
  refine ⟨_,rfl,?_⟩
  replace BK101:=Aside0.mk (blk_below (g:=gb101) (o:=.cells #[.int .i64 a0_0,.slice A0_1 l0_1.length c0_1,.int .i64 a0_2,.slice A0_3 l0_3.length c0_3] 33 (0,0)) bk hb);replace HB:=Aside0.mk (below_step bl hb)
  (try clear hb)
  (try clear hb2)
  (try clear hk)
  (try clear hi)
  refine hK.out _ _ ⟨(blk_cell BK101.out 0).trans rfl,(blk_cell BK101.out 1).trans rfl,(blk_cell BK101.out 2).trans rfl,(blk_cell BK101.out 3).trans rfl⟩ (fun hHeld=>?_)
  clear hK K
  refine norm_ (a':=?_) ?_ ?_
  rotate_left;· show Act.put _ (some 19) _=_;simp only [Act.put,zI,zZ,zS,i64_w,i32_w];rfl
  refine pu 17 (some 20) (ba 19 262143) HT_ (h:=?_)
  refine pu 18 (some 21) (ba 19 524287) HT_ (h:=?_)
  refine done_ (done_of HT_.out (by kernel_rfl)) ?_
  try go_wp2
  go_ret
  exact ⟨by first|rfl|(simp [errW_none,errW_some]<;>rfl)|(simp [*,errW_none,errW_some]<;>rfl),bl⟩
 rw [if_pos c7] at H
 have c7b0:((l0_3.length:Int) == t104)=true:=beq_iff_eq.mpr c7
 have c7b1:((l0_3.length:Int) != t104)=false:=bne_eq_false_iff_eq.mpr c7
 clear c7
 replace H:=Option.bind_eq_some_iff.mp H
 obtain ⟨t105,A80,H⟩:=H
 replace H:(some (!t105))=some r:=H
 have A8:=Aside0.mk A80
 clear A80
 obtain rfl:=Option.some.inj H
 go_enter Try.func161,Try.ntmps161
 try go_wp2_with (first|((with_reducible refine gate_dst (N:=1) rfl ?_);(try (refine gate_guard (by rfl) ?_;dsimp only));refine box_event ?hg (N:=1) ?hd (cs:=#[.int .i64 a0_0,.slice A0_1 l0_1.length c0_1,.int .i64 a0_2,.slice A0_3 l0_3.length c0_3]) (t:=33) ?hr ?_;(case hd=>rfl);(case hg=>rfl);(case hr=>first|(go_simp;done)|(go_simp;rfl));intro gb101 hg w9 hbox hb;have BK101:=Aside0.mk (hbox);have GW101:=Aside0.mk ((by rw [hg];exact (below_size bl):w.heap.size≤gb101));have GE101:=Aside0.mk ((by rw [hg];exact (below_size bl):w.heap.size≤gb101));replace HB:=Aside0.mk (below_step bl hb);clear hb hbox hg))
 replace BK101:=Aside0.mk (blk_drew BK101.out);replace HB:=Aside0.mk (below_drew1 HB.out)
 refine start_ (n:=19) (S:=fun w'=>w'.cell? ⟨gb101,0,none⟩=some (.int .i64 a0_0)∧w'.cell? ⟨gb101,1,none⟩=some (.slice A0_1 l0_1.length c0_1)∧w'.cell? ⟨gb101,2,none⟩=some (.int .i64 a0_2)∧w'.cell? ⟨gb101,3,none⟩=some (.slice A0_3 l0_3.length c0_3)) (ds:=[]) (ba 19 0) (by kernel_rfl) rfl rfl ⟨(blk_cell BK101.out 0).trans rfl,(blk_cell BK101.out 1).trans rfl,(blk_cell BK101.out 2).trans rfl,(blk_cell BK101.out 3).trans rfl⟩ (fun hHeld=>?_);refine with_tabW F161.tab1 F161.bits1 (fun HT_ HW_=>?_)
 generalize w9.drew=w10 at BK101 HB hHeld ⊢
 refine pu 0 (some 3) (ba 19 1) HT_ (h:=?_)
 refine ta 1 (some 4) (ba 19 3) HT_ HW_ hHeld (hy:=Or.inl ⟨by rfl,by rintro w' ⟨s0,s1,s2,s3⟩;go_simp;with_reducible rfl⟩) (h:=?_)
 refine one_ (i:=2) (N:=some 5) (ba 19 7) rfl rfl (one_of HT_.out (by kernel_rfl)) (by decide) (fun K hK=>?_)
 refine goes_ Try.func106 (by kernel_rfl) rfl #[.agg #[.int .i64 a0_0,.slice A0_1 l0_1.length c0_1]] (by rfl) rfl rfl gm ?_
 with_reducible refine (F106.calls k a0_0 _ _ l0_1 true _ ?side1 ?side2 A2.out).mono ?_
 (case side1=>exact aC (Kd.C_below HR0_1.out HB.out))
 (case side2=>exact HC0_1.out)
 rintro e w11 ⟨rfl,hb⟩
 refine ⟨_,rfl,?_⟩
 replace BK101:=Aside0.mk (blk_below (g:=gb101) (o:=.cells #[.int .i64 a0_0,.slice A0_1 l0_1.length c0_1,.int .i64 a0_2,.slice A0_3 l0_3.length c0_3] 33 (0,0)) bk hb);replace HB:=Aside0.mk (below_step bl hb)
 (try clear hb)
 (try clear hb2)
 (try clear hk)
 (try clear hi)
 refine hK.out _ _ ⟨(blk_cell BK101.out 0).trans rfl,(blk_cell BK101.out 1).trans rfl,(blk_cell BK101.out 2).trans rfl,(blk_cell BK101.out 3).trans rfl⟩ (fun hHeld=>?_)
 clear hK K
 refine norm_ (a':=?_) ?_ ?_
 rotate_left;· show Act.put _ (some 5) _=_;simp only [Act.put,zI,zZ,zS,i64_w,i32_w];rfl
 refine pu 3 (some 6) (ba 19 15) HT_ (h:=?_)
 refine pu 4 (some 7) (ba 19 31) HT_ (h:=?_)
 refine pu 5 (some 8) (ba 19 63) HT_ (h:=?_)
 refine ta 6 (some 9) (ba 19 127) HT_ HW_ hHeld (hy:=Or.inl ⟨by rfl,by rintro w' ⟨s0,s1,s2,s3⟩;go_simp;with_reducible rfl⟩) (h:=?_)
 refine one_ (i:=7) (N:=some 10) (ba 19 255) rfl rfl (one_of HT_.out (by kernel_rfl)) (by decide) (fun K hK=>?_)
 refine goes_ Try.func194 (by kernel_rfl) rfl #[.int .i64 a0_2,.int .i64 1,.int .i64 4] (by rfl) rfl rfl gm ?_
 with_reducible refine (F194.calls a0_2 1 4 true _ A4.out).mono ?_
 rintro e w' ⟨rfl,⟨nd,rfl⟩⟩
 refine ⟨_,rfl,?_⟩
 refine hK.out _ _ ⟨(blk_cell BK101.out 0).trans rfl,(blk_cell BK101.out 1).trans rfl,(blk_cell BK101.out 2).trans rfl,(blk_cell BK101.out 3).trans rfl⟩ (fun hHeld=>?_)
 clear hK K
 refine norm_ (a':=?_) ?_ ?_
 rotate_left;· show Act.put _ (some 10) _=_;simp only [Act.put,zI,zZ,zS,i64_w,i32_w];rfl
 refine pu 8 (some 11) (ba 19 511) HT_ (h:=?_)
 refine pu 9 (some 12) (ba 19 1023) HT_ (h:=?_)
 refine pu 10 (some 13) (ba 19 2047) HT_ (h:=?_)
 refine pu 11 (some 14) (ba 19 4095) HT_ (h:=?_)
 refine pu 14 (some 17) (ba 19 20479) HT_ (h:=?_)
 refine ta 12 (some 15) (ba 19 24575) HT_ HW_ hHeld (hy:=Or.inl ⟨by rfl,by rintro w' ⟨s0,s1,s2,s3⟩;go_simp;with_reducible rfl⟩) (h:=?_)
 refine pu 13 (some 16) (ba 19 32767) HT_ (h:=?_)
 refine ta 15 (some 18) (ba 19 65535) HT_ HW_ hHeld (hy:=Or.inl ⟨by rfl,by rintro w' ⟨s0,s1,s2,s3⟩;go_simp;with_reducible rfl⟩) (h:=?_)
 refine one_ (i:=16) (N:=some 19) (ba 19 131071) rfl rfl (one_of HT_.out (by kernel_rfl)) (by decide) (fun K hK=>?_)
 refine goes_ Try.func163 (by kernel_rfl) rfl #[.agg #[.int .i64 a0_0,.slice A0_1 l0_1.length c0_1]] (by rfl) rfl rfl gm ?_
 with_reducible refine (F163.calls a0_0 _ _ l0_1 t104 _ ?side1 ?side2 A6.out).mono ?_
 (case side1=>exact aC (Kd.C_below HR0_1.out bl))
 (case side2=>exact HC0_1.out)
 rintro e w12 ⟨rfl,hb⟩
 refine ⟨_,rfl,?_⟩
 replace BK101:=Aside0.mk (blk_below (g:=gb101) (o:=.cells #[.int .i64 a0_0,.slice A0_1 l0_1.length c0_1,.int .i64 a0_2,.slice A0_3 l0_3.length c0_3] 33 (0,0)) bk hb);replace HB:=Aside0.mk (below_step bl hb)
 (try clear hb)
 (try clear hb2)
 (try clear hk)
 (try clear hi)
 refine hK.out _ _ ⟨(blk_cell BK101.out 0).trans rfl,(blk_cell BK101.out 1).trans rfl,(blk_cell BK101.out 2).trans rfl,(blk_cell BK101.out 3).trans rfl⟩ (fun hHeld=>?_)
 clear hK K
 refine norm_ (a':=?_) ?_ ?_
 rotate_left;· show Act.put _ (some 19) _=_;simp only [Act.put,zI,zZ,zS,i64_w,i32_w];rfl
 refine pu 17 (some 20) (ba 19 262143) HT_ (h:=?_)
 refine pu 18 (some 21) (ba 19 524287) HT_ (h:=?_)
 refine done_ (done_of HT_.out (by kernel_rfl)) ?_
 have hcz13_0:w12.cell? ⟨gb101,0,none⟩=some (.int .i64 a0_0):=(blk_cell BK101.out 0).trans rfl
 have hcz13_1:w12.cell? ⟨gb101,1,none⟩=some (.slice A0_1 l0_1.length c0_1):=(blk_cell BK101.out 1).trans rfl
 have hcz13_2:w12.cell? ⟨gb101,2,none⟩=some (.int .i64 a0_2):=(blk_cell BK101.out 2).trans rfl
 have hcz13_3:w12.cell? ⟨gb101,3,none⟩=some (.slice A0_3 l0_3.length c0_3):=(blk_cell BK101.out 3).trans rfl
 have hfz13_0:=blk_frozen BK101.out 0
 have hfz13_1:=blk_frozen BK101.out 1
 have hfz13_2:=blk_frozen BK101.out 2
 have hfz13_3:=blk_frozen BK101.out 3
 try go_wp2_with (first|((with_reducible refine gate_callee (f:=180) rfl ?_);refine goesL_ (some 25) rfl rfl Try.func180 (by kernel_rfl) rfl #[.slice A0_3 l0_3.length c0_3,.func (.func 215) #[] #[.pointer (some ⟨gb101,0,none⟩)]] rfl gm ?_;(with_reducible refine (F215.calls k _ _ l0_3 a0_0 A0_1 c0_1 l0_1 a0_2 A0_3 c0_3 l0_3 t105 _ ?side1 ?side2 ?side3 ?side4 ?side5 ?side6 ?side7 A8.out).mono ?_);(case side1=>exact aC (Kd.C_below HR0_3.out HB.out));(case side2=>exact HC0_3.out);(case side3=>exact aC (Kd.C_below HR0_1.out HB.out));(case side4=>exact HC0_1.out);(case side5=>exact aC (Kd.C_below HR0_3.out HB.out));(case side6=>exact HC0_3.out);(case side7=>exact by (with_reducible repeat (first|refine blk_drewN ?_ _|refine blk_drew ?_|refine blk_alloc ?_ _));exact BK101.out);rintro e w14 ⟨rfl,hb⟩;refine ⟨_,rfl,?_⟩;replace BK101:=Aside0.mk (blk_below (g:=gb101) (o:=.cells #[.int .i64 a0_0,.slice A0_1 l0_1.length c0_1,.int .i64 a0_2,.slice A0_3 l0_3.length c0_3] 33 (0,0)) bk hb);replace HB:=Aside0.mk (below_step bl hb);(try clear hb);(try clear hb2);(try clear hk);(try clear hi)))
 go_ret
 exact ⟨by first|rfl|(simp [errW_none,errW_some]<;>rfl)|(simp [*,errW_none,errW_some]<;>rfl),bl⟩
end Go.Proofs.Ytoebojnhchocaaa.A
/- Set with little white space, by a program. -/
