/- The functions that one law reaches, each as a Lean function, and that Go's call comes to what it says. Condition of each: that the Lean function answers (is not none). -/
import Derived.Test.YtjgdibhalmcigaaDx0
import Derived.Test.YtjgdibhalmcigaaDx3
namespace Go.Proofs.Ytjgdibhalmcigaa.D
open Go.RowKit Go.Proofs.YtjgdibhalmcigaaW.PrintWords Go.Proofs.YtjgdibhalmcigaaW.PrintLast Go.Proofs.YtjgdibhalmcigaaW.PrintMore
attribute [local go_sem] max2_int min2_int max_two min_two max_three min_three max_four min_four   -- for this text's walks alone
set_option linter.unusedVariables false
set_option linter.unusedSimpArgs false
/-! ### spec_l01Read: function 139 -/
mutual
def spec_l01Read.j0 : Nat → List ByteArray → Int → List (List Int) → Option (Int × (List (List Int)) × Bool)
 | 0,_,_,_=>none
 | k+1,x6,x111000,x111001=>spec_l01Read.l0 k x6 0 x111000 x111001
def spec_l01Read.l0 : Nat → List ByteArray → Int → Int → List (List Int) → Option (Int × (List (List Int)) × Bool)
 | 0,_,_,_,_=>none
 | k+1,x6,x7,x111000,x111001=>if x7 < (x6.length:Int) then (if 0≤x7 then ((spec_l01Split.f k (rdOf ByteArray.empty x6 x7) 45).bind fun t121=>(if (t121.length:Int)=2 then (if 0 < (t121.length:Int) then ((spec_l01Number.f k (rdOf ByteArray.empty t121 0)).bind fun t125=>(if 1 < (t121.length:Int) then ((spec_l01Number.f k (rdOf ByteArray.empty t121 1)).bind fun t127=>(if x111001.length < 5864062014805 then (spec_l01Read.l0 k x6 (wrap64 (x7+1)) x111000 (x111001 ++ [(([t125,t127]:List Int))])) else (none))) else (none))) else (none)) else (some (0,([]:List (List Int)),false)))) else (none)) else ((spec_l01Is.f k x111000 x111001).bind fun t119=>(if t119=true then (some (x111000,x111001,true)) else (some (0,([]:List (List Int)),false))))
end
def spec_l01Read.f (k:Nat) (a0:ByteArray):Option (Int × (List (List Int)) × Bool):=(spec_l01Split.f k a0 58).bind fun t102=>(if (t102.length:Int)=2 then (if 0 < (t102.length:Int) then ((spec_l01Number.f k (rdOf ByteArray.empty t102 0)).bind fun t106=>((some (([]:List (List Int)):List (List Int))).bind fun y107=>(if 1 < (t102.length:Int) then ((spec_l01Split.f k (rdOf ByteArray.empty t102 1) 44).bind fun t112=>(if (rdOf ByteArray.empty t102 1).toList=([]:List UInt8) then (spec_l01Read.j0 k (([]:List ByteArray)) t106 y107) else (spec_l01Read.j0 k t112 t106 y107))) else (none)))) else (none)) else (some (0,([]:List (List Int)),false)))
theorem spec_l01Read.mono_l : ∀ k, (∀ y0 y1 y2, LeO (spec_l01Read.j0 k y0 y1 y2) (spec_l01Read.j0 (k + 1) y0 y1 y2)) ∧ (∀ y0 y1 y2 y3, LeO (spec_l01Read.l0 k y0 y1 y2 y3) (spec_l01Read.l0 (k + 1) y0 y1 y2 y3))
 | 0=>⟨fun _ _ _ r h=>by simp [spec_l01Read.j0] at h,fun _ _ _ _ r h=>by simp [spec_l01Read.l0] at h⟩
 | k+1=>by
  obtain ⟨ih0,ih1⟩:=spec_l01Read.mono_l k
  refine ⟨?_,?_⟩
  ·intro y0 y1 y2
   unfold spec_l01Read.j0
   repeat' first
   | (with_reducible exact ih0 _ _ _)
   | (with_reducible exact ih1 _ _ _ _)
   | (with_reducible exact spec_l01Is.mono _ _ _)
   | (with_reducible exact spec_l01Number.mono _ _)
   | (with_reducible exact spec_l01Split.mono _ _ _)
   | (with_reducible exact LeO.refl _)
   | (with_reducible exact LeO.none _)
   | (with_reducible refine LeO.ite ?_ ?_)
   | (with_reducible refine LeO.bind ?_ (fun _=>?_))
   | exact ih0 _ _ _
   | exact ih1 _ _ _ _
   | exact spec_l01Is.mono _ _ _
   | exact spec_l01Number.mono _ _
   | exact spec_l01Split.mono _ _ _
   | exact LeO.none _
   | refine LeO.ite ?_ ?_
   | refine LeO.bind ?_ (fun _=>?_)
  ·intro y0 y1 y2 y3
   unfold spec_l01Read.l0
   repeat' first
   | (with_reducible exact ih0 _ _ _)
   | (with_reducible exact ih1 _ _ _ _)
   | (with_reducible exact spec_l01Is.mono _ _ _)
   | (with_reducible exact spec_l01Number.mono _ _)
   | (with_reducible exact spec_l01Split.mono _ _ _)
   | (with_reducible exact LeO.refl _)
   | (with_reducible exact LeO.none _)
   | (with_reducible refine LeO.ite ?_ ?_)
   | (with_reducible refine LeO.bind ?_ (fun _=>?_))
   | exact ih0 _ _ _
   | exact ih1 _ _ _ _
   | exact spec_l01Is.mono _ _ _
   | exact spec_l01Number.mono _ _
   | exact spec_l01Split.mono _ _ _
   | exact LeO.none _
   | refine LeO.ite ?_ ?_
   | refine LeO.bind ?_ (fun _=>?_)
theorem spec_l01Read.mono:∀ a0 k,LeO (spec_l01Read.f k a0) (spec_l01Read.f (k+1) a0):=by
 intro a0 k
 obtain ⟨ih0,ih1⟩:=spec_l01Read.mono_l k
 unfold spec_l01Read.f
 repeat' first
   | (with_reducible exact ih0 _ _ _)
   | (with_reducible exact ih1 _ _ _ _)
   | (with_reducible exact spec_l01Is.mono _ _ _)
   | (with_reducible exact spec_l01Number.mono _ _)
   | (with_reducible exact spec_l01Split.mono _ _ _)
   | (with_reducible exact LeO.refl _)
   | (with_reducible exact LeO.none _)
   | (with_reducible refine LeO.ite ?_ ?_)
   | (with_reducible refine LeO.bind ?_ (fun _=>?_))
   | exact ih0 _ _ _
   | exact ih1 _ _ _ _
   | exact spec_l01Is.mono _ _ _
   | exact spec_l01Number.mono _ _
   | exact spec_l01Split.mono _ _ _
   | exact LeO.none _
   | refine LeO.ite ?_ ?_
   | refine LeO.bind ?_ (fun _=>?_)
def spec_l01Read.T14:Bool × List (List Nat × List Nat):=(true,[([],[]),([0],[0]),([],[]),([2],[2]),([3],[3]),([4],[4]),([],[]),([6],[6]),([7],[7]),([8,5],[8]),([5,9],[5,9]),([10],[10]),([1,11,9],[1,11]),([0,1,2,3,4,5,6,7,8,9,10,11,12],[]),([13,12,12,0,1,2,3,4,5,6,7,8,9,10,11,12],[12,13])])
def spec_l01Read.B14:List Nat:=[0,1,0,4,12,28,0,64,192,508,1020,2044,4095,8191,16383]
theorem spec_l01Read.tab14:rtab .any (opsOf Try.f139 14)=spec_l01Read.T14:=by kernel_rfl
theorem spec_l01Read.bits14:waitsOk spec_l01Read.T14.2 spec_l01Read.B14=true:=by kernel_rfl
set_option maxHeartbeats 8000000 in
set_option maxRecDepth 100000 in
theorem spec_l01Read.calls (k : Nat) (a0 : ByteArray) (r1 : Int) (r2 : List (List Int)) (r3 : Bool) (w : World) (h : spec_l01Read.f k a0 = some (r1, r2, r3)) :
  Calls Try.prog 139 #[.string a0] w fun e w'=>∃ v1_:Value,e=.returned (.tuple #[.agg #[.int .i64 r1,v1_],.bool r3])∧Kd.S (Kd.slice 2 (Kd.int .i64)) 32 w' w.heap.size (fun _=>True) v1_ r2∧Below w.heap.size w w':=by
 have hu28:=Try.underlying28
 have HB:=Aside0.mk (Below.refl w.heap.size w)
 have H:((spec_l01Split.f k a0 58).bind fun t102=>(if (t102.length:Int)=2 then (if 0 < (t102.length:Int) then ((spec_l01Number.f k (rdOf ByteArray.empty t102 0)).bind fun t106=>((some (([]:List (List Int)):List (List Int))).bind fun y107=>(if 1 < (t102.length:Int) then ((spec_l01Split.f k (rdOf ByteArray.empty t102 1) 44).bind fun t112=>(if (rdOf ByteArray.empty t102 1).toList=([]:List UInt8) then (spec_l01Read.j0 k (([]:List ByteArray)) t106 y107) else (spec_l01Read.j0 k t112 t106 y107))) else (none)))) else (none)) else (some (0,([]:List (List Int)),false))))=some (r1,r2,r3):=h
 clear h
 replace H:=Option.bind_eq_some_iff.mp H
 obtain ⟨t102,A20,H⟩:=H
 replace H:(if (t102.length:Int)=2 then (if 0 < (t102.length:Int) then ((spec_l01Number.f k (rdOf ByteArray.empty t102 0)).bind fun t106=>((some (([]:List (List Int)):List (List Int))).bind fun y107=>(if 1 < (t102.length:Int) then ((spec_l01Split.f k (rdOf ByteArray.empty t102 1) 44).bind fun t112=>(if (rdOf ByteArray.empty t102 1).toList=([]:List UInt8) then (spec_l01Read.j0 k (([]:List ByteArray)) t106 y107) else (spec_l01Read.j0 k t112 t106 y107))) else (none)))) else (none)) else (some (0,([]:List (List Int)),false)))=some (r1,r2,r3):=H
 have A2:=Aside0.mk A20
 clear A20
 by_cases c3:(t102.length:Int)=2
 case neg =>
  rw [if_neg c3] at H
  have c3b0:((t102.length:Int) == 2)=false:=beq_eq_false_iff_ne.mpr c3
  have c3b1:((t102.length:Int) != 2)=true:=bne_iff_ne.mpr c3
  simp only [Option.some.injEq,Prod.mk.injEq] at H
  obtain ⟨rfl,rfl,rfl⟩:=H
  go_enter Try.func139,Try.ntmps139
  go_wp2_with (first|((with_reducible refine gate_dst (N:=2) rfl ?_);refine box_event ?hg (N:=2) ?hd (cs:=#[.int .i64 0,.slice none 0 0]) (t:=28) ?hr ?_;(case hd=>rfl);(case hg=>rfl);(case hr=>first|(go_simp;done)|(go_simp;rfl));intro gb101 hg w61 hbox hb;have n0_:=Aside0.mk (below_step bl hb);have n1_:=Aside0.mk (hbox);have n2_:=Aside0.mk ((by rw [hg];exact (below_size bl):w.heap.size≤gb101));have n3_:=Aside0.mk ((by rw [hg];exact (below_size bl):w.heap.size≤gb101));clear HB;have HB:=n0_;have BK101:=n1_;have GW101:=n2_;have GE101:=n3_;clear n0_ n1_ n2_ n3_;clear hb hbox hg)|((with_reducible refine gate_callee (f:=149) rfl ?_);refine goesL_ (some 10) rfl rfl Try.func149 (by kernel_rfl) rfl #[.string a0,.int .u8 58] rfl gm ?_;(with_reducible refine (spec_l01Split.calls k a0 58 t102 _ A2.out).mono ?_);rintro e w62 ⟨v103,rfl,ho0,hb⟩;refine ⟨_,rfl,?_⟩;have n0_:=Aside0.mk (Kd.R_lower ho0 (below_size bl));have n1_:=Aside0.mk (blk_below (g:=gb101) (o:=.cells #[.int .i64 0,.slice none 0 0] 28 (0,0)) bk hb);have n2_:=Aside0.mk (below_step bl hb);clear BK101;clear HB;have HO104:=n0_;have BK101:=n1_;have HB:=n2_;clear n0_ n1_ n2_;(try clear hb);(try clear hb2);(try clear hk);(try clear hi);(try clear ho0);obtain ⟨Ao63,co63,eo63⟩:=Kd.R_slice HO104.out;subst eo63;have hcz64_0:w62.cell? ⟨gb101,0,none⟩=some (.int .i64 0):=(blk_cell BK101.out 0).trans rfl;have hcz64_1:w62.cell? ⟨gb101,1,none⟩=some (.slice none 0 0):=(blk_cell BK101.out 1).trans rfl;have hfz64_0:=blk_frozen BK101.out 0;have hfz64_1:=blk_frozen BK101.out 1))
  refine bodyPost_ret (results_ct rfl _ _ gb101 28 #[.int .i64 0,.slice none 0 0] (0,0) _ rfl (by (with_reducible repeat (first|refine blk_drewN ?_ _|refine blk_drew ?_|refine blk_alloc ?_ _));refine blk_put (cs:=#[.int .i64 0,.slice none 0 0]) ?_ 1 _ rfl;(with_reducible repeat (first|refine blk_drewN ?_ _|refine blk_drew ?_|refine blk_alloc ?_ _));refine blk_put (cs:=#[.int .i64 0,.slice none 0 0]) ?_ 0 _ rfl;(with_reducible repeat (first|refine blk_drewN ?_ _|refine blk_drew ?_|refine blk_alloc ?_ _));exact BK101.out) Try.underlying28 rfl (by kernel_rfl)) rfl ?_
  exact ⟨_,by first|rfl|(simp [errW_none,errW_some]<;>rfl)|(simp [*,errW_none,errW_some]<;>rfl),by first|exact Kd.S_nil _ _ _ _ _|exact Kd.N_nil _ _ _ _ _|exact Kd.V_nil _ _ _ _ _|exact Kd.Q_nil _ _ _ _ _|exact Kd.R_nil _ _ _ _ _,bl⟩
 rw [if_pos c3] at H
 have c3b0:((t102.length:Int) == 2)=true:=beq_iff_eq.mpr c3
 have c3b1:((t102.length:Int) != 2)=false:=bne_eq_false_iff_eq.mpr c3
 clear c3
 by_cases c4:0 < (t102.length:Int)
 case neg=>rw [if_neg c4] at H;exact absurd H (by simp)
 rw [if_pos c4] at H
 have c4b0:decide (0 < (t102.length:Int))=true:=decide_eq_true c4
 have c4b1:decide (0 < t102.length)=true:=decide_eq_true (by omega)
 clear c4
 replace H:=Option.bind_eq_some_iff.mp H
 obtain ⟨t106,A50,H⟩:=H
 replace H:((some (([]:List (List Int)):List (List Int))).bind fun y107=>(if 1 < (t102.length:Int) then ((spec_l01Split.f k (rdOf ByteArray.empty t102 1) 44).bind fun t112=>(if (rdOf ByteArray.empty t102 1).toList=([]:List UInt8) then (spec_l01Read.j0 k (([]:List ByteArray)) t106 y107) else (spec_l01Read.j0 k t112 t106 y107))) else (none)))=some (r1,r2,r3):=H
 have A5:=Aside0.mk A50
 clear A50
 obtain ⟨y107,hy107⟩:∃ y_:List (List Int),y_=(([]:List (List Int))):=⟨_,rfl⟩
 replace H:(if 1 < (t102.length:Int) then ((spec_l01Split.f k (rdOf ByteArray.empty t102 1) 44).bind fun t112=>(if (rdOf ByteArray.empty t102 1).toList=([]:List UInt8) then (spec_l01Read.j0 k (([]:List ByteArray)) t106 y107) else (spec_l01Read.j0 k t112 t106 y107))) else (none))=some (r1,r2,r3):=by first|(rw [hy107];with_reducible exact H)|(have H2_:=(Option.bind_some _ _).symm.trans H;rw [hy107];with_reducible exact H2_)|(have H2_:=(Option.bind_some _ _).symm.trans H;with_reducible exact H2_)|with_reducible exact H|(rw [hy107];exact H)|exact H
 have Ny107:=Aside0.mk hy107
 clear hy107
 by_cases c6:1 < (t102.length:Int)
 case neg=>rw [if_neg c6] at H;exact absurd H (by simp)
 rw [if_pos c6] at H
 have c6b0:decide (1 < (t102.length:Int))=true:=decide_eq_true c6
 have c6b1:decide (1 < t102.length)=true:=decide_eq_true (by omega)
 clear c6
 replace H:=Option.bind_eq_some_iff.mp H
 obtain ⟨t112,A70,H⟩:=H
 replace H:(if (rdOf ByteArray.empty t102 1).toList=([]:List UInt8) then (spec_l01Read.j0 k (([]:List ByteArray)) t106 y107) else (spec_l01Read.j0 k t112 t106 y107))=some (r1,r2,r3):=H
 have A7:=Aside0.mk A70
 clear A70
 have HC8:=Aside0.mk H
 clear H
 go_enter Try.func139,Try.ntmps139
 go_upto_if 28 with (first|((with_reducible refine gate_dst (N:=2) rfl ?_);refine box_event ?hg (N:=2) ?hd (cs:=#[.int .i64 0,.slice none 0 0]) (t:=28) ?hr ?_;(case hd=>rfl);(case hg=>rfl);(case hr=>first|(go_simp;done)|(go_simp;rfl));intro gb101 hg w9 hbox hb;have n0_:=Aside0.mk (below_step bl hb);have n1_:=Aside0.mk (hbox);have n2_:=Aside0.mk ((by rw [hg];exact (below_size bl):w.heap.size≤gb101));have n3_:=Aside0.mk ((by rw [hg];exact (below_size bl):w.heap.size≤gb101));clear HB;have HB:=n0_;have BK101:=n1_;have GW101:=n2_;have GE101:=n3_;clear n0_ n1_ n2_ n3_;clear hb hbox hg)|((with_reducible refine gate_callee (f:=149) rfl ?_);refine goesL_ (some 10) rfl rfl Try.func149 (by kernel_rfl) rfl #[.string a0,.int .u8 58] rfl gm ?_;(with_reducible refine (spec_l01Split.calls k a0 58 t102 _ A2.out).mono ?_);rintro e w10 ⟨v103,rfl,ho0,hb⟩;refine ⟨_,rfl,?_⟩;have n0_:=Aside0.mk (Kd.R_lower ho0 (below_size bl));have n1_:=Aside0.mk (blk_below (g:=gb101) (o:=.cells #[.int .i64 0,.slice none 0 0] 28 (0,0)) bk hb);have n2_:=Aside0.mk (below_step bl hb);clear BK101;clear HB;have HO104:=n0_;have BK101:=n1_;have HB:=n2_;clear n0_ n1_ n2_;(try clear hb);(try clear hb2);(try clear hk);(try clear hi);(try clear ho0);obtain ⟨Ao11,co11,eo11⟩:=Kd.R_slice HO104.out;subst eo11;have p105:0≤(0:Int):=(by omega);have q105:0 < (t102.length:Int):=oD;obtain ⟨ad105,e105,hx105_0⟩:=Kd.at_string (Kd.R_reads' HO104.out).2.2 0 p105 q105;cases e105;have qi105:(0 < t102.length)=True:=eq_true (by omega);(try rw [show ((0:Int)).toNat=0 from rfl] at hx105_0);(try rw [Addr.add_zero'] at hx105_0);replace p105:=eq_true p105;replace q105:=eq_true q105)|((with_reducible refine gate_callee (f:=150) rfl ?_);refine goesL_ (some 18) rfl rfl Try.func150 (by kernel_rfl) rfl #[.string (rdOf ByteArray.empty t102 0)] rfl gm ?_;(with_reducible refine (spec_l01Number.calls k (rdOf ByteArray.empty t102 0) t106 _ A5.out).mono ?_);rintro e w' ⟨rfl,⟨nd,rfl⟩⟩;refine ⟨_,rfl,?_⟩;(try (rw [drewN_self w10];generalize hq_:World.drewN w10 _=w10;have n0_:Aside0 (Kd.R Kd.string 9 w10 w.heap.size (fun _=>True) (.slice (some ad105) t102.length co11) t102):=⟨by rw [← hq_];exact (by (with_reducible repeat (first|apply Kd.R_alloc|apply Kd.R_drewN|apply Kd.R_drew));exact HO104.out)⟩;have n1_:Aside0 (w10.heap[gb101]?=some (.cells #[.int .i64 0,.slice none 0 0] 28 (0,0))):=⟨by rw [← hq_];exact bk⟩;have n2_:Aside0 (Below w.heap.size w w10):=⟨by rw [← hq_];exact bl⟩;clear HO104 BK101 HB hq_;have HO104:=n0_;have BK101:=n1_;have HB:=n2_;clear n0_ n1_ n2_)))|((with_reducible refine gate_dst (N:=19) rfl ?_);refine Kd.S_lit (Kd.slice 2 (Kd.int .i64)) _ 32 ?hg (N:=19) ?hd (xs:=([]:List (List Int))) (inner:=[]) (ok:=fun _=>True) (okp:=fun _=>True) ?hr ?hp (fun _ hk=>hk) trivial (Below.refl _ _) (Nat.le_refl _) (by simp) ?_;(case hd=>rfl);(case hg=>rfl);(case hr=>first|(go_simp;done)|(go_simp;rfl));(case hp=>exact (Reps.none _ _));intro v108 w12 ho13 hb hg_ hnew_;clear hg_ hnew_;(first|rw [← Ny107.out] at ho13|(simp only [Int.reduceToNat] at ho13;rw [← Ny107.out] at ho13));have n0_:=Aside0.mk (Kd.R_below (by (with_reducible repeat (first|apply Kd.R_alloc|apply Kd.R_drewN|apply Kd.R_drew));exact HO104.out) hb);have n1_:=Aside0.mk (Kd.S_lower ho13 (below_size bl));have n2_:=Aside0.mk (blk_below (g:=gb101) (o:=.cells #[.int .i64 0,.slice none 0 0] 28 (0,0)) bk hb);have n3_:=Aside0.mk (below_step bl hb);clear HO104;clear BK101;clear HB;have HO104:=n0_;have HO109:=n1_;have BK101:=n2_;have HB:=n3_;clear n0_ n1_ n2_ n3_;clear hb ho13;obtain ⟨Ao14,co14,eo14⟩:=Kd.S_slice HO109.out;subst eo14)|((with_reducible refine gate_dst (N:=5) rfl ?_);refine box_event ?hg (N:=5) ?hd (cs:=#[.int .i64 0,.slice none 0 0]) (t:=28) ?hr ?_;(case hd=>rfl);(case hg=>rfl);(case hr=>first|(go_simp;done)|(go_simp;rfl));intro gb110 hg w15 hbox hb;have n0_:=Aside0.mk (Kd.R_below (by (with_reducible repeat (first|apply Kd.R_alloc|apply Kd.R_drewN|apply Kd.R_drew));exact HO104.out) hb);have n1_:=Aside0.mk (Kd.S_below (by (with_reducible repeat (first|apply Kd.S_alloc|apply Kd.S_drewN|apply Kd.S_drew));exact HO109.out) hb);have n2_:=Aside0.mk (blk_below (g:=gb101) (o:=.cells #[.int .i64 0,.slice none 0 0] 28 (0,0)) bk hb);have n3_:=Aside0.mk (below_step bl hb);have n4_:=Aside0.mk (hbox);have n5_:=Aside0.mk ((by rw [hg];exact (below_size bl):w.heap.size≤gb110));have n6_:=Aside0.mk ((by rw [hg];exact (below_size bl):w.heap.size≤gb110));have n7_:=Aside0.mk ((by rw [hg];exact Nat.ne_of_lt (blk_lt (g:=gb101) (o:=.cells #[.int .i64 0,.slice none 0 0] 28 (0,0)) bk):gb101 ≠ gb110));have n8_:=Aside0.mk ((by rw [hg];exact Nat.ne_of_gt (blk_lt (g:=gb101) (o:=.cells #[.int .i64 0,.slice none 0 0] 28 (0,0)) bk):gb110 ≠ gb101));clear HO104;clear HO109;clear BK101;clear HB;have HO104:=n0_;have HO109:=n1_;have BK101:=n2_;have HB:=n3_;have BK110:=n4_;have GW110:=n5_;have GE110:=n6_;have NB101_110:=n7_;have NB110_101:=n8_;clear n0_ n1_ n2_ n3_ n4_ n5_ n6_ n7_ n8_;clear hb hbox hg;have hnb16:=NB110_101.out;have hnc16:=NB101_110.out;have hcz17_0:w15.cell? ⟨gb110,0,none⟩=some (.int .i64 0):=(blk_cell BK110.out 0).trans rfl;have hcz17_1:w15.cell? ⟨gb110,1,none⟩=some (.slice none 0 0):=(blk_cell BK110.out 1).trans rfl;have hfz17_0:=blk_frozen BK110.out 0;have hfz17_1:=blk_frozen BK110.out 1;have p111:0≤(1:Int):=(by omega);have q111:1 < (t102.length:Int):=oD;obtain ⟨ad111,e111,hx111_0⟩:=Kd.at_string (Kd.R_reads' HO104.out).2.2 1 p111 q111;obtain rfl:ad105=ad111:=(by injection e111);(try simp only [show (1:Int).toNat=1 from rfl,Nat.reduceMul,Nat.reduceEqDiff,Go.Addr.add,↓reduceIte] at hx111_0);have qi111:(1 < t102.length)=True:=eq_true (by omega);(try rw [show ((1:Int)).toNat=1 from rfl] at hx111_0);have hn111_0:ad105.block ≠ gb110:=Kd.own_blk (Kd.R_ne HO104.out BK110.out (by decide));have hn111_1:ad105.block ≠ gb110:=Kd.own_blk (Kd.R_ne HO104.out BK110.out (by decide));replace hx111_0:=(cell_far (p:=⟨gb110,0,none⟩) (by first|(rw [add_block];exact hn111_0)|(show (Addr.add _ _).block ≠ _;rw [add_block];exact hn111_0)|exact hn111_0) (.int .i64 t106)).trans hx111_0;replace hx111_0:=(cell_far (p:=⟨gb110,1,none⟩) (by first|(rw [add_block];exact hn111_1)|(show (Addr.add _ _).block ≠ _;rw [add_block];exact hn111_1)|exact hn111_1) (.slice Ao14 y107.length co14)).trans hx111_0;clear hn111_0;clear hn111_1;replace p111:=eq_true p111;replace q111:=eq_true q111)|((with_reducible refine gate_callee (f:=149) rfl ?_);refine goesL_ (some 24) rfl rfl Try.func149 (by kernel_rfl) rfl #[.string (rdOf ByteArray.empty t102 1),.int .u8 44] rfl gm ?_;(with_reducible refine (spec_l01Split.calls k (rdOf ByteArray.empty t102 1) 44 t112 _ A7.out).mono ?_);rintro e w18 ⟨v113,rfl,ho0,hb⟩;refine ⟨_,rfl,?_⟩;have n0_:=Aside0.mk (Kd.R_elder' (by (with_reducible repeat (first|apply Kd.R_alloc|apply Kd.R_drewN|apply Kd.R_drew));exact (Kd.R_mono (Kd.R_far (p:=⟨gb110,1,none⟩) (Kd.R_far (p:=⟨gb110,0,none⟩) (Kd.R_types HO104.out BK110.out (by decide)) (fun _ hk=>hk.2) (.int .i64 t106)) (fun _ hk=>hk.2) (.slice Ao14 y107.length co14)) (fun _ h_=>h_.1))) (Kd.R_base ho0) hb);have n1_:=Aside0.mk (Kd.S_below (by (with_reducible repeat (first|apply Kd.S_alloc|apply Kd.S_drewN|apply Kd.S_drew));exact (Kd.S_mono (Kd.S_far (p:=⟨gb110,1,none⟩) (Kd.S_far (p:=⟨gb110,0,none⟩) (Kd.S_types HO109.out BK110.out (by decide)) (fun _ hk=>hk.2) (.int .i64 t106)) (fun _ hk=>hk.2) (.slice Ao14 y107.length co14)) (fun _ h_=>h_.1))) hb);have n2_:=Aside0.mk (Kd.R_lower (Kd.R_new' ho0 (Kd.R_lt (by (with_reducible repeat (first|apply Kd.R_alloc|apply Kd.R_drewN|apply Kd.R_drew));exact (Kd.R_mono (Kd.R_far (p:=⟨gb110,1,none⟩) (Kd.R_far (p:=⟨gb110,0,none⟩) (Kd.R_types HO104.out BK110.out (by decide)) (fun _ hk=>hk.2) (.int .i64 t106)) (fun _ hk=>hk.2) (.slice Ao14 y107.length co14)) (fun _ h_=>h_.1))))) (below_size bl));have n3_:=Aside0.mk (blk_below (g:=gb101) (o:=.cells #[.int .i64 0,.slice none 0 0] 28 (0,0)) (by (with_reducible repeat (first|refine blk_drewN ?_ _|refine blk_drew ?_|refine blk_alloc ?_ _));refine blk_far ?_ NB101_110.out _;(with_reducible repeat (first|refine blk_drewN ?_ _|refine blk_drew ?_|refine blk_alloc ?_ _));refine blk_far ?_ NB101_110.out _;(with_reducible repeat (first|refine blk_drewN ?_ _|refine blk_drew ?_|refine blk_alloc ?_ _));exact BK101.out) hb);have n4_:=Aside0.mk (blk_below (g:=gb110) (o:=.cells #[.int .i64 t106,.slice Ao14 y107.length co14] 28 (0,0)) (by (with_reducible repeat (first|refine blk_drewN ?_ _|refine blk_drew ?_|refine blk_alloc ?_ _));refine blk_put (cs:=#[.int .i64 t106,.slice none 0 0]) ?_ 1 _ rfl;(with_reducible repeat (first|refine blk_drewN ?_ _|refine blk_drew ?_|refine blk_alloc ?_ _));refine blk_put (cs:=#[.int .i64 0,.slice none 0 0]) ?_ 0 _ rfl;(with_reducible repeat (first|refine blk_drewN ?_ _|refine blk_drew ?_|refine blk_alloc ?_ _));exact BK110.out) hb);have n5_:=Aside0.mk (below_step bl hb);clear HO104;clear HO109;clear BK101;clear BK110;clear HB;have HO104:=n0_;have HO109:=n1_;have HO114:=n2_;have BK101:=n3_;have BK110:=n4_;have HB:=n5_;clear n0_ n1_ n2_ n3_ n4_ n5_;(try clear hb);(try clear hb2);(try clear hk);(try clear hi);(try clear ho0);have p115:0≤(1:Int):=(by omega);have q115:1 < (t102.length:Int):=oD;obtain ⟨ad115,e115,hx115_0⟩:=Kd.at_string (Kd.R_reads' HO104.out).2.2 1 p115 q115;obtain rfl:ad105=ad115:=(by injection e115);(try simp only [show (1:Int).toNat=1 from rfl,Nat.reduceMul,Nat.reduceEqDiff,Go.Addr.add,↓reduceIte] at hx115_0);have qi115:(1 < t102.length)=True:=eq_true (by omega);(try rw [show ((1:Int)).toNat=1 from rfl] at hx115_0);replace p115:=eq_true p115;replace q115:=eq_true q115))
 (try simp only [Act.put,zI,zZ,zS])
 go_cut [6] (fun v6 wc=>∃ (kq:Nat) (x6_7:List ByteArray),Aside0 (spec_l01Read.j0 kq x6_7 t106 y107=some (r1,r2,r3))∧Aside0 (kq≤k)∧Aside0 (Kd.R Kd.string 9 wc w.heap.size (fun _=>True) v6 x6_7)∧Aside0 (Kd.S (Kd.slice 2 (Kd.int .i64)) 32 wc w.heap.size (fun _=>True) (.slice Ao14 y107.length co14) y107)∧Aside0 (wc.heap[gb101]?=some (.cells #[.int .i64 0,(.slice none 0 0)] 28 (0,0)))∧Aside0 (wc.heap[gb110]?=some (.cells #[.int .i64 t106,(.slice Ao14 y107.length co14)] 28 (0,0)))∧Aside0 (Below w.heap.size w wc))
 case first =>
  have H:=HC8.out
  clear HC8
  by_cases c19:(rdOf ByteArray.empty t102 1).toList=([]:List UInt8)
  case neg =>
   rw [if_neg c19] at H
   have c19b0:((rdOf ByteArray.empty t102 1).toList == ([]:List UInt8))=false:=beq_eq_false_iff_ne.mpr c19
   have c19b9:List.isEmpty ((rdOf ByteArray.empty t102 1).toList)=false:=by cases h_:((rdOf ByteArray.empty t102 1).toList) with|nil=>exact absurd h_ c19|cons _ _=>rfl
   have c19b1:((rdOf ByteArray.empty t102 1).toList != ([]:List UInt8))=true:=bne_iff_ne.mpr c19
   (first|rw [c19b0]|(simp only [i64_w,i32_w];rw [c19b0])|rw [c19b9]|skip)
   have H':=Aside0.mk H
   clear H
   go_wp2
   go_meet
   case rel=>exact ⟨_,(t112),H',⟨by first|omega|exact Nat.le_refl _⟩,⟨by (with_reducible repeat (first|apply Kd.R_alloc|apply Kd.R_drewN|apply Kd.R_drew));exact Kd.R_mono HO114.out (fun _ hk=>trivial)⟩,⟨by (with_reducible repeat (first|apply Kd.S_alloc|apply Kd.S_drewN|apply Kd.S_drew));exact HO109.out⟩,⟨bk⟩,⟨bk⟩,⟨bl⟩⟩
  rw [if_pos c19] at H
  have c19b0:((rdOf ByteArray.empty t102 1).toList == ([]:List UInt8))=true:=beq_iff_eq.mpr c19
  have c19b9:List.isEmpty ((rdOf ByteArray.empty t102 1).toList)=true:=by rw [c19];rfl
  have c19b1:((rdOf ByteArray.empty t102 1).toList != ([]:List UInt8))=false:=bne_eq_false_iff_eq.mpr c19
  clear c19
  (first|rw [c19b0]|(simp only [i64_w,i32_w];rw [c19b0])|rw [c19b9]|skip)
  obtain ⟨y116,hy116⟩:∃ y_:List ByteArray,y_=(([]:List ByteArray)):=⟨_,rfl⟩
  replace H:(spec_l01Read.j0 k y116 t106 y107)=some (r1,r2,r3):=by first|(rw [hy116];with_reducible exact H)|(have H2_:=(Option.bind_some _ _).symm.trans H;rw [hy116];with_reducible exact H2_)|(have H2_:=(Option.bind_some _ _).symm.trans H;with_reducible exact H2_)|with_reducible exact H|(rw [hy116];exact H)|exact H
  have Ny116:=Aside0.mk hy116
  clear hy116
  have H':=Aside0.mk H
  clear H
  go_wp2_with (first|((with_reducible refine gate_dst (N:=29) rfl ?_);refine Kd.R_lit Kd.string _ 9 ?hg (N:=29) ?hd (xs:=([]:List ByteArray)) (inner:=[]) (ok:=fun _=>True) (okp:=fun _=>True) ?hr ?hp (fun _ hk=>hk) trivial (Below.refl _ _) (Nat.le_refl _) (by simp) ?_;(case hd=>rfl);(case hg=>rfl);(case hr=>first|(go_simp;done)|(go_simp;rfl));(case hp=>exact (Reps.none _ _));intro v117 w20 ho21 hb hg_ hnew_;clear hg_ hnew_;(first|rw [← Ny116.out] at ho21|(simp only [Int.reduceToNat] at ho21;rw [← Ny116.out] at ho21));have n0_:=Aside0.mk (Kd.R_elder' (by (with_reducible repeat (first|apply Kd.R_alloc|apply Kd.R_drewN|apply Kd.R_drew));exact HO104.out) (Kd.R_base ho21) hb);have n1_:=Aside0.mk (Kd.S_below (by (with_reducible repeat (first|apply Kd.S_alloc|apply Kd.S_drewN|apply Kd.S_drew));exact HO109.out) hb);have n2_:=Aside0.mk (Kd.R_elder' (by (with_reducible repeat (first|apply Kd.R_alloc|apply Kd.R_drewN|apply Kd.R_drew));exact HO114.out) (Kd.R_base ho21) hb);have n3_:=Aside0.mk (Kd.R_lower (Kd.R_new' (Kd.R_new' ho21 (Kd.R_lt (by (with_reducible repeat (first|apply Kd.R_alloc|apply Kd.R_drewN|apply Kd.R_drew));exact HO104.out))) (Kd.R_lt (by (with_reducible repeat (first|apply Kd.R_alloc|apply Kd.R_drewN|apply Kd.R_drew));exact HO114.out))) (below_size bl));have n4_:=Aside0.mk (blk_below (g:=gb101) (o:=.cells #[.int .i64 0,.slice none 0 0] 28 (0,0)) bk hb);have n5_:=Aside0.mk (blk_below (g:=gb110) (o:=.cells #[.int .i64 t106,.slice Ao14 y107.length co14] 28 (0,0)) bk hb);have n6_:=Aside0.mk (below_step bl hb);clear HO104;clear HO109;clear HO114;clear BK101;clear BK110;clear HB;have HO104:=n0_;have HO109:=n1_;have HO114:=n2_;have HO118:=n3_;have BK101:=n4_;have BK110:=n5_;have HB:=n6_;clear n0_ n1_ n2_ n3_ n4_ n5_ n6_;clear hb ho21))
  go_meet
  case rel=>exact ⟨_,(y116),H',⟨by first|omega|exact Nat.le_refl _⟩,⟨by (with_reducible repeat (first|apply Kd.R_alloc|apply Kd.R_drewN|apply Kd.R_drew));exact Kd.R_mono HO118.out (fun _ hk=>trivial)⟩,⟨by (with_reducible repeat (first|apply Kd.S_alloc|apply Kd.S_drewN|apply Kd.S_drew));exact HO109.out⟩,⟨bk⟩,⟨bk⟩,⟨bl⟩⟩
 case rest =>
  clear HC8
  (try clear c1);(try clear p1);(try clear q1);(try clear hx1);(try clear qi1);(try clear p2);(try clear c3);(try clear c3b0);(try clear c3b1);(try clear c4);(try clear c4b0);(try clear c4b1);(try clear c6);(try clear c6b0);(try clear c6b1);(try clear p10);(try clear q10);(try clear hx10);(try clear qi10);(try clear p11);(try clear q11);(try clear hx11);(try clear qi11);(try clear c13);(try clear c14);(try clear c15);(try clear c16);(try clear c19);(try clear c19b0);(try clear c19b1);(try clear hcz17_0);(try clear hcz17_1);(try clear hfz17_0);(try clear hfz17_1);(try clear hx105_0);(try clear hx111_0);(try clear hx115_0);(try clear p105);(try clear p111);(try clear p115);(try clear q105);(try clear q111);(try clear q115)
  obtain ⟨kq,x6_7,HA,HJ7,HO_6,HO_111001,BK101,BK110,HB⟩:=hcut
  cases kq with
  | zero=>exact absurd HA.out (by simp [spec_l01Read.j0])
  | succ kj7 =>
   have H:=HA.out
   clear HA
   simp only [spec_l01Read.j0] at H
   have H':=Aside0.mk H
   clear H
   go_wp2
   go_loopg [7] kj7 (fun kq v7 w'=>∃ (x7_2:Int) (x102000_2:Int) (x111001_2:List (List Int)) (u111001:Value),v7=.int .i64 x7_2∧Aside0 (spec_l01Read.l0 kq x6_7 x7_2 t106 x111001_2=some (r1,r2,r3))∧Aside0 (kq≤kj7)∧Aside0 (Kd.R Kd.string 9 w' w.heap.size (fun _=>True) u6 x6_7)∧Aside0 (Kd.S (Kd.slice 2 (Kd.int .i64)) 32 w' w.heap.size (fun _=>True) u111001 x111001_2)∧Aside0 (w'.heap[gb101]?=some (.cells #[.int .i64 x102000_2,(.slice none 0 0)] 28 (0,0)))∧Aside0 (w'.heap[gb110]?=some (.cells #[.int .i64 t106,u111001] 28 (0,0)))∧Aside0 (Below w.heap.size w w'))
   case atStart=>exact ⟨(0),(0),(y107),(.slice Ao14 y107.length co14),rs,H',⟨Nat.le_refl _⟩,⟨by (with_reducible repeat (first|apply Kd.R_alloc|apply Kd.R_drewN|apply Kd.R_drew));exact HO_6.out⟩,⟨by (with_reducible repeat (first|apply Kd.S_alloc|apply Kd.S_drewN|apply Kd.S_drew));exact HO_111001.out⟩,⟨bk⟩,⟨bk⟩,⟨bl⟩⟩
   case round =>
    clear H'
    (try clear c1);(try clear p1);(try clear q1);(try clear hx1);(try clear qi1);(try clear p2);(try clear c3);(try clear c3b0);(try clear c3b1);(try clear c4);(try clear c4b0);(try clear c4b1);(try clear c6);(try clear c6b0);(try clear c6b1);(try clear p10);(try clear q10);(try clear hx10);(try clear qi10);(try clear p11);(try clear q11);(try clear hx11);(try clear qi11);(try clear c13);(try clear c14);(try clear c15);(try clear c16);(try clear c19);(try clear c19b0);(try clear c19b1);(try clear hcz17_0);(try clear hcz17_1);(try clear hfz17_0);(try clear hfz17_1);(try clear hx105_0);(try clear hx111_0);(try clear hx115_0);(try clear p1);(try clear p10);(try clear p105);(try clear p11);(try clear p111);(try clear p115);(try clear p2);(try clear q1);(try clear q10);(try clear q105);(try clear q11);(try clear q111);(try clear q115)
    obtain ⟨x7_2,x102000_2,x111001_2,u111001,rfl,HA,HK2,HO_6,HO_111001,BK101,BK110,HB⟩:=hrel
    cases gk with
    | zero=>exact absurd HA.out (by simp [spec_l01Read.l0])
    | succ k2 =>
     have H:=HA.out
     clear HA
     simp only [spec_l01Read.l0] at H
     by_cases c22:x7_2 < (x6_7.length:Int)
     case neg =>
      rw [if_neg c22] at H
      have c22b0:decide (x7_2 < (x6_7.length:Int))=false:=decide_eq_false c22
      clear c22
      replace H:=Option.bind_eq_some_iff.mp H
      obtain ⟨t119,A460,H⟩:=H
      replace H:(if t119=true then (some (t106,x111001_2,true)) else (some (0,([]:List (List Int)),false)))=some (r1,r2,r3):=H
      have A46:=Aside0.mk A460
      clear A460
      by_cases c47:t119=true
      case neg =>
       replace c47:=Bool.eq_false_iff.mpr c47
       subst c47
       have H1:(some (0,([]:List (List Int)),false))=some (r1,r2,r3):=by rw [if_neg (show ¬ (false=true) by decide)] at H;exact H
       clear H
       have H:=H1
       clear H1
       simp only [Option.some.injEq,Prod.mk.injEq] at H
       obtain ⟨rfl,rfl,rfl⟩:=H
       obtain ⟨Ao55,co55,eo55⟩:=Kd.R_slice HO_6.out
       subst eo55
       have hnb56:=NB110_101.out
       have hnc56:=NB101_110.out
       have hcz57_0:wr.cell? ⟨gb110,0,none⟩=some (.int .i64 t106):=(blk_cell BK110.out 0).trans rfl
       have hcz57_1:wr.cell? ⟨gb110,1,none⟩=some (u111001):=(blk_cell BK110.out 1).trans rfl
       have hfz57_0:=blk_frozen BK110.out 0
       have hfz57_1:=blk_frozen BK110.out 1
       obtain ⟨Ao58,co58,eo58⟩:=Kd.S_slice HO_111001.out
       subst eo58
       go_wp2_with (first|((with_reducible refine gate_callee (f:=36) rfl ?_);refine goesL_ (some 60) rfl rfl Try.func36 (by kernel_rfl) rfl #[.agg #[.int .i64 t106,.slice Ao58 x111001_2.length co58]] rfl gm ?_;(with_reducible refine (spec_l01Is.calls k2 t106 _ _ x111001_2 false _ ?side1 ?side2 A46.out).mono ?_);(case side1=>repeat (first|exact (Kd.S_reads' HO_111001.out).2.2|(with_reducible refine Kd.C_alloc ?_ _)|(with_reducible refine Kd.C_drewN ?_ _)|(with_reducible refine Kd.C_drew ?_)));(case side2=>exact (Kd.S_reads' HO_111001.out).2.1);rintro e w59 ⟨rfl,hb⟩;refine ⟨_,rfl,?_⟩;have n0_:=Aside0.mk (Kd.R_below (by (with_reducible repeat (first|apply Kd.R_alloc|apply Kd.R_drewN|apply Kd.R_drew));exact HO_6.out) hb);have n1_:=Aside0.mk (Kd.S_below (by (with_reducible repeat (first|apply Kd.S_alloc|apply Kd.S_drewN|apply Kd.S_drew));exact HO_111001.out) hb);have n2_:=Aside0.mk (blk_below (g:=gb101) (o:=.cells #[.int .i64 x102000_2,.slice none 0 0] 28 (0,0)) bk hb);have n3_:=Aside0.mk (blk_below (g:=gb110) (o:=.cells #[.int .i64 t106,.slice Ao58 x111001_2.length co58] 28 (0,0)) bk hb);have n4_:=Aside0.mk (below_step bl hb);clear HO_6;clear HO_111001;clear BK101;clear BK110;clear HB;have HO_6:=n0_;have HO_111001:=n1_;have BK101:=n2_;have BK110:=n3_;have HB:=n4_;clear n0_ n1_ n2_ n3_ n4_;(try clear hb);(try clear hb2);(try clear hk);(try clear hi);have hcz60_0:w59.cell? ⟨gb101,0,none⟩=some (.int .i64 x102000_2):=(blk_cell BK101.out 0).trans rfl;have hcz60_1:w59.cell? ⟨gb101,1,none⟩=some (.slice none 0 0):=(blk_cell BK101.out 1).trans rfl;have hfz60_0:=blk_frozen BK101.out 0;have hfz60_1:=blk_frozen BK101.out 1))
       refine bodyPost_ret (results_ct rfl _ _ gb101 28 #[.int .i64 0,.slice none 0 0] (0,0) _ rfl (by (with_reducible repeat (first|refine blk_drewN ?_ _|refine blk_drew ?_|refine blk_alloc ?_ _));refine blk_put (cs:=#[.int .i64 0,.slice none 0 0]) ?_ 1 _ rfl;(with_reducible repeat (first|refine blk_drewN ?_ _|refine blk_drew ?_|refine blk_alloc ?_ _));refine blk_put (cs:=#[.int .i64 x102000_2,.slice none 0 0]) ?_ 0 _ rfl;(with_reducible repeat (first|refine blk_drewN ?_ _|refine blk_drew ?_|refine blk_alloc ?_ _));exact BK101.out) Try.underlying28 rfl (by kernel_rfl)) rfl ?_
       exact ⟨_,by first|rfl|(simp [errW_none,errW_some]<;>rfl)|(simp [*,errW_none,errW_some]<;>rfl),by first|exact Kd.S_nil _ _ _ _ _|exact Kd.N_nil _ _ _ _ _|exact Kd.V_nil _ _ _ _ _|exact Kd.Q_nil _ _ _ _ _|exact Kd.R_nil _ _ _ _ _,bl⟩
      subst c47
      have H1:(some (t106,x111001_2,true))=some (r1,r2,r3):=by rw [if_pos rfl] at H;exact H
      clear H
      have H:=H1
      clear H1
      simp only [Option.some.injEq,Prod.mk.injEq] at H
      obtain ⟨rfl,rfl,rfl⟩:=H
      obtain ⟨Ao48,co48,eo48⟩:=Kd.R_slice HO_6.out
      subst eo48
      have hnb49:=NB110_101.out
      have hnc49:=NB101_110.out
      have hcz50_0:wr.cell? ⟨gb110,0,none⟩=some (.int .i64 t106):=(blk_cell BK110.out 0).trans rfl
      have hcz50_1:wr.cell? ⟨gb110,1,none⟩=some (u111001):=(blk_cell BK110.out 1).trans rfl
      have hfz50_0:=blk_frozen BK110.out 0
      have hfz50_1:=blk_frozen BK110.out 1
      obtain ⟨Ao51,co51,eo51⟩:=Kd.S_slice HO_111001.out
      subst eo51
      go_wp2_with (first|((with_reducible refine gate_callee (f:=36) rfl ?_);refine goesL_ (some 60) rfl rfl Try.func36 (by kernel_rfl) rfl #[.agg #[.int .i64 t106,.slice Ao51 x111001_2.length co51]] rfl gm ?_;(with_reducible refine (spec_l01Is.calls k2 t106 _ _ x111001_2 true _ ?side1 ?side2 A46.out).mono ?_);(case side1=>repeat (first|exact (Kd.S_reads' HO_111001.out).2.2|(with_reducible refine Kd.C_alloc ?_ _)|(with_reducible refine Kd.C_drewN ?_ _)|(with_reducible refine Kd.C_drew ?_)));(case side2=>exact (Kd.S_reads' HO_111001.out).2.1);rintro e w52 ⟨rfl,hb⟩;refine ⟨_,rfl,?_⟩;have n0_:=Aside0.mk (Kd.R_below (by (with_reducible repeat (first|apply Kd.R_alloc|apply Kd.R_drewN|apply Kd.R_drew));exact HO_6.out) hb);have n1_:=Aside0.mk (Kd.S_below (by (with_reducible repeat (first|apply Kd.S_alloc|apply Kd.S_drewN|apply Kd.S_drew));exact HO_111001.out) hb);have n2_:=Aside0.mk (blk_below (g:=gb101) (o:=.cells #[.int .i64 x102000_2,.slice none 0 0] 28 (0,0)) bk hb);have n3_:=Aside0.mk (blk_below (g:=gb110) (o:=.cells #[.int .i64 t106,.slice Ao51 x111001_2.length co51] 28 (0,0)) bk hb);have n4_:=Aside0.mk (below_step bl hb);clear HO_6;clear HO_111001;clear BK101;clear BK110;clear HB;have HO_6:=n0_;have HO_111001:=n1_;have BK101:=n2_;have BK110:=n3_;have HB:=n4_;clear n0_ n1_ n2_ n3_ n4_;(try clear hb);(try clear hb2);(try clear hk);(try clear hi);have hcz53_0:w52.cell? ⟨gb110,0,none⟩=some (.int .i64 t106):=(blk_cell BK110.out 0).trans rfl;have hcz53_1:w52.cell? ⟨gb110,1,none⟩=some (.slice Ao51 x111001_2.length co51):=(blk_cell BK110.out 1).trans rfl;have hfz53_0:=blk_frozen BK110.out 0;have hfz53_1:=blk_frozen BK110.out 1;have hcz54_0:w52.cell? ⟨gb101,0,none⟩=some (.int .i64 x102000_2):=(blk_cell BK101.out 0).trans rfl;have hcz54_1:w52.cell? ⟨gb101,1,none⟩=some (.slice none 0 0):=(blk_cell BK101.out 1).trans rfl;have hfz54_0:=blk_frozen BK101.out 0;have hfz54_1:=blk_frozen BK101.out 1))
      refine bodyPost_ret (results_ct rfl _ _ gb101 28 #[.int .i64 t106,.slice Ao51 x111001_2.length co51] (0,0) _ rfl (by (with_reducible repeat (first|refine blk_drewN ?_ _|refine blk_drew ?_|refine blk_alloc ?_ _));refine blk_put (cs:=#[.int .i64 t106,.slice none 0 0]) ?_ 1 _ rfl;(with_reducible repeat (first|refine blk_drewN ?_ _|refine blk_drew ?_|refine blk_alloc ?_ _));refine blk_put (cs:=#[.int .i64 x102000_2,.slice none 0 0]) ?_ 0 _ rfl;(with_reducible repeat (first|refine blk_drewN ?_ _|refine blk_drew ?_|refine blk_alloc ?_ _));exact BK101.out) Try.underlying28 rfl (by kernel_rfl)) rfl ?_
      exact ⟨_,by first|rfl|(simp [errW_none,errW_some]<;>rfl)|(simp [*,errW_none,errW_some]<;>rfl),by (with_reducible repeat (first|apply Kd.S_alloc|apply Kd.S_drewN|apply Kd.S_drew));exact Kd.S_mono (Kd.S_far (p:=⟨gb101,1,none⟩) (Kd.S_far (p:=⟨gb101,0,none⟩) (Kd.S_types HO_111001.out BK101.out (by decide)) (fun _ hk=>hk.2) (.int .i64 t106)) (fun _ hk=>hk.2) (.slice Ao51 x111001_2.length co51)) (fun _ hk=>trivial),bl⟩
     rw [if_pos c22] at H
     have c22b0:decide (x7_2 < (x6_7.length:Int))=true:=decide_eq_true c22
     clear c22
     by_cases c23:0≤x7_2
     case neg=>rw [if_neg c23] at H;exact absurd H (by simp)
     rw [if_pos c23] at H
     have c23b0:decide (0≤x7_2)=true:=decide_eq_true c23
     clear c23
     replace H:=Option.bind_eq_some_iff.mp H
     obtain ⟨t121,A240,H⟩:=H
     replace H:(if (t121.length:Int)=2 then (if 0 < (t121.length:Int) then ((spec_l01Number.f k2 (rdOf ByteArray.empty t121 0)).bind fun t125=>(if 1 < (t121.length:Int) then ((spec_l01Number.f k2 (rdOf ByteArray.empty t121 1)).bind fun t127=>(if x111001_2.length < 5864062014805 then (spec_l01Read.l0 k2 x6_7 (wrap64 (x7_2+1)) t106 (x111001_2 ++ [(([t125,t127]:List Int))])) else (none))) else (none))) else (none)) else (some (0,([]:List (List Int)),false)))=some (r1,r2,r3):=H
     have A24:=Aside0.mk A240
     clear A240
     by_cases c25:(t121.length:Int)=2
     case neg =>
      rw [if_neg c25] at H
      have c25b0:((t121.length:Int) == 2)=false:=beq_eq_false_iff_ne.mpr c25
      have c25b1:((t121.length:Int) != 2)=true:=bne_iff_ne.mpr c25
      simp only [Option.some.injEq,Prod.mk.injEq] at H
      obtain ⟨rfl,rfl,rfl⟩:=H
      obtain ⟨Ao41,co41,eo41⟩:=Kd.R_slice HO_6.out
      subst eo41
      have p120:0≤(x7_2:Int):=oD
      have q120:x7_2 < (x6_7.length:Int):=oD
      obtain ⟨ad120,e120,hx120_0⟩:=Kd.at_string (Kd.R_reads' HO_6.out).2.2 x7_2 p120 q120
      cases e120
      replace p120:=eq_true p120
      replace q120:=eq_true q120
      go_wp2_with (first|((with_reducible refine gate_callee (f:=149) rfl ?_);refine goesL_ (some 40) rfl rfl Try.func149 (by kernel_rfl) rfl #[.string (rdOf ByteArray.empty x6_7 x7_2),.int .u8 45] rfl gm ?_;(with_reducible refine (spec_l01Split.calls k2 (rdOf ByteArray.empty x6_7 x7_2) 45 t121 _ A24.out).mono ?_);rintro e w42 ⟨v122,rfl,ho0,hb⟩;refine ⟨_,rfl,?_⟩;have n0_:=Aside0.mk (Kd.R_elder' (by (with_reducible repeat (first|apply Kd.R_alloc|apply Kd.R_drewN|apply Kd.R_drew));exact HO_6.out) (Kd.R_base ho0) hb);have n1_:=Aside0.mk (Kd.S_below (by (with_reducible repeat (first|apply Kd.S_alloc|apply Kd.S_drewN|apply Kd.S_drew));exact HO_111001.out) hb);have n2_:=Aside0.mk (Kd.R_lower (Kd.R_new' ho0 (Kd.R_lt (by (with_reducible repeat (first|apply Kd.R_alloc|apply Kd.R_drewN|apply Kd.R_drew));exact HO_6.out))) (below_size bl));have n3_:=Aside0.mk (blk_below (g:=gb101) (o:=.cells #[.int .i64 x102000_2,.slice none 0 0] 28 (0,0)) bk hb);have n4_:=Aside0.mk (blk_below (g:=gb110) (o:=.cells #[.int .i64 t106,u111001] 28 (0,0)) bk hb);have n5_:=Aside0.mk (below_step bl hb);clear HO_6;clear HO_111001;clear BK101;clear BK110;clear HB;have HO_6:=n0_;have HO_111001:=n1_;have HO123:=n2_;have BK101:=n3_;have BK110:=n4_;have HB:=n5_;clear n0_ n1_ n2_ n3_ n4_ n5_;(try clear hb);(try clear hb2);(try clear hk);(try clear hi);(try clear ho0);obtain ⟨Ao43,co43,eo43⟩:=Kd.R_slice HO123.out;subst eo43;have hnb44:=NB101_110.out;have hnc44:=NB110_101.out;have hcz45_0:w42.cell? ⟨gb101,0,none⟩=some (.int .i64 x102000_2):=(blk_cell BK101.out 0).trans rfl;have hcz45_1:w42.cell? ⟨gb101,1,none⟩=some (.slice none 0 0):=(blk_cell BK101.out 1).trans rfl;have hfz45_0:=blk_frozen BK101.out 0;have hfz45_1:=blk_frozen BK101.out 1))
      refine bodyPost_ret (results_ct rfl _ _ gb101 28 #[.int .i64 0,.slice none 0 0] (0,0) _ rfl (by (with_reducible repeat (first|refine blk_drewN ?_ _|refine blk_drew ?_|refine blk_alloc ?_ _));refine blk_put (cs:=#[.int .i64 0,.slice none 0 0]) ?_ 1 _ rfl;(with_reducible repeat (first|refine blk_drewN ?_ _|refine blk_drew ?_|refine blk_alloc ?_ _));refine blk_put (cs:=#[.int .i64 x102000_2,.slice none 0 0]) ?_ 0 _ rfl;(with_reducible repeat (first|refine blk_drewN ?_ _|refine blk_drew ?_|refine blk_alloc ?_ _));exact BK101.out) Try.underlying28 rfl (by kernel_rfl)) rfl ?_
      exact ⟨_,by first|rfl|(simp [errW_none,errW_some]<;>rfl)|(simp [*,errW_none,errW_some]<;>rfl),by first|exact Kd.S_nil _ _ _ _ _|exact Kd.N_nil _ _ _ _ _|exact Kd.V_nil _ _ _ _ _|exact Kd.Q_nil _ _ _ _ _|exact Kd.R_nil _ _ _ _ _,bl⟩
     rw [if_pos c25] at H
     have c25b0:((t121.length:Int) == 2)=true:=beq_iff_eq.mpr c25
     have c25b1:((t121.length:Int) != 2)=false:=bne_eq_false_iff_eq.mpr c25
     clear c25
     by_cases c26:0 < (t121.length:Int)
     case neg=>rw [if_neg c26] at H;exact absurd H (by simp)
     rw [if_pos c26] at H
     have c26b0:decide (0 < (t121.length:Int))=true:=decide_eq_true c26
     have c26b1:decide (0 < t121.length)=true:=decide_eq_true (by omega)
     clear c26
     replace H:=Option.bind_eq_some_iff.mp H
     obtain ⟨t125,A270,H⟩:=H
     replace H:(if 1 < (t121.length:Int) then ((spec_l01Number.f k2 (rdOf ByteArray.empty t121 1)).bind fun t127=>(if x111001_2.length < 5864062014805 then (spec_l01Read.l0 k2 x6_7 (wrap64 (x7_2+1)) t106 (x111001_2 ++ [(([t125,t127]:List Int))])) else (none))) else (none))=some (r1,r2,r3):=H
     have A27:=Aside0.mk A270
     clear A270
     by_cases c28:1 < (t121.length:Int)
     case neg=>rw [if_neg c28] at H;exact absurd H (by simp)
     rw [if_pos c28] at H
     have c28b0:decide (1 < (t121.length:Int))=true:=decide_eq_true c28
     have c28b1:decide (1 < t121.length)=true:=decide_eq_true (by omega)
     clear c28
     replace H:=Option.bind_eq_some_iff.mp H
     obtain ⟨t127,A290,H⟩:=H
     replace H:(if x111001_2.length < 5864062014805 then (spec_l01Read.l0 k2 x6_7 (wrap64 (x7_2+1)) t106 (x111001_2 ++ [(([t125,t127]:List Int))])) else (none))=some (r1,r2,r3):=H
     have A29:=Aside0.mk A290
     clear A290
     obtain ⟨y128,hy128⟩:∃ y_:List Int,y_=(([t125,t127]:List Int)):=⟨_,rfl⟩
     replace H:(if x111001_2.length < 5864062014805 then (spec_l01Read.l0 k2 x6_7 (wrap64 (x7_2+1)) t106 (x111001_2 ++ [y128])) else (none))=some (r1,r2,r3):=by first|(rw [hy128];with_reducible exact H)|(have H2_:=(Option.bind_some _ _).symm.trans H;rw [hy128];with_reducible exact H2_)|(have H2_:=(Option.bind_some _ _).symm.trans H;with_reducible exact H2_)|with_reducible exact H|(rw [hy128];exact H)|exact H
     have Ny128:=Aside0.mk hy128
     clear hy128
     by_cases c30:x111001_2.length < 5864062014805
     case neg=>rw [if_neg c30] at H;exact absurd H (by simp)
     rw [if_pos c30] at H
     have LMc30:=Aside0.mk c30
     clear c30
     obtain ⟨y131,hy131⟩:∃ y_:List (List Int),y_=(x111001_2 ++ [y128]):=⟨_,rfl⟩
     replace H:(spec_l01Read.l0 k2 x6_7 (wrap64 (x7_2+1)) t106 y131)=some (r1,r2,r3):=by first|(rw [hy131];with_reducible exact H)|(have H2_:=(Option.bind_some _ _).symm.trans H;rw [hy131];with_reducible exact H2_)|(have H2_:=(Option.bind_some _ _).symm.trans H;with_reducible exact H2_)|with_reducible exact H|(rw [hy131];exact H)|exact H
     have Ny131:=Aside0.mk hy131
     clear hy131
     have H':=Aside0.mk H
     clear H
     obtain ⟨Ao31,co31,eo31⟩:=Kd.R_slice HO_6.out
     subst eo31
     have p120:0≤(x7_2:Int):=oD
     have q120:x7_2 < (x6_7.length:Int):=oD
     obtain ⟨ad120,e120,hx120_0⟩:=Kd.at_string (Kd.R_reads' HO_6.out).2.2 x7_2 p120 q120
     cases e120
     replace p120:=eq_true p120
     replace q120:=eq_true q120
     try go_wp2_with (first|((with_reducible refine gate_callee (f:=149) rfl ?_);refine goesL_ (some 40) rfl rfl Try.func149 (by kernel_rfl) rfl #[.string (rdOf ByteArray.empty x6_7 x7_2),.int .u8 45] rfl gm ?_;(with_reducible refine (spec_l01Split.calls k2 (rdOf ByteArray.empty x6_7 x7_2) 45 t121 _ A24.out).mono ?_);rintro e w32 ⟨v122,rfl,ho0,hb⟩;refine ⟨_,rfl,?_⟩;have n0_:=Aside0.mk (Kd.R_elder' (by (with_reducible repeat (first|apply Kd.R_alloc|apply Kd.R_drewN|apply Kd.R_drew));exact HO_6.out) (Kd.R_base ho0) hb);have n1_:=Aside0.mk (Kd.S_below (by (with_reducible repeat (first|apply Kd.S_alloc|apply Kd.S_drewN|apply Kd.S_drew));exact HO_111001.out) hb);have n2_:=Aside0.mk (Kd.R_lower (Kd.R_new' ho0 (Kd.R_lt (by (with_reducible repeat (first|apply Kd.R_alloc|apply Kd.R_drewN|apply Kd.R_drew));exact HO_6.out))) (below_size bl));have n3_:=Aside0.mk (blk_below (g:=gb101) (o:=.cells #[.int .i64 x102000_2,.slice none 0 0] 28 (0,0)) bk hb);have n4_:=Aside0.mk (blk_below (g:=gb110) (o:=.cells #[.int .i64 t106,u111001] 28 (0,0)) bk hb);have n5_:=Aside0.mk (below_step bl hb);clear HO_6;clear HO_111001;clear BK101;clear BK110;clear HB;have HO_6:=n0_;have HO_111001:=n1_;have HO123:=n2_;have BK101:=n3_;have BK110:=n4_;have HB:=n5_;clear n0_ n1_ n2_ n3_ n4_ n5_;(try clear hb);(try clear hb2);(try clear hk);(try clear hi);(try clear ho0);obtain ⟨Ao33,co33,eo33⟩:=Kd.R_slice HO123.out;subst eo33))
     have n0_:=Aside0.mk (Kd.R_drew HO_6.out)
     have n1_:=Aside0.mk (Kd.S_drew HO_111001.out)
     have n2_:=Aside0.mk (Kd.R_drew HO123.out)
     have n3_:=Aside0.mk (blk_drew BK101.out)
     have n4_:=Aside0.mk (blk_drew BK110.out)
     have n5_:=Aside0.mk (below_drew1 HB.out)
     clear HO_6
     clear HO_111001
     clear HO123
     clear BK101
     clear BK110
     clear HB
     have HO_6:=n0_
     have HO_111001:=n1_
     have HO123:=n2_
     have BK101:=n3_
     have BK110:=n4_
     have HB:=n5_
     clear n0_ n1_ n2_ n3_ n4_ n5_
     have p124:0≤(0:Int):=(by omega)
     have q124:0 < (t121.length:Int):=oD
     obtain ⟨ad124,e124,hx124_0⟩:=Kd.at_string (Kd.R_reads' HO123.out).2.2 0 p124 q124
     cases e124
     have qi124:(0 < t121.length)=True:=eq_true (by omega)
     (try rw [show ((0:Int)).toNat=0 from rfl] at hx124_0)
     (try rw [Addr.add_zero'] at hx124_0)
     replace p124:=eq_true p124
     replace q124:=eq_true q124
     have p126:0≤(1:Int):=(by omega)
     have q126:1 < (t121.length:Int):=oD
     obtain ⟨ad126,e126,hx126_0⟩:=Kd.at_string (Kd.R_reads' HO123.out).2.2 1 p126 q126
     obtain rfl:ad124=ad126:=(by injection e126)
     (try simp only [show (1:Int).toNat=1 from rfl,Nat.reduceMul,Nat.reduceEqDiff,Go.Addr.add,↓reduceIte] at hx126_0)
     have qi126:(1 < t121.length)=True:=eq_true (by omega)
     (try rw [show ((1:Int)).toNat=1 from rfl] at hx126_0)
     replace p126:=eq_true p126
     replace q126:=eq_true q126
     refine start_ (n:=15) (S:=fun w'=>w'.cell? ⟨gb110,0,none⟩=some (.int .i64 t106)∧w'.cell? ⟨gb110,1,none⟩=some (u111001)∧w'.cell? ad124=some (.string (rdOf ByteArray.empty t121 0))∧w'.cell? ⟨ad124.block,ad124.off+1,none⟩=some (.string (rdOf ByteArray.empty t121 1))) (ds:=[12,14]) #[false,false,false,false,false,false,false,false,false,false,false,false,false,false,false] (by kernel_rfl) rfl rfl ⟨(blk_cell BK110.out 0).trans rfl,(blk_cell BK110.out 1).trans rfl,hx124_0,hx126_0⟩ (fun hHeld=>?_);refine with_tabW spec_l01Read.tab14 spec_l01Read.bits14 (fun HT_ HW_=>?_)
     generalize w32.drew=w34 at HO_6 HO_111001 HO123 BK101 BK110 HB hx124_0 hx126_0 hHeld ⊢
     refine pure_ (i:=0) (N:=some 45) (v:=?_) (a':=?_) #[true,false,false,false,false,false,false,false,false,false,false,false,false,false,false] rfl rfl (any_of HT_.out (by kernel_rfl)) (fun _ _ _ h=>h) (Or.inl ⟨by rfl,?_⟩) ?_ ?_
     rotate_left;· intro w';go_simp;with_reducible rfl
     rotate_left;· simp only [Act.put,zI,zZ,zS,i64_w,i32_w];rfl
     refine pure_ (i:=2) (N:=some 47) (v:=?_) (a':=?_) #[true,false,true,false,false,false,false,false,false,false,false,false,false,false,false] rfl rfl (any_of HT_.out (by kernel_rfl)) (fun _ _ _ h=>h) (Or.inl ⟨by rfl,?_⟩) ?_ ?_
     rotate_left;· intro w';go_simp;with_reducible rfl
     rotate_left;· simp only [Act.put,zI,zZ,zS,i64_w,i32_w];rfl
     refine pure_ (i:=3) (N:=some 48) (v:=?_) (a':=?_) #[true,false,true,true,false,false,false,false,false,false,false,false,false,false,false] rfl rfl (any_of HT_.out (by kernel_rfl)) (fun _ _ _ h=>h) (Or.inl ⟨by rfl,?_⟩) ?_ ?_
     rotate_left;· intro w';go_simp;with_reducible rfl
     rotate_left;· simp only [Act.put,zI,zZ,zS,i64_w,i32_w];rfl
     refine pure_ (i:=6) (N:=some 51) (v:=?_) (a':=?_) #[true,false,true,true,false,false,true,false,false,false,false,false,false,false,false] rfl rfl (any_of HT_.out (by kernel_rfl)) (fun _ _ _ h=>h) (Or.inl ⟨by rfl,?_⟩) ?_ ?_
     rotate_left;· intro w';go_simp;with_reducible rfl
     rotate_left;· simp only [Act.put,zI,zZ,zS,i64_w,i32_w];rfl
     refine pure_ (i:=7) (N:=some 52) (v:=?_) (a':=?_) #[true,false,true,true,false,false,true,true,false,false,false,false,false,false,false] rfl rfl (any_of HT_.out (by kernel_rfl)) (fun _ _ _ h=>h) (Or.inl ⟨by rfl,?_⟩) ?_ ?_
     rotate_left;· intro w';go_simp;with_reducible rfl
     rotate_left;· simp only [Act.put,zI,zZ,zS,i64_w,i32_w];rfl
     refine take_ (i:=1) (N:=some 46) (v:=?_) (a':=?_) #[true,true,true,true,false,false,true,true,false,false,false,false,false,false,false] rfl rfl (take_ofW HT_.out HW_.out (by kernel_rfl)) (fun _ _ _ h=>h) (Or.inl ⟨by rfl,?_⟩) hHeld ?_ ?_
     rotate_left;· rintro w' ⟨s0,s1,s2,s3⟩;go_simp;with_reducible rfl
     rotate_left;· simp only [Act.put,zI,zZ,zS,i64_w,i32_w];rfl
     refine take_ (i:=4) (N:=some 49) (v:=?_) (a':=?_) #[true,true,true,true,true,false,true,true,false,false,false,false,false,false,false] rfl rfl (take_ofW HT_.out HW_.out (by kernel_rfl)) (fun _ _ _ h=>h) (Or.inl ⟨by rfl,?_⟩) hHeld ?_ ?_
     rotate_left;· rintro w' ⟨s0,s1,s2,s3⟩;go_simp;with_reducible rfl
     rotate_left;· simp only [Act.put,zI,zZ,zS,i64_w,i32_w];rfl
     refine take_ (i:=8) (N:=some 53) (v:=?_) (a':=?_) #[true,true,true,true,true,false,true,true,true,false,false,false,false,false,false] rfl rfl (take_ofW HT_.out HW_.out (by kernel_rfl)) (fun _ _ _ h=>h) (Or.inl ⟨by rfl,?_⟩) hHeld ?_ ?_
     rotate_left;· rintro w' ⟨s0,s1,s2,s3⟩;go_simp;with_reducible rfl
     rotate_left;· simp only [Act.put,zI,zZ,zS,i64_w,i32_w];rfl
     refine one_ (i:=5) (N:=some 50) #[true,true,true,true,true,true,true,true,true,false,false,false,false,false,false] rfl rfl (one_of HT_.out (by kernel_rfl)) (by decide) (fun K hK=>?_)
     refine goes_ Try.func150 (by kernel_rfl) rfl #[.string (rdOf ByteArray.empty t121 0)] (by rfl) rfl rfl gm ?_
     with_reducible refine (spec_l01Number.calls k2 (rdOf ByteArray.empty t121 0) t125 _ A27.out).mono ?_
     rintro e w' ⟨rfl,⟨nd,rfl⟩⟩
     refine ⟨_,rfl,?_⟩
     refine hK.out _ _ ⟨(blk_cell BK110.out 0).trans rfl,(blk_cell BK110.out 1).trans rfl,hHeld.2.2.1,hHeld.2.2.2⟩ (fun hHeld=>?_)
     clear hK K
     refine norm_ (a':=?_) ?_ ?_
     rotate_left;· show Act.put _ (some 50) _=_;simp only [Act.put,zI,zZ,zS,i64_w,i32_w];rfl
     refine one_ (i:=9) (N:=some 54) #[true,true,true,true,true,true,true,true,true,true,false,false,false,false,false] rfl rfl (one_of HT_.out (by kernel_rfl)) (by decide) (fun K hK=>?_)
     refine goes_ Try.func150 (by kernel_rfl) rfl #[.string (rdOf ByteArray.empty t121 1)] (by rfl) rfl rfl gm ?_
     with_reducible refine (spec_l01Number.calls k2 (rdOf ByteArray.empty t121 1) t127 _ A29.out).mono ?_
     rintro e w' ⟨rfl,⟨nd,rfl⟩⟩
     refine ⟨_,rfl,?_⟩
     refine hK.out _ _ ⟨(blk_cell BK110.out 0).trans rfl,(blk_cell BK110.out 1).trans rfl,hHeld.2.2.1,hHeld.2.2.2⟩ (fun hHeld=>?_)
     clear hK K
     refine norm_ (a':=?_) ?_ ?_
     rotate_left;· show Act.put _ (some 54) _=_;simp only [Act.put,zI,zZ,zS,i64_w,i32_w];rfl
     refine one_ (i:=10) (N:=some 55) #[true,true,true,true,true,true,true,true,true,true,true,false,false,false,false] rfl rfl (one_of HT_.out (by kernel_rfl)) (by decide) (fun K hK=>?_)
     refine Kd.R_lit_step (Kd.int .i64) _ 2 ?hg (N:=55) ?hd (xs:=([t125,t127]:List Int)) (inner:=[.int .i64 t125,.int .i64 t127]) (ok:=fun _=>True) (okp:=fun _=>True) ?hr ?hp (fun _ hk=>hk) trivial (Below.refl _ _) (Nat.le_refl _) (by simp) ?_;(case hd=>rfl);(case hg=>rfl);(case hr=>first|(go_simp;done)|(go_simp;rfl));(case hp=>exact (Reps.one (show Kd.M (Kd.int .i64) _ _ _ t125 [.int .i64 t125] from rfl) (Reps.one (show Kd.M (Kd.int .i64) _ _ _ t127 [.int .i64 t127] from rfl) (Reps.none _ _))))
     intro v129 w35 ho36 hb hg_ hnew_
     have HS2_:=(hb.cell (World.block_lt_of_cell? _ _ (hHeld.2.2.1))).trans (hHeld.2.2.1)
     have HS3_:=(hb.cell (World.block_lt_of_cell? _ _ (hHeld.2.2.2))).trans (hHeld.2.2.2)
     clear hg_ hnew_
     (first|rw [← Ny128.out] at ho36|(simp only [Int.reduceToNat] at ho36;rw [← Ny128.out] at ho36))
     have n0_:=Aside0.mk (Kd.R_below (by (with_reducible repeat (first|apply Kd.R_alloc|apply Kd.R_drewN|apply Kd.R_drew));exact HO_6.out) hb)
     have n1_:=Aside0.mk (Kd.S_elder' (by (with_reducible repeat (first|apply Kd.S_alloc|apply Kd.S_drewN|apply Kd.S_drew));exact HO_111001.out) (Kd.R_base ho36) hb)
     have n2_:=Aside0.mk (Kd.R_below (by (with_reducible repeat (first|apply Kd.R_alloc|apply Kd.R_drewN|apply Kd.R_drew));exact HO123.out) hb)
     have n3_:=Aside0.mk (Kd.R_lower ho36 (below_size bl))
     have n4_:=Aside0.mk (blk_below (g:=gb101) (o:=.cells #[.int .i64 x102000_2,.slice none 0 0] 28 (0,0)) bk hb)
     have n5_:=Aside0.mk (blk_below (g:=gb110) (o:=.cells #[.int .i64 t106,u111001] 28 (0,0)) bk hb)
     have n6_:=Aside0.mk (below_step bl hb)
     clear HO_6
     clear HO_111001
     clear HO123
     clear BK101
     clear BK110
     clear HB
     have HO_6:=n0_
     have HO_111001:=n1_
     have HO123:=n2_
     have HO130:=n3_
     have BK101:=n4_
     have BK110:=n5_
     have HB:=n6_
     clear n0_ n1_ n2_ n3_ n4_ n5_ n6_
     clear hb ho36
     obtain ⟨Ao38,co38,eo38⟩:=Kd.R_slice HO130.out
     (first|subst eo38|(injection eo38 with f1_ f2_ f3_;have f4_:=f1_.symm;have f5_:=f3_.symm;clear f1_ f2_ f3_;subst f4_;subst f5_))
     refine hK.out _ _ ⟨(blk_cell BK110.out 0).trans rfl,(blk_cell BK110.out 1).trans rfl,HS2_,HS3_⟩ (fun hHeld=>?_)
     clear hK K
     refine norm_ (a':=?_) ?_ ?_
     rotate_left;· show Act.put _ (some 55) _=_;simp only [Act.put,zI,zZ,zS,i64_w,i32_w];rfl
     refine one_ (i:=11) (N:=some 56) #[true,true,true,true,true,true,true,true,true,true,true,true,false,false,false] rfl rfl (one_of HT_.out (by kernel_rfl)) (by decide) (fun K hK=>?_)
     refine value_ (w1:=?_) (v:=?_) (by rfl) rfl ?_ ?_
     rotate_left 2
     ·go_simp
      constructor
      ·rfl
      ·rfl
     refine hK.out _ _ ⟨(blk_cell (blk_alloc BK110.out _) 0).trans rfl,(blk_cell (blk_alloc BK110.out _) 1).trans rfl,(World.cell?_alloc_lt _ _ _ (World.block_lt_of_cell? _ _ (hHeld.2.2.1))).trans (hHeld.2.2.1),(World.cell?_alloc_lt _ _ _ (World.block_lt_of_cell? _ _ (hHeld.2.2.2))).trans (hHeld.2.2.2)⟩ (fun hHeld=>?_)
     clear hK K
     refine norm_ (a':=?_) ?_ ?_
     rotate_left;· show Act.put _ (some 56) _=_;simp only [Act.put,zI,zZ,zS,i64_w,i32_w];rfl
     refine last_ (i:=12) (N:=some 57) #[true,true,true,true,true,true,true,true,true,true,true,true,true,false,false] rfl rfl (one_of HT_.out (by kernel_rfl)) (by decide) (fun K hK=>?_)
     refine Kd.S_append_step (Kd.slice 2 (Kd.int .i64)) (w0:=w) w.heap.size (by rfl) (.tmp 46) (.tmp 56) 22 32 (.slice none 0 0) 24 rfl Try.underlying22 info32 rfl (by decide) (by omega) u111001 x111001_2 y128 [.slice Ao38 y128.length co38] (fun _=>True) (fun k_=>some k_=(.slice Ao38 y128.length co38:Value).ownBlock) rfl rfl ?aP (fun k_ hk_=>((Kd.R_mono (ok':=fun k_=>((fun _=>True)) k_∧some k_ ≠ (u111001:Value).ownBlock) (Kd.R_apart' (HO130.out) (Kd.S_typed HO_111001.out) (by decide)) (fun k_ hk=>⟨trivial,hk.2⟩))).1 k_ hk_.symm) ?aF ?aO ?aB ?aS ?aL ?_
     (case aP=>exact Kd.M_row (Kd.R_mono (Kd.R_tight rfl (Kd.R_mono (ok':=fun k_=>((fun _=>True)) k_∧some k_ ≠ (u111001:Value).ownBlock) (Kd.R_apart' (HO130.out) (Kd.S_typed HO_111001.out) (by decide)) (fun k_ hk=>⟨trivial,hk.2⟩))) (fun _ h_=>h_)))
     (case aB=>exact bl)
     (case aF=>exact (fun _ _=>trivial))
     (case aO=>exact (by (with_reducible repeat (first|apply Kd.S_alloc|apply Kd.S_drewN|apply Kd.S_drew));exact Kd.S_mono HO_111001.out (fun k_ hk=>⟨trivial,fun e_=>hk.2 e_⟩)))
     (case aS=>exact (below_size bl))
     (case aL=>have:=LMc30.out;omega)
     intro v132 w37 ho hb hg hat
     rw [← Ny131.out] at ho
     have n0_:=Aside0.mk (Kd.R_over' (by (with_reducible repeat (first|apply Kd.R_alloc|apply Kd.R_drewN|apply Kd.R_drew));exact HO_6.out) (Kd.S_typed (by (with_reducible repeat (first|apply Kd.S_alloc|apply Kd.S_drewN|apply Kd.S_drew));exact HO_111001.out)) (by decide) hg)
     have n1_:=Aside0.mk (blk_grown (g:=gb101) (o:=.cells #[.int .i64 x102000_2,.slice none 0 0] 28 (0,0)) bk hg (Kd.S_ne HO_111001.out BK101.out (by decide)))
     have n2_:=Aside0.mk (blk_grown (g:=gb110) (o:=.cells #[.int .i64 t106,u111001] 28 (0,0)) bk hg (Kd.S_ne HO_111001.out BK110.out (by decide)))
     have n3_:=Aside0.mk (Kd.R_over' (by (with_reducible repeat (first|apply Kd.R_alloc|apply Kd.R_drewN|apply Kd.R_drew));exact HO123.out) (Kd.S_typed (by (with_reducible repeat (first|apply Kd.S_alloc|apply Kd.S_drewN|apply Kd.S_drew));exact HO_111001.out)) (by decide) hg)
     have n4_:=Aside0.mk (hb)
     have n5_:=Aside0.mk (ho)
     clear HO_6
     clear BK101
     clear BK110
     clear HO123
     clear HB
     clear HO_111001
     clear HO130
     have HO_6:=n0_
     have BK101:=n1_
     have BK110:=n2_
     have HO123:=n3_
     have HB:=n4_
     have HO133:=n5_
     clear n0_ n1_ n2_ n3_ n4_ n5_
     clear ho hb hg hat
     obtain ⟨Ao39,co39,eo39⟩:=Kd.S_slice HO133.out
     (first|subst eo39|(injection eo39 with f1_ f2_ f3_;have f4_:=f1_.symm;have f5_:=f3_.symm;clear f1_ f2_ f3_;subst f4_;subst f5_))
     refine hK.out _ _ ?_
     clear hK K
     refine norm_ (a':=?_) ?_ ?_
     rotate_left;· show Act.put _ (some 57) _=_;simp only [Act.put,zI,zZ,zS,i64_w,i32_w];rfl
     refine pure_ (i:=13) (N:=some 58) (v:=?_) (a':=?_) #[true,true,true,true,true,true,true,true,true,true,true,true,true,true,false] rfl rfl (any_of HT_.out (by kernel_rfl)) (fun _ _ _ h=>h) (Or.inl ⟨by rfl,?_⟩) ?_ ?_
     rotate_left;· intro w';go_simp;with_reducible rfl
     rotate_left;· simp only [Act.put,zI,zZ,zS,i64_w,i32_w];rfl
     refine last_ (i:=14) (N:=none) #[true,true,true,true,true,true,true,true,true,true,true,true,true,true,true] rfl rfl (one_of HT_.out (by kernel_rfl)) (by decide) (fun K hK=>?_)
     have hs40:w37.cell? ⟨gb110,1,none⟩=some (u111001):=(blk_cell BK110.out 1).trans rfl
     have hfs40:=blk_frozen BK110.out 1
     have hns40_0:=NB101_110.out
     have hms40_0:=NB110_101.out
     refine skip_ (w1:=?_) (by rfl) rfl ?_ ?_
     rotate_left;· go_simp;rfl
     refine hK.out _ _ ?_
     clear hK K
     refine done_ (done_of HT_.out (by kernel_rfl)) ?_
     try go_wp2
     go_roundg k2
     case measure=>have:=HJ7.out;have:=HK2.out;omega
     case rel=>exact ⟨(wrap64 (x7_2+1)),(x102000_2),(y131),(.slice Ao39 y131.length co39),rs,H',⟨by have:=HJ7.out;have:=HK2.out;omega⟩,⟨by (with_reducible repeat (first|apply Kd.R_alloc|apply Kd.R_drewN|apply Kd.R_drew));exact Kd.R_mono (Kd.R_far (p:=⟨gb110,1,none⟩) (Kd.R_types HO_6.out BK110.out (by decide)) (fun _ hk=>hk.2) (.slice Ao39 y131.length co39)) (fun _ hk=>trivial)⟩,⟨by (with_reducible repeat (first|apply Kd.S_alloc|apply Kd.S_drewN|apply Kd.S_drew));exact Kd.S_mono (Kd.S_far (p:=⟨gb110,1,none⟩) (Kd.S_types HO133.out BK110.out (by decide)) (fun _ hk=>hk.2) (.slice Ao39 y131.length co39)) (fun _ hk=>trivial)⟩,⟨by (with_reducible repeat (first|refine blk_drewN ?_ _|refine blk_drew ?_|refine blk_alloc ?_ _));refine blk_far ?_ NB101_110.out _;(with_reducible repeat (first|refine blk_drewN ?_ _|refine blk_drew ?_|refine blk_alloc ?_ _));exact BK101.out⟩,⟨by (with_reducible repeat (first|refine blk_drewN ?_ _|refine blk_drew ?_|refine blk_alloc ?_ _));refine blk_put (cs:=#[.int .i64 t106,u111001]) ?_ 1 _ rfl;(with_reducible repeat (first|refine blk_drewN ?_ _|refine blk_drew ?_|refine blk_alloc ?_ _));exact BK110.out⟩,⟨bl⟩⟩
/-! ### spec_l01Known: function 140 -/
def spec_l01Known.f (a0:ByteArray):Option (ByteArray):=if a0.toList=([112,111,105,110,116]:List UInt8) then (some (⟨#[49,58]⟩:ByteArray)) else (if a0.toList=([101,100,103,101]:List UInt8) then (some (⟨#[50,58,48,45,49]⟩:ByteArray)) else (if a0.toList=([108,111,111,112]:List UInt8) then (some (⟨#[49,58,48,45,48]⟩:ByteArray)) else (if a0.toList=([98,111,117,113,117,101,116]:List UInt8) then (some (⟨#[49,58,48,45,48,44,48,45,48]⟩:ByteArray)) else (if a0.toList=([116,104,101,116,97]:List UInt8) then (some (⟨#[50,58,48,45,49,44,48,45,49,44,48,45,49]⟩:ByteArray)) else (if a0.toList=([100,117,109,98,98,101,108,108]:List UInt8) then (some (⟨#[50,58,48,45,48,44,48,45,49,44,49,45,49]⟩:ByteArray)) else (if a0.toList=([116,114,105,97,110,103,108,101]:List UInt8) then (some (⟨#[51,58,48,45,49,44,49,45,50,44,50,45,48]⟩:ByteArray)) else (if a0.toList=([115,113,117,97,114,101]:List UInt8) then (some (⟨#[52,58,48,45,49,44,49,45,50,44,50,45,51,44,51,45,48]⟩:ByteArray)) else (if a0.toList=([112,101,110,116,97,103,111,110]:List UInt8) then (some (⟨#[53,58,48,45,49,44,49,45,50,44,50,45,51,44,51,45,52,44,52,45,48]⟩:ByteArray)) else (if a0.toList=([115,116,97,114]:List UInt8) then (some (⟨#[52,58,48,45,49,44,48,45,50,44,48,45,51]⟩:ByteArray)) else (if a0.toList=([100,105,97,109,111,110,100]:List UInt8) then (some (⟨#[52,58,48,45,49,44,49,45,50,44,50,45,51,44,51,45,48,44,48,45,50]⟩:ByteArray)) else (if a0.toList=([116,101,116,114,97,104,101,100,114,111,110]:List UInt8) then (some (⟨#[52,58,48,45,49,44,48,45,50,44,48,45,51,44,49,45,50,44,49,45,51,44,50,45,51]⟩:ByteArray)) else (if a0.toList=([112,114,105,115,109]:List UInt8) then (some (⟨#[54,58,48,45,49,44,49,45,50,44,50,45,48,44,51,45,52,44,52,45,53,44,53,45,51,44,48,45,51,44,49,45,52,44,50,45,53]⟩:ByteArray)) else (if a0.toList=([104,111,117,115,101,115]:List UInt8) then (some (⟨#[54,58,48,45,51,44,48,45,52,44,48,45,53,44,49,45,51,44,49,45,52,44,49,45,53,44,50,45,51,44,50,45,52,44,50,45,53]⟩:ByteArray)) else (some (⟨#[]⟩:ByteArray)))))))))))))))
set_option maxHeartbeats 8000000 in
set_option maxRecDepth 100000 in
theorem spec_l01Known.calls (a0 : ByteArray) (r : ByteArray) (w : World) (h : spec_l01Known.f a0 = some r) :
  Calls Try.prog 140 #[.string a0] w fun e w'=>e=.returned (.string r)∧Drawn0 w w':=by
 have H:(if a0.toList=([112,111,105,110,116]:List UInt8) then (some (⟨#[49,58]⟩:ByteArray)) else (if a0.toList=([101,100,103,101]:List UInt8) then (some (⟨#[50,58,48,45,49]⟩:ByteArray)) else (if a0.toList=([108,111,111,112]:List UInt8) then (some (⟨#[49,58,48,45,48]⟩:ByteArray)) else (if a0.toList=([98,111,117,113,117,101,116]:List UInt8) then (some (⟨#[49,58,48,45,48,44,48,45,48]⟩:ByteArray)) else (if a0.toList=([116,104,101,116,97]:List UInt8) then (some (⟨#[50,58,48,45,49,44,48,45,49,44,48,45,49]⟩:ByteArray)) else (if a0.toList=([100,117,109,98,98,101,108,108]:List UInt8) then (some (⟨#[50,58,48,45,48,44,48,45,49,44,49,45,49]⟩:ByteArray)) else (if a0.toList=([116,114,105,97,110,103,108,101]:List UInt8) then (some (⟨#[51,58,48,45,49,44,49,45,50,44,50,45,48]⟩:ByteArray)) else (if a0.toList=([115,113,117,97,114,101]:List UInt8) then (some (⟨#[52,58,48,45,49,44,49,45,50,44,50,45,51,44,51,45,48]⟩:ByteArray)) else (if a0.toList=([112,101,110,116,97,103,111,110]:List UInt8) then (some (⟨#[53,58,48,45,49,44,49,45,50,44,50,45,51,44,51,45,52,44,52,45,48]⟩:ByteArray)) else (if a0.toList=([115,116,97,114]:List UInt8) then (some (⟨#[52,58,48,45,49,44,48,45,50,44,48,45,51]⟩:ByteArray)) else (if a0.toList=([100,105,97,109,111,110,100]:List UInt8) then (some (⟨#[52,58,48,45,49,44,49,45,50,44,50,45,51,44,51,45,48,44,48,45,50]⟩:ByteArray)) else (if a0.toList=([116,101,116,114,97,104,101,100,114,111,110]:List UInt8) then (some (⟨#[52,58,48,45,49,44,48,45,50,44,48,45,51,44,49,45,50,44,49,45,51,44,50,45,51]⟩:ByteArray)) else (if a0.toList=([112,114,105,115,109]:List UInt8) then (some (⟨#[54,58,48,45,49,44,49,45,50,44,50,45,48,44,51,45,52,44,52,45,53,44,53,45,51,44,48,45,51,44,49,45,52,44,50,45,53]⟩:ByteArray)) else (if a0.toList=([104,111,117,115,101,115]:List UInt8) then (some (⟨#[54,58,48,45,51,44,48,45,52,44,48,45,53,44,49,45,51,44,49,45,52,44,49,45,53,44,50,45,51,44,50,45,52,44,50,45,53]⟩:ByteArray)) else (some (⟨#[]⟩:ByteArray))))))))))))))))=some r:=h
 clear h
 by_cases c2:a0.toList=([112,111,105,110,116]:List UInt8)
 case neg =>
  rw [if_neg c2] at H
  have c2b0:(a0.toList == ([112,111,105,110,116]:List UInt8))=false:=beq_eq_false_iff_ne.mpr c2
  have c2b1:(a0.toList != ([112,111,105,110,116]:List UInt8))=true:=bne_iff_ne.mpr c2
  by_cases c3:a0.toList=([101,100,103,101]:List UInt8)
  case neg =>
   rw [if_neg c3] at H
   have c3b0:(a0.toList == ([101,100,103,101]:List UInt8))=false:=beq_eq_false_iff_ne.mpr c3
   have c3b1:(a0.toList != ([101,100,103,101]:List UInt8))=true:=bne_iff_ne.mpr c3
   by_cases c4:a0.toList=([108,111,111,112]:List UInt8)
   case neg =>
    rw [if_neg c4] at H
    have c4b0:(a0.toList == ([108,111,111,112]:List UInt8))=false:=beq_eq_false_iff_ne.mpr c4
    have c4b1:(a0.toList != ([108,111,111,112]:List UInt8))=true:=bne_iff_ne.mpr c4
    by_cases c5:a0.toList=([98,111,117,113,117,101,116]:List UInt8)
    case neg =>
     rw [if_neg c5] at H
     have c5b0:(a0.toList == ([98,111,117,113,117,101,116]:List UInt8))=false:=beq_eq_false_iff_ne.mpr c5
     have c5b1:(a0.toList != ([98,111,117,113,117,101,116]:List UInt8))=true:=bne_iff_ne.mpr c5
     by_cases c6:a0.toList=([116,104,101,116,97]:List UInt8)
     case neg =>
      rw [if_neg c6] at H
      have c6b0:(a0.toList == ([116,104,101,116,97]:List UInt8))=false:=beq_eq_false_iff_ne.mpr c6
      have c6b1:(a0.toList != ([116,104,101,116,97]:List UInt8))=true:=bne_iff_ne.mpr c6
      by_cases c7:a0.toList=([100,117,109,98,98,101,108,108]:List UInt8)
      case neg =>
       rw [if_neg c7] at H
       have c7b0:(a0.toList == ([100,117,109,98,98,101,108,108]:List UInt8))=false:=beq_eq_false_iff_ne.mpr c7
       have c7b1:(a0.toList != ([100,117,109,98,98,101,108,108]:List UInt8))=true:=bne_iff_ne.mpr c7
       by_cases c8:a0.toList=([116,114,105,97,110,103,108,101]:List UInt8)
       case neg =>
        rw [if_neg c8] at H
        have c8b0:(a0.toList == ([116,114,105,97,110,103,108,101]:List UInt8))=false:=beq_eq_false_iff_ne.mpr c8
        have c8b1:(a0.toList != ([116,114,105,97,110,103,108,101]:List UInt8))=true:=bne_iff_ne.mpr c8
        by_cases c9:a0.toList=([115,113,117,97,114,101]:List UInt8)
        case neg =>
         rw [if_neg c9] at H
         have c9b0:(a0.toList == ([115,113,117,97,114,101]:List UInt8))=false:=beq_eq_false_iff_ne.mpr c9
         have c9b1:(a0.toList != ([115,113,117,97,114,101]:List UInt8))=true:=bne_iff_ne.mpr c9
         by_cases c10:a0.toList=([112,101,110,116,97,103,111,110]:List UInt8)
         case neg =>
          rw [if_neg c10] at H
          have c10b0:(a0.toList == ([112,101,110,116,97,103,111,110]:List UInt8))=false:=beq_eq_false_iff_ne.mpr c10
          have c10b1:(a0.toList != ([112,101,110,116,97,103,111,110]:List UInt8))=true:=bne_iff_ne.mpr c10
          by_cases c11:a0.toList=([115,116,97,114]:List UInt8)
          case neg =>
           rw [if_neg c11] at H
           have c11b0:(a0.toList == ([115,116,97,114]:List UInt8))=false:=beq_eq_false_iff_ne.mpr c11
           have c11b1:(a0.toList != ([115,116,97,114]:List UInt8))=true:=bne_iff_ne.mpr c11
           by_cases c12:a0.toList=([100,105,97,109,111,110,100]:List UInt8)
           case neg =>
            rw [if_neg c12] at H
            have c12b0:(a0.toList == ([100,105,97,109,111,110,100]:List UInt8))=false:=beq_eq_false_iff_ne.mpr c12
            have c12b1:(a0.toList != ([100,105,97,109,111,110,100]:List UInt8))=true:=bne_iff_ne.mpr c12
            by_cases c13:a0.toList=([116,101,116,114,97,104,101,100,114,111,110]:List UInt8)
            case neg =>
             rw [if_neg c13] at H
             have c13b0:(a0.toList == ([116,101,116,114,97,104,101,100,114,111,110]:List UInt8))=false:=beq_eq_false_iff_ne.mpr c13
             have c13b1:(a0.toList != ([116,101,116,114,97,104,101,100,114,111,110]:List UInt8))=true:=bne_iff_ne.mpr c13
             by_cases c14:a0.toList=([112,114,105,115,109]:List UInt8)
             case neg =>
              rw [if_neg c14] at H
              have c14b0:(a0.toList == ([112,114,105,115,109]:List UInt8))=false:=beq_eq_false_iff_ne.mpr c14
              have c14b1:(a0.toList != ([112,114,105,115,109]:List UInt8))=true:=bne_iff_ne.mpr c14
              by_cases c15:a0.toList=([104,111,117,115,101,115]:List UInt8)
              case neg =>
               rw [if_neg c15] at H
               have c15b0:(a0.toList == ([104,111,117,115,101,115]:List UInt8))=false:=beq_eq_false_iff_ne.mpr c15
               have c15b1:(a0.toList != ([104,111,117,115,101,115]:List UInt8))=true:=bne_iff_ne.mpr c15
               obtain rfl:=Option.some.inj H
               go_enter Try.func140,Try.ntmps140
               go_wp2
               go_ret
               exact ⟨by first|rfl|(simp;done)|(simp [*];done),by repeat (first|exact Drawn0.refl _|apply Drawn0.step)⟩
              rw [if_pos c15] at H
              have c15b0:(a0.toList == ([104,111,117,115,101,115]:List UInt8))=true:=beq_iff_eq.mpr c15
              have c15b1:(a0.toList != ([104,111,117,115,101,115]:List UInt8))=false:=bne_eq_false_iff_eq.mpr c15
              clear c15
              obtain rfl:=Option.some.inj H
              go_enter Try.func140,Try.ntmps140
              go_wp2
              go_ret
              exact ⟨by first|rfl|(simp;done)|(simp [*];done),by repeat (first|exact Drawn0.refl _|apply Drawn0.step)⟩
             rw [if_pos c14] at H
             have c14b0:(a0.toList == ([112,114,105,115,109]:List UInt8))=true:=beq_iff_eq.mpr c14
             have c14b1:(a0.toList != ([112,114,105,115,109]:List UInt8))=false:=bne_eq_false_iff_eq.mpr c14
             clear c14
             obtain rfl:=Option.some.inj H
             go_enter Try.func140,Try.ntmps140
             go_wp2
             go_ret
             exact ⟨by first|rfl|(simp;done)|(simp [*];done),by repeat (first|exact Drawn0.refl _|apply Drawn0.step)⟩
            rw [if_pos c13] at H
            have c13b0:(a0.toList == ([116,101,116,114,97,104,101,100,114,111,110]:List UInt8))=true:=beq_iff_eq.mpr c13
            have c13b1:(a0.toList != ([116,101,116,114,97,104,101,100,114,111,110]:List UInt8))=false:=bne_eq_false_iff_eq.mpr c13
            clear c13
            obtain rfl:=Option.some.inj H
            go_enter Try.func140,Try.ntmps140
            go_wp2
            go_ret
            exact ⟨by first|rfl|(simp;done)|(simp [*];done),by repeat (first|exact Drawn0.refl _|apply Drawn0.step)⟩
           rw [if_pos c12] at H
           have c12b0:(a0.toList == ([100,105,97,109,111,110,100]:List UInt8))=true:=beq_iff_eq.mpr c12
           have c12b1:(a0.toList != ([100,105,97,109,111,110,100]:List UInt8))=false:=bne_eq_false_iff_eq.mpr c12
           clear c12
           obtain rfl:=Option.some.inj H
           go_enter Try.func140,Try.ntmps140
           go_wp2
           go_ret
           exact ⟨by first|rfl|(simp;done)|(simp [*];done),by repeat (first|exact Drawn0.refl _|apply Drawn0.step)⟩
          rw [if_pos c11] at H
          have c11b0:(a0.toList == ([115,116,97,114]:List UInt8))=true:=beq_iff_eq.mpr c11
          have c11b1:(a0.toList != ([115,116,97,114]:List UInt8))=false:=bne_eq_false_iff_eq.mpr c11
          clear c11
          obtain rfl:=Option.some.inj H
          go_enter Try.func140,Try.ntmps140
          go_wp2
          go_ret
          exact ⟨by first|rfl|(simp;done)|(simp [*];done),by repeat (first|exact Drawn0.refl _|apply Drawn0.step)⟩
         rw [if_pos c10] at H
         have c10b0:(a0.toList == ([112,101,110,116,97,103,111,110]:List UInt8))=true:=beq_iff_eq.mpr c10
         have c10b1:(a0.toList != ([112,101,110,116,97,103,111,110]:List UInt8))=false:=bne_eq_false_iff_eq.mpr c10
         clear c10
         obtain rfl:=Option.some.inj H
         go_enter Try.func140,Try.ntmps140
         go_wp2
         go_ret
         exact ⟨by first|rfl|(simp;done)|(simp [*];done),by repeat (first|exact Drawn0.refl _|apply Drawn0.step)⟩
        rw [if_pos c9] at H
        have c9b0:(a0.toList == ([115,113,117,97,114,101]:List UInt8))=true:=beq_iff_eq.mpr c9
        have c9b1:(a0.toList != ([115,113,117,97,114,101]:List UInt8))=false:=bne_eq_false_iff_eq.mpr c9
        clear c9
        obtain rfl:=Option.some.inj H
        go_enter Try.func140,Try.ntmps140
        go_wp2
        go_ret
        exact ⟨by first|rfl|(simp;done)|(simp [*];done),by repeat (first|exact Drawn0.refl _|apply Drawn0.step)⟩
       rw [if_pos c8] at H
       have c8b0:(a0.toList == ([116,114,105,97,110,103,108,101]:List UInt8))=true:=beq_iff_eq.mpr c8
       have c8b1:(a0.toList != ([116,114,105,97,110,103,108,101]:List UInt8))=false:=bne_eq_false_iff_eq.mpr c8
       clear c8
       obtain rfl:=Option.some.inj H
       go_enter Try.func140,Try.ntmps140
       go_wp2
       go_ret
       exact ⟨by first|rfl|(simp;done)|(simp [*];done),by repeat (first|exact Drawn0.refl _|apply Drawn0.step)⟩
      rw [if_pos c7] at H
      have c7b0:(a0.toList == ([100,117,109,98,98,101,108,108]:List UInt8))=true:=beq_iff_eq.mpr c7
      have c7b1:(a0.toList != ([100,117,109,98,98,101,108,108]:List UInt8))=false:=bne_eq_false_iff_eq.mpr c7
      clear c7
      obtain rfl:=Option.some.inj H
      go_enter Try.func140,Try.ntmps140
      go_wp2
      go_ret
      exact ⟨by first|rfl|(simp;done)|(simp [*];done),by repeat (first|exact Drawn0.refl _|apply Drawn0.step)⟩
     rw [if_pos c6] at H
     have c6b0:(a0.toList == ([116,104,101,116,97]:List UInt8))=true:=beq_iff_eq.mpr c6
     have c6b1:(a0.toList != ([116,104,101,116,97]:List UInt8))=false:=bne_eq_false_iff_eq.mpr c6
     clear c6
     obtain rfl:=Option.some.inj H
     go_enter Try.func140,Try.ntmps140
     go_wp2
     go_ret
     exact ⟨by first|rfl|(simp;done)|(simp [*];done),by repeat (first|exact Drawn0.refl _|apply Drawn0.step)⟩
    rw [if_pos c5] at H
    have c5b0:(a0.toList == ([98,111,117,113,117,101,116]:List UInt8))=true:=beq_iff_eq.mpr c5
    have c5b1:(a0.toList != ([98,111,117,113,117,101,116]:List UInt8))=false:=bne_eq_false_iff_eq.mpr c5
    clear c5
    obtain rfl:=Option.some.inj H
    go_enter Try.func140,Try.ntmps140
    go_wp2
    go_ret
    exact ⟨by first|rfl|(simp;done)|(simp [*];done),by repeat (first|exact Drawn0.refl _|apply Drawn0.step)⟩
   rw [if_pos c4] at H
   have c4b0:(a0.toList == ([108,111,111,112]:List UInt8))=true:=beq_iff_eq.mpr c4
   have c4b1:(a0.toList != ([108,111,111,112]:List UInt8))=false:=bne_eq_false_iff_eq.mpr c4
   clear c4
   obtain rfl:=Option.some.inj H
   go_enter Try.func140,Try.ntmps140
   go_wp2
   go_ret
   exact ⟨by first|rfl|(simp;done)|(simp [*];done),by repeat (first|exact Drawn0.refl _|apply Drawn0.step)⟩
  rw [if_pos c3] at H
  have c3b0:(a0.toList == ([101,100,103,101]:List UInt8))=true:=beq_iff_eq.mpr c3
  have c3b1:(a0.toList != ([101,100,103,101]:List UInt8))=false:=bne_eq_false_iff_eq.mpr c3
  clear c3
  obtain rfl:=Option.some.inj H
  go_enter Try.func140,Try.ntmps140
  go_wp2
  go_ret
  exact ⟨by first|rfl|(simp;done)|(simp [*];done),by repeat (first|exact Drawn0.refl _|apply Drawn0.step)⟩
 rw [if_pos c2] at H
 have c2b0:(a0.toList == ([112,111,105,110,116]:List UInt8))=true:=beq_iff_eq.mpr c2
 have c2b1:(a0.toList != ([112,111,105,110,116]:List UInt8))=false:=bne_eq_false_iff_eq.mpr c2
 clear c2
 obtain rfl:=Option.some.inj H
 go_enter Try.func140,Try.ntmps140
 go_wp2
 go_ret
 exact ⟨by first|rfl|(simp;done)|(simp [*];done),by repeat (first|exact Drawn0.refl _|apply Drawn0.step)⟩
/-! ### spec_l01Named: function 128 -/
def spec_l01Named.f (k:Nat) (a0:ByteArray):Option (Int × (List (List Int)) × Bool):=(spec_l01Known.f a0).bind fun t102=>((spec_l01Read.f k t102).bind fun bt103=>(some (bt103.1,bt103.2.1,bt103.2.2)))
theorem spec_l01Named.mono:∀ a0 k,LeO (spec_l01Named.f k a0) (spec_l01Named.f (k+1) a0):=by
 intro a0 k
 unfold spec_l01Named.f
 repeat' first
   | (with_reducible exact spec_l01Read.mono _ _)
   | (with_reducible exact LeO.refl _)
   | (with_reducible exact LeO.none _)
   | (with_reducible refine LeO.ite ?_ ?_)
   | (with_reducible refine LeO.bind ?_ (fun _=>?_))
   | exact spec_l01Read.mono _ _
   | exact LeO.none _
   | refine LeO.ite ?_ ?_
   | refine LeO.bind ?_ (fun _=>?_)
set_option maxHeartbeats 8000000 in
set_option maxRecDepth 100000 in
theorem spec_l01Named.calls (k : Nat) (a0 : ByteArray) (r1 : Int) (r2 : List (List Int)) (r3 : Bool) (w : World) (h : spec_l01Named.f k a0 = some (r1, r2, r3)) :
  Calls Try.prog 128 #[.string a0] w fun e w'=>∃ v1_:Value,e=.returned (.tuple #[.agg #[.int .i64 r1,v1_],.bool r3])∧Kd.S (Kd.slice 2 (Kd.int .i64)) 32 w' w.heap.size (fun _=>True) v1_ r2∧Below w.heap.size w w':=by
 have hu28:=Try.underlying28
 have HB:=Aside0.mk (Below.refl w.heap.size w)
 have H:((spec_l01Known.f a0).bind fun t102=>((spec_l01Read.f k t102).bind fun bt103=>(some (bt103.1,bt103.2.1,bt103.2.2))))=some (r1,r2,r3):=h
 clear h
 replace H:=Option.bind_eq_some_iff.mp H
 obtain ⟨t102,A20,H⟩:=H
 replace H:((spec_l01Read.f k t102).bind fun bt103=>(some (bt103.1,bt103.2.1,bt103.2.2)))=some (r1,r2,r3):=H
 have A2:=Aside0.mk A20
 clear A20
 replace H:=Option.bind_eq_some_iff.mp H
 obtain ⟨⟨t103,t104,t107⟩,A30,H⟩:=H
 replace H:(some (t103,t104,t107))=some (r1,r2,r3):=H
 have A3:=Aside0.mk A30
 clear A30
 simp only [Option.some.injEq,Prod.mk.injEq] at H
 obtain ⟨rfl,rfl,rfl⟩:=H
 go_enter Try.func128,Try.ntmps128
 go_wp2_with (first|((with_reducible refine gate_dst (N:=2) rfl ?_);refine box_event ?hg (N:=2) ?hd (cs:=#[.int .i64 0,.slice none 0 0]) (t:=28) ?hr ?_;(case hd=>rfl);(case hg=>rfl);(case hr=>first|(go_simp;done)|(go_simp;rfl));intro gb101 hg w4 hbox hb;have n0_:=Aside0.mk (below_step bl hb);have n1_:=Aside0.mk (hbox);have n2_:=Aside0.mk ((by rw [hg];exact (below_size bl):w.heap.size≤gb101));have n3_:=Aside0.mk ((by rw [hg];exact (below_size bl):w.heap.size≤gb101));clear HB;have HB:=n0_;have BK101:=n1_;have GW101:=n2_;have GE101:=n3_;clear n0_ n1_ n2_ n3_;clear hb hbox hg)|((with_reducible refine gate_callee (f:=140) rfl ?_);refine goesL_ (some 8) rfl rfl Try.func140 (by kernel_rfl) rfl #[.string a0] rfl gm ?_;(with_reducible refine (spec_l01Known.calls a0 t102 _ A2.out).mono ?_);rintro e w' ⟨rfl,⟨nd,rfl⟩⟩;refine ⟨_,rfl,?_⟩;(try (rw [drewN_self w4];generalize hq_:World.drewN w4 _=w4;have n0_:Aside0 (w4.heap[gb101]?=some (.cells #[.int .i64 0,.slice none 0 0] 28 (0,0))):=⟨by rw [← hq_];exact bk⟩;have n1_:Aside0 (Below w.heap.size w w4):=⟨by rw [← hq_];exact bl⟩;clear BK101 HB hq_;have BK101:=n0_;have HB:=n1_;clear n0_ n1_)))|((with_reducible refine gate_callee (f:=139) rfl ?_);refine goesL_ (some 9) rfl rfl Try.func139 (by kernel_rfl) rfl #[.string t102] rfl gm ?_;(with_reducible refine (spec_l01Read.calls k t102 t103 t104 t107 _ A3.out).mono ?_);rintro e w5 ⟨v105,rfl,ho0,hb⟩;refine ⟨_,rfl,?_⟩;have n0_:=Aside0.mk (Kd.S_lower ho0 (below_size bl));have n1_:=Aside0.mk (blk_below (g:=gb101) (o:=.cells #[.int .i64 0,.slice none 0 0] 28 (0,0)) bk hb);have n2_:=Aside0.mk (below_step bl hb);clear BK101;clear HB;have HO106:=n0_;have BK101:=n1_;have HB:=n2_;clear n0_ n1_ n2_;(try clear hb);(try clear hb2);(try clear hk);(try clear hi);(try clear ho0))|((with_reducible refine gate_dst (N:=4) rfl ?_);refine box_event ?hg (N:=4) ?hd (cs:=#[.int .i64 0,.slice none 0 0]) (t:=28) ?hr ?_;(case hd=>rfl);(case hg=>rfl);(case hr=>first|(go_simp;done)|(go_simp;rfl));intro gb108 hg w6 hbox hb;have n0_:=Aside0.mk (Kd.S_below (by (with_reducible repeat (first|apply Kd.S_alloc|apply Kd.S_drewN|apply Kd.S_drew));exact HO106.out) hb);have n1_:=Aside0.mk (blk_below (g:=gb101) (o:=.cells #[.int .i64 0,.slice none 0 0] 28 (0,0)) bk hb);have n2_:=Aside0.mk (below_step bl hb);have n3_:=Aside0.mk (hbox);have n4_:=Aside0.mk ((by rw [hg];exact (below_size bl):w.heap.size≤gb108));have n5_:=Aside0.mk ((by rw [hg];exact (below_size bl):w.heap.size≤gb108));have n6_:=Aside0.mk ((by rw [hg];exact Nat.ne_of_lt (blk_lt (g:=gb101) (o:=.cells #[.int .i64 0,.slice none 0 0] 28 (0,0)) bk):gb101 ≠ gb108));have n7_:=Aside0.mk ((by rw [hg];exact Nat.ne_of_gt (blk_lt (g:=gb101) (o:=.cells #[.int .i64 0,.slice none 0 0] 28 (0,0)) bk):gb108 ≠ gb101));clear HO106;clear BK101;clear HB;have HO106:=n0_;have BK101:=n1_;have HB:=n2_;have BK108:=n3_;have GW108:=n4_;have GE108:=n5_;have NB101_108:=n6_;have NB108_101:=n7_;clear n0_ n1_ n2_ n3_ n4_ n5_ n6_ n7_;clear hb hbox hg;have hnb7:=NB108_101.out;have hnc7:=NB101_108.out;have hcz8_0:w6.cell? ⟨gb108,0,none⟩=some (.int .i64 0):=(blk_cell BK108.out 0).trans rfl;have hcz8_1:w6.cell? ⟨gb108,1,none⟩=some (.slice none 0 0):=(blk_cell BK108.out 1).trans rfl;have hfz8_0:=blk_frozen BK108.out 0;have hfz8_1:=blk_frozen BK108.out 1;obtain ⟨Ao9,co9,eo9⟩:=Kd.S_slice HO106.out;subst eo9;have hcz10_0:w6.cell? ⟨gb101,0,none⟩=some (.int .i64 0):=(blk_cell BK101.out 0).trans rfl;have hcz10_1:w6.cell? ⟨gb101,1,none⟩=some (.slice none 0 0):=(blk_cell BK101.out 1).trans rfl;have hfz10_0:=blk_frozen BK101.out 0;have hfz10_1:=blk_frozen BK101.out 1))
 refine bodyPost_ret (results_ct rfl _ _ gb101 28 #[.int .i64 t103,.slice Ao9 t104.length co9] (0,0) _ rfl (by (with_reducible repeat (first|refine blk_drewN ?_ _|refine blk_drew ?_|refine blk_alloc ?_ _));refine blk_put (cs:=#[.int .i64 t103,.slice none 0 0]) ?_ 1 _ rfl;(with_reducible repeat (first|refine blk_drewN ?_ _|refine blk_drew ?_|refine blk_alloc ?_ _));refine blk_put (cs:=#[.int .i64 0,.slice none 0 0]) ?_ 0 _ rfl;(with_reducible repeat (first|refine blk_drewN ?_ _|refine blk_drew ?_|refine blk_alloc ?_ _));refine blk_far ?_ NB101_108.out _;(with_reducible repeat (first|refine blk_drewN ?_ _|refine blk_drew ?_|refine blk_alloc ?_ _));refine blk_far ?_ NB101_108.out _;(with_reducible repeat (first|refine blk_drewN ?_ _|refine blk_drew ?_|refine blk_alloc ?_ _));exact BK101.out) Try.underlying28 rfl (by kernel_rfl)) rfl ?_
 exact ⟨_,by first|rfl|(simp [errW_none,errW_some]<;>rfl)|(simp [*,errW_none,errW_some]<;>rfl),by (with_reducible repeat (first|apply Kd.S_alloc|apply Kd.S_drewN|apply Kd.S_drew));exact Kd.S_mono (Kd.S_far (p:=⟨gb101,1,none⟩) (Kd.S_far (p:=⟨gb101,0,none⟩) (Kd.S_far (p:=⟨gb108,1,none⟩) (Kd.S_far (p:=⟨gb108,0,none⟩) (Kd.S_types (Kd.S_types HO106.out BK108.out (by decide)) BK101.out (by decide)) (fun _ hk=>hk.1.2) (.int .i64 t103)) (fun _ hk=>hk.1.2) (.slice Ao9 t104.length co9)) (fun _ hk=>hk.2) (.int .i64 t103)) (fun _ hk=>hk.2) (.slice Ao9 t104.length co9)) (fun _ hk=>trivial),bl⟩
end Go.Proofs.Ytjgdibhalmcigaa.D
/- Set with little white space, by a program. -/
