/- The functions that one law reaches, each as a Lean function, and that Go's call comes to what it says. Condition of each: that the Lean function answers (is not none). -/
import Derived.Test.YtjgdibhalmcigaaDx0
import Derived.Test.YtjgdibhalmcigaaDx1
import Derived.Test.YtjgdibhalmcigaaDx6
import Derived.Test.YtjgdibhalmcigaaDx8
import Derived.Test.YtjgdibhalmcigaaDx9
import Derived.Test.YtjgdibhalmcigaaDx10
import Derived.Test.YtjgdibhalmcigaaDx13
namespace Go.Proofs.Ytjgdibhalmcigaa.D
open Go.RowKit Go.Proofs.YtjgdibhalmcigaaW.PrintWords Go.Proofs.YtjgdibhalmcigaaW.PrintLast Go.Proofs.YtjgdibhalmcigaaW.PrintMore
attribute [local go_sem] max2_int min2_int max_two min_two max_three min_three max_four min_four   -- for this text's walks alone
set_option linter.unusedVariables false
set_option linter.unusedSimpArgs false
/-! ### laws_FnPruning: function 6 -/
mutual
def laws_FnPruning.j0 : Nat → Int → Bool → Int → List (List Int) → Int → List (List Int) → Option (Bool)
 | 0,_,_,_,_,_,_=>none
 | k+1,x5,x35,x107000,x107001,x113000,x113001=>if x35=true then (some false) else (if x5=0 then ((impl_DegreesOf.f k x113000 x113001).bind fun bt120=>(if bt120.2=0 then ((impl_IsGraph.f k x113000 x113001).bind fun t124=>(if t124=true then (laws_FnPruning.j1 k bt120.1 (decide (x113000 > x107000)) x107000 x107001 x113000 x113001) else (laws_FnPruning.j1 k bt120.1 true x107000 x107001 x113000 x113001))) else (laws_FnPruning.j1 k bt120.1 true x107000 x107001 x113000 x113001))) else (some ((x113001.length:Int) == 0)))
def laws_FnPruning.j1 : Nat → List Int → Bool → Int → List (List Int) → Int → List (List Int) → Option (Bool)
 | 0,_,_,_,_,_,_=>none
 | k+1,x8,x60,x107000,x107001,x113000,x113001=>if x60=true then (some false) else (laws_FnPruning.l0 k x8 0 x107000 x107001 x113000 x113001)
def laws_FnPruning.l0 : Nat → List Int → Int → Int → List (List Int) → Int → List (List Int) → Option (Bool)
 | 0,_,_,_,_,_,_=>none
 | k+1,x8,x10,x107000,x107001,x113000,x113001=>if x10 < (x8.length:Int) then (if 0≤x10 then (if (rd x8 x10)=1 then (some false) else (laws_FnPruning.l0 k x8 (wrap64 (x10+1)) x107000 x107001 x113000 x113001)) else (none)) else ((impl_AreEqualZetas.f k x107000 x107001 x113000 x113001).bind fun bt126=>(if bt126.2=0 then (some bt126.1) else (some false)))
end
def laws_FnPruning.f (k:Nat) (l0:List Int):Option (Bool):=(laws_big.f l0).bind fun t101=>(if t101=true then (some true) else ((spec_DrawPruneGraph.f k l0).bind fun bt102=>((impl_PruneGraph.f k bt102.1 bt102.2).bind fun bt107=>((spec_PruneGraph.f k bt102.1 bt102.2).bind fun bt113=>(if bt107.2.2=bt113.2.2 then ((laws_graph9.f k bt107.1 bt107.2.1 bt113.1 bt113.2.1).bind fun t119=>(laws_FnPruning.j0 k bt107.2.2 (!t119) bt102.1 bt102.2 bt107.1 bt107.2.1)) else (laws_FnPruning.j0 k bt107.2.2 true bt102.1 bt102.2 bt107.1 bt107.2.1))))))
theorem laws_FnPruning.mono_l : ∀ k, (∀ y0 y1 y2 y3 y4 y5, LeO (laws_FnPruning.j0 k y0 y1 y2 y3 y4 y5) (laws_FnPruning.j0 (k + 1) y0 y1 y2 y3 y4 y5)) ∧ (∀ y0 y1 y2 y3 y4 y5, LeO (laws_FnPruning.j1 k y0 y1 y2 y3 y4 y5) (laws_FnPruning.j1 (k + 1) y0 y1 y2 y3 y4 y5)) ∧ (∀ y0 y1 y2 y3 y4 y5, LeO (laws_FnPruning.l0 k y0 y1 y2 y3 y4 y5) (laws_FnPruning.l0 (k + 1) y0 y1 y2 y3 y4 y5))
 | 0=>⟨fun _ _ _ _ _ _ r h=>by simp [laws_FnPruning.j0] at h,fun _ _ _ _ _ _ r h=>by simp [laws_FnPruning.j1] at h,fun _ _ _ _ _ _ r h=>by simp [laws_FnPruning.l0] at h⟩
 | k+1=>by
  obtain ⟨ih0,ih1,ih2⟩:=laws_FnPruning.mono_l k
  refine ⟨?_,?_,?_⟩
  ·intro y0 y1 y2 y3 y4 y5
   unfold laws_FnPruning.j0
   repeat' first
   | (with_reducible exact ih0 _ _ _ _ _ _)
   | (with_reducible exact ih1 _ _ _ _ _ _)
   | (with_reducible exact ih2 _ _ _ _ _ _)
   | (with_reducible exact impl_AreEqualZetas.mono _ _ _ _ _)
   | (with_reducible exact impl_DegreesOf.mono _ _ _)
   | (with_reducible exact impl_IsGraph.mono _ _ _)
   | (with_reducible exact impl_PruneGraph.mono _ _ _)
   | (with_reducible exact laws_graph9.mono _ _ _ _ _)
   | (with_reducible exact spec_DrawPruneGraph.mono _ _)
   | (with_reducible exact spec_PruneGraph.mono _ _ _)
   | (with_reducible exact LeO.refl _)
   | (with_reducible exact LeO.none _)
   | (with_reducible refine LeO.ite ?_ ?_)
   | (with_reducible refine LeO.bind ?_ (fun _=>?_))
   | exact ih0 _ _ _ _ _ _
   | exact ih1 _ _ _ _ _ _
   | exact ih2 _ _ _ _ _ _
   | exact impl_AreEqualZetas.mono _ _ _ _ _
   | exact impl_DegreesOf.mono _ _ _
   | exact impl_IsGraph.mono _ _ _
   | exact impl_PruneGraph.mono _ _ _
   | exact laws_graph9.mono _ _ _ _ _
   | exact spec_DrawPruneGraph.mono _ _
   | exact spec_PruneGraph.mono _ _ _
   | exact LeO.none _
   | refine LeO.ite ?_ ?_
   | refine LeO.bind ?_ (fun _=>?_)
  ·intro y0 y1 y2 y3 y4 y5
   unfold laws_FnPruning.j1
   repeat' first
   | (with_reducible exact ih0 _ _ _ _ _ _)
   | (with_reducible exact ih1 _ _ _ _ _ _)
   | (with_reducible exact ih2 _ _ _ _ _ _)
   | (with_reducible exact impl_AreEqualZetas.mono _ _ _ _ _)
   | (with_reducible exact impl_DegreesOf.mono _ _ _)
   | (with_reducible exact impl_IsGraph.mono _ _ _)
   | (with_reducible exact impl_PruneGraph.mono _ _ _)
   | (with_reducible exact laws_graph9.mono _ _ _ _ _)
   | (with_reducible exact spec_DrawPruneGraph.mono _ _)
   | (with_reducible exact spec_PruneGraph.mono _ _ _)
   | (with_reducible exact LeO.refl _)
   | (with_reducible exact LeO.none _)
   | (with_reducible refine LeO.ite ?_ ?_)
   | (with_reducible refine LeO.bind ?_ (fun _=>?_))
   | exact ih0 _ _ _ _ _ _
   | exact ih1 _ _ _ _ _ _
   | exact ih2 _ _ _ _ _ _
   | exact impl_AreEqualZetas.mono _ _ _ _ _
   | exact impl_DegreesOf.mono _ _ _
   | exact impl_IsGraph.mono _ _ _
   | exact impl_PruneGraph.mono _ _ _
   | exact laws_graph9.mono _ _ _ _ _
   | exact spec_DrawPruneGraph.mono _ _
   | exact spec_PruneGraph.mono _ _ _
   | exact LeO.none _
   | refine LeO.ite ?_ ?_
   | refine LeO.bind ?_ (fun _=>?_)
  ·intro y0 y1 y2 y3 y4 y5
   unfold laws_FnPruning.l0
   repeat' first
   | (with_reducible exact ih0 _ _ _ _ _ _)
   | (with_reducible exact ih1 _ _ _ _ _ _)
   | (with_reducible exact ih2 _ _ _ _ _ _)
   | (with_reducible exact impl_AreEqualZetas.mono _ _ _ _ _)
   | (with_reducible exact impl_DegreesOf.mono _ _ _)
   | (with_reducible exact impl_IsGraph.mono _ _ _)
   | (with_reducible exact impl_PruneGraph.mono _ _ _)
   | (with_reducible exact laws_graph9.mono _ _ _ _ _)
   | (with_reducible exact spec_DrawPruneGraph.mono _ _)
   | (with_reducible exact spec_PruneGraph.mono _ _ _)
   | (with_reducible exact LeO.refl _)
   | (with_reducible exact LeO.none _)
   | (with_reducible refine LeO.ite ?_ ?_)
   | (with_reducible refine LeO.bind ?_ (fun _=>?_))
   | exact ih0 _ _ _ _ _ _
   | exact ih1 _ _ _ _ _ _
   | exact ih2 _ _ _ _ _ _
   | exact impl_AreEqualZetas.mono _ _ _ _ _
   | exact impl_DegreesOf.mono _ _ _
   | exact impl_IsGraph.mono _ _ _
   | exact impl_PruneGraph.mono _ _ _
   | exact laws_graph9.mono _ _ _ _ _
   | exact spec_DrawPruneGraph.mono _ _
   | exact spec_PruneGraph.mono _ _ _
   | exact LeO.none _
   | refine LeO.ite ?_ ?_
   | refine LeO.bind ?_ (fun _=>?_)
theorem laws_FnPruning.mono:∀ a0 k,LeO (laws_FnPruning.f k a0) (laws_FnPruning.f (k+1) a0):=by
 intro a0 k
 obtain ⟨ih0,ih1,ih2⟩:=laws_FnPruning.mono_l k
 unfold laws_FnPruning.f
 repeat' first
   | (with_reducible exact ih0 _ _ _ _ _ _)
   | (with_reducible exact ih1 _ _ _ _ _ _)
   | (with_reducible exact ih2 _ _ _ _ _ _)
   | (with_reducible exact impl_AreEqualZetas.mono _ _ _ _ _)
   | (with_reducible exact impl_DegreesOf.mono _ _ _)
   | (with_reducible exact impl_IsGraph.mono _ _ _)
   | (with_reducible exact impl_PruneGraph.mono _ _ _)
   | (with_reducible exact laws_graph9.mono _ _ _ _ _)
   | (with_reducible exact spec_DrawPruneGraph.mono _ _)
   | (with_reducible exact spec_PruneGraph.mono _ _ _)
   | (with_reducible exact LeO.refl _)
   | (with_reducible exact LeO.none _)
   | (with_reducible refine LeO.ite ?_ ?_)
   | (with_reducible refine LeO.bind ?_ (fun _=>?_))
   | exact ih0 _ _ _ _ _ _
   | exact ih1 _ _ _ _ _ _
   | exact ih2 _ _ _ _ _ _
   | exact impl_AreEqualZetas.mono _ _ _ _ _
   | exact impl_DegreesOf.mono _ _ _
   | exact impl_IsGraph.mono _ _ _
   | exact impl_PruneGraph.mono _ _ _
   | exact laws_graph9.mono _ _ _ _ _
   | exact spec_DrawPruneGraph.mono _ _
   | exact spec_PruneGraph.mono _ _ _
   | exact LeO.none _
   | refine LeO.ite ?_ ?_
   | refine LeO.bind ?_ (fun _=>?_)
set_option maxHeartbeats 8000000 in
set_option maxRecDepth 100000 in
theorem laws_FnPruning.calls (k : Nat) (A0 : Option Addr) (c0 : Nat) (l0 : List Int) (r : Bool) (w : World) (hr0 : Kd.C (Kd.int .u8) w A0 l0.length l0) (hc0 : l0.length ≤ c0) (h : laws_FnPruning.f k l0 = some r) :
  Calls Try.prog 6 #[.slice A0 l0.length c0] w fun e w'=>e=.returned (.bool r)∧Below w.heap.size w w':=by
 have hu28:=Try.underlying28
 have HR0:=Aside0.mk hr0
 have HC0:=Aside0.mk hc0
 clear hr0 hc0
 have HB:=Aside0.mk (Below.refl w.heap.size w)
 have H:((laws_big.f l0).bind fun t101=>(if t101=true then (some true) else ((spec_DrawPruneGraph.f k l0).bind fun bt102=>((impl_PruneGraph.f k bt102.1 bt102.2).bind fun bt107=>((spec_PruneGraph.f k bt102.1 bt102.2).bind fun bt113=>(if bt107.2.2=bt113.2.2 then ((laws_graph9.f k bt107.1 bt107.2.1 bt113.1 bt113.2.1).bind fun t119=>(laws_FnPruning.j0 k bt107.2.2 (!t119) bt102.1 bt102.2 bt107.1 bt107.2.1)) else (laws_FnPruning.j0 k bt107.2.2 true bt102.1 bt102.2 bt107.1 bt107.2.1)))))))=some r:=h
 clear h
 replace H:=Option.bind_eq_some_iff.mp H
 obtain ⟨t101,A20,H⟩:=H
 replace H:(if t101=true then (some true) else ((spec_DrawPruneGraph.f k l0).bind fun bt102=>((impl_PruneGraph.f k bt102.1 bt102.2).bind fun bt107=>((spec_PruneGraph.f k bt102.1 bt102.2).bind fun bt113=>(if bt107.2.2=bt113.2.2 then ((laws_graph9.f k bt107.1 bt107.2.1 bt113.1 bt113.2.1).bind fun t119=>(laws_FnPruning.j0 k bt107.2.2 (!t119) bt102.1 bt102.2 bt107.1 bt107.2.1)) else (laws_FnPruning.j0 k bt107.2.2 true bt102.1 bt102.2 bt107.1 bt107.2.1))))))=some r:=H
 have A2:=Aside0.mk A20
 clear A20
 by_cases c3:t101=true
 case neg =>
  replace c3:=Bool.eq_false_iff.mpr c3
  subst c3
  have H1:((spec_DrawPruneGraph.f k l0).bind fun bt102=>((impl_PruneGraph.f k bt102.1 bt102.2).bind fun bt107=>((spec_PruneGraph.f k bt102.1 bt102.2).bind fun bt113=>(if bt107.2.2=bt113.2.2 then ((laws_graph9.f k bt107.1 bt107.2.1 bt113.1 bt113.2.1).bind fun t119=>(laws_FnPruning.j0 k bt107.2.2 (!t119) bt102.1 bt102.2 bt107.1 bt107.2.1)) else (laws_FnPruning.j0 k bt107.2.2 true bt102.1 bt102.2 bt107.1 bt107.2.1)))))=some r:=by rw [if_neg (show ¬ (false=true) by decide)] at H;exact H
  clear H
  have H:=H1
  clear H1
  replace H:=Option.bind_eq_some_iff.mp H
  obtain ⟨⟨t102,t103⟩,A40,H⟩:=H
  replace H:((impl_PruneGraph.f k t102 t103).bind fun bt107=>((spec_PruneGraph.f k t102 t103).bind fun bt113=>(if bt107.2.2=bt113.2.2 then ((laws_graph9.f k bt107.1 bt107.2.1 bt113.1 bt113.2.1).bind fun t119=>(laws_FnPruning.j0 k bt107.2.2 (!t119) t102 t103 bt107.1 bt107.2.1)) else (laws_FnPruning.j0 k bt107.2.2 true t102 t103 bt107.1 bt107.2.1))))=some r:=H
  have A4:=Aside0.mk A40
  clear A40
  replace H:=Option.bind_eq_some_iff.mp H
  obtain ⟨⟨t107,t108,t111⟩,A50,H⟩:=H
  replace H:((spec_PruneGraph.f k t102 t103).bind fun bt113=>(if t111=bt113.2.2 then ((laws_graph9.f k t107 t108 bt113.1 bt113.2.1).bind fun t119=>(laws_FnPruning.j0 k t111 (!t119) t102 t103 t107 t108)) else (laws_FnPruning.j0 k t111 true t102 t103 t107 t108)))=some r:=H
  have A5:=Aside0.mk A50
  clear A50
  replace H:=Option.bind_eq_some_iff.mp H
  obtain ⟨⟨t113,t114,t117⟩,A60,H⟩:=H
  replace H:(if t111=t117 then ((laws_graph9.f k t107 t108 t113 t114).bind fun t119=>(laws_FnPruning.j0 k t111 (!t119) t102 t103 t107 t108)) else (laws_FnPruning.j0 k t111 true t102 t103 t107 t108))=some r:=H
  have A6:=Aside0.mk A60
  clear A60
  have HC7:=Aside0.mk H
  clear H
  go_enter Try.func6,Try.ntmps6
  go_upto_region 6 with (first|((with_reducible refine gate_callee (f:=23) rfl ?_);refine goesL_ (some 14) rfl rfl Try.func23 (by kernel_rfl) rfl #[.slice A0 l0.length c0] rfl gm ?_;(with_reducible refine (laws_big.calls _ _ l0 false _ ?side1 ?side2 A2.out).mono ?_);(case side1=>repeat (first|exact HR0.out|(with_reducible refine Kd.C_alloc ?_ _)|(with_reducible refine Kd.C_drewN ?_ _)|(with_reducible refine Kd.C_drew ?_)));(case side2=>exact HC0.out);rintro e w' ⟨rfl,⟨nd,rfl⟩⟩;refine ⟨_,rfl,?_⟩)|((with_reducible refine gate_callee (f:=24) rfl ?_);refine goesL_ (some 16) rfl rfl Try.func24 (by kernel_rfl) rfl #[.slice A0 l0.length c0] rfl gm ?_;(with_reducible refine (spec_DrawPruneGraph.calls k _ _ l0 t102 t103 _ ?side1 ?side2 A4.out).mono ?_);(case side1=>repeat (first|exact HR0.out|(with_reducible refine Kd.C_alloc ?_ _)|(with_reducible refine Kd.C_drewN ?_ _)|(with_reducible refine Kd.C_drew ?_)));(case side2=>exact HC0.out);rintro e w8 ⟨v104,rfl,ho0,hb⟩;refine ⟨_,rfl,?_⟩;have n0_:=Aside0.mk (Kd.V_lower (Kd.V_mono (ok':=fun k_=>True) ho0 (fun k_ hk_=>trivial)) (below_size bl));have n1_:=Aside0.mk (below_step bl hb);clear HB;have HO105:=n0_;have HB:=n1_;clear n0_ n1_;(try clear hb);(try clear hb2);(try clear hk);(try clear hi);(try clear ho0))|((with_reducible refine gate_dst (N:=3) rfl ?_);refine box_event ?hg (N:=3) ?hd (cs:=#[.int .i64 0,.slice none 0 0]) (t:=28) ?hr ?_;(case hd=>rfl);(case hg=>rfl);(case hr=>first|(go_simp;done)|(go_simp;rfl));intro gb106 hg w9 hbox hb;have n0_:=Aside0.mk (Kd.V_below (Kd.V_elderB (by (with_reducible repeat (first|apply Kd.V_alloc|apply Kd.V_drewN|apply Kd.V_drew));exact HO105.out) gb106 (Nat.le_of_eq hg.symm)) hb);have n1_:=Aside0.mk (below_step bl hb);have n2_:=Aside0.mk (hbox);have n3_:=Aside0.mk ((by rw [hg];exact (below_size bl):w.heap.size≤gb106));have n4_:=Aside0.mk ((by rw [hg];exact (below_size bl):w.heap.size≤gb106));clear HO105;clear HB;have HO105:=n0_;have HB:=n1_;have BK106:=n2_;have GW106:=n3_;have GE106:=n4_;clear n0_ n1_ n2_ n3_ n4_;clear hb hbox hg;have hcz10_0:w9.cell? ⟨gb106,0,none⟩=some (.int .i64 0):=(blk_cell BK106.out 0).trans rfl;have hcz10_1:w9.cell? ⟨gb106,1,none⟩=some (.slice none 0 0):=(blk_cell BK106.out 1).trans rfl;have hfz10_0:=blk_frozen BK106.out 0;have hfz10_1:=blk_frozen BK106.out 1;obtain ⟨Ao11,co11,eo11⟩:=Kd.V_slice HO105.out;subst eo11)|((with_reducible refine gate_callee (f:=25) rfl ?_);refine goesL_ (some 19) rfl rfl Try.func25 (by kernel_rfl) rfl #[.agg #[.int .i64 t102,.slice Ao11 t103.length co11]] rfl gm ?_;(with_reducible refine (impl_PruneGraph.calls k t102 _ _ t103 t107 t108 t111 _ ?side1 ?side2 A5.out).mono ?_);(case side1=>first|(refine (Kd.V_reads' (e:=32) (base:=w.heap.size) (ok:=fun k_=>(True∧k_ ≠ gb106)) (n:=t103.length) (c:=co11) ?_).2.2;exact (by (with_reducible repeat (first|apply Kd.V_alloc|apply Kd.V_drewN|apply Kd.V_drew));exact (Kd.V_mono (Kd.V_far (p:=⟨gb106,1,none⟩) (Kd.V_far (p:=⟨gb106,0,none⟩) (Kd.V_mono HO105.out (fun k_ hk=>(⟨hk,hk.2⟩:_∧k_ ≠ gb106))) (fun _ hk=>hk.2) (.int .i64 t102)) (fun _ hk=>hk.2) (.slice Ao11 t103.length co11)) (fun _ h_=>h_.1))))|(refine (Kd.V_reads' (e:=32) (base:=w.heap.size) (ok:=fun k_=>k_ ≠ gb106) (n:=t103.length) (c:=co11) ?_).2.2;exact (by (with_reducible repeat (first|apply Kd.V_alloc|apply Kd.V_drewN|apply Kd.V_drew));exact (Kd.V_mono (Kd.V_far (p:=⟨gb106,1,none⟩) (Kd.V_far (p:=⟨gb106,0,none⟩) (Kd.V_mono HO105.out (fun k_ hk=>(⟨hk,hk.2⟩:_∧k_ ≠ gb106))) (fun _ hk=>hk.2) (.int .i64 t102)) (fun _ hk=>hk.2) (.slice Ao11 t103.length co11)) (fun _ h_=>h_.1)))));(case side2=>exact (Kd.V_reads' HO105.out).2.1);rintro e w12 ⟨v109,rfl,ho0,hb⟩;refine ⟨_,rfl,?_⟩;have n0_:=Aside0.mk (Kd.V_elder' (by (with_reducible repeat (first|apply Kd.V_alloc|apply Kd.V_drewN|apply Kd.V_drew));exact (Kd.V_mono (Kd.V_far (p:=⟨gb106,1,none⟩) (Kd.V_far (p:=⟨gb106,0,none⟩) (Kd.V_mono HO105.out (fun k_ hk=>(⟨hk,hk.2⟩:_∧k_ ≠ gb106))) (fun _ hk=>hk.2) (.int .i64 t102)) (fun _ hk=>hk.2) (.slice Ao11 t103.length co11)) (fun _ h_=>h_.1))) (Kd.S_base ho0) hb);have n1_:=Aside0.mk (Kd.S_lower ho0 (below_size bl));have n2_:=Aside0.mk (blk_below (g:=gb106) (o:=.cells #[.int .i64 t102,.slice Ao11 t103.length co11] 28 (0,0)) (by (with_reducible repeat (first|refine blk_drewN ?_ _|refine blk_drew ?_|refine blk_alloc ?_ _));refine blk_put (cs:=#[.int .i64 t102,.slice none 0 0]) ?_ 1 _ rfl;(with_reducible repeat (first|refine blk_drewN ?_ _|refine blk_drew ?_|refine blk_alloc ?_ _));refine blk_put (cs:=#[.int .i64 0,.slice none 0 0]) ?_ 0 _ rfl;(with_reducible repeat (first|refine blk_drewN ?_ _|refine blk_drew ?_|refine blk_alloc ?_ _));exact BK106.out) hb);have n3_:=Aside0.mk (below_step bl hb);clear HO105;clear BK106;clear HB;have HO105:=n0_;have HO110:=n1_;have BK106:=n2_;have HB:=n3_;clear n0_ n1_ n2_ n3_;(try clear hb);(try clear hb2);(try clear hk);(try clear hi);(try clear ho0))|((with_reducible refine gate_dst (N:=4) rfl ?_);refine box_event ?hg (N:=4) ?hd (cs:=#[.int .i64 0,.slice none 0 0]) (t:=28) ?hr ?_;(case hd=>rfl);(case hg=>rfl);(case hr=>first|(go_simp;done)|(go_simp;rfl));intro gb112 hg w13 hbox hb;have n0_:=Aside0.mk (Kd.V_below (Kd.V_elderB (by (with_reducible repeat (first|apply Kd.V_alloc|apply Kd.V_drewN|apply Kd.V_drew));exact HO105.out) gb112 (Nat.le_of_eq hg.symm)) hb);have n1_:=Aside0.mk (Kd.S_below (by (with_reducible repeat (first|apply Kd.S_alloc|apply Kd.S_drewN|apply Kd.S_drew));exact HO110.out) hb);have n2_:=Aside0.mk (blk_below (g:=gb106) (o:=.cells #[.int .i64 t102,.slice Ao11 t103.length co11] 28 (0,0)) bk hb);have n3_:=Aside0.mk (below_step bl hb);have n4_:=Aside0.mk (hbox);have n5_:=Aside0.mk ((by rw [hg];exact (below_size bl):w.heap.size≤gb112));have n6_:=Aside0.mk ((by rw [hg];exact (below_size bl):w.heap.size≤gb112));have n7_:=Aside0.mk ((by rw [hg];exact Nat.ne_of_lt (blk_lt (g:=gb106) (o:=.cells #[.int .i64 t102,.slice Ao11 t103.length co11] 28 (0,0)) bk):gb106 ≠ gb112));have n8_:=Aside0.mk ((by rw [hg];exact Nat.ne_of_gt (blk_lt (g:=gb106) (o:=.cells #[.int .i64 t102,.slice Ao11 t103.length co11] 28 (0,0)) bk):gb112 ≠ gb106));clear HO105;clear HO110;clear BK106;clear HB;have HO105:=n0_;have HO110:=n1_;have BK106:=n2_;have HB:=n3_;have BK112:=n4_;have GW112:=n5_;have GE112:=n6_;have NB106_112:=n7_;have NB112_106:=n8_;clear n0_ n1_ n2_ n3_ n4_ n5_ n6_ n7_ n8_;clear hb hbox hg;have hnb14:=NB112_106.out;have hnc14:=NB106_112.out;have hcz15_0:w13.cell? ⟨gb112,0,none⟩=some (.int .i64 0):=(blk_cell BK112.out 0).trans rfl;have hcz15_1:w13.cell? ⟨gb112,1,none⟩=some (.slice none 0 0):=(blk_cell BK112.out 1).trans rfl;have hfz15_0:=blk_frozen BK112.out 0;have hfz15_1:=blk_frozen BK112.out 1;obtain ⟨Ao16,co16,eo16⟩:=Kd.S_slice HO110.out;subst eo16;have hcz17_0:w13.cell? ⟨gb106,0,none⟩=some (.int .i64 t102):=(blk_cell BK106.out 0).trans rfl;have hcz17_1:w13.cell? ⟨gb106,1,none⟩=some (.slice Ao11 t103.length co11):=(blk_cell BK106.out 1).trans rfl;have hfz17_0:=blk_frozen BK106.out 0;have hfz17_1:=blk_frozen BK106.out 1)|((with_reducible refine gate_callee (f:=26) rfl ?_);refine goesL_ (some 24) rfl rfl Try.func26 (by kernel_rfl) rfl #[.agg #[.int .i64 t102,.slice Ao11 t103.length co11]] rfl gm ?_;(with_reducible refine (spec_PruneGraph.calls k t102 _ _ t103 t113 t114 t117 _ ?side1 ?side2 A6.out).mono ?_);(case side1=>first|(refine (Kd.V_reads' (e:=32) (base:=w.heap.size) (ok:=fun k_=>(((True∧k_ ≠ gb106)∧some k_ ≠ (.slice Ao16 t108.length co16:Value).ownBlock)∧k_ ≠ gb112)) (n:=t103.length) (c:=co11) ?_).2.2;exact (by (with_reducible repeat (first|apply Kd.V_alloc|apply Kd.V_drewN|apply Kd.V_drew));exact (Kd.V_mono (Kd.V_far (p:=⟨gb112,1,none⟩) (Kd.V_far (p:=⟨gb112,0,none⟩) (Kd.V_mono HO105.out (fun k_ hk=>(⟨hk,hk.2⟩:_∧k_ ≠ gb112))) (fun _ hk=>hk.2) (.int .i64 t107)) (fun _ hk=>hk.2) (.slice Ao16 t108.length co16)) (fun _ h_=>h_.1))))|(refine (Kd.V_reads' (e:=32) (base:=w.heap.size) (ok:=fun k_=>((k_ ≠ gb106∧some k_ ≠ (.slice Ao16 t108.length co16:Value).ownBlock)∧k_ ≠ gb112)) (n:=t103.length) (c:=co11) ?_).2.2;exact (by (with_reducible repeat (first|apply Kd.V_alloc|apply Kd.V_drewN|apply Kd.V_drew));exact (Kd.V_mono (Kd.V_far (p:=⟨gb112,1,none⟩) (Kd.V_far (p:=⟨gb112,0,none⟩) (Kd.V_mono HO105.out (fun k_ hk=>(⟨hk,hk.2⟩:_∧k_ ≠ gb112))) (fun _ hk=>hk.2) (.int .i64 t107)) (fun _ hk=>hk.2) (.slice Ao16 t108.length co16)) (fun _ h_=>h_.1)))));(case side2=>exact (Kd.V_reads' HO105.out).2.1);rintro e w18 ⟨v115,rfl,ho0,hb⟩;refine ⟨_,rfl,?_⟩;have n0_:=Aside0.mk (Kd.V_elder' (by (with_reducible repeat (first|apply Kd.V_alloc|apply Kd.V_drewN|apply Kd.V_drew));exact (Kd.V_mono (Kd.V_far (p:=⟨gb112,1,none⟩) (Kd.V_far (p:=⟨gb112,0,none⟩) (Kd.V_mono HO105.out (fun k_ hk=>(⟨hk,hk.2⟩:_∧k_ ≠ gb112))) (fun _ hk=>hk.2) (.int .i64 t107)) (fun _ hk=>hk.2) (.slice Ao16 t108.length co16)) (fun _ h_=>h_.1))) (Kd.S_base ho0) hb);have n1_:=Aside0.mk (Kd.S_elder' (by (with_reducible repeat (first|apply Kd.S_alloc|apply Kd.S_drewN|apply Kd.S_drew));exact (Kd.S_mono (Kd.S_far (p:=⟨gb112,1,none⟩) (Kd.S_far (p:=⟨gb112,0,none⟩) (Kd.S_types HO110.out BK112.out (by decide)) (fun _ hk=>hk.2) (.int .i64 t107)) (fun _ hk=>hk.2) (.slice Ao16 t108.length co16)) (fun _ h_=>h_.1))) (Kd.S_base ho0) hb);have n2_:=Aside0.mk (Kd.S_lower (Kd.S_new' ho0 (Kd.S_lt (by (with_reducible repeat (first|apply Kd.S_alloc|apply Kd.S_drewN|apply Kd.S_drew));exact (Kd.S_mono (Kd.S_far (p:=⟨gb112,1,none⟩) (Kd.S_far (p:=⟨gb112,0,none⟩) (Kd.S_types HO110.out BK112.out (by decide)) (fun _ hk=>hk.2) (.int .i64 t107)) (fun _ hk=>hk.2) (.slice Ao16 t108.length co16)) (fun _ h_=>h_.1))))) (below_size bl));have n3_:=Aside0.mk (blk_below (g:=gb106) (o:=.cells #[.int .i64 t102,.slice Ao11 t103.length co11] 28 (0,0)) (by (with_reducible repeat (first|refine blk_drewN ?_ _|refine blk_drew ?_|refine blk_alloc ?_ _));refine blk_far ?_ NB106_112.out _;(with_reducible repeat (first|refine blk_drewN ?_ _|refine blk_drew ?_|refine blk_alloc ?_ _));refine blk_far ?_ NB106_112.out _;(with_reducible repeat (first|refine blk_drewN ?_ _|refine blk_drew ?_|refine blk_alloc ?_ _));exact BK106.out) hb);have n4_:=Aside0.mk (blk_below (g:=gb112) (o:=.cells #[.int .i64 t107,.slice Ao16 t108.length co16] 28 (0,0)) (by (with_reducible repeat (first|refine blk_drewN ?_ _|refine blk_drew ?_|refine blk_alloc ?_ _));refine blk_put (cs:=#[.int .i64 t107,.slice none 0 0]) ?_ 1 _ rfl;(with_reducible repeat (first|refine blk_drewN ?_ _|refine blk_drew ?_|refine blk_alloc ?_ _));refine blk_put (cs:=#[.int .i64 0,.slice none 0 0]) ?_ 0 _ rfl;(with_reducible repeat (first|refine blk_drewN ?_ _|refine blk_drew ?_|refine blk_alloc ?_ _));exact BK112.out) hb);have n5_:=Aside0.mk (below_step bl hb);clear HO105;clear HO110;clear BK106;clear BK112;clear HB;have HO105:=n0_;have HO110:=n1_;have HO116:=n2_;have BK106:=n3_;have BK112:=n4_;have HB:=n5_;clear n0_ n1_ n2_ n3_ n4_ n5_;(try clear hb);(try clear hb2);(try clear hk);(try clear hi);(try clear ho0))|((with_reducible refine gate_dst (N:=6) rfl ?_);refine box_event ?hg (N:=6) ?hd (cs:=#[.int .i64 0,.slice none 0 0]) (t:=28) ?hr ?_;(case hd=>rfl);(case hg=>rfl);(case hr=>first|(go_simp;done)|(go_simp;rfl));intro gb118 hg w19 hbox hb;have n0_:=Aside0.mk (Kd.V_below (Kd.V_elderB (by (with_reducible repeat (first|apply Kd.V_alloc|apply Kd.V_drewN|apply Kd.V_drew));exact HO105.out) gb118 (Nat.le_of_eq hg.symm)) hb);have n1_:=Aside0.mk (Kd.S_below (by (with_reducible repeat (first|apply Kd.S_alloc|apply Kd.S_drewN|apply Kd.S_drew));exact HO110.out) hb);have n2_:=Aside0.mk (Kd.S_below (by (with_reducible repeat (first|apply Kd.S_alloc|apply Kd.S_drewN|apply Kd.S_drew));exact HO116.out) hb);have n3_:=Aside0.mk (blk_below (g:=gb106) (o:=.cells #[.int .i64 t102,.slice Ao11 t103.length co11] 28 (0,0)) bk hb);have n4_:=Aside0.mk (blk_below (g:=gb112) (o:=.cells #[.int .i64 t107,.slice Ao16 t108.length co16] 28 (0,0)) bk hb);have n5_:=Aside0.mk (below_step bl hb);have n6_:=Aside0.mk (hbox);have n7_:=Aside0.mk ((by rw [hg];exact (below_size bl):w.heap.size≤gb118));have n8_:=Aside0.mk ((by rw [hg];exact (below_size bl):w.heap.size≤gb118));have n9_:=Aside0.mk ((by rw [hg];exact Nat.ne_of_lt (blk_lt (g:=gb106) (o:=.cells #[.int .i64 t102,.slice Ao11 t103.length co11] 28 (0,0)) bk):gb106 ≠ gb118));have n10_:=Aside0.mk ((by rw [hg];exact Nat.ne_of_gt (blk_lt (g:=gb106) (o:=.cells #[.int .i64 t102,.slice Ao11 t103.length co11] 28 (0,0)) bk):gb118 ≠ gb106));have n11_:=Aside0.mk ((by rw [hg];exact Nat.ne_of_lt (blk_lt (g:=gb112) (o:=.cells #[.int .i64 t107,.slice Ao16 t108.length co16] 28 (0,0)) bk):gb112 ≠ gb118));have n12_:=Aside0.mk ((by rw [hg];exact Nat.ne_of_gt (blk_lt (g:=gb112) (o:=.cells #[.int .i64 t107,.slice Ao16 t108.length co16] 28 (0,0)) bk):gb118 ≠ gb112));clear HO105;clear HO110;clear HO116;clear BK106;clear BK112;clear HB;have HO105:=n0_;have HO110:=n1_;have HO116:=n2_;have BK106:=n3_;have BK112:=n4_;have HB:=n5_;have BK118:=n6_;have GW118:=n7_;have GE118:=n8_;have NB106_118:=n9_;have NB118_106:=n10_;have NB112_118:=n11_;have NB118_112:=n12_;clear n0_ n1_ n2_ n3_ n4_ n5_ n6_ n7_ n8_ n9_ n10_ n11_ n12_;clear hb hbox hg;have hnb20:=NB118_106.out;have hnc20:=NB106_118.out;have hnb21:=NB118_112.out;have hnc21:=NB112_118.out;have hcz22_0:w19.cell? ⟨gb118,0,none⟩=some (.int .i64 0):=(blk_cell BK118.out 0).trans rfl;have hcz22_1:w19.cell? ⟨gb118,1,none⟩=some (.slice none 0 0):=(blk_cell BK118.out 1).trans rfl;have hfz22_0:=blk_frozen BK118.out 0;have hfz22_1:=blk_frozen BK118.out 1;obtain ⟨Ao23,co23,eo23⟩:=Kd.S_slice HO116.out;subst eo23))
  (try simp only [Act.put,zI,zZ,zS])
  go_cut [35] (fun v35 wc=>∃ (kq:Nat) (x35_6:Bool),v35=.bool x35_6∧Aside0 (laws_FnPruning.j0 kq t111 x35_6 t102 t103 t107 t108=some r)∧Aside0 (kq≤k)∧Aside0 (Kd.V (Kd.slice 2 (Kd.int .i64)) 32 wc w.heap.size (fun k_=>some k_ ≠ ((.slice Ao16 t108.length co16):Value).ownBlock∧some k_ ≠ ((.slice Ao23 t114.length co23):Value).ownBlock∧k_ ≠ gb106∧k_ ≠ gb112∧k_ ≠ gb118) (.slice Ao11 t103.length co11) t103)∧Aside0 (Kd.S (Kd.slice 2 (Kd.int .i64)) 32 wc w.heap.size (fun k_=>some k_ ≠ ((.slice Ao23 t114.length co23):Value).ownBlock) (.slice Ao16 t108.length co16) t108)∧Aside0 (Kd.S (Kd.slice 2 (Kd.int .i64)) 32 wc w.heap.size (fun k_=>some k_ ≠ ((.slice Ao16 t108.length co16):Value).ownBlock) (.slice Ao23 t114.length co23) t114)∧Aside0 (wc.heap[gb106]?=some (.cells #[.int .i64 t102,(.slice Ao11 t103.length co11)] 28 (0,0)))∧Aside0 (wc.heap[gb112]?=some (.cells #[.int .i64 t107,(.slice Ao16 t108.length co16)] 28 (0,0)))∧Aside0 (wc.heap[gb118]?=some (.cells #[.int .i64 t113,(.slice Ao23 t114.length co23)] 28 (0,0)))∧Aside0 (Below w.heap.size w wc))
  case first =>
   have H:=HC7.out
   clear HC7
   by_cases c24:t111=t117
   case neg =>
    rw [if_neg c24] at H
    have c24b0:(t111 == t117)=false:=beq_eq_false_iff_ne.mpr c24
    have c24b1:(t111 != t117)=true:=bne_iff_ne.mpr c24
    (first|rw [c24b0]|(simp only [i64_w,i32_w];rw [c24b0])|skip)
    have H':=Aside0.mk H
    clear H
    go_wp2
    go_meet
    case rel=>exact ⟨_,(true),rs,H',⟨by first|omega|exact Nat.le_refl _⟩,⟨by (with_reducible repeat (first|apply Kd.V_alloc|apply Kd.V_drewN|apply Kd.V_drew));exact Kd.V_mono (Kd.V_far (p:=⟨gb118,1,none⟩) (Kd.V_far (p:=⟨gb118,0,none⟩) (Kd.V_mono HO105.out (fun k_ hk=>(⟨hk,hk.2⟩:_∧k_ ≠ gb118))) (fun _ hk=>hk.2) (.int .i64 t113)) (fun _ hk=>hk.2) (.slice Ao23 t114.length co23)) (fun _ hk=>⟨hk.1.1.1.1.2,⟨hk.1.1.2,⟨hk.1.1.1.1.1.2,⟨hk.1.1.1.2,hk.1.2⟩⟩⟩⟩)⟩,⟨by (with_reducible repeat (first|apply Kd.S_alloc|apply Kd.S_drewN|apply Kd.S_drew));exact Kd.S_mono (Kd.S_far (p:=⟨gb118,1,none⟩) (Kd.S_far (p:=⟨gb118,0,none⟩) (Kd.S_types HO110.out BK118.out (by decide)) (fun _ hk=>hk.2) (.int .i64 t113)) (fun _ hk=>hk.2) (.slice Ao23 t114.length co23)) (fun _ hk=>hk.1.2)⟩,⟨by (with_reducible repeat (first|apply Kd.S_alloc|apply Kd.S_drewN|apply Kd.S_drew));exact Kd.S_mono (Kd.S_far (p:=⟨gb118,1,none⟩) (Kd.S_far (p:=⟨gb118,0,none⟩) (Kd.S_types HO116.out BK118.out (by decide)) (fun _ hk=>hk.2) (.int .i64 t113)) (fun _ hk=>hk.2) (.slice Ao23 t114.length co23)) (fun _ hk=>hk.1.2)⟩,⟨by (with_reducible repeat (first|refine blk_drewN ?_ _|refine blk_drew ?_|refine blk_alloc ?_ _));refine blk_far ?_ NB106_118.out _;(with_reducible repeat (first|refine blk_drewN ?_ _|refine blk_drew ?_|refine blk_alloc ?_ _));refine blk_far ?_ NB106_118.out _;(with_reducible repeat (first|refine blk_drewN ?_ _|refine blk_drew ?_|refine blk_alloc ?_ _));exact BK106.out⟩,⟨by (with_reducible repeat (first|refine blk_drewN ?_ _|refine blk_drew ?_|refine blk_alloc ?_ _));refine blk_far ?_ NB112_118.out _;(with_reducible repeat (first|refine blk_drewN ?_ _|refine blk_drew ?_|refine blk_alloc ?_ _));refine blk_far ?_ NB112_118.out _;(with_reducible repeat (first|refine blk_drewN ?_ _|refine blk_drew ?_|refine blk_alloc ?_ _));exact BK112.out⟩,⟨by (with_reducible repeat (first|refine blk_drewN ?_ _|refine blk_drew ?_|refine blk_alloc ?_ _));refine blk_put (cs:=#[.int .i64 t113,.slice none 0 0]) ?_ 1 _ rfl;(with_reducible repeat (first|refine blk_drewN ?_ _|refine blk_drew ?_|refine blk_alloc ?_ _));refine blk_put (cs:=#[.int .i64 0,.slice none 0 0]) ?_ 0 _ rfl;(with_reducible repeat (first|refine blk_drewN ?_ _|refine blk_drew ?_|refine blk_alloc ?_ _));exact BK118.out⟩,⟨bl⟩⟩
   rw [if_pos c24] at H
   have c24b0:(t111 == t117)=true:=beq_iff_eq.mpr c24
   have c24b1:(t111 != t117)=false:=bne_eq_false_iff_eq.mpr c24
   clear c24
   (first|rw [c24b0]|(simp only [i64_w,i32_w];rw [c24b0])|skip)
   replace H:=Option.bind_eq_some_iff.mp H
   obtain ⟨t119,A250,H⟩:=H
   replace H:(laws_FnPruning.j0 k t111 (!t119) t102 t103 t107 t108)=some r:=H
   have A25:=Aside0.mk A250
   clear A250
   have H':=Aside0.mk H
   clear H
   have hnb26:=NB112_106.out
   have hnc26:=NB106_112.out
   have hnb27:=NB112_118.out
   have hnc27:=NB118_112.out
   have hcz28_0:w19.cell? ⟨gb112,0,none⟩=some (.int .i64 t107):=(blk_cell BK112.out 0).trans rfl
   have hcz28_1:w19.cell? ⟨gb112,1,none⟩=some (.slice Ao16 t108.length co16):=(blk_cell BK112.out 1).trans rfl
   have hfz28_0:=blk_frozen BK112.out 0
   have hfz28_1:=blk_frozen BK112.out 1
   have hnb29:=NB118_106.out
   have hnc29:=NB106_118.out
   have hcz30_0:w19.cell? ⟨gb118,0,none⟩=some (.int .i64 0):=(blk_cell BK118.out 0).trans rfl
   have hcz30_1:w19.cell? ⟨gb118,1,none⟩=some (.slice none 0 0):=(blk_cell BK118.out 1).trans rfl
   have hfz30_0:=blk_frozen BK118.out 0
   have hfz30_1:=blk_frozen BK118.out 1
   go_wp2_with (first|(go_at_call 27;(with_reducible refine (laws_graph9.calls k t107 _ _ t108 t113 _ _ t114 t119 _ ?side1 ?side2 ?side3 ?side4 A25.out).mono ?_);(case side1=>first|(refine (Kd.S_reads' (e:=32) (base:=w.heap.size) (ok:=fun k_=>(True∧some k_ ≠ (.slice Ao23 t114.length co23:Value).ownBlock)) (n:=t108.length) (c:=co16) ?_).2.2;exact (by (with_reducible repeat (first|apply Kd.S_alloc|apply Kd.S_drewN|apply Kd.S_drew));exact (Kd.S_mono (Kd.S_far (p:=⟨gb118,1,none⟩) (Kd.S_far (p:=⟨gb118,0,none⟩) (Kd.S_types HO110.out BK118.out (by decide)) (fun _ hk=>hk.2) (.int .i64 t113)) (fun _ hk=>hk.2) (.slice Ao23 t114.length co23)) (fun _ h_=>h_.1))))|(refine (Kd.S_reads' (e:=32) (base:=w.heap.size) (ok:=fun k_=>some k_ ≠ (.slice Ao23 t114.length co23:Value).ownBlock) (n:=t108.length) (c:=co16) ?_).2.2;exact (by (with_reducible repeat (first|apply Kd.S_alloc|apply Kd.S_drewN|apply Kd.S_drew));exact (Kd.S_mono (Kd.S_far (p:=⟨gb118,1,none⟩) (Kd.S_far (p:=⟨gb118,0,none⟩) (Kd.S_types HO110.out BK118.out (by decide)) (fun _ hk=>hk.2) (.int .i64 t113)) (fun _ hk=>hk.2) (.slice Ao23 t114.length co23)) (fun _ h_=>h_.1)))));(case side2=>exact (Kd.S_reads' HO110.out).2.1);(case side3=>first|(refine (Kd.S_reads' (e:=32) (base:=w.heap.size) (ok:=fun k_=>(True∧some k_ ≠ (.slice Ao16 t108.length co16:Value).ownBlock)) (n:=t114.length) (c:=co23) ?_).2.2;exact (by (with_reducible repeat (first|apply Kd.S_alloc|apply Kd.S_drewN|apply Kd.S_drew));exact (Kd.S_mono (Kd.S_far (p:=⟨gb118,1,none⟩) (Kd.S_far (p:=⟨gb118,0,none⟩) (Kd.S_types HO116.out BK118.out (by decide)) (fun _ hk=>hk.2) (.int .i64 t113)) (fun _ hk=>hk.2) (.slice Ao23 t114.length co23)) (fun _ h_=>h_.1))))|(refine (Kd.S_reads' (e:=32) (base:=w.heap.size) (ok:=fun k_=>some k_ ≠ (.slice Ao16 t108.length co16:Value).ownBlock) (n:=t114.length) (c:=co23) ?_).2.2;exact (by (with_reducible repeat (first|apply Kd.S_alloc|apply Kd.S_drewN|apply Kd.S_drew));exact (Kd.S_mono (Kd.S_far (p:=⟨gb118,1,none⟩) (Kd.S_far (p:=⟨gb118,0,none⟩) (Kd.S_types HO116.out BK118.out (by decide)) (fun _ hk=>hk.2) (.int .i64 t113)) (fun _ hk=>hk.2) (.slice Ao23 t114.length co23)) (fun _ h_=>h_.1)))));(case side4=>exact (Kd.S_reads' HO116.out).2.1);rintro e w31 ⟨rfl,hb⟩;have n0_:=Aside0.mk (Kd.V_below (by (with_reducible repeat (first|apply Kd.V_alloc|apply Kd.V_drewN|apply Kd.V_drew));exact (Kd.V_mono (Kd.V_far (p:=⟨gb118,1,none⟩) (Kd.V_far (p:=⟨gb118,0,none⟩) (Kd.V_mono HO105.out (fun k_ hk=>(⟨hk,hk.2⟩:_∧k_ ≠ gb118))) (fun _ hk=>hk.2) (.int .i64 t113)) (fun _ hk=>hk.2) (.slice Ao23 t114.length co23)) (fun _ h_=>h_.1))) hb);have n1_:=Aside0.mk (Kd.S_below (by (with_reducible repeat (first|apply Kd.S_alloc|apply Kd.S_drewN|apply Kd.S_drew));exact (Kd.S_mono (Kd.S_far (p:=⟨gb118,1,none⟩) (Kd.S_far (p:=⟨gb118,0,none⟩) (Kd.S_types HO110.out BK118.out (by decide)) (fun _ hk=>hk.2) (.int .i64 t113)) (fun _ hk=>hk.2) (.slice Ao23 t114.length co23)) (fun _ h_=>h_.1))) hb);have n2_:=Aside0.mk (Kd.S_below (by (with_reducible repeat (first|apply Kd.S_alloc|apply Kd.S_drewN|apply Kd.S_drew));exact (Kd.S_mono (Kd.S_far (p:=⟨gb118,1,none⟩) (Kd.S_far (p:=⟨gb118,0,none⟩) (Kd.S_types HO116.out BK118.out (by decide)) (fun _ hk=>hk.2) (.int .i64 t113)) (fun _ hk=>hk.2) (.slice Ao23 t114.length co23)) (fun _ h_=>h_.1))) hb);have n3_:=Aside0.mk (blk_below (g:=gb106) (o:=.cells #[.int .i64 t102,.slice Ao11 t103.length co11] 28 (0,0)) (by (with_reducible repeat (first|refine blk_drewN ?_ _|refine blk_drew ?_|refine blk_alloc ?_ _));refine blk_far ?_ NB106_118.out _;(with_reducible repeat (first|refine blk_drewN ?_ _|refine blk_drew ?_|refine blk_alloc ?_ _));refine blk_far ?_ NB106_118.out _;(with_reducible repeat (first|refine blk_drewN ?_ _|refine blk_drew ?_|refine blk_alloc ?_ _));exact BK106.out) hb);have n4_:=Aside0.mk (blk_below (g:=gb112) (o:=.cells #[.int .i64 t107,.slice Ao16 t108.length co16] 28 (0,0)) (by (with_reducible repeat (first|refine blk_drewN ?_ _|refine blk_drew ?_|refine blk_alloc ?_ _));refine blk_far ?_ NB112_118.out _;(with_reducible repeat (first|refine blk_drewN ?_ _|refine blk_drew ?_|refine blk_alloc ?_ _));refine blk_far ?_ NB112_118.out _;(with_reducible repeat (first|refine blk_drewN ?_ _|refine blk_drew ?_|refine blk_alloc ?_ _));exact BK112.out) hb);have n5_:=Aside0.mk (blk_below (g:=gb118) (o:=.cells #[.int .i64 t113,.slice Ao23 t114.length co23] 28 (0,0)) (by (with_reducible repeat (first|refine blk_drewN ?_ _|refine blk_drew ?_|refine blk_alloc ?_ _));refine blk_put (cs:=#[.int .i64 t113,.slice none 0 0]) ?_ 1 _ rfl;(with_reducible repeat (first|refine blk_drewN ?_ _|refine blk_drew ?_|refine blk_alloc ?_ _));refine blk_put (cs:=#[.int .i64 0,.slice none 0 0]) ?_ 0 _ rfl;(with_reducible repeat (first|refine blk_drewN ?_ _|refine blk_drew ?_|refine blk_alloc ?_ _));exact BK118.out) hb);have n6_:=Aside0.mk (below_step bl hb);clear HO105;clear HO110;clear HO116;clear BK106;clear BK112;clear BK118;clear HB;have HO105:=n0_;have HO110:=n1_;have HO116:=n2_;have BK106:=n3_;have BK112:=n4_;have BK118:=n5_;have HB:=n6_;clear n0_ n1_ n2_ n3_ n4_ n5_ n6_;(try clear hb);(try clear hb2);(try clear hk);(try clear hi)))
   go_meet
   case rel=>exact ⟨_,(!t119),rs,H',⟨by first|omega|exact Nat.le_refl _⟩,⟨by (with_reducible repeat (first|apply Kd.V_alloc|apply Kd.V_drewN|apply Kd.V_drew));exact Kd.V_mono HO105.out (fun _ hk=>⟨hk.1.1.1.2,⟨hk.1.2,⟨hk.1.1.1.1.2,⟨hk.1.1.2,hk.2⟩⟩⟩⟩)⟩,⟨by (with_reducible repeat (first|apply Kd.S_alloc|apply Kd.S_drewN|apply Kd.S_drew));exact Kd.S_mono HO110.out (fun _ hk=>hk.2)⟩,⟨by (with_reducible repeat (first|apply Kd.S_alloc|apply Kd.S_drewN|apply Kd.S_drew));exact Kd.S_mono HO116.out (fun _ hk=>hk.2)⟩,⟨bk⟩,⟨bk⟩,⟨bk⟩,⟨bl⟩⟩
  case rest =>
   clear HC7
   (try clear c1);(try clear c2);(try clear p2);(try clear c3);(try clear c6);(try clear c14);(try clear c20);(try clear c21);(try clear c23);(try clear c24);(try clear c24b0);(try clear c24b1);(try clear c25);(try clear c26);(try clear c27);(try clear c29);(try clear hcz10_0);(try clear hcz10_1);(try clear hcz15_0);(try clear hcz15_1);(try clear hcz17_0);(try clear hcz17_1);(try clear hcz22_0);(try clear hcz22_1);(try clear hcz28_0);(try clear hcz28_1);(try clear hcz30_0);(try clear hcz30_1);(try clear hfz10_0);(try clear hfz10_1);(try clear hfz15_0);(try clear hfz15_1);(try clear hfz17_0);(try clear hfz17_1);(try clear hfz22_0);(try clear hfz22_1);(try clear hfz28_0);(try clear hfz28_1);(try clear hfz30_0);(try clear hfz30_1)
   obtain ⟨kq,x35_6,rfl,HA,HJ6,HO_107001,HO_113001,HO_119001,BK106,BK112,BK118,HB⟩:=hcut
   cases kq with
   | zero=>exact absurd HA.out (by simp [laws_FnPruning.j0])
   | succ kj6 =>
    have H:=HA.out
    clear HA
    simp only [laws_FnPruning.j0] at H
    by_cases c32:x35_6=true
    case neg =>
     replace c32:=Bool.eq_false_iff.mpr c32
     subst c32
     have H1:(if t111=0 then ((impl_DegreesOf.f kj6 t107 t108).bind fun bt120=>(if bt120.2=0 then ((impl_IsGraph.f kj6 t107 t108).bind fun t124=>(if t124=true then (laws_FnPruning.j1 kj6 bt120.1 (decide (t107 > t102)) t102 t103 t107 t108) else (laws_FnPruning.j1 kj6 bt120.1 true t102 t103 t107 t108))) else (laws_FnPruning.j1 kj6 bt120.1 true t102 t103 t107 t108))) else (some ((t108.length:Int) == 0)))=some r:=by rw [if_neg (show ¬ (false=true) by decide)] at H;exact H
     clear H
     have H:=H1
     clear H1
     by_cases c33:t111=0
     case neg =>
      rw [if_neg c33] at H
      have c33b0:(t111 == 0)=false:=beq_eq_false_iff_ne.mpr c33
      have c33b1:(t111 != 0)=true:=bne_iff_ne.mpr c33
      obtain rfl:=Option.some.inj H
      have hnb76:=NB112_106.out
      have hnc76:=NB106_112.out
      have hnb77:=NB112_118.out
      have hnc77:=NB118_112.out
      have hcz78_0:wc.cell? ⟨gb112,0,none⟩=some (.int .i64 t107):=(blk_cell BK112.out 0).trans rfl
      have hcz78_1:wc.cell? ⟨gb112,1,none⟩=some (.slice Ao16 t108.length co16):=(blk_cell BK112.out 1).trans rfl
      have hfz78_0:=blk_frozen BK112.out 0
      have hfz78_1:=blk_frozen BK112.out 1
      go_wp2
      go_ret
      exact ⟨by first|rfl|(simp [errW_none,errW_some]<;>rfl)|(simp [*,errW_none,errW_some]<;>rfl),bl⟩
     rw [if_pos c33] at H
     have c33b0:(t111 == 0)=true:=beq_iff_eq.mpr c33
     have c33b1:(t111 != 0)=false:=bne_eq_false_iff_eq.mpr c33
     clear c33
     replace H:=Option.bind_eq_some_iff.mp H
     obtain ⟨⟨t120,t123⟩,A340,H⟩:=H
     replace H:(if t123=0 then ((impl_IsGraph.f kj6 t107 t108).bind fun t124=>(if t124=true then (laws_FnPruning.j1 kj6 t120 (decide (t107 > t102)) t102 t103 t107 t108) else (laws_FnPruning.j1 kj6 t120 true t102 t103 t107 t108))) else (laws_FnPruning.j1 kj6 t120 true t102 t103 t107 t108))=some r:=H
     have A34:=Aside0.mk A340
     clear A340
     have HC35:=Aside0.mk H
     clear H
     have hnb36:=NB112_106.out
     have hnc36:=NB106_112.out
     have hnb37:=NB112_118.out
     have hnc37:=NB118_112.out
     have hcz38_0:wc.cell? ⟨gb112,0,none⟩=some (.int .i64 t107):=(blk_cell BK112.out 0).trans rfl
     have hcz38_1:wc.cell? ⟨gb112,1,none⟩=some (.slice Ao16 t108.length co16):=(blk_cell BK112.out 1).trans rfl
     have hfz38_0:=blk_frozen BK112.out 0
     have hfz38_1:=blk_frozen BK112.out 1
     go_upto_region 11 with (first|((with_reducible refine gate_callee (f:=28) rfl ?_);refine goesL_ (some 44) rfl rfl Try.func28 (by kernel_rfl) rfl #[.agg #[.int .i64 t107,.slice Ao16 t108.length co16]] rfl gm ?_;(with_reducible refine (impl_DegreesOf.calls kj6 t107 _ _ t108 t120 t123 _ ?side1 ?side2 A34.out).mono ?_);(case side1=>repeat (first|exact (Kd.S_reads' HO_113001.out).2.2|(with_reducible refine Kd.C_alloc ?_ _)|(with_reducible refine Kd.C_drewN ?_ _)|(with_reducible refine Kd.C_drew ?_)));(case side2=>exact (Kd.S_reads' HO_113001.out).2.1);rintro e w39 ⟨v121,rfl,ho0,hb⟩;refine ⟨_,rfl,?_⟩;have n0_:=Aside0.mk (Kd.V_elder' (by (with_reducible repeat (first|apply Kd.V_alloc|apply Kd.V_drewN|apply Kd.V_drew));exact HO_107001.out) (Kd.R_base ho0) hb);have n1_:=Aside0.mk (Kd.S_elder' (by (with_reducible repeat (first|apply Kd.S_alloc|apply Kd.S_drewN|apply Kd.S_drew));exact HO_113001.out) (Kd.R_base ho0) hb);have n2_:=Aside0.mk (Kd.S_elder' (by (with_reducible repeat (first|apply Kd.S_alloc|apply Kd.S_drewN|apply Kd.S_drew));exact HO_119001.out) (Kd.R_base ho0) hb);have n3_:=Aside0.mk (Kd.R_lower ho0 (below_size bl));have n4_:=Aside0.mk (blk_below (g:=gb106) (o:=.cells #[.int .i64 t102,.slice Ao11 t103.length co11] 28 (0,0)) bk hb);have n5_:=Aside0.mk (blk_below (g:=gb112) (o:=.cells #[.int .i64 t107,.slice Ao16 t108.length co16] 28 (0,0)) bk hb);have n6_:=Aside0.mk (blk_below (g:=gb118) (o:=.cells #[.int .i64 t113,.slice Ao23 t114.length co23] 28 (0,0)) bk hb);have n7_:=Aside0.mk (below_step bl hb);clear HO_107001;clear HO_113001;clear HO_119001;clear BK106;clear BK112;clear BK118;clear HB;have HO_107001:=n0_;have HO_113001:=n1_;have HO_119001:=n2_;have HO122:=n3_;have BK106:=n4_;have BK112:=n5_;have BK118:=n6_;have HB:=n7_;clear n0_ n1_ n2_ n3_ n4_ n5_ n6_ n7_;(try clear hb);(try clear hb2);(try clear hk);(try clear hi);(try clear ho0)))
     (try simp only [Act.put,zI,zZ,zS])
     go_cut [60] (fun v60 wc=>∃ (kq:Nat) (x60_34:Bool),v60=.bool x60_34∧Aside0 (laws_FnPruning.j1 kq t120 x60_34 t102 t103 t107 t108=some r)∧Aside0 (kq≤kj6)∧Aside0 (Kd.R (Kd.int .i64) 2 wc w.heap.size (fun _=>True) v121 t120)∧Aside0 (Kd.V (Kd.slice 2 (Kd.int .i64)) 32 wc w.heap.size (fun k_=>some k_ ≠ (v121:Value).ownBlock∧some k_ ≠ ((.slice Ao16 t108.length co16):Value).ownBlock∧some k_ ≠ ((.slice Ao23 t114.length co23):Value).ownBlock∧k_ ≠ gb106∧k_ ≠ gb112∧k_ ≠ gb118) (.slice Ao11 t103.length co11) t103)∧Aside0 (Kd.S (Kd.slice 2 (Kd.int .i64)) 32 wc w.heap.size (fun k_=>some k_ ≠ (v121:Value).ownBlock∧some k_ ≠ ((.slice Ao23 t114.length co23):Value).ownBlock) (.slice Ao16 t108.length co16) t108)∧Aside0 (Kd.S (Kd.slice 2 (Kd.int .i64)) 32 wc w.heap.size (fun k_=>some k_ ≠ (v121:Value).ownBlock∧some k_ ≠ ((.slice Ao16 t108.length co16):Value).ownBlock) (.slice Ao23 t114.length co23) t114)∧Aside0 (wc.heap[gb106]?=some (.cells #[.int .i64 t102,(.slice Ao11 t103.length co11)] 28 (0,0)))∧Aside0 (wc.heap[gb112]?=some (.cells #[.int .i64 t107,(.slice Ao16 t108.length co16)] 28 (0,0)))∧Aside0 (wc.heap[gb118]?=some (.cells #[.int .i64 t113,(.slice Ao23 t114.length co23)] 28 (0,0)))∧Aside0 (Below w.heap.size w wc))
     case first =>
      have H:=HC35.out
      clear HC35
      by_cases c40:t123=0
      case neg =>
       rw [if_neg c40] at H
       have c40b0:(t123 == 0)=false:=beq_eq_false_iff_ne.mpr c40
       have c40b1:(t123 != 0)=true:=bne_iff_ne.mpr c40
       (first|rw [c40b0]|(simp only [i64_w,i32_w];rw [c40b0])|skip)
       have H':=Aside0.mk H
       clear H
       go_wp2
       go_meet
       case rel=>exact ⟨_,(true),rs,H',⟨by have:=HJ6.out;first|omega|exact Nat.le_refl _⟩,⟨by (with_reducible repeat (first|apply Kd.R_alloc|apply Kd.R_drewN|apply Kd.R_drew));exact HO122.out⟩,⟨by (with_reducible repeat (first|apply Kd.V_alloc|apply Kd.V_drewN|apply Kd.V_drew));exact Kd.V_mono HO_107001.out (fun _ hk=>⟨hk.2,⟨hk.1.1,⟨hk.1.2.1,⟨hk.1.2.2.1,⟨hk.1.2.2.2.1,hk.1.2.2.2.2⟩⟩⟩⟩⟩)⟩,⟨by (with_reducible repeat (first|apply Kd.S_alloc|apply Kd.S_drewN|apply Kd.S_drew));exact Kd.S_mono HO_113001.out (fun _ hk=>⟨hk.2,hk.1⟩)⟩,⟨by (with_reducible repeat (first|apply Kd.S_alloc|apply Kd.S_drewN|apply Kd.S_drew));exact Kd.S_mono HO_119001.out (fun _ hk=>⟨hk.2,hk.1⟩)⟩,⟨bk⟩,⟨bk⟩,⟨bk⟩,⟨bl⟩⟩
      rw [if_pos c40] at H
      have c40b0:(t123 == 0)=true:=beq_iff_eq.mpr c40
      have c40b1:(t123 != 0)=false:=bne_eq_false_iff_eq.mpr c40
      clear c40
      (first|rw [c40b0]|(simp only [i64_w,i32_w];rw [c40b0])|skip)
      replace H:=Option.bind_eq_some_iff.mp H
      obtain ⟨t124,A410,H⟩:=H
      replace H:(if t124=true then (laws_FnPruning.j1 kj6 t120 (decide (t107 > t102)) t102 t103 t107 t108) else (laws_FnPruning.j1 kj6 t120 true t102 t103 t107 t108))=some r:=H
      have A41:=Aside0.mk A410
      clear A410
      by_cases c42:t124=true
      case neg =>
       replace c42:=Bool.eq_false_iff.mpr c42
       subst c42
       have H1:(laws_FnPruning.j1 kj6 t120 true t102 t103 t107 t108)=some r:=by rw [if_neg (show ¬ (false=true) by decide)] at H;exact H
       clear H
       have H:=H1
       clear H1
       have H':=Aside0.mk H
       clear H
       have hnb50:=NB112_106.out
       have hnc50:=NB106_112.out
       have hnb51:=NB112_118.out
       have hnc51:=NB118_112.out
       have hcz52_0:w39.cell? ⟨gb112,0,none⟩=some (.int .i64 t107):=(blk_cell BK112.out 0).trans rfl
       have hcz52_1:w39.cell? ⟨gb112,1,none⟩=some (.slice Ao16 t108.length co16):=(blk_cell BK112.out 1).trans rfl
       have hfz52_0:=blk_frozen BK112.out 0
       have hfz52_1:=blk_frozen BK112.out 1
       go_wp2_with (first|(go_at_call 29;(with_reducible refine (impl_IsGraph.calls kj6 t107 _ _ t108 false _ ?side1 ?side2 A41.out).mono ?_);(case side1=>repeat (first|exact (Kd.S_reads' HO_113001.out).2.2|(with_reducible refine Kd.C_alloc ?_ _)|(with_reducible refine Kd.C_drewN ?_ _)|(with_reducible refine Kd.C_drew ?_)));(case side2=>exact (Kd.S_reads' HO_113001.out).2.1);rintro e w53 ⟨rfl,hb⟩;have n0_:=Aside0.mk (Kd.V_below (by (with_reducible repeat (first|apply Kd.V_alloc|apply Kd.V_drewN|apply Kd.V_drew));exact HO_107001.out) hb);have n1_:=Aside0.mk (Kd.S_below (by (with_reducible repeat (first|apply Kd.S_alloc|apply Kd.S_drewN|apply Kd.S_drew));exact HO_113001.out) hb);have n2_:=Aside0.mk (Kd.S_below (by (with_reducible repeat (first|apply Kd.S_alloc|apply Kd.S_drewN|apply Kd.S_drew));exact HO_119001.out) hb);have n3_:=Aside0.mk (Kd.R_below (by (with_reducible repeat (first|apply Kd.R_alloc|apply Kd.R_drewN|apply Kd.R_drew));exact HO122.out) hb);have n4_:=Aside0.mk (blk_below (g:=gb106) (o:=.cells #[.int .i64 t102,.slice Ao11 t103.length co11] 28 (0,0)) bk hb);have n5_:=Aside0.mk (blk_below (g:=gb112) (o:=.cells #[.int .i64 t107,.slice Ao16 t108.length co16] 28 (0,0)) bk hb);have n6_:=Aside0.mk (blk_below (g:=gb118) (o:=.cells #[.int .i64 t113,.slice Ao23 t114.length co23] 28 (0,0)) bk hb);have n7_:=Aside0.mk (below_step bl hb);clear HO_107001;clear HO_113001;clear HO_119001;clear HO122;clear BK106;clear BK112;clear BK118;clear HB;have HO_107001:=n0_;have HO_113001:=n1_;have HO_119001:=n2_;have HO122:=n3_;have BK106:=n4_;have BK112:=n5_;have BK118:=n6_;have HB:=n7_;clear n0_ n1_ n2_ n3_ n4_ n5_ n6_ n7_;(try clear hb);(try clear hb2);(try clear hk);(try clear hi)))
       go_meet
       case rel=>exact ⟨_,(true),rs,H',⟨by have:=HJ6.out;first|omega|exact Nat.le_refl _⟩,⟨by (with_reducible repeat (first|apply Kd.R_alloc|apply Kd.R_drewN|apply Kd.R_drew));exact HO122.out⟩,⟨by (with_reducible repeat (first|apply Kd.V_alloc|apply Kd.V_drewN|apply Kd.V_drew));exact Kd.V_mono HO_107001.out (fun _ hk=>⟨hk.2,⟨hk.1.1,⟨hk.1.2.1,⟨hk.1.2.2.1,⟨hk.1.2.2.2.1,hk.1.2.2.2.2⟩⟩⟩⟩⟩)⟩,⟨by (with_reducible repeat (first|apply Kd.S_alloc|apply Kd.S_drewN|apply Kd.S_drew));exact Kd.S_mono HO_113001.out (fun _ hk=>⟨hk.2,hk.1⟩)⟩,⟨by (with_reducible repeat (first|apply Kd.S_alloc|apply Kd.S_drewN|apply Kd.S_drew));exact Kd.S_mono HO_119001.out (fun _ hk=>⟨hk.2,hk.1⟩)⟩,⟨bk⟩,⟨bk⟩,⟨bk⟩,⟨bl⟩⟩
      subst c42
      have H1:(laws_FnPruning.j1 kj6 t120 (decide (t107 > t102)) t102 t103 t107 t108)=some r:=by rw [if_pos rfl] at H;exact H
      clear H
      have H:=H1
      clear H1
      have H':=Aside0.mk H
      clear H
      have hnb43:=NB112_106.out
      have hnc43:=NB106_112.out
      have hnb44:=NB112_118.out
      have hnc44:=NB118_112.out
      have hcz45_0:w39.cell? ⟨gb112,0,none⟩=some (.int .i64 t107):=(blk_cell BK112.out 0).trans rfl
      have hcz45_1:w39.cell? ⟨gb112,1,none⟩=some (.slice Ao16 t108.length co16):=(blk_cell BK112.out 1).trans rfl
      have hfz45_0:=blk_frozen BK112.out 0
      have hfz45_1:=blk_frozen BK112.out 1
      go_wp2_with (first|(go_at_call 29;(with_reducible refine (impl_IsGraph.calls kj6 t107 _ _ t108 true _ ?side1 ?side2 A41.out).mono ?_);(case side1=>repeat (first|exact (Kd.S_reads' HO_113001.out).2.2|(with_reducible refine Kd.C_alloc ?_ _)|(with_reducible refine Kd.C_drewN ?_ _)|(with_reducible refine Kd.C_drew ?_)));(case side2=>exact (Kd.S_reads' HO_113001.out).2.1);rintro e w46 ⟨rfl,hb⟩;have n0_:=Aside0.mk (Kd.V_below (by (with_reducible repeat (first|apply Kd.V_alloc|apply Kd.V_drewN|apply Kd.V_drew));exact HO_107001.out) hb);have n1_:=Aside0.mk (Kd.S_below (by (with_reducible repeat (first|apply Kd.S_alloc|apply Kd.S_drewN|apply Kd.S_drew));exact HO_113001.out) hb);have n2_:=Aside0.mk (Kd.S_below (by (with_reducible repeat (first|apply Kd.S_alloc|apply Kd.S_drewN|apply Kd.S_drew));exact HO_119001.out) hb);have n3_:=Aside0.mk (Kd.R_below (by (with_reducible repeat (first|apply Kd.R_alloc|apply Kd.R_drewN|apply Kd.R_drew));exact HO122.out) hb);have n4_:=Aside0.mk (blk_below (g:=gb106) (o:=.cells #[.int .i64 t102,.slice Ao11 t103.length co11] 28 (0,0)) bk hb);have n5_:=Aside0.mk (blk_below (g:=gb112) (o:=.cells #[.int .i64 t107,.slice Ao16 t108.length co16] 28 (0,0)) bk hb);have n6_:=Aside0.mk (blk_below (g:=gb118) (o:=.cells #[.int .i64 t113,.slice Ao23 t114.length co23] 28 (0,0)) bk hb);have n7_:=Aside0.mk (below_step bl hb);clear HO_107001;clear HO_113001;clear HO_119001;clear HO122;clear BK106;clear BK112;clear BK118;clear HB;have HO_107001:=n0_;have HO_113001:=n1_;have HO_119001:=n2_;have HO122:=n3_;have BK106:=n4_;have BK112:=n5_;have BK118:=n6_;have HB:=n7_;clear n0_ n1_ n2_ n3_ n4_ n5_ n6_ n7_;(try clear hb);(try clear hb2);(try clear hk);(try clear hi);have hcz47_0:w46.cell? ⟨gb112,0,none⟩=some (.int .i64 t107):=(blk_cell BK112.out 0).trans rfl;have hcz47_1:w46.cell? ⟨gb112,1,none⟩=some (.slice Ao16 t108.length co16):=(blk_cell BK112.out 1).trans rfl;have hfz47_0:=blk_frozen BK112.out 0;have hfz47_1:=blk_frozen BK112.out 1;have hnb48:=NB106_118.out;have hnc48:=NB118_106.out;have hcz49_0:w46.cell? ⟨gb106,0,none⟩=some (.int .i64 t102):=(blk_cell BK106.out 0).trans rfl;have hcz49_1:w46.cell? ⟨gb106,1,none⟩=some (.slice Ao11 t103.length co11):=(blk_cell BK106.out 1).trans rfl;have hfz49_0:=blk_frozen BK106.out 0;have hfz49_1:=blk_frozen BK106.out 1))
      go_meet
      case rel=>exact ⟨_,(decide (t107 > t102)),rs,H',⟨by have:=HJ6.out;first|omega|exact Nat.le_refl _⟩,⟨by (with_reducible repeat (first|apply Kd.R_alloc|apply Kd.R_drewN|apply Kd.R_drew));exact HO122.out⟩,⟨by (with_reducible repeat (first|apply Kd.V_alloc|apply Kd.V_drewN|apply Kd.V_drew));exact Kd.V_mono HO_107001.out (fun _ hk=>⟨hk.2,⟨hk.1.1,⟨hk.1.2.1,⟨hk.1.2.2.1,⟨hk.1.2.2.2.1,hk.1.2.2.2.2⟩⟩⟩⟩⟩)⟩,⟨by (with_reducible repeat (first|apply Kd.S_alloc|apply Kd.S_drewN|apply Kd.S_drew));exact Kd.S_mono HO_113001.out (fun _ hk=>⟨hk.2,hk.1⟩)⟩,⟨by (with_reducible repeat (first|apply Kd.S_alloc|apply Kd.S_drewN|apply Kd.S_drew));exact Kd.S_mono HO_119001.out (fun _ hk=>⟨hk.2,hk.1⟩)⟩,⟨bk⟩,⟨bk⟩,⟨bk⟩,⟨bl⟩⟩
     case rest =>
      clear HC35
      (try clear c1);(try clear c2);(try clear p2);(try clear c3);(try clear c4);(try clear c5);(try clear c6);(try clear c14);(try clear c20);(try clear c21);(try clear c23);(try clear c24);(try clear c24b0);(try clear c24b1);(try clear c25);(try clear c26);(try clear c27);(try clear c28);(try clear c29);(try clear c32);(try clear c33);(try clear c33b0);(try clear c33b1);(try clear c36);(try clear c37);(try clear c40);(try clear c40b0);(try clear c40b1);(try clear c42);(try clear c43);(try clear c44);(try clear c48);(try clear c50);(try clear c51);(try clear hcz10_0);(try clear hcz10_1);(try clear hcz15_0);(try clear hcz15_1);(try clear hcz17_0);(try clear hcz17_1);(try clear hcz22_0);(try clear hcz22_1);(try clear hcz28_0);(try clear hcz28_1);(try clear hcz30_0);(try clear hcz30_1);(try clear hcz38_0);(try clear hcz38_1);(try clear hcz45_0);(try clear hcz45_1);(try clear hcz47_0);(try clear hcz47_1);(try clear hcz49_0);(try clear hcz49_1);(try clear hcz52_0);(try clear hcz52_1);(try clear hfz10_0);(try clear hfz10_1);(try clear hfz15_0);(try clear hfz15_1);(try clear hfz17_0);(try clear hfz17_1);(try clear hfz22_0);(try clear hfz22_1);(try clear hfz28_0);(try clear hfz28_1);(try clear hfz30_0);(try clear hfz30_1);(try clear hfz38_0);(try clear hfz38_1);(try clear hfz45_0);(try clear hfz45_1);(try clear hfz47_0);(try clear hfz47_1);(try clear hfz49_0);(try clear hfz49_1);(try clear hfz52_0);(try clear hfz52_1);(try clear p2)
      obtain ⟨kq,x60_34,rfl,HA,HJ34,HO_8,HO_107001,HO_113001,HO_119001,BK106,BK112,BK118,HB⟩:=hcut
      cases kq with
      | zero=>exact absurd HA.out (by simp [laws_FnPruning.j1])
      | succ kj34 =>
       have H:=HA.out
       clear HA
       simp only [laws_FnPruning.j1] at H
       by_cases c54:x60_34=true
       case neg =>
        replace c54:=Bool.eq_false_iff.mpr c54
        subst c54
        have H1:(laws_FnPruning.l0 kj34 t120 0 t102 t103 t107 t108)=some r:=by rw [if_neg (show ¬ (false=true) by decide)] at H;exact H
        clear H
        have H:=H1
        clear H1
        have H':=Aside0.mk H
        clear H
        go_wp2
        go_loopg [10] kj34 (fun kq v10 w'=>∃ (x10_3:Int),v10=.int .i64 x10_3∧Aside0 (laws_FnPruning.l0 kq t120 x10_3 t102 t103 t107 t108=some r)∧Aside0 (kq≤kj34)∧Aside0 (Kd.R (Kd.int .i64) 2 w' w.heap.size (fun _=>True) v121 t120)∧Aside0 (Kd.V (Kd.slice 2 (Kd.int .i64)) 32 w' w.heap.size (fun k_=>some k_ ≠ (v121:Value).ownBlock∧some k_ ≠ ((.slice Ao16 t108.length co16):Value).ownBlock∧some k_ ≠ ((.slice Ao23 t114.length co23):Value).ownBlock∧k_ ≠ gb106∧k_ ≠ gb112∧k_ ≠ gb118) (.slice Ao11 t103.length co11) t103)∧Aside0 (Kd.S (Kd.slice 2 (Kd.int .i64)) 32 w' w.heap.size (fun k_=>some k_ ≠ (v121:Value).ownBlock∧some k_ ≠ ((.slice Ao23 t114.length co23):Value).ownBlock) (.slice Ao16 t108.length co16) t108)∧Aside0 (Kd.S (Kd.slice 2 (Kd.int .i64)) 32 w' w.heap.size (fun k_=>some k_ ≠ (v121:Value).ownBlock∧some k_ ≠ ((.slice Ao16 t108.length co16):Value).ownBlock) (.slice Ao23 t114.length co23) t114)∧Aside0 (w'.heap[gb106]?=some (.cells #[.int .i64 t102,(.slice Ao11 t103.length co11)] 28 (0,0)))∧Aside0 (w'.heap[gb112]?=some (.cells #[.int .i64 t107,(.slice Ao16 t108.length co16)] 28 (0,0)))∧Aside0 (w'.heap[gb118]?=some (.cells #[.int .i64 t113,(.slice Ao23 t114.length co23)] 28 (0,0)))∧Aside0 (Below w.heap.size w w'))
        case atStart=>exact ⟨(0),rs,H',⟨Nat.le_refl _⟩,⟨by (with_reducible repeat (first|apply Kd.R_alloc|apply Kd.R_drewN|apply Kd.R_drew));exact HO_8.out⟩,⟨by (with_reducible repeat (first|apply Kd.V_alloc|apply Kd.V_drewN|apply Kd.V_drew));exact HO_107001.out⟩,⟨by (with_reducible repeat (first|apply Kd.S_alloc|apply Kd.S_drewN|apply Kd.S_drew));exact HO_113001.out⟩,⟨by (with_reducible repeat (first|apply Kd.S_alloc|apply Kd.S_drewN|apply Kd.S_drew));exact HO_119001.out⟩,⟨bk⟩,⟨bk⟩,⟨bk⟩,⟨bl⟩⟩
        case round =>
         clear H'
         (try clear c1);(try clear c2);(try clear p2);(try clear c3);(try clear c4);(try clear c5);(try clear c6);(try clear c14);(try clear c20);(try clear c21);(try clear c23);(try clear c24);(try clear c24b0);(try clear c24b1);(try clear c25);(try clear c26);(try clear c27);(try clear c28);(try clear c29);(try clear c32);(try clear c33);(try clear c33b0);(try clear c33b1);(try clear c36);(try clear c37);(try clear c40);(try clear c40b0);(try clear c40b1);(try clear c42);(try clear c43);(try clear c44);(try clear c48);(try clear c50);(try clear c51);(try clear c54);(try clear hcz10_0);(try clear hcz10_1);(try clear hcz15_0);(try clear hcz15_1);(try clear hcz17_0);(try clear hcz17_1);(try clear hcz22_0);(try clear hcz22_1);(try clear hcz28_0);(try clear hcz28_1);(try clear hcz30_0);(try clear hcz30_1);(try clear hcz38_0);(try clear hcz38_1);(try clear hcz45_0);(try clear hcz45_1);(try clear hcz47_0);(try clear hcz47_1);(try clear hcz49_0);(try clear hcz49_1);(try clear hcz52_0);(try clear hcz52_1);(try clear hfz10_0);(try clear hfz10_1);(try clear hfz15_0);(try clear hfz15_1);(try clear hfz17_0);(try clear hfz17_1);(try clear hfz22_0);(try clear hfz22_1);(try clear hfz28_0);(try clear hfz28_1);(try clear hfz30_0);(try clear hfz30_1);(try clear hfz38_0);(try clear hfz38_1);(try clear hfz45_0);(try clear hfz45_1);(try clear hfz47_0);(try clear hfz47_1);(try clear hfz49_0);(try clear hfz49_1);(try clear hfz52_0);(try clear hfz52_1);(try clear p2)
         obtain ⟨x10_3,rfl,HA,HK3,HO_8,HO_107001,HO_113001,HO_119001,BK106,BK112,BK118,HB⟩:=hrel
         cases gk with
         | zero=>exact absurd HA.out (by simp [laws_FnPruning.l0])
         | succ k3 =>
          have H:=HA.out
          clear HA
          simp only [laws_FnPruning.l0] at H
          by_cases c55:x10_3 < (t120.length:Int)
          case neg =>
           rw [if_neg c55] at H
           have c55b0:decide (x10_3 < (t120.length:Int))=false:=decide_eq_false c55
           clear c55
           replace H:=Option.bind_eq_some_iff.mp H
           obtain ⟨⟨t126,t127⟩,A600,H⟩:=H
           replace H:(if t127=0 then (some t126) else (some false))=some r:=H
           have A60:=Aside0.mk A600
           clear A600
           by_cases c61:t127=0
           case neg =>
            rw [if_neg c61] at H
            have c61b0:(t127 == 0)=false:=beq_eq_false_iff_ne.mpr c61
            have c61b1:(t127 != 0)=true:=bne_iff_ne.mpr c61
            obtain rfl:=Option.some.inj H
            obtain ⟨Ao69,co69,eo69⟩:=Kd.R_slice HO_8.out
            subst eo69
            have hnb70:=NB106_112.out
            have hnc70:=NB112_106.out
            have hnb71:=NB106_118.out
            have hnc71:=NB118_106.out
            have hcz72_0:wr.cell? ⟨gb106,0,none⟩=some (.int .i64 t102):=(blk_cell BK106.out 0).trans rfl
            have hcz72_1:wr.cell? ⟨gb106,1,none⟩=some (.slice Ao11 t103.length co11):=(blk_cell BK106.out 1).trans rfl
            have hfz72_0:=blk_frozen BK106.out 0
            have hfz72_1:=blk_frozen BK106.out 1
            have hnb73:=NB112_118.out
            have hnc73:=NB118_112.out
            have hcz74_0:wr.cell? ⟨gb112,0,none⟩=some (.int .i64 t107):=(blk_cell BK112.out 0).trans rfl
            have hcz74_1:wr.cell? ⟨gb112,1,none⟩=some (.slice Ao16 t108.length co16):=(blk_cell BK112.out 1).trans rfl
            have hfz74_0:=blk_frozen BK112.out 0
            have hfz74_1:=blk_frozen BK112.out 1
            go_wp2_with (first|((with_reducible refine gate_callee (f:=30) rfl ?_);refine goesL_ (some 75) rfl rfl Try.func30 (by kernel_rfl) rfl #[.agg #[.int .i64 t102,.slice Ao11 t103.length co11],.agg #[.int .i64 t107,.slice Ao16 t108.length co16]] rfl gm ?_;(with_reducible refine (impl_AreEqualZetas.calls k3 t102 _ _ t103 t107 _ _ t108 t126 t127 _ ?side1 ?side2 ?side3 ?side4 A60.out).mono ?_);(case side1=>repeat (first|exact (Kd.V_reads' HO_107001.out).2.2|(with_reducible refine Kd.C_alloc ?_ _)|(with_reducible refine Kd.C_drewN ?_ _)|(with_reducible refine Kd.C_drew ?_)));(case side2=>exact (Kd.V_reads' HO_107001.out).2.1);(case side3=>repeat (first|exact (Kd.S_reads' HO_113001.out).2.2|(with_reducible refine Kd.C_alloc ?_ _)|(with_reducible refine Kd.C_drewN ?_ _)|(with_reducible refine Kd.C_drew ?_)));(case side4=>exact (Kd.S_reads' HO_113001.out).2.1);rintro e w75 ⟨rfl,hb⟩;refine ⟨_,rfl,?_⟩;have n0_:=Aside0.mk (Kd.R_below (by (with_reducible repeat (first|apply Kd.R_alloc|apply Kd.R_drewN|apply Kd.R_drew));exact HO_8.out) hb);have n1_:=Aside0.mk (Kd.V_below (by (with_reducible repeat (first|apply Kd.V_alloc|apply Kd.V_drewN|apply Kd.V_drew));exact HO_107001.out) hb);have n2_:=Aside0.mk (Kd.S_below (by (with_reducible repeat (first|apply Kd.S_alloc|apply Kd.S_drewN|apply Kd.S_drew));exact HO_113001.out) hb);have n3_:=Aside0.mk (Kd.S_below (by (with_reducible repeat (first|apply Kd.S_alloc|apply Kd.S_drewN|apply Kd.S_drew));exact HO_119001.out) hb);have n4_:=Aside0.mk (blk_below (g:=gb106) (o:=.cells #[.int .i64 t102,.slice Ao11 t103.length co11] 28 (0,0)) bk hb);have n5_:=Aside0.mk (blk_below (g:=gb112) (o:=.cells #[.int .i64 t107,.slice Ao16 t108.length co16] 28 (0,0)) bk hb);have n6_:=Aside0.mk (blk_below (g:=gb118) (o:=.cells #[.int .i64 t113,.slice Ao23 t114.length co23] 28 (0,0)) bk hb);have n7_:=Aside0.mk (below_step bl hb);clear HO_8;clear HO_107001;clear HO_113001;clear HO_119001;clear BK106;clear BK112;clear BK118;clear HB;have HO_8:=n0_;have HO_107001:=n1_;have HO_113001:=n2_;have HO_119001:=n3_;have BK106:=n4_;have BK112:=n5_;have BK118:=n6_;have HB:=n7_;clear n0_ n1_ n2_ n3_ n4_ n5_ n6_ n7_;(try clear hb);(try clear hb2);(try clear hk);(try clear hi)))
            go_ret
            exact ⟨by first|rfl|(simp [errW_none,errW_some]<;>rfl)|(simp [*,errW_none,errW_some]<;>rfl),bl⟩
           rw [if_pos c61] at H
           have c61b0:(t127 == 0)=true:=beq_iff_eq.mpr c61
           have c61b1:(t127 != 0)=false:=bne_eq_false_iff_eq.mpr c61
           clear c61
           obtain rfl:=Option.some.inj H
           obtain ⟨Ao62,co62,eo62⟩:=Kd.R_slice HO_8.out
           subst eo62
           have hnb63:=NB106_112.out
           have hnc63:=NB112_106.out
           have hnb64:=NB106_118.out
           have hnc64:=NB118_106.out
           have hcz65_0:wr.cell? ⟨gb106,0,none⟩=some (.int .i64 t102):=(blk_cell BK106.out 0).trans rfl
           have hcz65_1:wr.cell? ⟨gb106,1,none⟩=some (.slice Ao11 t103.length co11):=(blk_cell BK106.out 1).trans rfl
           have hfz65_0:=blk_frozen BK106.out 0
           have hfz65_1:=blk_frozen BK106.out 1
           have hnb66:=NB112_118.out
           have hnc66:=NB118_112.out
           have hcz67_0:wr.cell? ⟨gb112,0,none⟩=some (.int .i64 t107):=(blk_cell BK112.out 0).trans rfl
           have hcz67_1:wr.cell? ⟨gb112,1,none⟩=some (.slice Ao16 t108.length co16):=(blk_cell BK112.out 1).trans rfl
           have hfz67_0:=blk_frozen BK112.out 0
           have hfz67_1:=blk_frozen BK112.out 1
           go_wp2_with (first|((with_reducible refine gate_callee (f:=30) rfl ?_);refine goesL_ (some 75) rfl rfl Try.func30 (by kernel_rfl) rfl #[.agg #[.int .i64 t102,.slice Ao11 t103.length co11],.agg #[.int .i64 t107,.slice Ao16 t108.length co16]] rfl gm ?_;(with_reducible refine (impl_AreEqualZetas.calls k3 t102 _ _ t103 t107 _ _ t108 t126 t127 _ ?side1 ?side2 ?side3 ?side4 A60.out).mono ?_);(case side1=>repeat (first|exact (Kd.V_reads' HO_107001.out).2.2|(with_reducible refine Kd.C_alloc ?_ _)|(with_reducible refine Kd.C_drewN ?_ _)|(with_reducible refine Kd.C_drew ?_)));(case side2=>exact (Kd.V_reads' HO_107001.out).2.1);(case side3=>repeat (first|exact (Kd.S_reads' HO_113001.out).2.2|(with_reducible refine Kd.C_alloc ?_ _)|(with_reducible refine Kd.C_drewN ?_ _)|(with_reducible refine Kd.C_drew ?_)));(case side4=>exact (Kd.S_reads' HO_113001.out).2.1);rintro e w68 ⟨rfl,hb⟩;refine ⟨_,rfl,?_⟩;have n0_:=Aside0.mk (Kd.R_below (by (with_reducible repeat (first|apply Kd.R_alloc|apply Kd.R_drewN|apply Kd.R_drew));exact HO_8.out) hb);have n1_:=Aside0.mk (Kd.V_below (by (with_reducible repeat (first|apply Kd.V_alloc|apply Kd.V_drewN|apply Kd.V_drew));exact HO_107001.out) hb);have n2_:=Aside0.mk (Kd.S_below (by (with_reducible repeat (first|apply Kd.S_alloc|apply Kd.S_drewN|apply Kd.S_drew));exact HO_113001.out) hb);have n3_:=Aside0.mk (Kd.S_below (by (with_reducible repeat (first|apply Kd.S_alloc|apply Kd.S_drewN|apply Kd.S_drew));exact HO_119001.out) hb);have n4_:=Aside0.mk (blk_below (g:=gb106) (o:=.cells #[.int .i64 t102,.slice Ao11 t103.length co11] 28 (0,0)) bk hb);have n5_:=Aside0.mk (blk_below (g:=gb112) (o:=.cells #[.int .i64 t107,.slice Ao16 t108.length co16] 28 (0,0)) bk hb);have n6_:=Aside0.mk (blk_below (g:=gb118) (o:=.cells #[.int .i64 t113,.slice Ao23 t114.length co23] 28 (0,0)) bk hb);have n7_:=Aside0.mk (below_step bl hb);clear HO_8;clear HO_107001;clear HO_113001;clear HO_119001;clear BK106;clear BK112;clear BK118;clear HB;have HO_8:=n0_;have HO_107001:=n1_;have HO_113001:=n2_;have HO_119001:=n3_;have BK106:=n4_;have BK112:=n5_;have BK118:=n6_;have HB:=n7_;clear n0_ n1_ n2_ n3_ n4_ n5_ n6_ n7_;(try clear hb);(try clear hb2);(try clear hk);(try clear hi)))
           go_ret
           exact ⟨by first|rfl|(simp [errW_none,errW_some]<;>rfl)|(simp [*,errW_none,errW_some]<;>rfl),bl⟩
          rw [if_pos c55] at H
          have c55b0:decide (x10_3 < (t120.length:Int))=true:=decide_eq_true c55
          clear c55
          by_cases c56:0≤x10_3
          case neg=>rw [if_neg c56] at H;exact absurd H (by simp)
          rw [if_pos c56] at H
          have c56b0:decide (0≤x10_3)=true:=decide_eq_true c56
          clear c56
          by_cases c57:(rd t120 x10_3)=1
          case neg =>
           rw [if_neg c57] at H
           have c57b0:((rd t120 x10_3) == 1)=false:=beq_eq_false_iff_ne.mpr c57
           have c57b1:((rd t120 x10_3) != 1)=true:=bne_iff_ne.mpr c57
           have H':=Aside0.mk H
           clear H
           obtain ⟨Ao59,co59,eo59⟩:=Kd.R_slice HO_8.out
           subst eo59
           have p125:0≤(x10_3:Int):=oD
           have q125:x10_3 < (t120.length:Int):=oD
           obtain ⟨ad125,e125,hx125_0⟩:=Kd.at_int (Kd.R_reads' HO_8.out).2.2 x10_3 p125 q125
           cases e125
           replace p125:=eq_true p125
           replace q125:=eq_true q125
           go_wp2
           go_roundg k3
           case measure=>have:=HJ6.out;have:=HJ34.out;have:=HK3.out;omega
           case rel=>exact ⟨(wrap64 (x10_3+1)),rs,H',⟨by have:=HJ6.out;have:=HJ34.out;have:=HK3.out;omega⟩,⟨by (with_reducible repeat (first|apply Kd.R_alloc|apply Kd.R_drewN|apply Kd.R_drew));exact HO_8.out⟩,⟨by (with_reducible repeat (first|apply Kd.V_alloc|apply Kd.V_drewN|apply Kd.V_drew));exact HO_107001.out⟩,⟨by (with_reducible repeat (first|apply Kd.S_alloc|apply Kd.S_drewN|apply Kd.S_drew));exact HO_113001.out⟩,⟨by (with_reducible repeat (first|apply Kd.S_alloc|apply Kd.S_drewN|apply Kd.S_drew));exact HO_119001.out⟩,⟨bk⟩,⟨bk⟩,⟨bk⟩,⟨bl⟩⟩
          rw [if_pos c57] at H
          have c57b0:((rd t120 x10_3) == 1)=true:=beq_iff_eq.mpr c57
          have c57b1:((rd t120 x10_3) != 1)=false:=bne_eq_false_iff_eq.mpr c57
          clear c57
          obtain rfl:=Option.some.inj H
          obtain ⟨Ao58,co58,eo58⟩:=Kd.R_slice HO_8.out
          subst eo58
          have p125:0≤(x10_3:Int):=oD
          have q125:x10_3 < (t120.length:Int):=oD
          obtain ⟨ad125,e125,hx125_0⟩:=Kd.at_int (Kd.R_reads' HO_8.out).2.2 x10_3 p125 q125
          cases e125
          replace p125:=eq_true p125
          replace q125:=eq_true q125
          go_wp2
          go_ret
          exact ⟨by first|rfl|(simp [errW_none,errW_some]<;>rfl)|(simp [*,errW_none,errW_some]<;>rfl),bl⟩
       subst c54
       have H1:(some false)=some r:=by rw [if_pos rfl] at H;exact H
       clear H
       have H:=H1
       clear H1
       obtain rfl:=Option.some.inj H
       go_wp2
       go_ret
       exact ⟨by first|rfl|(simp [errW_none,errW_some]<;>rfl)|(simp [*,errW_none,errW_some]<;>rfl),bl⟩
    subst c32
    have H1:(some false)=some r:=by rw [if_pos rfl] at H;exact H
    clear H
    have H:=H1
    clear H1
    obtain rfl:=Option.some.inj H
    go_wp2
    go_ret
    exact ⟨by first|rfl|(simp [errW_none,errW_some]<;>rfl)|(simp [*,errW_none,errW_some]<;>rfl),bl⟩
 subst c3
 have H1:(some true)=some r:=by rw [if_pos rfl] at H;exact H
 clear H
 have H:=H1
 clear H1
 obtain rfl:=Option.some.inj H
 go_enter Try.func6,Try.ntmps6
 go_wp2_with (first|((with_reducible refine gate_callee (f:=23) rfl ?_);refine goesL_ (some 14) rfl rfl Try.func23 (by kernel_rfl) rfl #[.slice A0 l0.length c0] rfl gm ?_;(with_reducible refine (laws_big.calls _ _ l0 true _ ?side1 ?side2 A2.out).mono ?_);(case side1=>repeat (first|exact HR0.out|(with_reducible refine Kd.C_alloc ?_ _)|(with_reducible refine Kd.C_drewN ?_ _)|(with_reducible refine Kd.C_drew ?_)));(case side2=>exact HC0.out);rintro e w' ⟨rfl,⟨nd,rfl⟩⟩;refine ⟨_,rfl,?_⟩))
 go_ret
 exact ⟨by first|rfl|(simp [errW_none,errW_some]<;>rfl)|(simp [*,errW_none,errW_some]<;>rfl),bl⟩
/-- THE ONE PURE STATEMENT of laws_FnPruning: yours. -/
def laws_FnPruning.Pure:Prop:=∀ (l0:List Int),l0.length≤maxLen→l0.length * 1≤140737488351232→(∀ x ∈ l0,(Lit.int .u8 x).wf=true)→∃ k,laws_FnPruning.f k l0=some true
theorem laws_FnPruning.walk (P : laws_FnPruning.Pure) (a0 : Option Addr) (len0 cap0 : Nat) (z0 : List Int) (w : World) (w0 : (a0 = none ∧ len0 = 0 ∧ cap0 = 0 ∧ z0 = []) ∨ ∃ x, a0 = some x ∧ len0 ≤ cap0 ∧ cap0 ≤ maxLen ∧ z0.length = cap0 ∧ (∀ i, i < z0.length → w.cell? (x.add i) = some (.int .u8 (z0.getD i 0))) ∧ ∀ n ∈ z0, (Lit.int .u8 n).wf = true) (y0 : len0 * 1 ≤ 140737488351232) :
  Calls Try.prog 6 #[.slice a0 len0 cap0] w fun e w'=>e=.returned (.bool true)∧Below w.heap.size w w':=by
 obtain ⟨l0,rfl,hr0,hm0,hw0,hc0⟩:=ReadsInt.ofRowC w0
 obtain ⟨k,h⟩:=P l0 hm0 y0 hw0
 refine (laws_FnPruning.calls k _ _ l0 true w (Kd.C_of_reads (d:=(0:Int)) (h1:=fun _=>rfl) hr0) hc0 h).mono ?_
 rintro e w' ⟨rfl,hd⟩
 exact ⟨rfl,hd⟩
end Go.Proofs.Ytjgdibhalmcigaa.D
/- Set with little white space, by a program. -/
