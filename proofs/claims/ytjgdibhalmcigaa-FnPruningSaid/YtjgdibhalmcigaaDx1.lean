/- The functions that one law reaches, each as a Lean function, and that Go's call comes to what it says. Condition of each: that the Lean function answers (is not none). -/
import Derived.Test.YtjgdibhalmcigaaDx0
namespace Go.Proofs.Ytjgdibhalmcigaa.D
open Go.RowKit Go.Proofs.YtjgdibhalmcigaaW.PrintWords Go.Proofs.YtjgdibhalmcigaaW.PrintLast Go.Proofs.YtjgdibhalmcigaaW.PrintMore
attribute [local go_sem] max2_int min2_int max_two min_two max_three min_three max_four min_four   -- for this text's walks alone
set_option linter.unusedVariables false
set_option linter.unusedSimpArgs false
/-! ### laws_big: function 23 -/
def laws_big.f (l0:List Int):Option (Bool):=some (decide ((l0.length:Int) > 4096))
set_option maxHeartbeats 8000000 in
set_option maxRecDepth 100000 in
theorem laws_big.calls (A0 : Option Addr) (c0 : Nat) (l0 : List Int) (r : Bool) (w : World) (hr0 : Kd.C (Kd.int .u8) w A0 l0.length l0) (hc0 : l0.length ≤ c0) (h : laws_big.f l0 = some r) :
  Calls Try.prog 23 #[.slice A0 l0.length c0] w fun e w'=>e=.returned (.bool r)∧Drawn0 w w':=by
 have HR0:=Aside0.mk hr0
 have HC0:=Aside0.mk hc0
 clear hr0 hc0
 have H:(some (decide ((l0.length:Int) > 4096)))=some r:=h
 clear h
 obtain rfl:=Option.some.inj H
 go_enter Try.func23,Try.ntmps23
 go_wp2
 go_ret
 exact ⟨by first|rfl|(simp;done)|(simp [*];done),by repeat (first|exact Drawn0.refl _|apply Drawn0.step)⟩
/-! ### spec_l01Own: function 102 -/
def spec_l01Own.f (l0:List Int):Option (List Int):=(some (([]:List Int):List Int)).bind fun y101=>(if y101.length+l0.length < 17592186044416 then (some (y101 ++ l0)) else (none))
set_option maxHeartbeats 8000000 in
set_option maxRecDepth 100000 in
theorem spec_l01Own.calls (A0 : Option Addr) (c0 : Nat) (l0 : List Int) (r : List Int) (w : World) (hr0 : Kd.C (Kd.int .i64) w A0 l0.length l0) (hc0 : l0.length ≤ c0) (h : spec_l01Own.f l0 = some r) :
  Calls Try.prog 102 #[.slice A0 l0.length c0] w fun e w'=>∃ v0_:Value,e=.returned (v0_)∧Kd.R (Kd.int .i64) 2 w' w.heap.size (fun _=>True) v0_ r∧Below w.heap.size w w':=by
 have HR0:=Aside0.mk hr0
 have HC0:=Aside0.mk hc0
 clear hr0 hc0
 have HB:=Aside0.mk (Below.refl w.heap.size w)
 have H:((some (([]:List Int):List Int)).bind fun y101=>(if y101.length+l0.length < 17592186044416 then (some (y101 ++ l0)) else (none)))=some r:=h
 clear h
 obtain ⟨y101,hy101⟩:∃ y_:List Int,y_=(([]:List Int)):=⟨_,rfl⟩
 replace H:(if y101.length+l0.length < 17592186044416 then (some (y101 ++ l0)) else (none))=some r:=by first|(rw [hy101];with_reducible exact H)|(have H2_:=(Option.bind_some _ _).symm.trans H;rw [hy101];with_reducible exact H2_)|(have H2_:=(Option.bind_some _ _).symm.trans H;with_reducible exact H2_)|with_reducible exact H|(rw [hy101];exact H)|exact H
 have Ny101:=Aside0.mk hy101
 clear hy101
 by_cases c2:y101.length+l0.length < 17592186044416
 case neg=>rw [if_neg c2] at H;exact absurd H (by simp)
 rw [if_pos c2] at H
 have LMc2:=Aside0.mk c2
 clear c2
 obtain ⟨y104,hy104⟩:∃ y_:List Int,y_=(y101 ++ l0):=⟨_,rfl⟩
 replace H:(some y104)=some r:=by first|(rw [hy104];with_reducible exact H)|(have H2_:=(Option.bind_some _ _).symm.trans H;rw [hy104];with_reducible exact H2_)|(have H2_:=(Option.bind_some _ _).symm.trans H;with_reducible exact H2_)|with_reducible exact H|(rw [hy104];exact H)|exact H
 have Ny104:=Aside0.mk hy104
 clear hy104
 obtain rfl:=Option.some.inj H
 go_enter Try.func102,Try.ntmps102
 go_wp2_with (first|((with_reducible refine gate_dst (N:=3) rfl ?_);refine Kd.R_lit (Kd.int .i64) _ 2 ?hg (N:=3) ?hd (xs:=([]:List Int)) (inner:=[]) (ok:=fun _=>True) (okp:=fun _=>True) ?hr ?hp (fun _ hk=>hk) trivial (Below.refl _ _) (Nat.le_refl _) (by simp) ?_;(case hd=>rfl);(case hg=>rfl);(case hr=>first|(go_simp;done)|(go_simp;rfl));(case hp=>exact (Reps.none _ _));intro v102 w3 ho4 hb hg_ hnew_;clear hg_ hnew_;(first|rw [← Ny101.out] at ho4|(simp only [Int.reduceToNat] at ho4;rw [← Ny101.out] at ho4));have n0_:=Aside0.mk (Kd.R_lower ho4 (below_size bl));have n1_:=Aside0.mk (below_step bl hb);clear HB;have HO103:=n0_;have HB:=n1_;clear n0_ n1_;clear hb ho4)|((with_reducible refine gate_builtin (b:=.append) (xs:=#[.tmp 3,.tmp 4]) rfl ?_);at_builtin;refine Kd.R_append_rows (Kd.int .i64) (w0:=w) w.heap.size rfl (.tmp 3) (.tmp 4) 32 2 (.int .i64 0) 8 rfl Try.underlying32 info2 rfl (by decide) (by omega) v102 y101 l0 _ _ _ (fun _=>True) (fun _=>False) rfl rfl ?aO ?aR (fun _ _ h=>h) (fun _ h=>h.elim) ?aF ?aB ?aS ?aL ?_;(case aR=>repeat (first|exact (Kd.C_below HR0.out HB.out)|(with_reducible refine Kd.C_alloc ?_ _)|(with_reducible refine Kd.C_drewN ?_ _)|(with_reducible refine Kd.C_drew ?_)));(case aB=>exact bl);(case aF=>exact (fun _ _=>trivial));(case aO=>exact (by (with_reducible repeat (first|apply Kd.R_alloc|apply Kd.R_drewN|apply Kd.R_drew));exact HO103.out));(case aS=>exact (below_size bl));(case aL=>have:=LMc2.out;omega);intro v105 w5 ho hb hg hat;rw [← Ny104.out] at ho;have n0_:=Aside0.mk (hb);have n1_:=Aside0.mk (ho);clear HB;clear HO103;have HB:=n0_;have HO106:=n1_;clear n0_ n1_;clear ho hb hg hat))
 go_ret
 exact ⟨_,by first|rfl|(simp [errW_none,errW_some]<;>rfl)|(simp [*,errW_none,errW_some]<;>rfl),by (with_reducible repeat (first|apply Kd.R_alloc|apply Kd.R_drewN|apply Kd.R_drew));exact HO106.out,bl⟩
/-! ### spec_l01Copy: function 97 -/
def spec_l01Copy.l0 : Nat → Int → Int → List (List Int) → Int → List (List Int) → Option (Int × (List (List Int)))
 | 0,_,_,_,_,_=>none
 | k+1,x4,x102000,x102001,x107000,x107001=>if x4 < (x102001.length:Int) then (if 0≤x4 then ((spec_l01Own.f (rd_L1 x102001 x4)).bind fun t108=>(if x107001.length < 5864062014805 then (spec_l01Copy.l0 k (wrap64 (x4+1)) x102000 x102001 x107000 (x107001 ++ [t108])) else (none))) else (none)) else (some (x107000,x107001))
def spec_l01Copy.f (k:Nat) (a0_0:Int) (l0_1:List (List Int)):Option (Int × (List (List Int))):=spec_l01Copy.l0 k 0 a0_0 l0_1 a0_0 (([]:List (List Int)))
theorem spec_l01Copy.mono_l : ∀ k, (∀ y0 y1 y2 y3 y4, LeO (spec_l01Copy.l0 k y0 y1 y2 y3 y4) (spec_l01Copy.l0 (k + 1) y0 y1 y2 y3 y4))
 | 0=>fun _ _ _ _ _ r h=>by simp [spec_l01Copy.l0] at h
 | k+1=>by
  have ih0:=spec_l01Copy.mono_l k
  ·intro y0 y1 y2 y3 y4
   unfold spec_l01Copy.l0
   repeat' first
   | (with_reducible exact ih0 _ _ _ _ _)
   | (with_reducible exact LeO.refl _)
   | (with_reducible exact LeO.none _)
   | (with_reducible refine LeO.ite ?_ ?_)
   | (with_reducible refine LeO.bind ?_ (fun _=>?_))
   | exact ih0 _ _ _ _ _
   | exact LeO.none _
   | refine LeO.ite ?_ ?_
   | refine LeO.bind ?_ (fun _=>?_)
theorem spec_l01Copy.mono:∀ a0 a1 k,LeO (spec_l01Copy.f k a0 a1) (spec_l01Copy.f (k+1) a0 a1):=by
 intro a0 a1 k
 have ih0:=spec_l01Copy.mono_l k
 unfold spec_l01Copy.f
 repeat' first
   | (with_reducible exact ih0 _ _ _ _ _)
   | (with_reducible exact LeO.refl _)
   | (with_reducible exact LeO.none _)
   | (with_reducible refine LeO.ite ?_ ?_)
   | (with_reducible refine LeO.bind ?_ (fun _=>?_))
   | exact ih0 _ _ _ _ _
   | exact LeO.none _
   | refine LeO.ite ?_ ?_
   | refine LeO.bind ?_ (fun _=>?_)
def spec_l01Copy.T5:Bool × List (List Nat × List Nat):=(true,[([],[]),([0],[0]),([],[]),([2],[2]),([],[]),([3,4],[3,4]),([5],[5]),([6],[6]),([7],[7]),([1,8,7],[1,8]),([0,1,2,3,4,5,6,7,8,9],[]),([10,9,9,0,1,2,3,4,5,6,7,8,9],[9,10])])
def spec_l01Copy.B5:List Nat:=[0,1,0,4,0,28,60,124,252,511,1023,2047]
theorem spec_l01Copy.tab5:rtab .any (opsOf Try.f97 5)=spec_l01Copy.T5:=by kernel_rfl
theorem spec_l01Copy.bits5:waitsOk spec_l01Copy.T5.2 spec_l01Copy.B5=true:=by kernel_rfl
set_option maxHeartbeats 8000000 in
set_option maxRecDepth 100000 in
theorem spec_l01Copy.calls (k : Nat) (a0_0 : Int) (A0_1 : Option Addr) (c0_1 : Nat) (l0_1 : List (List Int)) (r1 : Int) (r2 : List (List Int)) (w : World) (hr0_1 : Kd.C (Kd.slice 2 (Kd.int .i64)) w A0_1 l0_1.length l0_1) (hc0_1 : l0_1.length ≤ c0_1) (h : spec_l01Copy.f k a0_0 l0_1 = some (r1, r2)) :
  Calls Try.prog 97 #[.agg #[.int .i64 a0_0,.slice A0_1 l0_1.length c0_1]] w fun e w'=>∃ v1_:Value,e=.returned (.agg #[.int .i64 r1,v1_])∧Kd.S (Kd.slice 2 (Kd.int .i64)) 32 w' w.heap.size (fun _=>True) v1_ r2∧Below w.heap.size w w':=by
 have hu28:=Try.underlying28
 have HR0_1:=Aside0.mk hr0_1
 have HC0_1:=Aside0.mk hc0_1
 clear hr0_1 hc0_1
 have HB:=Aside0.mk (Below.refl w.heap.size w)
 have H:(spec_l01Copy.l0 k 0 a0_0 l0_1 a0_0 (([]:List (List Int))))=some (r1,r2):=h
 clear h
 obtain ⟨y103,hy103⟩:∃ y_:List (List Int),y_=(([]:List (List Int))):=⟨_,rfl⟩
 replace H:(spec_l01Copy.l0 k 0 a0_0 l0_1 a0_0 y103)=some (r1,r2):=by first|(rw [hy103];with_reducible exact H)|(have H2_:=(Option.bind_some _ _).symm.trans H;rw [hy103];with_reducible exact H2_)|(have H2_:=(Option.bind_some _ _).symm.trans H;with_reducible exact H2_)|with_reducible exact H|(rw [hy103];exact H)|exact H
 have Ny103:=Aside0.mk hy103
 clear hy103
 have H':=Aside0.mk H
 clear H
 go_enter Try.func97,Try.ntmps97
 go_wp2_with (first|((with_reducible refine gate_dst (N:=1) rfl ?_);refine box_event ?hg (N:=1) ?hd (cs:=#[.int .i64 a0_0,.slice A0_1 l0_1.length c0_1]) (t:=28) ?hr ?_;(case hd=>rfl);(case hg=>rfl);(case hr=>first|(go_simp;done)|(go_simp;rfl));intro gb101 hg w2 hbox hb;have n0_:=Aside0.mk (below_step bl hb);have n1_:=Aside0.mk (hbox);have n2_:=Aside0.mk ((by rw [hg];exact (below_size bl):w.heap.size≤gb101));have n3_:=Aside0.mk ((by rw [hg];exact (below_size bl):w.heap.size≤gb101));clear HB;have HB:=n0_;have BK101:=n1_;have GW101:=n2_;have GE101:=n3_;clear n0_ n1_ n2_ n3_;clear hb hbox hg)|((with_reducible refine gate_dst (N:=2) rfl ?_);refine box_event ?hg (N:=2) ?hd (cs:=#[.int .i64 0,.slice none 0 0]) (t:=28) ?hr ?_;(case hd=>rfl);(case hg=>rfl);(case hr=>first|(go_simp;done)|(go_simp;rfl));intro gb102 hg w3 hbox hb;have n0_:=Aside0.mk (blk_below (g:=gb101) (o:=.cells #[.int .i64 a0_0,.slice A0_1 l0_1.length c0_1] 28 (0,0)) bk hb);have n1_:=Aside0.mk (below_step bl hb);have n2_:=Aside0.mk (hbox);have n3_:=Aside0.mk ((by rw [hg];exact (below_size bl):w.heap.size≤gb102));have n4_:=Aside0.mk ((by rw [hg];exact (below_size bl):w.heap.size≤gb102));have n5_:=Aside0.mk ((by rw [hg];exact Nat.ne_of_lt (blk_lt (g:=gb101) (o:=.cells #[.int .i64 a0_0,.slice A0_1 l0_1.length c0_1] 28 (0,0)) bk):gb101 ≠ gb102));have n6_:=Aside0.mk ((by rw [hg];exact Nat.ne_of_gt (blk_lt (g:=gb101) (o:=.cells #[.int .i64 a0_0,.slice A0_1 l0_1.length c0_1] 28 (0,0)) bk):gb102 ≠ gb101));clear BK101;clear HB;have BK101:=n0_;have HB:=n1_;have BK102:=n2_;have GW102:=n3_;have GE102:=n4_;have NB101_102:=n5_;have NB102_101:=n6_;clear n0_ n1_ n2_ n3_ n4_ n5_ n6_;clear hb hbox hg;have hnb4:=NB101_102.out;have hnc4:=NB102_101.out;have hcz5_0:w3.cell? ⟨gb101,0,none⟩=some (.int .i64 a0_0):=(blk_cell BK101.out 0).trans rfl;have hcz5_1:w3.cell? ⟨gb101,1,none⟩=some (.slice A0_1 l0_1.length c0_1):=(blk_cell BK101.out 1).trans rfl;have hfz5_0:=blk_frozen BK101.out 0;have hfz5_1:=blk_frozen BK101.out 1)|((with_reducible refine gate_dst (N:=7) rfl ?_);refine Kd.S_lit (Kd.slice 2 (Kd.int .i64)) _ 32 ?hg (N:=7) ?hd (xs:=([]:List (List Int))) (inner:=[]) (ok:=fun _=>True) (okp:=fun _=>True) ?hr ?hp (fun _ hk=>hk) trivial (Below.refl _ _) (Nat.le_refl _) (by simp) ?_;(case hd=>rfl);(case hg=>rfl);(case hr=>first|(go_simp;done)|(go_simp;rfl));(case hp=>exact (Reps.none _ _));intro v104 w6 ho7 hb hg_ hnew_;clear hg_ hnew_;(first|rw [← Ny103.out] at ho7|(simp only [Int.reduceToNat] at ho7;rw [← Ny103.out] at ho7));have n0_:=Aside0.mk (Kd.S_lower ho7 (below_size bl));have n1_:=Aside0.mk (blk_below (g:=gb101) (o:=.cells #[.int .i64 a0_0,.slice A0_1 l0_1.length c0_1] 28 (0,0)) bk hb);have n2_:=Aside0.mk (blk_below (g:=gb102) (o:=.cells #[.int .i64 0,.slice none 0 0] 28 (0,0)) bk hb);have n3_:=Aside0.mk (below_step bl hb);clear BK101;clear BK102;clear HB;have HO105:=n0_;have BK101:=n1_;have BK102:=n2_;have HB:=n3_;clear n0_ n1_ n2_ n3_;clear hb ho7;obtain ⟨Ao8,co8,eo8⟩:=Kd.S_slice HO105.out;subst eo8)|((with_reducible refine gate_dst (N:=3) rfl ?_);refine box_event ?hg (N:=3) ?hd (cs:=#[.int .i64 0,.slice none 0 0]) (t:=28) ?hr ?_;(case hd=>rfl);(case hg=>rfl);(case hr=>first|(go_simp;done)|(go_simp;rfl));intro gb106 hg w9 hbox hb;have n0_:=Aside0.mk (Kd.S_below (by (with_reducible repeat (first|apply Kd.S_alloc|apply Kd.S_drewN|apply Kd.S_drew));exact HO105.out) hb);have n1_:=Aside0.mk (blk_below (g:=gb101) (o:=.cells #[.int .i64 a0_0,.slice A0_1 l0_1.length c0_1] 28 (0,0)) bk hb);have n2_:=Aside0.mk (blk_below (g:=gb102) (o:=.cells #[.int .i64 0,.slice none 0 0] 28 (0,0)) bk hb);have n3_:=Aside0.mk (below_step bl hb);have n4_:=Aside0.mk (hbox);have n5_:=Aside0.mk ((by rw [hg];exact (below_size bl):w.heap.size≤gb106));have n6_:=Aside0.mk ((by rw [hg];exact (below_size bl):w.heap.size≤gb106));have n7_:=Aside0.mk ((by rw [hg];exact Nat.ne_of_lt (blk_lt (g:=gb101) (o:=.cells #[.int .i64 a0_0,.slice A0_1 l0_1.length c0_1] 28 (0,0)) bk):gb101 ≠ gb106));have n8_:=Aside0.mk ((by rw [hg];exact Nat.ne_of_gt (blk_lt (g:=gb101) (o:=.cells #[.int .i64 a0_0,.slice A0_1 l0_1.length c0_1] 28 (0,0)) bk):gb106 ≠ gb101));have n9_:=Aside0.mk ((by rw [hg];exact Nat.ne_of_lt (blk_lt (g:=gb102) (o:=.cells #[.int .i64 0,.slice none 0 0] 28 (0,0)) bk):gb102 ≠ gb106));have n10_:=Aside0.mk ((by rw [hg];exact Nat.ne_of_gt (blk_lt (g:=gb102) (o:=.cells #[.int .i64 0,.slice none 0 0] 28 (0,0)) bk):gb106 ≠ gb102));clear HO105;clear BK101;clear BK102;clear HB;have HO105:=n0_;have BK101:=n1_;have BK102:=n2_;have HB:=n3_;have BK106:=n4_;have GW106:=n5_;have GE106:=n6_;have NB101_106:=n7_;have NB106_101:=n8_;have NB102_106:=n9_;have NB106_102:=n10_;clear n0_ n1_ n2_ n3_ n4_ n5_ n6_ n7_ n8_ n9_ n10_;clear hb hbox hg;have hnb10:=NB106_101.out;have hnc10:=NB101_106.out;have hnb11:=NB106_102.out;have hnc11:=NB102_106.out;have hcz12_0:w9.cell? ⟨gb106,0,none⟩=some (.int .i64 0):=(blk_cell BK106.out 0).trans rfl;have hcz12_1:w9.cell? ⟨gb106,1,none⟩=some (.slice none 0 0):=(blk_cell BK106.out 1).trans rfl;have hfz12_0:=blk_frozen BK106.out 0;have hfz12_1:=blk_frozen BK106.out 1))
 go_loopg [4] k (fun kq v4 w'=>∃ (x4_1:Int) (x107001_1:List (List Int)) (u107001:Value),v4=.int .i64 x4_1∧Aside0 (spec_l01Copy.l0 kq x4_1 a0_0 l0_1 a0_0 x107001_1=some (r1,r2))∧Aside0 (kq≤k)∧Aside0 (Kd.S (Kd.slice 2 (Kd.int .i64)) 32 w' w.heap.size (fun _=>True) u107001 x107001_1)∧Aside0 (w'.heap[gb101]?=some (.cells #[.int .i64 a0_0,(.slice A0_1 l0_1.length c0_1)] 28 (0,0)))∧Aside0 (w'.heap[gb102]?=some (.cells #[.int .i64 0,(.slice none 0 0)] 28 (0,0)))∧Aside0 (w'.heap[gb106]?=some (.cells #[.int .i64 a0_0,u107001] 28 (0,0)))∧Aside0 (Below w.heap.size w w'))
 case atStart=>exact ⟨(0),(y103),(.slice Ao8 y103.length co8),rs,H',⟨Nat.le_refl _⟩,⟨by (with_reducible repeat (first|apply Kd.S_alloc|apply Kd.S_drewN|apply Kd.S_drew));exact Kd.S_mono (Kd.S_far (p:=⟨gb106,1,none⟩) (Kd.S_far (p:=⟨gb106,0,none⟩) (Kd.S_types HO105.out BK106.out (by decide)) (fun _ hk=>hk.2) (.int .i64 a0_0)) (fun _ hk=>hk.2) (.slice Ao8 y103.length co8)) (fun _ hk=>trivial)⟩,⟨by (with_reducible repeat (first|refine blk_drewN ?_ _|refine blk_drew ?_|refine blk_alloc ?_ _));refine blk_far ?_ NB101_106.out _;(with_reducible repeat (first|refine blk_drewN ?_ _|refine blk_drew ?_|refine blk_alloc ?_ _));refine blk_far ?_ NB101_106.out _;(with_reducible repeat (first|refine blk_drewN ?_ _|refine blk_drew ?_|refine blk_alloc ?_ _));exact BK101.out⟩,⟨by (with_reducible repeat (first|refine blk_drewN ?_ _|refine blk_drew ?_|refine blk_alloc ?_ _));refine blk_far ?_ NB102_106.out _;(with_reducible repeat (first|refine blk_drewN ?_ _|refine blk_drew ?_|refine blk_alloc ?_ _));refine blk_far ?_ NB102_106.out _;(with_reducible repeat (first|refine blk_drewN ?_ _|refine blk_drew ?_|refine blk_alloc ?_ _));exact BK102.out⟩,⟨by (with_reducible repeat (first|refine blk_drewN ?_ _|refine blk_drew ?_|refine blk_alloc ?_ _));refine blk_put (cs:=#[.int .i64 a0_0,.slice none 0 0]) ?_ 1 _ rfl;(with_reducible repeat (first|refine blk_drewN ?_ _|refine blk_drew ?_|refine blk_alloc ?_ _));refine blk_put (cs:=#[.int .i64 0,.slice none 0 0]) ?_ 0 _ rfl;(with_reducible repeat (first|refine blk_drewN ?_ _|refine blk_drew ?_|refine blk_alloc ?_ _));exact BK106.out⟩,⟨bl⟩⟩
 case round =>
  clear H'
  (try clear c1);(try clear p2);(try clear c4);(try clear c9);(try clear c10);(try clear c11);(try clear hcz12_0);(try clear hcz12_1);(try clear hcz5_0);(try clear hcz5_1);(try clear hfz12_0);(try clear hfz12_1);(try clear hfz5_0);(try clear hfz5_1)
  obtain ⟨x4_1,x107001_1,u107001,rfl,HA,HK1,HO_107001,BK101,BK102,BK106,HB⟩:=hrel
  cases gk with
  | zero=>exact absurd HA.out (by simp [spec_l01Copy.l0])
  | succ k1 =>
   have H:=HA.out
   clear HA
   simp only [spec_l01Copy.l0] at H
   by_cases c13:x4_1 < (l0_1.length:Int)
   case neg =>
    rw [if_neg c13] at H
    have c13b0:decide (x4_1 < (l0_1.length:Int))=false:=decide_eq_false c13
    clear c13
    simp only [Option.some.injEq,Prod.mk.injEq] at H
    obtain ⟨rfl,rfl⟩:=H
    have hnb26:=NB101_102.out
    have hnc26:=NB102_101.out
    have hnb27:=NB101_106.out
    have hnc27:=NB106_101.out
    have hcz28_0:wr.cell? ⟨gb101,0,none⟩=some (.int .i64 a0_0):=(blk_cell BK101.out 0).trans rfl
    have hcz28_1:wr.cell? ⟨gb101,1,none⟩=some (.slice A0_1 l0_1.length c0_1):=(blk_cell BK101.out 1).trans rfl
    have hfz28_0:=blk_frozen BK101.out 0
    have hfz28_1:=blk_frozen BK101.out 1
    have hnb29:=NB106_102.out
    have hnc29:=NB102_106.out
    have hcz30_0:wr.cell? ⟨gb106,0,none⟩=some (.int .i64 a0_0):=(blk_cell BK106.out 0).trans rfl
    have hcz30_1:wr.cell? ⟨gb106,1,none⟩=some (u107001):=(blk_cell BK106.out 1).trans rfl
    have hfz30_0:=blk_frozen BK106.out 0
    have hfz30_1:=blk_frozen BK106.out 1
    have hcz31_0:wr.cell? ⟨gb102,0,none⟩=some (.int .i64 0):=(blk_cell BK102.out 0).trans rfl
    have hcz31_1:wr.cell? ⟨gb102,1,none⟩=some (.slice none 0 0):=(blk_cell BK102.out 1).trans rfl
    have hfz31_0:=blk_frozen BK102.out 0
    have hfz31_1:=blk_frozen BK102.out 1
    obtain ⟨Ao32,co32,eo32⟩:=Kd.S_slice HO_107001.out
    subst eo32
    go_wp2
    refine bodyPost_ret (results_cell_row rfl _ _ gb102 28 #[.int .i64 a0_0,.slice Ao32 x107001_1.length co32] (0,0) _ rfl (by (with_reducible repeat (first|refine blk_drewN ?_ _|refine blk_drew ?_|refine blk_alloc ?_ _));refine blk_put (cs:=#[.int .i64 a0_0,.slice none 0 0]) ?_ 1 _ rfl;(with_reducible repeat (first|refine blk_drewN ?_ _|refine blk_drew ?_|refine blk_alloc ?_ _));refine blk_put (cs:=#[.int .i64 0,.slice none 0 0]) ?_ 0 _ rfl;(with_reducible repeat (first|refine blk_drewN ?_ _|refine blk_drew ?_|refine blk_alloc ?_ _));exact BK102.out) Try.underlying28 rfl (by kernel_rfl)) rfl ?_
    exact ⟨_,by first|rfl|(simp [errW_none,errW_some]<;>rfl)|(simp [*,errW_none,errW_some]<;>rfl),by (with_reducible repeat (first|apply Kd.S_alloc|apply Kd.S_drewN|apply Kd.S_drew));exact Kd.S_mono (Kd.S_far (p:=⟨gb102,1,none⟩) (Kd.S_far (p:=⟨gb102,0,none⟩) (Kd.S_types HO_107001.out BK102.out (by decide)) (fun _ hk=>hk.2) (.int .i64 a0_0)) (fun _ hk=>hk.2) (.slice Ao32 x107001_1.length co32)) (fun _ hk=>trivial),bl⟩
   rw [if_pos c13] at H
   have c13b0:decide (x4_1 < (l0_1.length:Int))=true:=decide_eq_true c13
   clear c13
   by_cases c14:0≤x4_1
   case neg=>rw [if_neg c14] at H;exact absurd H (by simp)
   rw [if_pos c14] at H
   have c14b0:decide (0≤x4_1)=true:=decide_eq_true c14
   clear c14
   replace H:=Option.bind_eq_some_iff.mp H
   obtain ⟨t108,A150,H⟩:=H
   replace H:(if x107001_1.length < 5864062014805 then (spec_l01Copy.l0 k1 (wrap64 (x4_1+1)) a0_0 l0_1 a0_0 (x107001_1 ++ [t108])) else (none))=some (r1,r2):=H
   have A15:=Aside0.mk A150
   clear A150
   by_cases c16:x107001_1.length < 5864062014805
   case neg=>rw [if_neg c16] at H;exact absurd H (by simp)
   rw [if_pos c16] at H
   have LMc16:=Aside0.mk c16
   clear c16
   obtain ⟨y111,hy111⟩:∃ y_:List (List Int),y_=(x107001_1 ++ [t108]):=⟨_,rfl⟩
   replace H:(spec_l01Copy.l0 k1 (wrap64 (x4_1+1)) a0_0 l0_1 a0_0 y111)=some (r1,r2):=by first|(rw [hy111];with_reducible exact H)|(have H2_:=(Option.bind_some _ _).symm.trans H;rw [hy111];with_reducible exact H2_)|(have H2_:=(Option.bind_some _ _).symm.trans H;with_reducible exact H2_)|with_reducible exact H|(rw [hy111];exact H)|exact H
   have Ny111:=Aside0.mk hy111
   clear hy111
   have H':=Aside0.mk H
   clear H
   have hnb17:=NB101_102.out
   have hnc17:=NB102_101.out
   have hnb18:=NB101_106.out
   have hnc18:=NB106_101.out
   have hcz19_0:wr.cell? ⟨gb101,0,none⟩=some (.int .i64 a0_0):=(blk_cell BK101.out 0).trans rfl
   have hcz19_1:wr.cell? ⟨gb101,1,none⟩=some (.slice A0_1 l0_1.length c0_1):=(blk_cell BK101.out 1).trans rfl
   have hfz19_0:=blk_frozen BK101.out 0
   have hfz19_1:=blk_frozen BK101.out 1
   try go_wp2
   have n0_:=Aside0.mk (Kd.S_drew HO_107001.out)
   have n1_:=Aside0.mk (blk_drew BK101.out)
   have n2_:=Aside0.mk (blk_drew BK102.out)
   have n3_:=Aside0.mk (blk_drew BK106.out)
   have n4_:=Aside0.mk (below_drew1 HB.out)
   clear HO_107001
   clear BK101
   clear BK102
   clear BK106
   clear HB
   have HO_107001:=n0_
   have BK101:=n1_
   have BK102:=n2_
   have BK106:=n3_
   have HB:=n4_
   clear n0_ n1_ n2_ n3_ n4_
   have p107:0≤(x4_1:Int):=oD
   have q107:x4_1 < (l0_1.length:Int):=oD
   obtain ⟨ad107,A107_0,c107_0,e107,hx107_0,hl107_0,hi107_0⟩:=at_L1 HR0_1.out x4_1 p107 q107
   have hw107_0:=hx107_0
   cases e107
   replace hx107_0:=hbc HB hx107_0
   have HR107_0:=Aside0.mk hi107_0
   have HC107_0:=Aside0.mk hl107_0
   clear hi107_0 hl107_0
   replace p107:=eq_true p107
   replace q107:=eq_true q107
   refine start_ (n:=12) (S:=fun w'=>w'.cell? ⟨gb106,0,none⟩=some (.int .i64 a0_0)∧w'.cell? ⟨gb106,1,none⟩=some (u107001)∧w'.cell? ⟨gb101,0,none⟩=some (.int .i64 a0_0)∧w'.cell? ⟨gb101,1,none⟩=some (.slice (some ad107) l0_1.length c0_1)∧w'.cell? (ad107.add (x4_1).toNat)=some (.slice A107_0 (rd_L1 l0_1 x4_1).length c107_0)) (ds:=[11]) #[false,false,false,false,false,false,false,false,false,false,false,false] (by kernel_rfl) rfl rfl ⟨(blk_cell BK106.out 0).trans rfl,(blk_cell BK106.out 1).trans rfl,(blk_cell BK101.out 0).trans rfl,(blk_cell BK101.out 1).trans rfl,(hbc HB hw107_0)⟩ (fun hHeld=>?_);refine with_tabW spec_l01Copy.tab5 spec_l01Copy.bits5 (fun HT_ HW_=>?_)
   generalize wr.drew=w20 at HO_107001 BK101 BK102 BK106 HB HR107_0 hx107_0 hHeld ⊢
   refine pure_ (i:=0) (N:=some 16) (v:=?_) (a':=?_) #[true,false,false,false,false,false,false,false,false,false,false,false] rfl rfl (any_of HT_.out (by kernel_rfl)) (fun _ _ _ h=>h) (Or.inl ⟨by rfl,?_⟩) ?_ ?_
   rotate_left;· intro w';go_simp;with_reducible rfl
   rotate_left;· simp only [Act.put,zI,zZ,zS,i64_w,i32_w];rfl
   refine pure_ (i:=2) (N:=some 18) (v:=?_) (a':=?_) #[true,false,true,false,false,false,false,false,false,false,false,false] rfl rfl (any_of HT_.out (by kernel_rfl)) (fun _ _ _ h=>h) (Or.inl ⟨by rfl,?_⟩) ?_ ?_
   rotate_left;· intro w';go_simp;with_reducible rfl
   rotate_left;· simp only [Act.put,zI,zZ,zS,i64_w,i32_w];rfl
   refine pure_ (i:=4) (N:=some 20) (v:=?_) (a':=?_) #[true,false,true,false,true,false,false,false,false,false,false,false] rfl rfl (any_of HT_.out (by kernel_rfl)) (fun _ _ _ h=>h) (Or.inl ⟨by rfl,?_⟩) ?_ ?_
   rotate_left;· intro w';go_simp;with_reducible rfl
   rotate_left;· simp only [Act.put,zI,zZ,zS,i64_w,i32_w];rfl
   refine take_ (i:=1) (N:=some 17) (v:=?_) (a':=?_) #[true,true,true,false,true,false,false,false,false,false,false,false] rfl rfl (take_ofW HT_.out HW_.out (by kernel_rfl)) (fun _ _ _ h=>h) (Or.inl ⟨by rfl,?_⟩) hHeld ?_ ?_
   rotate_left;· rintro w' ⟨s0,s1,s2,s3,s4⟩;go_simp;with_reducible rfl
   rotate_left;· simp only [Act.put,zI,zZ,zS,i64_w,i32_w];rfl
   refine take_ (i:=3) (N:=some 19) (v:=?_) (a':=?_) #[true,true,true,true,true,false,false,false,false,false,false,false] rfl rfl (take_ofW HT_.out HW_.out (by kernel_rfl)) (fun _ _ _ h=>h) (Or.inl ⟨by rfl,?_⟩) hHeld ?_ ?_
   rotate_left;· rintro w' ⟨s0,s1,s2,s3,s4⟩;go_simp;with_reducible rfl
   rotate_left;· simp only [Act.put,zI,zZ,zS,i64_w,i32_w];rfl
   refine pure_ (i:=5) (N:=some 21) (v:=?_) (a':=?_) #[true,true,true,true,true,true,false,false,false,false,false,false] rfl rfl (any_of HT_.out (by kernel_rfl)) (fun _ _ _ h=>h) (Or.inl ⟨by rfl,?_⟩) ?_ ?_
   rotate_left;· intro w';go_simp;with_reducible rfl
   rotate_left;· simp only [Act.put,zI,zZ,zS,i64_w,i32_w];rfl
   refine take_ (i:=6) (N:=some 22) (v:=?_) (a':=?_) #[true,true,true,true,true,true,true,false,false,false,false,false] rfl rfl (take_ofW HT_.out HW_.out (by kernel_rfl)) (fun _ _ _ h=>h) (Or.inl ⟨by rfl,?_⟩) hHeld ?_ ?_
   rotate_left;· rintro w' ⟨s0,s1,s2,s3,s4⟩;go_simp;with_reducible rfl
   rotate_left;· simp only [Act.put,zI,zZ,zS,i64_w,i32_w];rfl
   refine one_ (i:=7) (N:=some 23) #[true,true,true,true,true,true,true,true,false,false,false,false] rfl rfl (one_of HT_.out (by kernel_rfl)) (by decide) (fun K hK=>?_)
   refine goes_ Try.func102 (by kernel_rfl) rfl #[.slice A107_0 (rd_L1 l0_1 x4_1).length c107_0] (by rfl) rfl rfl gm ?_
   with_reducible refine (spec_l01Own.calls _ _ (rd_L1 l0_1 x4_1) t108 _ ?side1 ?side2 A15.out).mono ?_
   (case side1=>repeat (first|exact (Kd.C_below HR107_0.out HB.out)|(with_reducible refine Kd.C_alloc ?_ _)|(with_reducible refine Kd.C_drewN ?_ _)|(with_reducible refine Kd.C_drew ?_)))
   (case side2=>exact HC107_0.out)
   rintro e w21 ⟨v109,rfl,ho0,hb⟩
   refine ⟨_,rfl,?_⟩
   have n0_:=Aside0.mk (Kd.S_elder' (by (with_reducible repeat (first|apply Kd.S_alloc|apply Kd.S_drewN|apply Kd.S_drew));exact HO_107001.out) (Kd.R_base ho0) hb)
   have n1_:=Aside0.mk (Kd.R_lower ho0 (below_size bl))
   have n2_:=Aside0.mk (blk_below (g:=gb101) (o:=.cells #[.int .i64 a0_0,.slice (some ad107) l0_1.length c0_1] 28 (0,0)) bk hb)
   have n3_:=Aside0.mk (blk_below (g:=gb102) (o:=.cells #[.int .i64 0,.slice none 0 0] 28 (0,0)) bk hb)
   have n4_:=Aside0.mk (blk_below (g:=gb106) (o:=.cells #[.int .i64 a0_0,u107001] 28 (0,0)) bk hb)
   have n5_:=Aside0.mk (below_step bl hb)
   clear HO_107001
   clear BK101
   clear BK102
   clear BK106
   clear HB
   have HO_107001:=n0_
   have HO110:=n1_
   have BK101:=n2_
   have BK102:=n3_
   have BK106:=n4_
   have HB:=n5_
   clear n0_ n1_ n2_ n3_ n4_ n5_
   (try clear hb)
   (try clear hb2)
   (try clear hk)
   (try clear hi)
   (try clear ho0)
   obtain ⟨Ao23,co23,eo23⟩:=Kd.R_slice HO110.out
   (first|subst eo23|(injection eo23 with f1_ f2_ f3_;have f4_:=f1_.symm;have f5_:=f3_.symm;clear f1_ f2_ f3_;subst f4_;subst f5_))
   refine hK.out _ _ ⟨(blk_cell BK106.out 0).trans rfl,(blk_cell BK106.out 1).trans rfl,(blk_cell BK101.out 0).trans rfl,(blk_cell BK101.out 1).trans rfl,(hbc HB hw107_0)⟩ (fun hHeld=>?_)
   clear hK K
   refine norm_ (a':=?_) ?_ ?_
   rotate_left;· show Act.put _ (some 23) _=_;simp only [Act.put,zI,zZ,zS,i64_w,i32_w];rfl
   refine one_ (i:=8) (N:=some 24) #[true,true,true,true,true,true,true,true,true,false,false,false] rfl rfl (one_of HT_.out (by kernel_rfl)) (by decide) (fun K hK=>?_)
   refine value_ (w1:=?_) (v:=?_) (by rfl) rfl ?_ ?_
   rotate_left 2
   ·go_simp
    constructor
    ·rfl
    ·rfl
   refine hK.out _ _ ⟨(blk_cell (blk_alloc BK106.out _) 0).trans rfl,(blk_cell (blk_alloc BK106.out _) 1).trans rfl,(blk_cell (blk_alloc BK101.out _) 0).trans rfl,(blk_cell (blk_alloc BK101.out _) 1).trans rfl,(World.cell?_alloc_lt _ _ _ (World.block_lt_of_cell? _ _ ((hbc HB hw107_0)))).trans ((hbc HB hw107_0))⟩ (fun hHeld=>?_)
   clear hK K
   refine norm_ (a':=?_) ?_ ?_
   rotate_left;· show Act.put _ (some 24) _=_;simp only [Act.put,zI,zZ,zS,i64_w,i32_w];rfl
   refine one_ (i:=9) (N:=some 25) #[true,true,true,true,true,true,true,true,true,true,false,false] rfl rfl (one_of HT_.out (by kernel_rfl)) (by decide) (fun K hK=>?_)
   refine Kd.S_append_step (Kd.slice 2 (Kd.int .i64)) (w0:=w) w.heap.size (by rfl) (.tmp 17) (.tmp 24) 22 32 (.slice none 0 0) 24 rfl Try.underlying22 info32 rfl (by decide) (by omega) u107001 x107001_1 t108 [.slice Ao23 t108.length co23] (fun _=>True) (fun k_=>some k_=(.slice Ao23 t108.length co23:Value).ownBlock) rfl rfl ?aP (fun k_ hk_=>((Kd.R_mono (ok':=fun k_=>((fun _=>True)) k_∧some k_ ≠ (u107001:Value).ownBlock) (Kd.R_apart' (HO110.out) (Kd.S_typed HO_107001.out) (by decide)) (fun k_ hk=>⟨trivial,hk.2⟩))).1 k_ hk_.symm) ?aF ?aO ?aB ?aS ?aL ?_
   (case aP=>exact Kd.M_row (Kd.R_mono (Kd.R_tight rfl (Kd.R_mono (ok':=fun k_=>((fun _=>True)) k_∧some k_ ≠ (u107001:Value).ownBlock) (Kd.R_apart' (HO110.out) (Kd.S_typed HO_107001.out) (by decide)) (fun k_ hk=>⟨trivial,hk.2⟩))) (fun _ h_=>h_)))
   (case aB=>exact bl)
   (case aF=>exact (fun _ _=>trivial))
   (case aO=>exact (by (with_reducible repeat (first|apply Kd.S_alloc|apply Kd.S_drewN|apply Kd.S_drew));exact Kd.S_mono HO_107001.out (fun k_ hk=>⟨trivial,fun e_=>hk.2 e_⟩)))
   (case aS=>exact (below_size bl))
   (case aL=>have:=LMc16.out;omega)
   intro v112 w22 ho hb hg hat
   rw [← Ny111.out] at ho
   have n0_:=Aside0.mk (blk_grown (g:=gb101) (o:=.cells #[.int .i64 a0_0,.slice (some ad107) l0_1.length c0_1] 28 (0,0)) bk hg (Kd.S_ne HO_107001.out BK101.out (by decide)))
   have n1_:=Aside0.mk (blk_grown (g:=gb102) (o:=.cells #[.int .i64 0,.slice none 0 0] 28 (0,0)) bk hg (Kd.S_ne HO_107001.out BK102.out (by decide)))
   have n2_:=Aside0.mk (blk_grown (g:=gb106) (o:=.cells #[.int .i64 a0_0,u107001] 28 (0,0)) bk hg (Kd.S_ne HO_107001.out BK106.out (by decide)))
   have n3_:=Aside0.mk (hb)
   have n4_:=Aside0.mk (ho)
   clear BK101
   clear BK102
   clear BK106
   clear HB
   clear HO_107001
   clear HO110
   have BK101:=n0_
   have BK102:=n1_
   have BK106:=n2_
   have HB:=n3_
   have HO113:=n4_
   clear n0_ n1_ n2_ n3_ n4_
   clear ho hb hg hat
   obtain ⟨Ao24,co24,eo24⟩:=Kd.S_slice HO113.out
   (first|subst eo24|(injection eo24 with f1_ f2_ f3_;have f4_:=f1_.symm;have f5_:=f3_.symm;clear f1_ f2_ f3_;subst f4_;subst f5_))
   refine hK.out _ _ ⟨(blk_cell BK106.out 0).trans rfl,(blk_cell BK106.out 1).trans rfl,(blk_cell BK101.out 0).trans rfl,(blk_cell BK101.out 1).trans rfl,(hbc HB hw107_0)⟩ (fun hHeld=>?_)
   clear hK K
   refine norm_ (a':=?_) ?_ ?_
   rotate_left;· show Act.put _ (some 25) _=_;simp only [Act.put,zI,zZ,zS,i64_w,i32_w];rfl
   refine pure_ (i:=10) (N:=some 26) (v:=?_) (a':=?_) #[true,true,true,true,true,true,true,true,true,true,true,false] rfl rfl (any_of HT_.out (by kernel_rfl)) (fun _ _ _ h=>h) (Or.inl ⟨by rfl,?_⟩) ?_ ?_
   rotate_left;· intro w';go_simp;with_reducible rfl
   rotate_left;· simp only [Act.put,zI,zZ,zS,i64_w,i32_w];rfl
   refine last_ (i:=11) (N:=none) #[true,true,true,true,true,true,true,true,true,true,true,true] rfl rfl (one_of HT_.out (by kernel_rfl)) (by decide) (fun K hK=>?_)
   have hs25:w22.cell? ⟨gb106,1,none⟩=some (u107001):=(blk_cell BK106.out 1).trans rfl
   have hfs25:=blk_frozen BK106.out 1
   have hns25_0:=NB101_106.out
   have hns25_1:=NB102_106.out
   have hms25_0:=NB106_101.out
   have hms25_1:=NB106_102.out
   refine skip_ (w1:=?_) (by rfl) rfl ?_ ?_
   rotate_left;· go_simp;rfl
   refine hK.out _ _ ?_
   clear hK K
   refine done_ (done_of HT_.out (by kernel_rfl)) ?_
   try go_wp2
   go_roundg k1
   case measure=>have:=HK1.out;omega
   case rel=>exact ⟨(wrap64 (x4_1+1)),(y111),(.slice Ao24 y111.length co24),rs,H',⟨by have:=HK1.out;omega⟩,⟨by (with_reducible repeat (first|apply Kd.S_alloc|apply Kd.S_drewN|apply Kd.S_drew));exact Kd.S_mono (Kd.S_far (p:=⟨gb106,1,none⟩) (Kd.S_types HO113.out BK106.out (by decide)) (fun _ hk=>hk.2) (.slice Ao24 y111.length co24)) (fun _ hk=>trivial)⟩,⟨by (with_reducible repeat (first|refine blk_drewN ?_ _|refine blk_drew ?_|refine blk_alloc ?_ _));refine blk_far ?_ NB101_106.out _;(with_reducible repeat (first|refine blk_drewN ?_ _|refine blk_drew ?_|refine blk_alloc ?_ _));exact BK101.out⟩,⟨by (with_reducible repeat (first|refine blk_drewN ?_ _|refine blk_drew ?_|refine blk_alloc ?_ _));refine blk_far ?_ NB102_106.out _;(with_reducible repeat (first|refine blk_drewN ?_ _|refine blk_drew ?_|refine blk_alloc ?_ _));exact BK102.out⟩,⟨by (with_reducible repeat (first|refine blk_drewN ?_ _|refine blk_drew ?_|refine blk_alloc ?_ _));refine blk_put (cs:=#[.int .i64 a0_0,u107001]) ?_ 1 _ rfl;(with_reducible repeat (first|refine blk_drewN ?_ _|refine blk_drew ?_|refine blk_alloc ?_ _));exact BK106.out⟩,⟨bl⟩⟩
/-- A state of type 97 at block g of W; what its slices lead to came in by w0. -/
def IsS97 (w0 W:World) (g:Nat) (f0:List Int) (f1:Int) (f2:Int):Prop:=∃ A0 c0,W.heap[g]?=some (.cells #[.slice A0 f0.length c0,.int .i64 f1,.int .u64 f2] 97 (0,0))∧w0.heap.size≤g∧Kd.C (Kd.int .u8) w0 A0 f0.length f0
theorem IsS97.grown {w0 W:World} {g:Nat} {f0:List Int} {f1:Int} {f2:Int} {W1:World} {row:Option Nat} (h:IsS97 w0 W g f0 f1 f2) (hw:W.grownBy W1 row) (hne:some g ≠ row):IsS97 w0 W1 g f0 f1 f2:=by
 obtain ⟨A0,c0,hb,hg,hr0⟩:=h
 exact ⟨A0,c0,blk_grown hb hw hne,hg,hr0⟩
theorem IsS97.own_neN {w0 W:World} {g:Nat} {f0:List Int} {f1:Int} {f2:Int} {α:Type} {d:Kd α} {e:Nat} {base:Nat} {ok:Nat→Prop} {v:Value} {xs:List α} (h:IsS97 w0 W g f0 f1 f2) (ho:Kd.N d e W base ok v xs) (ht:e ≠ 97):some g ≠ v.ownBlock:=by
 obtain ⟨A0,c0,hb,hg,hr0⟩:=h
 exact Kd.N_ne ho hb ht
theorem IsS97.fresh {w0 W:World} {g:Nat} {f0:List Int} {f1:Int} {f2:Int} (h:IsS97 w0 W g f0 f1 f2):∀ k,W.heap.size≤k→k ≠ g:=by
 obtain ⟨A0,c0,hb,hg,hr0⟩:=h
 exact Kd.freshB hb
theorem IsS97.kept {w0 W:World} {g:Nat} {f0:List Int} {f1:Int} {f2:Int} {W1:World} {S:Nat→Prop} (h:IsS97 w0 W g f0 f1 f2) (hk:Kept W W1 S) (hne:¬ S g):IsS97 w0 W1 g f0 f1 f2:=by
 obtain ⟨A0,c0,hb,hg,hr0⟩:=h
 exact ⟨A0,c0,blk_kept hb hk hne,hg,hr0⟩
theorem IsS97.below {w0 W:World} {g:Nat} {f0:List Int} {f1:Int} {f2:Int} {W1:World} (h:IsS97 w0 W g f0 f1 f2) (hw:Below W.heap.size W W1):IsS97 w0 W1 g f0 f1 f2:=h.grown (grown_of_below hw none) (by simp)
theorem IsS97.alloc {w0 W:World} {g:Nat} {f0:List Int} {f1:Int} {f2:Int} (h:IsS97 w0 W g f0 f1 f2) (o:Obj):IsS97 w0 (W.alloc o) g f0 f1 f2:=h.below (below_alloc (Below.refl _ _) o)
theorem IsS97.drewN {w0 W:World} {g:Nat} {f0:List Int} {f1:Int} {f2:Int} (h:IsS97 w0 W g f0 f1 f2) (m:Nat):IsS97 w0 (W.drewN m) g f0 f1 f2:=h
theorem IsS97.drew {w0 W:World} {g:Nat} {f0:List Int} {f1:Int} {f2:Int} (h:IsS97 w0 W g f0 f1 f2):IsS97 w0 W.drew g f0 f1 f2:=h
theorem IsS97.at_ {w0 W:World} {g:Nat} {f0:List Int} {f1:Int} {f2:Int} {w':World} {m:Nat} (hq:W.drewN m=w') (h:IsS97 w0 W g f0 f1 f2):IsS97 w0 w' g f0 f1 f2:=by subst hq;exact IsS97.drewN h m
theorem IsS97.apart {w0 W:World} {g:Nat} {f0:List Int} {f1:Int} {f2:Int} {α:Type} {d:Kd α} {e:Nat} {base:Nat} {ok:Nat→Prop} {v:Value} {xs:List α} (h:IsS97 w0 W g f0 f1 f2) (ho:d.R e W base ok v xs) (ht:∀ q,q ∈ e :: d.E→q ≠ 97):d.R e W base (fun k=>ok k∧k ≠ g) v xs:=by
 obtain ⟨A0,c0,hb,hg,hr0⟩:=h
 exact Kd.R_types ho hb ht
theorem IsS97.own_ne {w0 W:World} {g:Nat} {f0:List Int} {f1:Int} {f2:Int} {α:Type} {d:Kd α} {e:Nat} {base:Nat} {ok:Nat→Prop} {v:Value} {xs:List α} (h:IsS97 w0 W g f0 f1 f2) (ho:d.R e W base ok v xs) (ht:e ≠ 97):some g ≠ v.ownBlock:=by
 obtain ⟨A0,c0,hb,hg,hr0⟩:=h
 exact Kd.R_ne ho hb ht
theorem IsS97.apartQ {w0 W:World} {g:Nat} {f0:List Int} {f1:Int} {f2:Int} {α:Type} {d:Kd α} {e:Nat} {base:Nat} {ok:Nat→Prop} {v:Value} {xs:List α} (h:IsS97 w0 W g f0 f1 f2) (ho:d.Q e W base ok v xs) (ht:∀ q,q ∈ e :: d.E→q ≠ 97):d.Q e W base (fun k=>ok k∧k ≠ g) v xs:=by
 obtain ⟨A0,c0,hb,hg,hr0⟩:=h
 exact Kd.Q_types ho hb ht
theorem IsS97.own_neQ {w0 W:World} {g:Nat} {f0:List Int} {f1:Int} {f2:Int} {α:Type} {d:Kd α} {e:Nat} {base:Nat} {ok:Nat→Prop} {v:Value} {xs:List α} (h:IsS97 w0 W g f0 f1 f2) (ho:d.Q e W base ok v xs) (ht:e ≠ 97):some g ≠ v.ownBlock:=by
 obtain ⟨A0,c0,hb,hg,hr0⟩:=h
 exact Kd.Q_ne ho hb ht
theorem IsS97.apartS {w0 W:World} {g:Nat} {f0:List Int} {f1:Int} {f2:Int} {α:Type} {d:Kd α} {e:Nat} {base:Nat} {ok:Nat→Prop} {v:Value} {xs:List α} (h:IsS97 w0 W g f0 f1 f2) (ho:d.S e W base ok v xs) (ht:∀ q,q ∈ e :: d.E→q ≠ 97):d.S e W base (fun k=>ok k∧k ≠ g) v xs:=by
 obtain ⟨A0,c0,hb,hg,hr0⟩:=h
 exact Kd.S_types ho hb ht
theorem IsS97.own_neS {w0 W:World} {g:Nat} {f0:List Int} {f1:Int} {f2:Int} {α:Type} {d:Kd α} {e:Nat} {base:Nat} {ok:Nat→Prop} {v:Value} {xs:List α} (h:IsS97 w0 W g f0 f1 f2) (ho:d.S e W base ok v xs) (ht:e ≠ 97):some g ≠ v.ownBlock:=by
 obtain ⟨A0,c0,hb,hg,hr0⟩:=h
 exact Kd.S_ne ho hb ht
theorem IsS97.lt {w0 W:World} {g:Nat} {f0:List Int} {f1:Int} {f2:Int} (h:IsS97 w0 W g f0 f1 f2):g < W.heap.size:=by
 obtain ⟨A0,c0,hb,hg,hr0⟩:=h
 exact blk_lt hb
theorem IsS97.ge {w0 W:World} {g:Nat} {f0:List Int} {f1:Int} {f2:Int} (h:IsS97 w0 W g f0 f1 f2):w0.heap.size≤g:=by
 obtain ⟨A0,c0,hb,hg,hr0⟩:=h
 exact hg
theorem IsS97.ne_blk {w0 W:World} {g:Nat} {f0:List Int} {f1:Int} {f2:Int} {a:Nat} {cs:Array Value} {t:TypeId} {fr:Nat × Nat} (h:IsS97 w0 W g f0 f1 f2) (hb2:W.heap[a]?=some (.cells cs t fr)) (ht:t ≠ 97):g ≠ a:=by
 obtain ⟨A0,c0,hb,hg,hr0⟩:=h
 rintro rfl
 rw [hb] at hb2
 injection hb2 with hb2
 injection hb2 with _ ht2
 exact ht ht2.symm
theorem IsS97.far {w0 W:World} {g:Nat} {f0:List Int} {f1:Int} {f2:Int} {p:Addr} (h:IsS97 w0 W g f0 f1 f2) (hne:g ≠ p.block) (u:Value):IsS97 w0 (W.setCell p u) g f0 f1 f2:=by
 obtain ⟨A0,c0,hb,hg,hr0⟩:=h
 exact ⟨A0,c0,blk_far hb hne u,hg,hr0⟩
theorem cellS97_0 {W:World} {g:Nat} {A0:Option Addr} {c0:Nat} {f0:List Int} {f1:Int} {f2:Int} (h:W.heap[g]?=some (.cells #[.slice A0 f0.length c0,.int .i64 f1,.int .u64 f2] 97 (0,0))):W.cell? ⟨g,0,none⟩=some (.slice A0 f0.length c0):=(blk_cell h 0).trans rfl
theorem cellS97_1 {W:World} {g:Nat} {A0:Option Addr} {c0:Nat} {f0:List Int} {f1:Int} {f2:Int} (h:W.heap[g]?=some (.cells #[.slice A0 f0.length c0,.int .i64 f1,.int .u64 f2] 97 (0,0))):W.cell? ⟨g,1,none⟩=some (.int .i64 f1):=(blk_cell h 1).trans rfl
theorem IsS97.set_1 {w0 W:World} {g:Nat} {f0:List Int} {f1:Int} {f2:Int} (h:IsS97 w0 W g f0 f1 f2) (x:Int):IsS97 w0 (W.setCell ⟨g,1,none⟩ (.int .i64 x)) g f0 x f2:=by
 obtain ⟨A0,c0,hb,hg,hr0⟩:=h
 exact ⟨A0,c0,by simpa using blk_set hb 1 (.int .i64 x),hg,hr0⟩
theorem cellS97_2 {W:World} {g:Nat} {A0:Option Addr} {c0:Nat} {f0:List Int} {f1:Int} {f2:Int} (h:W.heap[g]?=some (.cells #[.slice A0 f0.length c0,.int .i64 f1,.int .u64 f2] 97 (0,0))):W.cell? ⟨g,2,none⟩=some (.int .u64 f2):=(blk_cell h 2).trans rfl
theorem IsS97.set_2 {w0 W:World} {g:Nat} {f0:List Int} {f1:Int} {f2:Int} (h:IsS97 w0 W g f0 f1 f2) (x:Int):IsS97 w0 (W.setCell ⟨g,2,none⟩ (.int .u64 x)) g f0 f1 x:=by
 obtain ⟨A0,c0,hb,hg,hr0⟩:=h
 exact ⟨A0,c0,by simpa using blk_set hb 2 (.int .u64 x),hg,hr0⟩
theorem IsS97.new (w0 W:World) (A0:Option Addr) (c0:Nat) (f0:List Int) (f1:Int) (f2:Int) (hB:Below w0.heap.size w0 W) (hr0:Kd.C (Kd.int .u8) w0 A0 f0.length f0):IsS97 w0 (W.alloc (.cells #[.slice A0 f0.length c0,.int .i64 f1,.int .u64 f2] 97)) W.heap.size f0 f1 f2:=⟨A0,c0,by simpa using heap_alloc_new W _,hB.size,hr0⟩
/-! ### spec_l01Next: function 125 -/
def spec_l01Next.f (s0_0:List Int) (s0_1:Int) (s0_2:Int) (a1:Int):Option (Int × Int × Int):=if a1 < 1 then (some (0,s0_1,s0_2)) else (if s0_1 < (s0_0.length:Int) then (if 0≤s0_1 then (if a1=0 then (none) else (some (Int.tmod (wrap64 ((wrap64 (Go.bits .and .u64 ((IntKind.u64.wrap ((IntKind.u64.wrap (s0_2 * 6364136223846793005))+1442695040888963407)) / 2147483648) 1073741823))+(wrap64 (rd s0_0 s0_1)))) a1,wrap64 (s0_1+1),IntKind.u64.wrap ((IntKind.u64.wrap (s0_2 * 6364136223846793005))+1442695040888963407)))) else (none)) else (if a1=0 then (none) else (some (Int.tmod (wrap64 (Go.bits .and .u64 ((IntKind.u64.wrap ((IntKind.u64.wrap (s0_2 * 6364136223846793005))+1442695040888963407)) / 2147483648) 1073741823)) a1,s0_1,IntKind.u64.wrap ((IntKind.u64.wrap (s0_2 * 6364136223846793005))+1442695040888963407)))))
set_option maxHeartbeats 8000000 in
set_option maxRecDepth 100000 in
theorem spec_l01Next.calls (g : Nat) (s0_0 : List Int) (s0_1 : Int) (s0_2 : Int) (a1 : Int) (r1 : Int) (r2 : Int) (r3 : Int) (w0 w : World) (hI : IsS97 w0 w g s0_0 s0_1 s0_2) (hB : Below w0.heap.size w0 w) (h : spec_l01Next.f s0_0 s0_1 s0_2 a1 = some (r1, r2, r3)) :
  Calls Try.prog 125 #[.pointer (some ⟨g,0,none⟩),.int .i64 a1] w fun e w'=>e=.returned (.int .i64 r1)∧IsS97 w0 w' g s0_0 r2 r3∧Below w0.heap.size w0 w'∧KeepBut w w' g none:=by
 have HI0:=Aside0.mk hI
 have HK:=Aside0.mk (KeepBut.refl w g none)
 have HL:=Aside0.mk hB.size
 clear hI
 have HW0:=Aside0.mk hB.size
 have HB:=Aside0.mk hB
 clear hB
 have H:(if a1 < 1 then (some (0,s0_1,s0_2)) else (if s0_1 < (s0_0.length:Int) then (if 0≤s0_1 then (if a1=0 then (none) else (some (Int.tmod (wrap64 ((wrap64 (Go.bits .and .u64 ((IntKind.u64.wrap ((IntKind.u64.wrap (s0_2 * 6364136223846793005))+1442695040888963407)) / 2147483648) 1073741823))+(wrap64 (rd s0_0 s0_1)))) a1,wrap64 (s0_1+1),IntKind.u64.wrap ((IntKind.u64.wrap (s0_2 * 6364136223846793005))+1442695040888963407)))) else (none)) else (if a1=0 then (none) else (some (Int.tmod (wrap64 (Go.bits .and .u64 ((IntKind.u64.wrap ((IntKind.u64.wrap (s0_2 * 6364136223846793005))+1442695040888963407)) / 2147483648) 1073741823)) a1,s0_1,IntKind.u64.wrap ((IntKind.u64.wrap (s0_2 * 6364136223846793005))+1442695040888963407))))))=some (r1,r2,r3):=h
 clear h
 by_cases c3:a1 < 1
 case neg =>
  rw [if_neg c3] at H
  have c3b0:decide (a1 < 1)=false:=decide_eq_false c3
  clear c3
  by_cases c4:s0_1 < (s0_0.length:Int)
  case neg =>
   rw [if_neg c4] at H
   have c4b0:decide (s0_1 < (s0_0.length:Int))=false:=decide_eq_false c4
   clear c4
   by_cases c8:a1=0
   case neg =>
    rw [if_neg c8] at H
    have c8b0:(a1 == 0)=false:=beq_eq_false_iff_ne.mpr c8
    have c8b1:(a1 != 0)=true:=bne_iff_ne.mpr c8
    simp only [Option.some.injEq,Prod.mk.injEq] at H
    obtain ⟨rfl,rfl,rfl⟩:=H
    obtain ⟨ASz9_0,cSz9_0,HGz9,hgz9,HSz9_0⟩:=HI0.out
    have hcz9_0:=cellS97_0 HGz9
    have hcz9_1:=cellS97_1 HGz9
    have hcz9_2:=cellS97_2 HGz9
    have hfz9_1:=blk_frozen HGz9 1
    have hfz9_2:=blk_frozen HGz9 2
    clear HGz9 hgz9
    go_enter Try.func125,Try.ntmps125
    go_wp2
    repeat (go_quiet (fail);try go_wp2)
    go_ret
    exact ⟨by first|rfl|(simp [errW_none,errW_some]<;>rfl)|(simp [*,errW_none,errW_some]<;>rfl),by repeat (first|(with_reducible first|exact HI0.out|apply IsS97.alloc|apply IsS97.drewN|apply IsS97.drew|apply IsS97.set_1|apply IsS97.set_2)|exact HI0.out),by repeat (first|(with_reducible first|exact HB.out|apply below_alloc|apply pw_below_drewN|apply below_drew1|refine below_set ?_ (IsS97.ge HI0.out))|exact HB.out),by repeat (first|(with_reducible first|exact HK.out|apply KeepBut.set_|apply keep_drewN|apply keep_drew|apply keep_alloc)|exact HK.out)⟩
   rw [if_pos c8] at H
   exact absurd H (by simp)
  rw [if_pos c4] at H
  have c4b0:decide (s0_1 < (s0_0.length:Int))=true:=decide_eq_true c4
  clear c4
  by_cases c5:0≤s0_1
  case neg=>rw [if_neg c5] at H;exact absurd H (by simp)
  rw [if_pos c5] at H
  have c5b0:decide (0≤s0_1)=true:=decide_eq_true c5
  clear c5
  by_cases c6:a1=0
  case neg =>
   rw [if_neg c6] at H
   have c6b0:(a1 == 0)=false:=beq_eq_false_iff_ne.mpr c6
   have c6b1:(a1 != 0)=true:=bne_iff_ne.mpr c6
   simp only [Option.some.injEq,Prod.mk.injEq] at H
   obtain ⟨rfl,rfl,rfl⟩:=H
   obtain ⟨ASz7_0,cSz7_0,HGz7,hgz7,HSz7_0⟩:=HI0.out
   have hcz7_0:=cellS97_0 HGz7
   have hcz7_1:=cellS97_1 HGz7
   have hcz7_2:=cellS97_2 HGz7
   have hfz7_1:=blk_frozen HGz7 1
   have hfz7_2:=blk_frozen HGz7 2
   clear HGz7 hgz7
   have p101:0≤(s0_1:Int):=oD
   have q101:s0_1 < (s0_0.length:Int):=oD
   obtain ⟨ad101,e101,hx101_0⟩:=Kd.at_int HSz7_0 s0_1 p101 q101
   cases e101
   have hn101_0:ad101.block ≠ g:=Nat.ne_of_lt (Nat.lt_of_lt_of_le (by have:=World.block_lt_of_cell? _ _ hx101_0;first|rwa [add_block] at this|exact this) (IsS97.ge HI0.out))
   replace hx101_0:=pw_cell_below HB.out hx101_0
   replace hx101_0:=(cell_far (p:=⟨g,2,none⟩) (by first|(rw [add_block];exact hn101_0)|(show (Addr.add _ _).block ≠ _;rw [add_block];exact hn101_0)|exact hn101_0) (.int .u64 (IntKind.u64.wrap ((IntKind.u64.wrap (s0_2 * 6364136223846793005))+1442695040888963407)))).trans hx101_0
   (try have hy101_0:=fun (n_:Nat)=>(show (((w.drewN n_).setCell ⟨g,2,none⟩ (.int .u64 (IntKind.u64.wrap ((IntKind.u64.wrap (s0_2 * 6364136223846793005))+1442695040888963407))))).cell? _=some _ from hx101_0))
   clear hn101_0
   replace p101:=eq_true p101
   replace q101:=eq_true q101
   go_enter Try.func125,Try.ntmps125
   go_wp2
   repeat (go_quiet (fail);try go_wp2)
   go_ret
   exact ⟨by first|rfl|(simp [errW_none,errW_some]<;>rfl)|(simp [*,errW_none,errW_some]<;>rfl),by repeat (first|(with_reducible first|exact HI0.out|apply IsS97.alloc|apply IsS97.drewN|apply IsS97.drew|apply IsS97.set_1|apply IsS97.set_2)|exact HI0.out),by repeat (first|(with_reducible first|exact HB.out|apply below_alloc|apply pw_below_drewN|apply below_drew1|refine below_set ?_ (IsS97.ge HI0.out))|exact HB.out),by repeat (first|(with_reducible first|exact HK.out|apply KeepBut.set_|apply keep_drewN|apply keep_drew|apply keep_alloc)|exact HK.out)⟩
  rw [if_pos c6] at H
  exact absurd H (by simp)
 rw [if_pos c3] at H
 have c3b0:decide (a1 < 1)=true:=decide_eq_true c3
 clear c3
 simp only [Option.some.injEq,Prod.mk.injEq] at H
 obtain ⟨rfl,rfl,rfl⟩:=H
 go_enter Try.func125,Try.ntmps125
 go_wp2
 repeat (go_quiet (fail);try go_wp2)
 go_ret
 exact ⟨by first|rfl|(simp [errW_none,errW_some]<;>rfl)|(simp [*,errW_none,errW_some]<;>rfl),by repeat (first|(with_reducible first|exact HI0.out|apply IsS97.alloc|apply IsS97.drewN|apply IsS97.drew|apply IsS97.set_1|apply IsS97.set_2)|exact HI0.out),by repeat (first|(with_reducible first|exact HB.out|apply below_alloc|apply pw_below_drewN|apply below_drew1|refine below_set ?_ (IsS97.ge HI0.out))|exact HB.out),by repeat (first|(with_reducible first|exact HK.out|apply KeepBut.set_|apply keep_drewN|apply keep_drew|apply keep_alloc)|exact HK.out)⟩
/-! ### spec_l01Pick: function 126 -/
def spec_l01Pick.f (s0_0:List Int) (s0_1:Int) (s0_2:Int) (l1:List Int):Option (Int × Int × Int):=(spec_l01Next.f s0_0 s0_1 s0_2 (l1.length:Int)).bind fun bt101=>(if 0≤bt101.1 then (if bt101.1 < (l1.length:Int) then (some (rd l1 bt101.1,bt101.2.1,bt101.2.2)) else (none)) else (none))
set_option maxHeartbeats 8000000 in
set_option maxRecDepth 100000 in
theorem spec_l01Pick.calls (g : Nat) (s0_0 : List Int) (s0_1 : Int) (s0_2 : Int) (A1 : Option Addr) (c1 : Nat) (l1 : List Int) (r1 : Int) (r2 : Int) (r3 : Int) (w0 w : World) (hI : IsS97 w0 w g s0_0 s0_1 s0_2) (hB : Below w0.heap.size w0 w) (hr1 : Kd.C (Kd.int .i64) w A1 l1.length l1) (hc1 : l1.length ≤ c1) (hf1 : ∀ ad, A1 = some ad → 0 < l1.length → ad.block ≠ g) (h : spec_l01Pick.f s0_0 s0_1 s0_2 l1 = some (r1, r2, r3)) :
  Calls Try.prog 126 #[.pointer (some ⟨g,0,none⟩),.slice A1 l1.length c1] w fun e w'=>e=.returned (.int .i64 r1)∧IsS97 w0 w' g s0_0 r2 r3∧Below w0.heap.size w0 w'∧KeepBut w w' g none:=by
 have HR1:=Aside0.mk hr1
 have HC1:=Aside0.mk hc1
 clear hr1 hc1
 have HI0:=Aside0.mk hI
 have HK:=Aside0.mk (KeepBut.refl w g none)
 have HL:=Aside0.mk hB.size
 clear hI
 have HW0:=Aside0.mk hB.size
 have HB:=Aside0.mk hB
 clear hB
 have H:((spec_l01Next.f s0_0 s0_1 s0_2 (l1.length:Int)).bind fun bt101=>(if 0≤bt101.1 then (if bt101.1 < (l1.length:Int) then (some (rd l1 bt101.1,bt101.2.1,bt101.2.2)) else (none)) else (none)))=some (r1,r2,r3):=h
 clear h
 replace H:=Option.bind_eq_some_iff.mp H
 obtain ⟨⟨t101,t102,t103⟩,A30,H⟩:=H
 replace H:(if 0≤t101 then (if t101 < (l1.length:Int) then (some (rd l1 t101,t102,t103)) else (none)) else (none))=some (r1,r2,r3):=H
 have A3:=Aside0.mk A30
 clear A30
 by_cases c4:0≤t101
 case neg=>rw [if_neg c4] at H;exact absurd H (by simp)
 rw [if_pos c4] at H
 have c4b0:decide (0≤t101)=true:=decide_eq_true c4
 clear c4
 by_cases c5:t101 < (l1.length:Int)
 case neg=>rw [if_neg c5] at H;exact absurd H (by simp)
 rw [if_pos c5] at H
 have c5b0:decide (t101 < (l1.length:Int))=true:=decide_eq_true c5
 clear c5
 simp only [Option.some.injEq,Prod.mk.injEq] at H
 obtain ⟨rfl,rfl,rfl⟩:=H
 go_enter Try.func126,Try.ntmps126
 go_wp2_with (first|((with_reducible refine gate_callee (f:=125) rfl ?_);refine goesL_ (some 9) rfl rfl Try.func125 (by kernel_rfl) rfl #[.pointer (some ⟨g,0,none⟩),.int .i64 (l1.length:Int)] rfl gm ?_;(with_reducible refine (spec_l01Next.calls g s0_0 s0_1 s0_2 (l1.length:Int) t101 t102 t103 w0 _ ?side1 ?side2 A3.out).mono ?_);(case side1=>repeat (first|(with_reducible first|exact HI0.out|apply IsS97.alloc|apply IsS97.drewN|apply IsS97.drew|apply IsS97.set_1|apply IsS97.set_2)|exact HI0.out));(case side2=>repeat (first|(with_reducible first|exact HB.out|apply below_alloc|apply pw_below_drewN|apply below_drew1|refine below_set ?_ (IsS97.ge HI0.out))|exact HB.out));rintro e w6 ⟨rfl,hi,hb,hk⟩;refine ⟨_,rfl,?_⟩;have n0_:=Aside0.mk (KeepBut.trans (by repeat (first|(with_reducible first|exact HK.out|apply KeepBut.set_|apply keep_drewN|apply keep_drew|apply keep_alloc)|exact HK.out)) hk (.inl rfl));have n1_:=Aside0.mk (hb);have n2_:=Aside0.mk (hi);clear HK;clear HB;clear HI0;have HK:=n0_;have HB:=n1_;have HI0:=n2_;clear n0_ n1_ n2_;(try clear hb);(try clear hb2);(try clear hk);(try clear hi);have p104:0≤(t101:Int):=oD;have q104:t101 < (l1.length:Int):=oD;obtain ⟨ad104,e104,hx104_0⟩:=Kd.at_int HR1.out t101 p104 q104;cases e104;replace hx104_0:=keep_cell HK.out hx104_0 (by first|(rw [add_block];exact hf1 _ rfl (by omega))|exact hf1 _ rfl (by omega)|exact hf1 ad104 rfl (by omega));replace p104:=eq_true p104;replace q104:=eq_true q104))
 go_ret
 exact ⟨by first|rfl|(simp [errW_none,errW_some]<;>rfl)|(simp [*,errW_none,errW_some]<;>rfl),by repeat (first|(with_reducible first|exact HI0.out|apply IsS97.alloc|apply IsS97.drewN|apply IsS97.drew|apply IsS97.set_1|apply IsS97.set_2)|exact HI0.out),by repeat (first|(with_reducible first|exact HB.out|apply below_alloc|apply pw_below_drewN|apply below_drew1|refine below_set ?_ (IsS97.ge HI0.out))|exact HB.out),by repeat (first|(with_reducible first|exact HK.out|apply KeepBut.set_|apply keep_drewN|apply keep_drew|apply keep_alloc)|exact HK.out)⟩
end Go.Proofs.Ytjgdibhalmcigaa.D
/- Set with little white space, by a program. -/
