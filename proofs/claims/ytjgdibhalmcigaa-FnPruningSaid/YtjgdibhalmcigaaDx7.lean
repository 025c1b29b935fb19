/- The functions that one law reaches, each as a Lean function, and that Go's call comes to what it says. Condition of each: that the Lean function answers (is not none). -/
import Derived.Test.YtjgdibhalmcigaaDx0
import Derived.Test.YtjgdibhalmcigaaDx6
namespace Go.Proofs.Ytjgdibhalmcigaa.D
open Go.RowKit Go.Proofs.YtjgdibhalmcigaaW.PrintWords Go.Proofs.YtjgdibhalmcigaaW.PrintLast Go.Proofs.YtjgdibhalmcigaaW.PrintMore
attribute [local go_sem] max2_int min2_int max_two min_two max_three min_three max_four min_four   -- for this text's walks alone
set_option linter.unusedVariables false
set_option linter.unusedSimpArgs false
/-! ### impl_Graph_own: function 59 -/
def impl_Graph_own.l0 : Nat → List (List Int) → Int → Int → Int → List (List Int) → Option (Int × (List (List Int)))
 | 0,_,_,_,_,_=>none
 | k+1,x10,x11,x12,x104000,x104001=>if x12 < x11 then (if 0≤x12 then (if x12 < (x10.length:Int) then ((slices_Clone_int64_int64.f (rd_L1 x10 x12)).bind fun t105=>(if x104001.length < 5864062014805 then (impl_Graph_own.l0 k x10 x11 (wrap64 (x12+1)) x104000 (x104001 ++ [t105])) else (none))) else (none)) else (none)) else (some (x104000,x104001))
def impl_Graph_own.f (k:Nat) (a0_0:Int) (l0_1:List (List Int)):Option (Int × (List (List Int))):=impl_Graph_own.l0 k l0_1 (l0_1.length:Int) 0 a0_0 ([]:List (List Int))
theorem impl_Graph_own.mono_l : ∀ k, (∀ y0 y1 y2 y3 y4, LeO (impl_Graph_own.l0 k y0 y1 y2 y3 y4) (impl_Graph_own.l0 (k + 1) y0 y1 y2 y3 y4))
 | 0=>fun _ _ _ _ _ r h=>by simp [impl_Graph_own.l0] at h
 | k+1=>by
  have ih0:=impl_Graph_own.mono_l k
  ·intro y0 y1 y2 y3 y4
   unfold impl_Graph_own.l0
   repeat' first
   | (with_reducible exact ih0 _ _ _ _ _)
   | (with_reducible exact LeO.refl _)
   | (with_reducible exact LeO.none _)
   | (with_reducible refine LeO.ite ?_ ?_)
   | (with_reducible refine LeO.bind ?_ (fun _=>?_))
   | exact ih0 _ _ _ _ _
   | exact LeO.none _
   | refine LeO.ite ?_ ?_
   | refine LeO.bind ?_ (fun _=>?_)
theorem impl_Graph_own.mono:∀ a0 a1 k,LeO (impl_Graph_own.f k a0 a1) (impl_Graph_own.f (k+1) a0 a1):=by
 intro a0 a1 k
 have ih0:=impl_Graph_own.mono_l k
 unfold impl_Graph_own.f
 repeat' first
   | (with_reducible exact ih0 _ _ _ _ _)
   | (with_reducible exact LeO.refl _)
   | (with_reducible exact LeO.none _)
   | (with_reducible refine LeO.ite ?_ ?_)
   | (with_reducible refine LeO.bind ?_ (fun _=>?_))
   | exact ih0 _ _ _ _ _
   | exact LeO.none _
   | refine LeO.ite ?_ ?_
   | refine LeO.bind ?_ (fun _=>?_)
def impl_Graph_own.T5:Bool × List (List Nat × List Nat):=(true,[([],[]),([0],[0]),([],[]),([2],[2]),([3],[3]),([1,4,3],[1,4]),([0,1,2,3,4,5],[]),([6,5,5,0,1,2,3,4,5],[5,6])])
def impl_Graph_own.B5:List Nat:=[0,1,0,4,12,31,63,127]
theorem impl_Graph_own.tab5:rtab .any (opsOf Try.f59 5)=impl_Graph_own.T5:=by kernel_rfl
theorem impl_Graph_own.bits5:waitsOk impl_Graph_own.T5.2 impl_Graph_own.B5=true:=by kernel_rfl
set_option maxHeartbeats 8000000 in
set_option maxRecDepth 100000 in
theorem impl_Graph_own.calls (k : Nat) (a0_0 : Int) (A0_1 : Option Addr) (c0_1 : Nat) (l0_1 : List (List Int)) (r1 : Int) (r2 : List (List Int)) (w : World) (hr0_1 : Kd.C (Kd.slice 2 (Kd.int .i64)) w A0_1 l0_1.length l0_1) (hc0_1 : l0_1.length ≤ c0_1) (h : impl_Graph_own.f k a0_0 l0_1 = some (r1, r2)) :
  Calls Try.prog 59 #[.agg #[.int .i64 a0_0,.slice A0_1 l0_1.length c0_1]] w fun e w'=>∃ v1_:Value,e=.returned (.agg #[.int .i64 r1,v1_])∧Kd.S (Kd.slice 2 (Kd.int .i64)) 32 w' w.heap.size (fun _=>True) v1_ r2∧Below w.heap.size w w':=by
 have hu28:=Try.underlying28
 have HR0_1:=Aside0.mk hr0_1
 have HC0_1:=Aside0.mk hc0_1
 clear hr0_1 hc0_1
 have HB:=Aside0.mk (Below.refl w.heap.size w)
 have H:(impl_Graph_own.l0 k l0_1 (l0_1.length:Int) 0 a0_0 ([]:List (List Int)))=some (r1,r2):=h
 clear h
 have H':=Aside0.mk H
 clear H
 go_enter Try.func59,Try.ntmps59
 go_wp2_with (first|((with_reducible refine gate_dst (N:=1) rfl ?_);refine box_event ?hg (N:=1) ?hd (cs:=#[.int .i64 a0_0,.slice A0_1 l0_1.length c0_1]) (t:=28) ?hr ?_;(case hd=>rfl);(case hg=>rfl);(case hr=>first|(go_simp;done)|(go_simp;rfl));intro gb101 hg w2 hbox hb;have n0_:=Aside0.mk (below_step bl hb);have n1_:=Aside0.mk (hbox);have n2_:=Aside0.mk ((by rw [hg];exact (below_size bl):w.heap.size≤gb101));have n3_:=Aside0.mk ((by rw [hg];exact (below_size bl):w.heap.size≤gb101));clear HB;have HB:=n0_;have BK101:=n1_;have GW101:=n2_;have GE101:=n3_;clear n0_ n1_ n2_ n3_;clear hb hbox hg)|((with_reducible refine gate_dst (N:=2) rfl ?_);refine box_event ?hg (N:=2) ?hd (cs:=#[.int .i64 0,.slice none 0 0]) (t:=28) ?hr ?_;(case hd=>rfl);(case hg=>rfl);(case hr=>first|(go_simp;done)|(go_simp;rfl));intro gb102 hg w3 hbox hb;have n0_:=Aside0.mk (blk_below (g:=gb101) (o:=.cells #[.int .i64 a0_0,.slice A0_1 l0_1.length c0_1] 28 (0,0)) bk hb);have n1_:=Aside0.mk (below_step bl hb);have n2_:=Aside0.mk (hbox);have n3_:=Aside0.mk ((by rw [hg];exact (below_size bl):w.heap.size≤gb102));have n4_:=Aside0.mk ((by rw [hg];exact (below_size bl):w.heap.size≤gb102));have n5_:=Aside0.mk ((by rw [hg];exact Nat.ne_of_lt (blk_lt (g:=gb101) (o:=.cells #[.int .i64 a0_0,.slice A0_1 l0_1.length c0_1] 28 (0,0)) bk):gb101 ≠ gb102));have n6_:=Aside0.mk ((by rw [hg];exact Nat.ne_of_gt (blk_lt (g:=gb101) (o:=.cells #[.int .i64 a0_0,.slice A0_1 l0_1.length c0_1] 28 (0,0)) bk):gb102 ≠ gb101));clear BK101;clear HB;have BK101:=n0_;have HB:=n1_;have BK102:=n2_;have GW102:=n3_;have GE102:=n4_;have NB101_102:=n5_;have NB102_101:=n6_;clear n0_ n1_ n2_ n3_ n4_ n5_ n6_;clear hb hbox hg;have hnb4:=NB101_102.out;have hnc4:=NB102_101.out;have hcz5_0:w3.cell? ⟨gb101,0,none⟩=some (.int .i64 a0_0):=(blk_cell BK101.out 0).trans rfl;have hcz5_1:w3.cell? ⟨gb101,1,none⟩=some (.slice A0_1 l0_1.length c0_1):=(blk_cell BK101.out 1).trans rfl;have hfz5_0:=blk_frozen BK101.out 0;have hfz5_1:=blk_frozen BK101.out 1)|((with_reducible refine gate_dst (N:=3) rfl ?_);refine box_event ?hg (N:=3) ?hd (cs:=#[.int .i64 0,.slice none 0 0]) (t:=28) ?hr ?_;(case hd=>rfl);(case hg=>rfl);(case hr=>first|(go_simp;done)|(go_simp;rfl));intro gb103 hg w6 hbox hb;have n0_:=Aside0.mk (blk_below (g:=gb101) (o:=.cells #[.int .i64 a0_0,.slice A0_1 l0_1.length c0_1] 28 (0,0)) bk hb);have n1_:=Aside0.mk (blk_below (g:=gb102) (o:=.cells #[.int .i64 0,.slice none 0 0] 28 (0,0)) bk hb);have n2_:=Aside0.mk (below_step bl hb);have n3_:=Aside0.mk (hbox);have n4_:=Aside0.mk ((by rw [hg];exact (below_size bl):w.heap.size≤gb103));have n5_:=Aside0.mk ((by rw [hg];exact (below_size bl):w.heap.size≤gb103));have n6_:=Aside0.mk ((by rw [hg];exact Nat.ne_of_lt (blk_lt (g:=gb101) (o:=.cells #[.int .i64 a0_0,.slice A0_1 l0_1.length c0_1] 28 (0,0)) bk):gb101 ≠ gb103));have n7_:=Aside0.mk ((by rw [hg];exact Nat.ne_of_gt (blk_lt (g:=gb101) (o:=.cells #[.int .i64 a0_0,.slice A0_1 l0_1.length c0_1] 28 (0,0)) bk):gb103 ≠ gb101));have n8_:=Aside0.mk ((by rw [hg];exact Nat.ne_of_lt (blk_lt (g:=gb102) (o:=.cells #[.int .i64 0,.slice none 0 0] 28 (0,0)) bk):gb102 ≠ gb103));have n9_:=Aside0.mk ((by rw [hg];exact Nat.ne_of_gt (blk_lt (g:=gb102) (o:=.cells #[.int .i64 0,.slice none 0 0] 28 (0,0)) bk):gb103 ≠ gb102));clear BK101;clear BK102;clear HB;have BK101:=n0_;have BK102:=n1_;have HB:=n2_;have BK103:=n3_;have GW103:=n4_;have GE103:=n5_;have NB101_103:=n6_;have NB103_101:=n7_;have NB102_103:=n8_;have NB103_102:=n9_;clear n0_ n1_ n2_ n3_ n4_ n5_ n6_ n7_ n8_ n9_;clear hb hbox hg;have hnb7:=NB103_101.out;have hnc7:=NB101_103.out;have hnb8:=NB103_102.out;have hnc8:=NB102_103.out;have hcz9_0:w6.cell? ⟨gb103,0,none⟩=some (.int .i64 0):=(blk_cell BK103.out 0).trans rfl;have hcz9_1:w6.cell? ⟨gb103,1,none⟩=some (.slice none 0 0):=(blk_cell BK103.out 1).trans rfl;have hfz9_0:=blk_frozen BK103.out 0;have hfz9_1:=blk_frozen BK103.out 1;have hcz10_0:w6.cell? ⟨gb101,0,none⟩=some (.int .i64 a0_0):=(blk_cell BK101.out 0).trans rfl;have hcz10_1:w6.cell? ⟨gb101,1,none⟩=some (.slice A0_1 l0_1.length c0_1):=(blk_cell BK101.out 1).trans rfl;have hfz10_0:=blk_frozen BK101.out 0;have hfz10_1:=blk_frozen BK101.out 1))
 go_loopg [12] k (fun kq v12 w'=>∃ (x12_1:Int) (x104001_1:List (List Int)) (u104001:Value),v12=.int .i64 x12_1∧Aside0 (impl_Graph_own.l0 kq l0_1 (l0_1.length:Int) x12_1 a0_0 x104001_1=some (r1,r2))∧Aside0 (kq≤k)∧Aside0 (Kd.S (Kd.slice 2 (Kd.int .i64)) 32 w' w.heap.size (fun _=>True) u104001 x104001_1)∧Aside0 (w'.heap[gb101]?=some (.cells #[.int .i64 a0_0,(.slice A0_1 l0_1.length c0_1)] 28 (0,0)))∧Aside0 (w'.heap[gb102]?=some (.cells #[.int .i64 0,(.slice none 0 0)] 28 (0,0)))∧Aside0 (w'.heap[gb103]?=some (.cells #[.int .i64 a0_0,u104001] 28 (0,0)))∧Aside0 (Below w.heap.size w w'))
 case atStart=>exact ⟨(0),(([]:List (List Int))),(.slice none 0 0),rs,H',⟨Nat.le_refl _⟩,⟨by first|exact Kd.S_nil _ _ _ _ _|exact Kd.N_nil _ _ _ _ _|exact Kd.V_nil _ _ _ _ _|exact Kd.Q_nil _ _ _ _ _|exact Kd.R_nil _ _ _ _ _⟩,⟨by (with_reducible repeat (first|refine blk_drewN ?_ _|refine blk_drew ?_|refine blk_alloc ?_ _));refine blk_far ?_ NB101_103.out _;(with_reducible repeat (first|refine blk_drewN ?_ _|refine blk_drew ?_|refine blk_alloc ?_ _));refine blk_far ?_ NB101_103.out _;(with_reducible repeat (first|refine blk_drewN ?_ _|refine blk_drew ?_|refine blk_alloc ?_ _));exact BK101.out⟩,⟨by (with_reducible repeat (first|refine blk_drewN ?_ _|refine blk_drew ?_|refine blk_alloc ?_ _));refine blk_far ?_ NB102_103.out _;(with_reducible repeat (first|refine blk_drewN ?_ _|refine blk_drew ?_|refine blk_alloc ?_ _));refine blk_far ?_ NB102_103.out _;(with_reducible repeat (first|refine blk_drewN ?_ _|refine blk_drew ?_|refine blk_alloc ?_ _));exact BK102.out⟩,⟨by (with_reducible repeat (first|refine blk_drewN ?_ _|refine blk_drew ?_|refine blk_alloc ?_ _));refine blk_put (cs:=#[.int .i64 a0_0,.slice none 0 0]) ?_ 1 _ rfl;(with_reducible repeat (first|refine blk_drewN ?_ _|refine blk_drew ?_|refine blk_alloc ?_ _));refine blk_put (cs:=#[.int .i64 0,.slice none 0 0]) ?_ 0 _ rfl;(with_reducible repeat (first|refine blk_drewN ?_ _|refine blk_drew ?_|refine blk_alloc ?_ _));exact BK103.out⟩,⟨bl⟩⟩
 case round =>
  clear H'
  (try clear p2);(try clear c4);(try clear c5);(try clear c7);(try clear c8);(try clear hcz10_0);(try clear hcz10_1);(try clear hcz5_0);(try clear hcz5_1);(try clear hcz9_0);(try clear hcz9_1);(try clear hfz10_0);(try clear hfz10_1);(try clear hfz5_0);(try clear hfz5_1);(try clear hfz9_0);(try clear hfz9_1)
  obtain ⟨x12_1,x104001_1,u104001,rfl,HA,HK1,HO_104001,BK101,BK102,BK103,HB⟩:=hrel
  cases gk with
  | zero=>exact absurd HA.out (by simp [impl_Graph_own.l0])
  | succ k1 =>
   have H:=HA.out
   clear HA
   simp only [impl_Graph_own.l0] at H
   by_cases c11:x12_1 < (l0_1.length:Int)
   case neg =>
    rw [if_neg c11] at H
    have c11b0:decide (x12_1 < (l0_1.length:Int))=false:=decide_eq_false c11
    clear c11
    simp only [Option.some.injEq,Prod.mk.injEq] at H
    obtain ⟨rfl,rfl⟩:=H
    have hnb22:=NB103_101.out
    have hnc22:=NB101_103.out
    have hnb23:=NB103_102.out
    have hnc23:=NB102_103.out
    have hcz24_0:wr.cell? ⟨gb103,0,none⟩=some (.int .i64 a0_0):=(blk_cell BK103.out 0).trans rfl
    have hcz24_1:wr.cell? ⟨gb103,1,none⟩=some (u104001):=(blk_cell BK103.out 1).trans rfl
    have hfz24_0:=blk_frozen BK103.out 0
    have hfz24_1:=blk_frozen BK103.out 1
    have hnb25:=NB102_101.out
    have hnc25:=NB101_102.out
    have hcz26_0:wr.cell? ⟨gb102,0,none⟩=some (.int .i64 0):=(blk_cell BK102.out 0).trans rfl
    have hcz26_1:wr.cell? ⟨gb102,1,none⟩=some (.slice none 0 0):=(blk_cell BK102.out 1).trans rfl
    have hfz26_0:=blk_frozen BK102.out 0
    have hfz26_1:=blk_frozen BK102.out 1
    obtain ⟨Ao27,co27,eo27⟩:=Kd.S_slice HO_104001.out
    subst eo27
    go_wp2
    refine bodyPost_ret (results_cell_row rfl _ _ gb102 28 #[.int .i64 a0_0,.slice Ao27 x104001_1.length co27] (0,0) _ rfl (by (with_reducible repeat (first|refine blk_drewN ?_ _|refine blk_drew ?_|refine blk_alloc ?_ _));refine blk_put (cs:=#[.int .i64 a0_0,.slice none 0 0]) ?_ 1 _ rfl;(with_reducible repeat (first|refine blk_drewN ?_ _|refine blk_drew ?_|refine blk_alloc ?_ _));refine blk_put (cs:=#[.int .i64 0,.slice none 0 0]) ?_ 0 _ rfl;(with_reducible repeat (first|refine blk_drewN ?_ _|refine blk_drew ?_|refine blk_alloc ?_ _));exact BK102.out) Try.underlying28 rfl (by kernel_rfl)) rfl ?_
    exact ⟨_,by first|rfl|(simp [errW_none,errW_some]<;>rfl)|(simp [*,errW_none,errW_some]<;>rfl),by (with_reducible repeat (first|apply Kd.S_alloc|apply Kd.S_drewN|apply Kd.S_drew));exact Kd.S_mono (Kd.S_far (p:=⟨gb102,1,none⟩) (Kd.S_far (p:=⟨gb102,0,none⟩) (Kd.S_types HO_104001.out BK102.out (by decide)) (fun _ hk=>hk.2) (.int .i64 a0_0)) (fun _ hk=>hk.2) (.slice Ao27 x104001_1.length co27)) (fun _ hk=>trivial),bl⟩
   rw [if_pos c11] at H
   have c11b0:decide (x12_1 < (l0_1.length:Int))=true:=decide_eq_true c11
   clear c11
   by_cases c12:0≤x12_1
   case neg=>rw [if_neg c12] at H;exact absurd H (by simp)
   rw [if_pos c12] at H
   have c12b0:decide (0≤x12_1)=true:=decide_eq_true c12
   clear c12
   by_cases c13:x12_1 < (l0_1.length:Int)
   case neg=>rw [if_neg c13] at H;exact absurd H (by simp)
   rw [if_pos c13] at H
   have c13b0:decide (x12_1 < (l0_1.length:Int))=true:=decide_eq_true c13
   clear c13
   replace H:=Option.bind_eq_some_iff.mp H
   obtain ⟨t105,A140,H⟩:=H
   replace H:(if x104001_1.length < 5864062014805 then (impl_Graph_own.l0 k1 l0_1 (l0_1.length:Int) (wrap64 (x12_1+1)) a0_0 (x104001_1 ++ [t105])) else (none))=some (r1,r2):=H
   have A14:=Aside0.mk A140
   clear A140
   by_cases c15:x104001_1.length < 5864062014805
   case neg=>rw [if_neg c15] at H;exact absurd H (by simp)
   rw [if_pos c15] at H
   have LMc15:=Aside0.mk c15
   clear c15
   obtain ⟨y108,hy108⟩:∃ y_:List (List Int),y_=(x104001_1 ++ [t105]):=⟨_,rfl⟩
   replace H:(impl_Graph_own.l0 k1 l0_1 (l0_1.length:Int) (wrap64 (x12_1+1)) a0_0 y108)=some (r1,r2):=by first|(rw [hy108];with_reducible exact H)|(have H2_:=(Option.bind_some _ _).symm.trans H;rw [hy108];with_reducible exact H2_)|(have H2_:=(Option.bind_some _ _).symm.trans H;with_reducible exact H2_)|with_reducible exact H|(rw [hy108];exact H)|exact H
   have Ny108:=Aside0.mk hy108
   clear hy108
   have H':=Aside0.mk H
   clear H
   have p104:0≤(x12_1:Int):=oD
   have q104:x12_1 < (l0_1.length:Int):=oD
   obtain ⟨ad104,A104_0,c104_0,e104,hx104_0,hl104_0,hi104_0⟩:=at_L1 HR0_1.out x12_1 p104 q104
   cases e104
   replace hx104_0:=hbc HB hx104_0
   have HR104_0:=Aside0.mk hi104_0
   have HC104_0:=Aside0.mk hl104_0
   clear hi104_0 hl104_0
   replace p104:=eq_true p104
   replace q104:=eq_true q104
   try go_wp2
   have n0_:=Aside0.mk (Kd.S_drew HO_104001.out)
   have n1_:=Aside0.mk (blk_drew BK101.out)
   have n2_:=Aside0.mk (blk_drew BK102.out)
   have n3_:=Aside0.mk (blk_drew BK103.out)
   have n4_:=Aside0.mk (below_drew1 HB.out)
   clear HO_104001
   clear BK101
   clear BK102
   clear BK103
   clear HB
   have HO_104001:=n0_
   have BK101:=n1_
   have BK102:=n2_
   have BK103:=n3_
   have HB:=n4_
   clear n0_ n1_ n2_ n3_ n4_
   refine start_ (n:=8) (S:=fun w'=>w'.cell? ⟨gb103,0,none⟩=some (.int .i64 a0_0)∧w'.cell? ⟨gb103,1,none⟩=some (u104001)) (ds:=[7]) #[false,false,false,false,false,false,false,false] (by kernel_rfl) rfl rfl ⟨(blk_cell BK103.out 0).trans rfl,(blk_cell BK103.out 1).trans rfl⟩ (fun hHeld=>?_);refine with_tabW impl_Graph_own.tab5 impl_Graph_own.bits5 (fun HT_ HW_=>?_)
   generalize wr.drew=w16 at HO_104001 BK101 BK102 BK103 HB hHeld ⊢
   refine pure_ (i:=0) (N:=some 16) (v:=?_) (a':=?_) #[true,false,false,false,false,false,false,false] rfl rfl (any_of HT_.out (by kernel_rfl)) (fun _ _ _ h=>h) (Or.inl ⟨by rfl,?_⟩) ?_ ?_
   rotate_left;· intro w';go_simp;with_reducible rfl
   rotate_left;· simp only [Act.put,zI,zZ,zS,i64_w,i32_w];rfl
   refine pure_ (i:=2) (N:=some 18) (v:=?_) (a':=?_) #[true,false,true,false,false,false,false,false] rfl rfl (any_of HT_.out (by kernel_rfl)) (fun _ _ _ h=>h) (Or.inl ⟨by rfl,?_⟩) ?_ ?_
   rotate_left;· intro w';go_simp;with_reducible rfl
   rotate_left;· simp only [Act.put,zI,zZ,zS,i64_w,i32_w];rfl
   refine take_ (i:=1) (N:=some 17) (v:=?_) (a':=?_) #[true,true,true,false,false,false,false,false] rfl rfl (take_ofW HT_.out HW_.out (by kernel_rfl)) (fun _ _ _ h=>h) (Or.inl ⟨by rfl,?_⟩) hHeld ?_ ?_
   rotate_left;· rintro w' ⟨s0,s1⟩;go_simp;with_reducible rfl
   rotate_left;· simp only [Act.put,zI,zZ,zS,i64_w,i32_w];rfl
   refine one_ (i:=3) (N:=some 19) #[true,true,true,true,false,false,false,false] rfl rfl (one_of HT_.out (by kernel_rfl)) (by decide) (fun K hK=>?_)
   refine goes_ Try.func88 (by kernel_rfl) rfl #[.slice A104_0 (rd_L1 l0_1 x12_1).length c104_0] (by rfl) rfl rfl gm ?_
   with_reducible refine (slices_Clone_int64_int64.calls _ _ (rd_L1 l0_1 x12_1) t105 _ ?side1 ?side2 A14.out).mono ?_
   (case side1=>repeat (first|exact (Kd.C_below HR104_0.out HB.out)|(with_reducible refine Kd.C_alloc ?_ _)|(with_reducible refine Kd.C_drewN ?_ _)|(with_reducible refine Kd.C_drew ?_)))
   (case side2=>exact HC104_0.out)
   rintro e w17 ⟨v106,rfl,ho0,hb⟩
   refine ⟨_,rfl,?_⟩
   have n0_:=Aside0.mk (Kd.S_elder' (by (with_reducible repeat (first|apply Kd.S_alloc|apply Kd.S_drewN|apply Kd.S_drew));exact HO_104001.out) (Kd.R_base ho0) hb)
   have n1_:=Aside0.mk (Kd.R_lower ho0 (below_size bl))
   have n2_:=Aside0.mk (blk_below (g:=gb101) (o:=.cells #[.int .i64 a0_0,.slice (some ad104) l0_1.length c0_1] 28 (0,0)) bk hb)
   have n3_:=Aside0.mk (blk_below (g:=gb102) (o:=.cells #[.int .i64 0,.slice none 0 0] 28 (0,0)) bk hb)
   have n4_:=Aside0.mk (blk_below (g:=gb103) (o:=.cells #[.int .i64 a0_0,u104001] 28 (0,0)) bk hb)
   have n5_:=Aside0.mk (below_step bl hb)
   clear HO_104001
   clear BK101
   clear BK102
   clear BK103
   clear HB
   have HO_104001:=n0_
   have HO107:=n1_
   have BK101:=n2_
   have BK102:=n3_
   have BK103:=n4_
   have HB:=n5_
   clear n0_ n1_ n2_ n3_ n4_ n5_
   (try clear hb)
   (try clear hb2)
   (try clear hk)
   (try clear hi)
   (try clear ho0)
   obtain ⟨Ao19,co19,eo19⟩:=Kd.R_slice HO107.out
   (first|subst eo19|(injection eo19 with f1_ f2_ f3_;have f4_:=f1_.symm;have f5_:=f3_.symm;clear f1_ f2_ f3_;subst f4_;subst f5_))
   refine hK.out _ _ ⟨(blk_cell BK103.out 0).trans rfl,(blk_cell BK103.out 1).trans rfl⟩ (fun hHeld=>?_)
   clear hK K
   refine norm_ (a':=?_) ?_ ?_
   rotate_left;· show Act.put _ (some 19) _=_;simp only [Act.put,zI,zZ,zS,i64_w,i32_w];rfl
   refine one_ (i:=4) (N:=some 20) #[true,true,true,true,true,false,false,false] rfl rfl (one_of HT_.out (by kernel_rfl)) (by decide) (fun K hK=>?_)
   refine value_ (w1:=?_) (v:=?_) (by rfl) rfl ?_ ?_
   rotate_left 2
   ·go_simp
    constructor
    ·rfl
    ·rfl
   refine hK.out _ _ ⟨(blk_cell (blk_alloc BK103.out _) 0).trans rfl,(blk_cell (blk_alloc BK103.out _) 1).trans rfl⟩ (fun hHeld=>?_)
   clear hK K
   refine norm_ (a':=?_) ?_ ?_
   rotate_left;· show Act.put _ (some 20) _=_;simp only [Act.put,zI,zZ,zS,i64_w,i32_w];rfl
   refine one_ (i:=5) (N:=some 21) #[true,true,true,true,true,true,false,false] rfl rfl (one_of HT_.out (by kernel_rfl)) (by decide) (fun K hK=>?_)
   refine Kd.S_append_step (Kd.slice 2 (Kd.int .i64)) (w0:=w) w.heap.size (by rfl) (.tmp 17) (.tmp 20) 22 32 (.slice none 0 0) 24 rfl Try.underlying22 info32 rfl (by decide) (by omega) u104001 x104001_1 t105 [.slice Ao19 t105.length co19] (fun _=>True) (fun k_=>some k_=(.slice Ao19 t105.length co19:Value).ownBlock) rfl rfl ?aP (fun k_ hk_=>((Kd.R_mono (ok':=fun k_=>((fun _=>True)) k_∧some k_ ≠ (u104001:Value).ownBlock) (Kd.R_apart' (HO107.out) (Kd.S_typed HO_104001.out) (by decide)) (fun k_ hk=>⟨trivial,hk.2⟩))).1 k_ hk_.symm) ?aF ?aO ?aB ?aS ?aL ?_
   (case aP=>exact Kd.M_row (Kd.R_mono (Kd.R_tight rfl (Kd.R_mono (ok':=fun k_=>((fun _=>True)) k_∧some k_ ≠ (u104001:Value).ownBlock) (Kd.R_apart' (HO107.out) (Kd.S_typed HO_104001.out) (by decide)) (fun k_ hk=>⟨trivial,hk.2⟩))) (fun _ h_=>h_)))
   (case aB=>exact bl)
   (case aF=>exact (fun _ _=>trivial))
   (case aO=>exact (by (with_reducible repeat (first|apply Kd.S_alloc|apply Kd.S_drewN|apply Kd.S_drew));exact Kd.S_mono HO_104001.out (fun k_ hk=>⟨trivial,fun e_=>hk.2 e_⟩)))
   (case aS=>exact (below_size bl))
   (case aL=>have:=LMc15.out;omega)
   intro v109 w18 ho hb hg hat
   rw [← Ny108.out] at ho
   have n0_:=Aside0.mk (blk_grown (g:=gb101) (o:=.cells #[.int .i64 a0_0,.slice (some ad104) l0_1.length c0_1] 28 (0,0)) bk hg (Kd.S_ne HO_104001.out BK101.out (by decide)))
   have n1_:=Aside0.mk (blk_grown (g:=gb102) (o:=.cells #[.int .i64 0,.slice none 0 0] 28 (0,0)) bk hg (Kd.S_ne HO_104001.out BK102.out (by decide)))
   have n2_:=Aside0.mk (blk_grown (g:=gb103) (o:=.cells #[.int .i64 a0_0,u104001] 28 (0,0)) bk hg (Kd.S_ne HO_104001.out BK103.out (by decide)))
   have n3_:=Aside0.mk (hb)
   have n4_:=Aside0.mk (ho)
   clear BK101
   clear BK102
   clear BK103
   clear HB
   clear HO_104001
   clear HO107
   have BK101:=n0_
   have BK102:=n1_
   have BK103:=n2_
   have HB:=n3_
   have HO110:=n4_
   clear n0_ n1_ n2_ n3_ n4_
   clear ho hb hg hat
   obtain ⟨Ao20,co20,eo20⟩:=Kd.S_slice HO110.out
   (first|subst eo20|(injection eo20 with f1_ f2_ f3_;have f4_:=f1_.symm;have f5_:=f3_.symm;clear f1_ f2_ f3_;subst f4_;subst f5_))
   refine hK.out _ _ ⟨(blk_cell BK103.out 0).trans rfl,(blk_cell BK103.out 1).trans rfl⟩ (fun hHeld=>?_)
   clear hK K
   refine norm_ (a':=?_) ?_ ?_
   rotate_left;· show Act.put _ (some 21) _=_;simp only [Act.put,zI,zZ,zS,i64_w,i32_w];rfl
   refine pure_ (i:=6) (N:=some 22) (v:=?_) (a':=?_) #[true,true,true,true,true,true,true,false] rfl rfl (any_of HT_.out (by kernel_rfl)) (fun _ _ _ h=>h) (Or.inl ⟨by rfl,?_⟩) ?_ ?_
   rotate_left;· intro w';go_simp;with_reducible rfl
   rotate_left;· simp only [Act.put,zI,zZ,zS,i64_w,i32_w];rfl
   refine last_ (i:=7) (N:=none) #[true,true,true,true,true,true,true,true] rfl rfl (one_of HT_.out (by kernel_rfl)) (by decide) (fun K hK=>?_)
   have hs21:w18.cell? ⟨gb103,1,none⟩=some (u104001):=(blk_cell BK103.out 1).trans rfl
   have hfs21:=blk_frozen BK103.out 1
   have hns21_0:=NB101_103.out
   have hns21_1:=NB102_103.out
   have hms21_0:=NB103_101.out
   have hms21_1:=NB103_102.out
   refine skip_ (w1:=?_) (by rfl) rfl ?_ ?_
   rotate_left;· go_simp;rfl
   refine hK.out _ _ ?_
   clear hK K
   refine done_ (done_of HT_.out (by kernel_rfl)) ?_
   try go_wp2
   go_roundg k1
   case measure=>have:=HK1.out;omega
   case rel=>exact ⟨(wrap64 (x12_1+1)),(y108),(.slice Ao20 y108.length co20),rs,H',⟨by have:=HK1.out;omega⟩,⟨by (with_reducible repeat (first|apply Kd.S_alloc|apply Kd.S_drewN|apply Kd.S_drew));exact Kd.S_mono (Kd.S_far (p:=⟨gb103,1,none⟩) (Kd.S_types HO110.out BK103.out (by decide)) (fun _ hk=>hk.2) (.slice Ao20 y108.length co20)) (fun _ hk=>trivial)⟩,⟨by (with_reducible repeat (first|refine blk_drewN ?_ _|refine blk_drew ?_|refine blk_alloc ?_ _));refine blk_far ?_ NB101_103.out _;(with_reducible repeat (first|refine blk_drewN ?_ _|refine blk_drew ?_|refine blk_alloc ?_ _));exact BK101.out⟩,⟨by (with_reducible repeat (first|refine blk_drewN ?_ _|refine blk_drew ?_|refine blk_alloc ?_ _));refine blk_far ?_ NB102_103.out _;(with_reducible repeat (first|refine blk_drewN ?_ _|refine blk_drew ?_|refine blk_alloc ?_ _));exact BK102.out⟩,⟨by (with_reducible repeat (first|refine blk_drewN ?_ _|refine blk_drew ?_|refine blk_alloc ?_ _));refine blk_put (cs:=#[.int .i64 a0_0,u104001]) ?_ 1 _ rfl;(with_reducible repeat (first|refine blk_drewN ?_ _|refine blk_drew ?_|refine blk_alloc ?_ _));exact BK103.out⟩,⟨bl⟩⟩
/-! ### slices_Index_int64_int64: function 60 -/
def slices_Index_int64_int64.l0 : Nat → List Int → Int → Int → Int → Option (Int)
 | 0,_,_,_,_=>none
 | k+1,x0,x1,x7,x8=>if x8 < x7 then (if 0≤x8 then (if x8 < (x0.length:Int) then (if x1=(rd x0 x8) then (some x8) else (slices_Index_int64_int64.l0 k x0 x1 x7 (wrap64 (x8+1)))) else (none)) else (none)) else (some (-1))
def slices_Index_int64_int64.f (k:Nat) (l0:List Int) (a1:Int):Option (Int):=slices_Index_int64_int64.l0 k l0 a1 (l0.length:Int) 0
theorem slices_Index_int64_int64.mono_l : ∀ k, (∀ y0 y1 y2 y3, LeO (slices_Index_int64_int64.l0 k y0 y1 y2 y3) (slices_Index_int64_int64.l0 (k + 1) y0 y1 y2 y3))
 | 0=>fun _ _ _ _ r h=>by simp [slices_Index_int64_int64.l0] at h
 | k+1=>by
  have ih0:=slices_Index_int64_int64.mono_l k
  ·intro y0 y1 y2 y3
   unfold slices_Index_int64_int64.l0
   repeat' first
   | (with_reducible exact ih0 _ _ _ _)
   | (with_reducible exact LeO.refl _)
   | (with_reducible exact LeO.none _)
   | (with_reducible refine LeO.ite ?_ ?_)
   | (with_reducible refine LeO.bind ?_ (fun _=>?_))
   | exact ih0 _ _ _ _
   | exact LeO.none _
   | refine LeO.ite ?_ ?_
   | refine LeO.bind ?_ (fun _=>?_)
theorem slices_Index_int64_int64.mono:∀ a0 a1 k,LeO (slices_Index_int64_int64.f k a0 a1) (slices_Index_int64_int64.f (k+1) a0 a1):=by
 intro a0 a1 k
 have ih0:=slices_Index_int64_int64.mono_l k
 unfold slices_Index_int64_int64.f
 repeat' first
   | (with_reducible exact ih0 _ _ _ _)
   | (with_reducible exact LeO.refl _)
   | (with_reducible exact LeO.none _)
   | (with_reducible refine LeO.ite ?_ ?_)
   | (with_reducible refine LeO.bind ?_ (fun _=>?_))
   | exact ih0 _ _ _ _
   | exact LeO.none _
   | refine LeO.ite ?_ ?_
   | refine LeO.bind ?_ (fun _=>?_)
set_option maxHeartbeats 8000000 in
set_option maxRecDepth 100000 in
theorem slices_Index_int64_int64.calls (k : Nat) (A0 : Option Addr) (c0 : Nat) (l0 : List Int) (a1 : Int) (r : Int) (w : World) (hr0 : Kd.C (Kd.int .i64) w A0 l0.length l0) (hc0 : l0.length ≤ c0) (h : slices_Index_int64_int64.f k l0 a1 = some r) :
  Calls Try.prog 60 #[.slice A0 l0.length c0,.int .i64 a1] w fun e w'=>e=.returned (.int .i64 r)∧Drawn0 w w':=by
 have HR0:=Aside0.mk hr0
 have HC0:=Aside0.mk hc0
 clear hr0 hc0
 have H:(slices_Index_int64_int64.l0 k l0 a1 (l0.length:Int) 0)=some r:=h
 clear h
 have H':=Aside0.mk H
 clear H
 go_enter Try.func60,Try.ntmps60
 go_wp2
 go_loopg [8] k (fun kq v8 w'=>∃ (x8_1:Int),v8=.int .i64 x8_1∧Aside0 (slices_Index_int64_int64.l0 kq l0 a1 (l0.length:Int) x8_1=some r)∧Aside0 (kq≤k)∧Drawn0 w w')
 case atStart=>exact ⟨(0),rs,H',⟨Nat.le_refl _⟩,by repeat (first|exact Drawn0.refl _|apply Drawn0.step)⟩
 case round =>
  clear H'
  (try clear p2)
  obtain ⟨x8_1,rfl,HA,HK1,⟨m1,rfl⟩⟩:=hrel
  cases gk with
  | zero=>exact absurd HA.out (by simp [slices_Index_int64_int64.l0])
  | succ k1 =>
   have H:=HA.out
   clear HA
   simp only [slices_Index_int64_int64.l0] at H
   by_cases c3:x8_1 < (l0.length:Int)
   case neg =>
    rw [if_neg c3] at H
    have c3b0:decide (x8_1 < (l0.length:Int))=false:=decide_eq_false c3
    clear c3
    obtain rfl:=Option.some.inj H
    go_wp2
    go_ret
    exact ⟨by first|rfl|(simp;done)|(simp [*];done),by repeat (first|exact Drawn0.refl _|apply Drawn0.step)⟩
   rw [if_pos c3] at H
   have c3b0:decide (x8_1 < (l0.length:Int))=true:=decide_eq_true c3
   clear c3
   by_cases c4:0≤x8_1
   case neg=>rw [if_neg c4] at H;exact absurd H (by simp)
   rw [if_pos c4] at H
   have c4b0:decide (0≤x8_1)=true:=decide_eq_true c4
   clear c4
   by_cases c5:x8_1 < (l0.length:Int)
   case neg=>rw [if_neg c5] at H;exact absurd H (by simp)
   rw [if_pos c5] at H
   have c5b0:decide (x8_1 < (l0.length:Int))=true:=decide_eq_true c5
   clear c5
   by_cases c6:a1=(rd l0 x8_1)
   case neg =>
    rw [if_neg c6] at H
    have c6b0:(a1 == (rd l0 x8_1))=false:=beq_eq_false_iff_ne.mpr c6
    have c6b1:(a1 != (rd l0 x8_1))=true:=bne_iff_ne.mpr c6
    have H':=Aside0.mk H
    clear H
    have p101:0≤(x8_1:Int):=oD
    have q101:x8_1 < (l0.length:Int):=oD
    obtain ⟨ad101,e101,hx101_0⟩:=Kd.at_int HR0.out x8_1 p101 q101
    cases e101
    replace p101:=eq_true p101
    replace q101:=eq_true q101
    go_wp2
    go_roundg k1
    case measure=>have:=HK1.out;omega
    case rel=>exact ⟨(wrap64 (x8_1+1)),rs,H',⟨by have:=HK1.out;omega⟩,by repeat (first|exact Drawn0.refl _|apply Drawn0.step)⟩
   rw [if_pos c6] at H
   have c6b0:(a1 == (rd l0 x8_1))=true:=beq_iff_eq.mpr c6
   have c6b1:(a1 != (rd l0 x8_1))=false:=bne_eq_false_iff_eq.mpr c6
   clear c6
   obtain rfl:=Option.some.inj H
   have p101:0≤(x8_1:Int):=oD
   have q101:x8_1 < (l0.length:Int):=oD
   obtain ⟨ad101,e101,hx101_0⟩:=Kd.at_int HR0.out x8_1 p101 q101
   cases e101
   replace p101:=eq_true p101
   replace q101:=eq_true q101
   go_wp2
   go_ret
   exact ⟨by first|rfl|(simp;done)|(simp [*];done),by repeat (first|exact Drawn0.refl _|apply Drawn0.step)⟩
/-! ### impl_Graph_degrees: function 61 -/
def impl_Graph_degrees.l0 : Nat → List Int → List (List Int) → Int → Int → Option (List Int)
 | 0,_,_,_,_=>none
 | k+1,x3,x10,x11,x12=>if x12 < x11 then (if 0≤x12 then (if x12 < (x10.length:Int) then (if 0 < ((rd_L1 x10 x12).length:Int) then (if 0≤(rd (rd_L1 x10 x12) 0) then (if (rd (rd_L1 x10 x12) 0) < (x3.length:Int) then ((some (x3.set ((rd (rd_L1 x10 x12) 0):Int).toNat (wrap64 ((rd x3 (rd (rd_L1 x10 x12) 0))+1)):List Int)).bind fun y108=>(if 1 < ((rd_L1 x10 x12).length:Int) then (if 0≤(rd (rd_L1 x10 x12) 1) then (if (rd (rd_L1 x10 x12) 1) < (x3.length:Int) then (impl_Graph_degrees.l0 k (y108.set ((rd (rd_L1 x10 x12) 1):Int).toNat (wrap64 ((rd y108 (rd (rd_L1 x10 x12) 1))+1))) x10 x11 (wrap64 (x12+1))) else (none)) else (none)) else (none))) else (none)) else (none)) else (none)) else (none)) else (none)) else (some x3)
def impl_Graph_degrees.f (k:Nat) (a0_0:Int) (l0_1:List (List Int)):Option (List Int):=if 0≤a0_0 then (if (a0_0:Int).toNat≤35184372088832 then (impl_Graph_degrees.l0 k (List.replicate (a0_0:Int).toNat 0) l0_1 (l0_1.length:Int) 0) else (none)) else (none)
theorem impl_Graph_degrees.mono_l : ∀ k, (∀ y0 y1 y2 y3, LeO (impl_Graph_degrees.l0 k y0 y1 y2 y3) (impl_Graph_degrees.l0 (k + 1) y0 y1 y2 y3))
 | 0=>fun _ _ _ _ r h=>by simp [impl_Graph_degrees.l0] at h
 | k+1=>by
  have ih0:=impl_Graph_degrees.mono_l k
  ·intro y0 y1 y2 y3
   unfold impl_Graph_degrees.l0
   repeat' first
   | (with_reducible exact ih0 _ _ _ _)
   | (with_reducible exact LeO.refl _)
   | (with_reducible exact LeO.none _)
   | (with_reducible refine LeO.ite ?_ ?_)
   | (with_reducible refine LeO.bind ?_ (fun _=>?_))
   | exact ih0 _ _ _ _
   | exact LeO.none _
   | refine LeO.ite ?_ ?_
   | refine LeO.bind ?_ (fun _=>?_)
theorem impl_Graph_degrees.mono:∀ a0 a1 k,LeO (impl_Graph_degrees.f k a0 a1) (impl_Graph_degrees.f (k+1) a0 a1):=by
 intro a0 a1 k
 have ih0:=impl_Graph_degrees.mono_l k
 unfold impl_Graph_degrees.f
 repeat' first
   | (with_reducible exact ih0 _ _ _ _)
   | (with_reducible exact LeO.refl _)
   | (with_reducible exact LeO.none _)
   | (with_reducible refine LeO.ite ?_ ?_)
   | (with_reducible refine LeO.bind ?_ (fun _=>?_))
   | exact ih0 _ _ _ _
   | exact LeO.none _
   | refine LeO.ite ?_ ?_
   | refine LeO.bind ?_ (fun _=>?_)
set_option maxHeartbeats 8000000 in
set_option maxRecDepth 100000 in
theorem impl_Graph_degrees.calls (k : Nat) (a0_0 : Int) (A0_1 : Option Addr) (c0_1 : Nat) (l0_1 : List (List Int)) (r : List Int) (w : World) (hr0_1 : Kd.C (Kd.slice 2 (Kd.int .i64)) w A0_1 l0_1.length l0_1) (hc0_1 : l0_1.length ≤ c0_1) (h : impl_Graph_degrees.f k a0_0 l0_1 = some r) :
  Calls Try.prog 61 #[.agg #[.int .i64 a0_0,.slice A0_1 l0_1.length c0_1]] w fun e w'=>∃ v0_:Value,e=.returned (v0_)∧Kd.R (Kd.int .i64) 2 w' w.heap.size (fun _=>True) v0_ r∧Below w.heap.size w w':=by
 have hu28:=Try.underlying28
 have HR0_1:=Aside0.mk hr0_1
 have HC0_1:=Aside0.mk hc0_1
 clear hr0_1 hc0_1
 have HB:=Aside0.mk (Below.refl w.heap.size w)
 have H:(if 0≤a0_0 then (if (a0_0:Int).toNat≤35184372088832 then (impl_Graph_degrees.l0 k (List.replicate (a0_0:Int).toNat 0) l0_1 (l0_1.length:Int) 0) else (none)) else (none))=some r:=h
 clear h
 by_cases c2:0≤a0_0
 case neg=>rw [if_neg c2] at H;exact absurd H (by simp)
 rw [if_pos c2] at H
 have c2b0:=eq_true c2
 have c2b1:decide (0≤a0_0)=true:=decide_eq_true c2
 clear c2
 by_cases c3:(a0_0:Int).toNat≤35184372088832
 case neg=>rw [if_neg c3] at H;exact absurd H (by simp)
 rw [if_pos c3] at H
 have c3b0:=eq_true c3
 have c3b1:decide ((a0_0:Int).toNat≤35184372088832)=true:=decide_eq_true c3
 clear c3
 obtain ⟨y102,hy102⟩:∃ y_:List Int,y_=(List.replicate (a0_0:Int).toNat 0):=⟨_,rfl⟩
 replace H:(impl_Graph_degrees.l0 k y102 l0_1 (l0_1.length:Int) 0)=some r:=by first|(rw [hy102];with_reducible exact H)|(have H2_:=(Option.bind_some _ _).symm.trans H;rw [hy102];with_reducible exact H2_)|(have H2_:=(Option.bind_some _ _).symm.trans H;with_reducible exact H2_)|with_reducible exact H|(rw [hy102];exact H)|exact H
 have Ny102:=Aside0.mk hy102
 clear hy102
 have H':=Aside0.mk H
 clear H
 go_enter Try.func61,Try.ntmps61
 go_wp2_with (first|((with_reducible refine gate_dst (N:=1) rfl ?_);refine box_event ?hg (N:=1) ?hd (cs:=#[.int .i64 a0_0,.slice A0_1 l0_1.length c0_1]) (t:=28) ?hr ?_;(case hd=>rfl);(case hg=>rfl);(case hr=>first|(go_simp;done)|(go_simp;rfl));intro gb101 hg w4 hbox hb;have n0_:=Aside0.mk (below_step bl hb);have n1_:=Aside0.mk (hbox);have n2_:=Aside0.mk ((by rw [hg];exact (below_size bl):w.heap.size≤gb101));have n3_:=Aside0.mk ((by rw [hg];exact (below_size bl):w.heap.size≤gb101));clear HB;have HB:=n0_;have BK101:=n1_;have GW101:=n2_;have GE101:=n3_;clear n0_ n1_ n2_ n3_;clear hb hbox hg;have hcz5_0:w4.cell? ⟨gb101,0,none⟩=some (.int .i64 a0_0):=(blk_cell BK101.out 0).trans rfl;have hcz5_1:w4.cell? ⟨gb101,1,none⟩=some (.slice A0_1 l0_1.length c0_1):=(blk_cell BK101.out 1).trans rfl;have hfz5_0:=blk_frozen BK101.out 0;have hfz5_1:=blk_frozen BK101.out 1)|((with_reducible refine gate_dst (N:=8) rfl ?_);refine Kd.R_make (Kd.int .i64) _ 2 rfl (N:=8) rfl 32 _ _ rfl a0_0 rfl rfl Try.underlying32 (.int .i64 0) 8 info2 rfl (by decide) (by omega) 0 (ok:=fun _=>True) (okp:=fun _=>True) rfl (fun _ hk=>hk) trivial oD (Nat.le_trans (Nat.mul_le_mul_right _ (oD:a0_0.toNat≤35184372088832)) (by omega)) (Below.refl _ _) (Nat.le_refl _) ?_;intro v103 w6 ho7 hb hg_ hnew_;clear hg_ hnew_;(first|rw [← Ny102.out] at ho7|(simp only [Int.reduceToNat] at ho7;rw [← Ny102.out] at ho7));have n0_:=Aside0.mk (Kd.R_lower ho7 (below_size bl));have n1_:=Aside0.mk (blk_below (g:=gb101) (o:=.cells #[.int .i64 a0_0,.slice A0_1 l0_1.length c0_1] 28 (0,0)) bk hb);have n2_:=Aside0.mk (below_step bl hb);clear BK101;clear HB;have HO104:=n0_;have BK101:=n1_;have HB:=n2_;clear n0_ n1_ n2_;clear hb ho7;have hcz8_0:w6.cell? ⟨gb101,0,none⟩=some (.int .i64 a0_0):=(blk_cell BK101.out 0).trans rfl;have hcz8_1:w6.cell? ⟨gb101,1,none⟩=some (.slice A0_1 l0_1.length c0_1):=(blk_cell BK101.out 1).trans rfl;have hfz8_0:=blk_frozen BK101.out 0;have hfz8_1:=blk_frozen BK101.out 1))
 go_loopg [12] k (fun kq v12 w'=>∃ (x3_1:List Int) (x12_1:Int),v12=.int .i64 x12_1∧Aside0 (impl_Graph_degrees.l0 kq x3_1 l0_1 (l0_1.length:Int) x12_1=some r)∧Aside0 (kq≤k)∧Aside0 (Kd.R (Kd.int .i64) 2 w' w.heap.size (fun _=>True) v103 x3_1)∧Aside0 (w'.heap[gb101]?=some (.cells #[.int .i64 a0_0,(.slice A0_1 l0_1.length c0_1)] 28 (0,0)))∧Aside0 (Below w.heap.size w w'))
 case atStart=>exact ⟨(y102),(0),rs,H',⟨Nat.le_refl _⟩,⟨by (with_reducible repeat (first|apply Kd.R_alloc|apply Kd.R_drewN|apply Kd.R_drew));exact HO104.out⟩,⟨bk⟩,⟨bl⟩⟩
 case round =>
  clear H'
  (try clear c2);(try clear c2b0);(try clear c2b1);(try clear p2);(try clear c3);(try clear c3b0);(try clear c3b1);(try clear c6);(try clear hcz5_0);(try clear hcz5_1);(try clear hcz8_0);(try clear hcz8_1);(try clear hfz5_0);(try clear hfz5_1);(try clear hfz8_0);(try clear hfz8_1)
  obtain ⟨x3_1,x12_1,rfl,HA,HK1,HO_3,BK101,HB⟩:=hrel
  cases gk with
  | zero=>exact absurd HA.out (by simp [impl_Graph_degrees.l0])
  | succ k1 =>
   have H:=HA.out
   clear HA
   simp only [impl_Graph_degrees.l0] at H
   by_cases c9:x12_1 < (l0_1.length:Int)
   case neg =>
    rw [if_neg c9] at H
    have c9b0:decide (x12_1 < (l0_1.length:Int))=false:=decide_eq_false c9
    clear c9
    obtain rfl:=Option.some.inj H
    go_wp2
    go_ret
    exact ⟨_,by first|rfl|(simp [errW_none,errW_some]<;>rfl)|(simp [*,errW_none,errW_some]<;>rfl),by (with_reducible repeat (first|apply Kd.R_alloc|apply Kd.R_drewN|apply Kd.R_drew));exact HO_3.out,bl⟩
   rw [if_pos c9] at H
   have c9b0:decide (x12_1 < (l0_1.length:Int))=true:=decide_eq_true c9
   clear c9
   by_cases c10:0≤x12_1
   case neg=>rw [if_neg c10] at H;exact absurd H (by simp)
   rw [if_pos c10] at H
   have c10b0:decide (0≤x12_1)=true:=decide_eq_true c10
   clear c10
   by_cases c11:x12_1 < (l0_1.length:Int)
   case neg=>rw [if_neg c11] at H;exact absurd H (by simp)
   rw [if_pos c11] at H
   have c11b0:decide (x12_1 < (l0_1.length:Int))=true:=decide_eq_true c11
   clear c11
   by_cases c12:0 < ((rd_L1 l0_1 x12_1).length:Int)
   case neg=>rw [if_neg c12] at H;exact absurd H (by simp)
   rw [if_pos c12] at H
   have c12b0:decide (0 < ((rd_L1 l0_1 x12_1).length:Int))=true:=decide_eq_true c12
   have c12b1:decide (0 < (rd_L1 l0_1 x12_1).length)=true:=decide_eq_true (by omega)
   clear c12
   by_cases c13:0≤(rd (rd_L1 l0_1 x12_1) 0)
   case neg=>rw [if_neg c13] at H;exact absurd H (by simp)
   rw [if_pos c13] at H
   have c13b0:decide (0≤(rd (rd_L1 l0_1 x12_1) 0))=true:=decide_eq_true c13
   clear c13
   by_cases c14:(rd (rd_L1 l0_1 x12_1) 0) < (x3_1.length:Int)
   case neg=>rw [if_neg c14] at H;exact absurd H (by simp)
   rw [if_pos c14] at H
   have c14b0:decide ((rd (rd_L1 l0_1 x12_1) 0) < (x3_1.length:Int))=true:=decide_eq_true c14
   clear c14
   obtain ⟨y108,hy108⟩:∃ y_:List Int,y_=(x3_1.set ((rd (rd_L1 l0_1 x12_1) 0):Int).toNat (wrap64 ((rd x3_1 (rd (rd_L1 l0_1 x12_1) 0))+1))):=⟨_,rfl⟩
   replace H:(if 1 < ((rd_L1 l0_1 x12_1).length:Int) then (if 0≤(rd (rd_L1 l0_1 x12_1) 1) then (if (rd (rd_L1 l0_1 x12_1) 1) < (x3_1.length:Int) then (impl_Graph_degrees.l0 k1 (y108.set ((rd (rd_L1 l0_1 x12_1) 1):Int).toNat (wrap64 ((rd y108 (rd (rd_L1 l0_1 x12_1) 1))+1))) l0_1 (l0_1.length:Int) (wrap64 (x12_1+1))) else (none)) else (none)) else (none))=some r:=by first|(rw [hy108];with_reducible exact H)|(have H2_:=(Option.bind_some _ _).symm.trans H;rw [hy108];with_reducible exact H2_)|(have H2_:=(Option.bind_some _ _).symm.trans H;with_reducible exact H2_)|with_reducible exact H|(rw [hy108];exact H)|exact H
   have Ny108:=Aside0.mk hy108
   clear hy108
   by_cases c16:1 < ((rd_L1 l0_1 x12_1).length:Int)
   case neg=>rw [if_neg c16] at H;exact absurd H (by simp)
   rw [if_pos c16] at H
   have c16b0:decide (1 < ((rd_L1 l0_1 x12_1).length:Int))=true:=decide_eq_true c16
   have c16b1:decide (1 < (rd_L1 l0_1 x12_1).length)=true:=decide_eq_true (by omega)
   clear c16
   by_cases c17:0≤(rd (rd_L1 l0_1 x12_1) 1)
   case neg=>rw [if_neg c17] at H;exact absurd H (by simp)
   rw [if_pos c17] at H
   have c17b0:decide (0≤(rd (rd_L1 l0_1 x12_1) 1))=true:=decide_eq_true c17
   clear c17
   by_cases c18:(rd (rd_L1 l0_1 x12_1) 1) < (x3_1.length:Int)
   case neg=>rw [if_neg c18] at H;exact absurd H (by simp)
   rw [if_pos c18] at H
   have c18b0:decide ((rd (rd_L1 l0_1 x12_1) 1) < (x3_1.length:Int))=true:=decide_eq_true c18
   clear c18
   obtain ⟨y111,hy111⟩:∃ y_:List Int,y_=(y108.set ((rd (rd_L1 l0_1 x12_1) 1):Int).toNat (wrap64 ((rd y108 (rd (rd_L1 l0_1 x12_1) 1))+1))):=⟨_,rfl⟩
   replace H:(impl_Graph_degrees.l0 k1 y111 l0_1 (l0_1.length:Int) (wrap64 (x12_1+1)))=some r:=by first|(rw [hy111];with_reducible exact H)|(have H2_:=(Option.bind_some _ _).symm.trans H;rw [hy111];with_reducible exact H2_)|(have H2_:=(Option.bind_some _ _).symm.trans H;with_reducible exact H2_)|with_reducible exact H|(rw [hy111];exact H)|exact H
   have Ny111:=Aside0.mk hy111
   clear hy111
   have H':=Aside0.mk H
   clear H
   have p105:0≤(x12_1:Int):=oD
   have q105:x12_1 < (l0_1.length:Int):=oD
   obtain ⟨ad105,A105_0,c105_0,e105,hx105_0,hl105_0,hi105_0⟩:=at_L1 HR0_1.out x12_1 p105 q105
   cases e105
   replace hx105_0:=hbc HB hx105_0
   have HR105_0:=Aside0.mk hi105_0
   have HC105_0:=Aside0.mk hl105_0
   clear hi105_0 hl105_0
   replace p105:=eq_true p105
   replace q105:=eq_true q105
   have p106:0≤(0:Int):=(by omega)
   have q106:0 < ((rd_L1 l0_1 x12_1).length:Int):=oD
   obtain ⟨ad106,e106,hx106_0⟩:=Kd.at_int HR105_0.out 0 p106 q106
   cases e106
   have qi106:(0 < (rd_L1 l0_1 x12_1).length)=True:=eq_true (by omega)
   (try rw [show ((0:Int)).toNat=0 from rfl] at hx106_0)
   (try rw [Addr.add_zero'] at hx106_0)
   replace hx106_0:=hbc HB hx106_0
   replace p106:=eq_true p106
   replace q106:=eq_true q106
   obtain ⟨Ao20,co20,eo20⟩:=Kd.R_slice HO_3.out
   subst eo20
   have p107:0≤((rd (rd_L1 l0_1 x12_1) 0):Int):=oD
   have q107:(rd (rd_L1 l0_1 x12_1) 0) < (x3_1.length:Int):=oD
   obtain ⟨ad107,e107,hx107_0⟩:=Kd.at_int (Kd.R_reads' HO_3.out).2.2 (rd (rd_L1 l0_1 x12_1) 0) p107 q107
   cases e107
   replace p107:=eq_true p107
   replace q107:=eq_true q107
   have p15:0≤((rd (rd_L1 l0_1 x12_1) 0):Int):=oD
   have q15:((rd (rd_L1 l0_1 x12_1) 0):Int) < ((x3_1.length:Int):Int):=oD
   obtain ⟨go15,co15,eo15,gb15,gl15,cl15,HG15⟩:=Kd.R_form HO_3.out (by omega)
   (first|cases eo15|(injection eo15 with ea_ en_ ec_;(first|subst ea_|(injection ea_ with ea_;subst ea_));subst ec_;clear en_))
   have GB15:=Aside0.mk gb15
   have GG15:=Aside0.mk HG15
   clear gb15 gl15 HG15
   (first|simp only [add_plain] at hx107_0|skip)
   obtain ⟨hx15_0,hf15_0⟩:=Kd.R_celln 0 HO_3.out ((rd (rd_L1 l0_1 x12_1) 0):Int) p15 q15
   replace p15:=eq_true p15
   replace q15:=eq_true q15
   have HP21:=Kd.R_putg HO_3.out ((rd (rd_L1 l0_1 x12_1) 0):Int) (wrap64 ((rd x3_1 (rd (rd_L1 l0_1 x12_1) 0))+1))
   go_wp2_with (first|((with_reducible refine gate_store (t:=2) (p:=23) rfl ?_);refine store_event (t:=2) (p:=23) (v:=?vo_w22) (w1:=(wr.setCell ⟨go15,((rd (rd_L1 l0_1 x12_1) 0):Int).toNat,none⟩ (.int .i64 (wrap64 ((rd x3_1 (rd (rd_L1 l0_1 x12_1) 0))+1))))) ?hg ?ho ?hn ?hr ?_;(case ho=>rfl);(case hg=>rfl);(case hn=>rfl);(case hr=>first|(go_simp;done)|(go_simp;rfl));intro w22 hw;have hg:wr.grownBy w22 (some go15):=(by rw [hw];exact HP21.2);have hp_:Kd.R (Kd.int .i64) 2 w22 w.heap.size (fun _=>True) (.slice (some ⟨go15,0,none⟩) x3_1.length co20) y108:=(by rw [hw,Ny108.out];exact HP21.1);clear HP21;have n0_:=Aside0.mk (hp_);have n1_:=Aside0.mk (blk_grown (g:=gb101) (o:=.cells #[.int .i64 a0_0,.slice (some ad105) l0_1.length c0_1] 28 (0,0)) bk hg (Kd.R_ne HO_3.out BK101.out (by decide)));have n2_:=Aside0.mk ((by rw [hw];exact below_set (HB.out) GB15.out:Below w.heap.size w w22));clear HO_3;clear BK101;clear HB;have HO_3:=n0_;have BK101:=n1_;have HB:=n2_;clear n0_ n1_ n2_;clear hg hw hp_;have p109:0≤(1:Int):=(by omega);have q109:1 < ((rd_L1 l0_1 x12_1).length:Int):=oD;obtain ⟨ad109,e109,hx109_0⟩:=Kd.at_int HR105_0.out 1 p109 q109;obtain rfl:ad106=ad109:=(by injection e109);(try simp only [show (1:Int).toNat=1 from rfl,Nat.reduceMul,Nat.reduceEqDiff,Go.Addr.add,↓reduceIte] at hx109_0);have qi109:(1 < (rd_L1 l0_1 x12_1).length)=True:=eq_true (by omega);(try rw [show ((1:Int)).toNat=1 from rfl] at hx109_0);replace hx109_0:=hbc HB hx109_0;replace p109:=eq_true p109;replace q109:=eq_true q109;have p110:0≤((rd (rd_L1 l0_1 x12_1) 1):Int):=oD;have q110:(rd (rd_L1 l0_1 x12_1) 1) < (y108.length:Int):=(by have h_:((rd (rd_L1 l0_1 x12_1) 1):Int) < ((x3_1.length:Int):Int):=oD;first|(have e_:=(Kd.R_reads' HO_3.out).1;omega)|simpa only [Ny108.out,List.length_set] using h_);have ql110:(((rd (rd_L1 l0_1 x12_1) 1):Int) < ((x3_1.length:Int):Int))=True:=eq_true oD;obtain ⟨ad110,e110,hx110_0⟩:=Kd.at_int (Kd.R_reads' HO_3.out).2.2 (rd (rd_L1 l0_1 x12_1) 1) p110 q110;obtain rfl:(⟨go15,0,none⟩:Addr)=ad110:=(by injection e110);(first|simp only [add_plain] at hx110_0|simp only [add_at] at hx110_0|simp only [Addr.add,Nat.zero_add] at hx110_0|skip);replace p110:=eq_true p110;replace q110:=eq_true q110;have p19:0≤((rd (rd_L1 l0_1 x12_1) 1):Int):=oD;have q19:((rd (rd_L1 l0_1 x12_1) 1):Int) < ((x3_1.length:Int):Int):=oD;obtain ⟨hx19_0,hf19_0⟩:=Kd.R_celln 0 HO_3.out ((rd (rd_L1 l0_1 x12_1) 1):Int) p19 q19;replace p19:=eq_true p19;replace q19:=eq_true q19;obtain ⟨hy23_,hz23_⟩:=Kd.R_celln 0 HO_3.out ((rd (rd_L1 l0_1 x12_1) 1):Int) oD oD;have HP23:=Kd.R_putg HO_3.out ((rd (rd_L1 l0_1 x12_1) 1):Int) (wrap64 ((rd y108 (rd (rd_L1 l0_1 x12_1) 1))+1)))|((with_reducible refine gate_store (t:=2) (p:=31) rfl ?_);refine store_event (t:=2) (p:=31) (v:=?vo_w24) (w1:=(w22.setCell ⟨go15,((rd (rd_L1 l0_1 x12_1) 1):Int).toNat,none⟩ (.int .i64 (wrap64 ((rd y108 (rd (rd_L1 l0_1 x12_1) 1))+1))))) ?hg ?ho ?hn ?hr ?_;(case ho=>rfl);(case hg=>rfl);(case hn=>rfl);(case hr=>first|(go_simp;done)|(go_simp;rfl));intro w24 hw;have hg:w22.grownBy w24 (some go15):=(by rw [hw];exact HP23.2);have hp_:Kd.R (Kd.int .i64) 2 w24 w.heap.size (fun _=>True) (.slice (some ⟨go15,0,none⟩) x3_1.length co20) y111:=(by rw [hw,Ny111.out];exact HP23.1);clear HP23;have n0_:=Aside0.mk (hp_);have n1_:=Aside0.mk (blk_grown (g:=gb101) (o:=.cells #[.int .i64 a0_0,.slice (some ad105) l0_1.length c0_1] 28 (0,0)) bk hg (Kd.R_ne HO_3.out BK101.out (by decide)));have n2_:=Aside0.mk ((by rw [hw];exact below_set (HB.out) GB15.out:Below w.heap.size w w24));clear HO_3;clear BK101;clear HB;have HO_3:=n0_;have BK101:=n1_;have HB:=n2_;clear n0_ n1_ n2_;clear hg hw hp_))
   go_roundg k1
   case measure=>have:=HK1.out;omega
   case rel=>exact ⟨(y111),(wrap64 (x12_1+1)),rs,H',⟨by have:=HK1.out;omega⟩,⟨by (with_reducible repeat (first|apply Kd.R_alloc|apply Kd.R_drewN|apply Kd.R_drew));exact HO_3.out⟩,⟨bk⟩,⟨bl⟩⟩
-- NOT PRINTED: function 62 (slices_IndexFunc_int64_int64)
/-! ### slices_Contains_int64_int64: function 64 -/
def slices_Contains_int64_int64.f (k:Nat) (l0:List Int) (a1:Int):Option (Bool):=(slices_Index_int64_int64.f k l0 a1).bind fun t101=>(some (decide (t101 ≥ 0)))
theorem slices_Contains_int64_int64.mono:∀ a0 a1 k,LeO (slices_Contains_int64_int64.f k a0 a1) (slices_Contains_int64_int64.f (k+1) a0 a1):=by
 intro a0 a1 k
 unfold slices_Contains_int64_int64.f
 repeat' first
   | (with_reducible exact slices_Index_int64_int64.mono _ _ _)
   | (with_reducible exact LeO.refl _)
   | (with_reducible exact LeO.none _)
   | (with_reducible refine LeO.ite ?_ ?_)
   | (with_reducible refine LeO.bind ?_ (fun _=>?_))
   | exact slices_Index_int64_int64.mono _ _ _
   | exact LeO.none _
   | refine LeO.ite ?_ ?_
   | refine LeO.bind ?_ (fun _=>?_)
set_option maxHeartbeats 8000000 in
set_option maxRecDepth 100000 in
theorem slices_Contains_int64_int64.calls (k : Nat) (A0 : Option Addr) (c0 : Nat) (l0 : List Int) (a1 : Int) (r : Bool) (w : World) (hr0 : Kd.C (Kd.int .i64) w A0 l0.length l0) (hc0 : l0.length ≤ c0) (h : slices_Contains_int64_int64.f k l0 a1 = some r) :
  Calls Try.prog 64 #[.slice A0 l0.length c0,.int .i64 a1] w fun e w'=>e=.returned (.bool r)∧Drawn0 w w':=by
 have HR0:=Aside0.mk hr0
 have HC0:=Aside0.mk hc0
 clear hr0 hc0
 have H:((slices_Index_int64_int64.f k l0 a1).bind fun t101=>(some (decide (t101 ≥ 0))))=some r:=h
 clear h
 replace H:=Option.bind_eq_some_iff.mp H
 obtain ⟨t101,A30,H⟩:=H
 replace H:(some (decide (t101 ≥ 0)))=some r:=H
 have A3:=Aside0.mk A30
 clear A30
 obtain rfl:=Option.some.inj H
 go_enter Try.func64,Try.ntmps64
 go_wp2_with (first|((with_reducible refine gate_callee (f:=60) rfl ?_);refine goesL_ (some 7) rfl rfl Try.func60 (by kernel_rfl) rfl #[.slice A0 l0.length c0,.int .i64 a1] rfl gm ?_;(with_reducible refine (slices_Index_int64_int64.calls k _ _ l0 a1 t101 _ ?side1 ?side2 A3.out).mono ?_);(case side1=>repeat (first|exact HR0.out|(with_reducible refine Kd.C_alloc ?_ _)|(with_reducible refine Kd.C_drewN ?_ _)|(with_reducible refine Kd.C_drew ?_)));(case side2=>exact HC0.out);rintro e w' ⟨rfl,⟨nd,rfl⟩⟩;refine ⟨_,rfl,?_⟩))
 go_ret
 exact ⟨by first|rfl|(simp;done)|(simp [*];done),by repeat (first|exact Drawn0.refl _|apply Drawn0.step)⟩
/-! ### impl_PruneGraph_1: function 63 -/
theorem pg_pred {b1 : Nat} (k : Nat) (A : Option Addr) (c : Nat) (l : List Int) (a : Int) (r : Bool) (w : World) (hr : Kd.C (Kd.int .i64) w A l.length l) (hc : l.length ≤ c) (hb : w.heap[b1]? = some (.cells #[.int .i64 a] 2 (0, 0))) (h : slices_Contains_int64_int64.f k l a = some r) :
  Calls Try.prog 63 #[.slice A l.length c,.pointer (some ⟨b1,0,none⟩)] w fun e w'=>e=.returned (.bool r)∧Drawn0 w w':=by
 have HR:=Aside0.mk hr
 have H:=Aside0.mk h
 have hq2:w.cell? ⟨b1,0,none⟩=some (.int .i64 a):=(blk_cell hb 0).trans rfl
 have hf2:=blk_frozen hb 0
 clear hr hb h
 go_enter Try.func63,Try.ntmps63
 go_wp2_with (go_at_call 64;refine (slices_Contains_int64_int64.calls k A c l a r _ (by repeat (first|exact HR.out|(with_reducible refine Kd.C_alloc ?_ _)|(with_reducible refine Kd.C_drewN ?_ _)|(with_reducible refine Kd.C_drew ?_))) hc H.out).mono ?_;rintro e w_ ⟨rfl,⟨nd_,rfl⟩⟩)
 go_ret
 exact ⟨by first|rfl|(simp;done),by repeat (first|exact Drawn0.refl _|apply Drawn0.step)⟩
theorem pg_idx (p : List Int → Option Bool) (b1 : Nat) (A : Option Addr) (c : Nat) (l : List (List Int)) (R : Int) (w : World) (hr : Kd.C (Kd.slice 2 (Kd.int .i64)) w A l.length l)
 (hp:∀ (A':Option Addr) (c':Nat) (x:List Int) (b:Bool) w1,Below w.heap.size w w1→Kd.C (Kd.int .i64) w1 A' x.length x→x.length≤c'→p x=some b→Calls Try.prog 63 #[.slice A' x.length c',.pointer (some ⟨b1,0,none⟩)] w1 fun e w'=>e=.returned (.bool b)∧Below w1.heap.size w1 w') (h:idxM p l 0=some R) :
 Calls Try.prog 62 #[.slice A l.length c,.func (.func 63) #[] #[.pointer (some ⟨b1,0,none⟩)]] w fun e w'=>e=.returned (.int .i64 R)∧Below w.heap.size w w':=by
 have HR:=Aside0.mk hr
 have HP:=Aside0.mk hp
 have H':=Aside0.mk h
 have hlen:l.length≤9223372036854775807:=hr.2.1
 clear hr hp h
 go_enter Try.func62,Try.ntmps62
 go_wp2_with fail
 go_loopw [8] (fun i wr=>∃ k:Nat,k≤l.length∧i=.int .i64 k∧Aside0 (idxM p (l.drop k) k=some R)∧Aside0 (Below w.heap.size w wr)) (fun i _=>l.length - (intOf i).toNat)
 case atStart=>exact ⟨0,Nat.zero_le _,rfl,⟨by simpa using H'.out⟩,⟨Below.refl _ _⟩⟩
 case round =>
  clear H'
  obtain ⟨k,hk,rfl,HI,HB⟩:=hrel
  by_cases hlt:k < l.length
  case neg =>
   have hI:=HI.out
   rw [List.drop_of_length_le (by omega)] at hI
   simp only [idxM,Option.some.injEq] at hI
   subst hI
   have hb:decide (k < l.length)=false:=by simp;omega
   go_wp2
   go_ret
   exact ⟨rfl,HB.out⟩
  have hI:=HI.out
  rw [List.drop_eq_getElem_cons hlt] at hI
  simp only [idxM] at hI
  obtain ⟨b,hb,hI⟩:=Option.bind_eq_some_iff.mp hI
  obtain ⟨ad,A',c',e,hcell,hlc,hC⟩:=at_L1 (Kd.C_below HR.out HB.out) (k:Int) (by omega) (by omega)
  cases e
  rw [Int.toNat_natCast] at hcell
  have hx:rd_L1 l (k:Int)=l[k]:=by simp [rd_L1,List.getD_eq_getElem?_getD,hlt]
  rw [hx] at hcell hlc hC
  have HCX:=Aside0.mk hC
  have HLX:=Aside0.mk hlc
  have HBX:=Aside0.mk hb
  clear hC hlc hb hx
  cases b with
  | true =>
   simp only [if_true,Option.some.injEq] at hI
   subst hI
   go_wp2_with (go_at_call 63;refine (HP.out _ _ _ true _ HB.out HCX.out HLX.out HBX.out).mono ?_;rintro e w' ⟨rfl,hb_⟩;have HB2:=Aside0.mk (below_step HB.out hb_);clear hb_)
   go_ret
   exact ⟨rfl,HB2.out⟩
  | false =>
   simp only [Bool.false_eq_true,if_false] at hI
   have HD:=Aside0.mk hI
   clear hI
   go_wp2_with (go_at_call 63;refine (HP.out _ _ _ false _ HB.out HCX.out HLX.out HBX.out).mono ?_;rintro e w' ⟨rfl,hb_⟩;have HB2:=Aside0.mk (below_step HB.out hb_);clear hb_)
   go_roundw
   case rel=>exact ⟨k+1,by omega,by go_num,HD,HB2⟩
   case measure=>simp [intOf];omega
def impl_PruneGraph_1.f (k:Nat) (l0:List (List Int)) (a1:Int):Option Int:=idxM (fun x=>slices_Contains_int64_int64.f k x a1) l0 0
theorem impl_PruneGraph_1.mono:∀ a0 a1 k,LeO (impl_PruneGraph_1.f k a0 a1) (impl_PruneGraph_1.f (k+1) a0 a1):=by
 intro a0 a1 k r h
 unfold impl_PruneGraph_1.f at h ⊢
 exact idxM_mono (fun x r hx=>slices_Contains_int64_int64.mono _ _ _ _ hx) a0 0 r h
set_option maxHeartbeats 8000000 in
set_option maxRecDepth 100000 in
theorem impl_PruneGraph_1.calls {b1 : Nat} (k : Nat) (A0 : Option Addr) (c0 : Nat) (l0 : List (List Int)) (a1 : Int) (r : Int) (w : World) (hr0 : Kd.C (Kd.slice 2 (Kd.int .i64)) w A0 l0.length l0) (hc0 : l0.length ≤ c0) (hb1 : w.heap[b1]? = some (.cells #[.int .i64 a1] 2 (0, 0))) (h : impl_PruneGraph_1.f k l0 a1 = some r) :
  Calls Try.prog 62 #[.slice A0 l0.length c0,.func (.func 63) #[] #[.pointer (some ⟨b1,0,none⟩)]] w fun e w'=>e=.returned (.int .i64 r)∧Below w.heap.size w w':=by
 unfold impl_PruneGraph_1.f at h
 refine pg_idx (fun x=>slices_Contains_int64_int64.f k x a1) b1 A0 c0 l0 r w hr0 (fun A' c' x b w1 hw1 hC hc hx=>?_) h
 exact (pg_pred k A' c' x a1 b w1 hC hc (blk_below hb1 hw1) hx).mono fun e w' ⟨h1,h2⟩=>⟨h1,h2.below⟩
/-! ### slices_Delete_int64_int64: function 96 -/
theorem R_spare {α : Type} {d : Kd α} {e base g n c : Nat} {ok : Nat → Prop} {W : World} {xs : List α} (h : d.R e W base ok (.slice (some ⟨g, 0, none⟩) n c) xs) (j : Nat) (hj : n * d.sz ≤ j) (hjc : j < c * d.sz) (u : Value) :
  (W.cell? ⟨g,j,none⟩).isSome=true∧W.frozen? ⟨g,j,none⟩=false∧d.R e (W.setCell ⟨g,j,none⟩ u) base ok (.slice (some ⟨g,0,none⟩) n c) xs∧W.grownBy (W.setCell ⟨g,j,none⟩ u) (some g):=by
 obtain ⟨hn,hnc,_⟩:=Kd.R_reads' h
 obtain ⟨hok,inner,ho,hr⟩:=h
 obtain ⟨ho1,ho2⟩:=ho
 rcases ho2 with ⟨hv,_⟩|⟨g',cap',cur,hv,hb,hh,hnc',hcm,hcs,ht⟩
 ·cases hv
 injection hv with ha _ hc
 injection ha with ha
 injection ha with hg
 subst hg;subst hc
 have hfar:∀ k,k ≠ g→(W.setCell ⟨g,j,none⟩ u).heap[k]?=W.heap[k]?:=fun k hk=>Below.heap_setCell W ⟨g,j,none⟩ u k hk
 have hset:=blk_set hh j u
 have hgr:W.grownBy (W.setCell ⟨g,j,none⟩ u) (some g):=⟨rfl,rfl,rfl,by simp [World.setCell],fun k _ hk=>hfar k (fun he=>hk (by rw [he]))⟩
 refine ⟨?_,blk_frozen hh j,⟨hok,inner,⟨ho1,.inr ⟨g,c,cur.setIfInBounds j u,by rw [hn],hb,hset,hnc',hcm,by rw [Array.size_setIfInBounds];exact hcs,?_⟩⟩,?_⟩,hgr⟩
 ·rw [blk_cell hh j,Array.getElem?_eq_getElem (by omega)];rfl
 ·rw [Array.toList_setIfInBounds,List.take_set_of_le (by rw [← hn];exact hj)];exact ht
 ·exact hr.imp_ (fun x cs hM=>d.M_move (fun k hk=>hfar k (fun he=>hk.2 (by rw [he];rfl))) hM)
theorem S_spare {α : Type} {d : Kd α} {e base g n c : Nat} {ok : Nat → Prop} {W : World} {xs : List α} (h : Kd.S d e W base ok (.slice (some ⟨g, 0, none⟩) n c) xs) (j : Nat) (hj : n * d.sz ≤ j) (hjc : j < c * d.sz) (u : Value) :
  (W.cell? ⟨g,j,none⟩).isSome=true∧W.frozen? ⟨g,j,none⟩=false∧Kd.S d e (W.setCell ⟨g,j,none⟩ u) base ok (.slice (some ⟨g,0,none⟩) n c) xs∧W.grownBy (W.setCell ⟨g,j,none⟩ u) (some g):=by
 obtain ⟨f,hR⟩:=h
 obtain ⟨h1,h2,h3,h4⟩:=R_spare hR j hj hjc u
 exact ⟨h1,h2,⟨f,h3⟩,h4⟩
set_option maxHeartbeats 8000000 in
set_option maxRecDepth 100000 in
theorem slices_Delete_int64_int64.calls (ok : Nat → Prop) (g n c : Nat) (l0 : List (List Int)) (i : Int) (b : Nat) (w0 w : World) (hB : Below b w0 w) (hb : b ≤ w.heap.size) (ho : Kd.S (KL 2) 32 w b ok (.slice (some ⟨g, 0, none⟩) n c) l0) (h0 : 0 ≤ i) (h1 : i < (n : Int)) :
  Calls Try.prog 96 #[.slice (some ⟨g,0,none⟩) n c,.int .i64 i,.int .i64 (wrap64 (i+1))] w fun e w'=>e=.returned (.slice (some ⟨g,0,none⟩) (n - 1) c)∧Kd.S (KL 2) 32 w' b ok (.slice (some ⟨g,0,none⟩) (n - 1) c) (l0.eraseIdx i.toNat)∧Below b w0 w'∧w.grownBy w' (some g):=by
 obtain ⟨hn,hnc,hC⟩:=Kd.S_reads' ho
 obtain ⟨k,rfl⟩:∃ k:Nat,i=(k:Int):=⟨i.toNat,by omega⟩
 have hk:k < n:=by omega
 have hmax:n≤9223372036854775807:=by rw [hn];exact hC.2.1
 have hJ:wrap64 ((k:Int)+1)=((k+1:Nat):Int):=by unfold wrap64;omega
 rw [hJ,Int.toNat_natCast]
 have HO:=Aside0.mk ho
 have HB:=Aside0.mk hB
 have HL:=Aside0.mk hn
 clear ho hB hC hJ hn
 have hk0:decide ((0:Int)≤(k:Int))=true:=decide_eq_true (by omega)
 have e1:((k:Int) == ((k+1:Nat):Int))=false:=by simp;omega
 have hkc:k≤c:=by omega
 have hk1:k+1≤n:=hk
 have hp0:(0:Int)≤(k:Int)+1:=by omega
 have hp1:(k:Int)+1≤(n:Int):=by omega
 go_enter Try.func96,Try.ntmps96
 go_wp2
 go_region_law (refine Kd.S_delete_step (KL 2) b (by simp [Region.wanted]) (.tmp 22) (.tmp 25) 22 32 rfl Try.underlying22 (by kernel_rfl) (g:=g) (n:=n) (c:=c) (k:=k) rfl rfl ?hA ?hm (Kd.S_drew HO.out) hk (by first|exact HB.out|(apply below_drew1;exact HB.out)) hb ?_;(case hA=>have e_:(KL 2).sz=1:=rfl;rw [e_,Nat.mul_one];split<;>simp_all [Addr.add]);(case hm=>rfl);intro w2 ho2 hb2 hg2;have HO2:=Aside0.mk ho2;have HB2:=Aside0.mk hb2;have HG2:=Aside0.mk hg2;clear ho2 hb2 hg2)
 have hsz:(KL 2).sz=1:=rfl
 obtain ⟨hs1,hs2,hs3,hs4⟩:=S_spare HO2.out (n - 1) (by rw [hsz];omega) (by rw [hsz];omega) (.slice none 0 0)
 have HO3:=Aside0.mk hs3
 have HG3:=Aside0.mk hs4
 clear hs3 hs4
 have hcl:∀ ty,(Builtin.clear_ #[22] ty #[.slice (some ⟨g,n - 1,none⟩) 1 (c - (n - 1))]).run Try.prog w2=.ok (.tuple #[]) (w2.setCell ⟨g,n - 1,none⟩ (.slice none 0 0)) :=
  fun ty=>Lib.run_clear_slice w2 22 32 ty (.slice none 0 0) Try.underlying22 (fun w=>by first|rfl|(go_simp;done)) rfl rfl g (n - 1) 1 _ (by omega) (fun j hj=>by obtain rfl:j=0:=(by omega);exact hs1) (fun j hj=>by obtain rfl:j=0:=(by omega);exact hs2)
 have hcn:¬ (c=n - 1):=by omega
 have hq1:n - (n - 1)=1:=by omega
 have hp2:n - 1≤n:=by omega
 go_wp2
 all_goals go_ret
 all_goals (try (have hc_:c=k+1:=(by assumption);subst hc_))
 all_goals (have HG:=World.grownBy.trans HG2.out HG3.out)
 all_goals exact ⟨rfl,HO3.out,HB2.out.grown HG3.out (Nat.le_trans hb HG2.out.size) (fun k_ hk_=>Kd.S_base HO3.out k_ hk_),⟨HG.os,HG.tape,HG.output,HG.size,HG.block⟩⟩
/-! ### impl_Graph_deleted: function 65 -/
def impl_Graph_deleted.f (k:Nat) (a0_0:Int) (l0_1:List (List Int)) (a1:Int):Option (Int × (List (List Int))):=(impl_Graph_own.f k a0_0 l0_1).bind fun bt103=>(if 0≤a1 then (if a1 < (bt103.2.length:Int) then (some (bt103.1,(bt103.2.eraseIdx (a1:Int).toNat))) else (none)) else (none))
theorem impl_Graph_deleted.mono:∀ a0 a1 a2 k,LeO (impl_Graph_deleted.f k a0 a1 a2) (impl_Graph_deleted.f (k+1) a0 a1 a2):=by
 intro a0 a1 a2 k
 unfold impl_Graph_deleted.f
 repeat' first
   | (with_reducible exact impl_Graph_own.mono _ _ _)
   | (with_reducible exact LeO.refl _)
   | (with_reducible exact LeO.none _)
   | (with_reducible refine LeO.ite ?_ ?_)
   | (with_reducible refine LeO.bind ?_ (fun _=>?_))
   | exact impl_Graph_own.mono _ _ _
   | exact LeO.none _
   | refine LeO.ite ?_ ?_
   | refine LeO.bind ?_ (fun _=>?_)
set_option maxHeartbeats 8000000 in
set_option maxRecDepth 100000 in
theorem impl_Graph_deleted.calls (k : Nat) (a0_0 : Int) (A0_1 : Option Addr) (c0_1 : Nat) (l0_1 : List (List Int)) (a1 : Int) (r1 : Int) (r2 : List (List Int)) (w : World) (hr0_1 : Kd.C (Kd.slice 2 (Kd.int .i64)) w A0_1 l0_1.length l0_1) (hc0_1 : l0_1.length ≤ c0_1) (h : impl_Graph_deleted.f k a0_0 l0_1 a1 = some (r1, r2)) :
  Calls Try.prog 65 #[.agg #[.int .i64 a0_0,.slice A0_1 l0_1.length c0_1],.int .i64 a1] w fun e w'=>∃ v1_:Value,e=.returned (.agg #[.int .i64 r1,v1_])∧Kd.S (Kd.slice 2 (Kd.int .i64)) 32 w' w.heap.size (fun _=>True) v1_ r2∧Below w.heap.size w w':=by
 have hu28:=Try.underlying28
 have HR0_1:=Aside0.mk hr0_1
 have HC0_1:=Aside0.mk hc0_1
 clear hr0_1 hc0_1
 have HB:=Aside0.mk (Below.refl w.heap.size w)
 have H:((impl_Graph_own.f k a0_0 l0_1).bind fun bt103=>(if 0≤a1 then (if a1 < (bt103.2.length:Int) then (some (bt103.1,(bt103.2.eraseIdx (a1:Int).toNat))) else (none)) else (none)))=some (r1,r2):=h
 clear h
 replace H:=Option.bind_eq_some_iff.mp H
 obtain ⟨⟨t103,t104⟩,A30,H⟩:=H
 replace H:(if 0≤a1 then (if a1 < (t104.length:Int) then (some (t103,(t104.eraseIdx (a1:Int).toNat))) else (none)) else (none))=some (r1,r2):=H
 have A3:=Aside0.mk A30
 clear A30
 by_cases c4:0≤a1
 case neg=>rw [if_neg c4] at H;exact absurd H (by simp)
 rw [if_pos c4] at H
 have c4b0:decide (0≤a1)=true:=decide_eq_true c4
 clear c4
 by_cases c5:a1 < (t104.length:Int)
 case neg=>rw [if_neg c5] at H;exact absurd H (by simp)
 rw [if_pos c5] at H
 have c5b0:decide (a1 < (t104.length:Int))=true:=decide_eq_true c5
 clear c5
 obtain ⟨y108,hy108⟩:∃ y_:List (List Int),y_=(t104.eraseIdx (a1:Int).toNat):=⟨_,rfl⟩
 replace H:(some (t103,y108))=some (r1,r2):=by first|(rw [hy108];with_reducible exact H)|(have H2_:=(Option.bind_some _ _).symm.trans H;rw [hy108];with_reducible exact H2_)|(have H2_:=(Option.bind_some _ _).symm.trans H;with_reducible exact H2_)|with_reducible exact H|(rw [hy108];exact H)|exact H
 have Ny108:=Aside0.mk hy108
 clear hy108
 simp only [Option.some.injEq,Prod.mk.injEq] at H
 obtain ⟨rfl,rfl⟩:=H
 go_enter Try.func65,Try.ntmps65
 go_wp2_with (first|((with_reducible refine gate_dst (N:=2) rfl ?_);refine box_event ?hg (N:=2) ?hd (cs:=#[.int .i64 a0_0,.slice A0_1 l0_1.length c0_1]) (t:=28) ?hr ?_;(case hd=>rfl);(case hg=>rfl);(case hr=>first|(go_simp;done)|(go_simp;rfl));intro gb101 hg w6 hbox hb;have n0_:=Aside0.mk (below_step bl hb);have n1_:=Aside0.mk (hbox);have n2_:=Aside0.mk ((by rw [hg];exact (below_size bl):w.heap.size≤gb101));have n3_:=Aside0.mk ((by rw [hg];exact (below_size bl):w.heap.size≤gb101));clear HB;have HB:=n0_;have BK101:=n1_;have GW101:=n2_;have GE101:=n3_;clear n0_ n1_ n2_ n3_;clear hb hbox hg)|((with_reducible refine gate_dst (N:=4) rfl ?_);refine box_event ?hg (N:=4) ?hd (cs:=#[.int .i64 0,.slice none 0 0]) (t:=28) ?hr ?_;(case hd=>rfl);(case hg=>rfl);(case hr=>first|(go_simp;done)|(go_simp;rfl));intro gb102 hg w7 hbox hb;have n0_:=Aside0.mk (blk_below (g:=gb101) (o:=.cells #[.int .i64 a0_0,.slice A0_1 l0_1.length c0_1] 28 (0,0)) bk hb);have n1_:=Aside0.mk (below_step bl hb);have n2_:=Aside0.mk (hbox);have n3_:=Aside0.mk ((by rw [hg];exact (below_size bl):w.heap.size≤gb102));have n4_:=Aside0.mk ((by rw [hg];exact (below_size bl):w.heap.size≤gb102));have n5_:=Aside0.mk ((by rw [hg];exact Nat.ne_of_lt (blk_lt (g:=gb101) (o:=.cells #[.int .i64 a0_0,.slice A0_1 l0_1.length c0_1] 28 (0,0)) bk):gb101 ≠ gb102));have n6_:=Aside0.mk ((by rw [hg];exact Nat.ne_of_gt (blk_lt (g:=gb101) (o:=.cells #[.int .i64 a0_0,.slice A0_1 l0_1.length c0_1] 28 (0,0)) bk):gb102 ≠ gb101));clear BK101;clear HB;have BK101:=n0_;have HB:=n1_;have BK102:=n2_;have GW102:=n3_;have GE102:=n4_;have NB101_102:=n5_;have NB102_101:=n6_;clear n0_ n1_ n2_ n3_ n4_ n5_ n6_;clear hb hbox hg;have hnb8:=NB101_102.out;have hnc8:=NB102_101.out;have hcz9_0:w7.cell? ⟨gb101,0,none⟩=some (.int .i64 a0_0):=(blk_cell BK101.out 0).trans rfl;have hcz9_1:w7.cell? ⟨gb101,1,none⟩=some (.slice A0_1 l0_1.length c0_1):=(blk_cell BK101.out 1).trans rfl;have hfz9_0:=blk_frozen BK101.out 0;have hfz9_1:=blk_frozen BK101.out 1)|((with_reducible refine gate_callee (f:=59) rfl ?_);refine goesL_ (some 7) rfl rfl Try.func59 (by kernel_rfl) rfl #[.agg #[.int .i64 a0_0,.slice A0_1 l0_1.length c0_1]] rfl gm ?_;(with_reducible refine (impl_Graph_own.calls k a0_0 _ _ l0_1 t103 t104 _ ?side1 ?side2 A3.out).mono ?_);(case side1=>repeat (first|exact (Kd.C_below HR0_1.out HB.out)|(with_reducible refine Kd.C_alloc ?_ _)|(with_reducible refine Kd.C_drewN ?_ _)|(with_reducible refine Kd.C_drew ?_)));(case side2=>exact HC0_1.out);rintro e w10 ⟨v105,rfl,ho0,hb⟩;refine ⟨_,rfl,?_⟩;have n0_:=Aside0.mk (Kd.S_lower ho0 (below_size bl));have n1_:=Aside0.mk (blk_below (g:=gb101) (o:=.cells #[.int .i64 a0_0,.slice A0_1 l0_1.length c0_1] 28 (0,0)) bk hb);have n2_:=Aside0.mk (blk_below (g:=gb102) (o:=.cells #[.int .i64 0,.slice none 0 0] 28 (0,0)) bk hb);have n3_:=Aside0.mk (below_step bl hb);clear BK101;clear BK102;clear HB;have HO106:=n0_;have BK101:=n1_;have BK102:=n2_;have HB:=n3_;clear n0_ n1_ n2_ n3_;(try clear hb);(try clear hb2);(try clear hk);(try clear hi);(try clear ho0))|((with_reducible refine gate_dst (N:=5) rfl ?_);refine box_event ?hg (N:=5) ?hd (cs:=#[.int .i64 0,.slice none 0 0]) (t:=28) ?hr ?_;(case hd=>rfl);(case hg=>rfl);(case hr=>first|(go_simp;done)|(go_simp;rfl));intro gb107 hg w11 hbox hb;have n0_:=Aside0.mk (Kd.S_below (by (with_reducible repeat (first|apply Kd.S_alloc|apply Kd.S_drewN|apply Kd.S_drew));exact HO106.out) hb);have n1_:=Aside0.mk (blk_below (g:=gb101) (o:=.cells #[.int .i64 a0_0,.slice A0_1 l0_1.length c0_1] 28 (0,0)) bk hb);have n2_:=Aside0.mk (blk_below (g:=gb102) (o:=.cells #[.int .i64 0,.slice none 0 0] 28 (0,0)) bk hb);have n3_:=Aside0.mk (below_step bl hb);have n4_:=Aside0.mk (hbox);have n5_:=Aside0.mk ((by rw [hg];exact (below_size bl):w.heap.size≤gb107));have n6_:=Aside0.mk ((by rw [hg];exact (below_size bl):w.heap.size≤gb107));have n7_:=Aside0.mk ((by rw [hg];exact Nat.ne_of_lt (blk_lt (g:=gb101) (o:=.cells #[.int .i64 a0_0,.slice A0_1 l0_1.length c0_1] 28 (0,0)) bk):gb101 ≠ gb107));have n8_:=Aside0.mk ((by rw [hg];exact Nat.ne_of_gt (blk_lt (g:=gb101) (o:=.cells #[.int .i64 a0_0,.slice A0_1 l0_1.length c0_1] 28 (0,0)) bk):gb107 ≠ gb101));have n9_:=Aside0.mk ((by rw [hg];exact Nat.ne_of_lt (blk_lt (g:=gb102) (o:=.cells #[.int .i64 0,.slice none 0 0] 28 (0,0)) bk):gb102 ≠ gb107));have n10_:=Aside0.mk ((by rw [hg];exact Nat.ne_of_gt (blk_lt (g:=gb102) (o:=.cells #[.int .i64 0,.slice none 0 0] 28 (0,0)) bk):gb107 ≠ gb102));clear HO106;clear BK101;clear BK102;clear HB;have HO106:=n0_;have BK101:=n1_;have BK102:=n2_;have HB:=n3_;have BK107:=n4_;have GW107:=n5_;have GE107:=n6_;have NB101_107:=n7_;have NB107_101:=n8_;have NB102_107:=n9_;have NB107_102:=n10_;clear n0_ n1_ n2_ n3_ n4_ n5_ n6_ n7_ n8_ n9_ n10_;clear hb hbox hg;have hnb12:=NB107_101.out;have hnc12:=NB101_107.out;have hnb13:=NB107_102.out;have hnc13:=NB102_107.out;have hcz14_0:w11.cell? ⟨gb107,0,none⟩=some (.int .i64 0):=(blk_cell BK107.out 0).trans rfl;have hcz14_1:w11.cell? ⟨gb107,1,none⟩=some (.slice none 0 0):=(blk_cell BK107.out 1).trans rfl;have hfz14_0:=blk_frozen BK107.out 0;have hfz14_1:=blk_frozen BK107.out 1;obtain ⟨Ao15,co15,eo15⟩:=Kd.S_slice HO106.out;subst eo15)|((with_reducible refine gate_store (t:=28) (p:=5) rfl ?_);refine store_event (t:=28) (p:=5) (v:=?vo_w16) (w1:=((w11.setCell ⟨gb107,0,none⟩ (.int .i64 t103)).setCell ⟨gb107,1,none⟩ (.slice Ao15 t104.length co15))) ?hg ?ho ?hn ?hr ?_;(case ho=>rfl);(case hg=>rfl);(case hn=>rfl);(case hr=>first|(go_simp;done)|(go_simp;rfl));intro w16 hw;have n0_:Aside0 (Kd.S (Kd.slice 2 (Kd.int .i64)) 32 w16 w.heap.size (fun _=>True) (.slice Ao15 t104.length co15) t104):=⟨(by rw [hw];exact (by (with_reducible repeat (first|apply Kd.S_alloc|apply Kd.S_drewN|apply Kd.S_drew));exact Kd.S_mono (Kd.S_far (p:=⟨gb107,1,none⟩) (Kd.S_far (p:=⟨gb107,0,none⟩) (Kd.S_types HO106.out BK107.out (by decide)) (fun _ hk=>hk.2) (.int .i64 t103)) (fun _ hk=>hk.2) (.slice Ao15 t104.length co15)) (fun _ hk=>trivial)))⟩;have n1_:Aside0 (w16.heap[gb101]?=some (.cells #[.int .i64 a0_0,.slice A0_1 l0_1.length c0_1] 28 (0,0))):=⟨(by rw [hw];exact (by (with_reducible repeat (first|refine blk_drewN ?_ _|refine blk_drew ?_|refine blk_alloc ?_ _));refine blk_far ?_ NB101_107.out _;(with_reducible repeat (first|refine blk_drewN ?_ _|refine blk_drew ?_|refine blk_alloc ?_ _));refine blk_far ?_ NB101_107.out _;(with_reducible repeat (first|refine blk_drewN ?_ _|refine blk_drew ?_|refine blk_alloc ?_ _));exact BK101.out))⟩;have n2_:Aside0 (w16.heap[gb102]?=some (.cells #[.int .i64 0,.slice none 0 0] 28 (0,0))):=⟨(by rw [hw];exact (by (with_reducible repeat (first|refine blk_drewN ?_ _|refine blk_drew ?_|refine blk_alloc ?_ _));refine blk_far ?_ NB102_107.out _;(with_reducible repeat (first|refine blk_drewN ?_ _|refine blk_drew ?_|refine blk_alloc ?_ _));refine blk_far ?_ NB102_107.out _;(with_reducible repeat (first|refine blk_drewN ?_ _|refine blk_drew ?_|refine blk_alloc ?_ _));exact BK102.out))⟩;have n3_:Aside0 (w16.heap[gb107]?=some (.cells #[.int .i64 t103,.slice Ao15 t104.length co15] 28 (0,0))):=⟨(by rw [hw];exact (by (with_reducible repeat (first|refine blk_drewN ?_ _|refine blk_drew ?_|refine blk_alloc ?_ _));refine blk_put (cs:=#[.int .i64 t103,.slice none 0 0]) ?_ 1 _ rfl;(with_reducible repeat (first|refine blk_drewN ?_ _|refine blk_drew ?_|refine blk_alloc ?_ _));refine blk_put (cs:=#[.int .i64 0,.slice none 0 0]) ?_ 0 _ rfl;(with_reducible repeat (first|refine blk_drewN ?_ _|refine blk_drew ?_|refine blk_alloc ?_ _));exact BK107.out))⟩;have n4_:Aside0 (Below w.heap.size w w16):=⟨(by rw [hw];exact bl)⟩;clear hw;clear HO106;clear BK101;clear BK102;clear BK107;clear HB;have HO106:=n0_;have BK101:=n1_;have BK102:=n2_;have BK107:=n3_;have HB:=n4_;clear n0_ n1_ n2_ n3_ n4_;have hcz17_0:w16.cell? ⟨gb107,0,none⟩=some (.int .i64 t103):=(blk_cell BK107.out 0).trans rfl;have hcz17_1:w16.cell? ⟨gb107,1,none⟩=some (.slice Ao15 t104.length co15):=(blk_cell BK107.out 1).trans rfl;have hfz17_0:=blk_frozen BK107.out 0;have hfz17_1:=blk_frozen BK107.out 1)|(go_at_call 96;have hi0_:0≤(a1:Int):=oD;have hi1_:(a1:Int) < (t104.length:Int):=oD;obtain ⟨gd19,cap_,ev_,_⟩:=Kd.S_form HO106.out (by omega);injection ev_ with ea_ en_ ec_;subst ea_;clear en_ ec_;refine (slices_Delete_int64_int64.calls _ gd19 t104.length co15 t104 a1 w.heap.size w _ bl (below_size bl) (by (with_reducible repeat (first|apply Kd.S_alloc|apply Kd.S_drewN|apply Kd.S_drew));exact HO106.out) hi0_ hi1_).mono ?_;rintro e w18 ⟨rfl,ho,hb,hg⟩;clear hi0_ hi1_;rw [← Ny108.out] at ho;have hn_:t104.length - 1=y108.length:=(by have:=(Kd.S_reads' ho).1;omega);rw [hn_] at ho ⊢;clear hn_;have n0_:=Aside0.mk (blk_grown (g:=gb101) (o:=.cells #[.int .i64 a0_0,.slice A0_1 l0_1.length c0_1] 28 (0,0)) bk hg (Kd.S_ne HO106.out BK101.out (by decide)));have n1_:=Aside0.mk (blk_grown (g:=gb102) (o:=.cells #[.int .i64 0,.slice none 0 0] 28 (0,0)) bk hg (Kd.S_ne HO106.out BK102.out (by decide)));have n2_:=Aside0.mk (ho);have n3_:=Aside0.mk (blk_grown (g:=gb107) (o:=.cells #[.int .i64 t103,.slice (some ⟨gd19,0,none⟩) t104.length co15] 28 (0,0)) bk hg (Kd.S_ne HO106.out BK107.out (by decide)));have n4_:=Aside0.mk (hb);clear BK101;clear BK102;clear HO106;clear BK107;clear HB;have BK101:=n0_;have BK102:=n1_;have HO106:=n2_;have BK107:=n3_;have HB:=n4_;clear n0_ n1_ n2_ n3_ n4_;clear ho hb hg;have hcz20_0:w18.cell? ⟨gb107,0,none⟩=some (.int .i64 t103):=(blk_cell BK107.out 0).trans rfl;have hcz20_1:w18.cell? ⟨gb107,1,none⟩=some (.slice (some ⟨gd19,0,none⟩) t104.length co15):=(blk_cell BK107.out 1).trans rfl;have hfz20_0:=blk_frozen BK107.out 0;have hfz20_1:=blk_frozen BK107.out 1;have hcz21_0:w18.cell? ⟨gb102,0,none⟩=some (.int .i64 0):=(blk_cell BK102.out 0).trans rfl;have hcz21_1:w18.cell? ⟨gb102,1,none⟩=some (.slice none 0 0):=(blk_cell BK102.out 1).trans rfl;have hfz21_0:=blk_frozen BK102.out 0;have hfz21_1:=blk_frozen BK102.out 1))
 refine bodyPost_ret (results_cell_row rfl _ _ gb102 28 #[.int .i64 t103,.slice (some ⟨gd19,0,none⟩) y108.length co15] (0,0) _ rfl (by (with_reducible repeat (first|refine blk_drewN ?_ _|refine blk_drew ?_|refine blk_alloc ?_ _));refine blk_put (cs:=#[.int .i64 t103,.slice none 0 0]) ?_ 1 _ rfl;(with_reducible repeat (first|refine blk_drewN ?_ _|refine blk_drew ?_|refine blk_alloc ?_ _));refine blk_put (cs:=#[.int .i64 0,.slice none 0 0]) ?_ 0 _ rfl;(with_reducible repeat (first|refine blk_drewN ?_ _|refine blk_drew ?_|refine blk_alloc ?_ _));refine blk_far ?_ NB102_107.out _;(with_reducible repeat (first|refine blk_drewN ?_ _|refine blk_drew ?_|refine blk_alloc ?_ _));exact BK102.out) Try.underlying28 rfl (by kernel_rfl)) rfl ?_
 exact ⟨_,by first|rfl|(simp [errW_none,errW_some]<;>rfl)|(simp [*,errW_none,errW_some]<;>rfl),by (with_reducible repeat (first|apply Kd.S_alloc|apply Kd.S_drewN|apply Kd.S_drew));exact Kd.S_mono (Kd.S_far (p:=⟨gb102,1,none⟩) (Kd.S_far (p:=⟨gb102,0,none⟩) (Kd.S_far (p:=⟨gb107,1,none⟩) (Kd.S_types (Kd.S_types HO106.out BK107.out (by decide)) BK102.out (by decide)) (fun _ hk=>hk.1.2) (.slice (some ⟨gd19,0,none⟩) y108.length co15)) (fun _ hk=>hk.2) (.int .i64 t103)) (fun _ hk=>hk.2) (.slice (some ⟨gd19,0,none⟩) y108.length co15)) (fun _ hk=>trivial),bl⟩
end Go.Proofs.Ytjgdibhalmcigaa.D
/- Set with little white space, by a program. -/
