/- The functions that one law reaches, each as a Lean function, and that Go's call comes to what it says. Condition of each: that the Lean function answers (is not none). -/
import Derived.Test.YtoebojnhchocaaaAx0
import Derived.Test.YtoebojnhchocaaaAx5
namespace Go.Proofs.Ytoebojnhchocaaa.A
open Go.RowKit Go.Proofs.YtoebojnhchocaaaW.PrintWords Go.Proofs.YtoebojnhchocaaaW.PrintLast Go.Proofs.YtoebojnhchocaaaW.PrintMore
attribute [local go_sem] max2_int min2_int max_two min_two max_three min_three max_four min_four   -- for this text's walks alone
set_option linter.unusedVariables false
set_option linter.unusedSimpArgs false
/-! ### F135: function 135 -/
mutual
def F135.l0 : Nat → List (List Int) → Int → Int → Int → List (List Int) → Option ((List (List Int)))
 | 0,_,_,_,_,_=>none
 | k+1,x3,x4,x5,x102000,x102001=>if x5 < x4 then (if 0≤x4 then (if (x4:Int).toNat≤35184372088832 then ((F201.f x102000 x102001 x5).bind fun bt108=>(F135.l1 k x3 x4 x5 (List.replicate (x4:Int).toNat 0) bt108.2 0 x102000 x102001)) else (none)) else (none)) else (some x3)
def F135.l1 : Nat → List (List Int) → Int → Int → List Int → Int → Int → Int → List (List Int) → Option ((List (List Int)))
 | 0,_,_,_,_,_,_,_,_=>none
 | k+1,x3,x4,x5,x6,x8,x9,x102000,x102001=>if x9 < x4 then ((F201.f x102000 x102001 x9).bind fun bt110=>(if bt110.1=x8 then (if x9=(Go.bits .xor .i64 x5 1) then (F135.l1 k x3 x4 x5 x6 x8 (wrap64 (x9+1)) x102000 x102001) else (if 0≤x9 then (if x9 < (x6.length:Int) then (F135.l1 k x3 x4 x5 (x6.set (x9:Int).toNat 1) x8 (wrap64 (x9+1)) x102000 x102001) else (none)) else (none))) else (F135.l1 k x3 x4 x5 x6 x8 (wrap64 (x9+1)) x102000 x102001))) else (if x3.length < 5864062014805 then (F135.l0 k (x3 ++ [x6]) x4 (wrap64 (x5+1)) x102000 x102001) else (none))
end
def F135.f (k:Nat) (a0_0:Int) (l0_1:List (List Int)):Option ((List (List Int))):=F135.l0 k (([]:List (List Int))) (wrap64 (2 * (l0_1.length:Int))) 0 a0_0 l0_1
theorem F135.mono_l : ∀ k, (∀ y0 y1 y2 y3 y4, LeO (F135.l0 k y0 y1 y2 y3 y4) (F135.l0 (k + 1) y0 y1 y2 y3 y4)) ∧ (∀ y0 y1 y2 y3 y4 y5 y6 y7, LeO (F135.l1 k y0 y1 y2 y3 y4 y5 y6 y7) (F135.l1 (k + 1) y0 y1 y2 y3 y4 y5 y6 y7))
 | 0=>⟨fun _ _ _ _ _ r h=>by simp [F135.l0] at h,fun _ _ _ _ _ _ _ _ r h=>by simp [F135.l1] at h⟩
 | k+1=>by
  obtain ⟨ih0,ih1⟩:=F135.mono_l k
  refine ⟨?_, ?_⟩ <;> intros <;> (first | unfold F135.l0 | unfold F135.l1) <;> repeat' first
   | (with_reducible first|exact ih0 _ _ _ _ _|exact ih1 _ _ _ _ _ _ _ _|exact LeO.refl _|exact LeO.none _|refine LeO.ite ?_ ?_|refine LeO.bind ?_ (fun _=>?_))
   | exact ih0 _ _ _ _ _|exact ih1 _ _ _ _ _ _ _ _|exact LeO.none _|refine LeO.ite ?_ ?_|refine LeO.bind ?_ (fun _=>?_)
theorem F135.mono:∀ a0 a1 k,LeO (F135.f k a0 a1) (F135.f (k+1) a0 a1):=by
 intro a0 a1 k
 obtain ⟨ih0,ih1⟩:=F135.mono_l k
 unfold F135.f
 repeat' first
  | (with_reducible first|exact ih0 _ _ _ _ _|exact ih1 _ _ _ _ _ _ _ _|exact LeO.refl _|exact LeO.none _|refine LeO.ite ?_ ?_|refine LeO.bind ?_ (fun _=>?_))
  | exact ih0 _ _ _ _ _|exact ih1 _ _ _ _ _ _ _ _|exact LeO.none _|refine LeO.ite ?_ ?_|refine LeO.bind ?_ (fun _=>?_)
set_option maxHeartbeats 8000000 in
set_option maxRecDepth 100000 in
theorem F135.calls (k : Nat) (a0_0 : Int) (A0_1 : Option Addr) (c0_1 : Nat) (l0_1 : List (List Int)) (r : List (List Int)) (w : World) (hr0_1 : Kd.C (Kd.slice 2 (Kd.int .i64)) w A0_1 l0_1.length l0_1) (hc0_1 : l0_1.length ≤ c0_1) (h : F135.f k a0_0 l0_1 = some r) :
  Calls Try.prog 135 #[.agg #[.int .i64 a0_0,.slice A0_1 l0_1.length c0_1]] w fun e w'=>∃ v0_:Value,e=.returned (v0_)∧Kd.S (Kd.slice 2 (Kd.int .i64)) 28 w' w.heap.size (fun _=>True) v0_ r∧Below w.heap.size w w':=by
 have hu31:=Try.underlying31
 have HR0_1:=Aside0.mk hr0_1
 have HC0_1:=Aside0.mk hc0_1
 clear hr0_1 hc0_1
 have HB:=Aside0.mk (Below.refl w.heap.size w)
 have H:(F135.l0 k (([]:List (List Int))) (wrap64 (2 * (l0_1.length:Int))) 0 a0_0 l0_1)=some r:=h
 clear h
 obtain ⟨y102,hy102⟩:∃ y_:List (List Int),y_=(([]:List (List Int))):=⟨_,rfl⟩
 replace H:(F135.l0 k y102 (wrap64 (2 * (l0_1.length:Int))) 0 a0_0 l0_1)=some r:=by first|(rw [hy102];with_reducible exact H)|(have H2_:=(Option.bind_some _ _).symm.trans H;rw [hy102];with_reducible exact H2_)|(have H2_:=(Option.bind_some _ _).symm.trans H;with_reducible exact H2_)|with_reducible exact H|(rw [hy102];exact H)|exact H
 have Ny102:=Aside0.mk hy102
 clear hy102
 have H':=Aside0.mk H
 clear H
 go_enter Try.func135,Try.ntmps135
 try go_wp2_with (first|((with_reducible refine gate_dst (N:=1) rfl ?_);refine box_event ?hg (N:=1) ?hd (cs:=#[.int .i64 a0_0,.slice A0_1 l0_1.length c0_1]) (t:=31) ?hr ?_;(case hd=>rfl);(case hg=>rfl);(case hr=>first|(go_simp;done)|(go_simp;rfl));intro gb101 hg w2 hbox hb;have BK101:=Aside0.mk (hbox);have GW101:=Aside0.mk ((by rw [hg];exact (below_size bl):w.heap.size≤gb101));have GE101:=Aside0.mk ((by rw [hg];exact (below_size bl):w.heap.size≤gb101));replace HB:=Aside0.mk (below_step bl hb);clear hb hbox hg))
 replace BK101:=Aside0.mk (blk_drew BK101.out);replace HB:=Aside0.mk (below_drew1 HB.out)
 refine start_ (n:=7) (S:=fun w'=>w'.cell? ⟨gb101,0,none⟩=some (.int .i64 a0_0)∧w'.cell? ⟨gb101,1,none⟩=some (.slice A0_1 l0_1.length c0_1)) (ds:=[]) (ba 7 0) (by kernel_rfl) rfl rfl ⟨(blk_cell BK101.out 0).trans rfl,(blk_cell BK101.out 1).trans rfl⟩ (fun hHeld=>?_)
 generalize w2.drew=w3 at BK101 HB hHeld ⊢
 refine pure_ (i:=1) (N:=some 13) (v:=?_) (a':=?_) (ba 7 2) rfl rfl (by kernel_rfl) (fun _ _ _ h=>h) (Or.inl ⟨by rfl,?_⟩) ?_ ?_
 rotate_left;· intro w';go_simp;with_reducible rfl
 rotate_left;· simp only [Act.put,zI,zZ,zS,i64_w,i32_w];rfl
 refine take_ (i:=2) (N:=some 14) (v:=?_) (a':=?_) (ba 7 6) rfl rfl (by kernel_rfl) (fun _ _ _ h=>h) (Or.inl ⟨by rfl,?_⟩) hHeld ?_ ?_
 rotate_left;· rintro w' ⟨s0,s1⟩;go_simp;with_reducible rfl
 rotate_left;· simp only [Act.put,zI,zZ,zS,i64_w,i32_w];rfl
 refine pure_ (i:=3) (N:=some 15) (v:=?_) (a':=?_) (ba 7 14) rfl rfl (by kernel_rfl) (fun _ _ _ h=>h) (Or.inl ⟨by rfl,?_⟩) ?_ ?_
 rotate_left;· intro w';go_simp;with_reducible rfl
 rotate_left;· simp only [Act.put,zI,zZ,zS,i64_w,i32_w];rfl
 refine pure_ (i:=4) (N:=some 16) (v:=?_) (a':=?_) (ba 7 30) rfl rfl (by kernel_rfl) (fun _ _ _ h=>h) (Or.inl ⟨by rfl,?_⟩) ?_ ?_
 rotate_left;· intro w';go_simp;with_reducible rfl
 rotate_left;· simp only [Act.put,zI,zZ,zS,i64_w,i32_w];rfl
 refine one_ (i:=0) (N:=some 12) (ba 7 31) rfl rfl (by kernel_rfl) (by decide) (fun K hK=>?_)
 refine Kd.S_lit_step (Kd.slice 2 (Kd.int .i64)) _ 28 ?hg (N:=12) ?hd (xs:=([]:List (List Int))) (inner:=[]) (ok:=fun _=>True) (okp:=fun _=>True) ?hr ?hp (fun _ hk=>hk) trivial (Below.refl _ _) (Nat.le_refl _) (by simp) ?_;(case hd=>rfl);(case hg=>rfl);(case hr=>first|(go_simp;done)|(go_simp;rfl));(case hp=>exact (Reps.none _ _))
 intro v103 w4 ho5 hb hg_ hnew_
 clear hg_ hnew_
 (first|rw [← Ny102.out] at ho5|(simp only [Int.reduceToNat] at ho5;rw [← Ny102.out] at ho5))
 have HO104:=Aside0.mk (Kd.S_lower ho5 (below_size bl));replace BK101:=Aside0.mk (blk_below (g:=gb101) (o:=.cells #[.int .i64 a0_0,.slice A0_1 l0_1.length c0_1] 31 (0,0)) bk hb);replace HB:=Aside0.mk (below_step bl hb)
 clear hb ho5
 refine hK.out _ _ ⟨(blk_cell BK101.out 0).trans rfl,(blk_cell BK101.out 1).trans rfl⟩ (fun hHeld=>?_)
 clear hK K
 refine norm_ (a':=?_) ?_ ?_
 rotate_left;· show Act.put _ (some 12) _=_;simp only [Act.put,zI,zZ,zS,i64_w,i32_w];rfl
 refine pure_ (i:=5) (N:=some 3) (v:=?_) (a':=?_) (ba 7 63) rfl rfl (by kernel_rfl) (fun _ _ _ h=>h) (Or.inl ⟨by rfl,?_⟩) ?_ ?_
 rotate_left;· intro w';go_simp;with_reducible rfl
 rotate_left;· simp only [Act.put,zI,zZ,zS,i64_w,i32_w];rfl
 refine pure_ (i:=6) (N:=some 4) (v:=?_) (a':=?_) (ba 7 127) rfl rfl (by kernel_rfl) (fun _ _ _ h=>h) (Or.inl ⟨by rfl,?_⟩) ?_ ?_
 rotate_left;· intro w';go_simp;with_reducible rfl
 rotate_left;· simp only [Act.put,zI,zZ,zS,i64_w,i32_w];rfl
 refine done_ (by kernel_rfl) ?_
 try go_wp2
 go_loopg [3,5] k (fun kq v3 v5 w'=>∃ (x3_1:List (List Int)) (x5_1:Int),v5=.int .i64 x5_1∧Aside0 (F135.l0 kq x3_1 (wrap64 (2 * (l0_1.length:Int))) x5_1 a0_0 l0_1=some r)∧Aside0 (kq≤k)∧Aside0 (Kd.S (Kd.slice 2 (Kd.int .i64)) 28 w' w.heap.size (fun _=>True) v3 x3_1)∧Aside0 (w'.heap[gb101]?=some (.cells #[.int .i64 a0_0,(.slice A0_1 l0_1.length c0_1)] 31 (0,0)))∧Aside0 (Below w.heap.size w w'))
 case atStart=>exact ⟨(y102),(0),rs,H',⟨Nat.le_refl _⟩,⟨by (with_reducible repeat (first|apply Kd.S_alloc|apply Kd.S_drewN|apply Kd.S_drew));exact HO104.out⟩,⟨bk⟩,⟨bl⟩⟩
 case round =>
  clear H'
  (try clear c1);(try clear p2)
  obtain ⟨x3_1,x5_1,rfl,HA,HK1,HO_3,BK101,HB⟩:=hrel
  cases gk with
  | zero=>exact absurd HA.out (by simp [F135.l0])
  | succ k1 =>
   have H:=HA.out
   clear HA
   simp only [F135.l0] at H
   by_cases c6:x5_1 < (wrap64 (2 * (l0_1.length:Int)))
   case neg =>
    rw [if_neg c6] at H
    have c6b0:decide (x5_1 < (wrap64 (2 * (l0_1.length:Int))))=false:=decide_eq_false c6
    clear c6
    obtain rfl:=Option.some.inj H
    go_wp2
    go_ret
    exact ⟨_,by first|rfl|(simp [errW_none,errW_some]<;>rfl)|(simp [*,errW_none,errW_some]<;>rfl),by (with_reducible repeat (first|apply Kd.S_alloc|apply Kd.S_drewN|apply Kd.S_drew));exact HO_3.out,bl⟩
   rw [if_pos c6] at H
   have c6b0:=decide_eq_true c6
   clear c6
   obtain ⟨ji7,hji7⟩:∃ j_:Int,(wrap64 (2 * (l0_1.length:Int)))=j_:=⟨_,rfl⟩
   replace H:(if 0≤(ji7) then (if ((ji7):Int).toNat≤35184372088832 then ((F201.f a0_0 l0_1 x5_1).bind fun bt108=>(F135.l1 k1 x3_1 (ji7) x5_1 (List.replicate ((ji7):Int).toNat 0) bt108.2 0 a0_0 l0_1)) else (none)) else (none))=some r:=by first|(rw [hji7] at H;exact H)|(simp only [hji7] at H ⊢;exact H)
   (try rw [hji7] at c6b0)
   have hji7w:(IntKind.i64.wrap (2 * (l0_1.length:Int)))=ji7:=(i64_w _).trans hji7
   replace H:=iS H;obtain ⟨c8,H⟩:=H
   have c8b0:=eq_true c8
   have c8b1:=decide_eq_true c8
   clear c8
   replace H:=iS H;obtain ⟨c9,H⟩:=H
   have c9b0:=eq_true c9
   have c9b1:=decide_eq_true c9
   clear c9
   obtain ⟨y105,hy105⟩:∃ y_:List Int,y_=(List.replicate ((ji7):Int).toNat 0):=⟨_,rfl⟩
   replace H:((F201.f a0_0 l0_1 x5_1).bind fun bt108=>(F135.l1 k1 x3_1 (ji7) x5_1 y105 bt108.2 0 a0_0 l0_1))=some r:=by first|(rw [hy105];with_reducible exact H)|(have H2_:=(Option.bind_some _ _).symm.trans H;rw [hy105];with_reducible exact H2_)|(have H2_:=(Option.bind_some _ _).symm.trans H;with_reducible exact H2_)|with_reducible exact H|(rw [hy105];exact H)|exact H
   have Ny105:=Aside0.mk hy105
   clear hy105
   replace H:=Option.bind_eq_some_iff.mp H
   obtain ⟨⟨t108,t109⟩,A100,H⟩:=H
   replace H:(F135.l1 k1 x3_1 (ji7) x5_1 y105 t109 0 a0_0 l0_1)=some r:=H
   have A10:=Aside0.mk A100
   clear A100
   have H':=Aside0.mk H
   clear H
   go_wp2_with (first|((with_reducible refine gate_dst (N:=23) rfl ?_);(try simp only [hji7,hji7w]);refine Kd.R_make (Kd.int .i64) _ 2 rfl (N:=23) rfl 28 _ _ rfl (ji7) rfl rfl Try.underlying28 (.int .i64 0) 8 info2 rfl (by decide) (by omega) 0 (ok:=fun _=>True) (okp:=fun _=>True) rfl (fun _ hk=>hk) trivial oD (Nat.le_trans (Nat.mul_le_mul_right _ (oD:(ji7).toNat≤35184372088832)) (by omega)) (Below.refl _ _) (Nat.le_refl _) ?_;intro v106 w11 ho12 hb hg_ hnew_;clear hg_ hnew_;(first|rw [← Ny105.out] at ho12|(simp only [Int.reduceToNat] at ho12;rw [← Ny105.out] at ho12));replace HO_3:=Aside0.mk (Kd.S_elder' (aS HO_3.out) (Kd.R_base ho12) hb);have HO107:=Aside0.mk (Kd.R_lower ho12 (below_size bl));replace BK101:=Aside0.mk (blk_below (g:=gb101) (o:=.cells #[.int .i64 a0_0,.slice A0_1 l0_1.length c0_1] 31 (0,0)) bk hb);replace HB:=Aside0.mk (below_step bl hb);clear hb ho12;have hcz13_0:w11.cell? ⟨gb101,0,none⟩=some (.int .i64 a0_0):=(blk_cell BK101.out 0).trans rfl;have hcz13_1:w11.cell? ⟨gb101,1,none⟩=some (.slice A0_1 l0_1.length c0_1):=(blk_cell BK101.out 1).trans rfl;have hfz13_0:=blk_frozen BK101.out 0;have hfz13_1:=blk_frozen BK101.out 1)|((with_reducible refine gate_callee (f:=201) rfl ?_);refine goesL_ (some 27) rfl rfl Try.func201 (by kernel_rfl) rfl #[.agg #[.int .i64 a0_0,.slice A0_1 l0_1.length c0_1],.int .i64 x5_1] rfl gm ?_;(with_reducible refine (F201.calls a0_0 _ _ l0_1 x5_1 t108 t109 _ ?side1 ?side2 A10.out).mono ?_);(case side1=>exact aC (Kd.C_below HR0_1.out HB.out));(case side2=>exact HC0_1.out);rintro e w14 ⟨rfl,hb⟩;refine ⟨_,rfl,?_⟩;replace HO_3:=Aside0.mk (Kd.S_below (aS HO_3.out) hb);replace HO107:=Aside0.mk (Kd.R_below (aR HO107.out) hb);replace BK101:=Aside0.mk (blk_below (g:=gb101) (o:=.cells #[.int .i64 a0_0,.slice A0_1 l0_1.length c0_1] 31 (0,0)) bk hb);replace HB:=Aside0.mk (below_step bl hb);(try clear hb);(try clear hb2);(try clear hk);(try clear hi)))
   go_loopg [9] k1 (fun kq v9 w'=>∃ (x6_2:List Int) (x9_2:Int),v9=.int .i64 x9_2∧Aside0 (F135.l1 kq x3_1 (ji7) x5_1 x6_2 t109 x9_2 a0_0 l0_1=some r)∧Aside0 (kq≤k1)∧Aside0 (Kd.S (Kd.slice 2 (Kd.int .i64)) 28 w' w.heap.size (fun k_=>some k_ ≠ (v106:Value).ownBlock) u3 x3_1)∧Aside0 (Kd.R (Kd.int .i64) 2 w' w.heap.size (fun _=>True) v106 x6_2)∧Aside0 (w'.heap[gb101]?=some (.cells #[.int .i64 a0_0,(.slice A0_1 l0_1.length c0_1)] 31 (0,0)))∧Aside0 (Below w.heap.size w w'))
   case atStart=>exact ⟨(y105),(0),rs,H',⟨Nat.le_refl _⟩,⟨by (with_reducible repeat (first|apply Kd.S_alloc|apply Kd.S_drewN|apply Kd.S_drew));exact Kd.S_mono HO_3.out (fun _ hk=>hk.2)⟩,⟨by (with_reducible repeat (first|apply Kd.R_alloc|apply Kd.R_drewN|apply Kd.R_drew));exact HO107.out⟩,⟨bk⟩,⟨bl⟩⟩
   case round =>
    clear H'
    (try clear c1);(try clear c2);(try clear p2);(try clear c6);(try clear c6b0);(try clear p6);(try clear c8);(try clear c8b0);(try clear c8b1);(try clear c9);(try clear c9b0);(try clear c9b1);(try clear c13);(try clear hcz13_0);(try clear hcz13_1);(try clear hfz13_0);(try clear hfz13_1);(try clear p2)
    obtain ⟨x6_2,x9_2,rfl,HA,HK2,HO_3,HO_6,BK101,HB⟩:=hrel
    cases gk with
    | zero=>exact absurd HA.out (by simp [F135.l1])
    | succ k2 =>
     have H:=HA.out
     clear HA
     simp only [F135.l1] at H
     by_cases c15:x9_2 < (ji7)
     case neg =>
      rw [if_neg c15] at H
      have c15b0:decide (x9_2 < (ji7))=false:=decide_eq_false c15
      clear c15
      replace H:=iS H;obtain ⟨c30,H⟩:=H
      have LMc30:=Aside0.mk c30
      clear c30
      obtain ⟨y113,hy113⟩:∃ y_:List (List Int),y_=(x3_1 ++ [x6_2]):=⟨_,rfl⟩
      replace H:(F135.l0 k2 y113 (ji7) (wrap64 (x5_1+1)) a0_0 l0_1)=some r:=by first|(rw [hy113];with_reducible exact H)|(have H2_:=(Option.bind_some _ _).symm.trans H;rw [hy113];with_reducible exact H2_)|(have H2_:=(Option.bind_some _ _).symm.trans H;with_reducible exact H2_)|with_reducible exact H|(rw [hy113];exact H)|exact H
      have Ny113:=Aside0.mk hy113
      clear hy113
      have H':=Aside0.mk H
      clear H
      obtain ⟨Ao32,co32,eo32⟩:=Kd.R_slice HO_6.out
      subst eo32
      go_wp2_with (first|((with_reducible refine gate_builtin (b:=.append) (xs:=#[.tmp 53,.tmp 55]) rfl ?_);at_builtin;refine Kd.S_append (Kd.slice 2 (Kd.int .i64)) (w0:=w) w.heap.size rfl (.tmp 53) (.tmp 55) 22 28 (.slice none 0 0) 24 rfl Try.underlying22 info28 rfl (by decide) (by omega) u3 x3_1 x6_2 [.slice Ao32 x6_2.length co32] (fun _=>True) (fun k_=>some k_=(.slice Ao32 x6_2.length co32:Value).ownBlock) rfl rfl ?aP (fun k_ hk_=>((Kd.R_mono (ok':=fun k_=>((fun _=>True)) k_∧some k_ ≠ (u3:Value).ownBlock) (Kd.R_apart' (HO_6.out) (Kd.S_typed HO_3.out) (by decide)) (fun k_ hk=>⟨trivial,hk.2⟩))).1 k_ hk_.symm) ?aF ?aO ?aB ?aS ?aL ?_;(case aP=>exact Kd.M_row (Kd.R_mono (Kd.R_tight rfl (Kd.R_mono (ok':=fun k_=>((fun _=>True)) k_∧some k_ ≠ (u3:Value).ownBlock) (Kd.R_apart' (HO_6.out) (Kd.S_typed HO_3.out) (by decide)) (fun k_ hk=>⟨trivial,hk.2⟩))) (fun _ h_=>h_)));(case aB=>exact bl);(case aF=>exact (fun _ _=>trivial));(case aO=>exact (by (with_reducible repeat (first|apply Kd.S_alloc|apply Kd.S_drewN|apply Kd.S_drew));exact Kd.S_mono HO_3.out (fun k_ hk=>⟨trivial,fun e_=>hk e_⟩)));(case aS=>exact (below_size bl));(case aL=>have:=LMc30.out;omega);intro v114 w31 ho hb hg hat;rw [← Ny113.out] at ho;have n0_:=Aside0.mk (blk_grown (g:=gb101) (o:=.cells #[.int .i64 a0_0,.slice A0_1 l0_1.length c0_1] 31 (0,0)) bk hg (Kd.S_ne HO_3.out BK101.out (by decide)));have n1_:=Aside0.mk (hb);have n2_:=Aside0.mk (ho);clear BK101;clear HB;clear HO_3;clear HO_6;have BK101:=n0_;have HB:=n1_;have HO115:=n2_;clear n0_ n1_ n2_;clear ho hb hg hat))
      first|go_roundg k2|(simp only [← hji7];go_roundg k2)
      case measure=>have:=HK1.out;have:=HK2.out;omega
      case rel=>exact ⟨(y113),(wrap64 (x5_1+1)),rs,(by first|exact H'|(rw [hji7];exact H')),⟨by have:=HK1.out;have:=HK2.out;omega⟩,⟨by (with_reducible repeat (first|apply Kd.S_alloc|apply Kd.S_drewN|apply Kd.S_drew));exact HO115.out⟩,⟨bk⟩,⟨bl⟩⟩
     rw [if_pos c15] at H
     have c15b0:=decide_eq_true c15
     clear c15
     replace H:=Option.bind_eq_some_iff.mp H
     obtain ⟨⟨t110,t111⟩,A160,H⟩:=H
     replace H:(if t110=t109 then (if x9_2=(Go.bits .xor .i64 x5_1 1) then (F135.l1 k2 x3_1 (ji7) x5_1 x6_2 t109 (wrap64 (x9_2+1)) a0_0 l0_1) else (if 0≤x9_2 then (if x9_2 < (x6_2.length:Int) then (F135.l1 k2 x3_1 (ji7) x5_1 (x6_2.set (x9_2:Int).toNat 1) t109 (wrap64 (x9_2+1)) a0_0 l0_1) else (none)) else (none))) else (F135.l1 k2 x3_1 (ji7) x5_1 x6_2 t109 (wrap64 (x9_2+1)) a0_0 l0_1))=some r:=H
     have A16:=Aside0.mk A160
     clear A160
     by_cases c17:t110=t109
     case neg =>
      rw [if_neg c17] at H
      have c17b0:(t110 == t109)=false:=beq_eq_false_iff_ne.mpr c17
      have c17b1:(t110 != t109)=true:=bne_iff_ne.mpr c17
      have H':=Aside0.mk H
      clear H
      have hcz28_0:wr.cell? ⟨gb101,0,none⟩=some (.int .i64 a0_0):=(blk_cell BK101.out 0).trans rfl
      have hcz28_1:wr.cell? ⟨gb101,1,none⟩=some (.slice A0_1 l0_1.length c0_1):=(blk_cell BK101.out 1).trans rfl
      have hfz28_0:=blk_frozen BK101.out 0
      have hfz28_1:=blk_frozen BK101.out 1
      go_wp2_with (first|((with_reducible refine gate_callee (f:=201) rfl ?_);refine goesL_ (some 38) rfl rfl Try.func201 (by kernel_rfl) rfl #[.agg #[.int .i64 a0_0,.slice A0_1 l0_1.length c0_1],.int .i64 x9_2] rfl gm ?_;(with_reducible refine (F201.calls a0_0 _ _ l0_1 x9_2 t110 t111 _ ?side1 ?side2 A16.out).mono ?_);(case side1=>exact aC (Kd.C_below HR0_1.out HB.out));(case side2=>exact HC0_1.out);rintro e w29 ⟨rfl,hb⟩;refine ⟨_,rfl,?_⟩;replace HO_3:=Aside0.mk (Kd.S_below (aS HO_3.out) hb);replace HO_6:=Aside0.mk (Kd.R_below (aR HO_6.out) hb);replace BK101:=Aside0.mk (blk_below (g:=gb101) (o:=.cells #[.int .i64 a0_0,.slice A0_1 l0_1.length c0_1] 31 (0,0)) bk hb);replace HB:=Aside0.mk (below_step bl hb);(try clear hb);(try clear hb2);(try clear hk);(try clear hi)))
      first|go_roundg k2|(simp only [← hji7];go_roundg k2)
      case measure=>have:=HK1.out;have:=HK2.out;omega
      case rel=>exact ⟨(x6_2),(wrap64 (x9_2+1)),rs,(by first|exact H'|(rw [hji7];exact H')),⟨by have:=HK1.out;have:=HK2.out;omega⟩,⟨by (with_reducible repeat (first|apply Kd.S_alloc|apply Kd.S_drewN|apply Kd.S_drew));exact HO_3.out⟩,⟨by (with_reducible repeat (first|apply Kd.R_alloc|apply Kd.R_drewN|apply Kd.R_drew));exact HO_6.out⟩,⟨bk⟩,⟨bl⟩⟩
     rw [if_pos c17] at H
     have c17b0:(t110 == t109)=true:=beq_iff_eq.mpr c17
     have c17b1:(t110 != t109)=false:=bne_eq_false_iff_eq.mpr c17
     clear c17
     by_cases c18:x9_2=(Go.bits .xor .i64 x5_1 1)
     case neg =>
      rw [if_neg c18] at H
      have c18b0:(x9_2 == (Go.bits .xor .i64 x5_1 1))=false:=beq_eq_false_iff_ne.mpr c18
      have c18b1:(x9_2 != (Go.bits .xor .i64 x5_1 1))=true:=bne_iff_ne.mpr c18
      replace H:=iS H;obtain ⟨c21,H⟩:=H
      have c21b0:=decide_eq_true c21
      clear c21
      replace H:=iS H;obtain ⟨c22,H⟩:=H
      have c22b0:=decide_eq_true c22
      clear c22
      obtain ⟨y112,hy112⟩:∃ y_:List Int,y_=(x6_2.set (x9_2:Int).toNat 1):=⟨_,rfl⟩
      replace H:(F135.l1 k2 x3_1 (ji7) x5_1 y112 t109 (wrap64 (x9_2+1)) a0_0 l0_1)=some r:=by first|(rw [hy112];with_reducible exact H)|(have H2_:=(Option.bind_some _ _).symm.trans H;rw [hy112];with_reducible exact H2_)|(have H2_:=(Option.bind_some _ _).symm.trans H;with_reducible exact H2_)|with_reducible exact H|(rw [hy112];exact H)|exact H
      have Ny112:=Aside0.mk hy112
      clear hy112
      have H':=Aside0.mk H
      clear H
      have hcz24_0:wr.cell? ⟨gb101,0,none⟩=some (.int .i64 a0_0):=(blk_cell BK101.out 0).trans rfl
      have hcz24_1:wr.cell? ⟨gb101,1,none⟩=some (.slice A0_1 l0_1.length c0_1):=(blk_cell BK101.out 1).trans rfl
      have hfz24_0:=blk_frozen BK101.out 0
      have hfz24_1:=blk_frozen BK101.out 1
      go_wp2_with (first|((with_reducible refine gate_callee (f:=201) rfl ?_);refine goesL_ (some 38) rfl rfl Try.func201 (by kernel_rfl) rfl #[.agg #[.int .i64 a0_0,.slice A0_1 l0_1.length c0_1],.int .i64 x9_2] rfl gm ?_;(with_reducible refine (F201.calls a0_0 _ _ l0_1 x9_2 t110 t111 _ ?side1 ?side2 A16.out).mono ?_);(case side1=>exact aC (Kd.C_below HR0_1.out HB.out));(case side2=>exact HC0_1.out);rintro e w25 ⟨rfl,hb⟩;refine ⟨_,rfl,?_⟩;replace HO_3:=Aside0.mk (Kd.S_below (aS HO_3.out) hb);replace HO_6:=Aside0.mk (Kd.R_below (aR HO_6.out) hb);replace BK101:=Aside0.mk (blk_below (g:=gb101) (o:=.cells #[.int .i64 a0_0,.slice A0_1 l0_1.length c0_1] 31 (0,0)) bk hb);replace HB:=Aside0.mk (below_step bl hb);(try clear hb);(try clear hb2);(try clear hk);(try clear hi);have p23:0≤(x9_2:Int):=oD;have q23:(x9_2:Int) < ((x6_2.length:Int):Int):=oD;obtain ⟨go23,co23,eo23,gb23,gl23,cl23,HG23⟩:=Kd.R_form HO_6.out (by omega);(first|cases eo23|(injection eo23 with ea_ en_ ec_;(first|subst ea_|(injection ea_ with ea_;subst ea_));subst ec_;clear en_));have GB23:=Aside0.mk gb23;have GG23:=Aside0.mk HG23;clear gb23 gl23 HG23;obtain ⟨hx23_0,hf23_0⟩:=Kd.R_celln 0 HO_6.out (x9_2:Int) p23 q23;replace p23:=eq_true p23;replace q23:=eq_true q23;obtain ⟨hy26_,hz26_⟩:=Kd.R_celln 0 HO_6.out (x9_2:Int) oD oD;have HP26:=Kd.R_putg HO_6.out (x9_2:Int) 1)|((with_reducible refine gate_store (t:=2) (p:=52) rfl ?_);refine store_event (t:=2) (p:=52) (v:=?vo_w27) (w1:=(w25.setCell ⟨go23,(x9_2:Int).toNat,none⟩ (.int .i64 1))) ?hg ?ho ?hn ?hr ?_;(case ho=>rfl);(case hg=>rfl);(case hn=>rfl);(case hr=>first|(go_simp;done)|(go_simp;rfl));intro w27 hw;have hg:w25.grownBy w27 (some go23):=(by rw [hw];exact HP26.2);have hp_:Kd.R (Kd.int .i64) 2 w27 w.heap.size (fun _=>True) (.slice (some ⟨go23,0,none⟩) x6_2.length co23) y112:=(by rw [hw,Ny112.out];exact HP26.1);clear HP26;replace HO_3:=Aside0.mk (Kd.S_after (v:=(.slice (some ⟨go23,0,none⟩) x6_2.length co23)) (v1:=(.slice (some ⟨go23,0,none⟩) x6_2.length co23)) (ok:=(fun _=>True)) (by (with_reducible repeat (first|apply Kd.S_alloc|apply Kd.S_drewN|apply Kd.S_drew));exact Kd.S_mono HO_3.out (fun _ hk=>⟨trivial,hk⟩)) hg (.inl rfl));replace BK101:=Aside0.mk (blk_grown (g:=gb101) (o:=.cells #[.int .i64 a0_0,.slice A0_1 l0_1.length c0_1] 31 (0,0)) bk hg (Kd.R_ne HO_6.out BK101.out (by decide)));replace HO_6:=Aside0.mk (hp_);replace HB:=Aside0.mk ((by rw [hw];exact below_set (HB.out) GB23.out:Below w.heap.size w w27));clear hg hw hp_))
      first|go_roundg k2|(simp only [← hji7];go_roundg k2)
      case measure=>have:=HK1.out;have:=HK2.out;omega
      case rel=>exact ⟨(y112),(wrap64 (x9_2+1)),rs,(by first|exact H'|(rw [hji7];exact H')),⟨by have:=HK1.out;have:=HK2.out;omega⟩,⟨by (with_reducible repeat (first|apply Kd.S_alloc|apply Kd.S_drewN|apply Kd.S_drew));exact Kd.S_mono HO_3.out (fun _ hk=>hk.2)⟩,⟨by (with_reducible repeat (first|apply Kd.R_alloc|apply Kd.R_drewN|apply Kd.R_drew));exact HO_6.out⟩,⟨bk⟩,⟨bl⟩⟩
     rw [if_pos c18] at H
     have c18b0:(x9_2 == (Go.bits .xor .i64 x5_1 1))=true:=beq_iff_eq.mpr c18
     have c18b1:(x9_2 != (Go.bits .xor .i64 x5_1 1))=false:=bne_eq_false_iff_eq.mpr c18
     clear c18
     have H':=Aside0.mk H
     clear H
     have hcz19_0:wr.cell? ⟨gb101,0,none⟩=some (.int .i64 a0_0):=(blk_cell BK101.out 0).trans rfl
     have hcz19_1:wr.cell? ⟨gb101,1,none⟩=some (.slice A0_1 l0_1.length c0_1):=(blk_cell BK101.out 1).trans rfl
     have hfz19_0:=blk_frozen BK101.out 0
     have hfz19_1:=blk_frozen BK101.out 1
     go_wp2_with (first|((with_reducible refine gate_callee (f:=201) rfl ?_);refine goesL_ (some 38) rfl rfl Try.func201 (by kernel_rfl) rfl #[.agg #[.int .i64 a0_0,.slice A0_1 l0_1.length c0_1],.int .i64 x9_2] rfl gm ?_;(with_reducible refine (F201.calls a0_0 _ _ l0_1 x9_2 t110 t111 _ ?side1 ?side2 A16.out).mono ?_);(case side1=>exact aC (Kd.C_below HR0_1.out HB.out));(case side2=>exact HC0_1.out);rintro e w20 ⟨rfl,hb⟩;refine ⟨_,rfl,?_⟩;replace HO_3:=Aside0.mk (Kd.S_below (aS HO_3.out) hb);replace HO_6:=Aside0.mk (Kd.R_below (aR HO_6.out) hb);replace BK101:=Aside0.mk (blk_below (g:=gb101) (o:=.cells #[.int .i64 a0_0,.slice A0_1 l0_1.length c0_1] 31 (0,0)) bk hb);replace HB:=Aside0.mk (below_step bl hb);(try clear hb);(try clear hb2);(try clear hk);(try clear hi)))
     first|go_roundg k2|(simp only [← hji7];go_roundg k2)
     case measure=>have:=HK1.out;have:=HK2.out;omega
     case rel=>exact ⟨(x6_2),(wrap64 (x9_2+1)),rs,(by first|exact H'|(rw [hji7];exact H')),⟨by have:=HK1.out;have:=HK2.out;omega⟩,⟨by (with_reducible repeat (first|apply Kd.S_alloc|apply Kd.S_drewN|apply Kd.S_drew));exact HO_3.out⟩,⟨by (with_reducible repeat (first|apply Kd.R_alloc|apply Kd.R_drewN|apply Kd.R_drew));exact HO_6.out⟩,⟨bk⟩,⟨bl⟩⟩
end Go.Proofs.Ytoebojnhchocaaa.A
/- Set with little white space, by a program. -/
