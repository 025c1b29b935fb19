/- The functions that one law reaches, each as a Lean function, and that Go's call comes to what it says. Condition of each: that the Lean function answers (is not none). -/
import Derived.Test.YtoebojnhchocaaaAx0
import Derived.Test.YtoebojnhchocaaaAx4
namespace Go.Proofs.Ytoebojnhchocaaa.A
open Go.RowKit Go.Proofs.YtoebojnhchocaaaW.PrintWords Go.Proofs.YtoebojnhchocaaaW.PrintLast Go.Proofs.YtoebojnhchocaaaW.PrintMore
attribute [local go_sem] max2_int min2_int max_two min_two max_three min_three max_four min_four   -- for this text's walks alone
set_option linter.unusedVariables false
set_option linter.unusedSimpArgs false
/-! ### F81: function 81 -/
mutual
def F81.l0 : Nat → List Int → List Int → List Int → Int → Option (List Int × Bool)
 | 0,_,_,_,_=>none
 | k+1,x0,x1,x6,x7=>if x7≤(wrap64 ((x0.length:Int) - (x1.length:Int))) then (if 0≤x7 then (if x7 < (x0.length:Int) then (F81.l1 k x0 x1 x6 x7 (rd x0 x7) 1) else (none)) else (none)) else ((F159.f k x6 x1).bind fun t118=>(F81.l2 k x0 x6 t118 ((t118.length:Int) == (x0.length:Int)) 0))
def F81.l1 : Nat → List Int → List Int → List Int → Int → Int → Int → Option (List Int × Bool)
 | 0,_,_,_,_,_,_=>none
 | k+1,x0,x1,x6,x7,x8,x9=>if x9≤x7 then (if x9 < (x1.length:Int) then (if 0≤x9 then (if 0≤(wrap64 (x7 - x9)) then (if (wrap64 (x7 - x9)) < (x6.length:Int) then (F81.l1 k x0 x1 x6 x7 (wrap64 (x8 - (wrap64 ((rd x1 x9) * (rd x6 (wrap64 (x7 - x9))))))) (wrap64 (x9+1))) else (none)) else (none)) else (none)) else (if 0 < (x1.length:Int) then (if x6.length < 17592186044416 then (F81.l0 k x0 x1 (x6 ++ [wrap64 (x8 * (rd x1 0))]) (wrap64 (x7+1))) else (none)) else (none))) else (if 0 < (x1.length:Int) then (if x6.length < 17592186044416 then (F81.l0 k x0 x1 (x6 ++ [wrap64 (x8 * (rd x1 0))]) (wrap64 (x7+1))) else (none)) else (none))
def F81.l2 : Nat → List Int → List Int → List Int → Bool → Int → Option (List Int × Bool)
 | 0,_,_,_,_,_=>none
 | k+1,x0,x6,x10,x11,x12=>if x12 < (x0.length:Int) then (if x11=true then (if 0≤x12 then (if x12 < (x10.length:Int) then (F81.l2 k x0 x6 x10 ((rd x10 x12) == (rd x0 x12)) (wrap64 (x12+1))) else (none)) else (none)) else ((F160.f k x6).bind fun t123=>(some (t123,x11)))) else ((F160.f k x6).bind fun t126=>(some (t126,x11)))
end
def F81.f (k:Nat) (l0:List Int) (l1:List Int):Option (List Int × Bool):=if (l0.length:Int)=0 then (some ((([]:List Int)),true)) else (if (l0.length:Int) < (l1.length:Int) then (some (([]:List Int),false)) else (F81.l0 k l0 l1 (([]:List Int)) 0))
theorem F81.mono_l : ∀ k, (∀ y0 y1 y2 y3, LeO (F81.l0 k y0 y1 y2 y3) (F81.l0 (k + 1) y0 y1 y2 y3)) ∧ (∀ y0 y1 y2 y3 y4 y5, LeO (F81.l1 k y0 y1 y2 y3 y4 y5) (F81.l1 (k + 1) y0 y1 y2 y3 y4 y5)) ∧ (∀ y0 y1 y2 y3 y4, LeO (F81.l2 k y0 y1 y2 y3 y4) (F81.l2 (k + 1) y0 y1 y2 y3 y4))
 | 0=>⟨fun _ _ _ _ r h=>by simp [F81.l0] at h,fun _ _ _ _ _ _ r h=>by simp [F81.l1] at h,fun _ _ _ _ _ r h=>by simp [F81.l2] at h⟩
 | k+1=>by
  obtain ⟨ih0,ih1,ih2⟩:=F81.mono_l k
  refine ⟨?_, ?_, ?_⟩ <;> intros <;> (first | unfold F81.l0 | unfold F81.l1 | unfold F81.l2) <;> repeat' first
   | (with_reducible first|exact ih0 _ _ _ _|exact ih1 _ _ _ _ _ _|exact ih2 _ _ _ _ _|exact F159.mono _ _ _|exact F160.mono _ _|exact LeO.refl _|exact LeO.none _|refine LeO.ite ?_ ?_|refine LeO.bind ?_ (fun _=>?_))
   | exact ih0 _ _ _ _|exact ih1 _ _ _ _ _ _|exact ih2 _ _ _ _ _|exact F159.mono _ _ _|exact F160.mono _ _|exact LeO.none _|refine LeO.ite ?_ ?_|refine LeO.bind ?_ (fun _=>?_)
theorem F81.mono:∀ a0 a1 k,LeO (F81.f k a0 a1) (F81.f (k+1) a0 a1):=by
 intro a0 a1 k
 obtain ⟨ih0,ih1,ih2⟩:=F81.mono_l k
 unfold F81.f
 repeat' first
  | (with_reducible first|exact ih0 _ _ _ _|exact ih1 _ _ _ _ _ _|exact ih2 _ _ _ _ _|exact F159.mono _ _ _|exact F160.mono _ _|exact LeO.refl _|exact LeO.none _|refine LeO.ite ?_ ?_|refine LeO.bind ?_ (fun _=>?_))
  | exact ih0 _ _ _ _|exact ih1 _ _ _ _ _ _|exact ih2 _ _ _ _ _|exact F159.mono _ _ _|exact F160.mono _ _|exact LeO.none _|refine LeO.ite ?_ ?_|refine LeO.bind ?_ (fun _=>?_)
set_option maxHeartbeats 8000000 in
set_option maxRecDepth 100000 in
theorem F81.calls (k : Nat) (A0 : Option Addr) (c0 : Nat) (l0 : List Int) (A1 : Option Addr) (c1 : Nat) (l1 : List Int) (r1 : List Int) (r2 : Bool) (w : World) (hr0 : Kd.C (Kd.int .i64) w A0 l0.length l0) (hc0 : l0.length ≤ c0) (hr1 : Kd.C (Kd.int .i64) w A1 l1.length l1) (hc1 : l1.length ≤ c1) (h : F81.f k l0 l1 = some (r1, r2)) :
  Calls Try.prog 81 #[.slice A0 l0.length c0,.slice A1 l1.length c1] w fun e w'=>∃ v0_:Value,e=.returned (.tuple #[v0_,.bool r2])∧Kd.R (Kd.int .i64) 2 w' w.heap.size (fun _=>True) v0_ r1∧Below w.heap.size w w':=by
 have HR0:=Aside0.mk hr0
 have HC0:=Aside0.mk hc0
 clear hr0 hc0
 have HR1:=Aside0.mk hr1
 have HC1:=Aside0.mk hc1
 clear hr1 hc1
 have HB:=Aside0.mk (Below.refl w.heap.size w)
 have H:(if (l0.length:Int)=0 then (some ((([]:List Int)),true)) else (if (l0.length:Int) < (l1.length:Int) then (some (([]:List Int),false)) else (F81.l0 k l0 l1 (([]:List Int)) 0)))=some (r1,r2):=h
 clear h
 by_cases c3:(l0.length:Int)=0
 case neg =>
  rw [if_neg c3] at H
  have c3b0:((l0.length:Int) == 0)=false:=beq_eq_false_iff_ne.mpr c3
  have c3b1:((l0.length:Int) != 0)=true:=bne_iff_ne.mpr c3
  have c3b2:¬ (l0=[]):=fun h_=>c3 (by rw [h_];rfl)
  by_cases c6:(l0.length:Int) < (l1.length:Int)
  case neg =>
   rw [if_neg c6] at H
   have c6b0:decide ((l0.length:Int) < (l1.length:Int))=false:=decide_eq_false c6
   have c6b1:decide (l0.length < l1.length)=false:=decide_eq_false (fun h=>c6 (Int.ofNat_lt.mpr h))
   clear c6
   obtain ⟨y104,hy104⟩:∃ y_:List Int,y_=(([]:List Int)):=⟨_,rfl⟩
   replace H:(F81.l0 k l0 l1 y104 0)=some (r1,r2):=by first|(rw [hy104];with_reducible exact H)|(have H2_:=(Option.bind_some _ _).symm.trans H;rw [hy104];with_reducible exact H2_)|(have H2_:=(Option.bind_some _ _).symm.trans H;with_reducible exact H2_)|with_reducible exact H|(rw [hy104];exact H)|exact H
   have Ny104:=Aside0.mk hy104
   clear hy104
   have H':=Aside0.mk H
   clear H
   go_enter Try.func81,Try.ntmps81
   go_wp2_with (first|((with_reducible refine gate_dst (N:=22) rfl ?_);(try (refine gate_guard (by rfl) ?_;dsimp only));refine Kd.R_lit (Kd.int .i64) _ 2 ?hg (N:=22) ?hd (xs:=([]:List Int)) (inner:=[]) (ok:=fun _=>True) (okp:=fun _=>True) ?hr ?hp (fun _ hk=>hk) trivial (Below.refl _ _) (Nat.le_refl _) (by simp) ?_;(case hd=>rfl);(case hg=>rfl);(case hr=>first|(go_simp;done)|(go_simp;rfl));(case hp=>exact (Reps.none _ _));intro v105 w7 ho8 hb hg_ hnew_;clear hg_ hnew_;(first|rw [← Ny104.out] at ho8|(simp only [Int.reduceToNat] at ho8;rw [← Ny104.out] at ho8));have HO106:=Aside0.mk (Kd.R_lower ho8 (below_size bl));replace HB:=Aside0.mk (below_step bl hb);clear hb ho8))
   repeat (go_quiet (first|((with_reducible refine gate_dst (N:=22) rfl ?_);(try (refine gate_guard (by rfl) ?_;dsimp only));refine Kd.R_lit (Kd.int .i64) _ 2 ?hg (N:=22) ?hd (xs:=([]:List Int)) (inner:=[]) (ok:=fun _=>True) (okp:=fun _=>True) ?hr ?hp (fun _ hk=>hk) trivial (Below.refl _ _) (Nat.le_refl _) (by simp) ?_;(case hd=>rfl);(case hg=>rfl);(case hr=>first|(go_simp;done)|(go_simp;rfl));(case hp=>exact (Reps.none _ _));intro v105 w7 ho8 hb hg_ hnew_;clear hg_ hnew_;(first|rw [← Ny104.out] at ho8|(simp only [Int.reduceToNat] at ho8;rw [← Ny104.out] at ho8));have HO106:=Aside0.mk (Kd.R_lower ho8 (below_size bl));replace HB:=Aside0.mk (below_step bl hb);clear hb ho8));try go_wp2_with (first|((with_reducible refine gate_dst (N:=22) rfl ?_);(try (refine gate_guard (by rfl) ?_;dsimp only));refine Kd.R_lit (Kd.int .i64) _ 2 ?hg (N:=22) ?hd (xs:=([]:List Int)) (inner:=[]) (ok:=fun _=>True) (okp:=fun _=>True) ?hr ?hp (fun _ hk=>hk) trivial (Below.refl _ _) (Nat.le_refl _) (by simp) ?_;(case hd=>rfl);(case hg=>rfl);(case hr=>first|(go_simp;done)|(go_simp;rfl));(case hp=>exact (Reps.none _ _));intro v105 w7 ho8 hb hg_ hnew_;clear hg_ hnew_;(first|rw [← Ny104.out] at ho8|(simp only [Int.reduceToNat] at ho8;rw [← Ny104.out] at ho8));have HO106:=Aside0.mk (Kd.R_lower ho8 (below_size bl));replace HB:=Aside0.mk (below_step bl hb);clear hb ho8)))
   go_loopg [6,7] k (fun kq v6 v7 w'=>∃ (x6_1:List Int) (x7_1:Int),v7=.int .i64 x7_1∧Aside0 (F81.l0 kq l0 l1 x6_1 x7_1=some (r1,r2))∧Aside0 (kq≤k)∧Aside0 (Kd.R (Kd.int .i64) 2 w' w.heap.size (fun _=>True) v6 x6_1)∧Aside0 (Below w.heap.size w w'))
   case atStart=>exact ⟨(y104),(0),rs,H',⟨Nat.le_refl _⟩,⟨by (with_reducible repeat (first|apply Kd.R_alloc|apply Kd.R_drewN|apply Kd.R_drew));exact HO106.out⟩,⟨bl⟩⟩
   case round =>
    clear H'
    (try clear c1);(try clear p2);(try clear c3);(try clear c3b0);(try clear c3b1);(try clear c3b2);(try clear c6);(try clear c6b0);(try clear c6b1);(try clear c8)
    obtain ⟨x6_1,x7_1,rfl,HA,HK1,HO_6,HB⟩:=hrel
    cases gk with
    | zero=>exact absurd HA.out (by simp [F81.l0])
    | succ k1 =>
     have H:=HA.out
     clear HA
     simp only [F81.l0] at H
     by_cases c9:x7_1≤(wrap64 ((l0.length:Int) - (l1.length:Int)))
     case neg =>
      rw [if_neg c9] at H
      have c9b0:decide (x7_1≤(wrap64 ((l0.length:Int) - (l1.length:Int))))=false:=decide_eq_false c9
      clear c9
      replace H:=Option.bind_eq_some_iff.mp H
      obtain ⟨t118,A250,H⟩:=H
      replace H:(F81.l2 k1 l0 x6_1 t118 ((t118.length:Int) == (l0.length:Int)) 0)=some (r1,r2):=H
      have A25:=Aside0.mk A250
      clear A250
      have H':=Aside0.mk H
      clear H
      obtain ⟨Ao26,co26,eo26⟩:=Kd.R_slice HO_6.out
      subst eo26
      go_wp2_with (first|(go_at_call 159;(with_reducible refine (F159.calls k1 _ _ x6_1 _ _ l1 t118 _ ?side1 ?side2 ?side3 ?side4 A25.out).mono ?_);(case side1=>exact aC ((Kd.R_reads' HO_6.out).2.2));(case side2=>exact (Kd.R_reads' HO_6.out).2.1);(case side3=>exact aC (Kd.C_below HR1.out HB.out));(case side4=>exact HC1.out);rintro e w27 ⟨v119,rfl,ho0,hb⟩;have HO120:=Aside0.mk (Kd.R_lower (Kd.R_new' ho0 (Kd.R_lt (aR HO_6.out))) (below_size bl));replace HO_6:=Aside0.mk (Kd.R_elder' (aR HO_6.out) (Kd.R_base ho0) hb);replace HB:=Aside0.mk (below_step bl hb);(try clear hb);(try clear hb2);(try clear hk);(try clear hi);(try clear ho0);obtain ⟨Ao28,co28,eo28⟩:=Kd.R_slice HO120.out;subst eo28))
      repeat (go_quiet (first|(go_at_call 159;(with_reducible refine (F159.calls k1 _ _ x6_1 _ _ l1 t118 _ ?side1 ?side2 ?side3 ?side4 A25.out).mono ?_);(case side1=>exact aC ((Kd.R_reads' HO_6.out).2.2));(case side2=>exact (Kd.R_reads' HO_6.out).2.1);(case side3=>exact aC (Kd.C_below HR1.out HB.out));(case side4=>exact HC1.out);rintro e w27 ⟨v119,rfl,ho0,hb⟩;have HO120:=Aside0.mk (Kd.R_lower (Kd.R_new' ho0 (Kd.R_lt (aR HO_6.out))) (below_size bl));replace HO_6:=Aside0.mk (Kd.R_elder' (aR HO_6.out) (Kd.R_base ho0) hb);replace HB:=Aside0.mk (below_step bl hb);(try clear hb);(try clear hb2);(try clear hk);(try clear hi);(try clear ho0);obtain ⟨Ao28,co28,eo28⟩:=Kd.R_slice HO120.out;subst eo28));try go_wp2_with (first|(go_at_call 159;(with_reducible refine (F159.calls k1 _ _ x6_1 _ _ l1 t118 _ ?side1 ?side2 ?side3 ?side4 A25.out).mono ?_);(case side1=>exact aC ((Kd.R_reads' HO_6.out).2.2));(case side2=>exact (Kd.R_reads' HO_6.out).2.1);(case side3=>exact aC (Kd.C_below HR1.out HB.out));(case side4=>exact HC1.out);rintro e w27 ⟨v119,rfl,ho0,hb⟩;have HO120:=Aside0.mk (Kd.R_lower (Kd.R_new' ho0 (Kd.R_lt (aR HO_6.out))) (below_size bl));replace HO_6:=Aside0.mk (Kd.R_elder' (aR HO_6.out) (Kd.R_base ho0) hb);replace HB:=Aside0.mk (below_step bl hb);(try clear hb);(try clear hb2);(try clear hk);(try clear hi);(try clear ho0);obtain ⟨Ao28,co28,eo28⟩:=Kd.R_slice HO120.out;subst eo28)))
      go_loopg [11,12] k1 (fun kq v11 v12 w'=>∃ (x11_2:Bool) (x12_2:Int),v11=.bool x11_2∧v12=.int .i64 x12_2∧Aside0 (F81.l2 kq l0 x6_1 t118 x11_2 x12_2=some (r1,r2))∧Aside0 (kq≤k1)∧Aside0 (Kd.R (Kd.int .i64) 2 w' w.heap.size (fun k_=>some k_ ≠ ((.slice Ao28 t118.length co28):Value).ownBlock) (.slice Ao26 x6_1.length co26) x6_1)∧Aside0 (Kd.R (Kd.int .i64) 2 w' w.heap.size (fun k_=>some k_ ≠ ((.slice Ao26 x6_1.length co26):Value).ownBlock) (.slice Ao28 t118.length co28) t118)∧Aside0 (Below w.heap.size w w'))
      case atStart=>exact ⟨(((t118.length:Int) == (l0.length:Int))),(0),rs,rs,H',⟨Nat.le_refl _⟩,⟨by (with_reducible repeat (first|apply Kd.R_alloc|apply Kd.R_drewN|apply Kd.R_drew));exact Kd.R_mono HO_6.out (fun _ hk=>hk.2)⟩,⟨by (with_reducible repeat (first|apply Kd.R_alloc|apply Kd.R_drewN|apply Kd.R_drew));exact Kd.R_mono HO120.out (fun _ hk=>hk.2)⟩,⟨bl⟩⟩
      case round =>
       clear H'
       (try clear c1);(try clear p1);(try clear q1);(try clear hx1);(try clear qi1);(try clear c2);(try clear p2);(try clear c3);(try clear c3b0);(try clear c3b1);(try clear c3b2);(try clear c6);(try clear c6b0);(try clear c6b1);(try clear p6);(try clear c8);(try clear c9);(try clear c9b0);(try clear c10);(try clear c10b0);(try clear p10);(try clear q10);(try clear hx10);(try clear c11);(try clear c11b0);(try clear p11);(try clear q11);(try clear hx11);(try clear qi11);(try clear c12);(try clear c12b0);(try clear c13);(try clear c13b0);(try clear c14);(try clear c14b0);(try clear c16);(try clear c16b0);(try clear c17);(try clear c17b0);(try clear c19);(try clear c19b0);(try clear c19b1);(try clear c20);(try clear c22);(try clear c22b0);(try clear c22b1);(try clear c23);(try clear hx107_0);(try clear hx108_0);(try clear hx109_0);(try clear hx110_0);(try clear hx114_0);(try clear p1);(try clear p10);(try clear p107);(try clear p108);(try clear p109);(try clear p110);(try clear p114);(try clear p2);(try clear p6);(try clear q1);(try clear q10);(try clear q107);(try clear q108);(try clear q109);(try clear q110);(try clear q114)
       obtain ⟨x11_2,x12_2,rfl,rfl,HA,HK2,HO_6,HO_10,HB⟩:=hrel
       cases gk with
       | zero=>exact absurd HA.out (by simp [F81.l2])
       | succ k2 =>
        have H:=HA.out
        clear HA
        simp only [F81.l2] at H
        by_cases c29:x12_2 < (l0.length:Int)
        case neg =>
         rw [if_neg c29] at H
         have c29b0:decide (x12_2 < (l0.length:Int))=false:=decide_eq_false c29
         clear c29
         replace H:=Option.bind_eq_some_iff.mp H
         obtain ⟨t126,A350,H⟩:=H
         replace H:(some (t126,x11_2))=some (r1,r2):=H
         have A35:=Aside0.mk A350
         clear A350
         simp only [Option.some.injEq,Prod.mk.injEq] at H
         obtain ⟨rfl,rfl⟩:=H
         go_wp2_with (first|(go_at_call 160;(with_reducible refine (F160.calls k2 _ _ x6_1 t126 _ ?side1 ?side2 A35.out).mono ?_);(case side1=>exact aC ((Kd.R_reads' HO_6.out).2.2));(case side2=>exact (Kd.R_reads' HO_6.out).2.1);rintro e w36 ⟨v127,rfl,ho0,hb⟩;have HO128:=Aside0.mk (Kd.R_lower (Kd.R_new' (Kd.R_new' ho0 (Kd.R_lt (aR HO_6.out))) (Kd.R_lt (aR HO_10.out))) (below_size bl));replace HO_6:=Aside0.mk (Kd.R_elder' (aR HO_6.out) (Kd.R_base ho0) hb);replace HO_10:=Aside0.mk (Kd.R_elder' (aR HO_10.out) (Kd.R_base ho0) hb);replace HB:=Aside0.mk (below_step bl hb);(try clear hb);(try clear hb2);(try clear hk);(try clear hi);(try clear ho0)))
         repeat (go_quiet (first|(go_at_call 160;(with_reducible refine (F160.calls k2 _ _ x6_1 t126 _ ?side1 ?side2 A35.out).mono ?_);(case side1=>exact aC ((Kd.R_reads' HO_6.out).2.2));(case side2=>exact (Kd.R_reads' HO_6.out).2.1);rintro e w36 ⟨v127,rfl,ho0,hb⟩;have HO128:=Aside0.mk (Kd.R_lower (Kd.R_new' (Kd.R_new' ho0 (Kd.R_lt (aR HO_6.out))) (Kd.R_lt (aR HO_10.out))) (below_size bl));replace HO_6:=Aside0.mk (Kd.R_elder' (aR HO_6.out) (Kd.R_base ho0) hb);replace HO_10:=Aside0.mk (Kd.R_elder' (aR HO_10.out) (Kd.R_base ho0) hb);replace HB:=Aside0.mk (below_step bl hb);(try clear hb);(try clear hb2);(try clear hk);(try clear hi);(try clear ho0)));try go_wp2_with (first|(go_at_call 160;(with_reducible refine (F160.calls k2 _ _ x6_1 t126 _ ?side1 ?side2 A35.out).mono ?_);(case side1=>exact aC ((Kd.R_reads' HO_6.out).2.2));(case side2=>exact (Kd.R_reads' HO_6.out).2.1);rintro e w36 ⟨v127,rfl,ho0,hb⟩;have HO128:=Aside0.mk (Kd.R_lower (Kd.R_new' (Kd.R_new' ho0 (Kd.R_lt (aR HO_6.out))) (Kd.R_lt (aR HO_10.out))) (below_size bl));replace HO_6:=Aside0.mk (Kd.R_elder' (aR HO_6.out) (Kd.R_base ho0) hb);replace HO_10:=Aside0.mk (Kd.R_elder' (aR HO_10.out) (Kd.R_base ho0) hb);replace HB:=Aside0.mk (below_step bl hb);(try clear hb);(try clear hb2);(try clear hk);(try clear hi);(try clear ho0))))
         go_ret2
         exact ⟨_,by first|rfl|(simp [errW_none,errW_some]<;>rfl)|(simp [*,errW_none,errW_some]<;>rfl),by (with_reducible repeat (first|apply Kd.R_alloc|apply Kd.R_drewN|apply Kd.R_drew));exact Kd.R_mono HO128.out (fun _ hk=>trivial),bl⟩
        rw [if_pos c29] at H
        have c29b0:=decide_eq_true c29
        clear c29
        by_cases c30:x11_2=true
        case neg =>
         replace c30:=Bool.eq_false_iff.mpr c30
         subst c30
         have H1:((F160.f k2 x6_1).bind fun t123=>(some (t123,false)))=some (r1,r2):=by rw [if_neg (show ¬ (false=true) by decide)] at H;exact H
         clear H
         have H:=H1
         clear H1
         replace H:=Option.bind_eq_some_iff.mp H
         obtain ⟨t123,A330,H⟩:=H
         replace H:(some (t123,false))=some (r1,r2):=H
         have A33:=Aside0.mk A330
         clear A330
         simp only [Option.some.injEq,Prod.mk.injEq] at H
         obtain ⟨rfl,rfl⟩:=H
         go_wp2_with (first|(go_at_call 160;(with_reducible refine (F160.calls k2 _ _ x6_1 t123 _ ?side1 ?side2 A33.out).mono ?_);(case side1=>exact aC ((Kd.R_reads' HO_6.out).2.2));(case side2=>exact (Kd.R_reads' HO_6.out).2.1);rintro e w34 ⟨v124,rfl,ho0,hb⟩;have HO125:=Aside0.mk (Kd.R_lower (Kd.R_new' (Kd.R_new' ho0 (Kd.R_lt (aR HO_6.out))) (Kd.R_lt (aR HO_10.out))) (below_size bl));replace HO_6:=Aside0.mk (Kd.R_elder' (aR HO_6.out) (Kd.R_base ho0) hb);replace HO_10:=Aside0.mk (Kd.R_elder' (aR HO_10.out) (Kd.R_base ho0) hb);replace HB:=Aside0.mk (below_step bl hb);(try clear hb);(try clear hb2);(try clear hk);(try clear hi);(try clear ho0)))
         repeat (go_quiet (first|(go_at_call 160;(with_reducible refine (F160.calls k2 _ _ x6_1 t123 _ ?side1 ?side2 A33.out).mono ?_);(case side1=>exact aC ((Kd.R_reads' HO_6.out).2.2));(case side2=>exact (Kd.R_reads' HO_6.out).2.1);rintro e w34 ⟨v124,rfl,ho0,hb⟩;have HO125:=Aside0.mk (Kd.R_lower (Kd.R_new' (Kd.R_new' ho0 (Kd.R_lt (aR HO_6.out))) (Kd.R_lt (aR HO_10.out))) (below_size bl));replace HO_6:=Aside0.mk (Kd.R_elder' (aR HO_6.out) (Kd.R_base ho0) hb);replace HO_10:=Aside0.mk (Kd.R_elder' (aR HO_10.out) (Kd.R_base ho0) hb);replace HB:=Aside0.mk (below_step bl hb);(try clear hb);(try clear hb2);(try clear hk);(try clear hi);(try clear ho0)));try go_wp2_with (first|(go_at_call 160;(with_reducible refine (F160.calls k2 _ _ x6_1 t123 _ ?side1 ?side2 A33.out).mono ?_);(case side1=>exact aC ((Kd.R_reads' HO_6.out).2.2));(case side2=>exact (Kd.R_reads' HO_6.out).2.1);rintro e w34 ⟨v124,rfl,ho0,hb⟩;have HO125:=Aside0.mk (Kd.R_lower (Kd.R_new' (Kd.R_new' ho0 (Kd.R_lt (aR HO_6.out))) (Kd.R_lt (aR HO_10.out))) (below_size bl));replace HO_6:=Aside0.mk (Kd.R_elder' (aR HO_6.out) (Kd.R_base ho0) hb);replace HO_10:=Aside0.mk (Kd.R_elder' (aR HO_10.out) (Kd.R_base ho0) hb);replace HB:=Aside0.mk (below_step bl hb);(try clear hb);(try clear hb2);(try clear hk);(try clear hi);(try clear ho0))))
         go_ret2
         exact ⟨_,by first|rfl|(simp [errW_none,errW_some]<;>rfl)|(simp [*,errW_none,errW_some]<;>rfl),by (with_reducible repeat (first|apply Kd.R_alloc|apply Kd.R_drewN|apply Kd.R_drew));exact Kd.R_mono HO125.out (fun _ hk=>trivial),bl⟩
        subst c30
        have H1:(if 0≤x12_2 then (if x12_2 < (t118.length:Int) then (F81.l2 k2 l0 x6_1 t118 ((rd t118 x12_2) == (rd l0 x12_2)) (wrap64 (x12_2+1))) else (none)) else (none))=some (r1,r2):=by rw [if_pos rfl] at H;exact H
        clear H
        have H:=H1
        clear H1
        replace H:=iS H;obtain ⟨c31,H⟩:=H
        have c31b0:=decide_eq_true c31
        clear c31
        replace H:=iS H;obtain ⟨c32,H⟩:=H
        have c32b0:=decide_eq_true c32
        clear c32
        have H':=Aside0.mk H
        clear H
        have p121:0≤(x12_2:Int):=oD
        have q121:x12_2 < (t118.length:Int):=oD
        obtain ⟨ad121,e121,hx121_0⟩:=Kd.at_int (Kd.R_reads' HO_10.out).2.2 x12_2 p121 q121
        cases e121
        replace p121:=eq_true p121
        replace q121:=eq_true q121
        have p122:0≤(x12_2:Int):=oD
        have q122:x12_2 < (l0.length:Int):=oD
        obtain ⟨ad122,e122,hx122_0⟩:=Kd.at_int HR0.out x12_2 p122 q122
        cases e122
        replace hx122_0:=hbc HB hx122_0
        replace p122:=eq_true p122
        replace q122:=eq_true q122
        go_wp2
        repeat (go_quiet (fail);try go_wp2)
        first|go_roundg k2|(simp only [← hji15];go_roundg k2)
        case measure=>have:=HK1.out;have:=HK2.out;omega
        case rel=>exact ⟨(((rd t118 x12_2) == (rd l0 x12_2))),(wrap64 (x12_2+1)),rs,rs,(by first|exact H'|(rw [hji15];exact H')),⟨by have:=HK1.out;have:=HK2.out;omega⟩,⟨by (with_reducible repeat (first|apply Kd.R_alloc|apply Kd.R_drewN|apply Kd.R_drew));exact HO_6.out⟩,⟨by (with_reducible repeat (first|apply Kd.R_alloc|apply Kd.R_drewN|apply Kd.R_drew));exact HO_10.out⟩,⟨bl⟩⟩
     rw [if_pos c9] at H
     have c9b0:=decide_eq_true c9
     clear c9
     replace H:=iS H;obtain ⟨c10,H⟩:=H
     have c10b0:=decide_eq_true c10
     clear c10
     replace H:=iS H;obtain ⟨c11,H⟩:=H
     have c11b0:=decide_eq_true c11
     clear c11
     have H':=Aside0.mk H
     clear H
     have p107:0≤(x7_1:Int):=oD
     have q107:x7_1 < (l0.length:Int):=oD
     obtain ⟨ad107,e107,hx107_0⟩:=Kd.at_int HR0.out x7_1 p107 q107
     cases e107
     replace hx107_0:=hbc HB hx107_0
     replace p107:=eq_true p107
     replace q107:=eq_true q107
     go_wp2
     repeat (go_quiet (fail);try go_wp2)
     go_loopg [8,9] k1 (fun kq v8 v9 w'=>∃ (x8_2:Int) (x9_2:Int),v8=.int .i64 x8_2∧v9=.int .i64 x9_2∧Aside0 (F81.l1 kq l0 l1 x6_1 x7_1 x8_2 x9_2=some (r1,r2))∧Aside0 (kq≤k1)∧Aside0 (Kd.R (Kd.int .i64) 2 w' w.heap.size (fun _=>True) u6 x6_1)∧Aside0 (Below w.heap.size w w'))
     case atStart=>exact ⟨(rd l0 x7_1),(1),rs,rs,H',⟨Nat.le_refl _⟩,⟨by (with_reducible repeat (first|apply Kd.R_alloc|apply Kd.R_drewN|apply Kd.R_drew));exact HO_6.out⟩,⟨bl⟩⟩
     case round =>
      clear H'
      (try clear c1);(try clear p1);(try clear q1);(try clear hx1);(try clear p2);(try clear c3);(try clear c3b0);(try clear c3b1);(try clear c3b2);(try clear c6);(try clear c6b0);(try clear c6b1);(try clear p6);(try clear c8);(try clear c9);(try clear c9b0);(try clear c10);(try clear c10b0);(try clear p10);(try clear q10);(try clear hx10);(try clear c11);(try clear c11b0);(try clear hx107_0);(try clear p107);(try clear p2);(try clear q107)
      obtain ⟨x8_2,x9_2,rfl,rfl,HA,HK2,HO_6,HB⟩:=hrel
      cases gk with
      | zero=>exact absurd HA.out (by simp [F81.l1])
      | succ k2 =>
       have H:=HA.out
       clear HA
       simp only [F81.l1] at H
       by_cases c12:x9_2≤x7_1
       case neg =>
        rw [if_neg c12] at H
        have c12b0:decide (x9_2≤x7_1)=false:=decide_eq_false c12
        clear c12
        replace H:=iS H;obtain ⟨c22,H⟩:=H
        have c22b0:=decide_eq_true c22
        have c22b1:decide (0 < l1.length)=true:=decide_eq_true (by omega)
        clear c22
        replace H:=iS H;obtain ⟨c23,H⟩:=H
        have LMc23:=Aside0.mk c23
        clear c23
        obtain ⟨y115,hy115⟩:∃ y_:List Int,y_=(x6_1 ++ [wrap64 (x8_2 * (rd l1 0))]):=⟨_,rfl⟩
        replace H:(F81.l0 k2 l0 l1 y115 (wrap64 (x7_1+1)))=some (r1,r2):=by first|(rw [hy115];with_reducible exact H)|(have H2_:=(Option.bind_some _ _).symm.trans H;rw [hy115];with_reducible exact H2_)|(have H2_:=(Option.bind_some _ _).symm.trans H;with_reducible exact H2_)|with_reducible exact H|(rw [hy115];exact H)|exact H
        have Ny115:=Aside0.mk hy115
        clear hy115
        have H':=Aside0.mk H
        clear H
        have p114:0≤(0:Int):=(by omega)
        have q114:0 < (l1.length:Int):=oD
        obtain ⟨ad114,e114,hx114_0⟩:=Kd.at_int HR1.out 0 p114 q114
        cases e114
        have qi114:(0 < l1.length)=True:=eq_true (by omega)
        (try rw [show ((0:Int)).toNat=0 from rfl] at hx114_0)
        (try rw [Addr.add_zero'] at hx114_0)
        replace hx114_0:=hbc HB hx114_0
        replace p114:=eq_true p114
        replace q114:=eq_true q114
        go_wp2_with (first|((with_reducible refine gate_builtin (b:=.append) (xs:=#[.tmp 60,.tmp 66]) rfl ?_);(try (refine gate_guard (by rfl) ?_;dsimp only));at_builtin;refine Kd.R_append (Kd.int .i64) (w0:=w) w.heap.size rfl (.tmp 60) (.tmp 66) 28 2 (.int .i64 0) 8 rfl Try.underlying28 info2 rfl (by decide) (by omega) u6 x6_1 (wrap64 (x8_2 * (rd l1 0))) [.int .i64 (wrap64 (x8_2 * (rd l1 0)))] (fun _=>True) (fun _=>False) rfl rfl ?aP (fun _ hk=>hk.elim) ?aF ?aO ?aB ?aS ?aL ?_;(case aP=>exact rfl);(case aB=>exact bl);(case aF=>exact (fun _ _=>trivial));(case aO=>exact (aR HO_6.out));(case aS=>exact (below_size bl));(case aL=>have:=LMc23.out;omega);intro v116 w24 ho hb hg hat;rw [← Ny115.out] at ho;have n0_:=Aside0.mk (hb);have n1_:=Aside0.mk (ho);clear HB;clear HO_6;have HB:=n0_;have HO117:=n1_;clear n0_ n1_;clear ho hb hg hat))
        repeat (go_quiet (first|((with_reducible refine gate_builtin (b:=.append) (xs:=#[.tmp 60,.tmp 66]) rfl ?_);(try (refine gate_guard (by rfl) ?_;dsimp only));at_builtin;refine Kd.R_append (Kd.int .i64) (w0:=w) w.heap.size rfl (.tmp 60) (.tmp 66) 28 2 (.int .i64 0) 8 rfl Try.underlying28 info2 rfl (by decide) (by omega) u6 x6_1 (wrap64 (x8_2 * (rd l1 0))) [.int .i64 (wrap64 (x8_2 * (rd l1 0)))] (fun _=>True) (fun _=>False) rfl rfl ?aP (fun _ hk=>hk.elim) ?aF ?aO ?aB ?aS ?aL ?_;(case aP=>exact rfl);(case aB=>exact bl);(case aF=>exact (fun _ _=>trivial));(case aO=>exact (aR HO_6.out));(case aS=>exact (below_size bl));(case aL=>have:=LMc23.out;omega);intro v116 w24 ho hb hg hat;rw [← Ny115.out] at ho;have n0_:=Aside0.mk (hb);have n1_:=Aside0.mk (ho);clear HB;clear HO_6;have HB:=n0_;have HO117:=n1_;clear n0_ n1_;clear ho hb hg hat));try go_wp2_with (first|((with_reducible refine gate_builtin (b:=.append) (xs:=#[.tmp 60,.tmp 66]) rfl ?_);(try (refine gate_guard (by rfl) ?_;dsimp only));at_builtin;refine Kd.R_append (Kd.int .i64) (w0:=w) w.heap.size rfl (.tmp 60) (.tmp 66) 28 2 (.int .i64 0) 8 rfl Try.underlying28 info2 rfl (by decide) (by omega) u6 x6_1 (wrap64 (x8_2 * (rd l1 0))) [.int .i64 (wrap64 (x8_2 * (rd l1 0)))] (fun _=>True) (fun _=>False) rfl rfl ?aP (fun _ hk=>hk.elim) ?aF ?aO ?aB ?aS ?aL ?_;(case aP=>exact rfl);(case aB=>exact bl);(case aF=>exact (fun _ _=>trivial));(case aO=>exact (aR HO_6.out));(case aS=>exact (below_size bl));(case aL=>have:=LMc23.out;omega);intro v116 w24 ho hb hg hat;rw [← Ny115.out] at ho;have n0_:=Aside0.mk (hb);have n1_:=Aside0.mk (ho);clear HB;clear HO_6;have HB:=n0_;have HO117:=n1_;clear n0_ n1_;clear ho hb hg hat)))
        first|go_roundg k2|(simp only [← hji15];go_roundg k2)
        case measure=>have:=HK1.out;have:=HK2.out;omega
        case rel=>exact ⟨(y115),(wrap64 (x7_1+1)),rs,(by first|exact H'|(rw [hji15];exact H')),⟨by have:=HK1.out;have:=HK2.out;omega⟩,⟨by (with_reducible repeat (first|apply Kd.R_alloc|apply Kd.R_drewN|apply Kd.R_drew));exact HO117.out⟩,⟨bl⟩⟩
       rw [if_pos c12] at H
       have c12b0:=decide_eq_true c12
       clear c12
       by_cases c13:x9_2 < (l1.length:Int)
       case neg =>
        rw [if_neg c13] at H
        have c13b0:decide (x9_2 < (l1.length:Int))=false:=decide_eq_false c13
        clear c13
        replace H:=iS H;obtain ⟨c19,H⟩:=H
        have c19b0:=decide_eq_true c19
        have c19b1:decide (0 < l1.length)=true:=decide_eq_true (by omega)
        clear c19
        replace H:=iS H;obtain ⟨c20,H⟩:=H
        have LMc20:=Aside0.mk c20
        clear c20
        obtain ⟨y111,hy111⟩:∃ y_:List Int,y_=(x6_1 ++ [wrap64 (x8_2 * (rd l1 0))]):=⟨_,rfl⟩
        replace H:(F81.l0 k2 l0 l1 y111 (wrap64 (x7_1+1)))=some (r1,r2):=by first|(rw [hy111];with_reducible exact H)|(have H2_:=(Option.bind_some _ _).symm.trans H;rw [hy111];with_reducible exact H2_)|(have H2_:=(Option.bind_some _ _).symm.trans H;with_reducible exact H2_)|with_reducible exact H|(rw [hy111];exact H)|exact H
        have Ny111:=Aside0.mk hy111
        clear hy111
        have H':=Aside0.mk H
        clear H
        have p110:0≤(0:Int):=(by omega)
        have q110:0 < (l1.length:Int):=oD
        obtain ⟨ad110,e110,hx110_0⟩:=Kd.at_int HR1.out 0 p110 q110
        cases e110
        have qi110:(0 < l1.length)=True:=eq_true (by omega)
        (try rw [show ((0:Int)).toNat=0 from rfl] at hx110_0)
        (try rw [Addr.add_zero'] at hx110_0)
        replace hx110_0:=hbc HB hx110_0
        replace p110:=eq_true p110
        replace q110:=eq_true q110
        go_wp2_with (first|((with_reducible refine gate_builtin (b:=.append) (xs:=#[.tmp 60,.tmp 66]) rfl ?_);(try (refine gate_guard (by rfl) ?_;dsimp only));at_builtin;refine Kd.R_append (Kd.int .i64) (w0:=w) w.heap.size rfl (.tmp 60) (.tmp 66) 28 2 (.int .i64 0) 8 rfl Try.underlying28 info2 rfl (by decide) (by omega) u6 x6_1 (wrap64 (x8_2 * (rd l1 0))) [.int .i64 (wrap64 (x8_2 * (rd l1 0)))] (fun _=>True) (fun _=>False) rfl rfl ?aP (fun _ hk=>hk.elim) ?aF ?aO ?aB ?aS ?aL ?_;(case aP=>exact rfl);(case aB=>exact bl);(case aF=>exact (fun _ _=>trivial));(case aO=>exact (aR HO_6.out));(case aS=>exact (below_size bl));(case aL=>have:=LMc20.out;omega);intro v112 w21 ho hb hg hat;rw [← Ny111.out] at ho;have n0_:=Aside0.mk (hb);have n1_:=Aside0.mk (ho);clear HB;clear HO_6;have HB:=n0_;have HO113:=n1_;clear n0_ n1_;clear ho hb hg hat))
        repeat (go_quiet (first|((with_reducible refine gate_builtin (b:=.append) (xs:=#[.tmp 60,.tmp 66]) rfl ?_);(try (refine gate_guard (by rfl) ?_;dsimp only));at_builtin;refine Kd.R_append (Kd.int .i64) (w0:=w) w.heap.size rfl (.tmp 60) (.tmp 66) 28 2 (.int .i64 0) 8 rfl Try.underlying28 info2 rfl (by decide) (by omega) u6 x6_1 (wrap64 (x8_2 * (rd l1 0))) [.int .i64 (wrap64 (x8_2 * (rd l1 0)))] (fun _=>True) (fun _=>False) rfl rfl ?aP (fun _ hk=>hk.elim) ?aF ?aO ?aB ?aS ?aL ?_;(case aP=>exact rfl);(case aB=>exact bl);(case aF=>exact (fun _ _=>trivial));(case aO=>exact (aR HO_6.out));(case aS=>exact (below_size bl));(case aL=>have:=LMc20.out;omega);intro v112 w21 ho hb hg hat;rw [← Ny111.out] at ho;have n0_:=Aside0.mk (hb);have n1_:=Aside0.mk (ho);clear HB;clear HO_6;have HB:=n0_;have HO113:=n1_;clear n0_ n1_;clear ho hb hg hat));try go_wp2_with (first|((with_reducible refine gate_builtin (b:=.append) (xs:=#[.tmp 60,.tmp 66]) rfl ?_);(try (refine gate_guard (by rfl) ?_;dsimp only));at_builtin;refine Kd.R_append (Kd.int .i64) (w0:=w) w.heap.size rfl (.tmp 60) (.tmp 66) 28 2 (.int .i64 0) 8 rfl Try.underlying28 info2 rfl (by decide) (by omega) u6 x6_1 (wrap64 (x8_2 * (rd l1 0))) [.int .i64 (wrap64 (x8_2 * (rd l1 0)))] (fun _=>True) (fun _=>False) rfl rfl ?aP (fun _ hk=>hk.elim) ?aF ?aO ?aB ?aS ?aL ?_;(case aP=>exact rfl);(case aB=>exact bl);(case aF=>exact (fun _ _=>trivial));(case aO=>exact (aR HO_6.out));(case aS=>exact (below_size bl));(case aL=>have:=LMc20.out;omega);intro v112 w21 ho hb hg hat;rw [← Ny111.out] at ho;have n0_:=Aside0.mk (hb);have n1_:=Aside0.mk (ho);clear HB;clear HO_6;have HB:=n0_;have HO113:=n1_;clear n0_ n1_;clear ho hb hg hat)))
        first|go_roundg k2|(simp only [← hji15];go_roundg k2)
        case measure=>have:=HK1.out;have:=HK2.out;omega
        case rel=>exact ⟨(y111),(wrap64 (x7_1+1)),rs,(by first|exact H'|(rw [hji15];exact H')),⟨by have:=HK1.out;have:=HK2.out;omega⟩,⟨by (with_reducible repeat (first|apply Kd.R_alloc|apply Kd.R_drewN|apply Kd.R_drew));exact HO113.out⟩,⟨bl⟩⟩
       rw [if_pos c13] at H
       have c13b0:=decide_eq_true c13
       clear c13
       replace H:=iS H;obtain ⟨c14,H⟩:=H
       have c14b0:=decide_eq_true c14
       clear c14
       obtain ⟨ji15,hji15⟩:∃ j_:Int,(wrap64 (x7_1 - x9_2))=j_:=⟨_,rfl⟩
       replace H:(if 0≤(ji15) then (if (ji15) < (x6_1.length:Int) then (F81.l1 k2 l0 l1 x6_1 x7_1 (wrap64 (x8_2 - (wrap64 ((rd l1 x9_2) * (rd x6_1 (ji15)))))) (wrap64 (x9_2+1))) else (none)) else (none))=some (r1,r2):=by first|(rw [hji15] at H;exact H)|(simp only [hji15] at H ⊢;exact H)
       have hji15w:(IntKind.i64.wrap (x7_1 - x9_2))=ji15:=(i64_w _).trans hji15
       replace H:=iS H;obtain ⟨c16,H⟩:=H
       have c16b0:=decide_eq_true c16
       clear c16
       replace H:=iS H;obtain ⟨c17,H⟩:=H
       have c17b0:=decide_eq_true c17
       clear c17
       have H':=Aside0.mk H
       clear H
       have p108:0≤(x9_2:Int):=oD
       have q108:x9_2 < (l1.length:Int):=oD
       obtain ⟨ad108,e108,hx108_0⟩:=Kd.at_int HR1.out x9_2 p108 q108
       cases e108
       replace hx108_0:=hbc HB hx108_0
       replace p108:=eq_true p108
       replace q108:=eq_true q108
       obtain ⟨Ao18,co18,eo18⟩:=Kd.R_slice HO_6.out
       subst eo18
       have p109:0≤((ji15):Int):=oD
       have q109:(ji15) < (x6_1.length:Int):=oD
       obtain ⟨ad109,e109,hx109_0⟩:=Kd.at_int (Kd.R_reads' HO_6.out).2.2 (ji15) p109 q109
       cases e109
       replace p109:=eq_true p109
       replace q109:=eq_true q109
       go_wp2
       repeat (go_quiet (fail);try go_wp2)
       first|go_roundg k2|(simp only [← hji15];go_roundg k2)
       case measure=>have:=HK1.out;have:=HK2.out;omega
       case rel=>exact ⟨(wrap64 (x8_2 - (wrap64 ((rd l1 x9_2) * (rd x6_1 (ji15)))))),(wrap64 (x9_2+1)),(by first|rfl|(simp;done)|(simp only [← hji15]<;>(first|rfl|simp))|(simp [*];done)),rs,(by first|exact H'|(rw [hji15];exact H')),⟨by have:=HK1.out;have:=HK2.out;omega⟩,⟨by (with_reducible repeat (first|apply Kd.R_alloc|apply Kd.R_drewN|apply Kd.R_drew));exact HO_6.out⟩,⟨bl⟩⟩
  rw [if_pos c6] at H
  have c6b0:=decide_eq_true c6
  have c6b1:decide (l0.length < l1.length)=true:=decide_eq_true (Int.ofNat_lt.mp c6)
  clear c6
  simp only [Option.some.injEq,Prod.mk.injEq] at H
  obtain ⟨rfl,rfl⟩:=H
  go_enter Try.func81,Try.ntmps81
  go_wp2
  repeat (go_quiet (fail);try go_wp2)
  go_ret2
  exact ⟨_,by first|rfl|(simp [errW_none,errW_some]<;>rfl)|(simp [*,errW_none,errW_some]<;>rfl),by first|exact Kd.R_nil _ _ _ _ _|exact Kd.N_nil _ _ _ _ _|exact Kd.V_nil _ _ _ _ _|exact Kd.Q_nil _ _ _ _ _|exact Kd.S_nil _ _ _ _ _,bl⟩
 rw [if_pos c3] at H
 have c3b0:((l0.length:Int) == 0)=true:=beq_iff_eq.mpr c3
 have c3b1:((l0.length:Int) != 0)=false:=bne_eq_false_iff_eq.mpr c3
 clear c3
 obtain ⟨y101,hy101⟩:∃ y_:List Int,y_=(([]:List Int)):=⟨_,rfl⟩
 replace H:(some (y101,true))=some (r1,r2):=by first|(rw [hy101];with_reducible exact H)|(have H2_:=(Option.bind_some _ _).symm.trans H;rw [hy101];with_reducible exact H2_)|(have H2_:=(Option.bind_some _ _).symm.trans H;with_reducible exact H2_)|with_reducible exact H|(rw [hy101];exact H)|exact H
 have Ny101:=Aside0.mk hy101
 clear hy101
 simp only [Option.some.injEq,Prod.mk.injEq] at H
 obtain ⟨rfl,rfl⟩:=H
 go_enter Try.func81,Try.ntmps81
 go_wp2_with (first|((with_reducible refine gate_dst (N:=16) rfl ?_);(try (refine gate_guard (by rfl) ?_;dsimp only));refine Kd.R_lit (Kd.int .i64) _ 2 ?hg (N:=16) ?hd (xs:=([]:List Int)) (inner:=[]) (ok:=fun _=>True) (okp:=fun _=>True) ?hr ?hp (fun _ hk=>hk) trivial (Below.refl _ _) (Nat.le_refl _) (by simp) ?_;(case hd=>rfl);(case hg=>rfl);(case hr=>first|(go_simp;done)|(go_simp;rfl));(case hp=>exact (Reps.none _ _));intro v102 w4 ho5 hb hg_ hnew_;clear hg_ hnew_;(first|rw [← Ny101.out] at ho5|(simp only [Int.reduceToNat] at ho5;rw [← Ny101.out] at ho5));have HO103:=Aside0.mk (Kd.R_lower ho5 (below_size bl));replace HB:=Aside0.mk (below_step bl hb);clear hb ho5))
 repeat (go_quiet (first|((with_reducible refine gate_dst (N:=16) rfl ?_);(try (refine gate_guard (by rfl) ?_;dsimp only));refine Kd.R_lit (Kd.int .i64) _ 2 ?hg (N:=16) ?hd (xs:=([]:List Int)) (inner:=[]) (ok:=fun _=>True) (okp:=fun _=>True) ?hr ?hp (fun _ hk=>hk) trivial (Below.refl _ _) (Nat.le_refl _) (by simp) ?_;(case hd=>rfl);(case hg=>rfl);(case hr=>first|(go_simp;done)|(go_simp;rfl));(case hp=>exact (Reps.none _ _));intro v102 w4 ho5 hb hg_ hnew_;clear hg_ hnew_;(first|rw [← Ny101.out] at ho5|(simp only [Int.reduceToNat] at ho5;rw [← Ny101.out] at ho5));have HO103:=Aside0.mk (Kd.R_lower ho5 (below_size bl));replace HB:=Aside0.mk (below_step bl hb);clear hb ho5));try go_wp2_with (first|((with_reducible refine gate_dst (N:=16) rfl ?_);(try (refine gate_guard (by rfl) ?_;dsimp only));refine Kd.R_lit (Kd.int .i64) _ 2 ?hg (N:=16) ?hd (xs:=([]:List Int)) (inner:=[]) (ok:=fun _=>True) (okp:=fun _=>True) ?hr ?hp (fun _ hk=>hk) trivial (Below.refl _ _) (Nat.le_refl _) (by simp) ?_;(case hd=>rfl);(case hg=>rfl);(case hr=>first|(go_simp;done)|(go_simp;rfl));(case hp=>exact (Reps.none _ _));intro v102 w4 ho5 hb hg_ hnew_;clear hg_ hnew_;(first|rw [← Ny101.out] at ho5|(simp only [Int.reduceToNat] at ho5;rw [← Ny101.out] at ho5));have HO103:=Aside0.mk (Kd.R_lower ho5 (below_size bl));replace HB:=Aside0.mk (below_step bl hb);clear hb ho5)))
 go_ret2
 exact ⟨_,by first|rfl|(simp [errW_none,errW_some]<;>rfl)|(simp [*,errW_none,errW_some]<;>rfl),by (with_reducible repeat (first|apply Kd.R_alloc|apply Kd.R_drewN|apply Kd.R_drew));exact HO103.out,bl⟩
/-! ### F201: function 201 -/
def F201.f (a0_0:Int) (l0_1:List (List Int)) (a1:Int):Option (Int × Int):=if 0≤(wrap64 (Int.tdiv a1 2)) then (if (wrap64 (Int.tdiv a1 2)) < (l0_1.length:Int) then (if (Int.tmod a1 2)=1 then (if 1 < ((rd_L1 l0_1 (wrap64 (Int.tdiv a1 2))).length:Int) then (if 0 < ((rd_L1 l0_1 (wrap64 (Int.tdiv a1 2))).length:Int) then (some (rd (rd_L1 l0_1 (wrap64 (Int.tdiv a1 2))) 1,rd (rd_L1 l0_1 (wrap64 (Int.tdiv a1 2))) 0)) else (none)) else (none)) else (if 0 < ((rd_L1 l0_1 (wrap64 (Int.tdiv a1 2))).length:Int) then (if 1 < ((rd_L1 l0_1 (wrap64 (Int.tdiv a1 2))).length:Int) then (some (rd (rd_L1 l0_1 (wrap64 (Int.tdiv a1 2))) 0,rd (rd_L1 l0_1 (wrap64 (Int.tdiv a1 2))) 1)) else (none)) else (none))) else (none)) else (none)
set_option maxHeartbeats 8000000 in
set_option maxRecDepth 100000 in
theorem F201.calls (a0_0 : Int) (A0_1 : Option Addr) (c0_1 : Nat) (l0_1 : List (List Int)) (a1 : Int) (r1 : Int) (r2 : Int) (w : World) (hr0_1 : Kd.C (Kd.slice 2 (Kd.int .i64)) w A0_1 l0_1.length l0_1) (hc0_1 : l0_1.length ≤ c0_1) (h : F201.f a0_0 l0_1 a1 = some (r1, r2)) :
  Calls Try.prog 201 #[.agg #[.int .i64 a0_0,.slice A0_1 l0_1.length c0_1],.int .i64 a1] w fun e w'=>e=.returned (.tuple #[.int .i64 r1,.int .i64 r2])∧Below w.heap.size w w':=by
 have hu31:=Try.underlying31
 have HR0_1:=Aside0.mk hr0_1
 have HC0_1:=Aside0.mk hc0_1
 clear hr0_1 hc0_1
 have HB:=Aside0.mk (Below.refl w.heap.size w)
 have H:(if 0≤(wrap64 (Int.tdiv a1 2)) then (if (wrap64 (Int.tdiv a1 2)) < (l0_1.length:Int) then (if (Int.tmod a1 2)=1 then (if 1 < ((rd_L1 l0_1 (wrap64 (Int.tdiv a1 2))).length:Int) then (if 0 < ((rd_L1 l0_1 (wrap64 (Int.tdiv a1 2))).length:Int) then (some (rd (rd_L1 l0_1 (wrap64 (Int.tdiv a1 2))) 1,rd (rd_L1 l0_1 (wrap64 (Int.tdiv a1 2))) 0)) else (none)) else (none)) else (if 0 < ((rd_L1 l0_1 (wrap64 (Int.tdiv a1 2))).length:Int) then (if 1 < ((rd_L1 l0_1 (wrap64 (Int.tdiv a1 2))).length:Int) then (some (rd (rd_L1 l0_1 (wrap64 (Int.tdiv a1 2))) 0,rd (rd_L1 l0_1 (wrap64 (Int.tdiv a1 2))) 1)) else (none)) else (none))) else (none)) else (none))=some (r1,r2):=h
 clear h
 obtain ⟨ji3,hji3⟩:∃ j_:Int,(wrap64 (Int.tdiv a1 2))=j_:=⟨_,rfl⟩
 replace H:(if 0≤(ji3) then (if (ji3) < (l0_1.length:Int) then (if (Int.tmod a1 2)=1 then (if 1 < ((rd_L1 l0_1 (ji3)).length:Int) then (if 0 < ((rd_L1 l0_1 (ji3)).length:Int) then (some (rd (rd_L1 l0_1 (ji3)) 1,rd (rd_L1 l0_1 (ji3)) 0)) else (none)) else (none)) else (if 0 < ((rd_L1 l0_1 (ji3)).length:Int) then (if 1 < ((rd_L1 l0_1 (ji3)).length:Int) then (some (rd (rd_L1 l0_1 (ji3)) 0,rd (rd_L1 l0_1 (ji3)) 1)) else (none)) else (none))) else (none)) else (none))=some (r1,r2):=by first|(rw [hji3] at H;exact H)|(simp only [hji3] at H ⊢;exact H)
 have hji3w:(IntKind.i64.wrap (Int.tdiv a1 2))=ji3:=(i64_w _).trans hji3
 replace H:=iS H;obtain ⟨c4,H⟩:=H
 have c4b0:=decide_eq_true c4
 clear c4
 replace H:=iS H;obtain ⟨c5,H⟩:=H
 have c5b0:=decide_eq_true c5
 clear c5
 by_cases c6:(Int.tmod a1 2)=1
 case neg =>
  rw [if_neg c6] at H
  have c6b0:((Int.tmod a1 2) == 1)=false:=beq_eq_false_iff_ne.mpr c6
  have c6b1:((Int.tmod a1 2) != 1)=true:=bne_iff_ne.mpr c6
  replace H:=iS H;obtain ⟨c11,H⟩:=H
  have c11b0:=decide_eq_true c11
  have c11b1:decide (0 < (rd_L1 l0_1 (ji3)).length)=true:=decide_eq_true (by omega)
  clear c11
  replace H:=iS H;obtain ⟨c12,H⟩:=H
  have c12b0:=decide_eq_true c12
  have c12b1:decide (1 < (rd_L1 l0_1 (ji3)).length)=true:=decide_eq_true (by omega)
  clear c12
  simp only [Option.some.injEq,Prod.mk.injEq] at H
  obtain ⟨rfl,rfl⟩:=H
  go_enter Try.func201,Try.ntmps201
  go_wp2_with (first|((with_reducible refine gate_dst (N:=2) rfl ?_);refine box_event ?hg (N:=2) ?hd (cs:=#[.int .i64 a0_0,.slice A0_1 l0_1.length c0_1]) (t:=31) ?hr ?_;(case hd=>rfl);(case hg=>rfl);(case hr=>first|(go_simp;done)|(go_simp;rfl));intro gb101 hg w13 hbox hb;have BK101:=Aside0.mk (hbox);have GW101:=Aside0.mk ((by rw [hg];exact (below_size bl):w.heap.size≤gb101));have GE101:=Aside0.mk ((by rw [hg];exact (below_size bl):w.heap.size≤gb101));replace HB:=Aside0.mk (below_step bl hb);clear hb hbox hg;have hcz14_0:w13.cell? ⟨gb101,0,none⟩=some (.int .i64 a0_0):=(blk_cell BK101.out 0).trans rfl;have hcz14_1:w13.cell? ⟨gb101,1,none⟩=some (.slice A0_1 l0_1.length c0_1):=(blk_cell BK101.out 1).trans rfl;have hfz14_0:=blk_frozen BK101.out 0;have hfz14_1:=blk_frozen BK101.out 1;have p102:0≤((ji3):Int):=oD;have q102:(ji3) < (l0_1.length:Int):=oD;obtain ⟨ad102,A102_0,c102_0,e102,hx102_0,hl102_0,hi102_0⟩:=at_L1 HR0_1.out (ji3) p102 q102;cases e102;replace hx102_0:=hbc HB hx102_0;have HR102_0:=Aside0.mk hi102_0;have HC102_0:=Aside0.mk hl102_0;clear hi102_0 hl102_0;replace p102:=eq_true p102;replace q102:=eq_true q102;have p105:0≤(0:Int):=(by omega);have q105:0 < ((rd_L1 l0_1 (ji3)).length:Int):=oD;obtain ⟨ad105,e105,hx105_0⟩:=Kd.at_int HR102_0.out 0 p105 q105;cases e105;have qi105:(0 < (rd_L1 l0_1 (ji3)).length)=True:=eq_true (by omega);(try rw [show ((0:Int)).toNat=0 from rfl] at hx105_0);(try rw [Addr.add_zero'] at hx105_0);replace hx105_0:=hbc HB hx105_0;replace p105:=eq_true p105;replace q105:=eq_true q105;have p106:0≤(1:Int):=(by omega);have q106:1 < ((rd_L1 l0_1 (ji3)).length:Int):=oD;obtain ⟨ad106,e106,hx106_0⟩:=Kd.at_int HR102_0.out 1 p106 q106;obtain rfl:ad105=ad106:=(by injection e106);(try simp only [show (1:Int).toNat=1 from rfl,Nat.reduceMul,Nat.reduceEqDiff,Go.Addr.add,↓reduceIte] at hx106_0);have qi106:(1 < (rd_L1 l0_1 (ji3)).length)=True:=eq_true (by omega);(try rw [show ((1:Int)).toNat=1 from rfl] at hx106_0);replace hx106_0:=hbc HB hx106_0;replace p106:=eq_true p106;replace q106:=eq_true q106))
  repeat (go_quiet (first|((with_reducible refine gate_dst (N:=2) rfl ?_);refine box_event ?hg (N:=2) ?hd (cs:=#[.int .i64 a0_0,.slice A0_1 l0_1.length c0_1]) (t:=31) ?hr ?_;(case hd=>rfl);(case hg=>rfl);(case hr=>first|(go_simp;done)|(go_simp;rfl));intro gb101 hg w13 hbox hb;have BK101:=Aside0.mk (hbox);have GW101:=Aside0.mk ((by rw [hg];exact (below_size bl):w.heap.size≤gb101));have GE101:=Aside0.mk ((by rw [hg];exact (below_size bl):w.heap.size≤gb101));replace HB:=Aside0.mk (below_step bl hb);clear hb hbox hg;have hcz14_0:w13.cell? ⟨gb101,0,none⟩=some (.int .i64 a0_0):=(blk_cell BK101.out 0).trans rfl;have hcz14_1:w13.cell? ⟨gb101,1,none⟩=some (.slice A0_1 l0_1.length c0_1):=(blk_cell BK101.out 1).trans rfl;have hfz14_0:=blk_frozen BK101.out 0;have hfz14_1:=blk_frozen BK101.out 1;have p102:0≤((ji3):Int):=oD;have q102:(ji3) < (l0_1.length:Int):=oD;obtain ⟨ad102,A102_0,c102_0,e102,hx102_0,hl102_0,hi102_0⟩:=at_L1 HR0_1.out (ji3) p102 q102;cases e102;replace hx102_0:=hbc HB hx102_0;have HR102_0:=Aside0.mk hi102_0;have HC102_0:=Aside0.mk hl102_0;clear hi102_0 hl102_0;replace p102:=eq_true p102;replace q102:=eq_true q102;have p105:0≤(0:Int):=(by omega);have q105:0 < ((rd_L1 l0_1 (ji3)).length:Int):=oD;obtain ⟨ad105,e105,hx105_0⟩:=Kd.at_int HR102_0.out 0 p105 q105;cases e105;have qi105:(0 < (rd_L1 l0_1 (ji3)).length)=True:=eq_true (by omega);(try rw [show ((0:Int)).toNat=0 from rfl] at hx105_0);(try rw [Addr.add_zero'] at hx105_0);replace hx105_0:=hbc HB hx105_0;replace p105:=eq_true p105;replace q105:=eq_true q105;have p106:0≤(1:Int):=(by omega);have q106:1 < ((rd_L1 l0_1 (ji3)).length:Int):=oD;obtain ⟨ad106,e106,hx106_0⟩:=Kd.at_int HR102_0.out 1 p106 q106;obtain rfl:ad105=ad106:=(by injection e106);(try simp only [show (1:Int).toNat=1 from rfl,Nat.reduceMul,Nat.reduceEqDiff,Go.Addr.add,↓reduceIte] at hx106_0);have qi106:(1 < (rd_L1 l0_1 (ji3)).length)=True:=eq_true (by omega);(try rw [show ((1:Int)).toNat=1 from rfl] at hx106_0);replace hx106_0:=hbc HB hx106_0;replace p106:=eq_true p106;replace q106:=eq_true q106));try go_wp2_with (first|((with_reducible refine gate_dst (N:=2) rfl ?_);refine box_event ?hg (N:=2) ?hd (cs:=#[.int .i64 a0_0,.slice A0_1 l0_1.length c0_1]) (t:=31) ?hr ?_;(case hd=>rfl);(case hg=>rfl);(case hr=>first|(go_simp;done)|(go_simp;rfl));intro gb101 hg w13 hbox hb;have BK101:=Aside0.mk (hbox);have GW101:=Aside0.mk ((by rw [hg];exact (below_size bl):w.heap.size≤gb101));have GE101:=Aside0.mk ((by rw [hg];exact (below_size bl):w.heap.size≤gb101));replace HB:=Aside0.mk (below_step bl hb);clear hb hbox hg;have hcz14_0:w13.cell? ⟨gb101,0,none⟩=some (.int .i64 a0_0):=(blk_cell BK101.out 0).trans rfl;have hcz14_1:w13.cell? ⟨gb101,1,none⟩=some (.slice A0_1 l0_1.length c0_1):=(blk_cell BK101.out 1).trans rfl;have hfz14_0:=blk_frozen BK101.out 0;have hfz14_1:=blk_frozen BK101.out 1;have p102:0≤((ji3):Int):=oD;have q102:(ji3) < (l0_1.length:Int):=oD;obtain ⟨ad102,A102_0,c102_0,e102,hx102_0,hl102_0,hi102_0⟩:=at_L1 HR0_1.out (ji3) p102 q102;cases e102;replace hx102_0:=hbc HB hx102_0;have HR102_0:=Aside0.mk hi102_0;have HC102_0:=Aside0.mk hl102_0;clear hi102_0 hl102_0;replace p102:=eq_true p102;replace q102:=eq_true q102;have p105:0≤(0:Int):=(by omega);have q105:0 < ((rd_L1 l0_1 (ji3)).length:Int):=oD;obtain ⟨ad105,e105,hx105_0⟩:=Kd.at_int HR102_0.out 0 p105 q105;cases e105;have qi105:(0 < (rd_L1 l0_1 (ji3)).length)=True:=eq_true (by omega);(try rw [show ((0:Int)).toNat=0 from rfl] at hx105_0);(try rw [Addr.add_zero'] at hx105_0);replace hx105_0:=hbc HB hx105_0;replace p105:=eq_true p105;replace q105:=eq_true q105;have p106:0≤(1:Int):=(by omega);have q106:1 < ((rd_L1 l0_1 (ji3)).length:Int):=oD;obtain ⟨ad106,e106,hx106_0⟩:=Kd.at_int HR102_0.out 1 p106 q106;obtain rfl:ad105=ad106:=(by injection e106);(try simp only [show (1:Int).toNat=1 from rfl,Nat.reduceMul,Nat.reduceEqDiff,Go.Addr.add,↓reduceIte] at hx106_0);have qi106:(1 < (rd_L1 l0_1 (ji3)).length)=True:=eq_true (by omega);(try rw [show ((1:Int)).toNat=1 from rfl] at hx106_0);replace hx106_0:=hbc HB hx106_0;replace p106:=eq_true p106;replace q106:=eq_true q106)))
  go_ret2
  exact ⟨by first|rfl|(simp [errW_none,errW_some]<;>rfl)|(simp only [← hji3];first|rfl|(simp [errW_none,errW_some]<;>rfl))|(simp [*,errW_none,errW_some]<;>rfl),bl⟩
 rw [if_pos c6] at H
 have c6b0:((Int.tmod a1 2) == 1)=true:=beq_iff_eq.mpr c6
 have c6b1:((Int.tmod a1 2) != 1)=false:=bne_eq_false_iff_eq.mpr c6
 clear c6
 replace H:=iS H;obtain ⟨c7,H⟩:=H
 have c7b0:=decide_eq_true c7
 have c7b1:decide (1 < (rd_L1 l0_1 (ji3)).length)=true:=decide_eq_true (by omega)
 clear c7
 replace H:=iS H;obtain ⟨c8,H⟩:=H
 have c8b0:=decide_eq_true c8
 have c8b1:decide (0 < (rd_L1 l0_1 (ji3)).length)=true:=decide_eq_true (by omega)
 clear c8
 simp only [Option.some.injEq,Prod.mk.injEq] at H
 obtain ⟨rfl,rfl⟩:=H
 go_enter Try.func201,Try.ntmps201
 go_wp2_with (first|((with_reducible refine gate_dst (N:=2) rfl ?_);refine box_event ?hg (N:=2) ?hd (cs:=#[.int .i64 a0_0,.slice A0_1 l0_1.length c0_1]) (t:=31) ?hr ?_;(case hd=>rfl);(case hg=>rfl);(case hr=>first|(go_simp;done)|(go_simp;rfl));intro gb101 hg w9 hbox hb;have BK101:=Aside0.mk (hbox);have GW101:=Aside0.mk ((by rw [hg];exact (below_size bl):w.heap.size≤gb101));have GE101:=Aside0.mk ((by rw [hg];exact (below_size bl):w.heap.size≤gb101));replace HB:=Aside0.mk (below_step bl hb);clear hb hbox hg;have hcz10_0:w9.cell? ⟨gb101,0,none⟩=some (.int .i64 a0_0):=(blk_cell BK101.out 0).trans rfl;have hcz10_1:w9.cell? ⟨gb101,1,none⟩=some (.slice A0_1 l0_1.length c0_1):=(blk_cell BK101.out 1).trans rfl;have hfz10_0:=blk_frozen BK101.out 0;have hfz10_1:=blk_frozen BK101.out 1;have p102:0≤((ji3):Int):=oD;have q102:(ji3) < (l0_1.length:Int):=oD;obtain ⟨ad102,A102_0,c102_0,e102,hx102_0,hl102_0,hi102_0⟩:=at_L1 HR0_1.out (ji3) p102 q102;cases e102;replace hx102_0:=hbc HB hx102_0;have HR102_0:=Aside0.mk hi102_0;have HC102_0:=Aside0.mk hl102_0;clear hi102_0 hl102_0;replace p102:=eq_true p102;replace q102:=eq_true q102;have p103:0≤(1:Int):=(by omega);have q103:1 < ((rd_L1 l0_1 (ji3)).length:Int):=oD;obtain ⟨ad103,e103,hx103_0⟩:=Kd.at_int HR102_0.out 1 p103 q103;cases e103;(try simp only [show (1:Int).toNat=1 from rfl,Nat.reduceMul,Nat.reduceEqDiff,Go.Addr.add,↓reduceIte] at hx103_0);have qi103:(1 < (rd_L1 l0_1 (ji3)).length)=True:=eq_true (by omega);(try rw [show ((1:Int)).toNat=1 from rfl] at hx103_0);replace hx103_0:=hbc HB hx103_0;replace p103:=eq_true p103;replace q103:=eq_true q103;have p104:0≤(0:Int):=(by omega);have q104:0 < ((rd_L1 l0_1 (ji3)).length:Int):=oD;obtain ⟨ad104,e104,hx104_0⟩:=Kd.at_int HR102_0.out 0 p104 q104;obtain rfl:ad103=ad104:=(by injection e104);have qi104:(0 < (rd_L1 l0_1 (ji3)).length)=True:=eq_true (by omega);(try rw [show ((0:Int)).toNat=0 from rfl] at hx104_0);(try rw [Addr.add_zero'] at hx104_0);replace hx104_0:=hbc HB hx104_0;replace p104:=eq_true p104;replace q104:=eq_true q104))
 repeat (go_quiet (first|((with_reducible refine gate_dst (N:=2) rfl ?_);refine box_event ?hg (N:=2) ?hd (cs:=#[.int .i64 a0_0,.slice A0_1 l0_1.length c0_1]) (t:=31) ?hr ?_;(case hd=>rfl);(case hg=>rfl);(case hr=>first|(go_simp;done)|(go_simp;rfl));intro gb101 hg w9 hbox hb;have BK101:=Aside0.mk (hbox);have GW101:=Aside0.mk ((by rw [hg];exact (below_size bl):w.heap.size≤gb101));have GE101:=Aside0.mk ((by rw [hg];exact (below_size bl):w.heap.size≤gb101));replace HB:=Aside0.mk (below_step bl hb);clear hb hbox hg;have hcz10_0:w9.cell? ⟨gb101,0,none⟩=some (.int .i64 a0_0):=(blk_cell BK101.out 0).trans rfl;have hcz10_1:w9.cell? ⟨gb101,1,none⟩=some (.slice A0_1 l0_1.length c0_1):=(blk_cell BK101.out 1).trans rfl;have hfz10_0:=blk_frozen BK101.out 0;have hfz10_1:=blk_frozen BK101.out 1;have p102:0≤((ji3):Int):=oD;have q102:(ji3) < (l0_1.length:Int):=oD;obtain ⟨ad102,A102_0,c102_0,e102,hx102_0,hl102_0,hi102_0⟩:=at_L1 HR0_1.out (ji3) p102 q102;cases e102;replace hx102_0:=hbc HB hx102_0;have HR102_0:=Aside0.mk hi102_0;have HC102_0:=Aside0.mk hl102_0;clear hi102_0 hl102_0;replace p102:=eq_true p102;replace q102:=eq_true q102;have p103:0≤(1:Int):=(by omega);have q103:1 < ((rd_L1 l0_1 (ji3)).length:Int):=oD;obtain ⟨ad103,e103,hx103_0⟩:=Kd.at_int HR102_0.out 1 p103 q103;cases e103;(try simp only [show (1:Int).toNat=1 from rfl,Nat.reduceMul,Nat.reduceEqDiff,Go.Addr.add,↓reduceIte] at hx103_0);have qi103:(1 < (rd_L1 l0_1 (ji3)).length)=True:=eq_true (by omega);(try rw [show ((1:Int)).toNat=1 from rfl] at hx103_0);replace hx103_0:=hbc HB hx103_0;replace p103:=eq_true p103;replace q103:=eq_true q103;have p104:0≤(0:Int):=(by omega);have q104:0 < ((rd_L1 l0_1 (ji3)).length:Int):=oD;obtain ⟨ad104,e104,hx104_0⟩:=Kd.at_int HR102_0.out 0 p104 q104;obtain rfl:ad103=ad104:=(by injection e104);have qi104:(0 < (rd_L1 l0_1 (ji3)).length)=True:=eq_true (by omega);(try rw [show ((0:Int)).toNat=0 from rfl] at hx104_0);(try rw [Addr.add_zero'] at hx104_0);replace hx104_0:=hbc HB hx104_0;replace p104:=eq_true p104;replace q104:=eq_true q104));try go_wp2_with (first|((with_reducible refine gate_dst (N:=2) rfl ?_);refine box_event ?hg (N:=2) ?hd (cs:=#[.int .i64 a0_0,.slice A0_1 l0_1.length c0_1]) (t:=31) ?hr ?_;(case hd=>rfl);(case hg=>rfl);(case hr=>first|(go_simp;done)|(go_simp;rfl));intro gb101 hg w9 hbox hb;have BK101:=Aside0.mk (hbox);have GW101:=Aside0.mk ((by rw [hg];exact (below_size bl):w.heap.size≤gb101));have GE101:=Aside0.mk ((by rw [hg];exact (below_size bl):w.heap.size≤gb101));replace HB:=Aside0.mk (below_step bl hb);clear hb hbox hg;have hcz10_0:w9.cell? ⟨gb101,0,none⟩=some (.int .i64 a0_0):=(blk_cell BK101.out 0).trans rfl;have hcz10_1:w9.cell? ⟨gb101,1,none⟩=some (.slice A0_1 l0_1.length c0_1):=(blk_cell BK101.out 1).trans rfl;have hfz10_0:=blk_frozen BK101.out 0;have hfz10_1:=blk_frozen BK101.out 1;have p102:0≤((ji3):Int):=oD;have q102:(ji3) < (l0_1.length:Int):=oD;obtain ⟨ad102,A102_0,c102_0,e102,hx102_0,hl102_0,hi102_0⟩:=at_L1 HR0_1.out (ji3) p102 q102;cases e102;replace hx102_0:=hbc HB hx102_0;have HR102_0:=Aside0.mk hi102_0;have HC102_0:=Aside0.mk hl102_0;clear hi102_0 hl102_0;replace p102:=eq_true p102;replace q102:=eq_true q102;have p103:0≤(1:Int):=(by omega);have q103:1 < ((rd_L1 l0_1 (ji3)).length:Int):=oD;obtain ⟨ad103,e103,hx103_0⟩:=Kd.at_int HR102_0.out 1 p103 q103;cases e103;(try simp only [show (1:Int).toNat=1 from rfl,Nat.reduceMul,Nat.reduceEqDiff,Go.Addr.add,↓reduceIte] at hx103_0);have qi103:(1 < (rd_L1 l0_1 (ji3)).length)=True:=eq_true (by omega);(try rw [show ((1:Int)).toNat=1 from rfl] at hx103_0);replace hx103_0:=hbc HB hx103_0;replace p103:=eq_true p103;replace q103:=eq_true q103;have p104:0≤(0:Int):=(by omega);have q104:0 < ((rd_L1 l0_1 (ji3)).length:Int):=oD;obtain ⟨ad104,e104,hx104_0⟩:=Kd.at_int HR102_0.out 0 p104 q104;obtain rfl:ad103=ad104:=(by injection e104);have qi104:(0 < (rd_L1 l0_1 (ji3)).length)=True:=eq_true (by omega);(try rw [show ((0:Int)).toNat=0 from rfl] at hx104_0);(try rw [Addr.add_zero'] at hx104_0);replace hx104_0:=hbc HB hx104_0;replace p104:=eq_true p104;replace q104:=eq_true q104)))
 go_ret2
 exact ⟨by first|rfl|(simp [errW_none,errW_some]<;>rfl)|(simp only [← hji3];first|rfl|(simp [errW_none,errW_some]<;>rfl))|(simp [*,errW_none,errW_some]<;>rfl),bl⟩
end Go.Proofs.Ytoebojnhchocaaa.A
/- Set with little white space, by a program. -/
