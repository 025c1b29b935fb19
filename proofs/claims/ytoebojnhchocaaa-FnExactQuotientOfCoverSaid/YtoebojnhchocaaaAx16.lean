/- The functions that one law reaches, each as a Lean function, and that Go's call comes to what it says. Condition of each: that the Lean function answers (is not none). -/
import Derived.Test.YtoebojnhchocaaaAx0
import Derived.Test.YtoebojnhchocaaaAx9
import Derived.Test.YtoebojnhchocaaaAx12
import Derived.Test.YtoebojnhchocaaaAx15
namespace Go.Proofs.Ytoebojnhchocaaa.A
open Go.RowKit Go.Proofs.YtoebojnhchocaaaW.PrintWords Go.Proofs.YtoebojnhchocaaaW.PrintLast Go.Proofs.YtoebojnhchocaaaW.PrintMore
attribute [local go_sem] max2_int min2_int max_two min_two max_three min_three max_four min_four   -- for this text's walks alone
set_option linter.unusedVariables false
set_option linter.unusedSimpArgs false
/-! ### F132: function 132 -/
mutual
def F132.l0 : Nat → List (List Int) → List Int → List (List Int) → Int → Option (List Int)
 | 0,_,_,_,_=>none
 | k+1,x0,x3,x4,x5=>if x5≤(x0.length:Int) then ((F205.f k x0 x4).bind fun t110=>(F132.l1 k x0 x3 t110 x5 (t110.length:Int) 0)) else ((F168.f k x3).bind fun t107=>(some t107))
def F132.l1 : Nat → List (List Int) → List Int → List (List Int) → Int → Int → Int → Option (List Int)
 | 0,_,_,_,_,_,_=>none
 | k+1,x0,x3,x4,x5,x21,x22=>if x22 < x21 then (if 0≤x22 then (if x22 < (x4.length:Int) then (if x22 < ((rd_L1 x4 x22).length:Int) then (if 0≤(wrap64 (x5 - 1)) then (if (wrap64 (x5 - 1)) < (x3.length:Int) then (F132.l1 k x0 x3 (x4.set (x22:Int).toNat ((rd_L1 x4 x22).set (x22:Int).toNat (wrap64 ((rd (rd_L1 x4 x22) x22)+(rd x3 (wrap64 (x5 - 1))))))) x5 x21 (wrap64 (x22+1))) else (none)) else (none)) else (none)) else (none)) else (none)) else ((F205.f k x0 x4).bind fun t119=>((F206.f k t119).bind fun t122=>(if x5=0 then (none) else (if x3.length < 17592186044416 then (F132.l0 k x0 (x3 ++ [wrap64 (Int.tdiv (wrap64 (-t122)) x5)]) x4 (wrap64 (x5+1))) else (none)))))
end
def F132.f (k:Nat) (l0:List (List Int)):Option (List Int):=(F204.f k (l0.length:Int)).bind fun t104=>(F132.l0 k l0 (([1]:List Int)) t104 1)
theorem F132.mono_l : ∀ k, (∀ y0 y1 y2 y3, LeO (F132.l0 k y0 y1 y2 y3) (F132.l0 (k + 1) y0 y1 y2 y3)) ∧ (∀ y0 y1 y2 y3 y4 y5, LeO (F132.l1 k y0 y1 y2 y3 y4 y5) (F132.l1 (k + 1) y0 y1 y2 y3 y4 y5))
 | 0=>⟨fun _ _ _ _ r h=>by simp [F132.l0] at h,fun _ _ _ _ _ _ r h=>by simp [F132.l1] at h⟩
 | k+1=>by
  obtain ⟨ih0,ih1⟩:=F132.mono_l k
  refine ⟨?_, ?_⟩ <;> intros <;> (first | unfold F132.l0 | unfold F132.l1) <;> repeat' first
   | (with_reducible first|exact ih0 _ _ _ _|exact ih1 _ _ _ _ _ _|exact F205.mono _ _ _|exact F204.mono _ _|exact F206.mono _ _|exact F168.mono _ _|exact LeO.refl _|exact LeO.none _|refine LeO.ite ?_ ?_|refine LeO.bind ?_ (fun _=>?_))
   | exact ih0 _ _ _ _|exact ih1 _ _ _ _ _ _|exact F205.mono _ _ _|exact F204.mono _ _|exact F206.mono _ _|exact F168.mono _ _|exact LeO.none _|refine LeO.ite ?_ ?_|refine LeO.bind ?_ (fun _=>?_)
theorem F132.mono:∀ a0 k,LeO (F132.f k a0) (F132.f (k+1) a0):=by
 intro a0 k
 obtain ⟨ih0,ih1⟩:=F132.mono_l k
 unfold F132.f
 repeat' first
  | (with_reducible first|exact ih0 _ _ _ _|exact ih1 _ _ _ _ _ _|exact F205.mono _ _ _|exact F204.mono _ _|exact F206.mono _ _|exact F168.mono _ _|exact LeO.refl _|exact LeO.none _|refine LeO.ite ?_ ?_|refine LeO.bind ?_ (fun _=>?_))
  | exact ih0 _ _ _ _|exact ih1 _ _ _ _ _ _|exact F205.mono _ _ _|exact F204.mono _ _|exact F206.mono _ _|exact F168.mono _ _|exact LeO.none _|refine LeO.ite ?_ ?_|refine LeO.bind ?_ (fun _=>?_)
def F132.T9:Bool × List (List Nat × List Nat):=(true,[([],[]),([],[]),([0,1],[0,1]),([2],[2]),([],[]),([3,4],[3,4]),([5],[5]),([],[]),([],[]),([8],[8]),([7,9],[7,9]),([10],[10]),([6,11],[6,11]),([3,4,0,1,2,3,4,5,6,7,8,9,10,11,12],[3,4]),([13,12,0,1,2,3,4,5,6,7,8,9,10,11,12],[12,13])])
def F132.B9:List Nat:=[0,0,3,7,0,31,63,0,0,256,896,1920,4095,8191,16383]
theorem F132.tab9:rtab .any (opsOf Try.f132 9)=F132.T9:=by kernel_rfl
theorem F132.bits9:waitsOk F132.T9.2 F132.B9=true:=by kernel_rfl
set_option maxHeartbeats 8000000 in
set_option maxRecDepth 100000 in
theorem F132.calls (k : Nat) (A0 : Option Addr) (c0 : Nat) (l0 : List (List Int)) (r : List Int) (w : World) (hr0 : Kd.C (Kd.slice 2 (Kd.int .i64)) w A0 l0.length l0) (hc0 : l0.length ≤ c0) (h : F132.f k l0 = some r) :
  Calls Try.prog 132 #[.slice A0 l0.length c0] w fun e w'=>∃ v0_:Value,e=.returned (v0_)∧Kd.R (Kd.int .i64) 2 w' w.heap.size (fun _=>True) v0_ r∧Below w.heap.size w w':=by
 have HR0:=Aside0.mk hr0
 have HC0:=Aside0.mk hc0
 clear hr0 hc0
 have HB:=Aside0.mk (Below.refl w.heap.size w)
 have H:((F204.f k (l0.length:Int)).bind fun t104=>(F132.l0 k l0 (([1]:List Int)) t104 1))=some r:=h
 clear h
 obtain ⟨y101,hy101⟩:∃ y_:List Int,y_=(([1]:List Int)):=⟨_,rfl⟩
 replace H:((F204.f k (l0.length:Int)).bind fun t104=>(F132.l0 k l0 y101 t104 1))=some r:=by first|(rw [hy101];with_reducible exact H)|(have H2_:=(Option.bind_some _ _).symm.trans H;rw [hy101];with_reducible exact H2_)|(have H2_:=(Option.bind_some _ _).symm.trans H;with_reducible exact H2_)|with_reducible exact H|(rw [hy101];exact H)|exact H
 have Ny101:=Aside0.mk hy101
 clear hy101
 replace H:=Option.bind_eq_some_iff.mp H
 obtain ⟨t104,A20,H⟩:=H
 replace H:(F132.l0 k l0 y101 t104 1)=some r:=H
 have A2:=Aside0.mk A20
 clear A20
 have H':=Aside0.mk H
 clear H
 go_enter Try.func132,Try.ntmps132
 go_wp2_with (first|((with_reducible refine gate_dst (N:=7) rfl ?_);refine Kd.R_lit (Kd.int .i64) _ 2 ?hg (N:=7) ?hd (xs:=([1]:List Int)) (inner:=[.int .i64 1]) (ok:=fun _=>True) (okp:=fun _=>True) ?hr ?hp (fun _ hk=>hk) trivial (Below.refl _ _) (Nat.le_refl _) (by simp) ?_;(case hd=>rfl);(case hg=>rfl);(case hr=>first|(go_simp;done)|(go_simp;rfl));(case hp=>exact (Reps.one (show Kd.M (Kd.int .i64) _ _ _ 1 [.int .i64 1] from rfl) (Reps.none _ _)));intro v102 w3 ho4 hb hg_ hnew_;clear hg_ hnew_;(first|rw [← Ny101.out] at ho4|(simp only [Int.reduceToNat] at ho4;rw [← Ny101.out] at ho4));have HO103:=Aside0.mk (Kd.R_lower ho4 (below_size bl));replace HB:=Aside0.mk (below_step bl hb);clear hb ho4)|((with_reducible refine gate_callee (f:=204) rfl ?_);refine goesL_ (some 10) rfl rfl Try.func204 (by kernel_rfl) rfl #[.int .i64 (l0.length:Int)] rfl gm ?_;(with_reducible refine (F204.calls k (l0.length:Int) t104 _ A2.out).mono ?_);rintro e w5 ⟨v105,rfl,ho0,hb⟩;refine ⟨_,rfl,?_⟩;have HO106:=Aside0.mk (Kd.S_lower (Kd.S_new' ho0 (Kd.R_lt (aR HO103.out))) (below_size bl));replace HO103:=Aside0.mk (Kd.R_below (aR HO103.out) hb);replace HB:=Aside0.mk (below_step bl hb);(try clear hb);(try clear hb2);(try clear hk);(try clear hi);(try clear ho0)))
 go_loopg [3,4,5] k (fun kq v3 v4 v5 w'=>∃ (x3_1:List Int) (x4_1:List (List Int)) (x5_1:Int),v5=.int .i64 x5_1∧Aside0 (F132.l0 kq l0 x3_1 x4_1 x5_1=some r)∧Aside0 (kq≤k)∧Aside0 (Kd.R (Kd.int .i64) 2 w' w.heap.size (fun _=>True) v3 x3_1)∧Aside0 (Kd.S (Kd.slice 2 (Kd.int .i64)) 28 w' w.heap.size (fun k_=>some k_ ≠ (v3:Value).ownBlock) v4 x4_1)∧Aside0 (Below w.heap.size w w'))
 case atStart=>exact ⟨(y101),(t104),(1),rs,H',⟨Nat.le_refl _⟩,⟨by (with_reducible repeat (first|apply Kd.R_alloc|apply Kd.R_drewN|apply Kd.R_drew));exact HO103.out⟩,⟨by (with_reducible repeat (first|apply Kd.S_alloc|apply Kd.S_drewN|apply Kd.S_drew));exact Kd.S_mono HO106.out (fun _ hk=>hk.2)⟩,⟨bl⟩⟩
 case round =>
  clear H'
  (try clear c1);(try clear c2);(try clear p2)
  obtain ⟨x3_1,x4_1,x5_1,rfl,HA,HK1,HO_3,HO_4,HB⟩:=hrel
  cases gk with
  | zero=>exact absurd HA.out (by simp [F132.l0])
  | succ k1 =>
   have H:=HA.out
   clear HA
   simp only [F132.l0] at H
   by_cases c6:x5_1≤(l0.length:Int)
   case neg =>
    rw [if_neg c6] at H
    have c6b0:decide (x5_1≤(l0.length:Int))=false:=decide_eq_false c6
    clear c6
    replace H:=Option.bind_eq_some_iff.mp H
    obtain ⟨t107,A300,H⟩:=H
    replace H:(some t107)=some r:=H
    have A30:=Aside0.mk A300
    clear A300
    obtain rfl:=Option.some.inj H
    obtain ⟨Ao31,co31,eo31⟩:=Kd.R_slice HO_3.out
    subst eo31
    go_wp2_with (first|((with_reducible refine gate_callee (f:=168) rfl ?_);refine goesL_ (some 51) rfl rfl Try.func168 (by kernel_rfl) rfl #[.slice Ao31 x3_1.length co31] rfl gm ?_;(with_reducible refine (F168.calls k1 (fun k_=>some k_=(.slice Ao31 x3_1.length co31:Value).ownBlock) _ _ x3_1 t107 _ ?side1 A30.out).mono ?_);(case side1=>exact Kd.R_V (Kd.R_tight rfl (Kd.R_apart' (HO_3.out) (Kd.S_typed HO_4.out) (by decide))));rintro e w32 ⟨v108,rfl,ho0,hb⟩;refine ⟨_,rfl,?_⟩;replace HO_4:=Aside0.mk (Kd.S_elder' (aS HO_4.out) (Kd.R_base ho0) hb);have HO109:=Aside0.mk (Kd.R_lower (Kd.R_new' (Kd.R_mono (ok':=fun k_=>True) ho0 (fun _ hk_=>trivial)) (Kd.R_lt (aR HO_3.out))) (below_size bl));replace HO_3:=Aside0.mk (Kd.R_elder' (aR HO_3.out) (Kd.R_base ho0) hb);replace HB:=Aside0.mk (below_step bl hb);(try clear hb);(try clear hb2);(try clear hk);(try clear hi);(try clear ho0)))
    go_ret
    exact ⟨_,by first|rfl|(simp [errW_none,errW_some]<;>rfl)|(simp [*,errW_none,errW_some]<;>rfl),by (with_reducible repeat (first|apply Kd.R_alloc|apply Kd.R_drewN|apply Kd.R_drew));exact Kd.R_mono HO109.out (fun _ hk=>trivial),bl⟩
   rw [if_pos c6] at H
   have c6b0:=decide_eq_true c6
   clear c6
   replace H:=Option.bind_eq_some_iff.mp H
   obtain ⟨t110,A70,H⟩:=H
   replace H:(F132.l1 k1 l0 x3_1 t110 x5_1 (t110.length:Int) 0)=some r:=H
   have A7:=Aside0.mk A70
   clear A70
   have H':=Aside0.mk H
   clear H
   obtain ⟨Ao8,co8,eo8⟩:=Kd.S_slice HO_4.out
   subst eo8
   go_wp2_with (first|((with_reducible refine gate_callee (f:=205) rfl ?_);refine goesL_ (some 19) rfl rfl Try.func205 (by kernel_rfl) rfl #[.slice A0 l0.length c0,.slice Ao8 x4_1.length co8] rfl gm ?_;(with_reducible refine (F205.calls k1 _ _ l0 _ _ x4_1 t110 _ ?side1 ?side2 ?side3 ?side4 A7.out).mono ?_);(case side1=>exact aC (Kd.C_below HR0.out HB.out));(case side2=>exact HC0.out);(case side3=>exact aC ((Kd.S_reads' HO_4.out).2.2));(case side4=>exact (Kd.S_reads' HO_4.out).2.1);rintro e w9 ⟨v111,rfl,ho0,hb⟩;refine ⟨_,rfl,?_⟩;have HO112:=Aside0.mk (Kd.S_lower (Kd.S_new' (Kd.S_new' ho0 (Kd.R_lt (aR HO_3.out))) (Kd.S_lt (aS HO_4.out))) (below_size bl));replace HO_3:=Aside0.mk (Kd.R_below (aR HO_3.out) hb);replace HO_4:=Aside0.mk (Kd.S_elder' (aS HO_4.out) (Kd.S_base ho0) hb);replace HB:=Aside0.mk (below_step bl hb);(try clear hb);(try clear hb2);(try clear hk);(try clear hi);(try clear ho0);obtain ⟨Ao10,co10,eo10⟩:=Kd.S_slice HO112.out;subst eo10))
   go_loopg [22] k1 (fun kq v22 w'=>∃ (x3_2:List Int) (x4_2:List (List Int)) (x22_2:Int),v22=.int .i64 x22_2∧Aside0 (F132.l1 kq l0 x3_2 x4_2 x5_1 (t110.length:Int) x22_2=some r)∧Aside0 (kq≤k1)∧Aside0 (Kd.R (Kd.int .i64) 2 w' w.heap.size (fun _=>True) u3 x3_2)∧Aside0 (Kd.S (Kd.slice 2 (Kd.int .i64)) 28 w' w.heap.size (fun k_=>some k_ ≠ (u3:Value).ownBlock) (.slice Ao10 t110.length co10) x4_2)∧Aside0 (Below w.heap.size w w'))
   case atStart=>exact ⟨(x3_1),(t110),(0),rs,H',⟨Nat.le_refl _⟩,⟨by (with_reducible repeat (first|apply Kd.R_alloc|apply Kd.R_drewN|apply Kd.R_drew));exact HO_3.out⟩,⟨by (with_reducible repeat (first|apply Kd.S_alloc|apply Kd.S_drewN|apply Kd.S_drew));exact Kd.S_mono HO112.out (fun _ hk=>hk.1.2)⟩,⟨bl⟩⟩
   case round =>
    clear H'
    (try clear c1);(try clear c2);(try clear p2);(try clear c6);(try clear c6b0);(try clear p2)
    obtain ⟨x3_2,x4_2,x22_2,rfl,HA,HK2,HO_3,HO_4,HB⟩:=hrel
    have hl4_2:=(Kd.S_reads' HO_4.out).1
    rw [hl4_2] at HO_4
    (try simp only [hl4_2])
    (try simp only [hl4_2] at HO_3)
    cases gk with
    | zero=>exact absurd HA.out (by simp [F132.l1])
    | succ k2 =>
     have H:=HA.out
     clear HA
     simp only [F132.l1] at H
     by_cases c11:x22_2 < (t110.length:Int)
     case neg =>
      rw [if_neg c11] at H
      have c11b0:decide (x22_2 < (t110.length:Int))=false:=decide_eq_false c11
      (try simp only [hl4_2] at c11b0)
      clear c11
      replace H:=Option.bind_eq_some_iff.mp H
      obtain ⟨t119,A230,H⟩:=H
      replace H:((F206.f k2 t119).bind fun t122=>(if x5_1=0 then (none) else (if x3_2.length < 17592186044416 then (F132.l0 k2 l0 (x3_2 ++ [wrap64 (Int.tdiv (wrap64 (-t122)) x5_1)]) x4_2 (wrap64 (x5_1+1))) else (none))))=some r:=H
      have A23:=Aside0.mk A230
      clear A230
      replace H:=Option.bind_eq_some_iff.mp H
      obtain ⟨t122,A240,H⟩:=H
      replace H:(if x5_1=0 then (none) else (if x3_2.length < 17592186044416 then (F132.l0 k2 l0 (x3_2 ++ [wrap64 (Int.tdiv (wrap64 (-t122)) x5_1)]) x4_2 (wrap64 (x5_1+1))) else (none)))=some r:=H
      have A24:=Aside0.mk A240
      clear A240
      by_cases c25:x5_1=0
      case neg =>
       rw [if_neg c25] at H
       have c25b0:(x5_1 == 0)=false:=beq_eq_false_iff_ne.mpr c25
       have c25b1:(x5_1 != 0)=true:=bne_iff_ne.mpr c25
       replace H:=iS H;obtain ⟨c26,H⟩:=H
       have LMc26:=Aside0.mk c26
       clear c26
       obtain ⟨y123,hy123⟩:∃ y_:List Int,y_=(x3_2 ++ [wrap64 (Int.tdiv (wrap64 (-t122)) x5_1)]):=⟨_,rfl⟩
       replace H:(F132.l0 k2 l0 y123 x4_2 (wrap64 (x5_1+1)))=some r:=by first|(rw [hy123];with_reducible exact H)|(have H2_:=(Option.bind_some _ _).symm.trans H;rw [hy123];with_reducible exact H2_)|(have H2_:=(Option.bind_some _ _).symm.trans H;with_reducible exact H2_)|with_reducible exact H|(rw [hy123];exact H)|exact H
       have Ny123:=Aside0.mk hy123
       clear hy123
       have H':=Aside0.mk H
       clear H
       go_wp2_with (first|((with_reducible refine gate_callee (f:=205) rfl ?_);refine goesL_ (some 43) rfl rfl Try.func205 (by kernel_rfl) rfl #[.slice A0 l0.length c0,.slice Ao10 x4_2.length co10] rfl gm ?_;(with_reducible refine (F205.calls k2 _ _ l0 _ _ x4_2 t119 _ ?side1 ?side2 ?side3 ?side4 A23.out).mono ?_);(case side1=>exact aC (Kd.C_below HR0.out HB.out));(case side2=>exact HC0.out);(case side3=>exact aC ((Kd.S_reads' HO_4.out).2.2));(case side4=>exact (Kd.S_reads' HO_4.out).2.1);rintro e w27 ⟨v120,rfl,ho0,hb⟩;refine ⟨_,rfl,?_⟩;have HO121:=Aside0.mk (Kd.S_lower (Kd.S_new' (Kd.S_new' ho0 (Kd.R_lt (aR HO_3.out))) (Kd.S_lt (aS HO_4.out))) (below_size bl));replace HO_3:=Aside0.mk (Kd.R_below (aR HO_3.out) hb);replace HO_4:=Aside0.mk (Kd.S_elder' (aS HO_4.out) (Kd.S_base ho0) hb);replace HB:=Aside0.mk (below_step bl hb);(try clear hb);(try clear hb2);(try clear hk);(try clear hi);(try clear ho0);obtain ⟨Ao28,co28,eo28⟩:=Kd.S_slice HO121.out;subst eo28)|((with_reducible refine gate_callee (f:=206) rfl ?_);refine goesL_ (some 44) rfl rfl Try.func206 (by kernel_rfl) rfl #[.slice Ao28 t119.length co28] rfl gm ?_;(with_reducible refine (F206.calls k2 _ _ t119 t122 _ ?side1 ?side2 A24.out).mono ?_);(case side1=>exact aC ((Kd.S_reads' HO121.out).2.2));(case side2=>exact (Kd.S_reads' HO121.out).2.1);rintro e w' ⟨rfl,⟨nd,rfl⟩⟩;refine ⟨_,rfl,?_⟩)|((with_reducible refine gate_builtin (b:=.append) (xs:=#[.tmp 40,.tmp 48]) rfl ?_);at_builtin;refine Kd.R_append (Kd.int .i64) (w0:=w) w.heap.size rfl (.tmp 40) (.tmp 48) 28 2 (.int .i64 0) 8 rfl Try.underlying28 info2 rfl (by decide) (by omega) u3 x3_2 (wrap64 (Int.tdiv (wrap64 (-t122)) x5_1)) [.int .i64 (wrap64 (Int.tdiv (wrap64 (-t122)) x5_1))] (fun _=>True) (fun _=>False) rfl rfl ?aP (fun _ hk=>hk.elim) ?aF ?aO ?aB ?aS ?aL ?_;(case aP=>exact rfl);(case aB=>exact bl);(case aF=>exact (fun _ _=>trivial));(case aO=>exact (aR HO_3.out));(case aS=>exact (below_size bl));(case aL=>have:=LMc26.out;omega);intro v124 w29 ho hb hg hat;rw [← Ny123.out] at ho;have n0_:=Aside0.mk (Kd.S_after (ok:=(fun k_=>some k_ ≠ (.slice Ao28 t119.length co28:Value).ownBlock)) (by (with_reducible repeat (first|apply Kd.S_alloc|apply Kd.S_drewN|apply Kd.S_drew));exact Kd.S_mono HO_4.out (fun _ hk=>⟨hk.2,hk.1⟩)) hg hat);have n1_:=Aside0.mk (Kd.S_after (ok:=(fun k_=>some k_ ≠ (.slice Ao10 x4_2.length co10:Value).ownBlock)) (by (with_reducible repeat (first|apply Kd.S_alloc|apply Kd.S_drewN|apply Kd.S_drew));exact Kd.S_mono HO121.out (fun _ hk=>⟨hk.2,hk.1.2⟩)) hg hat);have n2_:=Aside0.mk (hb);have n3_:=Aside0.mk (ho);clear HO_4;clear HO121;clear HB;clear HO_3;have HO_4:=n0_;have HO121:=n1_;have HB:=n2_;have HO125:=n3_;clear n0_ n1_ n2_ n3_;clear ho hb hg hat))
       (try simp only [← hl4_2])
       first|go_roundg k2|(simp only [← hji15];go_roundg k2)
       case measure=>have:=HK1.out;have:=HK2.out;omega
       case rel=>exact ⟨(y123),(x4_2),(wrap64 (x5_1+1)),rs,(by first|exact H'|(rw [hji15];exact H')),⟨by have:=HK1.out;have:=HK2.out;omega⟩,⟨by (try simp only [hl4_2]);(with_reducible repeat (first|apply Kd.R_alloc|apply Kd.R_drewN|apply Kd.R_drew));exact HO125.out⟩,⟨by (try simp only [hl4_2]);(with_reducible repeat (first|apply Kd.S_alloc|apply Kd.S_drewN|apply Kd.S_drew));exact Kd.S_mono HO_4.out (fun _ hk=>hk.2)⟩,⟨bl⟩⟩
      rw [if_pos c25] at H
      exact absurd H (by simp)
     rw [if_pos c11] at H
     have c11b0:=decide_eq_true c11
     (try simp only [hl4_2] at c11b0)
     clear c11
     replace H:=iS H;obtain ⟨c12,H⟩:=H
     have c12b0:=decide_eq_true c12
     clear c12
     replace H:=iS H;obtain ⟨c13,H⟩:=H
     have c13b0:=decide_eq_true c13
     (try simp only [hl4_2] at c13b0)
     clear c13
     replace H:=iS H;obtain ⟨c14,H⟩:=H
     have c14b0:=decide_eq_true c14
     (try simp only [hl4_2] at c14b0)
     clear c14
     obtain ⟨ji15,hji15⟩:∃ j_:Int,(wrap64 (x5_1 - 1))=j_:=⟨_,rfl⟩
     replace H:(if 0≤(ji15) then (if (ji15) < (x3_2.length:Int) then (F132.l1 k2 l0 x3_2 (x4_2.set (x22_2:Int).toNat ((rd_L1 x4_2 x22_2).set (x22_2:Int).toNat (wrap64 ((rd (rd_L1 x4_2 x22_2) x22_2)+(rd x3_2 (ji15)))))) x5_1 (t110.length:Int) (wrap64 (x22_2+1))) else (none)) else (none))=some r:=by first|(rw [hji15] at H;exact H)|(simp only [hji15] at H ⊢;exact H)
     have hji15w:(IntKind.i64.wrap (x5_1 - 1))=ji15:=(i64_w _).trans hji15
     replace H:=iS H;obtain ⟨c16,H⟩:=H
     have c16b0:=decide_eq_true c16
     clear c16
     replace H:=iS H;obtain ⟨c17,H⟩:=H
     have c17b0:=decide_eq_true c17
     (try simp only [hl4_2] at c17b0)
     clear c17
     obtain ⟨y116,hy116⟩:∃ y_:List Int,y_=((rd_L1 x4_2 x22_2).set (x22_2:Int).toNat (wrap64 ((rd (rd_L1 x4_2 x22_2) x22_2)+(rd x3_2 (ji15))))):=⟨_,rfl⟩
     replace H:(F132.l1 k2 l0 x3_2 (x4_2.set (x22_2:Int).toNat y116) x5_1 (t110.length:Int) (wrap64 (x22_2+1)))=some r:=by first|(rw [hy116];with_reducible exact H)|(have H2_:=(Option.bind_some _ _).symm.trans H;rw [hy116];with_reducible exact H2_)|(have H2_:=(Option.bind_some _ _).symm.trans H;with_reducible exact H2_)|with_reducible exact H|(rw [hy116];exact H)|exact H
     have Ny116:=Aside0.mk hy116
     clear hy116
     obtain ⟨y118,hy118⟩:∃ y_:List (List Int),y_=(x4_2.set (x22_2:Int).toNat y116):=⟨_,rfl⟩
     replace H:(F132.l1 k2 l0 x3_2 y118 x5_1 (t110.length:Int) (wrap64 (x22_2+1)))=some r:=by first|(rw [hy118];with_reducible exact H)|(have H2_:=(Option.bind_some _ _).symm.trans H;rw [hy118];with_reducible exact H2_)|(have H2_:=(Option.bind_some _ _).symm.trans H;with_reducible exact H2_)|with_reducible exact H|(rw [hy118];exact H)|exact H
     have Ny118:=Aside0.mk hy118
     clear hy118
     have H':=Aside0.mk H
     clear H
     try go_wp2
     replace HO_3:=Aside0.mk (Kd.R_drew HO_3.out);replace HO_4:=Aside0.mk (Kd.S_drew HO_4.out);replace HB:=Aside0.mk (below_drew1 HB.out)
     have p113:0≤(x22_2:Int):=oD
     have q113:x22_2 < (x4_2.length:Int):=oD
     obtain ⟨ad113,A113_0,c113_0,e113,hx113_0,hl113_0,hi113_0⟩:=at_L1 (Kd.S_reads' HO_4.out).2.2 x22_2 p113 q113
     cases e113
     obtain ⟨ce113,hce113,hMe113,hcc113⟩:=Kd.S_get HO_4.out [] x22_2 p113 (by first|exact q113|exact oD|(have e_:=(Kd.S_reads' HO_4.out).1;omega))
     obtain ⟨ve113_0,rfl,ge113_0⟩:=hMe113
     have hv113_0:=hcc113 0 _ rfl
     rw [Nat.add_zero,show ((Kd.slice 2 (Kd.int .i64))).sz=1 from rfl,Nat.mul_one] at hv113_0
     replace hv113_0:=Option.some.inj (hv113_0.symm.trans hx113_0)
     rw [hv113_0] at ge113_0
     have HL113_0:=Aside0.mk (show Kd.R (Kd.int .i64) 2 _ _ _ _ (rd_L1 x4_2 x22_2) from ge113_0)
     clear hv113_0 ge113_0
     have HX113_0:=Aside0.mk hx113_0
     clear hcc113 hce113
     have HR113_0:=Aside0.mk hi113_0
     have HC113_0:=Aside0.mk hl113_0
     clear hi113_0 hl113_0
     replace p113:=eq_true p113
     replace q113:=eq_true q113
     have p114:0≤(x22_2:Int):=oD
     have q114:x22_2 < ((rd_L1 x4_2 x22_2).length:Int):=oD
     obtain ⟨ad114,e114,hx114_0⟩:=Kd.at_int (by repeat (first|(with_reducible exact HR113_0.out)|(with_reducible refine Kd.C_alloc ?_ _)|(with_reducible refine Kd.C_drewN ?_ _)|(with_reducible refine Kd.C_drew ?_)|exact HR113_0.out)) x22_2 p114 q114
     cases e114
     replace p114:=eq_true p114
     replace q114:=eq_true q114
     obtain ⟨Ao20,co20,eo20⟩:=Kd.R_slice HO_3.out
     (first|subst eo20|(injection eo20 with f1_ f2_ f3_;have f4_:=f1_.symm;have f5_:=f3_.symm;clear f1_ f2_ f3_;subst f4_;subst f5_))
     have p115:0≤((ji15):Int):=oD
     have q115:(ji15) < (x3_2.length:Int):=oD
     obtain ⟨ad115,e115,hx115_0⟩:=Kd.at_int (Kd.R_reads' HO_3.out).2.2 (ji15) p115 q115
     cases e115
     replace p115:=eq_true p115
     replace q115:=eq_true q115
     have p18:0≤(x22_2:Int):=oD
     have q18:(x22_2:Int) < (((rd_L1 x4_2 x22_2).length:Int):Int):=oD
     obtain ⟨go18,co18,eo18,gb18,gl18,cl18,HG18⟩:=Kd.R_form HL113_0.out (by omega)
     (first|cases eo18|(injection eo18 with ea_ en_ ec_;(first|subst ea_|(injection ea_ with ea_;subst ea_));subst ec_;clear en_))
     (first|simp only [add_plain] at hx114_0|skip)
     have GB18:=Aside0.mk gb18
     have GG18:=Aside0.mk HG18
     clear gb18 gl18 HG18
     (first|simp only [add_plain] at hx114_0|skip)
     obtain ⟨hx18_0,hf18_0⟩:=Kd.R_celln 0 HL113_0.out (x22_2:Int) p18 q18
     replace p18:=eq_true p18
     replace q18:=eq_true q18
     have hq21:(x22_2:Int) < (x4_2.length:Int):=(by have h_:(x22_2:Int) < ((x4_2.length:Int):Int):=oD;first|exact h_|(have e_:=(Kd.S_reads' HO_4.out).1;omega)|simpa only [List.length_set,List.length_set] using h_)
     obtain ⟨oki21,ce21,hcl21,hM21,hcc21,hok21,hbk21⟩:=Kd.S_borrow HO_4.out [] (x22_2:Int) oD (by first|exact hq21|(have e_:=(Kd.S_reads' HO_4.out).1;omega))
     obtain ⟨ve21_0,rfl,ge21_0⟩:=hM21
     have hv21:=hcc21 0 _ rfl
     rw [Nat.add_zero,show ((Kd.slice 2 (Kd.int .i64))).sz=1 from rfl,Nat.mul_one] at hv21
     replace hv21:=Option.some.inj (hv21.symm.trans HX113_0.out)
     subst hv21
     clear hcc21 hcl21
     replace ge21_0:=(show Kd.R (Kd.int .i64) 2 _ _ _ _ (rd_L1 x4_2 x22_2) from ge21_0)
     have HP21:=Kd.R_putg ge21_0 (x22_2:Int) (wrap64 ((rd (rd_L1 x4_2 x22_2) x22_2)+(rd x3_2 (ji15))))
     have HXp21:=Aside0.mk (cell_grown HP21.2 HX113_0.out (cell_ne (hok21 _ (ge21_0.1 _ rfl)).2))
     rw [← Ny116.out] at HP21
     have HPr21:=Aside0.mk HP21.1
     have HS21:=hbk21 HP21.2 (fun k_ e_=>by injection e_ with e_;subst e_;exact ge21_0.1 _ rfl) (x':=y116) (Kd.M_row HP21.1)
     rw [← Ny118.out] at HS21
     have HQ21:=Aside0.mk HS21
     clear HP21 HS21 hbk21 hok21
     refine start_ (n:=15) (S:=fun w'=>w'.cell? (ad113.add (x22_2).toNat)=some (.slice (some ⟨go18,0,none⟩) (rd_L1 x4_2 x22_2).length c113_0)∧w'.cell? ⟨go18,(x22_2).toNat,none⟩=some (.int .i64 (rd (rd_L1 x4_2 x22_2) x22_2))∧w'.cell? (ad115.add ((ji15)).toNat)=some (.int .i64 (rd x3_2 (ji15)))) (ds:=[14]) (ba 15 0) (by kernel_rfl) rfl rfl ⟨hx113_0,hx114_0,hx115_0⟩ (fun hHeld=>?_);refine with_tabW F132.tab9 F132.bits9 (fun HT_ HW_=>?_)
     generalize wr.drew=w19 at HO_3 HO_4 HB GG18 HL113_0 HQ21 HR113_0 HX113_0 HXp21 hf18_0 hx113_0 hx114_0 hx115_0 hx18_0 hHeld ⊢
     refine pu 0 (some 25) (ba 15 1) HT_ (h:=?_)
     refine pu 1 (some 26) (ba 15 3) HT_ (h:=?_)
     refine pu 2 (some 27) (ba 15 7) HT_ (h:=?_)
     refine pu 4 (some 29) (ba 15 23) HT_ (h:=?_)
     refine pu 7 (some 32) (ba 15 151) HT_ (h:=?_)
     refine pu 8 (some 33) (ba 15 407) HT_ (h:=?_)
     refine pu 9 (some 34) (ba 15 919) HT_ (h:=?_)
     refine pu 10 (some 35) (ba 15 1943) HT_ (h:=?_)
     refine ta 3 (some 28) (ba 15 1951) HT_ HW_ hHeld (hy:=Or.inl ⟨by rfl,by rintro w' ⟨s0,s1,s2⟩;go_simp;with_reducible rfl⟩) (h:=?_)
     refine pu 5 (some 30) (ba 15 1983) HT_ (h:=?_)
     refine ta 6 (some 31) (ba 15 2047) HT_ HW_ hHeld (hy:=Or.inl ⟨by rfl,by rintro w' ⟨s0,s1,s2⟩;go_simp;with_reducible rfl⟩) (h:=?_)
     refine ta 11 (some 36) (ba 15 4095) HT_ HW_ hHeld (hy:=Or.inl ⟨by rfl,by rintro w' ⟨s0,s1,s2⟩;go_simp;with_reducible rfl⟩) (h:=?_)
     refine pu 12 (some 37) (ba 15 8191) HT_ (h:=?_)
     refine pu 13 (some 38) (ba 15 16383) HT_ (h:=?_)
     refine last_ (i:=14) (N:=none) (ba 15 32767) rfl rfl (one_of HT_.out (by kernel_rfl)) (by decide) (fun K hK=>?_)
     refine skip_ (w1:=?_) (by rfl) rfl ?_ ?_
     rotate_left;· go_simp;rfl
     refine hK.out _ _ ?_
     clear hK K
     refine done_ (done_of HT_.out (by kernel_rfl)) ?_
     try go_wp2
     (try simp only [← hl4_2])
     first|go_roundg k2|(simp only [← hji15];go_roundg k2)
     case measure=>have:=HK1.out;have:=HK2.out;omega
     case rel=>exact ⟨(x3_2),(y118),(wrap64 (x22_2+1)),rs,(by first|exact H'|(rw [hji15];exact H')),⟨by have:=HK1.out;have:=HK2.out;omega⟩,⟨by (try simp only [hl4_2]);(with_reducible repeat (first|apply Kd.R_alloc|apply Kd.R_drewN|apply Kd.R_drew));exact Kd.R_mono (Kd.R_far (p:=⟨go18,(x22_2:Int).toNat,none⟩) (Kd.R_far1 HO_3.out rfl ((HL113_0.out.1 _ rfl).1)) (fun _ hk=>hk.2) (.int .i64 (wrap64 ((rd (rd_L1 x4_2 x22_2) x22_2)+(rd x3_2 (ji15)))))) (fun _ hk=>trivial)⟩,⟨by (try simp only [hl4_2]);(with_reducible repeat (first|apply Kd.S_alloc|apply Kd.S_drewN|apply Kd.S_drew));exact HQ21.out⟩,⟨by repeat (first|(with_reducible first|exact HB.out|apply below_alloc|apply pw_below_drewN|apply below_drew1|refine below_set ?_ GB18.out)|exact HB.out)⟩⟩
/-! ### F219: function 219 -/
def F219.f (a0_0:Int) (l0_1:List (List Int)) (a1:Int):Option (Int × Int):=if 0≤(wrap64 (Int.tdiv a1 2)) then (if (wrap64 (Int.tdiv a1 2)) < (l0_1.length:Int) then (if 0≤(Int.tmod a1 2) then (if (Int.tmod a1 2) < ((rd_L1 l0_1 (wrap64 (Int.tdiv a1 2))).length:Int) then (if 0≤(wrap64 (1 - (Int.tmod a1 2))) then (if (wrap64 (1 - (Int.tmod a1 2))) < ((rd_L1 l0_1 (wrap64 (Int.tdiv a1 2))).length:Int) then (some (rd (rd_L1 l0_1 (wrap64 (Int.tdiv a1 2))) (Int.tmod a1 2),rd (rd_L1 l0_1 (wrap64 (Int.tdiv a1 2))) (wrap64 (1 - (Int.tmod a1 2))))) else (none)) else (none)) else (none)) else (none)) else (none)) else (none)
set_option maxHeartbeats 8000000 in
set_option maxRecDepth 100000 in
theorem F219.calls (a0_0 : Int) (A0_1 : Option Addr) (c0_1 : Nat) (l0_1 : List (List Int)) (a1 : Int) (r1 : Int) (r2 : Int) (w : World) (hr0_1 : Kd.C (Kd.slice 2 (Kd.int .i64)) w A0_1 l0_1.length l0_1) (hc0_1 : l0_1.length ≤ c0_1) (h : F219.f a0_0 l0_1 a1 = some (r1, r2)) :
  Calls Try.prog 219 #[.agg #[.int .i64 a0_0,.slice A0_1 l0_1.length c0_1],.int .i64 a1] w fun e w'=>e=.returned (.tuple #[.int .i64 r1,.int .i64 r2])∧Below w.heap.size w w':=by
 have hu31:=Try.underlying31
 have HR0_1:=Aside0.mk hr0_1
 have HC0_1:=Aside0.mk hc0_1
 clear hr0_1 hc0_1
 have HB:=Aside0.mk (Below.refl w.heap.size w)
 have H:(if 0≤(wrap64 (Int.tdiv a1 2)) then (if (wrap64 (Int.tdiv a1 2)) < (l0_1.length:Int) then (if 0≤(Int.tmod a1 2) then (if (Int.tmod a1 2) < ((rd_L1 l0_1 (wrap64 (Int.tdiv a1 2))).length:Int) then (if 0≤(wrap64 (1 - (Int.tmod a1 2))) then (if (wrap64 (1 - (Int.tmod a1 2))) < ((rd_L1 l0_1 (wrap64 (Int.tdiv a1 2))).length:Int) then (some (rd (rd_L1 l0_1 (wrap64 (Int.tdiv a1 2))) (Int.tmod a1 2),rd (rd_L1 l0_1 (wrap64 (Int.tdiv a1 2))) (wrap64 (1 - (Int.tmod a1 2))))) else (none)) else (none)) else (none)) else (none)) else (none)) else (none))=some (r1,r2):=h
 clear h
 obtain ⟨ji3,hji3⟩:∃ j_:Int,(wrap64 (Int.tdiv a1 2))=j_:=⟨_,rfl⟩
 replace H:(if 0≤(ji3) then (if (ji3) < (l0_1.length:Int) then (if 0≤(Int.tmod a1 2) then (if (Int.tmod a1 2) < ((rd_L1 l0_1 (ji3)).length:Int) then (if 0≤(wrap64 (1 - (Int.tmod a1 2))) then (if (wrap64 (1 - (Int.tmod a1 2))) < ((rd_L1 l0_1 (ji3)).length:Int) then (some (rd (rd_L1 l0_1 (ji3)) (Int.tmod a1 2),rd (rd_L1 l0_1 (ji3)) (wrap64 (1 - (Int.tmod a1 2))))) else (none)) else (none)) else (none)) else (none)) else (none)) else (none))=some (r1,r2):=by first|(rw [hji3] at H;exact H)|(simp only [hji3] at H ⊢;exact H)
 have hji3w:(IntKind.i64.wrap (Int.tdiv a1 2))=ji3:=(i64_w _).trans hji3
 replace H:=iS H;obtain ⟨c4,H⟩:=H
 have c4b0:=decide_eq_true c4
 clear c4
 replace H:=iS H;obtain ⟨c5,H⟩:=H
 have c5b0:=decide_eq_true c5
 clear c5
 obtain ⟨ji6,hji6⟩:∃ j_:Int,(Int.tmod a1 2)=j_:=⟨_,rfl⟩
 replace H:(if 0≤(ji6) then (if (ji6) < ((rd_L1 l0_1 (ji3)).length:Int) then (if 0≤(wrap64 (1 - (ji6))) then (if (wrap64 (1 - (ji6))) < ((rd_L1 l0_1 (ji3)).length:Int) then (some (rd (rd_L1 l0_1 (ji3)) (ji6),rd (rd_L1 l0_1 (ji3)) (wrap64 (1 - (ji6))))) else (none)) else (none)) else (none)) else (none))=some (r1,r2):=by first|(rw [hji6] at H;exact H)|(simp only [hji6] at H ⊢;exact H)
 replace H:=iS H;obtain ⟨c7,H⟩:=H
 have c7b0:=decide_eq_true c7
 clear c7
 replace H:=iS H;obtain ⟨c8,H⟩:=H
 have c8b0:=decide_eq_true c8
 clear c8
 obtain ⟨ji9,hji9⟩:∃ j_:Int,(wrap64 (1 - (ji6)))=j_:=⟨_,rfl⟩
 replace H:(if 0≤(ji9) then (if (ji9) < ((rd_L1 l0_1 (ji3)).length:Int) then (some (rd (rd_L1 l0_1 (ji3)) (ji6),rd (rd_L1 l0_1 (ji3)) (ji9))) else (none)) else (none))=some (r1,r2):=by first|(rw [hji9] at H;exact H)|(simp only [hji9] at H ⊢;exact H)
 have hji9w:(IntKind.i64.wrap (1 - (ji6)))=ji9:=(i64_w _).trans hji9
 replace H:=iS H;obtain ⟨c10,H⟩:=H
 have c10b0:=decide_eq_true c10
 clear c10
 replace H:=iS H;obtain ⟨c11,H⟩:=H
 have c11b0:=decide_eq_true c11
 clear c11
 simp only [Option.some.injEq,Prod.mk.injEq] at H
 obtain ⟨rfl,rfl⟩:=H
 go_enter Try.func219,Try.ntmps219
 go_wp2_with (first|((with_reducible refine gate_dst (N:=2) rfl ?_);refine box_event ?hg (N:=2) ?hd (cs:=#[.int .i64 a0_0,.slice A0_1 l0_1.length c0_1]) (t:=31) ?hr ?_;(case hd=>rfl);(case hg=>rfl);(case hr=>first|(go_simp;done)|(go_simp;rfl));intro gb101 hg w12 hbox hb;have BK101:=Aside0.mk (hbox);have GW101:=Aside0.mk ((by rw [hg];exact (below_size bl):w.heap.size≤gb101));have GE101:=Aside0.mk ((by rw [hg];exact (below_size bl):w.heap.size≤gb101));replace HB:=Aside0.mk (below_step bl hb);clear hb hbox hg;have hcz13_0:w12.cell? ⟨gb101,0,none⟩=some (.int .i64 a0_0):=(blk_cell BK101.out 0).trans rfl;have hcz13_1:w12.cell? ⟨gb101,1,none⟩=some (.slice A0_1 l0_1.length c0_1):=(blk_cell BK101.out 1).trans rfl;have hfz13_0:=blk_frozen BK101.out 0;have hfz13_1:=blk_frozen BK101.out 1;have p102:0≤((ji3):Int):=oD;have q102:(ji3) < (l0_1.length:Int):=oD;obtain ⟨ad102,A102_0,c102_0,e102,hx102_0,hl102_0,hi102_0⟩:=at_L1 HR0_1.out (ji3) p102 q102;cases e102;replace hx102_0:=hbc HB hx102_0;have HR102_0:=Aside0.mk hi102_0;have HC102_0:=Aside0.mk hl102_0;clear hi102_0 hl102_0;replace p102:=eq_true p102;replace q102:=eq_true q102;have p103:0≤((ji6):Int):=oD;have q103:(ji6) < ((rd_L1 l0_1 (ji3)).length:Int):=oD;obtain ⟨ad103,e103,hx103_0⟩:=Kd.at_int HR102_0.out (ji6) p103 q103;cases e103;replace hx103_0:=hbc HB hx103_0;replace p103:=eq_true p103;replace q103:=eq_true q103;have p104:0≤((ji9):Int):=oD;have q104:(ji9) < ((rd_L1 l0_1 (ji3)).length:Int):=oD;obtain ⟨ad104,e104,hx104_0⟩:=Kd.at_int HR102_0.out (ji9) p104 q104;obtain rfl:ad103=ad104:=(by injection e104);replace hx104_0:=hbc HB hx104_0;replace p104:=eq_true p104;replace q104:=eq_true q104))
 repeat (go_quiet (first|((with_reducible refine gate_dst (N:=2) rfl ?_);refine box_event ?hg (N:=2) ?hd (cs:=#[.int .i64 a0_0,.slice A0_1 l0_1.length c0_1]) (t:=31) ?hr ?_;(case hd=>rfl);(case hg=>rfl);(case hr=>first|(go_simp;done)|(go_simp;rfl));intro gb101 hg w12 hbox hb;have BK101:=Aside0.mk (hbox);have GW101:=Aside0.mk ((by rw [hg];exact (below_size bl):w.heap.size≤gb101));have GE101:=Aside0.mk ((by rw [hg];exact (below_size bl):w.heap.size≤gb101));replace HB:=Aside0.mk (below_step bl hb);clear hb hbox hg;have hcz13_0:w12.cell? ⟨gb101,0,none⟩=some (.int .i64 a0_0):=(blk_cell BK101.out 0).trans rfl;have hcz13_1:w12.cell? ⟨gb101,1,none⟩=some (.slice A0_1 l0_1.length c0_1):=(blk_cell BK101.out 1).trans rfl;have hfz13_0:=blk_frozen BK101.out 0;have hfz13_1:=blk_frozen BK101.out 1;have p102:0≤((ji3):Int):=oD;have q102:(ji3) < (l0_1.length:Int):=oD;obtain ⟨ad102,A102_0,c102_0,e102,hx102_0,hl102_0,hi102_0⟩:=at_L1 HR0_1.out (ji3) p102 q102;cases e102;replace hx102_0:=hbc HB hx102_0;have HR102_0:=Aside0.mk hi102_0;have HC102_0:=Aside0.mk hl102_0;clear hi102_0 hl102_0;replace p102:=eq_true p102;replace q102:=eq_true q102;have p103:0≤((ji6):Int):=oD;have q103:(ji6) < ((rd_L1 l0_1 (ji3)).length:Int):=oD;obtain ⟨ad103,e103,hx103_0⟩:=Kd.at_int HR102_0.out (ji6) p103 q103;cases e103;replace hx103_0:=hbc HB hx103_0;replace p103:=eq_true p103;replace q103:=eq_true q103;have p104:0≤((ji9):Int):=oD;have q104:(ji9) < ((rd_L1 l0_1 (ji3)).length:Int):=oD;obtain ⟨ad104,e104,hx104_0⟩:=Kd.at_int HR102_0.out (ji9) p104 q104;obtain rfl:ad103=ad104:=(by injection e104);replace hx104_0:=hbc HB hx104_0;replace p104:=eq_true p104;replace q104:=eq_true q104));try go_wp2_with (first|((with_reducible refine gate_dst (N:=2) rfl ?_);refine box_event ?hg (N:=2) ?hd (cs:=#[.int .i64 a0_0,.slice A0_1 l0_1.length c0_1]) (t:=31) ?hr ?_;(case hd=>rfl);(case hg=>rfl);(case hr=>first|(go_simp;done)|(go_simp;rfl));intro gb101 hg w12 hbox hb;have BK101:=Aside0.mk (hbox);have GW101:=Aside0.mk ((by rw [hg];exact (below_size bl):w.heap.size≤gb101));have GE101:=Aside0.mk ((by rw [hg];exact (below_size bl):w.heap.size≤gb101));replace HB:=Aside0.mk (below_step bl hb);clear hb hbox hg;have hcz13_0:w12.cell? ⟨gb101,0,none⟩=some (.int .i64 a0_0):=(blk_cell BK101.out 0).trans rfl;have hcz13_1:w12.cell? ⟨gb101,1,none⟩=some (.slice A0_1 l0_1.length c0_1):=(blk_cell BK101.out 1).trans rfl;have hfz13_0:=blk_frozen BK101.out 0;have hfz13_1:=blk_frozen BK101.out 1;have p102:0≤((ji3):Int):=oD;have q102:(ji3) < (l0_1.length:Int):=oD;obtain ⟨ad102,A102_0,c102_0,e102,hx102_0,hl102_0,hi102_0⟩:=at_L1 HR0_1.out (ji3) p102 q102;cases e102;replace hx102_0:=hbc HB hx102_0;have HR102_0:=Aside0.mk hi102_0;have HC102_0:=Aside0.mk hl102_0;clear hi102_0 hl102_0;replace p102:=eq_true p102;replace q102:=eq_true q102;have p103:0≤((ji6):Int):=oD;have q103:(ji6) < ((rd_L1 l0_1 (ji3)).length:Int):=oD;obtain ⟨ad103,e103,hx103_0⟩:=Kd.at_int HR102_0.out (ji6) p103 q103;cases e103;replace hx103_0:=hbc HB hx103_0;replace p103:=eq_true p103;replace q103:=eq_true q103;have p104:0≤((ji9):Int):=oD;have q104:(ji9) < ((rd_L1 l0_1 (ji3)).length:Int):=oD;obtain ⟨ad104,e104,hx104_0⟩:=Kd.at_int HR102_0.out (ji9) p104 q104;obtain rfl:ad103=ad104:=(by injection e104);replace hx104_0:=hbc HB hx104_0;replace p104:=eq_true p104;replace q104:=eq_true q104)))
 go_ret2
 exact ⟨by first|rfl|(simp [errW_none,errW_some]<;>rfl)|(simp only [← hji3,← hji6,← hji9];first|rfl|(simp [errW_none,errW_some]<;>rfl))|(simp [*,errW_none,errW_some]<;>rfl),bl⟩
/-! ### F170: function 170 -/
mutual
def F170.l0 : Nat → List (List Int) → Int → Int → Int → List (List Int) → Option ((List (List Int)))
 | 0,_,_,_,_,_=>none
 | k+1,x3,x16,x17,x102000,x102001=>if x17 < x16 then ((F219.f x102000 x102001 x17).bind fun bt107=>((F163.f x102000 x102001).bind fun t109=>(F170.l1 k x3 x17 bt107.2 x16 x17 (wrap64 (2 * t109)) 0 x102000 x102001))) else (some x3)
def F170.l1 : Nat → List (List Int) → Int → Int → Int → Int → Int → Int → Int → List (List Int) → Option ((List (List Int)))
 | 0,_,_,_,_,_,_,_,_,_=>none
 | k+1,x3,x4,x6,x16,x17,x28,x29,x102000,x102001=>if x29 < x28 then ((F219.f x102000 x102001 x29).bind fun bt110=>(if bt110.1=x6 then (if x29=(Go.bits .xor .i64 x4 1) then (F170.l1 k x3 x4 x6 x16 x17 x28 (wrap64 (x29+1)) x102000 x102001) else (if 0≤x4 then (if x4 < (x3.length:Int) then (if 0≤x29 then (if x29 < ((rd_L1 x3 x4).length:Int) then (F170.l1 k (x3.set (x4:Int).toNat ((rd_L1 x3 x4).set (x29:Int).toNat 1)) x4 x6 x16 x17 x28 (wrap64 (x29+1)) x102000 x102001) else (none)) else (none)) else (none)) else (none))) else (F170.l1 k x3 x4 x6 x16 x17 x28 (wrap64 (x29+1)) x102000 x102001))) else (F170.l0 k x3 x16 (wrap64 (x17+1)) x102000 x102001)
end
def F170.f (k:Nat) (a0_0:Int) (l0_1:List (List Int)):Option ((List (List Int))):=(F163.f a0_0 l0_1).bind fun t102=>((F204.f k (wrap64 (2 * t102))).bind fun t103=>((F163.f a0_0 l0_1).bind fun t106=>(F170.l0 k t103 (wrap64 (2 * t106)) 0 a0_0 l0_1)))
theorem F170.mono_l : ∀ k, (∀ y0 y1 y2 y3 y4, LeO (F170.l0 k y0 y1 y2 y3 y4) (F170.l0 (k + 1) y0 y1 y2 y3 y4)) ∧ (∀ y0 y1 y2 y3 y4 y5 y6 y7 y8, LeO (F170.l1 k y0 y1 y2 y3 y4 y5 y6 y7 y8) (F170.l1 (k + 1) y0 y1 y2 y3 y4 y5 y6 y7 y8))
 | 0=>⟨fun _ _ _ _ _ r h=>by simp [F170.l0] at h,fun _ _ _ _ _ _ _ _ _ r h=>by simp [F170.l1] at h⟩
 | k+1=>by
  obtain ⟨ih0,ih1⟩:=F170.mono_l k
  refine ⟨?_, ?_⟩ <;> intros <;> (first | unfold F170.l0 | unfold F170.l1) <;> repeat' first
   | (with_reducible first|exact ih0 _ _ _ _ _|exact ih1 _ _ _ _ _ _ _ _ _|exact F204.mono _ _|exact LeO.refl _|exact LeO.none _|refine LeO.ite ?_ ?_|refine LeO.bind ?_ (fun _=>?_))
   | exact ih0 _ _ _ _ _|exact ih1 _ _ _ _ _ _ _ _ _|exact F204.mono _ _|exact LeO.none _|refine LeO.ite ?_ ?_|refine LeO.bind ?_ (fun _=>?_)
theorem F170.mono:∀ a0 a1 k,LeO (F170.f k a0 a1) (F170.f (k+1) a0 a1):=by
 intro a0 a1 k
 obtain ⟨ih0,ih1⟩:=F170.mono_l k
 unfold F170.f
 repeat' first
  | (with_reducible first|exact ih0 _ _ _ _ _|exact ih1 _ _ _ _ _ _ _ _ _|exact F204.mono _ _|exact LeO.refl _|exact LeO.none _|refine LeO.ite ?_ ?_|refine LeO.bind ?_ (fun _=>?_))
  | exact ih0 _ _ _ _ _|exact ih1 _ _ _ _ _ _ _ _ _|exact F204.mono _ _|exact LeO.none _|refine LeO.ite ?_ ?_|refine LeO.bind ?_ (fun _=>?_)
set_option maxHeartbeats 8000000 in
set_option maxRecDepth 100000 in
theorem F170.calls (k : Nat) (a0_0 : Int) (A0_1 : Option Addr) (c0_1 : Nat) (l0_1 : List (List Int)) (r : List (List Int)) (w : World) (hr0_1 : Kd.C (Kd.slice 2 (Kd.int .i64)) w A0_1 l0_1.length l0_1) (hc0_1 : l0_1.length ≤ c0_1) (h : F170.f k a0_0 l0_1 = some r) :
  Calls Try.prog 170 #[.agg #[.int .i64 a0_0,.slice A0_1 l0_1.length c0_1]] w fun e w'=>∃ v0_:Value,e=.returned (v0_)∧Kd.S (Kd.slice 2 (Kd.int .i64)) 28 w' w.heap.size (fun _=>True) v0_ r∧Below w.heap.size w w':=by
 have hu31:=Try.underlying31
 have HR0_1:=Aside0.mk hr0_1
 have HC0_1:=Aside0.mk hc0_1
 clear hr0_1 hc0_1
 have HB:=Aside0.mk (Below.refl w.heap.size w)
 have H:((F163.f a0_0 l0_1).bind fun t102=>((F204.f k (wrap64 (2 * t102))).bind fun t103=>((F163.f a0_0 l0_1).bind fun t106=>(F170.l0 k t103 (wrap64 (2 * t106)) 0 a0_0 l0_1))))=some r:=h
 clear h
 replace H:=Option.bind_eq_some_iff.mp H
 obtain ⟨t102,A20,H⟩:=H
 replace H:((F204.f k (wrap64 (2 * t102))).bind fun t103=>((F163.f a0_0 l0_1).bind fun t106=>(F170.l0 k t103 (wrap64 (2 * t106)) 0 a0_0 l0_1)))=some r:=H
 have A2:=Aside0.mk A20
 clear A20
 replace H:=Option.bind_eq_some_iff.mp H
 obtain ⟨t103,A30,H⟩:=H
 replace H:((F163.f a0_0 l0_1).bind fun t106=>(F170.l0 k t103 (wrap64 (2 * t106)) 0 a0_0 l0_1))=some r:=H
 have A3:=Aside0.mk A30
 clear A30
 replace H:=Option.bind_eq_some_iff.mp H
 obtain ⟨t106,A40,H⟩:=H
 replace H:(F170.l0 k t103 (wrap64 (2 * t106)) 0 a0_0 l0_1)=some r:=H
 have A4:=Aside0.mk A40
 clear A40
 have H':=Aside0.mk H
 clear H
 go_enter Try.func170,Try.ntmps170
 go_wp2_with (first|((with_reducible refine gate_dst (N:=1) rfl ?_);refine box_event ?hg (N:=1) ?hd (cs:=#[.int .i64 a0_0,.slice A0_1 l0_1.length c0_1]) (t:=31) ?hr ?_;(case hd=>rfl);(case hg=>rfl);(case hr=>first|(go_simp;done)|(go_simp;rfl));intro gb101 hg w5 hbox hb;have BK101:=Aside0.mk (hbox);have GW101:=Aside0.mk ((by rw [hg];exact (below_size bl):w.heap.size≤gb101));have GE101:=Aside0.mk ((by rw [hg];exact (below_size bl):w.heap.size≤gb101));replace HB:=Aside0.mk (below_step bl hb);clear hb hbox hg;have hcz6_0:w5.cell? ⟨gb101,0,none⟩=some (.int .i64 a0_0):=(blk_cell BK101.out 0).trans rfl;have hcz6_1:w5.cell? ⟨gb101,1,none⟩=some (.slice A0_1 l0_1.length c0_1):=(blk_cell BK101.out 1).trans rfl;have hfz6_0:=blk_frozen BK101.out 0;have hfz6_1:=blk_frozen BK101.out 1)|((with_reducible refine gate_callee (f:=163) rfl ?_);refine goesL_ (some 11) rfl rfl Try.func163 (by kernel_rfl) rfl #[.agg #[.int .i64 a0_0,.slice A0_1 l0_1.length c0_1]] rfl gm ?_;(with_reducible refine (F163.calls a0_0 _ _ l0_1 t102 _ ?side1 ?side2 A2.out).mono ?_);(case side1=>exact aC (Kd.C_below HR0_1.out HB.out));(case side2=>exact HC0_1.out);rintro e w7 ⟨rfl,hb⟩;refine ⟨_,rfl,?_⟩;replace BK101:=Aside0.mk (blk_below (g:=gb101) (o:=.cells #[.int .i64 a0_0,.slice A0_1 l0_1.length c0_1] 31 (0,0)) bk hb);replace HB:=Aside0.mk (below_step bl hb);(try clear hb);(try clear hb2);(try clear hk);(try clear hi))|((with_reducible refine gate_callee (f:=204) rfl ?_);refine goesL_ (some 13) rfl rfl Try.func204 (by kernel_rfl) rfl #[.int .i64 (wrap64 (2 * t102))] rfl gm ?_;(with_reducible refine (F204.calls k (wrap64 (2 * t102)) t103 _ A3.out).mono ?_);rintro e w8 ⟨v104,rfl,ho0,hb⟩;refine ⟨_,rfl,?_⟩;have HO105:=Aside0.mk (Kd.S_lower ho0 (below_size bl));replace BK101:=Aside0.mk (blk_below (g:=gb101) (o:=.cells #[.int .i64 a0_0,.slice A0_1 l0_1.length c0_1] 31 (0,0)) bk hb);replace HB:=Aside0.mk (below_step bl hb);(try clear hb);(try clear hb2);(try clear hk);(try clear hi);(try clear ho0);have hcz9_0:w8.cell? ⟨gb101,0,none⟩=some (.int .i64 a0_0):=(blk_cell BK101.out 0).trans rfl;have hcz9_1:w8.cell? ⟨gb101,1,none⟩=some (.slice A0_1 l0_1.length c0_1):=(blk_cell BK101.out 1).trans rfl;have hfz9_0:=blk_frozen BK101.out 0;have hfz9_1:=blk_frozen BK101.out 1)|((with_reducible refine gate_callee (f:=163) rfl ?_);refine goesL_ (some 15) rfl rfl Try.func163 (by kernel_rfl) rfl #[.agg #[.int .i64 a0_0,.slice A0_1 l0_1.length c0_1]] rfl gm ?_;(with_reducible refine (F163.calls a0_0 _ _ l0_1 t106 _ ?side1 ?side2 A4.out).mono ?_);(case side1=>exact aC (Kd.C_below HR0_1.out HB.out));(case side2=>exact HC0_1.out);rintro e w10 ⟨rfl,hb⟩;refine ⟨_,rfl,?_⟩;replace HO105:=Aside0.mk (Kd.S_below (aS HO105.out) hb);replace BK101:=Aside0.mk (blk_below (g:=gb101) (o:=.cells #[.int .i64 a0_0,.slice A0_1 l0_1.length c0_1] 31 (0,0)) bk hb);replace HB:=Aside0.mk (below_step bl hb);(try clear hb);(try clear hb2);(try clear hk);(try clear hi)))
 go_loopg [17] k (fun kq v17 w'=>∃ (x3_1:List (List Int)) (x17_1:Int),v17=.int .i64 x17_1∧Aside0 (F170.l0 kq x3_1 (wrap64 (2 * t106)) x17_1 a0_0 l0_1=some r)∧Aside0 (kq≤k)∧Aside0 (Kd.S (Kd.slice 2 (Kd.int .i64)) 28 w' w.heap.size (fun _=>True) v104 x3_1)∧Aside0 (w'.heap[gb101]?=some (.cells #[.int .i64 a0_0,(.slice A0_1 l0_1.length c0_1)] 31 (0,0)))∧Aside0 (Below w.heap.size w w'))
 case atStart=>exact ⟨(t103),(0),rs,H',⟨Nat.le_refl _⟩,⟨by (with_reducible repeat (first|apply Kd.S_alloc|apply Kd.S_drewN|apply Kd.S_drew));exact HO105.out⟩,⟨bk⟩,⟨bl⟩⟩
 case round =>
  clear H'
  (try clear c1);(try clear c2);(try clear p2);(try clear p6);(try clear hcz6_0);(try clear hcz6_1);(try clear hcz9_0);(try clear hcz9_1);(try clear hfz6_0);(try clear hfz6_1);(try clear hfz9_0);(try clear hfz9_1)
  obtain ⟨x3_1,x17_1,rfl,HA,HK1,HO_3,BK101,HB⟩:=hrel
  cases gk with
  | zero=>exact absurd HA.out (by simp [F170.l0])
  | succ k1 =>
   have H:=HA.out
   clear HA
   simp only [F170.l0] at H
   by_cases c11:x17_1 < (wrap64 (2 * t106))
   case neg =>
    rw [if_neg c11] at H
    have c11b0:decide (x17_1 < (wrap64 (2 * t106)))=false:=decide_eq_false c11
    clear c11
    obtain rfl:=Option.some.inj H
    go_wp2
    go_ret
    exact ⟨_,by first|rfl|(simp [errW_none,errW_some]<;>rfl)|(simp [*,errW_none,errW_some]<;>rfl),by (with_reducible repeat (first|apply Kd.S_alloc|apply Kd.S_drewN|apply Kd.S_drew));exact HO_3.out,bl⟩
   rw [if_pos c11] at H
   have c11b0:=decide_eq_true c11
   clear c11
   replace H:=Option.bind_eq_some_iff.mp H
   obtain ⟨⟨t107,t108⟩,A120,H⟩:=H
   replace H:((F163.f a0_0 l0_1).bind fun t109=>(F170.l1 k1 x3_1 x17_1 t108 (wrap64 (2 * t106)) x17_1 (wrap64 (2 * t109)) 0 a0_0 l0_1))=some r:=H
   have A12:=Aside0.mk A120
   clear A120
   replace H:=Option.bind_eq_some_iff.mp H
   obtain ⟨t109,A130,H⟩:=H
   replace H:(F170.l1 k1 x3_1 x17_1 t108 (wrap64 (2 * t106)) x17_1 (wrap64 (2 * t109)) 0 a0_0 l0_1)=some r:=H
   have A13:=Aside0.mk A130
   clear A130
   have H':=Aside0.mk H
   clear H
   have hcz14_0:wr.cell? ⟨gb101,0,none⟩=some (.int .i64 a0_0):=(blk_cell BK101.out 0).trans rfl
   have hcz14_1:wr.cell? ⟨gb101,1,none⟩=some (.slice A0_1 l0_1.length c0_1):=(blk_cell BK101.out 1).trans rfl
   have hfz14_0:=blk_frozen BK101.out 0
   have hfz14_1:=blk_frozen BK101.out 1
   go_wp2_with (first|((with_reducible refine gate_callee (f:=219) rfl ?_);refine goesL_ (some 23) rfl rfl Try.func219 (by kernel_rfl) rfl #[.agg #[.int .i64 a0_0,.slice A0_1 l0_1.length c0_1],.int .i64 x17_1] rfl gm ?_;(with_reducible refine (F219.calls a0_0 _ _ l0_1 x17_1 t107 t108 _ ?side1 ?side2 A12.out).mono ?_);(case side1=>exact aC (Kd.C_below HR0_1.out HB.out));(case side2=>exact HC0_1.out);rintro e w15 ⟨rfl,hb⟩;refine ⟨_,rfl,?_⟩;replace HO_3:=Aside0.mk (Kd.S_below (aS HO_3.out) hb);replace BK101:=Aside0.mk (blk_below (g:=gb101) (o:=.cells #[.int .i64 a0_0,.slice A0_1 l0_1.length c0_1] 31 (0,0)) bk hb);replace HB:=Aside0.mk (below_step bl hb);(try clear hb);(try clear hb2);(try clear hk);(try clear hi);have hcz16_0:w15.cell? ⟨gb101,0,none⟩=some (.int .i64 a0_0):=(blk_cell BK101.out 0).trans rfl;have hcz16_1:w15.cell? ⟨gb101,1,none⟩=some (.slice A0_1 l0_1.length c0_1):=(blk_cell BK101.out 1).trans rfl;have hfz16_0:=blk_frozen BK101.out 0;have hfz16_1:=blk_frozen BK101.out 1)|((with_reducible refine gate_callee (f:=163) rfl ?_);refine goesL_ (some 27) rfl rfl Try.func163 (by kernel_rfl) rfl #[.agg #[.int .i64 a0_0,.slice A0_1 l0_1.length c0_1]] rfl gm ?_;(with_reducible refine (F163.calls a0_0 _ _ l0_1 t109 _ ?side1 ?side2 A13.out).mono ?_);(case side1=>exact aC (Kd.C_below HR0_1.out HB.out));(case side2=>exact HC0_1.out);rintro e w17 ⟨rfl,hb⟩;refine ⟨_,rfl,?_⟩;replace HO_3:=Aside0.mk (Kd.S_below (aS HO_3.out) hb);replace BK101:=Aside0.mk (blk_below (g:=gb101) (o:=.cells #[.int .i64 a0_0,.slice A0_1 l0_1.length c0_1] 31 (0,0)) bk hb);replace HB:=Aside0.mk (below_step bl hb);(try clear hb);(try clear hb2);(try clear hk);(try clear hi)))
   go_loopg [29] k1 (fun kq v29 w'=>∃ (x3_2:List (List Int)) (x29_2:Int),v29=.int .i64 x29_2∧Aside0 (F170.l1 kq x3_2 x17_1 t108 (wrap64 (2 * t106)) x17_1 (wrap64 (2 * t109)) x29_2 a0_0 l0_1=some r)∧Aside0 (kq≤k1)∧Aside0 (Kd.S (Kd.slice 2 (Kd.int .i64)) 28 w' w.heap.size (fun _=>True) v104 x3_2)∧Aside0 (w'.heap[gb101]?=some (.cells #[.int .i64 a0_0,(.slice A0_1 l0_1.length c0_1)] 31 (0,0)))∧Aside0 (Below w.heap.size w w'))
   case atStart=>exact ⟨(x3_1),(0),rs,H',⟨Nat.le_refl _⟩,⟨by (with_reducible repeat (first|apply Kd.S_alloc|apply Kd.S_drewN|apply Kd.S_drew));exact HO_3.out⟩,⟨bk⟩,⟨bl⟩⟩
   case round =>
    clear H'
    (try clear c1);(try clear c2);(try clear p2);(try clear p6);(try clear c11);(try clear c11b0);(try clear c16);(try clear c17);(try clear hcz14_0);(try clear hcz14_1);(try clear hcz16_0);(try clear hcz16_1);(try clear hcz6_0);(try clear hcz6_1);(try clear hcz9_0);(try clear hcz9_1);(try clear hfz14_0);(try clear hfz14_1);(try clear hfz16_0);(try clear hfz16_1);(try clear hfz6_0);(try clear hfz6_1);(try clear hfz9_0);(try clear hfz9_1);(try clear p2);(try clear p6)
    obtain ⟨x3_2,x29_2,rfl,HA,HK2,HO_3,BK101,HB⟩:=hrel
    cases gk with
    | zero=>exact absurd HA.out (by simp [F170.l1])
    | succ k2 =>
     have H:=HA.out
     clear HA
     simp only [F170.l1] at H
     by_cases c18:x29_2 < (wrap64 (2 * t109))
     case neg =>
      rw [if_neg c18] at H
      have c18b0:decide (x29_2 < (wrap64 (2 * t109)))=false:=decide_eq_false c18
      clear c18
      have H':=Aside0.mk H
      clear H
      go_wp2
      go_roundg k2
      case measure=>have:=HK1.out;have:=HK2.out;omega
      case rel=>exact ⟨(x3_2),(wrap64 (x17_1+1)),rs,H',⟨by have:=HK1.out;have:=HK2.out;omega⟩,⟨by (with_reducible repeat (first|apply Kd.S_alloc|apply Kd.S_drewN|apply Kd.S_drew));exact HO_3.out⟩,⟨bk⟩,⟨bl⟩⟩
     rw [if_pos c18] at H
     have c18b0:=decide_eq_true c18
     clear c18
     replace H:=Option.bind_eq_some_iff.mp H
     obtain ⟨⟨t110,t111⟩,A190,H⟩:=H
     replace H:(if t110=t108 then (if x29_2=(Go.bits .xor .i64 x17_1 1) then (F170.l1 k2 x3_2 x17_1 t108 (wrap64 (2 * t106)) x17_1 (wrap64 (2 * t109)) (wrap64 (x29_2+1)) a0_0 l0_1) else (if 0≤x17_1 then (if x17_1 < (x3_2.length:Int) then (if 0≤x29_2 then (if x29_2 < ((rd_L1 x3_2 x17_1).length:Int) then (F170.l1 k2 (x3_2.set (x17_1:Int).toNat ((rd_L1 x3_2 x17_1).set (x29_2:Int).toNat 1)) x17_1 t108 (wrap64 (2 * t106)) x17_1 (wrap64 (2 * t109)) (wrap64 (x29_2+1)) a0_0 l0_1) else (none)) else (none)) else (none)) else (none))) else (F170.l1 k2 x3_2 x17_1 t108 (wrap64 (2 * t106)) x17_1 (wrap64 (2 * t109)) (wrap64 (x29_2+1)) a0_0 l0_1))=some r:=H
     have A19:=Aside0.mk A190
     clear A190
     by_cases c20:t110=t108
     case neg =>
      rw [if_neg c20] at H
      have c20b0:(t110 == t108)=false:=beq_eq_false_iff_ne.mpr c20
      have c20b1:(t110 != t108)=true:=bne_iff_ne.mpr c20
      have H':=Aside0.mk H
      clear H
      have hcz34_0:wr.cell? ⟨gb101,0,none⟩=some (.int .i64 a0_0):=(blk_cell BK101.out 0).trans rfl
      have hcz34_1:wr.cell? ⟨gb101,1,none⟩=some (.slice A0_1 l0_1.length c0_1):=(blk_cell BK101.out 1).trans rfl
      have hfz34_0:=blk_frozen BK101.out 0
      have hfz34_1:=blk_frozen BK101.out 1
      go_wp2_with (first|((with_reducible refine gate_callee (f:=219) rfl ?_);refine goesL_ (some 35) rfl rfl Try.func219 (by kernel_rfl) rfl #[.agg #[.int .i64 a0_0,.slice A0_1 l0_1.length c0_1],.int .i64 x29_2] rfl gm ?_;(with_reducible refine (F219.calls a0_0 _ _ l0_1 x29_2 t110 t111 _ ?side1 ?side2 A19.out).mono ?_);(case side1=>exact aC (Kd.C_below HR0_1.out HB.out));(case side2=>exact HC0_1.out);rintro e w35 ⟨rfl,hb⟩;refine ⟨_,rfl,?_⟩;replace HO_3:=Aside0.mk (Kd.S_below (aS HO_3.out) hb);replace BK101:=Aside0.mk (blk_below (g:=gb101) (o:=.cells #[.int .i64 a0_0,.slice A0_1 l0_1.length c0_1] 31 (0,0)) bk hb);replace HB:=Aside0.mk (below_step bl hb);(try clear hb);(try clear hb2);(try clear hk);(try clear hi)))
      go_roundg k2
      case measure=>have:=HK1.out;have:=HK2.out;omega
      case rel=>exact ⟨(x3_2),(wrap64 (x29_2+1)),rs,H',⟨by have:=HK1.out;have:=HK2.out;omega⟩,⟨by (with_reducible repeat (first|apply Kd.S_alloc|apply Kd.S_drewN|apply Kd.S_drew));exact HO_3.out⟩,⟨bk⟩,⟨bl⟩⟩
     rw [if_pos c20] at H
     have c20b0:(t110 == t108)=true:=beq_iff_eq.mpr c20
     have c20b1:(t110 != t108)=false:=bne_eq_false_iff_eq.mpr c20
     clear c20
     by_cases c21:x29_2=(Go.bits .xor .i64 x17_1 1)
     case neg =>
      rw [if_neg c21] at H
      have c21b0:(x29_2 == (Go.bits .xor .i64 x17_1 1))=false:=beq_eq_false_iff_ne.mpr c21
      have c21b1:(x29_2 != (Go.bits .xor .i64 x17_1 1))=true:=bne_iff_ne.mpr c21
      replace H:=iS H;obtain ⟨c24,H⟩:=H
      have c24b0:=decide_eq_true c24
      clear c24
      replace H:=iS H;obtain ⟨c25,H⟩:=H
      have c25b0:=decide_eq_true c25
      clear c25
      replace H:=iS H;obtain ⟨c26,H⟩:=H
      have c26b0:=decide_eq_true c26
      clear c26
      replace H:=iS H;obtain ⟨c27,H⟩:=H
      have c27b0:=decide_eq_true c27
      clear c27
      obtain ⟨y113,hy113⟩:∃ y_:List Int,y_=((rd_L1 x3_2 x17_1).set (x29_2:Int).toNat 1):=⟨_,rfl⟩
      replace H:(F170.l1 k2 (x3_2.set (x17_1:Int).toNat y113) x17_1 t108 (wrap64 (2 * t106)) x17_1 (wrap64 (2 * t109)) (wrap64 (x29_2+1)) a0_0 l0_1)=some r:=by first|(rw [hy113];with_reducible exact H)|(have H2_:=(Option.bind_some _ _).symm.trans H;rw [hy113];with_reducible exact H2_)|(have H2_:=(Option.bind_some _ _).symm.trans H;with_reducible exact H2_)|with_reducible exact H|(rw [hy113];exact H)|exact H
      have Ny113:=Aside0.mk hy113
      clear hy113
      obtain ⟨y115,hy115⟩:∃ y_:List (List Int),y_=(x3_2.set (x17_1:Int).toNat y113):=⟨_,rfl⟩
      replace H:(F170.l1 k2 y115 x17_1 t108 (wrap64 (2 * t106)) x17_1 (wrap64 (2 * t109)) (wrap64 (x29_2+1)) a0_0 l0_1)=some r:=by first|(rw [hy115];with_reducible exact H)|(have H2_:=(Option.bind_some _ _).symm.trans H;rw [hy115];with_reducible exact H2_)|(have H2_:=(Option.bind_some _ _).symm.trans H;with_reducible exact H2_)|with_reducible exact H|(rw [hy115];exact H)|exact H
      have Ny115:=Aside0.mk hy115
      clear hy115
      have H':=Aside0.mk H
      clear H
      have hcz29_0:wr.cell? ⟨gb101,0,none⟩=some (.int .i64 a0_0):=(blk_cell BK101.out 0).trans rfl
      have hcz29_1:wr.cell? ⟨gb101,1,none⟩=some (.slice A0_1 l0_1.length c0_1):=(blk_cell BK101.out 1).trans rfl
      have hfz29_0:=blk_frozen BK101.out 0
      have hfz29_1:=blk_frozen BK101.out 1
      go_wp2_with (first|((with_reducible refine gate_callee (f:=219) rfl ?_);refine goesL_ (some 35) rfl rfl Try.func219 (by kernel_rfl) rfl #[.agg #[.int .i64 a0_0,.slice A0_1 l0_1.length c0_1],.int .i64 x29_2] rfl gm ?_;(with_reducible refine (F219.calls a0_0 _ _ l0_1 x29_2 t110 t111 _ ?side1 ?side2 A19.out).mono ?_);(case side1=>exact aC (Kd.C_below HR0_1.out HB.out));(case side2=>exact HC0_1.out);rintro e w30 ⟨rfl,hb⟩;refine ⟨_,rfl,?_⟩;replace HO_3:=Aside0.mk (Kd.S_below (aS HO_3.out) hb);replace BK101:=Aside0.mk (blk_below (g:=gb101) (o:=.cells #[.int .i64 a0_0,.slice A0_1 l0_1.length c0_1] 31 (0,0)) bk hb);replace HB:=Aside0.mk (below_step bl hb);(try clear hb);(try clear hb2);(try clear hk);(try clear hi);obtain ⟨Ao31,co31,eo31⟩:=Kd.S_slice HO_3.out;subst eo31;have p112:0≤(x17_1:Int):=oD;have q112:x17_1 < (x3_2.length:Int):=oD;obtain ⟨ad112,A112_0,c112_0,e112,hx112_0,hl112_0,hi112_0⟩:=at_L1 (Kd.S_reads' HO_3.out).2.2 x17_1 p112 q112;cases e112;obtain ⟨ce112,hce112,hMe112,hcc112⟩:=Kd.S_get HO_3.out [] x17_1 p112 (by first|exact q112|exact oD|(have e_:=(Kd.S_reads' HO_3.out).1;omega));obtain ⟨ve112_0,rfl,ge112_0⟩:=hMe112;have hv112_0:=hcc112 0 _ rfl;rw [Nat.add_zero,show ((Kd.slice 2 (Kd.int .i64))).sz=1 from rfl,Nat.mul_one] at hv112_0;replace hv112_0:=Option.some.inj (hv112_0.symm.trans hx112_0);rw [hv112_0] at ge112_0;have HL112_0:=Aside0.mk (show Kd.R (Kd.int .i64) 2 _ _ _ _ (rd_L1 x3_2 x17_1) from ge112_0);clear hv112_0 ge112_0;have HX112_0:=Aside0.mk hx112_0;clear hcc112 hce112;have HR112_0:=Aside0.mk hi112_0;have HC112_0:=Aside0.mk hl112_0;clear hi112_0 hl112_0;replace p112:=eq_true p112;replace q112:=eq_true q112;have p28:0≤(x29_2:Int):=oD;have q28:(x29_2:Int) < (((rd_L1 x3_2 x17_1).length:Int):Int):=oD;obtain ⟨go28,co28,eo28,gb28,gl28,cl28,HG28⟩:=Kd.R_form HL112_0.out (by omega);(first|cases eo28|(injection eo28 with ea_ en_ ec_;(first|subst ea_|(injection ea_ with ea_;subst ea_));subst ec_;clear en_));have GB28:=Aside0.mk gb28;have GG28:=Aside0.mk HG28;clear gb28 gl28 HG28;obtain ⟨hx28_0,hf28_0⟩:=Kd.R_celln 0 HL112_0.out (x29_2:Int) p28 q28;replace p28:=eq_true p28;replace q28:=eq_true q28;have hq32:(x17_1:Int) < (x3_2.length:Int):=(by have h_:(x17_1:Int) < ((x3_2.length:Int):Int):=oD;first|exact h_|(have e_:=(Kd.S_reads' HO_3.out).1;omega)|simpa only [List.length_set,List.length_set] using h_);obtain ⟨oki32,ce32,hcl32,hM32,hcc32,hok32,hbk32⟩:=Kd.S_borrow HO_3.out [] (x17_1:Int) oD (by first|exact hq32|(have e_:=(Kd.S_reads' HO_3.out).1;omega));obtain ⟨ve32_0,rfl,ge32_0⟩:=hM32;have hv32:=hcc32 0 _ rfl;rw [Nat.add_zero,show ((Kd.slice 2 (Kd.int .i64))).sz=1 from rfl,Nat.mul_one] at hv32;replace hv32:=Option.some.inj (hv32.symm.trans HX112_0.out);subst hv32;clear hcc32 hcl32;replace ge32_0:=(show Kd.R (Kd.int .i64) 2 _ _ _ _ (rd_L1 x3_2 x17_1) from ge32_0);have HP32:=Kd.R_putg ge32_0 (x29_2:Int) 1)|((with_reducible refine gate_store (t:=2) (p:=52) rfl ?_);refine store_event (t:=2) (p:=52) (v:=?vo_w33) (w1:=(w30.setCell ⟨go28,(x29_2:Int).toNat,none⟩ (.int .i64 1))) ?hg ?ho ?hn ?hr ?_;(case ho=>rfl);(case hg=>rfl);(case hn=>rfl);(case hr=>first|(go_simp;done)|(go_simp;rfl));intro w33 hw;have hg:w30.grownBy w33 (some go28):=(by rw [hw];exact HP32.2);have hz_:Kd.R (Kd.int .i64) 2 w33 w.heap.size oki32 (.slice (some ⟨go28,0,none⟩) (rd_L1 x3_2 x17_1).length c112_0) y113:=(by rw [hw,Ny113.out];exact HP32.1);have hp_:Kd.S (Kd.slice 2 (Kd.int .i64)) 28 w33 w.heap.size (fun _=>True) (.slice (some ad112) x3_2.length co31) y115:=(by rw [Ny115.out];exact hbk32 hg (fun k_ e_=>by injection e_ with e_;subst e_;exact ge32_0.1 _ rfl) (Kd.M_row hz_));have hm_:=Kd.R_mono hz_ hok32;clear HP32 hbk32;have n0_:=Aside0.mk (hp_);have n1_:=Aside0.mk (blk_grown (g:=gb101) (o:=.cells #[.int .i64 a0_0,.slice A0_1 l0_1.length c0_1] 31 (0,0)) bk hg (Kd.R_ne HL112_0.out BK101.out (by decide)));have n2_:=Aside0.mk (cell_grown hg HX112_0.out (cell_ne (hok32 _ (ge32_0.1 _ rfl)).2));have n3_:=Aside0.mk ((by rw [hw];exact below_set (HB.out) GB28.out:Below w.heap.size w w33));have n4_:=Aside0.mk (hm_);have n5_:=Aside0.mk ((Kd.R_reads' hm_).2.1);clear HO_3;clear BK101;clear HX112_0;clear HB;clear HL112_0;have HO_3:=n0_;have BK101:=n1_;have HX112_0:=n2_;have HB:=n3_;have HL116:=n4_;have HC114:=n5_;clear n0_ n1_ n2_ n3_ n4_ n5_;clear hg hw hp_ hz_ hm_ hok32))
      go_roundg k2
      case measure=>have:=HK1.out;have:=HK2.out;omega
      case rel=>exact ⟨(y115),(wrap64 (x29_2+1)),rs,H',⟨by have:=HK1.out;have:=HK2.out;omega⟩,⟨by (with_reducible repeat (first|apply Kd.S_alloc|apply Kd.S_drewN|apply Kd.S_drew));exact HO_3.out⟩,⟨bk⟩,⟨bl⟩⟩
     rw [if_pos c21] at H
     have c21b0:(x29_2 == (Go.bits .xor .i64 x17_1 1))=true:=beq_iff_eq.mpr c21
     have c21b1:(x29_2 != (Go.bits .xor .i64 x17_1 1))=false:=bne_eq_false_iff_eq.mpr c21
     clear c21
     have H':=Aside0.mk H
     clear H
     have hcz22_0:wr.cell? ⟨gb101,0,none⟩=some (.int .i64 a0_0):=(blk_cell BK101.out 0).trans rfl
     have hcz22_1:wr.cell? ⟨gb101,1,none⟩=some (.slice A0_1 l0_1.length c0_1):=(blk_cell BK101.out 1).trans rfl
     have hfz22_0:=blk_frozen BK101.out 0
     have hfz22_1:=blk_frozen BK101.out 1
     go_wp2_with (first|((with_reducible refine gate_callee (f:=219) rfl ?_);refine goesL_ (some 35) rfl rfl Try.func219 (by kernel_rfl) rfl #[.agg #[.int .i64 a0_0,.slice A0_1 l0_1.length c0_1],.int .i64 x29_2] rfl gm ?_;(with_reducible refine (F219.calls a0_0 _ _ l0_1 x29_2 t110 t111 _ ?side1 ?side2 A19.out).mono ?_);(case side1=>exact aC (Kd.C_below HR0_1.out HB.out));(case side2=>exact HC0_1.out);rintro e w23 ⟨rfl,hb⟩;refine ⟨_,rfl,?_⟩;replace HO_3:=Aside0.mk (Kd.S_below (aS HO_3.out) hb);replace BK101:=Aside0.mk (blk_below (g:=gb101) (o:=.cells #[.int .i64 a0_0,.slice A0_1 l0_1.length c0_1] 31 (0,0)) bk hb);replace HB:=Aside0.mk (below_step bl hb);(try clear hb);(try clear hb2);(try clear hk);(try clear hi)))
     go_roundg k2
     case measure=>have:=HK1.out;have:=HK2.out;omega
     case rel=>exact ⟨(x3_2),(wrap64 (x29_2+1)),rs,H',⟨by have:=HK1.out;have:=HK2.out;omega⟩,⟨by (with_reducible repeat (first|apply Kd.S_alloc|apply Kd.S_drewN|apply Kd.S_drew));exact HO_3.out⟩,⟨bk⟩,⟨bl⟩⟩
/-! ### F86: function 86 -/
def F86.f (k:Nat) (a0_0:Int) (l0_1:List (List Int)):Option (List Int):=(F170.f k a0_0 l0_1).bind fun t102=>((F132.f k t102).bind fun t105=>(some t105))
theorem F86.mono:∀ a0 a1 k,LeO (F86.f k a0 a1) (F86.f (k+1) a0 a1):=by
 intro a0 a1 k
 unfold F86.f
 repeat' first
  | (with_reducible first|exact F170.mono _ _ _|exact F132.mono _ _|exact LeO.refl _|exact LeO.none _|refine LeO.ite ?_ ?_|refine LeO.bind ?_ (fun _=>?_))
  | exact F170.mono _ _ _|exact F132.mono _ _|exact LeO.none _|refine LeO.ite ?_ ?_|refine LeO.bind ?_ (fun _=>?_)
set_option maxHeartbeats 8000000 in
set_option maxRecDepth 100000 in
theorem F86.calls (k : Nat) (a0_0 : Int) (A0_1 : Option Addr) (c0_1 : Nat) (l0_1 : List (List Int)) (r : List Int) (w : World) (hr0_1 : Kd.C (Kd.slice 2 (Kd.int .i64)) w A0_1 l0_1.length l0_1) (hc0_1 : l0_1.length ≤ c0_1) (h : F86.f k a0_0 l0_1 = some r) :
  Calls Try.prog 86 #[.agg #[.int .i64 a0_0,.slice A0_1 l0_1.length c0_1]] w fun e w'=>∃ v0_:Value,e=.returned (v0_)∧Kd.R (Kd.int .i64) 2 w' w.heap.size (fun _=>True) v0_ r∧Below w.heap.size w w':=by
 have hu31:=Try.underlying31
 have HR0_1:=Aside0.mk hr0_1
 have HC0_1:=Aside0.mk hc0_1
 clear hr0_1 hc0_1
 have HB:=Aside0.mk (Below.refl w.heap.size w)
 have H:((F170.f k a0_0 l0_1).bind fun t102=>((F132.f k t102).bind fun t105=>(some t105)))=some r:=h
 clear h
 replace H:=Option.bind_eq_some_iff.mp H
 obtain ⟨t102,A20,H⟩:=H
 replace H:((F132.f k t102).bind fun t105=>(some t105))=some r:=H
 have A2:=Aside0.mk A20
 clear A20
 replace H:=Option.bind_eq_some_iff.mp H
 obtain ⟨t105,A30,H⟩:=H
 replace H:(some t105)=some r:=H
 have A3:=Aside0.mk A30
 clear A30
 obtain rfl:=Option.some.inj H
 go_enter Try.func86,Try.ntmps86
 go_wp2_with (first|((with_reducible refine gate_dst (N:=1) rfl ?_);refine box_event ?hg (N:=1) ?hd (cs:=#[.int .i64 a0_0,.slice A0_1 l0_1.length c0_1]) (t:=31) ?hr ?_;(case hd=>rfl);(case hg=>rfl);(case hr=>first|(go_simp;done)|(go_simp;rfl));intro gb101 hg w4 hbox hb;have BK101:=Aside0.mk (hbox);have GW101:=Aside0.mk ((by rw [hg];exact (below_size bl):w.heap.size≤gb101));have GE101:=Aside0.mk ((by rw [hg];exact (below_size bl):w.heap.size≤gb101));replace HB:=Aside0.mk (below_step bl hb);clear hb hbox hg;have hcz5_0:w4.cell? ⟨gb101,0,none⟩=some (.int .i64 a0_0):=(blk_cell BK101.out 0).trans rfl;have hcz5_1:w4.cell? ⟨gb101,1,none⟩=some (.slice A0_1 l0_1.length c0_1):=(blk_cell BK101.out 1).trans rfl;have hfz5_0:=blk_frozen BK101.out 0;have hfz5_1:=blk_frozen BK101.out 1)|((with_reducible refine gate_callee (f:=170) rfl ?_);refine goesL_ (some 4) rfl rfl Try.func170 (by kernel_rfl) rfl #[.agg #[.int .i64 a0_0,.slice A0_1 l0_1.length c0_1]] rfl gm ?_;(with_reducible refine (F170.calls k a0_0 _ _ l0_1 t102 _ ?side1 ?side2 A2.out).mono ?_);(case side1=>exact aC (Kd.C_below HR0_1.out HB.out));(case side2=>exact HC0_1.out);rintro e w6 ⟨v103,rfl,ho0,hb⟩;refine ⟨_,rfl,?_⟩;have HO104:=Aside0.mk (Kd.S_lower ho0 (below_size bl));replace BK101:=Aside0.mk (blk_below (g:=gb101) (o:=.cells #[.int .i64 a0_0,.slice A0_1 l0_1.length c0_1] 31 (0,0)) bk hb);replace HB:=Aside0.mk (below_step bl hb);(try clear hb);(try clear hb2);(try clear hk);(try clear hi);(try clear ho0);obtain ⟨Ao7,co7,eo7⟩:=Kd.S_slice HO104.out;subst eo7)|((with_reducible refine gate_callee (f:=132) rfl ?_);refine goesL_ (some 5) rfl rfl Try.func132 (by kernel_rfl) rfl #[.slice Ao7 t102.length co7] rfl gm ?_;(with_reducible refine (F132.calls k _ _ t102 t105 _ ?side1 ?side2 A3.out).mono ?_);(case side1=>exact aC ((Kd.S_reads' HO104.out).2.2));(case side2=>exact (Kd.S_reads' HO104.out).2.1);rintro e w8 ⟨v106,rfl,ho0,hb⟩;refine ⟨_,rfl,?_⟩;replace HO104:=Aside0.mk (Kd.S_elder' (aS HO104.out) (Kd.R_base ho0) hb);have HO107:=Aside0.mk (Kd.R_lower ho0 (below_size bl));replace BK101:=Aside0.mk (blk_below (g:=gb101) (o:=.cells #[.int .i64 a0_0,.slice A0_1 l0_1.length c0_1] 31 (0,0)) bk hb);replace HB:=Aside0.mk (below_step bl hb);(try clear hb);(try clear hb2);(try clear hk);(try clear hi);(try clear ho0)))
 go_ret
 exact ⟨_,by first|rfl|(simp [errW_none,errW_some]<;>rfl)|(simp [*,errW_none,errW_some]<;>rfl),by (with_reducible repeat (first|apply Kd.R_alloc|apply Kd.R_drewN|apply Kd.R_drew));exact HO107.out,bl⟩
end Go.Proofs.Ytoebojnhchocaaa.A
/- Set with little white space, by a program. -/
