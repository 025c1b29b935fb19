/- The functions that one law reaches, each as a Lean function, and that Go's call comes to what it says. Condition of each: that the Lean function answers (is not none). -/
import Derived.Test.YtoebojnhchocaaaAx0
namespace Go.Proofs.Ytoebojnhchocaaa.A
open Go.RowKit Go.Proofs.YtoebojnhchocaaaW.PrintWords Go.Proofs.YtoebojnhchocaaaW.PrintLast Go.Proofs.YtoebojnhchocaaaW.PrintMore
attribute [local go_sem] max2_int min2_int max_two min_two max_three min_three max_four min_four   -- for this text's walks alone
set_option linter.unusedVariables false
set_option linter.unusedSimpArgs false
/-! ### F204: function 204 -/
def F204.l0 : Nat → Int → List (List Int) → Int → Int → Option ((List (List Int)))
 | 0,_,_,_,_=>none
 | k+1,x0,x3,x5,x6=>if x6 < x5 then (if 0≤x0 then (if (x0:Int).toNat≤35184372088832 then (if x3.length < 5864062014805 then (F204.l0 k x0 (x3 ++ [(List.replicate (x0:Int).toNat 0)]) x5 (wrap64 (x6+1))) else (none)) else (none)) else (none)) else (some x3)
def F204.f (k:Nat) (a0:Int):Option ((List (List Int))):=F204.l0 k a0 (([]:List (List Int))) a0 0
theorem F204.mono_l : ∀ k, (∀ y0 y1 y2 y3, LeO (F204.l0 k y0 y1 y2 y3) (F204.l0 (k + 1) y0 y1 y2 y3))
 | 0=>fun _ _ _ _ r h=>by simp [F204.l0] at h
 | k+1=>by
  have ih0:=F204.mono_l k
  ·intro y0 y1 y2 y3
   unfold F204.l0
   repeat' first
    | (with_reducible first|exact ih0 _ _ _ _|exact LeO.refl _|exact LeO.none _|refine LeO.ite ?_ ?_|refine LeO.bind ?_ (fun _=>?_))
    | exact ih0 _ _ _ _|exact LeO.none _|refine LeO.ite ?_ ?_|refine LeO.bind ?_ (fun _=>?_)
theorem F204.mono:∀ a0 k,LeO (F204.f k a0) (F204.f (k+1) a0):=by
 intro a0 k
 have ih0:=F204.mono_l k
 unfold F204.f
 repeat' first
  | (with_reducible first|exact ih0 _ _ _ _|exact LeO.refl _|exact LeO.none _|refine LeO.ite ?_ ?_|refine LeO.bind ?_ (fun _=>?_))
  | exact ih0 _ _ _ _|exact LeO.none _|refine LeO.ite ?_ ?_|refine LeO.bind ?_ (fun _=>?_)
set_option maxHeartbeats 8000000 in
set_option maxRecDepth 100000 in
theorem F204.calls (k : Nat) (a0 : Int) (r : List (List Int)) (w : World) (h : F204.f k a0 = some r) :
  Calls Try.prog 204 #[.int .i64 a0] w fun e w'=>∃ v0_:Value,e=.returned (v0_)∧Kd.S (Kd.slice 2 (Kd.int .i64)) 28 w' w.heap.size (fun _=>True) v0_ r∧Below w.heap.size w w':=by
 have HB:=Aside0.mk (Below.refl w.heap.size w)
 have H:(F204.l0 k a0 (([]:List (List Int))) a0 0)=some r:=h
 clear h
 obtain ⟨y101,hy101⟩:∃ y_:List (List Int),y_=(([]:List (List Int))):=⟨_,rfl⟩
 replace H:(F204.l0 k a0 y101 a0 0)=some r:=by first|(rw [hy101];with_reducible exact H)|(have H2_:=(Option.bind_some _ _).symm.trans H;rw [hy101];with_reducible exact H2_)|(have H2_:=(Option.bind_some _ _).symm.trans H;with_reducible exact H2_)|with_reducible exact H|(rw [hy101];exact H)|exact H
 have Ny101:=Aside0.mk hy101
 clear hy101
 have H':=Aside0.mk H
 clear H
 go_enter Try.func204,Try.ntmps204
 go_wp2_with (first|((with_reducible refine gate_dst (N:=4) rfl ?_);refine Kd.S_lit (Kd.slice 2 (Kd.int .i64)) _ 28 ?hg (N:=4) ?hd (xs:=([]:List (List Int))) (inner:=[]) (ok:=fun _=>True) (okp:=fun _=>True) ?hr ?hp (fun _ hk=>hk) trivial (Below.refl _ _) (Nat.le_refl _) (by simp) ?_;(case hd=>rfl);(case hg=>rfl);(case hr=>first|(go_simp;done)|(go_simp;rfl));(case hp=>exact (Reps.none _ _));intro v102 w2 ho3 hb hg_ hnew_;clear hg_ hnew_;(first|rw [← Ny101.out] at ho3|(simp only [Int.reduceToNat] at ho3;rw [← Ny101.out] at ho3));have HO103:=Aside0.mk (Kd.S_lower ho3 (below_size bl));replace HB:=Aside0.mk (below_step bl hb);clear hb ho3))
 go_loopg [3,6] k (fun kq v3 v6 w'=>∃ (x3_1:List (List Int)) (x6_1:Int),v6=.int .i64 x6_1∧Aside0 (F204.l0 kq a0 x3_1 a0 x6_1=some r)∧Aside0 (kq≤k)∧Aside0 (Kd.S (Kd.slice 2 (Kd.int .i64)) 28 w' w.heap.size (fun _=>True) v3 x3_1)∧Aside0 (Below w.heap.size w w'))
 case atStart=>exact ⟨(y101),(0),rs,H',⟨Nat.le_refl _⟩,⟨by (with_reducible repeat (first|apply Kd.S_alloc|apply Kd.S_drewN|apply Kd.S_drew));exact HO103.out⟩,⟨bl⟩⟩
 case round =>
  clear H'
  (try clear c2);(try clear p2)
  obtain ⟨x3_1,x6_1,rfl,HA,HK1,HO_3,HB⟩:=hrel
  cases gk with
  | zero=>exact absurd HA.out (by simp [F204.l0])
  | succ k1 =>
   have H:=HA.out
   clear HA
   simp only [F204.l0] at H
   by_cases c4:x6_1 < a0
   case neg =>
    rw [if_neg c4] at H
    have c4b0:decide (x6_1 < a0)=false:=decide_eq_false c4
    clear c4
    obtain rfl:=Option.some.inj H
    go_wp2
    go_ret
    exact ⟨_,by first|rfl|(simp [errW_none,errW_some]<;>rfl)|(simp [*,errW_none,errW_some]<;>rfl),by (with_reducible repeat (first|apply Kd.S_alloc|apply Kd.S_drewN|apply Kd.S_drew));exact HO_3.out,bl⟩
   rw [if_pos c4] at H
   have c4b0:=decide_eq_true c4
   clear c4
   replace H:=iS H;obtain ⟨c5,H⟩:=H
   have c5b0:=eq_true c5
   have c5b1:=decide_eq_true c5
   clear c5
   replace H:=iS H;obtain ⟨c6,H⟩:=H
   have c6b0:=eq_true c6
   have c6b1:=decide_eq_true c6
   clear c6
   obtain ⟨y104,hy104⟩:∃ y_:List Int,y_=(List.replicate (a0:Int).toNat 0):=⟨_,rfl⟩
   replace H:(if x3_1.length < 5864062014805 then (F204.l0 k1 a0 (x3_1 ++ [y104]) a0 (wrap64 (x6_1+1))) else (none))=some r:=by first|(rw [hy104];with_reducible exact H)|(have H2_:=(Option.bind_some _ _).symm.trans H;rw [hy104];with_reducible exact H2_)|(have H2_:=(Option.bind_some _ _).symm.trans H;with_reducible exact H2_)|with_reducible exact H|(rw [hy104];exact H)|exact H
   have Ny104:=Aside0.mk hy104
   clear hy104
   replace H:=iS H;obtain ⟨c7,H⟩:=H
   have LMc7:=Aside0.mk c7
   clear c7
   obtain ⟨y107,hy107⟩:∃ y_:List (List Int),y_=(x3_1 ++ [y104]):=⟨_,rfl⟩
   replace H:(F204.l0 k1 a0 y107 a0 (wrap64 (x6_1+1)))=some r:=by first|(rw [hy107];with_reducible exact H)|(have H2_:=(Option.bind_some _ _).symm.trans H;rw [hy107];with_reducible exact H2_)|(have H2_:=(Option.bind_some _ _).symm.trans H;with_reducible exact H2_)|with_reducible exact H|(rw [hy107];exact H)|exact H
   have Ny107:=Aside0.mk hy107
   clear hy107
   have H':=Aside0.mk H
   clear H
   go_wp2_with (first|((with_reducible refine gate_dst (N:=10) rfl ?_);refine Kd.R_make (Kd.int .i64) _ 2 rfl (N:=10) rfl 28 _ _ rfl a0 rfl rfl Try.underlying28 (.int .i64 0) 8 info2 rfl (by decide) (by omega) 0 (ok:=fun _=>True) (okp:=fun _=>True) rfl (fun _ hk=>hk) trivial oD (Nat.le_trans (Nat.mul_le_mul_right _ (oD:a0.toNat≤35184372088832)) (by omega)) (Below.refl _ _) (Nat.le_refl _) ?_;intro v105 w8 ho9 hb hg_ hnew_;clear hg_ hnew_;(first|rw [← Ny104.out] at ho9|(simp only [Int.reduceToNat] at ho9;rw [← Ny104.out] at ho9));replace HO_3:=Aside0.mk (Kd.S_elder' (aS HO_3.out) (Kd.R_base ho9) hb);have HO106:=Aside0.mk (Kd.R_lower ho9 (below_size bl));replace HB:=Aside0.mk (below_step bl hb);clear hb ho9;obtain ⟨Ao11,co11,eo11⟩:=Kd.R_slice HO106.out;subst eo11)|((with_reducible refine gate_builtin (b:=.append) (xs:=#[.tmp 8,.tmp 11]) rfl ?_);at_builtin;refine Kd.S_append (Kd.slice 2 (Kd.int .i64)) (w0:=w) w.heap.size rfl (.tmp 8) (.tmp 11) 22 28 (.slice none 0 0) 24 rfl Try.underlying22 info28 rfl (by decide) (by omega) u3 x3_1 y104 [.slice Ao11 y104.length co11] (fun _=>True) (fun k_=>some k_=(.slice Ao11 y104.length co11:Value).ownBlock) rfl rfl ?aP (fun k_ hk_=>((Kd.R_mono (ok':=fun k_=>((fun _=>True)) k_∧some k_ ≠ (u3:Value).ownBlock) (Kd.R_apart' (HO106.out) (Kd.S_typed HO_3.out) (by decide)) (fun k_ hk=>⟨trivial,hk.2⟩))).1 k_ hk_.symm) ?aF ?aO ?aB ?aS ?aL ?_;(case aP=>exact Kd.M_row (Kd.R_mono (Kd.R_tight rfl (Kd.R_mono (ok':=fun k_=>((fun _=>True)) k_∧some k_ ≠ (u3:Value).ownBlock) (Kd.R_apart' (HO106.out) (Kd.S_typed HO_3.out) (by decide)) (fun k_ hk=>⟨trivial,hk.2⟩))) (fun _ h_=>h_)));(case aB=>exact bl);(case aF=>exact (fun _ _=>trivial));(case aO=>exact (by (with_reducible repeat (first|apply Kd.S_alloc|apply Kd.S_drewN|apply Kd.S_drew));exact Kd.S_mono HO_3.out (fun k_ hk=>⟨trivial,fun e_=>hk.2 e_⟩)));(case aS=>exact (below_size bl));(case aL=>have:=LMc7.out;omega);intro v108 w10 ho hb hg hat;rw [← Ny107.out] at ho;have n0_:=Aside0.mk (hb);have n1_:=Aside0.mk (ho);clear HB;clear HO_3;clear HO106;have HB:=n0_;have HO109:=n1_;clear n0_ n1_;clear ho hb hg hat))
   go_roundg k1
   case measure=>have:=HK1.out;omega
   case rel=>exact ⟨(y107),(wrap64 (x6_1+1)),rs,H',⟨by have:=HK1.out;omega⟩,⟨by (with_reducible repeat (first|apply Kd.S_alloc|apply Kd.S_drewN|apply Kd.S_drew));exact HO109.out⟩,⟨bl⟩⟩
/-! ### F205: function 205 -/
mutual
def F205.l0 : Nat → List (List Int) → List (List Int) → List (List Int) → Int → Int → Option ((List (List Int)))
 | 0,_,_,_,_,_=>none
 | k+1,x1,x5,x15,x16,x17=>if x17 < x16 then (if 0≤x17 then (if x17 < (x15.length:Int) then (F205.l1 k x1 x5 x17 x15 x16 x17 (rd_L1 x15 x17) ((rd_L1 x15 x17).length:Int) 0) else (none)) else (none)) else (some x5)
def F205.l1 : Nat → List (List Int) → List (List Int) → Int → List (List Int) → Int → Int → List Int → Int → Int → Option ((List (List Int)))
 | 0,_,_,_,_,_,_,_,_,_=>none
 | k+1,x1,x5,x6,x15,x16,x17,x22,x23,x24=>if x24 < x23 then (if 0≤x24 then (if x24 < (x22.length:Int) then (if (rd x22 x24)=0 then (F205.l1 k x1 x5 x6 x15 x16 x17 x22 x23 (wrap64 (x24+1))) else (if x24 < (x1.length:Int) then (F205.l2 k x1 x5 x6 (rd x22 x24) x15 x16 x17 x22 x23 x24 (rd_L1 x1 x24) ((rd_L1 x1 x24).length:Int) 0) else (none))) else (none)) else (none)) else (F205.l0 k x1 x5 x15 x16 (wrap64 (x17+1)))
def F205.l2 : Nat → List (List Int) → List (List Int) → Int → Int → List (List Int) → Int → Int → List Int → Int → Int → List Int → Int → Int → Option ((List (List Int)))
 | 0,_,_,_,_,_,_,_,_,_,_,_,_,_=>none
 | k+1,x1,x5,x6,x9,x15,x16,x17,x22,x23,x24,x34,x35,x36=>if x36 < x35 then (if 0≤x36 then (if x36 < (x34.length:Int) then (if 0≤x6 then (if x6 < (x5.length:Int) then (if x36 < ((rd_L1 x5 x6).length:Int) then (F205.l2 k x1 (x5.set (x6:Int).toNat ((rd_L1 x5 x6).set (x36:Int).toNat (wrap64 ((rd (rd_L1 x5 x6) x36)+(wrap64 (x9 * (rd x34 x36))))))) x6 x9 x15 x16 x17 x22 x23 x24 x34 x35 (wrap64 (x36+1))) else (none)) else (none)) else (none)) else (none)) else (none)) else (F205.l1 k x1 x5 x6 x15 x16 x17 x22 x23 (wrap64 (x24+1)))
end
def F205.f (k:Nat) (l0:List (List Int)) (l1:List (List Int)):Option ((List (List Int))):=(F204.f k (l0.length:Int)).bind fun t101=>(F205.l0 k l1 t101 l0 (l0.length:Int) 0)
theorem F205.mono_l : ∀ k, (∀ y0 y1 y2 y3 y4, LeO (F205.l0 k y0 y1 y2 y3 y4) (F205.l0 (k + 1) y0 y1 y2 y3 y4)) ∧ (∀ y0 y1 y2 y3 y4 y5 y6 y7 y8, LeO (F205.l1 k y0 y1 y2 y3 y4 y5 y6 y7 y8) (F205.l1 (k + 1) y0 y1 y2 y3 y4 y5 y6 y7 y8)) ∧ (∀ y0 y1 y2 y3 y4 y5 y6 y7 y8 y9 y10 y11 y12, LeO (F205.l2 k y0 y1 y2 y3 y4 y5 y6 y7 y8 y9 y10 y11 y12) (F205.l2 (k + 1) y0 y1 y2 y3 y4 y5 y6 y7 y8 y9 y10 y11 y12))
 | 0=>⟨fun _ _ _ _ _ r h=>by simp [F205.l0] at h,fun _ _ _ _ _ _ _ _ _ r h=>by simp [F205.l1] at h,fun _ _ _ _ _ _ _ _ _ _ _ _ _ r h=>by simp [F205.l2] at h⟩
 | k+1=>by
  obtain ⟨ih0,ih1,ih2⟩:=F205.mono_l k
  refine ⟨?_, ?_, ?_⟩ <;> intros <;> (first | unfold F205.l0 | unfold F205.l1 | unfold F205.l2) <;> repeat' first
   | (with_reducible first|exact ih0 _ _ _ _ _|exact ih1 _ _ _ _ _ _ _ _ _|exact ih2 _ _ _ _ _ _ _ _ _ _ _ _ _|exact F204.mono _ _|exact LeO.refl _|exact LeO.none _|refine LeO.ite ?_ ?_|refine LeO.bind ?_ (fun _=>?_))
   | exact ih0 _ _ _ _ _|exact ih1 _ _ _ _ _ _ _ _ _|exact ih2 _ _ _ _ _ _ _ _ _ _ _ _ _|exact F204.mono _ _|exact LeO.none _|refine LeO.ite ?_ ?_|refine LeO.bind ?_ (fun _=>?_)
theorem F205.mono:∀ a0 a1 k,LeO (F205.f k a0 a1) (F205.f (k+1) a0 a1):=by
 intro a0 a1 k
 obtain ⟨ih0,ih1,ih2⟩:=F205.mono_l k
 unfold F205.f
 repeat' first
  | (with_reducible first|exact ih0 _ _ _ _ _|exact ih1 _ _ _ _ _ _ _ _ _|exact ih2 _ _ _ _ _ _ _ _ _ _ _ _ _|exact F204.mono _ _|exact LeO.refl _|exact LeO.none _|refine LeO.ite ?_ ?_|refine LeO.bind ?_ (fun _=>?_))
  | exact ih0 _ _ _ _ _|exact ih1 _ _ _ _ _ _ _ _ _|exact ih2 _ _ _ _ _ _ _ _ _ _ _ _ _|exact F204.mono _ _|exact LeO.none _|refine LeO.ite ?_ ?_|refine LeO.bind ?_ (fun _=>?_)
set_option maxHeartbeats 8000000 in
set_option maxRecDepth 100000 in
theorem F205.calls (k : Nat) (A0 : Option Addr) (c0 : Nat) (l0 : List (List Int)) (A1 : Option Addr) (c1 : Nat) (l1 : List (List Int)) (r : List (List Int)) (w : World) (hr0 : Kd.C (Kd.slice 2 (Kd.int .i64)) w A0 l0.length l0) (hc0 : l0.length ≤ c0) (hr1 : Kd.C (Kd.slice 2 (Kd.int .i64)) w A1 l1.length l1) (hc1 : l1.length ≤ c1) (h : F205.f k l0 l1 = some r) :
  Calls Try.prog 205 #[.slice A0 l0.length c0,.slice A1 l1.length c1] w fun e w'=>∃ v0_:Value,e=.returned (v0_)∧Kd.S (Kd.slice 2 (Kd.int .i64)) 28 w' w.heap.size (fun _=>True) v0_ r∧Below w.heap.size w w':=by
 have HR0:=Aside0.mk hr0
 have HC0:=Aside0.mk hc0
 clear hr0 hc0
 have HR1:=Aside0.mk hr1
 have HC1:=Aside0.mk hc1
 clear hr1 hc1
 have HB:=Aside0.mk (Below.refl w.heap.size w)
 have H:((F204.f k (l0.length:Int)).bind fun t101=>(F205.l0 k l1 t101 l0 (l0.length:Int) 0))=some r:=h
 clear h
 replace H:=Option.bind_eq_some_iff.mp H
 obtain ⟨t101,A30,H⟩:=H
 replace H:(F205.l0 k l1 t101 l0 (l0.length:Int) 0)=some r:=H
 have A3:=Aside0.mk A30
 clear A30
 have H':=Aside0.mk H
 clear H
 go_enter Try.func205,Try.ntmps205
 go_wp2_with (first|((with_reducible refine gate_callee (f:=204) rfl ?_);refine goesL_ (some 14) rfl rfl Try.func204 (by kernel_rfl) rfl #[.int .i64 (l0.length:Int)] rfl gm ?_;(with_reducible refine (F204.calls k (l0.length:Int) t101 _ A3.out).mono ?_);rintro e w4 ⟨v102,rfl,ho0,hb⟩;refine ⟨_,rfl,?_⟩;have HO103:=Aside0.mk (Kd.S_lower ho0 (below_size bl));replace HB:=Aside0.mk (below_step bl hb);(try clear hb);(try clear hb2);(try clear hk);(try clear hi);(try clear ho0)))
 go_loopg [17] k (fun kq v17 w'=>∃ (x5_1:List (List Int)) (x17_1:Int),v17=.int .i64 x17_1∧Aside0 (F205.l0 kq l1 x5_1 l0 (l0.length:Int) x17_1=some r)∧Aside0 (kq≤k)∧Aside0 (Kd.S (Kd.slice 2 (Kd.int .i64)) 28 w' w.heap.size (fun _=>True) v102 x5_1)∧Aside0 (Below w.heap.size w w'))
 case atStart=>exact ⟨(t101),(0),rs,H',⟨Nat.le_refl _⟩,⟨by (with_reducible repeat (first|apply Kd.S_alloc|apply Kd.S_drewN|apply Kd.S_drew));exact HO103.out⟩,⟨bl⟩⟩
 case round =>
  clear H'
  (try clear c1);(try clear c2);(try clear p2)
  obtain ⟨x5_1,x17_1,rfl,HA,HK1,HO_5,HB⟩:=hrel
  cases gk with
  | zero=>exact absurd HA.out (by simp [F205.l0])
  | succ k1 =>
   have H:=HA.out
   clear HA
   simp only [F205.l0] at H
   by_cases c5:x17_1 < (l0.length:Int)
   case neg =>
    rw [if_neg c5] at H
    have c5b0:decide (x17_1 < (l0.length:Int))=false:=decide_eq_false c5
    clear c5
    obtain rfl:=Option.some.inj H
    go_wp2
    go_ret
    exact ⟨_,by first|rfl|(simp [errW_none,errW_some]<;>rfl)|(simp [*,errW_none,errW_some]<;>rfl),by (with_reducible repeat (first|apply Kd.S_alloc|apply Kd.S_drewN|apply Kd.S_drew));exact HO_5.out,bl⟩
   rw [if_pos c5] at H
   have c5b0:=decide_eq_true c5
   clear c5
   replace H:=iS H;obtain ⟨c6,H⟩:=H
   have c6b0:=decide_eq_true c6
   clear c6
   replace H:=iS H;obtain ⟨c7,H⟩:=H
   have c7b0:=decide_eq_true c7
   clear c7
   have H':=Aside0.mk H
   clear H
   have p104:0≤(x17_1:Int):=oD
   have q104:x17_1 < (l0.length:Int):=oD
   obtain ⟨ad104,A104_0,c104_0,e104,hx104_0,hl104_0,hi104_0⟩:=at_L1 HR0.out x17_1 p104 q104
   cases e104
   replace hx104_0:=hbc HB hx104_0
   have HR104_0:=Aside0.mk hi104_0
   have HC104_0:=Aside0.mk hl104_0
   clear hi104_0 hl104_0
   replace p104:=eq_true p104
   replace q104:=eq_true q104
   go_wp2
   go_loopg [24] k1 (fun kq v24 w'=>∃ (x5_2:List (List Int)) (x24_2:Int),v24=.int .i64 x24_2∧Aside0 (F205.l1 kq l1 x5_2 x17_1 l0 (l0.length:Int) x17_1 (rd_L1 l0 x17_1) ((rd_L1 l0 x17_1).length:Int) x24_2=some r)∧Aside0 (kq≤k1)∧Aside0 (Kd.S (Kd.slice 2 (Kd.int .i64)) 28 w' w.heap.size (fun _=>True) v102 x5_2)∧Aside0 (Below w.heap.size w w'))
   case atStart=>exact ⟨(x5_1),(0),rs,H',⟨Nat.le_refl _⟩,⟨by (with_reducible repeat (first|apply Kd.S_alloc|apply Kd.S_drewN|apply Kd.S_drew));exact HO_5.out⟩,⟨bl⟩⟩
   case round =>
    clear H'
    (try clear c1);(try clear p1);(try clear q1);(try clear hx1);(try clear c2);(try clear p2);(try clear c5);(try clear c5b0);(try clear c6);(try clear c6b0);(try clear c7);(try clear c7b0);(try clear hx104_0);(try clear p104);(try clear p2);(try clear q104)
    obtain ⟨x5_2,x24_2,rfl,HA,HK2,HO_5,HB⟩:=hrel
    cases gk with
    | zero=>exact absurd HA.out (by simp [F205.l1])
    | succ k2 =>
     have H:=HA.out
     clear HA
     simp only [F205.l1] at H
     by_cases c8:x24_2 < ((rd_L1 l0 x17_1).length:Int)
     case neg =>
      rw [if_neg c8] at H
      have c8b0:decide (x24_2 < ((rd_L1 l0 x17_1).length:Int))=false:=decide_eq_false c8
      clear c8
      have H':=Aside0.mk H
      clear H
      go_wp2
      go_roundg k2
      case measure=>have:=HK1.out;have:=HK2.out;omega
      case rel=>exact ⟨(x5_2),(wrap64 (x17_1+1)),rs,H',⟨by have:=HK1.out;have:=HK2.out;omega⟩,⟨by (with_reducible repeat (first|apply Kd.S_alloc|apply Kd.S_drewN|apply Kd.S_drew));exact HO_5.out⟩,⟨bl⟩⟩
     rw [if_pos c8] at H
     have c8b0:=decide_eq_true c8
     clear c8
     replace H:=iS H;obtain ⟨c9,H⟩:=H
     have c9b0:=decide_eq_true c9
     clear c9
     replace H:=iS H;obtain ⟨c10,H⟩:=H
     have c10b0:=decide_eq_true c10
     clear c10
     by_cases c11:(rd (rd_L1 l0 x17_1) x24_2)=0
     case neg =>
      rw [if_neg c11] at H
      have c11b0:((rd (rd_L1 l0 x17_1) x24_2) == 0)=false:=beq_eq_false_iff_ne.mpr c11
      have c11b1:((rd (rd_L1 l0 x17_1) x24_2) != 0)=true:=bne_iff_ne.mpr c11
      replace H:=iS H;obtain ⟨c12,H⟩:=H
      have c12b0:=decide_eq_true c12
      clear c12
      have H':=Aside0.mk H
      clear H
      have p105:0≤(x24_2:Int):=oD
      have q105:x24_2 < ((rd_L1 l0 x17_1).length:Int):=oD
      obtain ⟨ad105,e105,hx105_0⟩:=Kd.at_int HR104_0.out x24_2 p105 q105
      cases e105
      replace hx105_0:=hbc HB hx105_0
      replace p105:=eq_true p105
      replace q105:=eq_true q105
      have p106:0≤(x24_2:Int):=oD
      have q106:x24_2 < (l1.length:Int):=oD
      obtain ⟨ad106,A106_0,c106_0,e106,hx106_0,hl106_0,hi106_0⟩:=at_L1 HR1.out x24_2 p106 q106
      cases e106
      replace hx106_0:=hbc HB hx106_0
      have HR106_0:=Aside0.mk hi106_0
      have HC106_0:=Aside0.mk hl106_0
      clear hi106_0 hl106_0
      replace p106:=eq_true p106
      replace q106:=eq_true q106
      go_wp2
      go_loopg [36] k2 (fun kq v36 w'=>∃ (x5_3:List (List Int)) (x36_3:Int),v36=.int .i64 x36_3∧Aside0 (F205.l2 kq l1 x5_3 x17_1 (rd (rd_L1 l0 x17_1) x24_2) l0 (l0.length:Int) x17_1 (rd_L1 l0 x17_1) ((rd_L1 l0 x17_1).length:Int) x24_2 (rd_L1 l1 x24_2) ((rd_L1 l1 x24_2).length:Int) x36_3=some r)∧Aside0 (kq≤k2)∧Aside0 (Kd.S (Kd.slice 2 (Kd.int .i64)) 28 w' w.heap.size (fun _=>True) v102 x5_3)∧Aside0 (Below w.heap.size w w'))
      case atStart=>exact ⟨(x5_2),(0),rs,H',⟨Nat.le_refl _⟩,⟨by (with_reducible repeat (first|apply Kd.S_alloc|apply Kd.S_drewN|apply Kd.S_drew));exact HO_5.out⟩,⟨bl⟩⟩
      case round =>
       clear H'
       (try clear c1);(try clear p1);(try clear q1);(try clear hx1);(try clear c2);(try clear p2);(try clear c5);(try clear c5b0);(try clear c6);(try clear c6b0);(try clear p6);(try clear c7);(try clear c7b0);(try clear c8);(try clear c8b0);(try clear c9);(try clear c9b0);(try clear c10);(try clear c10b0);(try clear p10);(try clear q10);(try clear hx10);(try clear c11);(try clear c11b0);(try clear c11b1);(try clear c12);(try clear c12b0);(try clear hx104_0);(try clear hx105_0);(try clear hx106_0);(try clear p1);(try clear p104);(try clear p105);(try clear p106);(try clear p2);(try clear q1);(try clear q104);(try clear q105);(try clear q106)
       obtain ⟨x5_3,x36_3,rfl,HA,HK3,HO_5,HB⟩:=hrel
       cases gk with
       | zero=>exact absurd HA.out (by simp [F205.l2])
       | succ k3 =>
        have H:=HA.out
        clear HA
        simp only [F205.l2] at H
        by_cases c13:x36_3 < ((rd_L1 l1 x24_2).length:Int)
        case neg =>
         rw [if_neg c13] at H
         have c13b0:decide (x36_3 < ((rd_L1 l1 x24_2).length:Int))=false:=decide_eq_false c13
         clear c13
         have H':=Aside0.mk H
         clear H
         go_wp2
         go_roundg k3
         case measure=>have:=HK1.out;have:=HK2.out;have:=HK3.out;omega
         case rel=>exact ⟨(x5_3),(wrap64 (x24_2+1)),rs,H',⟨by have:=HK1.out;have:=HK2.out;have:=HK3.out;omega⟩,⟨by (with_reducible repeat (first|apply Kd.S_alloc|apply Kd.S_drewN|apply Kd.S_drew));exact HO_5.out⟩,⟨bl⟩⟩
        rw [if_pos c13] at H
        have c13b0:=decide_eq_true c13
        clear c13
        replace H:=iS H;obtain ⟨c14,H⟩:=H
        have c14b0:=decide_eq_true c14
        clear c14
        replace H:=iS H;obtain ⟨c15,H⟩:=H
        have c15b0:=decide_eq_true c15
        clear c15
        replace H:=iS H;obtain ⟨c16,H⟩:=H
        have c16b0:=decide_eq_true c16
        clear c16
        replace H:=iS H;obtain ⟨c17,H⟩:=H
        have c17b0:=decide_eq_true c17
        clear c17
        replace H:=iS H;obtain ⟨c18,H⟩:=H
        have c18b0:=decide_eq_true c18
        clear c18
        obtain ⟨y110,hy110⟩:∃ y_:List Int,y_=((rd_L1 x5_3 x17_1).set (x36_3:Int).toNat (wrap64 ((rd (rd_L1 x5_3 x17_1) x36_3)+(wrap64 ((rd (rd_L1 l0 x17_1) x24_2) * (rd (rd_L1 l1 x24_2) x36_3)))))):=⟨_,rfl⟩
        replace H:(F205.l2 k3 l1 (x5_3.set (x17_1:Int).toNat y110) x17_1 (rd (rd_L1 l0 x17_1) x24_2) l0 (l0.length:Int) x17_1 (rd_L1 l0 x17_1) ((rd_L1 l0 x17_1).length:Int) x24_2 (rd_L1 l1 x24_2) ((rd_L1 l1 x24_2).length:Int) (wrap64 (x36_3+1)))=some r:=by first|(rw [hy110];with_reducible exact H)|(have H2_:=(Option.bind_some _ _).symm.trans H;rw [hy110];with_reducible exact H2_)|(have H2_:=(Option.bind_some _ _).symm.trans H;with_reducible exact H2_)|with_reducible exact H|(rw [hy110];exact H)|exact H
        have Ny110:=Aside0.mk hy110
        clear hy110
        obtain ⟨y112,hy112⟩:∃ y_:List (List Int),y_=(x5_3.set (x17_1:Int).toNat y110):=⟨_,rfl⟩
        replace H:(F205.l2 k3 l1 y112 x17_1 (rd (rd_L1 l0 x17_1) x24_2) l0 (l0.length:Int) x17_1 (rd_L1 l0 x17_1) ((rd_L1 l0 x17_1).length:Int) x24_2 (rd_L1 l1 x24_2) ((rd_L1 l1 x24_2).length:Int) (wrap64 (x36_3+1)))=some r:=by first|(rw [hy112];with_reducible exact H)|(have H2_:=(Option.bind_some _ _).symm.trans H;rw [hy112];with_reducible exact H2_)|(have H2_:=(Option.bind_some _ _).symm.trans H;with_reducible exact H2_)|with_reducible exact H|(rw [hy112];exact H)|exact H
        have Ny112:=Aside0.mk hy112
        clear hy112
        have H':=Aside0.mk H
        clear H
        have p107:0≤(x36_3:Int):=oD
        have q107:x36_3 < ((rd_L1 l1 x24_2).length:Int):=oD
        obtain ⟨ad107,e107,hx107_0⟩:=Kd.at_int HR106_0.out x36_3 p107 q107
        cases e107
        replace hx107_0:=hbc HB hx107_0
        replace p107:=eq_true p107
        replace q107:=eq_true q107
        obtain ⟨Ao20,co20,eo20⟩:=Kd.S_slice HO_5.out
        subst eo20
        have p108:0≤(x17_1:Int):=oD
        have q108:x17_1 < (x5_3.length:Int):=oD
        obtain ⟨ad108,A108_0,c108_0,e108,hx108_0,hl108_0,hi108_0⟩:=at_L1 (Kd.S_reads' HO_5.out).2.2 x17_1 p108 q108
        cases e108
        obtain ⟨ce108,hce108,hMe108,hcc108⟩:=Kd.S_get HO_5.out [] x17_1 p108 (by first|exact q108|exact oD|(have e_:=(Kd.S_reads' HO_5.out).1;omega))
        obtain ⟨ve108_0,rfl,ge108_0⟩:=hMe108
        have hv108_0:=hcc108 0 _ rfl
        rw [Nat.add_zero,show ((Kd.slice 2 (Kd.int .i64))).sz=1 from rfl,Nat.mul_one] at hv108_0
        replace hv108_0:=Option.some.inj (hv108_0.symm.trans hx108_0)
        rw [hv108_0] at ge108_0
        have HL108_0:=Aside0.mk (show Kd.R (Kd.int .i64) 2 _ _ _ _ (rd_L1 x5_3 x17_1) from ge108_0)
        clear hv108_0 ge108_0
        have HX108_0:=Aside0.mk hx108_0
        clear hcc108 hce108
        have HR108_0:=Aside0.mk hi108_0
        have HC108_0:=Aside0.mk hl108_0
        clear hi108_0 hl108_0
        replace p108:=eq_true p108
        replace q108:=eq_true q108
        have p109:0≤(x36_3:Int):=oD
        have q109:x36_3 < ((rd_L1 x5_3 x17_1).length:Int):=oD
        obtain ⟨ad109,e109,hx109_0⟩:=Kd.at_int (by repeat (first|(with_reducible exact HR108_0.out)|(with_reducible refine Kd.C_alloc ?_ _)|(with_reducible refine Kd.C_drewN ?_ _)|(with_reducible refine Kd.C_drew ?_)|exact HR108_0.out)) x36_3 p109 q109
        cases e109
        replace p109:=eq_true p109
        replace q109:=eq_true q109
        have p19:0≤(x36_3:Int):=oD
        have q19:(x36_3:Int) < (((rd_L1 x5_3 x17_1).length:Int):Int):=oD
        obtain ⟨go19,co19,eo19,gb19,gl19,cl19,HG19⟩:=Kd.R_form HL108_0.out (by omega)
        (first|cases eo19|(injection eo19 with ea_ en_ ec_;(first|subst ea_|(injection ea_ with ea_;subst ea_));subst ec_;clear en_))
        (first|simp only [add_plain] at hx109_0|skip)
        have GB19:=Aside0.mk gb19
        have GG19:=Aside0.mk HG19
        clear gb19 gl19 HG19
        (first|simp only [add_plain] at hx109_0|skip)
        obtain ⟨hx19_0,hf19_0⟩:=Kd.R_celln 0 HL108_0.out (x36_3:Int) p19 q19
        replace p19:=eq_true p19
        replace q19:=eq_true q19
        have hq21:(x17_1:Int) < (x5_3.length:Int):=(by have h_:(x17_1:Int) < ((x5_3.length:Int):Int):=oD;first|exact h_|(have e_:=(Kd.S_reads' HO_5.out).1;omega)|simpa only [List.length_set,List.length_set] using h_)
        obtain ⟨oki21,ce21,hcl21,hM21,hcc21,hok21,hbk21⟩:=Kd.S_borrow HO_5.out [] (x17_1:Int) oD (by first|exact hq21|(have e_:=(Kd.S_reads' HO_5.out).1;omega))
        obtain ⟨ve21_0,rfl,ge21_0⟩:=hM21
        have hv21:=hcc21 0 _ rfl
        rw [Nat.add_zero,show ((Kd.slice 2 (Kd.int .i64))).sz=1 from rfl,Nat.mul_one] at hv21
        replace hv21:=Option.some.inj (hv21.symm.trans HX108_0.out)
        subst hv21
        clear hcc21 hcl21
        replace ge21_0:=(show Kd.R (Kd.int .i64) 2 _ _ _ _ (rd_L1 x5_3 x17_1) from ge21_0)
        have HP21:=Kd.R_putg ge21_0 (x36_3:Int) (wrap64 ((rd (rd_L1 x5_3 x17_1) x36_3)+(wrap64 ((rd (rd_L1 l0 x17_1) x24_2) * (rd (rd_L1 l1 x24_2) x36_3)))))
        go_wp2_with (first|((with_reducible refine gate_store (t:=2) (p:=52) rfl ?_);refine store_event (t:=2) (p:=52) (v:=?vo_w22) (w1:=(wr.setCell ⟨go19,(x36_3:Int).toNat,none⟩ (.int .i64 (wrap64 ((rd (rd_L1 x5_3 x17_1) x36_3)+(wrap64 ((rd (rd_L1 l0 x17_1) x24_2) * (rd (rd_L1 l1 x24_2) x36_3)))))))) ?hg ?ho ?hn ?hr ?_;(case ho=>rfl);(case hg=>rfl);(case hn=>rfl);(case hr=>first|(go_simp;done)|(go_simp;rfl));intro w22 hw;have hg:wr.grownBy w22 (some go19):=(by rw [hw];exact HP21.2);have hz_:Kd.R (Kd.int .i64) 2 w22 w.heap.size oki21 (.slice (some ⟨go19,0,none⟩) (rd_L1 x5_3 x17_1).length c108_0) y110:=(by rw [hw,Ny110.out];exact HP21.1);have hp_:Kd.S (Kd.slice 2 (Kd.int .i64)) 28 w22 w.heap.size (fun _=>True) (.slice (some ad108) x5_3.length co20) y112:=(by rw [Ny112.out];exact hbk21 hg (fun k_ e_=>by injection e_ with e_;subst e_;exact ge21_0.1 _ rfl) (Kd.M_row hz_));have hm_:=Kd.R_mono hz_ hok21;clear HP21 hbk21;have n0_:=Aside0.mk (hp_);have n1_:=Aside0.mk (cell_grown hg HX108_0.out (cell_ne (hok21 _ (ge21_0.1 _ rfl)).2));have n2_:=Aside0.mk ((by rw [hw];exact below_set (HB.out) GB19.out:Below w.heap.size w w22));have n3_:=Aside0.mk (hm_);have n4_:=Aside0.mk ((Kd.R_reads' hm_).2.1);clear HO_5;clear HX108_0;clear HB;clear HL108_0;have HO_5:=n0_;have HX108_0:=n1_;have HB:=n2_;have HL113:=n3_;have HC111:=n4_;clear n0_ n1_ n2_ n3_ n4_;clear hg hw hp_ hz_ hm_ hok21))
        go_roundg k3
        case measure=>have:=HK1.out;have:=HK2.out;have:=HK3.out;omega
        case rel=>exact ⟨(y112),(wrap64 (x36_3+1)),rs,H',⟨by have:=HK1.out;have:=HK2.out;have:=HK3.out;omega⟩,⟨by (with_reducible repeat (first|apply Kd.S_alloc|apply Kd.S_drewN|apply Kd.S_drew));exact HO_5.out⟩,⟨bl⟩⟩
     rw [if_pos c11] at H
     have c11b0:((rd (rd_L1 l0 x17_1) x24_2) == 0)=true:=beq_iff_eq.mpr c11
     have c11b1:((rd (rd_L1 l0 x17_1) x24_2) != 0)=false:=bne_eq_false_iff_eq.mpr c11
     clear c11
     have H':=Aside0.mk H
     clear H
     have p105:0≤(x24_2:Int):=oD
     have q105:x24_2 < ((rd_L1 l0 x17_1).length:Int):=oD
     obtain ⟨ad105,e105,hx105_0⟩:=Kd.at_int HR104_0.out x24_2 p105 q105
     cases e105
     replace hx105_0:=hbc HB hx105_0
     replace p105:=eq_true p105
     replace q105:=eq_true q105
     go_wp2
     go_roundg k2
     case measure=>have:=HK1.out;have:=HK2.out;omega
     case rel=>exact ⟨(x5_2),(wrap64 (x24_2+1)),rs,H',⟨by have:=HK1.out;have:=HK2.out;omega⟩,⟨by (with_reducible repeat (first|apply Kd.S_alloc|apply Kd.S_drewN|apply Kd.S_drew));exact HO_5.out⟩,⟨bl⟩⟩
/-! ### F206: function 206 -/
def F206.l0 : Nat → Int → List (List Int) → Int → Int → Option (Int)
 | 0,_,_,_,_=>none
 | k+1,x3,x6,x7,x8=>if x8 < x7 then (if 0≤x8 then (if x8 < (x6.length:Int) then (if x8 < ((rd_L1 x6 x8).length:Int) then (F206.l0 k (wrap64 (x3+(rd (rd_L1 x6 x8) x8))) x6 x7 (wrap64 (x8+1))) else (none)) else (none)) else (none)) else (some x3)
def F206.f (k:Nat) (l0:List (List Int)):Option (Int):=F206.l0 k 0 l0 (l0.length:Int) 0
theorem F206.mono_l : ∀ k, (∀ y0 y1 y2 y3, LeO (F206.l0 k y0 y1 y2 y3) (F206.l0 (k + 1) y0 y1 y2 y3))
 | 0=>fun _ _ _ _ r h=>by simp [F206.l0] at h
 | k+1=>by
  have ih0:=F206.mono_l k
  ·intro y0 y1 y2 y3
   unfold F206.l0
   repeat' first
    | (with_reducible first|exact ih0 _ _ _ _|exact LeO.refl _|exact LeO.none _|refine LeO.ite ?_ ?_|refine LeO.bind ?_ (fun _=>?_))
    | exact ih0 _ _ _ _|exact LeO.none _|refine LeO.ite ?_ ?_|refine LeO.bind ?_ (fun _=>?_)
theorem F206.mono:∀ a0 k,LeO (F206.f k a0) (F206.f (k+1) a0):=by
 intro a0 k
 have ih0:=F206.mono_l k
 unfold F206.f
 repeat' first
  | (with_reducible first|exact ih0 _ _ _ _|exact LeO.refl _|exact LeO.none _|refine LeO.ite ?_ ?_|refine LeO.bind ?_ (fun _=>?_))
  | exact ih0 _ _ _ _|exact LeO.none _|refine LeO.ite ?_ ?_|refine LeO.bind ?_ (fun _=>?_)
set_option maxHeartbeats 8000000 in
set_option maxRecDepth 100000 in
theorem F206.calls (k : Nat) (A0 : Option Addr) (c0 : Nat) (l0 : List (List Int)) (r : Int) (w : World) (hr0 : Kd.C (Kd.slice 2 (Kd.int .i64)) w A0 l0.length l0) (hc0 : l0.length ≤ c0) (h : F206.f k l0 = some r) :
  Calls Try.prog 206 #[.slice A0 l0.length c0] w fun e w'=>e=.returned (.int .i64 r)∧Drawn0 w w':=by
 have HR0:=Aside0.mk hr0
 have HC0:=Aside0.mk hc0
 clear hr0 hc0
 have H:(F206.l0 k 0 l0 (l0.length:Int) 0)=some r:=h
 clear h
 have H':=Aside0.mk H
 clear H
 go_enter Try.func206,Try.ntmps206
 go_wp2
 go_loopg [3,8] k (fun kq v3 v8 w'=>∃ (x3_1:Int) (x8_1:Int),v3=.int .i64 x3_1∧v8=.int .i64 x8_1∧Aside0 (F206.l0 kq x3_1 l0 (l0.length:Int) x8_1=some r)∧Aside0 (kq≤k)∧Drawn0 w w')
 case atStart=>exact ⟨(0),(0),rs,rs,H',⟨Nat.le_refl _⟩,by repeat (first|exact Drawn0.refl _|apply Drawn0.step)⟩
 case round =>
  clear H'
  obtain ⟨x3_1,x8_1,rfl,rfl,HA,HK1,⟨m1,rfl⟩⟩:=hrel
  cases gk with
  | zero=>exact absurd HA.out (by simp [F206.l0])
  | succ k1 =>
   have H:=HA.out
   clear HA
   simp only [F206.l0] at H
   by_cases c2:x8_1 < (l0.length:Int)
   case neg =>
    rw [if_neg c2] at H
    have c2b0:decide (x8_1 < (l0.length:Int))=false:=decide_eq_false c2
    clear c2
    obtain rfl:=Option.some.inj H
    go_wp2
    go_ret
    exact ⟨by first|rfl|(simp;done)|(simp [*];done),by repeat (first|exact Drawn0.refl _|apply Drawn0.step)⟩
   rw [if_pos c2] at H
   have c2b0:=decide_eq_true c2
   clear c2
   replace H:=iS H;obtain ⟨c3,H⟩:=H
   have c3b0:=decide_eq_true c3
   clear c3
   replace H:=iS H;obtain ⟨c4,H⟩:=H
   have c4b0:=decide_eq_true c4
   clear c4
   replace H:=iS H;obtain ⟨c5,H⟩:=H
   have c5b0:=decide_eq_true c5
   clear c5
   have H':=Aside0.mk H
   clear H
   have p101:0≤(x8_1:Int):=oD
   have q101:x8_1 < (l0.length:Int):=oD
   obtain ⟨ad101,A101_0,c101_0,e101,hx101_0,hl101_0,hi101_0⟩:=at_L1 HR0.out x8_1 p101 q101
   cases e101
   have HR101_0:=Aside0.mk hi101_0
   have HC101_0:=Aside0.mk hl101_0
   clear hi101_0 hl101_0
   replace p101:=eq_true p101
   replace q101:=eq_true q101
   have p102:0≤(x8_1:Int):=oD
   have q102:x8_1 < ((rd_L1 l0 x8_1).length:Int):=oD
   obtain ⟨ad102,e102,hx102_0⟩:=Kd.at_int HR101_0.out x8_1 p102 q102
   cases e102
   replace p102:=eq_true p102
   replace q102:=eq_true q102
   go_wp2
   go_roundg k1
   case measure=>have:=HK1.out;omega
   case rel=>exact ⟨(wrap64 (x3_1+(rd (rd_L1 l0 x8_1) x8_1))),(wrap64 (x8_1+1)),rs,rs,H',⟨by have:=HK1.out;omega⟩,by repeat (first|exact Drawn0.refl _|apply Drawn0.step)⟩
end Go.Proofs.Ytoebojnhchocaaa.A
/- Set with little white space, by a program. -/
