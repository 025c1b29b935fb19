/- The functions that one law reaches, each as a Lean function, and that Go's call comes to what it says. Condition of each: that the Lean function answers (is not none). -/
import Derived.Test.YtoebojnhchocaaaAx0
import Derived.Test.YtoebojnhchocaaaAx4
namespace Go.Proofs.Ytoebojnhchocaaa.A
open Go.RowKit Go.Proofs.YtoebojnhchocaaaW.PrintWords Go.Proofs.YtoebojnhchocaaaW.PrintLast Go.Proofs.YtoebojnhchocaaaW.PrintMore
attribute [local go_sem] max2_int min2_int max_two min_two max_three min_three max_four min_four   -- for this text's walks alone
set_option linter.unusedVariables false
set_option linter.unusedSimpArgs false
/-! ### F136: function 136 -/
mutual
def F136.l0 : Nat → List (List Int) → List Int → Int → Option (List Int)
 | 0,_,_,_=>none
 | k+1,x0,x3,x4=>if x4 < (x0.length:Int) then (if 0≤x4 then (if x4 < ((rd_L1 x0 x4).length:Int) then (F136.l1 k x0 x3 x4 (([1,wrap64 (-(rd (rd_L1 x0 x4) x4))]:List Int)) (([]:List Int)) 0) else (none)) else (none)) else ((F160.f k x3).bind fun t104=>(some t104))
def F136.l1 : Nat → List (List Int) → List Int → Int → List Int → List Int → Int → Option (List Int)
 | 0,_,_,_,_,_,_=>none
 | k+1,x0,x3,x4,x5,x6,x7=>if x7 < x4 then (if 0≤x7 then (if x7 < (x0.length:Int) then (if 0≤x4 then (if x4 < ((rd_L1 x0 x7).length:Int) then (if x6.length < 17592186044416 then (F136.l1 k x0 x3 x4 x5 (x6 ++ [rd (rd_L1 x0 x7) x4]) (wrap64 (x7+1))) else (none)) else (none)) else (none)) else (none)) else (none)) else (F136.l2 k x0 x3 x4 x5 x6 0)
def F136.l2 : Nat → List (List Int) → List Int → Int → List Int → List Int → Int → Option (List Int)
 | 0,_,_,_,_,_,_=>none
 | k+1,x0,x3,x4,x5,x6,x8=>if x8 < x4 then (F136.l3 k x0 x3 x4 x5 x6 x8 0 (([]:List Int)) 0) else (if 0≤(wrap64 (x4+2)) then (if (wrap64 (x4+2):Int).toNat≤35184372088832 then (F136.l5 k x0 x3 x4 x5 (List.replicate (wrap64 (x4+2):Int).toNat 0) 0) else (none)) else (none))
def F136.l3 : Nat → List (List Int) → List Int → Int → List Int → List Int → Int → Int → List Int → Int → Option (List Int)
 | 0,_,_,_,_,_,_,_,_,_=>none
 | k+1,x0,x3,x4,x5,x6,x8,x9,x10,x11=>if x11 < x4 then (if 0≤x4 then (if x4 < (x0.length:Int) then (if 0≤x11 then (if x11 < ((rd_L1 x0 x4).length:Int) then (if x11 < (x6.length:Int) then (F136.l4 k x0 x3 x4 x5 x6 x8 (wrap64 (x9+(wrap64 ((rd (rd_L1 x0 x4) x11) * (rd x6 x11))))) x10 x11 0 0) else (none)) else (none)) else (none)) else (none)) else (none)) else (if x5.length < 17592186044416 then (F136.l2 k x0 x3 x4 (x5 ++ [wrap64 (-x9)]) x10 (wrap64 (x8+1))) else (none))
def F136.l4 : Nat → List (List Int) → List Int → Int → List Int → List Int → Int → Int → List Int → Int → Int → Int → Option (List Int)
 | 0,_,_,_,_,_,_,_,_,_,_,_=>none
 | k+1,x0,x3,x4,x5,x6,x8,x9,x10,x11,x12,x13=>if x13 < x4 then (if 0≤x11 then (if x11 < (x0.length:Int) then (if 0≤x13 then (if x13 < ((rd_L1 x0 x11).length:Int) then (if x13 < (x6.length:Int) then (F136.l4 k x0 x3 x4 x5 x6 x8 x9 x10 x11 (wrap64 (x12+(wrap64 ((rd (rd_L1 x0 x11) x13) * (rd x6 x13))))) (wrap64 (x13+1))) else (none)) else (none)) else (none)) else (none)) else (none)) else (if x10.length < 17592186044416 then (F136.l3 k x0 x3 x4 x5 x6 x8 x9 (x10 ++ [x12]) (wrap64 (x11+1))) else (none))
def F136.l5 : Nat → List (List Int) → List Int → Int → List Int → List Int → Int → Option (List Int)
 | 0,_,_,_,_,_,_=>none
 | k+1,x0,x3,x4,x5,x14,x15=>if x15 < (x14.length:Int) then (F136.l6 k x0 x3 x4 x5 x14 x15 0) else (F136.l0 k x0 x14 (wrap64 (x4+1)))
def F136.l6 : Nat → List (List Int) → List Int → Int → List Int → List Int → Int → Int → Option (List Int)
 | 0,_,_,_,_,_,_,_=>none
 | k+1,x0,x3,x4,x5,x14,x15,x16=>if x16 < (x3.length:Int) then (if x16≤x15 then (if 0≤x15 then (if x15 < (x14.length:Int) then (if 0≤(wrap64 (x15 - x16)) then (if (wrap64 (x15 - x16)) < (x5.length:Int) then (if 0≤x16 then (F136.l6 k x0 x3 x4 x5 (x14.set (x15:Int).toNat (wrap64 ((rd x14 x15)+(wrap64 ((rd x5 (wrap64 (x15 - x16))) * (rd x3 x16)))))) x15 (wrap64 (x16+1))) else (none)) else (none)) else (none)) else (none)) else (none)) else (F136.l5 k x0 x3 x4 x5 x14 (wrap64 (x15+1)))) else (F136.l5 k x0 x3 x4 x5 x14 (wrap64 (x15+1)))
end
def F136.f (k:Nat) (l0:List (List Int)):Option (List Int):=F136.l0 k l0 (([1]:List Int)) 0
theorem F136.mono_l : ∀ k, (∀ y0 y1 y2, LeO (F136.l0 k y0 y1 y2) (F136.l0 (k + 1) y0 y1 y2)) ∧ (∀ y0 y1 y2 y3 y4 y5, LeO (F136.l1 k y0 y1 y2 y3 y4 y5) (F136.l1 (k + 1) y0 y1 y2 y3 y4 y5)) ∧ (∀ y0 y1 y2 y3 y4 y5, LeO (F136.l2 k y0 y1 y2 y3 y4 y5) (F136.l2 (k + 1) y0 y1 y2 y3 y4 y5)) ∧ (∀ y0 y1 y2 y3 y4 y5 y6 y7 y8, LeO (F136.l3 k y0 y1 y2 y3 y4 y5 y6 y7 y8) (F136.l3 (k + 1) y0 y1 y2 y3 y4 y5 y6 y7 y8)) ∧ (∀ y0 y1 y2 y3 y4 y5 y6 y7 y8 y9 y10, LeO (F136.l4 k y0 y1 y2 y3 y4 y5 y6 y7 y8 y9 y10) (F136.l4 (k + 1) y0 y1 y2 y3 y4 y5 y6 y7 y8 y9 y10)) ∧ (∀ y0 y1 y2 y3 y4 y5, LeO (F136.l5 k y0 y1 y2 y3 y4 y5) (F136.l5 (k + 1) y0 y1 y2 y3 y4 y5)) ∧ (∀ y0 y1 y2 y3 y4 y5 y6, LeO (F136.l6 k y0 y1 y2 y3 y4 y5 y6) (F136.l6 (k + 1) y0 y1 y2 y3 y4 y5 y6))
 | 0=>⟨fun _ _ _ r h=>by simp [F136.l0] at h,fun _ _ _ _ _ _ r h=>by simp [F136.l1] at h,fun _ _ _ _ _ _ r h=>by simp [F136.l2] at h,fun _ _ _ _ _ _ _ _ _ r h=>by simp [F136.l3] at h,fun _ _ _ _ _ _ _ _ _ _ _ r h=>by simp [F136.l4] at h,fun _ _ _ _ _ _ r h=>by simp [F136.l5] at h,fun _ _ _ _ _ _ _ r h=>by simp [F136.l6] at h⟩
 | k+1=>by
  obtain ⟨ih0,ih1,ih2,ih3,ih4,ih5,ih6⟩:=F136.mono_l k
  refine ⟨?_, ?_, ?_, ?_, ?_, ?_, ?_⟩ <;> intros <;> (first | unfold F136.l0 | unfold F136.l1 | unfold F136.l2 | unfold F136.l3 | unfold F136.l4 | unfold F136.l5 | unfold F136.l6) <;> repeat' first
   | (with_reducible first|exact ih0 _ _ _|exact ih1 _ _ _ _ _ _|exact ih2 _ _ _ _ _ _|exact ih3 _ _ _ _ _ _ _ _ _|exact ih4 _ _ _ _ _ _ _ _ _ _ _|exact ih5 _ _ _ _ _ _|exact ih6 _ _ _ _ _ _ _|exact F160.mono _ _|exact LeO.refl _|exact LeO.none _|refine LeO.ite ?_ ?_|refine LeO.bind ?_ (fun _=>?_))
   | exact ih0 _ _ _|exact ih1 _ _ _ _ _ _|exact ih2 _ _ _ _ _ _|exact ih3 _ _ _ _ _ _ _ _ _|exact ih4 _ _ _ _ _ _ _ _ _ _ _|exact ih5 _ _ _ _ _ _|exact ih6 _ _ _ _ _ _ _|exact F160.mono _ _|exact LeO.none _|refine LeO.ite ?_ ?_|refine LeO.bind ?_ (fun _=>?_)
theorem F136.mono:∀ a0 k,LeO (F136.f k a0) (F136.f (k+1) a0):=by
 intro a0 k
 obtain ⟨ih0,ih1,ih2,ih3,ih4,ih5,ih6⟩:=F136.mono_l k
 unfold F136.f
 repeat' first
  | (with_reducible first|exact ih0 _ _ _|exact ih1 _ _ _ _ _ _|exact ih2 _ _ _ _ _ _|exact ih3 _ _ _ _ _ _ _ _ _|exact ih4 _ _ _ _ _ _ _ _ _ _ _|exact ih5 _ _ _ _ _ _|exact ih6 _ _ _ _ _ _ _|exact F160.mono _ _|exact LeO.refl _|exact LeO.none _|refine LeO.ite ?_ ?_|refine LeO.bind ?_ (fun _=>?_))
  | exact ih0 _ _ _|exact ih1 _ _ _ _ _ _|exact ih2 _ _ _ _ _ _|exact ih3 _ _ _ _ _ _ _ _ _|exact ih4 _ _ _ _ _ _ _ _ _ _ _|exact ih5 _ _ _ _ _ _|exact ih6 _ _ _ _ _ _ _|exact F160.mono _ _|exact LeO.none _|refine LeO.ite ?_ ?_|refine LeO.bind ?_ (fun _=>?_)
def F136.T17:Bool × List (List Nat × List Nat):=(true,[([],[]),([],[]),([],[]),([1,2],[1,2]),([3],[3]),([],[]),([4,5],[4,5]),([6],[6]),([],[]),([],[]),([8,9],[8,9]),([10],[10]),([7,11],[7,11]),([0,12],[0,12]),([13,0,1,2,3,4,5,6,7,8,9,10,11,12,13],[0,13])])
def F136.B17:List Nat:=[0,0,0,6,14,0,62,126,0,0,768,1792,4094,8191,16383]
theorem F136.tab17:rtab .any (opsOf Try.f136 17)=F136.T17:=by kernel_rfl
theorem F136.bits17:waitsOk F136.T17.2 F136.B17=true:=by kernel_rfl
def F136.T22:Bool × List (List Nat × List Nat):=(true,[([],[]),([],[]),([],[]),([1,2],[1,2]),([3],[3]),([],[]),([4,5],[4,5]),([6],[6]),([],[]),([],[]),([8,9],[8,9]),([10],[10]),([7,11],[7,11]),([0,12],[0,12]),([13,0,1,2,3,4,5,6,7,8,9,10,11,12,13],[0,13])])
def F136.B22:List Nat:=[0,0,0,6,14,0,62,126,0,0,768,1792,4094,8191,16383]
theorem F136.tab22:rtab .any (opsOf Try.f136 22)=F136.T22:=by kernel_rfl
theorem F136.bits22:waitsOk F136.T22.2 F136.B22=true:=by kernel_rfl
def F136.T33:Bool × List (List Nat × List Nat):=(true,[([],[]),([],[]),([],[]),([],[]),([2,3],[2,3]),([4],[4]),([],[]),([],[]),([],[]),([7,8],[7,8]),([6,9],[6,9]),([10],[10]),([],[]),([],[]),([12,13],[12,13]),([14],[14]),([11,15],[11,15]),([5,16],[5,16]),([0,1,0,1,2,3,4,5,6,7,8,9,10,11,12,13,14,15,16,17],[0,1]),([18,17,0,1,2,3,4,5,6,7,8,9,10,11,12,13,14,15,16,17],[17,18])])
def F136.B33:List Nat:=[0,0,0,0,12,28,0,0,0,384,960,1984,0,0,12288,28672,65472,131068,262143,524287]
theorem F136.tab33:rtab .any (opsOf Try.f136 33)=F136.T33:=by kernel_rfl
theorem F136.bits33:waitsOk F136.T33.2 F136.B33=true:=by kernel_rfl
set_option maxHeartbeats 8000000 in
set_option maxRecDepth 100000 in
theorem F136.calls (k : Nat) (A0 : Option Addr) (c0 : Nat) (l0 : List (List Int)) (r : List Int) (w : World) (hr0 : Kd.C (Kd.slice 2 (Kd.int .i64)) w A0 l0.length l0) (hc0 : l0.length ≤ c0) (h : F136.f k l0 = some r) :
  Calls Try.prog 136 #[.slice A0 l0.length c0] w fun e w'=>∃ v0_:Value,e=.returned (v0_)∧Kd.R (Kd.int .i64) 2 w' w.heap.size (fun _=>True) v0_ r∧Below w.heap.size w w':=by
 have HR0:=Aside0.mk hr0
 have HC0:=Aside0.mk hc0
 clear hr0 hc0
 have HB:=Aside0.mk (Below.refl w.heap.size w)
 have H:(F136.l0 k l0 (([1]:List Int)) 0)=some r:=h
 clear h
 obtain ⟨y101,hy101⟩:∃ y_:List Int,y_=(([1]:List Int)):=⟨_,rfl⟩
 replace H:(F136.l0 k l0 y101 0)=some r:=by first|(rw [hy101];with_reducible exact H)|(have H2_:=(Option.bind_some _ _).symm.trans H;rw [hy101];with_reducible exact H2_)|(have H2_:=(Option.bind_some _ _).symm.trans H;with_reducible exact H2_)|with_reducible exact H|(rw [hy101];exact H)|exact H
 have Ny101:=Aside0.mk hy101
 clear hy101
 have H':=Aside0.mk H
 clear H
 go_enter Try.func136,Try.ntmps136
 go_wp2_with (first|((with_reducible refine gate_dst (N:=17) rfl ?_);refine Kd.R_lit (Kd.int .i64) _ 2 ?hg (N:=17) ?hd (xs:=([1]:List Int)) (inner:=[.int .i64 1]) (ok:=fun _=>True) (okp:=fun _=>True) ?hr ?hp (fun _ hk=>hk) trivial (Below.refl _ _) (Nat.le_refl _) (by simp) ?_;(case hd=>rfl);(case hg=>rfl);(case hr=>first|(go_simp;done)|(go_simp;rfl));(case hp=>exact (Reps.one (show Kd.M (Kd.int .i64) _ _ _ 1 [.int .i64 1] from rfl) (Reps.none _ _)));intro v102 w2 ho3 hb hg_ hnew_;clear hg_ hnew_;(first|rw [← Ny101.out] at ho3|(simp only [Int.reduceToNat] at ho3;rw [← Ny101.out] at ho3));have HO103:=Aside0.mk (Kd.R_lower ho3 (below_size bl));replace HB:=Aside0.mk (below_step bl hb);clear hb ho3))
 go_loopg [3,4] k (fun kq v3 v4 w'=>∃ (x3_1:List Int) (x4_1:Int),v4=.int .i64 x4_1∧Aside0 (F136.l0 kq l0 x3_1 x4_1=some r)∧Aside0 (kq≤k)∧Aside0 (Kd.R (Kd.int .i64) 2 w' w.heap.size (fun _=>True) v3 x3_1)∧Aside0 (Below w.heap.size w w'))
 case atStart=>exact ⟨(y101),(0),rs,H',⟨Nat.le_refl _⟩,⟨by (with_reducible repeat (first|apply Kd.R_alloc|apply Kd.R_drewN|apply Kd.R_drew));exact HO103.out⟩,⟨bl⟩⟩
 case round =>
  clear H'
  (try clear c1);(try clear p2)
  obtain ⟨x3_1,x4_1,rfl,HA,HK1,HO_3,HB⟩:=hrel
  cases gk with
  | zero=>exact absurd HA.out (by simp [F136.l0])
  | succ k1 =>
   have H:=HA.out
   clear HA
   simp only [F136.l0] at H
   by_cases c4:x4_1 < (l0.length:Int)
   case neg =>
    rw [if_neg c4] at H
    have c4b0:decide (x4_1 < (l0.length:Int))=false:=decide_eq_false c4
    clear c4
    replace H:=Option.bind_eq_some_iff.mp H
    obtain ⟨t104,A630,H⟩:=H
    replace H:(some t104)=some r:=H
    have A63:=Aside0.mk A630
    clear A630
    obtain rfl:=Option.some.inj H
    obtain ⟨Ao64,co64,eo64⟩:=Kd.R_slice HO_3.out
    subst eo64
    go_wp2_with (first|((with_reducible refine gate_callee (f:=160) rfl ?_);refine goesL_ (some 144) rfl rfl Try.func160 (by kernel_rfl) rfl #[.slice Ao64 x3_1.length co64] rfl gm ?_;(with_reducible refine (F160.calls k1 _ _ x3_1 t104 _ ?side1 ?side2 A63.out).mono ?_);(case side1=>exact aC ((Kd.R_reads' HO_3.out).2.2));(case side2=>exact (Kd.R_reads' HO_3.out).2.1);rintro e w65 ⟨v105,rfl,ho0,hb⟩;refine ⟨_,rfl,?_⟩;have HO106:=Aside0.mk (Kd.R_lower (Kd.R_new' ho0 (Kd.R_lt (aR HO_3.out))) (below_size bl));replace HO_3:=Aside0.mk (Kd.R_elder' (aR HO_3.out) (Kd.R_base ho0) hb);replace HB:=Aside0.mk (below_step bl hb);(try clear hb);(try clear hb2);(try clear hk);(try clear hi);(try clear ho0)))
    go_ret
    exact ⟨_,by first|rfl|(simp [errW_none,errW_some]<;>rfl)|(simp [*,errW_none,errW_some]<;>rfl),by (with_reducible repeat (first|apply Kd.R_alloc|apply Kd.R_drewN|apply Kd.R_drew));exact Kd.R_mono HO106.out (fun _ hk=>trivial),bl⟩
   rw [if_pos c4] at H
   have c4b0:=decide_eq_true c4
   clear c4
   replace H:=iS H;obtain ⟨c5,H⟩:=H
   have c5b0:=decide_eq_true c5
   clear c5
   replace H:=iS H;obtain ⟨c6,H⟩:=H
   have c6b0:=decide_eq_true c6
   clear c6
   obtain ⟨y109,hy109⟩:∃ y_:List Int,y_=(([1,wrap64 (-(rd (rd_L1 l0 x4_1) x4_1))]:List Int)):=⟨_,rfl⟩
   replace H:(F136.l1 k1 l0 x3_1 x4_1 y109 (([]:List Int)) 0)=some r:=by first|(rw [hy109];with_reducible exact H)|(have H2_:=(Option.bind_some _ _).symm.trans H;rw [hy109];with_reducible exact H2_)|(have H2_:=(Option.bind_some _ _).symm.trans H;with_reducible exact H2_)|with_reducible exact H|(rw [hy109];exact H)|exact H
   have Ny109:=Aside0.mk hy109
   clear hy109
   obtain ⟨y112,hy112⟩:∃ y_:List Int,y_=(([]:List Int)):=⟨_,rfl⟩
   replace H:(F136.l1 k1 l0 x3_1 x4_1 y109 y112 0)=some r:=by first|(rw [hy112];with_reducible exact H)|(have H2_:=(Option.bind_some _ _).symm.trans H;rw [hy112];with_reducible exact H2_)|(have H2_:=(Option.bind_some _ _).symm.trans H;with_reducible exact H2_)|with_reducible exact H|(rw [hy112];exact H)|exact H
   have Ny112:=Aside0.mk hy112
   clear hy112
   have H':=Aside0.mk H
   clear H
   have p107:0≤(x4_1:Int):=oD
   have q107:x4_1 < (l0.length:Int):=oD
   obtain ⟨ad107,A107_0,c107_0,e107,hx107_0,hl107_0,hi107_0⟩:=at_L1 HR0.out x4_1 p107 q107
   cases e107
   replace hx107_0:=hbc HB hx107_0
   have HR107_0:=Aside0.mk hi107_0
   have HC107_0:=Aside0.mk hl107_0
   clear hi107_0 hl107_0
   replace p107:=eq_true p107
   replace q107:=eq_true q107
   have p108:0≤(x4_1:Int):=oD
   have q108:x4_1 < ((rd_L1 l0 x4_1).length:Int):=oD
   obtain ⟨ad108,e108,hx108_0⟩:=Kd.at_int HR107_0.out x4_1 p108 q108
   cases e108
   replace hx108_0:=hbc HB hx108_0
   replace p108:=eq_true p108
   replace q108:=eq_true q108
   go_wp2_with (first|((with_reducible refine gate_dst (N:=32) rfl ?_);refine Kd.R_lit (Kd.int .i64) _ 2 ?hg (N:=32) ?hd (xs:=([1,wrap64 (-(rd (rd_L1 l0 x4_1) x4_1))]:List Int)) (inner:=[.int .i64 1,.int .i64 (wrap64 (-(rd (rd_L1 l0 x4_1) x4_1)))]) (ok:=fun _=>True) (okp:=fun _=>True) ?hr ?hp (fun _ hk=>hk) trivial (Below.refl _ _) (Nat.le_refl _) (by simp) ?_;(case hd=>rfl);(case hg=>rfl);(case hr=>first|(go_simp;done)|(go_simp;rfl));(case hp=>exact (Reps.one (show Kd.M (Kd.int .i64) _ _ _ 1 [.int .i64 1] from rfl) (Reps.one (show Kd.M (Kd.int .i64) _ _ _ (wrap64 (-(rd (rd_L1 l0 x4_1) x4_1))) [.int .i64 (wrap64 (-(rd (rd_L1 l0 x4_1) x4_1)))] from rfl) (Reps.none _ _))));intro v110 w7 ho8 hb hg_ hnew_;clear hg_ hnew_;(first|rw [← Ny109.out] at ho8|(simp only [Int.reduceToNat] at ho8;rw [← Ny109.out] at ho8));have HO111:=Aside0.mk (Kd.R_lower (Kd.R_new' ho8 (Kd.R_lt (aR HO_3.out))) (below_size bl));replace HO_3:=Aside0.mk (Kd.R_elder' (aR HO_3.out) (Kd.R_base ho8) hb);replace HB:=Aside0.mk (below_step bl hb);clear hb ho8)|((with_reducible refine gate_dst (N:=33) rfl ?_);refine Kd.R_lit (Kd.int .i64) _ 2 ?hg (N:=33) ?hd (xs:=([]:List Int)) (inner:=[]) (ok:=fun _=>True) (okp:=fun _=>True) ?hr ?hp (fun _ hk=>hk) trivial (Below.refl _ _) (Nat.le_refl _) (by simp) ?_;(case hd=>rfl);(case hg=>rfl);(case hr=>first|(go_simp;done)|(go_simp;rfl));(case hp=>exact (Reps.none _ _));intro v113 w9 ho10 hb hg_ hnew_;clear hg_ hnew_;(first|rw [← Ny112.out] at ho10|(simp only [Int.reduceToNat] at ho10;rw [← Ny112.out] at ho10));have HO114:=Aside0.mk (Kd.R_lower (Kd.R_new' (Kd.R_new' ho10 (Kd.R_lt (aR HO_3.out))) (Kd.R_lt (aR HO111.out))) (below_size bl));replace HO_3:=Aside0.mk (Kd.R_elder' (aR HO_3.out) (Kd.R_base ho10) hb);replace HO111:=Aside0.mk (Kd.R_elder' (aR HO111.out) (Kd.R_base ho10) hb);replace HB:=Aside0.mk (below_step bl hb);clear hb ho10))
   go_loopg [6,7] k1 (fun kq v6 v7 w'=>∃ (x6_2:List Int) (x7_2:Int),v7=.int .i64 x7_2∧Aside0 (F136.l1 kq l0 x3_1 x4_1 y109 x6_2 x7_2=some r)∧Aside0 (kq≤k1)∧Aside0 (Kd.R (Kd.int .i64) 2 w' w.heap.size (fun k_=>some k_ ≠ (v110:Value).ownBlock∧some k_ ≠ (v6:Value).ownBlock) u3 x3_1)∧Aside0 (Kd.R (Kd.int .i64) 2 w' w.heap.size (fun k_=>some k_ ≠ (u3:Value).ownBlock∧some k_ ≠ (v6:Value).ownBlock) v110 y109)∧Aside0 (Kd.R (Kd.int .i64) 2 w' w.heap.size (fun k_=>some k_ ≠ (u3:Value).ownBlock∧some k_ ≠ (v110:Value).ownBlock) v6 x6_2)∧Aside0 (Below w.heap.size w w'))
   case atStart=>exact ⟨(y112),(0),rs,H',⟨Nat.le_refl _⟩,⟨by (with_reducible repeat (first|apply Kd.R_alloc|apply Kd.R_drewN|apply Kd.R_drew));exact Kd.R_mono HO_3.out (fun _ hk=>⟨hk.1.2,hk.2⟩)⟩,⟨by (with_reducible repeat (first|apply Kd.R_alloc|apply Kd.R_drewN|apply Kd.R_drew));exact Kd.R_mono HO111.out (fun _ hk=>⟨hk.1.2,hk.2⟩)⟩,⟨by (with_reducible repeat (first|apply Kd.R_alloc|apply Kd.R_drewN|apply Kd.R_drew));exact Kd.R_mono HO114.out (fun _ hk=>⟨hk.1.2,hk.2⟩)⟩,⟨bl⟩⟩
   case round =>
    clear H'
    (try clear c1);(try clear p1);(try clear q1);(try clear hx1);(try clear p2);(try clear c4);(try clear c4b0);(try clear c5);(try clear c5b0);(try clear c6);(try clear c6b0);(try clear p6);(try clear c10);(try clear p10);(try clear q10);(try clear hx10);(try clear hx107_0);(try clear hx108_0);(try clear p107);(try clear p108);(try clear p2);(try clear q107);(try clear q108)
    obtain ⟨x6_2,x7_2,rfl,HA,HK2,HO_3,HO_5,HO_6,HB⟩:=hrel
    cases gk with
    | zero=>exact absurd HA.out (by simp [F136.l1])
    | succ k2 =>
     have H:=HA.out
     clear HA
     simp only [F136.l1] at H
     by_cases c11:x7_2 < x4_1
     case neg =>
      rw [if_neg c11] at H
      have c11b0:decide (x7_2 < x4_1)=false:=decide_eq_false c11
      clear c11
      have H':=Aside0.mk H
      clear H
      go_wp2
      go_loopg [5,6,8] k2 (fun kq v5 v6 v8 w'=>∃ (x5_3:List Int) (x6_3:List Int) (x8_3:Int),v8=.int .i64 x8_3∧Aside0 (F136.l2 kq l0 x3_1 x4_1 x5_3 x6_3 x8_3=some r)∧Aside0 (kq≤k2)∧Aside0 (Kd.R (Kd.int .i64) 2 w' w.heap.size (fun k_=>some k_ ≠ (v5:Value).ownBlock∧some k_ ≠ (v6:Value).ownBlock) u3 x3_1)∧Aside0 (Kd.R (Kd.int .i64) 2 w' w.heap.size (fun k_=>some k_ ≠ (u3:Value).ownBlock∧some k_ ≠ (v6:Value).ownBlock) v5 x5_3)∧Aside0 (Kd.R (Kd.int .i64) 2 w' w.heap.size (fun k_=>some k_ ≠ (u3:Value).ownBlock∧some k_ ≠ (v5:Value).ownBlock) v6 x6_3)∧Aside0 (Below w.heap.size w w'))
      case atStart=>exact ⟨(y109),(x6_2),(0),rs,H',⟨Nat.le_refl _⟩,⟨by (with_reducible repeat (first|apply Kd.R_alloc|apply Kd.R_drewN|apply Kd.R_drew));exact HO_3.out⟩,⟨by (with_reducible repeat (first|apply Kd.R_alloc|apply Kd.R_drewN|apply Kd.R_drew));exact HO_5.out⟩,⟨by (with_reducible repeat (first|apply Kd.R_alloc|apply Kd.R_drewN|apply Kd.R_drew));exact HO_6.out⟩,⟨bl⟩⟩
      case round =>
       clear H'
       (try clear c1);(try clear p1);(try clear q1);(try clear hx1);(try clear p2);(try clear c4);(try clear c4b0);(try clear c5);(try clear c5b0);(try clear c6);(try clear c6b0);(try clear p6);(try clear c10);(try clear p10);(try clear q10);(try clear hx10);(try clear c11);(try clear c11b0);(try clear p11);(try clear q11);(try clear hx11);(try clear c12);(try clear c12b0);(try clear c13);(try clear c13b0);(try clear c14);(try clear c14b0);(try clear c15);(try clear c15b0);(try clear c16);(try clear hx107_0);(try clear hx108_0);(try clear hx115_0);(try clear hx116_0);(try clear p1);(try clear p10);(try clear p107);(try clear p108);(try clear p115);(try clear p116);(try clear p2);(try clear p6);(try clear q1);(try clear q10);(try clear q107);(try clear q108);(try clear q115);(try clear q116)
       obtain ⟨x5_3,x6_3,x8_3,rfl,HA,HK3,HO_3,HO_5,HO_6,HB⟩:=hrel
       cases gk with
       | zero=>exact absurd HA.out (by simp [F136.l2])
       | succ k3 =>
        have H:=HA.out
        clear HA
        simp only [F136.l2] at H
        by_cases c18:x8_3 < x4_1
        case neg =>
         rw [if_neg c18] at H
         have c18b0:decide (x8_3 < x4_1)=false:=decide_eq_false c18
         clear c18
         obtain ⟨ji40,hji40⟩:∃ j_:Int,(wrap64 (x4_1+2))=j_:=⟨_,rfl⟩
         replace H:(if 0≤(ji40) then (if (ji40:Int).toNat≤35184372088832 then (F136.l5 k3 l0 x3_1 x4_1 x5_3 (List.replicate (ji40:Int).toNat 0) 0) else (none)) else (none))=some r:=by first|(rw [hji40] at H;exact H)|(simp only [hji40] at H ⊢;exact H)
         have hji40w:(IntKind.i64.wrap (x4_1+2))=ji40:=(i64_w _).trans hji40
         replace H:=iS H;obtain ⟨c41,H⟩:=H
         have c41b0:=eq_true c41
         have c41b1:=decide_eq_true c41
         clear c41
         replace H:=iS H;obtain ⟨c42,H⟩:=H
         have c42b0:=eq_true c42
         have c42b1:=decide_eq_true c42
         clear c42
         obtain ⟨y135,hy135⟩:∃ y_:List Int,y_=(List.replicate (ji40:Int).toNat 0):=⟨_,rfl⟩
         replace H:(F136.l5 k3 l0 x3_1 x4_1 x5_3 y135 0)=some r:=by first|(rw [hy135];with_reducible exact H)|(have H2_:=(Option.bind_some _ _).symm.trans H;rw [hy135];with_reducible exact H2_)|(have H2_:=(Option.bind_some _ _).symm.trans H;with_reducible exact H2_)|with_reducible exact H|(rw [hy135];exact H)|exact H
         have Ny135:=Aside0.mk hy135
         clear hy135
         have H':=Aside0.mk H
         clear H
         go_wp2_with (first|((with_reducible refine gate_dst (N:=105) rfl ?_);refine Kd.R_make (Kd.int .i64) _ 2 rfl (N:=105) rfl 28 _ _ rfl ji40 rfl rfl Try.underlying28 (.int .i64 0) 8 info2 rfl (by decide) (by omega) 0 (ok:=fun _=>True) (okp:=fun _=>True) rfl (fun _ hk=>hk) trivial oD (Nat.le_trans (Nat.mul_le_mul_right _ (oD:ji40.toNat≤35184372088832)) (by omega)) (Below.refl _ _) (Nat.le_refl _) ?_;intro v136 w43 ho44 hb hg_ hnew_;clear hg_ hnew_;(first|rw [← Ny135.out] at ho44|(simp only [Int.reduceToNat] at ho44;rw [← Ny135.out] at ho44));have HO137:=Aside0.mk (Kd.R_lower (Kd.R_new' (Kd.R_new' (Kd.R_new' ho44 (Kd.R_lt (aR HO_3.out))) (Kd.R_lt (aR HO_5.out))) (Kd.R_lt (aR HO_6.out))) (below_size bl));replace HO_3:=Aside0.mk (Kd.R_elder' (aR HO_3.out) (Kd.R_base ho44) hb);replace HO_5:=Aside0.mk (Kd.R_elder' (aR HO_5.out) (Kd.R_base ho44) hb);replace HO_6:=Aside0.mk (Kd.R_elder' (aR HO_6.out) (Kd.R_base ho44) hb);replace HB:=Aside0.mk (below_step bl hb);clear hb ho44))
         go_loopg [15] k3 (fun kq v15 w'=>∃ (x14_4:List Int) (x15_4:Int),v15=.int .i64 x15_4∧Aside0 (F136.l5 kq l0 x3_1 x4_1 x5_3 x14_4 x15_4=some r)∧Aside0 (kq≤k3)∧Aside0 (Kd.R (Kd.int .i64) 2 w' w.heap.size (fun k_=>some k_ ≠ (u5:Value).ownBlock∧some k_ ≠ (v136:Value).ownBlock) u3 x3_1)∧Aside0 (Kd.R (Kd.int .i64) 2 w' w.heap.size (fun k_=>some k_ ≠ (u3:Value).ownBlock∧some k_ ≠ (v136:Value).ownBlock) u5 x5_3)∧Aside0 (Kd.R (Kd.int .i64) 2 w' w.heap.size (fun k_=>some k_ ≠ (u3:Value).ownBlock∧some k_ ≠ (u5:Value).ownBlock) v136 x14_4)∧Aside0 (Below w.heap.size w w'))
         case atStart=>exact ⟨(y135),(0),rs,H',⟨Nat.le_refl _⟩,⟨by (with_reducible repeat (first|apply Kd.R_alloc|apply Kd.R_drewN|apply Kd.R_drew));exact Kd.R_mono HO_3.out (fun _ hk=>⟨hk.1.1,hk.2⟩)⟩,⟨by (with_reducible repeat (first|apply Kd.R_alloc|apply Kd.R_drewN|apply Kd.R_drew));exact Kd.R_mono HO_5.out (fun _ hk=>⟨hk.1.1,hk.2⟩)⟩,⟨by (with_reducible repeat (first|apply Kd.R_alloc|apply Kd.R_drewN|apply Kd.R_drew));exact Kd.R_mono HO137.out (fun _ hk=>⟨hk.1.1.2,hk.1.2⟩)⟩,⟨bl⟩⟩
         case round =>
          clear H'
          (try clear c1);(try clear p1);(try clear q1);(try clear hx1);(try clear c2);(try clear p2);(try clear c3);(try clear c4);(try clear c4b0);(try clear c5);(try clear c5b0);(try clear c6);(try clear c6b0);(try clear p6);(try clear c10);(try clear p10);(try clear q10);(try clear hx10);(try clear c11);(try clear c11b0);(try clear p11);(try clear q11);(try clear hx11);(try clear c12);(try clear c12b0);(try clear p12);(try clear q12);(try clear hx12);(try clear c13);(try clear c13b0);(try clear p13);(try clear q13);(try clear hx13);(try clear c14);(try clear c14b0);(try clear c15);(try clear c15b0);(try clear c16);(try clear c18);(try clear c18b0);(try clear c21);(try clear c21b0);(try clear c22);(try clear c22b0);(try clear c23);(try clear c23b0);(try clear c24);(try clear c24b0);(try clear c25);(try clear c25b0);(try clear c26);(try clear c26b0);(try clear c29);(try clear c29b0);(try clear c30);(try clear c30b0);(try clear c31);(try clear c31b0);(try clear c32);(try clear c32b0);(try clear c33);(try clear c33b0);(try clear c34);(try clear c34b0);(try clear c36);(try clear c38);(try clear c41);(try clear c41b0);(try clear c41b1);(try clear c42);(try clear c42b0);(try clear c42b1);(try clear hx107_0);(try clear hx108_0);(try clear hx115_0);(try clear hx116_0);(try clear hx126_0);(try clear hx127_0);(try clear hx128_0);(try clear hx129_0);(try clear hx130_0);(try clear hx131_0);(try clear p1);(try clear p10);(try clear p107);(try clear p108);(try clear p11);(try clear p115);(try clear p116);(try clear p12);(try clear p126);(try clear p127);(try clear p128);(try clear p129);(try clear p130);(try clear p131);(try clear p2);(try clear p6);(try clear q1);(try clear q10);(try clear q107);(try clear q108);(try clear q11);(try clear q115);(try clear q116);(try clear q12);(try clear q126);(try clear q127);(try clear q128);(try clear q129);(try clear q130);(try clear q131)
          obtain ⟨x14_4,x15_4,rfl,HA,HK4,HO_3,HO_5,HO_14,HB⟩:=hrel
          cases gk with
          | zero=>exact absurd HA.out (by simp [F136.l5])
          | succ k4 =>
           have H:=HA.out
           clear HA
           simp only [F136.l5] at H
           by_cases c45:x15_4 < (x14_4.length:Int)
           case neg =>
            rw [if_neg c45] at H
            have c45b0:decide (x15_4 < (x14_4.length:Int))=false:=decide_eq_false c45
            clear c45
            have H':=Aside0.mk H
            clear H
            obtain ⟨Ao62,co62,eo62⟩:=Kd.R_slice HO_14.out
            subst eo62
            go_wp2
            first|go_roundg k4|(simp only [← hji40];go_roundg k4)|(simp only [← hji51];go_roundg k4)
            case measure=>have:=HK1.out;have:=HK2.out;have:=HK3.out;have:=HK4.out;omega
            case rel=>exact ⟨(x14_4),(wrap64 (x4_1+1)),rs,(by first|exact H'|(rw [hji40];exact H')|(rw [hji51];exact H')),⟨by have:=HK1.out;have:=HK2.out;have:=HK3.out;have:=HK4.out;omega⟩,⟨by (with_reducible repeat (first|apply Kd.R_alloc|apply Kd.R_drewN|apply Kd.R_drew));exact Kd.R_mono HO_14.out (fun _ hk=>trivial)⟩,⟨bl⟩⟩
           rw [if_pos c45] at H
           have c45b0:=decide_eq_true c45
           clear c45
           have H':=Aside0.mk H
           clear H
           obtain ⟨Ao46,co46,eo46⟩:=Kd.R_slice HO_14.out
           subst eo46
           go_wp2
           go_loopg [16] k4 (fun kq v16 w'=>∃ (x14_5:List Int) (x16_5:Int),v16=.int .i64 x16_5∧Aside0 (F136.l6 kq l0 x3_1 x4_1 x5_3 x14_5 x15_4 x16_5=some r)∧Aside0 (kq≤k4)∧Aside0 (Kd.R (Kd.int .i64) 2 w' w.heap.size (fun k_=>some k_ ≠ (u5:Value).ownBlock∧some k_ ≠ ((.slice Ao46 x14_4.length co46):Value).ownBlock) u3 x3_1)∧Aside0 (Kd.R (Kd.int .i64) 2 w' w.heap.size (fun k_=>some k_ ≠ (u3:Value).ownBlock∧some k_ ≠ ((.slice Ao46 x14_4.length co46):Value).ownBlock) u5 x5_3)∧Aside0 (Kd.R (Kd.int .i64) 2 w' w.heap.size (fun k_=>some k_ ≠ (u3:Value).ownBlock∧some k_ ≠ (u5:Value).ownBlock) (.slice Ao46 x14_4.length co46) x14_5)∧Aside0 (Below w.heap.size w w'))
           case atStart=>exact ⟨(x14_4),(0),rs,H',⟨Nat.le_refl _⟩,⟨by (with_reducible repeat (first|apply Kd.R_alloc|apply Kd.R_drewN|apply Kd.R_drew));exact HO_3.out⟩,⟨by (with_reducible repeat (first|apply Kd.R_alloc|apply Kd.R_drewN|apply Kd.R_drew));exact HO_5.out⟩,⟨by (with_reducible repeat (first|apply Kd.R_alloc|apply Kd.R_drewN|apply Kd.R_drew));exact HO_14.out⟩,⟨bl⟩⟩
           case round =>
            clear H'
            (try clear c1);(try clear p1);(try clear q1);(try clear hx1);(try clear c2);(try clear p2);(try clear c3);(try clear c4);(try clear c4b0);(try clear c5);(try clear c5b0);(try clear c6);(try clear c6b0);(try clear p6);(try clear c10);(try clear p10);(try clear q10);(try clear hx10);(try clear c11);(try clear c11b0);(try clear p11);(try clear q11);(try clear hx11);(try clear c12);(try clear c12b0);(try clear p12);(try clear q12);(try clear hx12);(try clear c13);(try clear c13b0);(try clear p13);(try clear q13);(try clear hx13);(try clear c14);(try clear c14b0);(try clear c15);(try clear c15b0);(try clear c16);(try clear c18);(try clear c18b0);(try clear c21);(try clear c21b0);(try clear c22);(try clear c22b0);(try clear c23);(try clear c23b0);(try clear c24);(try clear c24b0);(try clear c25);(try clear c25b0);(try clear c26);(try clear c26b0);(try clear c29);(try clear c29b0);(try clear c30);(try clear c30b0);(try clear c31);(try clear c31b0);(try clear c32);(try clear c32b0);(try clear c33);(try clear c33b0);(try clear c34);(try clear c34b0);(try clear c36);(try clear c38);(try clear c41);(try clear c41b0);(try clear c41b1);(try clear c42);(try clear c42b0);(try clear c42b1);(try clear c45);(try clear c45b0);(try clear hx107_0);(try clear hx108_0);(try clear hx115_0);(try clear hx116_0);(try clear hx126_0);(try clear hx127_0);(try clear hx128_0);(try clear hx129_0);(try clear hx130_0);(try clear hx131_0);(try clear p1);(try clear p10);(try clear p107);(try clear p108);(try clear p11);(try clear p115);(try clear p116);(try clear p12);(try clear p126);(try clear p127);(try clear p128);(try clear p129);(try clear p13);(try clear p130);(try clear p131);(try clear p2);(try clear p6);(try clear q1);(try clear q10);(try clear q107);(try clear q108);(try clear q11);(try clear q115);(try clear q116);(try clear q12);(try clear q126);(try clear q127);(try clear q128);(try clear q129);(try clear q13);(try clear q130);(try clear q131)
            obtain ⟨x14_5,x16_5,rfl,HA,HK5,HO_3,HO_5,HO_14,HB⟩:=hrel
            have hl14_5:=(Kd.R_reads' HO_14.out).1
            rw [hl14_5] at HO_14
            (try simp only [hl14_5])
            (try simp only [hl14_5] at HO_3)
            (try simp only [hl14_5] at HO_5)
            cases gk with
            | zero=>exact absurd HA.out (by simp [F136.l6])
            | succ k5 =>
             have H:=HA.out
             clear HA
             simp only [F136.l6] at H
             by_cases c47:x16_5 < (x3_1.length:Int)
             case neg =>
              rw [if_neg c47] at H
              have c47b0:decide (x16_5 < (x3_1.length:Int))=false:=decide_eq_false c47
              (try simp only [hl14_5] at c47b0)
              clear c47
              have H':=Aside0.mk H
              clear H
              obtain ⟨Ao61,co61,eo61⟩:=Kd.R_slice HO_3.out
              subst eo61
              go_wp2
              (try simp only [← hl14_5])
              first|go_roundg k5|(simp only [← hji40];go_roundg k5)|(simp only [← hji51];go_roundg k5)
              case measure=>have:=HK1.out;have:=HK2.out;have:=HK3.out;have:=HK4.out;have:=HK5.out;omega
              case rel=>exact ⟨(x14_5),(wrap64 (x15_4+1)),rs,(by first|exact H'|(rw [hji40];exact H')|(rw [hji51];exact H')),⟨by have:=HK1.out;have:=HK2.out;have:=HK3.out;have:=HK4.out;have:=HK5.out;omega⟩,⟨by (try simp only [hl14_5]);(with_reducible repeat (first|apply Kd.R_alloc|apply Kd.R_drewN|apply Kd.R_drew));exact HO_3.out⟩,⟨by (try simp only [hl14_5]);(with_reducible repeat (first|apply Kd.R_alloc|apply Kd.R_drewN|apply Kd.R_drew));exact HO_5.out⟩,⟨by (try simp only [hl14_5]);(with_reducible repeat (first|apply Kd.R_alloc|apply Kd.R_drewN|apply Kd.R_drew));exact HO_14.out⟩,⟨bl⟩⟩
             rw [if_pos c47] at H
             have c47b0:=decide_eq_true c47
             (try simp only [hl14_5] at c47b0)
             clear c47
             by_cases c48:x16_5≤x15_4
             case neg =>
              rw [if_neg c48] at H
              have c48b0:decide (x16_5≤x15_4)=false:=decide_eq_false c48
              clear c48
              have H':=Aside0.mk H
              clear H
              obtain ⟨Ao60,co60,eo60⟩:=Kd.R_slice HO_3.out
              subst eo60
              go_wp2
              (try simp only [← hl14_5])
              first|go_roundg k5|(simp only [← hji40];go_roundg k5)|(simp only [← hji51];go_roundg k5)
              case measure=>have:=HK1.out;have:=HK2.out;have:=HK3.out;have:=HK4.out;have:=HK5.out;omega
              case rel=>exact ⟨(x14_5),(wrap64 (x15_4+1)),rs,(by first|exact H'|(rw [hji40];exact H')|(rw [hji51];exact H')),⟨by have:=HK1.out;have:=HK2.out;have:=HK3.out;have:=HK4.out;have:=HK5.out;omega⟩,⟨by (try simp only [hl14_5]);(with_reducible repeat (first|apply Kd.R_alloc|apply Kd.R_drewN|apply Kd.R_drew));exact HO_3.out⟩,⟨by (try simp only [hl14_5]);(with_reducible repeat (first|apply Kd.R_alloc|apply Kd.R_drewN|apply Kd.R_drew));exact HO_5.out⟩,⟨by (try simp only [hl14_5]);(with_reducible repeat (first|apply Kd.R_alloc|apply Kd.R_drewN|apply Kd.R_drew));exact HO_14.out⟩,⟨bl⟩⟩
             rw [if_pos c48] at H
             have c48b0:=decide_eq_true c48
             clear c48
             replace H:=iS H;obtain ⟨c49,H⟩:=H
             have c49b0:=decide_eq_true c49
             clear c49
             replace H:=iS H;obtain ⟨c50,H⟩:=H
             have c50b0:=decide_eq_true c50
             (try simp only [hl14_5] at c50b0)
             clear c50
             obtain ⟨ji51,hji51⟩:∃ j_:Int,(wrap64 (x15_4 - x16_5))=j_:=⟨_,rfl⟩
             replace H:(if 0≤(ji51) then (if (ji51) < (x5_3.length:Int) then (if 0≤x16_5 then (F136.l6 k5 l0 x3_1 x4_1 x5_3 (x14_5.set (x15_4:Int).toNat (wrap64 ((rd x14_5 x15_4)+(wrap64 ((rd x5_3 (ji51)) * (rd x3_1 x16_5)))))) x15_4 (wrap64 (x16_5+1))) else (none)) else (none)) else (none))=some r:=by first|(rw [hji51] at H;exact H)|(simp only [hji51] at H ⊢;exact H)
             have hji51w:(IntKind.i64.wrap (x15_4 - x16_5))=ji51:=(i64_w _).trans hji51
             replace H:=iS H;obtain ⟨c52,H⟩:=H
             have c52b0:=decide_eq_true c52
             clear c52
             replace H:=iS H;obtain ⟨c53,H⟩:=H
             have c53b0:=decide_eq_true c53
             (try simp only [hl14_5] at c53b0)
             clear c53
             replace H:=iS H;obtain ⟨c54,H⟩:=H
             have c54b0:=decide_eq_true c54
             clear c54
             obtain ⟨y141,hy141⟩:∃ y_:List Int,y_=(x14_5.set (x15_4:Int).toNat (wrap64 ((rd x14_5 x15_4)+(wrap64 ((rd x5_3 (ji51)) * (rd x3_1 x16_5)))))):=⟨_,rfl⟩
             replace H:(F136.l6 k5 l0 x3_1 x4_1 x5_3 y141 x15_4 (wrap64 (x16_5+1)))=some r:=by first|(rw [hy141];with_reducible exact H)|(have H2_:=(Option.bind_some _ _).symm.trans H;rw [hy141];with_reducible exact H2_)|(have H2_:=(Option.bind_some _ _).symm.trans H;with_reducible exact H2_)|with_reducible exact H|(rw [hy141];exact H)|exact H
             have Ny141:=Aside0.mk hy141
             clear hy141
             have H':=Aside0.mk H
             clear H
             obtain ⟨Ao56,co56,eo56⟩:=Kd.R_slice HO_3.out
             subst eo56
             try go_wp2
             replace HO_3:=Aside0.mk (Kd.R_drew HO_3.out);replace HO_5:=Aside0.mk (Kd.R_drew HO_5.out);replace HO_14:=Aside0.mk (Kd.R_drew HO_14.out);replace HB:=Aside0.mk (below_drew1 HB.out)
             have p138:0≤(x15_4:Int):=oD
             have q138:x15_4 < (x14_5.length:Int):=oD
             obtain ⟨ad138,e138,hx138_0⟩:=Kd.at_int (Kd.R_reads' HO_14.out).2.2 x15_4 p138 q138
             cases e138
             replace p138:=eq_true p138
             replace q138:=eq_true q138
             obtain ⟨Ao58,co58,eo58⟩:=Kd.R_slice HO_5.out
             (first|subst eo58|(injection eo58 with f1_ f2_ f3_;have f4_:=f1_.symm;have f5_:=f3_.symm;clear f1_ f2_ f3_;subst f4_;subst f5_))
             have p139:0≤((ji51):Int):=oD
             have q139:(ji51) < (x5_3.length:Int):=oD
             obtain ⟨ad139,e139,hx139_0⟩:=Kd.at_int (Kd.R_reads' HO_5.out).2.2 (ji51) p139 q139
             cases e139
             replace p139:=eq_true p139
             replace q139:=eq_true q139
             have p140:0≤(x16_5:Int):=oD
             have q140:x16_5 < (x3_1.length:Int):=oD
             obtain ⟨ad140,e140,hx140_0⟩:=Kd.at_int (Kd.R_reads' HO_3.out).2.2 x16_5 p140 q140
             cases e140
             replace p140:=eq_true p140
             replace q140:=eq_true q140
             have p55:0≤(x15_4:Int):=oD
             have q55:(x15_4:Int) < ((x14_5.length:Int):Int):=oD
             obtain ⟨go55,co55,eo55,gb55,gl55,cl55,HG55⟩:=Kd.R_form HO_14.out (by omega)
             (first|cases eo55|(injection eo55 with ea_ en_ ec_;(first|subst ea_|(injection ea_ with ea_;subst ea_));subst ec_;clear en_))
             have GB55:=Aside0.mk gb55
             have GG55:=Aside0.mk HG55
             clear gb55 gl55 HG55
             (first|simp only [add_plain] at hx138_0|skip)
             obtain ⟨hx55_0,hf55_0⟩:=Kd.R_celln 0 HO_14.out (x15_4:Int) p55 q55
             replace p55:=eq_true p55
             replace q55:=eq_true q55
             have HP59:=Kd.R_putn HO_14.out (x15_4:Int) (wrap64 ((rd x14_5 x15_4)+(wrap64 ((rd x5_3 (ji51)) * (rd x3_1 x16_5)))))
             rw [← Ny141.out] at HP59
             have HQ59:=Aside0.mk HP59
             clear HP59
             refine start_ (n:=20) (S:=fun w'=>w'.cell? ⟨go55,(x15_4).toNat,none⟩=some (.int .i64 (rd x14_5 x15_4))∧w'.cell? (ad139.add ((ji51)).toNat)=some (.int .i64 (rd x5_3 (ji51)))∧w'.cell? (ad140.add (x16_5).toNat)=some (.int .i64 (rd x3_1 x16_5))) (ds:=[19]) (ba 20 0) (by kernel_rfl) rfl rfl ⟨hx138_0,hx139_0,hx140_0⟩ (fun hHeld=>?_);refine with_tabW F136.tab33 F136.bits33 (fun HT_ HW_=>?_)
             generalize wr.drew=w57 at HO_3 HO_5 HO_14 HB GG55 HQ59 hf55_0 hx138_0 hx139_0 hx140_0 hx55_0 hHeld ⊢
             refine pu 0 (some 123) (ba 20 1) HT_ (h:=?_)
             refine pu 1 (some 124) (ba 20 3) HT_ (h:=?_)
             refine pu 2 (some 125) (ba 20 7) HT_ (h:=?_)
             refine pu 3 (some 126) (ba 20 15) HT_ (h:=?_)
             refine pu 4 (some 127) (ba 20 31) HT_ (h:=?_)
             refine pu 6 (some 129) (ba 20 95) HT_ (h:=?_)
             refine pu 7 (some 130) (ba 20 223) HT_ (h:=?_)
             refine pu 8 (some 131) (ba 20 479) HT_ (h:=?_)
             refine pu 9 (some 132) (ba 20 991) HT_ (h:=?_)
             refine pu 10 (some 133) (ba 20 2015) HT_ (h:=?_)
             refine pu 12 (some 135) (ba 20 6111) HT_ (h:=?_)
             refine pu 13 (some 136) (ba 20 14303) HT_ (h:=?_)
             refine pu 14 (some 137) (ba 20 30687) HT_ (h:=?_)
             refine ta 5 (some 128) (ba 20 30719) HT_ HW_ hHeld (hy:=Or.inl ⟨by rfl,by rintro w' ⟨s0,s1,s2⟩;go_simp;with_reducible rfl⟩) (h:=?_)
             refine ta 11 (some 134) (ba 20 32767) HT_ HW_ hHeld (hy:=Or.inl ⟨by rfl,by rintro w' ⟨s0,s1,s2⟩;go_simp;with_reducible rfl⟩) (h:=?_)
             refine ta 15 (some 138) (ba 20 65535) HT_ HW_ hHeld (hy:=Or.inl ⟨by rfl,by rintro w' ⟨s0,s1,s2⟩;go_simp;with_reducible rfl⟩) (h:=?_)
             refine pu 16 (some 139) (ba 20 131071) HT_ (h:=?_)
             refine pu 17 (some 140) (ba 20 262143) HT_ (h:=?_)
             refine pu 18 (some 141) (ba 20 524287) HT_ (h:=?_)
             refine last_ (i:=19) (N:=none) (ba 20 1048575) rfl rfl (one_of HT_.out (by kernel_rfl)) (by decide) (fun K hK=>?_)
             refine skip_ (w1:=?_) (by rfl) rfl ?_ ?_
             rotate_left;· go_simp;rfl
             refine hK.out _ _ ?_
             clear hK K
             refine done_ (done_of HT_.out (by kernel_rfl)) ?_
             try go_wp2
             (try simp only [← hl14_5])
             first|go_roundg k5|(simp only [← hji40];go_roundg k5)|(simp only [← hji51];go_roundg k5)
             case measure=>have:=HK1.out;have:=HK2.out;have:=HK3.out;have:=HK4.out;have:=HK5.out;omega
             case rel=>exact ⟨(y141),(wrap64 (x16_5+1)),rs,(by first|exact H'|(rw [hji40];exact H')|(rw [hji51];exact H')),⟨by have:=HK1.out;have:=HK2.out;have:=HK3.out;have:=HK4.out;have:=HK5.out;omega⟩,⟨by (try simp only [hl14_5]);(with_reducible repeat (first|apply Kd.R_alloc|apply Kd.R_drewN|apply Kd.R_drew));exact Kd.R_mono (Kd.R_far (p:=⟨go55,(x15_4:Int).toNat,none⟩) (Kd.R_mono HO_3.out (fun k_ hk=>(⟨hk,fun e_=>hk.2 (by rw [e_];rfl)⟩:_∧k_ ≠ go55))) (fun _ hk=>hk.2) (.int .i64 (wrap64 ((rd x14_5 x15_4)+(wrap64 ((rd x5_3 (ji51)) * (rd x3_1 x16_5))))))) (fun _ hk=>⟨hk.1.1,hk.1.2⟩)⟩,⟨by (try simp only [hl14_5]);(with_reducible repeat (first|apply Kd.R_alloc|apply Kd.R_drewN|apply Kd.R_drew));exact Kd.R_mono (Kd.R_far (p:=⟨go55,(x15_4:Int).toNat,none⟩) (Kd.R_mono HO_5.out (fun k_ hk=>(⟨hk,fun e_=>hk.2 (by rw [e_];rfl)⟩:_∧k_ ≠ go55))) (fun _ hk=>hk.2) (.int .i64 (wrap64 ((rd x14_5 x15_4)+(wrap64 ((rd x5_3 (ji51)) * (rd x3_1 x16_5))))))) (fun _ hk=>⟨hk.1.1,hk.1.2⟩)⟩,⟨by (try simp only [hl14_5]);(with_reducible repeat (first|apply Kd.R_alloc|apply Kd.R_drewN|apply Kd.R_drew));exact HQ59.out⟩,⟨by repeat (first|(with_reducible first|exact HB.out|apply below_alloc|apply pw_below_drewN|apply below_drew1|refine below_set ?_ GB55.out)|exact HB.out)⟩⟩
        rw [if_pos c18] at H
        have c18b0:=decide_eq_true c18
        clear c18
        obtain ⟨y120,hy120⟩:∃ y_:List Int,y_=(([]:List Int)):=⟨_,rfl⟩
        replace H:(F136.l3 k3 l0 x3_1 x4_1 x5_3 x6_3 x8_3 0 y120 0)=some r:=by first|(rw [hy120];with_reducible exact H)|(have H2_:=(Option.bind_some _ _).symm.trans H;rw [hy120];with_reducible exact H2_)|(have H2_:=(Option.bind_some _ _).symm.trans H;with_reducible exact H2_)|with_reducible exact H|(rw [hy120];exact H)|exact H
        have Ny120:=Aside0.mk hy120
        clear hy120
        have H':=Aside0.mk H
        clear H
        go_wp2_with (first|((with_reducible refine gate_dst (N:=54) rfl ?_);refine Kd.R_lit (Kd.int .i64) _ 2 ?hg (N:=54) ?hd (xs:=([]:List Int)) (inner:=[]) (ok:=fun _=>True) (okp:=fun _=>True) ?hr ?hp (fun _ hk=>hk) trivial (Below.refl _ _) (Nat.le_refl _) (by simp) ?_;(case hd=>rfl);(case hg=>rfl);(case hr=>first|(go_simp;done)|(go_simp;rfl));(case hp=>exact (Reps.none _ _));intro v121 w19 ho20 hb hg_ hnew_;clear hg_ hnew_;(first|rw [← Ny120.out] at ho20|(simp only [Int.reduceToNat] at ho20;rw [← Ny120.out] at ho20));have HO122:=Aside0.mk (Kd.R_lower (Kd.R_new' (Kd.R_new' (Kd.R_new' ho20 (Kd.R_lt (aR HO_3.out))) (Kd.R_lt (aR HO_5.out))) (Kd.R_lt (aR HO_6.out))) (below_size bl));replace HO_3:=Aside0.mk (Kd.R_elder' (aR HO_3.out) (Kd.R_base ho20) hb);replace HO_5:=Aside0.mk (Kd.R_elder' (aR HO_5.out) (Kd.R_base ho20) hb);replace HO_6:=Aside0.mk (Kd.R_elder' (aR HO_6.out) (Kd.R_base ho20) hb);replace HB:=Aside0.mk (below_step bl hb);clear hb ho20))
        go_loopg [9,10,11] k3 (fun kq v9 v10 v11 w'=>∃ (x9_4:Int) (x10_4:List Int) (x11_4:Int),v9=.int .i64 x9_4∧v11=.int .i64 x11_4∧Aside0 (F136.l3 kq l0 x3_1 x4_1 x5_3 x6_3 x8_3 x9_4 x10_4 x11_4=some r)∧Aside0 (kq≤k3)∧Aside0 (Kd.R (Kd.int .i64) 2 w' w.heap.size (fun k_=>some k_ ≠ (u5:Value).ownBlock∧some k_ ≠ (u6:Value).ownBlock∧some k_ ≠ (v10:Value).ownBlock) u3 x3_1)∧Aside0 (Kd.R (Kd.int .i64) 2 w' w.heap.size (fun k_=>some k_ ≠ (u3:Value).ownBlock∧some k_ ≠ (u6:Value).ownBlock∧some k_ ≠ (v10:Value).ownBlock) u5 x5_3)∧Aside0 (Kd.R (Kd.int .i64) 2 w' w.heap.size (fun k_=>some k_ ≠ (u3:Value).ownBlock∧some k_ ≠ (u5:Value).ownBlock∧some k_ ≠ (v10:Value).ownBlock) u6 x6_3)∧Aside0 (Kd.R (Kd.int .i64) 2 w' w.heap.size (fun k_=>some k_ ≠ (u3:Value).ownBlock∧some k_ ≠ (u5:Value).ownBlock∧some k_ ≠ (u6:Value).ownBlock) v10 x10_4)∧Aside0 (Below w.heap.size w w'))
        case atStart=>exact ⟨(0),(y120),(0),rs,rs,H',⟨Nat.le_refl _⟩,⟨by (with_reducible repeat (first|apply Kd.R_alloc|apply Kd.R_drewN|apply Kd.R_drew));exact Kd.R_mono HO_3.out (fun _ hk=>⟨hk.1.1,⟨hk.1.2,hk.2⟩⟩)⟩,⟨by (with_reducible repeat (first|apply Kd.R_alloc|apply Kd.R_drewN|apply Kd.R_drew));exact Kd.R_mono HO_5.out (fun _ hk=>⟨hk.1.1,⟨hk.1.2,hk.2⟩⟩)⟩,⟨by (with_reducible repeat (first|apply Kd.R_alloc|apply Kd.R_drewN|apply Kd.R_drew));exact Kd.R_mono HO_6.out (fun _ hk=>⟨hk.1.1,⟨hk.1.2,hk.2⟩⟩)⟩,⟨by (with_reducible repeat (first|apply Kd.R_alloc|apply Kd.R_drewN|apply Kd.R_drew));exact Kd.R_mono HO122.out (fun _ hk=>⟨hk.1.1.2,⟨hk.1.2,hk.2⟩⟩)⟩,⟨bl⟩⟩
        case round =>
         clear H'
         (try clear c1);(try clear p1);(try clear q1);(try clear hx1);(try clear p2);(try clear c4);(try clear c4b0);(try clear c5);(try clear c5b0);(try clear c6);(try clear c6b0);(try clear p6);(try clear c10);(try clear p10);(try clear q10);(try clear hx10);(try clear c11);(try clear c11b0);(try clear p11);(try clear q11);(try clear hx11);(try clear c12);(try clear c12b0);(try clear c13);(try clear c13b0);(try clear c14);(try clear c14b0);(try clear c15);(try clear c15b0);(try clear c16);(try clear c18);(try clear c18b0);(try clear hx107_0);(try clear hx108_0);(try clear hx115_0);(try clear hx116_0);(try clear p1);(try clear p10);(try clear p107);(try clear p108);(try clear p11);(try clear p115);(try clear p116);(try clear p2);(try clear p6);(try clear q1);(try clear q10);(try clear q107);(try clear q108);(try clear q11);(try clear q115);(try clear q116)
         obtain ⟨x9_4,x10_4,x11_4,rfl,rfl,HA,HK4,HO_3,HO_5,HO_6,HO_10,HB⟩:=hrel
         cases gk with
         | zero=>exact absurd HA.out (by simp [F136.l3])
         | succ k4 =>
          have H:=HA.out
          clear HA
          simp only [F136.l3] at H
          by_cases c21:x11_4 < x4_1
          case neg =>
           rw [if_neg c21] at H
           have c21b0:decide (x11_4 < x4_1)=false:=decide_eq_false c21
           clear c21
           replace H:=iS H;obtain ⟨c38,H⟩:=H
           have LMc38:=Aside0.mk c38
           clear c38
           obtain ⟨y123,hy123⟩:∃ y_:List Int,y_=(x5_3 ++ [wrap64 (-x9_4)]):=⟨_,rfl⟩
           replace H:(F136.l2 k4 l0 x3_1 x4_1 y123 x10_4 (wrap64 (x8_3+1)))=some r:=by first|(rw [hy123];with_reducible exact H)|(have H2_:=(Option.bind_some _ _).symm.trans H;rw [hy123];with_reducible exact H2_)|(have H2_:=(Option.bind_some _ _).symm.trans H;with_reducible exact H2_)|with_reducible exact H|(rw [hy123];exact H)|exact H
           have Ny123:=Aside0.mk hy123
           clear hy123
           have H':=Aside0.mk H
           clear H
           go_wp2_with (first|((with_reducible refine gate_builtin (b:=.append) (xs:=#[.tmp 97,.tmp 100]) rfl ?_);at_builtin;refine Kd.R_append (Kd.int .i64) (w0:=w) w.heap.size rfl (.tmp 97) (.tmp 100) 28 2 (.int .i64 0) 8 rfl Try.underlying28 info2 rfl (by decide) (by omega) u5 x5_3 (wrap64 (-x9_4)) [.int .i64 (wrap64 (-x9_4))] (fun k_=>some k_ ≠ (u3:Value).ownBlock∧some k_ ≠ (u6:Value).ownBlock∧some k_ ≠ (u10:Value).ownBlock) (fun _=>False) rfl rfl ?aP (fun _ hk=>hk.elim) ?aF ?aO ?aB ?aS ?aL ?_;(case aP=>exact rfl);(case aB=>exact bl);(case aF=>exact (fun k_ hk=>⟨Kd.fresh' (Kd.R_lt (aR HO_3.out)) k_ hk,Kd.fresh' (Kd.R_lt (aR HO_6.out)) k_ hk,Kd.fresh' (Kd.R_lt (aR HO_10.out)) k_ hk⟩));(case aO=>exact (aR HO_5.out));(case aS=>exact (below_size bl));(case aL=>have:=LMc38.out;omega);intro v124 w39 ho hb hg hat;rw [← Ny123.out] at ho;have n0_:=Aside0.mk (Kd.R_after (ok:=(fun k_=>some k_ ≠ (u6:Value).ownBlock∧some k_ ≠ (u10:Value).ownBlock)) (by (with_reducible repeat (first|apply Kd.R_alloc|apply Kd.R_drewN|apply Kd.R_drew));exact Kd.R_mono HO_3.out (fun _ hk=>⟨⟨hk.2.1,hk.2.2⟩,hk.1⟩)) hg hat);have n1_:=Aside0.mk (Kd.R_after (ok:=(fun k_=>some k_ ≠ (u3:Value).ownBlock∧some k_ ≠ (u10:Value).ownBlock)) (by (with_reducible repeat (first|apply Kd.R_alloc|apply Kd.R_drewN|apply Kd.R_drew));exact Kd.R_mono HO_6.out (fun _ hk=>⟨⟨hk.1,hk.2.2⟩,hk.2.1⟩)) hg hat);have n2_:=Aside0.mk (Kd.R_after (ok:=(fun k_=>some k_ ≠ (u3:Value).ownBlock∧some k_ ≠ (u6:Value).ownBlock)) (by (with_reducible repeat (first|apply Kd.R_alloc|apply Kd.R_drewN|apply Kd.R_drew));exact Kd.R_mono HO_10.out (fun _ hk=>⟨⟨hk.1,hk.2.2⟩,hk.2.1⟩)) hg hat);have n3_:=Aside0.mk (hb);have n4_:=Aside0.mk (ho);clear HO_3;clear HO_6;clear HO_10;clear HB;clear HO_5;have HO_3:=n0_;have HO_6:=n1_;have HO_10:=n2_;have HB:=n3_;have HO125:=n4_;clear n0_ n1_ n2_ n3_ n4_;clear ho hb hg hat))
           first|go_roundg k4|(simp only [← hji40];go_roundg k4)|(simp only [← hji51];go_roundg k4)
           case measure=>have:=HK1.out;have:=HK2.out;have:=HK3.out;have:=HK4.out;omega
           case rel=>exact ⟨(y123),(x10_4),(wrap64 (x8_3+1)),rs,(by first|exact H'|(rw [hji40];exact H')|(rw [hji51];exact H')),⟨by have:=HK1.out;have:=HK2.out;have:=HK3.out;have:=HK4.out;omega⟩,⟨by (with_reducible repeat (first|apply Kd.R_alloc|apply Kd.R_drewN|apply Kd.R_drew));exact Kd.R_mono HO_3.out (fun _ hk=>⟨hk.2,hk.1.2⟩)⟩,⟨by (with_reducible repeat (first|apply Kd.R_alloc|apply Kd.R_drewN|apply Kd.R_drew));exact Kd.R_mono HO125.out (fun _ hk=>⟨hk.1,hk.2.2⟩)⟩,⟨by (with_reducible repeat (first|apply Kd.R_alloc|apply Kd.R_drewN|apply Kd.R_drew));exact Kd.R_mono HO_10.out (fun _ hk=>⟨hk.1.1,hk.2⟩)⟩,⟨bl⟩⟩
          rw [if_pos c21] at H
          have c21b0:=decide_eq_true c21
          clear c21
          replace H:=iS H;obtain ⟨c22,H⟩:=H
          have c22b0:=decide_eq_true c22
          clear c22
          replace H:=iS H;obtain ⟨c23,H⟩:=H
          have c23b0:=decide_eq_true c23
          clear c23
          replace H:=iS H;obtain ⟨c24,H⟩:=H
          have c24b0:=decide_eq_true c24
          clear c24
          replace H:=iS H;obtain ⟨c25,H⟩:=H
          have c25b0:=decide_eq_true c25
          clear c25
          replace H:=iS H;obtain ⟨c26,H⟩:=H
          have c26b0:=decide_eq_true c26
          clear c26
          have H':=Aside0.mk H
          clear H
          try go_wp2
          replace HO_3:=Aside0.mk (Kd.R_drew HO_3.out);replace HO_5:=Aside0.mk (Kd.R_drew HO_5.out);replace HO_6:=Aside0.mk (Kd.R_drew HO_6.out);replace HO_10:=Aside0.mk (Kd.R_drew HO_10.out);replace HB:=Aside0.mk (below_drew1 HB.out)
          have p126:0≤(x4_1:Int):=oD
          have q126:x4_1 < (l0.length:Int):=oD
          obtain ⟨ad126,A126_0,c126_0,e126,hx126_0,hl126_0,hi126_0⟩:=at_L1 HR0.out x4_1 p126 q126
          have hw126_0:=hx126_0
          obtain rfl:ad107=ad126:=(by injection e126)
          replace hx126_0:=hbc HB hx126_0
          have HR126_0:=Aside0.mk hi126_0
          have HC126_0:=Aside0.mk hl126_0
          clear hi126_0 hl126_0
          replace p126:=eq_true p126
          replace q126:=eq_true q126
          have p127:0≤(x11_4:Int):=oD
          have q127:x11_4 < ((rd_L1 l0 x4_1).length:Int):=oD
          obtain ⟨ad127,e127,hx127_0⟩:=Kd.at_int HR126_0.out x11_4 p127 q127
          have hw127_0:=hx127_0
          cases e127
          replace hx127_0:=hbc HB hx127_0
          replace p127:=eq_true p127
          replace q127:=eq_true q127
          obtain ⟨Ao28,co28,eo28⟩:=Kd.R_slice HO_6.out
          (first|subst eo28|(injection eo28 with f1_ f2_ f3_;have f4_:=f1_.symm;have f5_:=f3_.symm;clear f1_ f2_ f3_;subst f4_;subst f5_))
          have p128:0≤(x11_4:Int):=oD
          have q128:x11_4 < (x6_3.length:Int):=oD
          obtain ⟨ad128,e128,hx128_0⟩:=Kd.at_int (Kd.R_reads' HO_6.out).2.2 x11_4 p128 q128
          cases e128
          replace p128:=eq_true p128
          replace q128:=eq_true q128
          refine start_ (n:=15) (S:=fun w'=>w'.cell? (ad107.add (x4_1).toNat)=some (.slice (some ad127) (rd_L1 l0 x4_1).length c126_0)∧w'.cell? (ad127.add (x11_4).toNat)=some (.int .i64 (rd (rd_L1 l0 x4_1) x11_4))∧w'.cell? (ad128.add (x11_4).toNat)=some (.int .i64 (rd x6_3 x11_4))) (ds:=[]) (ba 15 0) (by kernel_rfl) rfl rfl ⟨(hbc HB hw126_0),(hbc HB hw127_0),hx128_0⟩ (fun hHeld=>?_);refine with_tabW F136.tab17 F136.bits17 (fun HT_ HW_=>?_)
          generalize wr.drew=w27 at HO_3 HO_5 HO_6 HO_10 HB HR126_0 hx126_0 hx127_0 hx128_0 hHeld ⊢
          refine pu 0 (some 60) (ba 15 1) HT_ (h:=?_)
          refine pu 1 (some 61) (ba 15 3) HT_ (h:=?_)
          refine pu 2 (some 62) (ba 15 7) HT_ (h:=?_)
          refine pu 3 (some 63) (ba 15 15) HT_ (h:=?_)
          refine pu 5 (some 65) (ba 15 47) HT_ (h:=?_)
          refine pu 8 (some 68) (ba 15 303) HT_ (h:=?_)
          refine pu 9 (some 69) (ba 15 815) HT_ (h:=?_)
          refine pu 10 (some 70) (ba 15 1839) HT_ (h:=?_)
          refine ta 4 (some 64) (ba 15 1855) HT_ HW_ hHeld (hy:=Or.inl ⟨by rfl,by rintro w' ⟨s0,s1,s2⟩;go_simp;with_reducible rfl⟩) (h:=?_)
          refine pu 6 (some 66) (ba 15 1919) HT_ (h:=?_)
          refine ta 7 (some 67) (ba 15 2047) HT_ HW_ hHeld (hy:=Or.inl ⟨by rfl,by rintro w' ⟨s0,s1,s2⟩;go_simp;with_reducible rfl⟩) (h:=?_)
          refine ta 11 (some 71) (ba 15 4095) HT_ HW_ hHeld (hy:=Or.inl ⟨by rfl,by rintro w' ⟨s0,s1,s2⟩;go_simp;with_reducible rfl⟩) (h:=?_)
          refine pu 12 (some 72) (ba 15 8191) HT_ (h:=?_)
          refine pu 13 (some 73) (ba 15 16383) HT_ (h:=?_)
          refine pu 14 (some 9) (ba 15 32767) HT_ (h:=?_)
          refine done_ (done_of HT_.out (by kernel_rfl)) ?_
          try go_wp2
          go_loopg [12,13] k4 (fun kq v12 v13 w'=>∃ (x12_5:Int) (x13_5:Int),v12=.int .i64 x12_5∧v13=.int .i64 x13_5∧Aside0 (F136.l4 kq l0 x3_1 x4_1 x5_3 x6_3 x8_3 (wrap64 (x9_4+(wrap64 ((rd (rd_L1 l0 x4_1) x11_4) * (rd x6_3 x11_4))))) x10_4 x11_4 x12_5 x13_5=some r)∧Aside0 (kq≤k4)∧Aside0 (Kd.R (Kd.int .i64) 2 w' w.heap.size (fun k_=>some k_ ≠ (u5:Value).ownBlock∧some k_ ≠ ((.slice (some ad128) x6_3.length co28):Value).ownBlock∧some k_ ≠ (u10:Value).ownBlock) u3 x3_1)∧Aside0 (Kd.R (Kd.int .i64) 2 w' w.heap.size (fun k_=>some k_ ≠ (u3:Value).ownBlock∧some k_ ≠ ((.slice (some ad128) x6_3.length co28):Value).ownBlock∧some k_ ≠ (u10:Value).ownBlock) u5 x5_3)∧Aside0 (Kd.R (Kd.int .i64) 2 w' w.heap.size (fun k_=>some k_ ≠ (u3:Value).ownBlock∧some k_ ≠ (u5:Value).ownBlock∧some k_ ≠ (u10:Value).ownBlock) (.slice (some ad128) x6_3.length co28) x6_3)∧Aside0 (Kd.R (Kd.int .i64) 2 w' w.heap.size (fun k_=>some k_ ≠ (u3:Value).ownBlock∧some k_ ≠ (u5:Value).ownBlock∧some k_ ≠ ((.slice (some ad128) x6_3.length co28):Value).ownBlock) u10 x10_4)∧Aside0 (Below w.heap.size w w'))
          case atStart=>exact ⟨(0),(0),rs,rs,H',⟨Nat.le_refl _⟩,⟨by (with_reducible repeat (first|apply Kd.R_alloc|apply Kd.R_drewN|apply Kd.R_drew));exact HO_3.out⟩,⟨by (with_reducible repeat (first|apply Kd.R_alloc|apply Kd.R_drewN|apply Kd.R_drew));exact HO_5.out⟩,⟨by (with_reducible repeat (first|apply Kd.R_alloc|apply Kd.R_drewN|apply Kd.R_drew));exact HO_6.out⟩,⟨by (with_reducible repeat (first|apply Kd.R_alloc|apply Kd.R_drewN|apply Kd.R_drew));exact HO_10.out⟩,⟨bl⟩⟩
          case round =>
           clear H'
           (try clear c1);(try clear p1);(try clear q1);(try clear hx1);(try clear c2);(try clear p2);(try clear c4);(try clear c4b0);(try clear c5);(try clear c5b0);(try clear c6);(try clear c6b0);(try clear p6);(try clear c10);(try clear p10);(try clear q10);(try clear hx10);(try clear c11);(try clear c11b0);(try clear p11);(try clear q11);(try clear hx11);(try clear c12);(try clear c12b0);(try clear p12);(try clear q12);(try clear hx12);(try clear c13);(try clear c13b0);(try clear c14);(try clear c14b0);(try clear c15);(try clear c15b0);(try clear c16);(try clear c18);(try clear c18b0);(try clear c21);(try clear c21b0);(try clear c22);(try clear c22b0);(try clear c23);(try clear c23b0);(try clear c24);(try clear c24b0);(try clear c25);(try clear c25b0);(try clear c26);(try clear c26b0);(try clear hx107_0);(try clear hx108_0);(try clear hx115_0);(try clear hx116_0);(try clear hx126_0);(try clear hx127_0);(try clear hx128_0);(try clear p1);(try clear p10);(try clear p107);(try clear p108);(try clear p11);(try clear p115);(try clear p116);(try clear p126);(try clear p127);(try clear p128);(try clear p2);(try clear p6);(try clear q1);(try clear q10);(try clear q107);(try clear q108);(try clear q11);(try clear q115);(try clear q116);(try clear q126);(try clear q127);(try clear q128)
           obtain ⟨x12_5,x13_5,rfl,rfl,HA,HK5,HO_3,HO_5,HO_6,HO_10,HB⟩:=hrel
           cases gk with
           | zero=>exact absurd HA.out (by simp [F136.l4])
           | succ k5 =>
            have H:=HA.out
            clear HA
            simp only [F136.l4] at H
            by_cases c29:x13_5 < x4_1
            case neg =>
             rw [if_neg c29] at H
             have c29b0:decide (x13_5 < x4_1)=false:=decide_eq_false c29
             clear c29
             replace H:=iS H;obtain ⟨c36,H⟩:=H
             have LMc36:=Aside0.mk c36
             clear c36
             obtain ⟨y132,hy132⟩:∃ y_:List Int,y_=(x10_4 ++ [x12_5]):=⟨_,rfl⟩
             replace H:(F136.l3 k5 l0 x3_1 x4_1 x5_3 x6_3 x8_3 (wrap64 (x9_4+(wrap64 ((rd (rd_L1 l0 x4_1) x11_4) * (rd x6_3 x11_4))))) y132 (wrap64 (x11_4+1)))=some r:=by first|(rw [hy132];with_reducible exact H)|(have H2_:=(Option.bind_some _ _).symm.trans H;rw [hy132];with_reducible exact H2_)|(have H2_:=(Option.bind_some _ _).symm.trans H;with_reducible exact H2_)|with_reducible exact H|(rw [hy132];exact H)|exact H
             have Ny132:=Aside0.mk hy132
             clear hy132
             have H':=Aside0.mk H
             clear H
             go_wp2_with (first|((with_reducible refine gate_builtin (b:=.append) (xs:=#[.tmp 93,.tmp 95]) rfl ?_);at_builtin;refine Kd.R_append (Kd.int .i64) (w0:=w) w.heap.size rfl (.tmp 93) (.tmp 95) 28 2 (.int .i64 0) 8 rfl Try.underlying28 info2 rfl (by decide) (by omega) u10 x10_4 x12_5 [.int .i64 x12_5] (fun k_=>some k_ ≠ (u3:Value).ownBlock∧some k_ ≠ (u5:Value).ownBlock∧some k_ ≠ (.slice (some ad128) x6_3.length co28:Value).ownBlock) (fun _=>False) rfl rfl ?aP (fun _ hk=>hk.elim) ?aF ?aO ?aB ?aS ?aL ?_;(case aP=>exact rfl);(case aB=>exact bl);(case aF=>exact (fun k_ hk=>⟨Kd.fresh' (Kd.R_lt (aR HO_3.out)) k_ hk,Kd.fresh' (Kd.R_lt (aR HO_5.out)) k_ hk,Kd.fresh' (Kd.R_lt (aR HO_6.out)) k_ hk⟩));(case aO=>exact (aR HO_10.out));(case aS=>exact (below_size bl));(case aL=>have:=LMc36.out;omega);intro v133 w37 ho hb hg hat;rw [← Ny132.out] at ho;have n0_:=Aside0.mk (Kd.R_after (ok:=(fun k_=>some k_ ≠ (u5:Value).ownBlock∧some k_ ≠ (.slice (some ad128) x6_3.length co28:Value).ownBlock)) (by (with_reducible repeat (first|apply Kd.R_alloc|apply Kd.R_drewN|apply Kd.R_drew));exact Kd.R_mono HO_3.out (fun _ hk=>⟨⟨hk.1,hk.2.1⟩,hk.2.2⟩)) hg hat);have n1_:=Aside0.mk (Kd.R_after (ok:=(fun k_=>some k_ ≠ (u3:Value).ownBlock∧some k_ ≠ (.slice (some ad128) x6_3.length co28:Value).ownBlock)) (by (with_reducible repeat (first|apply Kd.R_alloc|apply Kd.R_drewN|apply Kd.R_drew));exact Kd.R_mono HO_5.out (fun _ hk=>⟨⟨hk.1,hk.2.1⟩,hk.2.2⟩)) hg hat);have n2_:=Aside0.mk (Kd.R_after (ok:=(fun k_=>some k_ ≠ (u3:Value).ownBlock∧some k_ ≠ (u5:Value).ownBlock)) (by (with_reducible repeat (first|apply Kd.R_alloc|apply Kd.R_drewN|apply Kd.R_drew));exact Kd.R_mono HO_6.out (fun _ hk=>⟨⟨hk.1,hk.2.1⟩,hk.2.2⟩)) hg hat);have n3_:=Aside0.mk (hb);have n4_:=Aside0.mk (ho);clear HO_3;clear HO_5;clear HO_6;clear HB;clear HO_10;have HO_3:=n0_;have HO_5:=n1_;have HO_6:=n2_;have HB:=n3_;have HO134:=n4_;clear n0_ n1_ n2_ n3_ n4_;clear ho hb hg hat))
             first|go_roundg k5|(simp only [← hji40];go_roundg k5)|(simp only [← hji51];go_roundg k5)
             case measure=>have:=HK1.out;have:=HK2.out;have:=HK3.out;have:=HK4.out;have:=HK5.out;omega
             case rel=>exact ⟨((wrap64 (x9_4+(wrap64 ((rd (rd_L1 l0 x4_1) x11_4) * (rd x6_3 x11_4)))))),(y132),(wrap64 (x11_4+1)),rs,rs,(by first|exact H'|(rw [hji40];exact H')|(rw [hji51];exact H')),⟨by have:=HK1.out;have:=HK2.out;have:=HK3.out;have:=HK4.out;have:=HK5.out;omega⟩,⟨by (with_reducible repeat (first|apply Kd.R_alloc|apply Kd.R_drewN|apply Kd.R_drew));exact Kd.R_mono HO_3.out (fun _ hk=>⟨hk.1.1,⟨hk.1.2,hk.2⟩⟩)⟩,⟨by (with_reducible repeat (first|apply Kd.R_alloc|apply Kd.R_drewN|apply Kd.R_drew));exact Kd.R_mono HO_5.out (fun _ hk=>⟨hk.1.1,⟨hk.1.2,hk.2⟩⟩)⟩,⟨by (with_reducible repeat (first|apply Kd.R_alloc|apply Kd.R_drewN|apply Kd.R_drew));exact Kd.R_mono HO_6.out (fun _ hk=>⟨hk.1.1,⟨hk.1.2,hk.2⟩⟩)⟩,⟨by (with_reducible repeat (first|apply Kd.R_alloc|apply Kd.R_drewN|apply Kd.R_drew));exact HO134.out⟩,⟨bl⟩⟩
            rw [if_pos c29] at H
            have c29b0:=decide_eq_true c29
            clear c29
            replace H:=iS H;obtain ⟨c30,H⟩:=H
            have c30b0:=decide_eq_true c30
            clear c30
            replace H:=iS H;obtain ⟨c31,H⟩:=H
            have c31b0:=decide_eq_true c31
            clear c31
            replace H:=iS H;obtain ⟨c32,H⟩:=H
            have c32b0:=decide_eq_true c32
            clear c32
            replace H:=iS H;obtain ⟨c33,H⟩:=H
            have c33b0:=decide_eq_true c33
            clear c33
            replace H:=iS H;obtain ⟨c34,H⟩:=H
            have c34b0:=decide_eq_true c34
            clear c34
            have H':=Aside0.mk H
            clear H
            try go_wp2
            replace HO_3:=Aside0.mk (Kd.R_drew HO_3.out);replace HO_5:=Aside0.mk (Kd.R_drew HO_5.out);replace HO_6:=Aside0.mk (Kd.R_drew HO_6.out);replace HO_10:=Aside0.mk (Kd.R_drew HO_10.out);replace HB:=Aside0.mk (below_drew1 HB.out)
            have p129:0≤(x11_4:Int):=oD
            have q129:x11_4 < (l0.length:Int):=oD
            obtain ⟨ad129,A129_0,c129_0,e129,hx129_0,hl129_0,hi129_0⟩:=at_L1 HR0.out x11_4 p129 q129
            have hw129_0:=hx129_0
            obtain rfl:ad107=ad129:=(by injection e129)
            replace hx129_0:=hbc HB hx129_0
            have HR129_0:=Aside0.mk hi129_0
            have HC129_0:=Aside0.mk hl129_0
            clear hi129_0 hl129_0
            replace p129:=eq_true p129
            replace q129:=eq_true q129
            have p130:0≤(x13_5:Int):=oD
            have q130:x13_5 < ((rd_L1 l0 x11_4).length:Int):=oD
            obtain ⟨ad130,e130,hx130_0⟩:=Kd.at_int HR129_0.out x13_5 p130 q130
            have hw130_0:=hx130_0
            cases e130
            replace hx130_0:=hbc HB hx130_0
            replace p130:=eq_true p130
            replace q130:=eq_true q130
            have p131:0≤(x13_5:Int):=oD
            have q131:x13_5 < (x6_3.length:Int):=oD
            obtain ⟨ad131,e131,hx131_0⟩:=Kd.at_int (Kd.R_reads' HO_6.out).2.2 x13_5 p131 q131
            obtain rfl:ad128=ad131:=(by injection e131)
            replace p131:=eq_true p131
            replace q131:=eq_true q131
            refine start_ (n:=15) (S:=fun w'=>w'.cell? (ad107.add (x11_4).toNat)=some (.slice (some ad130) (rd_L1 l0 x11_4).length c129_0)∧w'.cell? (ad130.add (x13_5).toNat)=some (.int .i64 (rd (rd_L1 l0 x11_4) x13_5))∧w'.cell? (ad128.add (x13_5).toNat)=some (.int .i64 (rd x6_3 x13_5))) (ds:=[]) (ba 15 0) (by kernel_rfl) rfl rfl ⟨(hbc HB hw129_0),(hbc HB hw130_0),hx131_0⟩ (fun hHeld=>?_);refine with_tabW F136.tab22 F136.bits22 (fun HT_ HW_=>?_)
            generalize wr.drew=w35 at HO_3 HO_5 HO_6 HO_10 HB HR129_0 hx129_0 hx130_0 hx131_0 hHeld ⊢
            refine pu 0 (some 79) (ba 15 1) HT_ (h:=?_)
            refine pu 1 (some 80) (ba 15 3) HT_ (h:=?_)
            refine pu 2 (some 81) (ba 15 7) HT_ (h:=?_)
            refine pu 3 (some 82) (ba 15 15) HT_ (h:=?_)
            refine pu 5 (some 84) (ba 15 47) HT_ (h:=?_)
            refine pu 8 (some 87) (ba 15 303) HT_ (h:=?_)
            refine pu 9 (some 88) (ba 15 815) HT_ (h:=?_)
            refine pu 10 (some 89) (ba 15 1839) HT_ (h:=?_)
            refine ta 4 (some 83) (ba 15 1855) HT_ HW_ hHeld (hy:=Or.inl ⟨by rfl,by rintro w' ⟨s0,s1,s2⟩;go_simp;with_reducible rfl⟩) (h:=?_)
            refine pu 6 (some 85) (ba 15 1919) HT_ (h:=?_)
            refine ta 7 (some 86) (ba 15 2047) HT_ HW_ hHeld (hy:=Or.inl ⟨by rfl,by rintro w' ⟨s0,s1,s2⟩;go_simp;with_reducible rfl⟩) (h:=?_)
            refine ta 11 (some 90) (ba 15 4095) HT_ HW_ hHeld (hy:=Or.inl ⟨by rfl,by rintro w' ⟨s0,s1,s2⟩;go_simp;with_reducible rfl⟩) (h:=?_)
            refine pu 12 (some 91) (ba 15 8191) HT_ (h:=?_)
            refine pu 13 (some 92) (ba 15 16383) HT_ (h:=?_)
            refine pu 14 (some 12) (ba 15 32767) HT_ (h:=?_)
            refine done_ (done_of HT_.out (by kernel_rfl)) ?_
            try go_wp2
            first|go_roundg k5|(simp only [← hji40];go_roundg k5)|(simp only [← hji51];go_roundg k5)
            case measure=>have:=HK1.out;have:=HK2.out;have:=HK3.out;have:=HK4.out;have:=HK5.out;omega
            case rel=>exact ⟨(wrap64 (x12_5+(wrap64 ((rd (rd_L1 l0 x11_4) x13_5) * (rd x6_3 x13_5))))),(wrap64 (x13_5+1)),rs,rs,(by first|exact H'|(rw [hji40];exact H')|(rw [hji51];exact H')),⟨by have:=HK1.out;have:=HK2.out;have:=HK3.out;have:=HK4.out;have:=HK5.out;omega⟩,⟨by (with_reducible repeat (first|apply Kd.R_alloc|apply Kd.R_drewN|apply Kd.R_drew));exact HO_3.out⟩,⟨by (with_reducible repeat (first|apply Kd.R_alloc|apply Kd.R_drewN|apply Kd.R_drew));exact HO_5.out⟩,⟨by (with_reducible repeat (first|apply Kd.R_alloc|apply Kd.R_drewN|apply Kd.R_drew));exact HO_6.out⟩,⟨by (with_reducible repeat (first|apply Kd.R_alloc|apply Kd.R_drewN|apply Kd.R_drew));exact HO_10.out⟩,⟨bl⟩⟩
     rw [if_pos c11] at H
     have c11b0:=decide_eq_true c11
     clear c11
     replace H:=iS H;obtain ⟨c12,H⟩:=H
     have c12b0:=decide_eq_true c12
     clear c12
     replace H:=iS H;obtain ⟨c13,H⟩:=H
     have c13b0:=decide_eq_true c13
     clear c13
     replace H:=iS H;obtain ⟨c14,H⟩:=H
     have c14b0:=decide_eq_true c14
     clear c14
     replace H:=iS H;obtain ⟨c15,H⟩:=H
     have c15b0:=decide_eq_true c15
     clear c15
     replace H:=iS H;obtain ⟨c16,H⟩:=H
     have LMc16:=Aside0.mk c16
     clear c16
     obtain ⟨y117,hy117⟩:∃ y_:List Int,y_=(x6_2 ++ [rd (rd_L1 l0 x7_2) x4_1]):=⟨_,rfl⟩
     replace H:(F136.l1 k2 l0 x3_1 x4_1 y109 y117 (wrap64 (x7_2+1)))=some r:=by first|(rw [hy117];with_reducible exact H)|(have H2_:=(Option.bind_some _ _).symm.trans H;rw [hy117];with_reducible exact H2_)|(have H2_:=(Option.bind_some _ _).symm.trans H;with_reducible exact H2_)|with_reducible exact H|(rw [hy117];exact H)|exact H
     have Ny117:=Aside0.mk hy117
     clear hy117
     have H':=Aside0.mk H
     clear H
     have p115:0≤(x7_2:Int):=oD
     have q115:x7_2 < (l0.length:Int):=oD
     obtain ⟨ad115,A115_0,c115_0,e115,hx115_0,hl115_0,hi115_0⟩:=at_L1 HR0.out x7_2 p115 q115
     obtain rfl:ad107=ad115:=(by injection e115)
     replace hx115_0:=hbc HB hx115_0
     have HR115_0:=Aside0.mk hi115_0
     have HC115_0:=Aside0.mk hl115_0
     clear hi115_0 hl115_0
     replace p115:=eq_true p115
     replace q115:=eq_true q115
     have p116:0≤(x4_1:Int):=oD
     have q116:x4_1 < ((rd_L1 l0 x7_2).length:Int):=oD
     obtain ⟨ad116,e116,hx116_0⟩:=Kd.at_int HR115_0.out x4_1 p116 q116
     cases e116
     replace hx116_0:=hbc HB hx116_0
     replace p116:=eq_true p116
     replace q116:=eq_true q116
     go_wp2_with (first|((with_reducible refine gate_builtin (b:=.append) (xs:=#[.tmp 39,.tmp 47]) rfl ?_);at_builtin;refine Kd.R_append (Kd.int .i64) (w0:=w) w.heap.size rfl (.tmp 39) (.tmp 47) 28 2 (.int .i64 0) 8 rfl Try.underlying28 info2 rfl (by decide) (by omega) u6 x6_2 (rd (rd_L1 l0 x7_2) x4_1) [.int .i64 (rd (rd_L1 l0 x7_2) x4_1)] (fun k_=>some k_ ≠ (u3:Value).ownBlock∧some k_ ≠ (v110:Value).ownBlock) (fun _=>False) rfl rfl ?aP (fun _ hk=>hk.elim) ?aF ?aO ?aB ?aS ?aL ?_;(case aP=>exact rfl);(case aB=>exact bl);(case aF=>exact (fun k_ hk=>⟨Kd.fresh' (Kd.R_lt (aR HO_3.out)) k_ hk,Kd.fresh' (Kd.R_lt (aR HO_5.out)) k_ hk⟩));(case aO=>exact (aR HO_6.out));(case aS=>exact (below_size bl));(case aL=>have:=LMc16.out;omega);intro v118 w17 ho hb hg hat;rw [← Ny117.out] at ho;have n0_:=Aside0.mk (Kd.R_after (ok:=(fun k_=>some k_ ≠ (v110:Value).ownBlock)) (aR HO_3.out) hg hat);have n1_:=Aside0.mk (Kd.R_after (ok:=(fun k_=>some k_ ≠ (u3:Value).ownBlock)) (aR HO_5.out) hg hat);have n2_:=Aside0.mk (hb);have n3_:=Aside0.mk (ho);clear HO_3;clear HO_5;clear HB;clear HO_6;have HO_3:=n0_;have HO_5:=n1_;have HB:=n2_;have HO119:=n3_;clear n0_ n1_ n2_ n3_;clear ho hb hg hat))
     first|go_roundg k2|(simp only [← hji40];go_roundg k2)|(simp only [← hji51];go_roundg k2)
     case measure=>have:=HK1.out;have:=HK2.out;omega
     case rel=>exact ⟨(y117),(wrap64 (x7_2+1)),rs,(by first|exact H'|(rw [hji40];exact H')|(rw [hji51];exact H')),⟨by have:=HK1.out;have:=HK2.out;omega⟩,⟨by (with_reducible repeat (first|apply Kd.R_alloc|apply Kd.R_drewN|apply Kd.R_drew));exact HO_3.out⟩,⟨by (with_reducible repeat (first|apply Kd.R_alloc|apply Kd.R_drewN|apply Kd.R_drew));exact HO_5.out⟩,⟨by (with_reducible repeat (first|apply Kd.R_alloc|apply Kd.R_drewN|apply Kd.R_drew));exact HO119.out⟩,⟨bl⟩⟩
end Go.Proofs.Ytoebojnhchocaaa.A
/- Set with little white space, by a program. -/
