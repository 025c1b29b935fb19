/- The functions that one law reaches, each as a Lean function, and that Go's call comes to what it says. Condition of each: that the Lean function answers (is not none). -/
import Derived.Test.YtoebojnhchocaaaAx0
import Derived.Test.YtoebojnhchocaaaAx1
namespace Go.Proofs.Ytoebojnhchocaaa.A
open Go.RowKit Go.Proofs.YtoebojnhchocaaaW.PrintWords Go.Proofs.YtoebojnhchocaaaW.PrintLast Go.Proofs.YtoebojnhchocaaaW.PrintMore
attribute [local go_sem] max2_int min2_int max_two min_two max_three min_three max_four min_four   -- for this text's walks alone
set_option linter.unusedVariables false
set_option linter.unusedSimpArgs false
/-! ### F157: function 157 -/
mutual
def F157.j0 : Nat → Bool → Int → List (List Int) → Int → List (List Int) → Option (Bool)
 | 0,_,_,_,_,_=>none
 | k+1,x23,x102000,x102001,x102002,x102003=>if x23=true then (some false) else (F157.l0 k 0 x102000 x102001 x102002 x102003)
def F157.l0 : Nat → Int → Int → List (List Int) → Int → List (List Int) → Option (Bool)
 | 0,_,_,_,_,_=>none
 | k+1,x3,x102000,x102001,x102002,x102003=>if x3 < (x102003.length:Int) then (if 0≤x3 then ((F214.f k (rd_L1 x102003 x3) x102002).bind fun t105=>(if t105=true then (F157.l0 k (wrap64 (x3+1)) x102000 x102001 x102002 x102003) else (some false))) else (none)) else (some true)
end
def F157.f (k:Nat) (a0_0:Int) (l0_1:List (List Int)) (a0_2:Int) (l0_3:List (List Int)):Option (Bool):=(F100.f k a0_0 l0_1).bind fun t102=>(if t102=true then ((F172.f a0_2 1 4).bind fun t103=>(if t103=true then (F157.j0 k ((l0_3.length:Int) != (l0_1.length:Int)) a0_0 l0_1 a0_2 l0_3) else (F157.j0 k true a0_0 l0_1 a0_2 l0_3))) else (F157.j0 k true a0_0 l0_1 a0_2 l0_3))
theorem F157.mono_l : ∀ k, (∀ y0 y1 y2 y3 y4, LeO (F157.j0 k y0 y1 y2 y3 y4) (F157.j0 (k + 1) y0 y1 y2 y3 y4)) ∧ (∀ y0 y1 y2 y3 y4, LeO (F157.l0 k y0 y1 y2 y3 y4) (F157.l0 (k + 1) y0 y1 y2 y3 y4))
 | 0=>⟨fun _ _ _ _ _ r h=>by simp [F157.j0] at h,fun _ _ _ _ _ r h=>by simp [F157.l0] at h⟩
 | k+1=>by
  obtain ⟨ih0,ih1⟩:=F157.mono_l k
  refine ⟨?_, ?_⟩ <;> intros <;> (first | unfold F157.j0 | unfold F157.l0) <;> repeat' first
   | (with_reducible first|exact ih0 _ _ _ _ _|exact ih1 _ _ _ _ _|exact F100.mono _ _ _|exact F214.mono _ _ _|exact LeO.refl _|exact LeO.none _|refine LeO.ite ?_ ?_|refine LeO.bind ?_ (fun _=>?_))
   | exact ih0 _ _ _ _ _|exact ih1 _ _ _ _ _|exact F100.mono _ _ _|exact F214.mono _ _ _|exact LeO.none _|refine LeO.ite ?_ ?_|refine LeO.bind ?_ (fun _=>?_)
theorem F157.mono:∀ a0 a1 a2 a3 k,LeO (F157.f k a0 a1 a2 a3) (F157.f (k+1) a0 a1 a2 a3):=by
 intro a0 a1 a2 a3 k
 obtain ⟨ih0,ih1⟩:=F157.mono_l k
 unfold F157.f
 repeat' first
  | (with_reducible first|exact ih0 _ _ _ _ _|exact ih1 _ _ _ _ _|exact F100.mono _ _ _|exact F214.mono _ _ _|exact LeO.refl _|exact LeO.none _|refine LeO.ite ?_ ?_|refine LeO.bind ?_ (fun _=>?_))
  | exact ih0 _ _ _ _ _|exact ih1 _ _ _ _ _|exact F100.mono _ _ _|exact F214.mono _ _ _|exact LeO.none _|refine LeO.ite ?_ ?_|refine LeO.bind ?_ (fun _=>?_)
def F157.T6:Bool × List (List Nat × List Nat):=(true,[([],[]),([0],[0]),([],[]),([1,2],[1,2]),([3],[3]),([],[]),([5],[5]),([4,6],[4,6]),([7],[7])])
def F157.B6:List Nat:=[0,1,0,7,15,0,32,127,255]
theorem F157.tab6:rtab .any (opsOf Try.f157 6)=F157.T6:=by kernel_rfl
theorem F157.bits6:waitsOk F157.T6.2 F157.B6=true:=by kernel_rfl
set_option maxHeartbeats 8000000 in
set_option maxRecDepth 100000 in
theorem F157.calls (k : Nat) (a0_0 : Int) (A0_1 : Option Addr) (c0_1 : Nat) (l0_1 : List (List Int)) (a0_2 : Int) (A0_3 : Option Addr) (c0_3 : Nat) (l0_3 : List (List Int)) (r : Bool) (w : World) (hr0_1 : Kd.C (Kd.slice 2 (Kd.int .i64)) w A0_1 l0_1.length l0_1) (hc0_1 : l0_1.length ≤ c0_1) (hr0_3 : Kd.C (Kd.slice 2 (Kd.int .i64)) w A0_3 l0_3.length l0_3) (hc0_3 : l0_3.length ≤ c0_3) (h : F157.f k a0_0 l0_1 a0_2 l0_3 = some r) :
  Calls Try.prog 157 #[.agg #[.int .i64 a0_0,.slice A0_1 l0_1.length c0_1,.int .i64 a0_2,.slice A0_3 l0_3.length c0_3]] w fun e w'=>e=.returned (.bool r)∧Below w.heap.size w w':=by
 have hu33:=Try.underlying33
 have hu31:=Try.underlying31
 have HR0_1:=Aside0.mk hr0_1
 have HC0_1:=Aside0.mk hc0_1
 clear hr0_1 hc0_1
 have HR0_3:=Aside0.mk hr0_3
 have HC0_3:=Aside0.mk hc0_3
 clear hr0_3 hc0_3
 have HB:=Aside0.mk (Below.refl w.heap.size w)
 have H:((F100.f k a0_0 l0_1).bind fun t102=>(if t102=true then ((F172.f a0_2 1 4).bind fun t103=>(if t103=true then (F157.j0 k ((l0_3.length:Int) != (l0_1.length:Int)) a0_0 l0_1 a0_2 l0_3) else (F157.j0 k true a0_0 l0_1 a0_2 l0_3))) else (F157.j0 k true a0_0 l0_1 a0_2 l0_3)))=some r:=h
 clear h
 have HC2:=Aside0.mk H
 clear H
 go_enter Try.func157,Try.ntmps157
 go_upto_region 1 with (first|((with_reducible refine gate_dst (N:=1) rfl ?_);(try (refine gate_guard (by rfl) ?_;dsimp only));refine box_event ?hg (N:=1) ?hd (cs:=#[.int .i64 a0_0,.slice A0_1 l0_1.length c0_1,.int .i64 a0_2,.slice A0_3 l0_3.length c0_3]) (t:=33) ?hr ?_;(case hd=>rfl);(case hg=>rfl);(case hr=>first|(go_simp;done)|(go_simp;rfl));intro gb101 hg w3 hbox hb;have BK101:=Aside0.mk (hbox);have GW101:=Aside0.mk ((by rw [hg];exact (below_size bl):w.heap.size≤gb101));have GE101:=Aside0.mk ((by rw [hg];exact (below_size bl):w.heap.size≤gb101));replace HB:=Aside0.mk (below_step bl hb);clear hb hbox hg))
 (try simp only [Act.put,zI,zZ,zS])
 go_cut [23] (fun v23 wc=>∃ (kq:Nat) (x23_1:Bool),v23=.bool x23_1∧Aside0 (F157.j0 kq x23_1 a0_0 l0_1 a0_2 l0_3=some r)∧Aside0 (kq≤k)∧Aside0 (wc.heap[gb101]?=some (.cells #[.int .i64 a0_0,(.slice A0_1 l0_1.length c0_1),.int .i64 a0_2,(.slice A0_3 l0_3.length c0_3)] 33 (0,0)))∧Aside0 (Below w.heap.size w wc))
 case first =>
  have H:=HC2.out
  clear HC2
  replace H:=Option.bind_eq_some_iff.mp H
  obtain ⟨t102,A40,H⟩:=H
  replace H:(if t102=true then ((F172.f a0_2 1 4).bind fun t103=>(if t103=true then (F157.j0 k ((l0_3.length:Int) != (l0_1.length:Int)) a0_0 l0_1 a0_2 l0_3) else (F157.j0 k true a0_0 l0_1 a0_2 l0_3))) else (F157.j0 k true a0_0 l0_1 a0_2 l0_3))=some r:=H
  have A4:=Aside0.mk A40
  clear A40
  by_cases c5:t102=true
  case neg =>
   replace c5:=Bool.eq_false_iff.mpr c5
   subst c5
   have H1:(F157.j0 k true a0_0 l0_1 a0_2 l0_3)=some r:=by rw [if_neg (show ¬ (false=true) by decide)] at H;exact H
   clear H
   have H:=H1
   clear H1
   have H':=Aside0.mk H
   clear H
   have hcz14_0:w3.cell? ⟨gb101,0,none⟩=some (.int .i64 a0_0):=(blk_cell BK101.out 0).trans rfl
   have hcz14_1:w3.cell? ⟨gb101,1,none⟩=some (.slice A0_1 l0_1.length c0_1):=(blk_cell BK101.out 1).trans rfl
   have hcz14_2:w3.cell? ⟨gb101,2,none⟩=some (.int .i64 a0_2):=(blk_cell BK101.out 2).trans rfl
   have hcz14_3:w3.cell? ⟨gb101,3,none⟩=some (.slice A0_3 l0_3.length c0_3):=(blk_cell BK101.out 3).trans rfl
   have hfz14_0:=blk_frozen BK101.out 0
   have hfz14_1:=blk_frozen BK101.out 1
   have hfz14_2:=blk_frozen BK101.out 2
   have hfz14_3:=blk_frozen BK101.out 3
   go_wp2_with (first|((with_reducible refine gate_callee (f:=100) rfl ?_);refine goesL_ (some 6) rfl rfl Try.func100 (by kernel_rfl) rfl #[.agg #[.int .i64 a0_0,.slice A0_1 l0_1.length c0_1]] rfl gm ?_;(with_reducible refine (F100.calls k a0_0 _ _ l0_1 false _ ?side1 ?side2 A4.out).mono ?_);(case side1=>exact aC (Kd.C_below HR0_1.out HB.out));(case side2=>exact HC0_1.out);rintro e w15 ⟨rfl,hb⟩;refine ⟨_,rfl,?_⟩;replace BK101:=Aside0.mk (blk_below (g:=gb101) (o:=.cells #[.int .i64 a0_0,.slice A0_1 l0_1.length c0_1,.int .i64 a0_2,.slice A0_3 l0_3.length c0_3] 33 (0,0)) bk hb);replace HB:=Aside0.mk (below_step bl hb);(try clear hb);(try clear hb2);(try clear hk);(try clear hi)))
   go_meet
   case rel=>exact ⟨_,(true),rs,H',⟨by first|omega|exact Nat.le_refl _⟩,⟨bk⟩,⟨bl⟩⟩
  subst c5
  have H1:((F172.f a0_2 1 4).bind fun t103=>(if t103=true then (F157.j0 k ((l0_3.length:Int) != (l0_1.length:Int)) a0_0 l0_1 a0_2 l0_3) else (F157.j0 k true a0_0 l0_1 a0_2 l0_3)))=some r:=by rw [if_pos rfl] at H;exact H
  clear H
  have H:=H1
  clear H1
  replace H:=Option.bind_eq_some_iff.mp H
  obtain ⟨t103,A60,H⟩:=H
  replace H:(if t103=true then (F157.j0 k ((l0_3.length:Int) != (l0_1.length:Int)) a0_0 l0_1 a0_2 l0_3) else (F157.j0 k true a0_0 l0_1 a0_2 l0_3))=some r:=H
  have A6:=Aside0.mk A60
  clear A60
  by_cases c7:t103=true
  case neg =>
   replace c7:=Bool.eq_false_iff.mpr c7
   subst c7
   have H1:(F157.j0 k true a0_0 l0_1 a0_2 l0_3)=some r:=by rw [if_neg (show ¬ (false=true) by decide)] at H;exact H
   clear H
   have H:=H1
   clear H1
   have H':=Aside0.mk H
   clear H
   have hcz11_0:w3.cell? ⟨gb101,0,none⟩=some (.int .i64 a0_0):=(blk_cell BK101.out 0).trans rfl
   have hcz11_1:w3.cell? ⟨gb101,1,none⟩=some (.slice A0_1 l0_1.length c0_1):=(blk_cell BK101.out 1).trans rfl
   have hcz11_2:w3.cell? ⟨gb101,2,none⟩=some (.int .i64 a0_2):=(blk_cell BK101.out 2).trans rfl
   have hcz11_3:w3.cell? ⟨gb101,3,none⟩=some (.slice A0_3 l0_3.length c0_3):=(blk_cell BK101.out 3).trans rfl
   have hfz11_0:=blk_frozen BK101.out 0
   have hfz11_1:=blk_frozen BK101.out 1
   have hfz11_2:=blk_frozen BK101.out 2
   have hfz11_3:=blk_frozen BK101.out 3
   go_wp2_with (first|((with_reducible refine gate_callee (f:=100) rfl ?_);refine goesL_ (some 6) rfl rfl Try.func100 (by kernel_rfl) rfl #[.agg #[.int .i64 a0_0,.slice A0_1 l0_1.length c0_1]] rfl gm ?_;(with_reducible refine (F100.calls k a0_0 _ _ l0_1 true _ ?side1 ?side2 A4.out).mono ?_);(case side1=>exact aC (Kd.C_below HR0_1.out HB.out));(case side2=>exact HC0_1.out);rintro e w12 ⟨rfl,hb⟩;refine ⟨_,rfl,?_⟩;replace BK101:=Aside0.mk (blk_below (g:=gb101) (o:=.cells #[.int .i64 a0_0,.slice A0_1 l0_1.length c0_1,.int .i64 a0_2,.slice A0_3 l0_3.length c0_3] 33 (0,0)) bk hb);replace HB:=Aside0.mk (below_step bl hb);(try clear hb);(try clear hb2);(try clear hk);(try clear hi);have hcz13_0:w12.cell? ⟨gb101,0,none⟩=some (.int .i64 a0_0):=(blk_cell BK101.out 0).trans rfl;have hcz13_1:w12.cell? ⟨gb101,1,none⟩=some (.slice A0_1 l0_1.length c0_1):=(blk_cell BK101.out 1).trans rfl;have hcz13_2:w12.cell? ⟨gb101,2,none⟩=some (.int .i64 a0_2):=(blk_cell BK101.out 2).trans rfl;have hcz13_3:w12.cell? ⟨gb101,3,none⟩=some (.slice A0_3 l0_3.length c0_3):=(blk_cell BK101.out 3).trans rfl;have hfz13_0:=blk_frozen BK101.out 0;have hfz13_1:=blk_frozen BK101.out 1;have hfz13_2:=blk_frozen BK101.out 2;have hfz13_3:=blk_frozen BK101.out 3)|(go_at_call 172;(with_reducible refine (F172.calls a0_2 1 4 false _ A6.out).mono ?_);rintro e w' ⟨rfl,⟨nd,rfl⟩⟩))
   go_meet
   case rel=>exact ⟨_,(true),rs,H',⟨by first|omega|exact Nat.le_refl _⟩,⟨bk⟩,⟨bl⟩⟩
  subst c7
  have H1:(F157.j0 k ((l0_3.length:Int) != (l0_1.length:Int)) a0_0 l0_1 a0_2 l0_3)=some r:=by rw [if_pos rfl] at H;exact H
  clear H
  have H:=H1
  clear H1
  have H':=Aside0.mk H
  clear H
  have hcz8_0:w3.cell? ⟨gb101,0,none⟩=some (.int .i64 a0_0):=(blk_cell BK101.out 0).trans rfl
  have hcz8_1:w3.cell? ⟨gb101,1,none⟩=some (.slice A0_1 l0_1.length c0_1):=(blk_cell BK101.out 1).trans rfl
  have hcz8_2:w3.cell? ⟨gb101,2,none⟩=some (.int .i64 a0_2):=(blk_cell BK101.out 2).trans rfl
  have hcz8_3:w3.cell? ⟨gb101,3,none⟩=some (.slice A0_3 l0_3.length c0_3):=(blk_cell BK101.out 3).trans rfl
  have hfz8_0:=blk_frozen BK101.out 0
  have hfz8_1:=blk_frozen BK101.out 1
  have hfz8_2:=blk_frozen BK101.out 2
  have hfz8_3:=blk_frozen BK101.out 3
  go_wp2_with (first|((with_reducible refine gate_callee (f:=100) rfl ?_);refine goesL_ (some 6) rfl rfl Try.func100 (by kernel_rfl) rfl #[.agg #[.int .i64 a0_0,.slice A0_1 l0_1.length c0_1]] rfl gm ?_;(with_reducible refine (F100.calls k a0_0 _ _ l0_1 true _ ?side1 ?side2 A4.out).mono ?_);(case side1=>exact aC (Kd.C_below HR0_1.out HB.out));(case side2=>exact HC0_1.out);rintro e w9 ⟨rfl,hb⟩;refine ⟨_,rfl,?_⟩;replace BK101:=Aside0.mk (blk_below (g:=gb101) (o:=.cells #[.int .i64 a0_0,.slice A0_1 l0_1.length c0_1,.int .i64 a0_2,.slice A0_3 l0_3.length c0_3] 33 (0,0)) bk hb);replace HB:=Aside0.mk (below_step bl hb);(try clear hb);(try clear hb2);(try clear hk);(try clear hi);have hcz10_0:w9.cell? ⟨gb101,0,none⟩=some (.int .i64 a0_0):=(blk_cell BK101.out 0).trans rfl;have hcz10_1:w9.cell? ⟨gb101,1,none⟩=some (.slice A0_1 l0_1.length c0_1):=(blk_cell BK101.out 1).trans rfl;have hcz10_2:w9.cell? ⟨gb101,2,none⟩=some (.int .i64 a0_2):=(blk_cell BK101.out 2).trans rfl;have hcz10_3:w9.cell? ⟨gb101,3,none⟩=some (.slice A0_3 l0_3.length c0_3):=(blk_cell BK101.out 3).trans rfl;have hfz10_0:=blk_frozen BK101.out 0;have hfz10_1:=blk_frozen BK101.out 1;have hfz10_2:=blk_frozen BK101.out 2;have hfz10_3:=blk_frozen BK101.out 3)|(go_at_call 172;(with_reducible refine (F172.calls a0_2 1 4 true _ A6.out).mono ?_);rintro e w' ⟨rfl,⟨nd,rfl⟩⟩))
  go_meet
  case rel=>exact ⟨_,(((l0_3.length:Int) != (l0_1.length:Int))),rs,H',⟨by first|omega|exact Nat.le_refl _⟩,⟨bk⟩,⟨bl⟩⟩
 case rest =>
  clear HC2
  (try clear c1);(try clear p2);(try clear c5);(try clear c7);(try clear c10);(try clear c15);(try clear hcz10_0);(try clear hcz10_1);(try clear hcz10_2);(try clear hcz10_3);(try clear hcz11_0);(try clear hcz11_1);(try clear hcz11_2);(try clear hcz11_3);(try clear hcz13_0);(try clear hcz13_1);(try clear hcz13_2);(try clear hcz13_3);(try clear hcz14_0);(try clear hcz14_1);(try clear hcz14_2);(try clear hcz14_3);(try clear hcz8_0);(try clear hcz8_1);(try clear hcz8_2);(try clear hcz8_3);(try clear hfz10_0);(try clear hfz10_1);(try clear hfz10_2);(try clear hfz10_3);(try clear hfz11_0);(try clear hfz11_1);(try clear hfz11_2);(try clear hfz11_3);(try clear hfz13_0);(try clear hfz13_1);(try clear hfz13_2);(try clear hfz13_3);(try clear hfz14_0);(try clear hfz14_1);(try clear hfz14_2);(try clear hfz14_3);(try clear hfz8_0);(try clear hfz8_1);(try clear hfz8_2);(try clear hfz8_3)
  obtain ⟨kq,x23_1,rfl,HA,HJ1,BK101,HB⟩:=hcut
  cases kq with
  | zero=>exact absurd HA.out (by simp [F157.j0])
  | succ kj1 =>
   have H:=HA.out
   clear HA
   simp only [F157.j0] at H
   by_cases c16:x23_1=true
   case neg =>
    replace c16:=Bool.eq_false_iff.mpr c16
    subst c16
    have H1:(F157.l0 kj1 0 a0_0 l0_1 a0_2 l0_3)=some r:=by rw [if_neg (show ¬ (false=true) by decide)] at H;exact H
    clear H
    have H:=H1
    clear H1
    have H':=Aside0.mk H
    clear H
    go_wp2
    go_loopg [3] kj1 (fun kq v3 w'=>∃ (x3_2:Int),v3=.int .i64 x3_2∧Aside0 (F157.l0 kq x3_2 a0_0 l0_1 a0_2 l0_3=some r)∧Aside0 (kq≤kj1)∧Aside0 (w'.heap[gb101]?=some (.cells #[.int .i64 a0_0,(.slice A0_1 l0_1.length c0_1),.int .i64 a0_2,(.slice A0_3 l0_3.length c0_3)] 33 (0,0)))∧Aside0 (Below w.heap.size w w'))
    case atStart=>exact ⟨(0),rs,H',⟨Nat.le_refl _⟩,⟨bk⟩,⟨bl⟩⟩
    case round =>
     clear H'
     (try clear c1);(try clear p2);(try clear c5);(try clear c7);(try clear c10);(try clear c15);(try clear c16);(try clear hcz10_0);(try clear hcz10_1);(try clear hcz10_2);(try clear hcz10_3);(try clear hcz11_0);(try clear hcz11_1);(try clear hcz11_2);(try clear hcz11_3);(try clear hcz13_0);(try clear hcz13_1);(try clear hcz13_2);(try clear hcz13_3);(try clear hcz14_0);(try clear hcz14_1);(try clear hcz14_2);(try clear hcz14_3);(try clear hcz8_0);(try clear hcz8_1);(try clear hcz8_2);(try clear hcz8_3);(try clear hfz10_0);(try clear hfz10_1);(try clear hfz10_2);(try clear hfz10_3);(try clear hfz11_0);(try clear hfz11_1);(try clear hfz11_2);(try clear hfz11_3);(try clear hfz13_0);(try clear hfz13_1);(try clear hfz13_2);(try clear hfz13_3);(try clear hfz14_0);(try clear hfz14_1);(try clear hfz14_2);(try clear hfz14_3);(try clear hfz8_0);(try clear hfz8_1);(try clear hfz8_2);(try clear hfz8_3);(try clear p2)
     obtain ⟨x3_2,rfl,HA,HK2,BK101,HB⟩:=hrel
     cases gk with
     | zero=>exact absurd HA.out (by simp [F157.l0])
     | succ k2 =>
      have H:=HA.out
      clear HA
      simp only [F157.l0] at H
      by_cases c17:x3_2 < (l0_3.length:Int)
      case neg =>
       rw [if_neg c17] at H
       have c17b0:decide (x3_2 < (l0_3.length:Int))=false:=decide_eq_false c17
       clear c17
       obtain rfl:=Option.some.inj H
       have hcz27_0:wr.cell? ⟨gb101,0,none⟩=some (.int .i64 a0_0):=(blk_cell BK101.out 0).trans rfl
       have hcz27_1:wr.cell? ⟨gb101,1,none⟩=some (.slice A0_1 l0_1.length c0_1):=(blk_cell BK101.out 1).trans rfl
       have hcz27_2:wr.cell? ⟨gb101,2,none⟩=some (.int .i64 a0_2):=(blk_cell BK101.out 2).trans rfl
       have hcz27_3:wr.cell? ⟨gb101,3,none⟩=some (.slice A0_3 l0_3.length c0_3):=(blk_cell BK101.out 3).trans rfl
       have hfz27_0:=blk_frozen BK101.out 0
       have hfz27_1:=blk_frozen BK101.out 1
       have hfz27_2:=blk_frozen BK101.out 2
       have hfz27_3:=blk_frozen BK101.out 3
       go_wp2
       go_ret
       exact ⟨by first|rfl|(simp [errW_none,errW_some]<;>rfl)|(simp [*,errW_none,errW_some]<;>rfl),bl⟩
      rw [if_pos c17] at H
      have c17b0:=decide_eq_true c17
      clear c17
      replace H:=iS H;obtain ⟨c18,H⟩:=H
      have c18b0:=decide_eq_true c18
      clear c18
      replace H:=Option.bind_eq_some_iff.mp H
      obtain ⟨t105,A190,H⟩:=H
      replace H:(if t105=true then (F157.l0 k2 (wrap64 (x3_2+1)) a0_0 l0_1 a0_2 l0_3) else (some false))=some r:=H
      have A19:=Aside0.mk A190
      clear A190
      by_cases c20:t105=true
      case neg =>
       replace c20:=Bool.eq_false_iff.mpr c20
       subst c20
       have H1:(some false)=some r:=by rw [if_neg (show ¬ (false=true) by decide)] at H;exact H
       clear H
       have H:=H1
       clear H1
       obtain rfl:=Option.some.inj H
       have hcz24_0:wr.cell? ⟨gb101,0,none⟩=some (.int .i64 a0_0):=(blk_cell BK101.out 0).trans rfl
       have hcz24_1:wr.cell? ⟨gb101,1,none⟩=some (.slice A0_1 l0_1.length c0_1):=(blk_cell BK101.out 1).trans rfl
       have hcz24_2:wr.cell? ⟨gb101,2,none⟩=some (.int .i64 a0_2):=(blk_cell BK101.out 2).trans rfl
       have hcz24_3:wr.cell? ⟨gb101,3,none⟩=some (.slice A0_3 l0_3.length c0_3):=(blk_cell BK101.out 3).trans rfl
       have hfz24_0:=blk_frozen BK101.out 0
       have hfz24_1:=blk_frozen BK101.out 1
       have hfz24_2:=blk_frozen BK101.out 2
       have hfz24_3:=blk_frozen BK101.out 3
       try go_wp2
       replace BK101:=Aside0.mk (blk_drew BK101.out);replace HB:=Aside0.mk (below_drew1 HB.out)
       have p104:0≤(x3_2:Int):=oD
       have q104:x3_2 < (l0_3.length:Int):=oD
       obtain ⟨ad104,A104_0,c104_0,e104,hx104_0,hl104_0,hi104_0⟩:=at_L1 HR0_3.out x3_2 p104 q104
       have hw104_0:=hx104_0
       cases e104
       replace hx104_0:=hbc HB hx104_0
       have HR104_0:=Aside0.mk hi104_0
       have HC104_0:=Aside0.mk hl104_0
       clear hi104_0 hl104_0
       replace p104:=eq_true p104
       replace q104:=eq_true q104
       refine start_ (n:=9) (S:=fun w'=>w'.cell? ⟨gb101,0,none⟩=some (.int .i64 a0_0)∧w'.cell? ⟨gb101,1,none⟩=some (.slice A0_1 l0_1.length c0_1)∧w'.cell? ⟨gb101,2,none⟩=some (.int .i64 a0_2)∧w'.cell? ⟨gb101,3,none⟩=some (.slice (some ad104) l0_3.length c0_3)∧w'.cell? (ad104.add (x3_2).toNat)=some (.slice A104_0 (rd_L1 l0_3 x3_2).length c104_0)) (ds:=[]) (ba 9 0) (by kernel_rfl) rfl rfl ⟨(blk_cell BK101.out 0).trans rfl,(blk_cell BK101.out 1).trans rfl,(blk_cell BK101.out 2).trans rfl,(blk_cell BK101.out 3).trans rfl,(hbc HB hw104_0)⟩ (fun hHeld=>?_);refine with_tabW F157.tab6 F157.bits6 (fun HT_ HW_=>?_)
       generalize wr.drew=w25 at BK101 HB HR104_0 hx104_0 hHeld ⊢
       refine pu 0 (some 31) (ba 9 1) HT_ (h:=?_)
       refine pu 2 (some 33) (ba 9 5) HT_ (h:=?_)
       refine pu 5 (some 36) (ba 9 37) HT_ (h:=?_)
       refine ta 1 (some 32) (ba 9 39) HT_ HW_ hHeld (hy:=Or.inl ⟨by rfl,by rintro w' ⟨s0,s1,s2,s3,s4⟩;go_simp;with_reducible rfl⟩) (h:=?_)
       refine pu 3 (some 34) (ba 9 47) HT_ (h:=?_)
       refine ta 4 (some 35) (ba 9 63) HT_ HW_ hHeld (hy:=Or.inl ⟨by rfl,by rintro w' ⟨s0,s1,s2,s3,s4⟩;go_simp;with_reducible rfl⟩) (h:=?_)
       refine ta 6 (some 37) (ba 9 127) HT_ HW_ hHeld (hy:=Or.inl ⟨by rfl,by rintro w' ⟨s0,s1,s2,s3,s4⟩;go_simp;with_reducible rfl⟩) (h:=?_)
       refine one_ (i:=7) (N:=some 38) (ba 9 255) rfl rfl (one_of HT_.out (by kernel_rfl)) (by decide) (fun K hK=>?_)
       refine goes_ Try.func214 (by kernel_rfl) rfl #[.slice A104_0 (rd_L1 l0_3 x3_2).length c104_0,.int .i64 a0_2] (by rfl) rfl rfl gm ?_
       with_reducible refine (F214.calls k2 _ _ (rd_L1 l0_3 x3_2) a0_2 false _ ?side1 ?side2 A19.out).mono ?_
       (case side1=>exact aC (Kd.C_below HR104_0.out HB.out))
       (case side2=>exact HC104_0.out)
       rintro e w26 ⟨rfl,hb⟩
       refine ⟨_,rfl,?_⟩
       replace BK101:=Aside0.mk (blk_below (g:=gb101) (o:=.cells #[.int .i64 a0_0,.slice A0_1 l0_1.length c0_1,.int .i64 a0_2,.slice (some ad104) l0_3.length c0_3] 33 (0,0)) bk hb);replace HB:=Aside0.mk (below_step bl hb)
       (try clear hb)
       (try clear hb2)
       (try clear hk)
       (try clear hi)
       refine hK.out _ _ ⟨(blk_cell BK101.out 0).trans rfl,(blk_cell BK101.out 1).trans rfl,(blk_cell BK101.out 2).trans rfl,(blk_cell BK101.out 3).trans rfl,(hbc HB hw104_0)⟩ (fun hHeld=>?_)
       clear hK K
       refine norm_ (a':=?_) ?_ ?_
       rotate_left;· show Act.put _ (some 38) _=_;simp only [Act.put,zI,zZ,zS,i64_w,i32_w];rfl
       refine pu 8 (some 39) (ba 9 511) HT_ (h:=?_)
       refine done_ (done_of HT_.out (by kernel_rfl)) ?_
       try go_wp2
       go_ret
       exact ⟨by first|rfl|(simp [errW_none,errW_some]<;>rfl)|(simp [*,errW_none,errW_some]<;>rfl),bl⟩
      subst c20
      have H1:(F157.l0 k2 (wrap64 (x3_2+1)) a0_0 l0_1 a0_2 l0_3)=some r:=by rw [if_pos rfl] at H;exact H
      clear H
      have H:=H1
      clear H1
      have H':=Aside0.mk H
      clear H
      have hcz21_0:wr.cell? ⟨gb101,0,none⟩=some (.int .i64 a0_0):=(blk_cell BK101.out 0).trans rfl
      have hcz21_1:wr.cell? ⟨gb101,1,none⟩=some (.slice A0_1 l0_1.length c0_1):=(blk_cell BK101.out 1).trans rfl
      have hcz21_2:wr.cell? ⟨gb101,2,none⟩=some (.int .i64 a0_2):=(blk_cell BK101.out 2).trans rfl
      have hcz21_3:wr.cell? ⟨gb101,3,none⟩=some (.slice A0_3 l0_3.length c0_3):=(blk_cell BK101.out 3).trans rfl
      have hfz21_0:=blk_frozen BK101.out 0
      have hfz21_1:=blk_frozen BK101.out 1
      have hfz21_2:=blk_frozen BK101.out 2
      have hfz21_3:=blk_frozen BK101.out 3
      try go_wp2
      replace BK101:=Aside0.mk (blk_drew BK101.out);replace HB:=Aside0.mk (below_drew1 HB.out)
      have p104:0≤(x3_2:Int):=oD
      have q104:x3_2 < (l0_3.length:Int):=oD
      obtain ⟨ad104,A104_0,c104_0,e104,hx104_0,hl104_0,hi104_0⟩:=at_L1 HR0_3.out x3_2 p104 q104
      have hw104_0:=hx104_0
      cases e104
      replace hx104_0:=hbc HB hx104_0
      have HR104_0:=Aside0.mk hi104_0
      have HC104_0:=Aside0.mk hl104_0
      clear hi104_0 hl104_0
      replace p104:=eq_true p104
      replace q104:=eq_true q104
      refine start_ (n:=9) (S:=fun w'=>w'.cell? ⟨gb101,0,none⟩=some (.int .i64 a0_0)∧w'.cell? ⟨gb101,1,none⟩=some (.slice A0_1 l0_1.length c0_1)∧w'.cell? ⟨gb101,2,none⟩=some (.int .i64 a0_2)∧w'.cell? ⟨gb101,3,none⟩=some (.slice (some ad104) l0_3.length c0_3)∧w'.cell? (ad104.add (x3_2).toNat)=some (.slice A104_0 (rd_L1 l0_3 x3_2).length c104_0)) (ds:=[]) (ba 9 0) (by kernel_rfl) rfl rfl ⟨(blk_cell BK101.out 0).trans rfl,(blk_cell BK101.out 1).trans rfl,(blk_cell BK101.out 2).trans rfl,(blk_cell BK101.out 3).trans rfl,(hbc HB hw104_0)⟩ (fun hHeld=>?_);refine with_tabW F157.tab6 F157.bits6 (fun HT_ HW_=>?_)
      generalize wr.drew=w22 at BK101 HB HR104_0 hx104_0 hHeld ⊢
      refine pu 0 (some 31) (ba 9 1) HT_ (h:=?_)
      refine pu 2 (some 33) (ba 9 5) HT_ (h:=?_)
      refine pu 5 (some 36) (ba 9 37) HT_ (h:=?_)
      refine ta 1 (some 32) (ba 9 39) HT_ HW_ hHeld (hy:=Or.inl ⟨by rfl,by rintro w' ⟨s0,s1,s2,s3,s4⟩;go_simp;with_reducible rfl⟩) (h:=?_)
      refine pu 3 (some 34) (ba 9 47) HT_ (h:=?_)
      refine ta 4 (some 35) (ba 9 63) HT_ HW_ hHeld (hy:=Or.inl ⟨by rfl,by rintro w' ⟨s0,s1,s2,s3,s4⟩;go_simp;with_reducible rfl⟩) (h:=?_)
      refine ta 6 (some 37) (ba 9 127) HT_ HW_ hHeld (hy:=Or.inl ⟨by rfl,by rintro w' ⟨s0,s1,s2,s3,s4⟩;go_simp;with_reducible rfl⟩) (h:=?_)
      refine one_ (i:=7) (N:=some 38) (ba 9 255) rfl rfl (one_of HT_.out (by kernel_rfl)) (by decide) (fun K hK=>?_)
      refine goes_ Try.func214 (by kernel_rfl) rfl #[.slice A104_0 (rd_L1 l0_3 x3_2).length c104_0,.int .i64 a0_2] (by rfl) rfl rfl gm ?_
      with_reducible refine (F214.calls k2 _ _ (rd_L1 l0_3 x3_2) a0_2 true _ ?side1 ?side2 A19.out).mono ?_
      (case side1=>exact aC (Kd.C_below HR104_0.out HB.out))
      (case side2=>exact HC104_0.out)
      rintro e w23 ⟨rfl,hb⟩
      refine ⟨_,rfl,?_⟩
      replace BK101:=Aside0.mk (blk_below (g:=gb101) (o:=.cells #[.int .i64 a0_0,.slice A0_1 l0_1.length c0_1,.int .i64 a0_2,.slice (some ad104) l0_3.length c0_3] 33 (0,0)) bk hb);replace HB:=Aside0.mk (below_step bl hb)
      (try clear hb)
      (try clear hb2)
      (try clear hk)
      (try clear hi)
      refine hK.out _ _ ⟨(blk_cell BK101.out 0).trans rfl,(blk_cell BK101.out 1).trans rfl,(blk_cell BK101.out 2).trans rfl,(blk_cell BK101.out 3).trans rfl,(hbc HB hw104_0)⟩ (fun hHeld=>?_)
      clear hK K
      refine norm_ (a':=?_) ?_ ?_
      rotate_left;· show Act.put _ (some 38) _=_;simp only [Act.put,zI,zZ,zS,i64_w,i32_w];rfl
      refine pu 8 (some 39) (ba 9 511) HT_ (h:=?_)
      refine done_ (done_of HT_.out (by kernel_rfl)) ?_
      try go_wp2
      go_roundg k2
      case measure=>have:=HJ1.out;have:=HK2.out;omega
      case rel=>exact ⟨(wrap64 (x3_2+1)),rs,H',⟨by have:=HJ1.out;have:=HK2.out;omega⟩,⟨bk⟩,⟨bl⟩⟩
   subst c16
   have H1:(some false)=some r:=by rw [if_pos rfl] at H;exact H
   clear H
   have H:=H1
   clear H1
   obtain rfl:=Option.some.inj H
   go_wp2
   go_ret
   exact ⟨by first|rfl|(simp [errW_none,errW_some]<;>rfl)|(simp [*,errW_none,errW_some]<;>rfl),bl⟩
end Go.Proofs.Ytoebojnhchocaaa.A
/- Set with little white space, by a program. -/
