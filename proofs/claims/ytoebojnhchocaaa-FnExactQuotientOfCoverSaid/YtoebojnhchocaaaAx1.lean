/- The functions that one law reaches, each as a Lean function, and that Go's call comes to what it says. Condition of each: that the Lean function answers (is not none). -/
import Derived.Test.YtoebojnhchocaaaAx0
namespace Go.Proofs.Ytoebojnhchocaaa.A
open Go.RowKit Go.Proofs.YtoebojnhchocaaaW.PrintWords Go.Proofs.YtoebojnhchocaaaW.PrintLast Go.Proofs.YtoebojnhchocaaaW.PrintMore
attribute [local go_sem] max2_int min2_int max_two min_two max_three min_three max_four min_four   -- for this text's walks alone
set_option linter.unusedVariables false
set_option linter.unusedSimpArgs false
/-! ### F156: function 156 -/
def F156.f (l0:List Int) (a1:Int):Option (Int):=if (wrap64 (a1 - (l0.length:Int))) < 0 then (some (-1)) else (some (wrap64 (a1 - (l0.length:Int))))
set_option maxHeartbeats 8000000 in
set_option maxRecDepth 100000 in
theorem F156.calls (A0 : Option Addr) (c0 : Nat) (l0 : List Int) (a1 : Int) (r : Int) (w : World) (hr0 : Kd.C (Kd.int .i64) w A0 l0.length l0) (hc0 : l0.length ≤ c0) (h : F156.f l0 a1 = some r) :
  Calls Try.prog 156 #[.slice A0 l0.length c0,.int .i64 a1] w fun e w'=>e=.returned (.int .i64 r)∧Drawn0 w w':=by
 have HR0:=Aside0.mk hr0
 have HC0:=Aside0.mk hc0
 clear hr0 hc0
 have H:(if (wrap64 (a1 - (l0.length:Int))) < 0 then (some (-1)) else (some (wrap64 (a1 - (l0.length:Int)))))=some r:=h
 clear h
 by_cases c3:(wrap64 (a1 - (l0.length:Int))) < 0
 case neg =>
  rw [if_neg c3] at H
  have c3b0:decide ((wrap64 (a1 - (l0.length:Int))) < 0)=false:=decide_eq_false c3
  clear c3
  obtain rfl:=Option.some.inj H
  go_enter Try.func156,Try.ntmps156
  go_wp2
  go_ret
  exact ⟨by first|rfl|(simp;done)|(simp [*];done),by repeat (first|exact Drawn0.refl _|apply Drawn0.step)⟩
 rw [if_pos c3] at H
 have c3b0:=decide_eq_true c3
 clear c3
 obtain rfl:=Option.some.inj H
 go_enter Try.func156,Try.ntmps156
 go_wp2
 go_ret
 exact ⟨by first|rfl|(simp;done)|(simp [*];done),by repeat (first|exact Drawn0.refl _|apply Drawn0.step)⟩
/-! ### F79: function 79 -/
def F79.l0 : Nat → List (List Int) → Int → Int → Option (Int)
 | 0,_,_,_=>none
 | k+1,x0,x1,x5=>if x5 < (x0.length:Int) then (if 0≤x5 then ((F156.f (rd_L1 x0 x5) x1).bind fun t102=>(if t102 < 0 then (some (-1)) else (F79.l0 k x0 t102 (wrap64 (x5+1))))) else (none)) else (some x1)
def F79.f (k:Nat) (l0:List (List Int)) (a1:Int):Option (Int):=if (wrap64 (a1 - (l0.length:Int))) < 0 then (some (-1)) else (F79.l0 k l0 (wrap64 (a1 - (l0.length:Int))) 0)
theorem F79.mono_l : ∀ k, (∀ y0 y1 y2, LeO (F79.l0 k y0 y1 y2) (F79.l0 (k + 1) y0 y1 y2))
 | 0=>fun _ _ _ r h=>by simp [F79.l0] at h
 | k+1=>by
  have ih0:=F79.mono_l k
  ·intro y0 y1 y2
   unfold F79.l0
   repeat' first
    | (with_reducible first|exact ih0 _ _ _|exact LeO.refl _|exact LeO.none _|refine LeO.ite ?_ ?_|refine LeO.bind ?_ (fun _=>?_))
    | exact ih0 _ _ _|exact LeO.none _|refine LeO.ite ?_ ?_|refine LeO.bind ?_ (fun _=>?_)
theorem F79.mono:∀ a0 a1 k,LeO (F79.f k a0 a1) (F79.f (k+1) a0 a1):=by
 intro a0 a1 k
 have ih0:=F79.mono_l k
 unfold F79.f
 repeat' first
  | (with_reducible first|exact ih0 _ _ _|exact LeO.refl _|exact LeO.none _|refine LeO.ite ?_ ?_|refine LeO.bind ?_ (fun _=>?_))
  | exact ih0 _ _ _|exact LeO.none _|refine LeO.ite ?_ ?_|refine LeO.bind ?_ (fun _=>?_)
set_option maxHeartbeats 8000000 in
set_option maxRecDepth 100000 in
theorem F79.calls (k : Nat) (A0 : Option Addr) (c0 : Nat) (l0 : List (List Int)) (a1 : Int) (r : Int) (w : World) (hr0 : Kd.C (Kd.slice 2 (Kd.int .i64)) w A0 l0.length l0) (hc0 : l0.length ≤ c0) (h : F79.f k l0 a1 = some r) :
  Calls Try.prog 79 #[.slice A0 l0.length c0,.int .i64 a1] w fun e w'=>e=.returned (.int .i64 r)∧Drawn0 w w':=by
 have HR0:=Aside0.mk hr0
 have HC0:=Aside0.mk hc0
 clear hr0 hc0
 have H:(if (wrap64 (a1 - (l0.length:Int))) < 0 then (some (-1)) else (F79.l0 k l0 (wrap64 (a1 - (l0.length:Int))) 0))=some r:=h
 clear h
 by_cases c3:(wrap64 (a1 - (l0.length:Int))) < 0
 case neg =>
  rw [if_neg c3] at H
  have c3b0:decide ((wrap64 (a1 - (l0.length:Int))) < 0)=false:=decide_eq_false c3
  clear c3
  have H':=Aside0.mk H
  clear H
  go_enter Try.func79,Try.ntmps79
  go_wp2
  go_loopg [1,5] k (fun kq v1 v5 w'=>∃ (x1_1:Int) (x5_1:Int),v1=.int .i64 x1_1∧v5=.int .i64 x5_1∧Aside0 (F79.l0 kq l0 x1_1 x5_1=some r)∧Aside0 (kq≤k)∧Drawn0 w w')
  case atStart=>exact ⟨(wrap64 (a1 - (l0.length:Int))),(0),rs,rs,H',⟨Nat.le_refl _⟩,by repeat (first|exact Drawn0.refl _|apply Drawn0.step)⟩
  case round =>
   clear H'
   (try clear p2);(try clear c3);(try clear c3b0)
   obtain ⟨x1_1,x5_1,rfl,rfl,HA,HK1,⟨m1,rfl⟩⟩:=hrel
   cases gk with
   | zero=>exact absurd HA.out (by simp [F79.l0])
   | succ k1 =>
    have H:=HA.out
    clear HA
    simp only [F79.l0] at H
    by_cases c4:x5_1 < (l0.length:Int)
    case neg =>
     rw [if_neg c4] at H
     have c4b0:decide (x5_1 < (l0.length:Int))=false:=decide_eq_false c4
     clear c4
     obtain rfl:=Option.some.inj H
     go_wp2
     go_ret
     exact ⟨by first|rfl|(simp;done)|(simp [*];done),by repeat (first|exact Drawn0.refl _|apply Drawn0.step)⟩
    rw [if_pos c4] at H
    have c4b0:=decide_eq_true c4
    clear c4
    replace H:=iS H;obtain ⟨c5,H⟩:=H
    have c5b0:=decide_eq_true c5
    clear c5
    replace H:=Option.bind_eq_some_iff.mp H
    obtain ⟨t102,A60,H⟩:=H
    replace H:(if t102 < 0 then (some (-1)) else (F79.l0 k1 l0 t102 (wrap64 (x5_1+1))))=some r:=H
    have A6:=Aside0.mk A60
    clear A60
    by_cases c7:t102 < 0
    case neg =>
     rw [if_neg c7] at H
     have c7b0:decide (t102 < 0)=false:=decide_eq_false c7
     clear c7
     have H':=Aside0.mk H
     clear H
     have p101:0≤(x5_1:Int):=oD
     have q101:x5_1 < (l0.length:Int):=oD
     obtain ⟨ad101,A101_0,c101_0,e101,hx101_0,hl101_0,hi101_0⟩:=at_L1 HR0.out x5_1 p101 q101
     cases e101
     have HR101_0:=Aside0.mk hi101_0
     have HC101_0:=Aside0.mk hl101_0
     clear hi101_0 hl101_0
     replace p101:=eq_true p101
     replace q101:=eq_true q101
     go_wp2_with (first|((with_reducible refine gate_callee (f:=156) rfl ?_);refine goesL_ (some 23) rfl rfl Try.func156 (by kernel_rfl) rfl #[.slice A101_0 (rd_L1 l0 x5_1).length c101_0,.int .i64 x1_1] rfl gm ?_;(with_reducible refine (F156.calls _ _ (rd_L1 l0 x5_1) x1_1 t102 _ ?side1 ?side2 A6.out).mono ?_);(case side1=>exact aC HR101_0.out);(case side2=>exact HC101_0.out);rintro e w' ⟨rfl,⟨nd,rfl⟩⟩;refine ⟨_,rfl,?_⟩))
     go_roundg k1
     case measure=>have:=HK1.out;omega
     case rel=>exact ⟨(t102),(wrap64 (x5_1+1)),rs,rs,H',⟨by have:=HK1.out;omega⟩,by repeat (first|exact Drawn0.refl _|apply Drawn0.step)⟩
    rw [if_pos c7] at H
    have c7b0:=decide_eq_true c7
    clear c7
    obtain rfl:=Option.some.inj H
    have p101:0≤(x5_1:Int):=oD
    have q101:x5_1 < (l0.length:Int):=oD
    obtain ⟨ad101,A101_0,c101_0,e101,hx101_0,hl101_0,hi101_0⟩:=at_L1 HR0.out x5_1 p101 q101
    cases e101
    have HR101_0:=Aside0.mk hi101_0
    have HC101_0:=Aside0.mk hl101_0
    clear hi101_0 hl101_0
    replace p101:=eq_true p101
    replace q101:=eq_true q101
    go_wp2_with (first|((with_reducible refine gate_callee (f:=156) rfl ?_);refine goesL_ (some 23) rfl rfl Try.func156 (by kernel_rfl) rfl #[.slice A101_0 (rd_L1 l0 x5_1).length c101_0,.int .i64 x1_1] rfl gm ?_;(with_reducible refine (F156.calls _ _ (rd_L1 l0 x5_1) x1_1 t102 _ ?side1 ?side2 A6.out).mono ?_);(case side1=>exact aC HR101_0.out);(case side2=>exact HC101_0.out);rintro e w' ⟨rfl,⟨nd,rfl⟩⟩;refine ⟨_,rfl,?_⟩))
    go_ret
    exact ⟨by first|rfl|(simp;done)|(simp [*];done),by repeat (first|exact Drawn0.refl _|apply Drawn0.step)⟩
 rw [if_pos c3] at H
 have c3b0:=decide_eq_true c3
 clear c3
 obtain rfl:=Option.some.inj H
 go_enter Try.func79,Try.ntmps79
 go_wp2
 go_ret
 exact ⟨by first|rfl|(simp;done)|(simp [*];done),by repeat (first|exact Drawn0.refl _|apply Drawn0.step)⟩
/-! ### F23: function 23 -/
def F23.f (k:Nat) (a0_0:Int) (l0_1:List (List Int)) (a1:Int):Option (Int):=(F79.f k l0_1 a1).bind fun t102=>(if t102 < 0 then (some (-1)) else (some t102))
theorem F23.mono:∀ a0 a1 a2 k,LeO (F23.f k a0 a1 a2) (F23.f (k+1) a0 a1 a2):=by
 intro a0 a1 a2 k
 unfold F23.f
 repeat' first
  | (with_reducible first|exact F79.mono _ _ _|exact LeO.refl _|exact LeO.none _|refine LeO.ite ?_ ?_|refine LeO.bind ?_ (fun _=>?_))
  | exact F79.mono _ _ _|exact LeO.none _|refine LeO.ite ?_ ?_|refine LeO.bind ?_ (fun _=>?_)
set_option maxHeartbeats 8000000 in
set_option maxRecDepth 100000 in
theorem F23.calls (k : Nat) (a0_0 : Int) (A0_1 : Option Addr) (c0_1 : Nat) (l0_1 : List (List Int)) (a1 : Int) (r : Int) (w : World) (hr0_1 : Kd.C (Kd.slice 2 (Kd.int .i64)) w A0_1 l0_1.length l0_1) (hc0_1 : l0_1.length ≤ c0_1) (h : F23.f k a0_0 l0_1 a1 = some r) :
  Calls Try.prog 23 #[.agg #[.int .i64 a0_0,.slice A0_1 l0_1.length c0_1],.int .i64 a1] w fun e w'=>e=.returned (.int .i64 r)∧Below w.heap.size w w':=by
 have hu24:=Try.underlying24
 have HR0_1:=Aside0.mk hr0_1
 have HC0_1:=Aside0.mk hc0_1
 clear hr0_1 hc0_1
 have HB:=Aside0.mk (Below.refl w.heap.size w)
 have H:((F79.f k l0_1 a1).bind fun t102=>(if t102 < 0 then (some (-1)) else (some t102)))=some r:=h
 clear h
 replace H:=Option.bind_eq_some_iff.mp H
 obtain ⟨t102,A30,H⟩:=H
 replace H:(if t102 < 0 then (some (-1)) else (some t102))=some r:=H
 have A3:=Aside0.mk A30
 clear A30
 by_cases c4:t102 < 0
 case neg =>
  rw [if_neg c4] at H
  have c4b0:decide (t102 < 0)=false:=decide_eq_false c4
  clear c4
  obtain rfl:=Option.some.inj H
  go_enter Try.func23,Try.ntmps23
  go_wp2_with (first|((with_reducible refine gate_dst (N:=2) rfl ?_);refine box_event ?hg (N:=2) ?hd (cs:=#[.int .i64 a0_0,.slice A0_1 l0_1.length c0_1]) (t:=24) ?hr ?_;(case hd=>rfl);(case hg=>rfl);(case hr=>first|(go_simp;done)|(go_simp;rfl));intro gb101 hg w7 hbox hb;have BK101:=Aside0.mk (hbox);have GW101:=Aside0.mk ((by rw [hg];exact (below_size bl):w.heap.size≤gb101));have GE101:=Aside0.mk ((by rw [hg];exact (below_size bl):w.heap.size≤gb101));replace HB:=Aside0.mk (below_step bl hb);clear hb hbox hg;have hcz8_0:w7.cell? ⟨gb101,0,none⟩=some (.int .i64 a0_0):=(blk_cell BK101.out 0).trans rfl;have hcz8_1:w7.cell? ⟨gb101,1,none⟩=some (.slice A0_1 l0_1.length c0_1):=(blk_cell BK101.out 1).trans rfl;have hfz8_0:=blk_frozen BK101.out 0;have hfz8_1:=blk_frozen BK101.out 1)|((with_reducible refine gate_callee (f:=79) rfl ?_);refine goesL_ (some 8) rfl rfl Try.func79 (by kernel_rfl) rfl #[.slice A0_1 l0_1.length c0_1,.int .i64 a1] rfl gm ?_;(with_reducible refine (F79.calls k _ _ l0_1 a1 t102 _ ?side1 ?side2 A3.out).mono ?_);(case side1=>exact aC (Kd.C_below HR0_1.out HB.out));(case side2=>exact HC0_1.out);rintro e w' ⟨rfl,⟨nd,rfl⟩⟩;refine ⟨_,rfl,?_⟩))
  go_ret
  exact ⟨by first|rfl|(simp [errW_none,errW_some]<;>rfl)|(simp [*,errW_none,errW_some]<;>rfl),bl⟩
 rw [if_pos c4] at H
 have c4b0:=decide_eq_true c4
 clear c4
 obtain rfl:=Option.some.inj H
 go_enter Try.func23,Try.ntmps23
 go_wp2_with (first|((with_reducible refine gate_dst (N:=2) rfl ?_);refine box_event ?hg (N:=2) ?hd (cs:=#[.int .i64 a0_0,.slice A0_1 l0_1.length c0_1]) (t:=24) ?hr ?_;(case hd=>rfl);(case hg=>rfl);(case hr=>first|(go_simp;done)|(go_simp;rfl));intro gb101 hg w5 hbox hb;have BK101:=Aside0.mk (hbox);have GW101:=Aside0.mk ((by rw [hg];exact (below_size bl):w.heap.size≤gb101));have GE101:=Aside0.mk ((by rw [hg];exact (below_size bl):w.heap.size≤gb101));replace HB:=Aside0.mk (below_step bl hb);clear hb hbox hg;have hcz6_0:w5.cell? ⟨gb101,0,none⟩=some (.int .i64 a0_0):=(blk_cell BK101.out 0).trans rfl;have hcz6_1:w5.cell? ⟨gb101,1,none⟩=some (.slice A0_1 l0_1.length c0_1):=(blk_cell BK101.out 1).trans rfl;have hfz6_0:=blk_frozen BK101.out 0;have hfz6_1:=blk_frozen BK101.out 1)|((with_reducible refine gate_callee (f:=79) rfl ?_);refine goesL_ (some 8) rfl rfl Try.func79 (by kernel_rfl) rfl #[.slice A0_1 l0_1.length c0_1,.int .i64 a1] rfl gm ?_;(with_reducible refine (F79.calls k _ _ l0_1 a1 t102 _ ?side1 ?side2 A3.out).mono ?_);(case side1=>exact aC (Kd.C_below HR0_1.out HB.out));(case side2=>exact HC0_1.out);rintro e w' ⟨rfl,⟨nd,rfl⟩⟩;refine ⟨_,rfl,?_⟩))
 go_ret
 exact ⟨by first|rfl|(simp [errW_none,errW_some]<;>rfl)|(simp [*,errW_none,errW_some]<;>rfl),bl⟩
/-! ### F14: function 14 -/
def F14.f (k:Nat) (a0_0:Int) (l0_1:List (List Int)) (a0_2:Int) (l0_3:List (List Int)) (a1:Int):Option (Int):=(F23.f k a0_0 l0_1 a1).bind fun t102=>(if t102 < 0 then (some (-1)) else ((F79.f k l0_3 t102).bind fun t103=>(if t103 < 0 then (some (-1)) else (some t103))))
theorem F14.mono:∀ a0 a1 a2 a3 a4 k,LeO (F14.f k a0 a1 a2 a3 a4) (F14.f (k+1) a0 a1 a2 a3 a4):=by
 intro a0 a1 a2 a3 a4 k
 unfold F14.f
 repeat' first
  | (with_reducible first|exact F23.mono _ _ _ _|exact F79.mono _ _ _|exact LeO.refl _|exact LeO.none _|refine LeO.ite ?_ ?_|refine LeO.bind ?_ (fun _=>?_))
  | exact F23.mono _ _ _ _|exact F79.mono _ _ _|exact LeO.none _|refine LeO.ite ?_ ?_|refine LeO.bind ?_ (fun _=>?_)
set_option maxHeartbeats 8000000 in
set_option maxRecDepth 100000 in
theorem F14.calls (k : Nat) (a0_0 : Int) (A0_1 : Option Addr) (c0_1 : Nat) (l0_1 : List (List Int)) (a0_2 : Int) (A0_3 : Option Addr) (c0_3 : Nat) (l0_3 : List (List Int)) (a1 : Int) (r : Int) (w : World) (hr0_1 : Kd.C (Kd.slice 2 (Kd.int .i64)) w A0_1 l0_1.length l0_1) (hc0_1 : l0_1.length ≤ c0_1) (hr0_3 : Kd.C (Kd.slice 2 (Kd.int .i64)) w A0_3 l0_3.length l0_3) (hc0_3 : l0_3.length ≤ c0_3) (h : F14.f k a0_0 l0_1 a0_2 l0_3 a1 = some r) :
  Calls Try.prog 14 #[.agg #[.int .i64 a0_0,.slice A0_1 l0_1.length c0_1,.int .i64 a0_2,.slice A0_3 l0_3.length c0_3],.int .i64 a1] w fun e w'=>e=.returned (.int .i64 r)∧Below w.heap.size w w':=by
 have hu26:=Try.underlying26
 have hu24:=Try.underlying24
 have HR0_1:=Aside0.mk hr0_1
 have HC0_1:=Aside0.mk hc0_1
 clear hr0_1 hc0_1
 have HR0_3:=Aside0.mk hr0_3
 have HC0_3:=Aside0.mk hc0_3
 clear hr0_3 hc0_3
 have HB:=Aside0.mk (Below.refl w.heap.size w)
 have H:((F23.f k a0_0 l0_1 a1).bind fun t102=>(if t102 < 0 then (some (-1)) else ((F79.f k l0_3 t102).bind fun t103=>(if t103 < 0 then (some (-1)) else (some t103)))))=some r:=h
 clear h
 replace H:=Option.bind_eq_some_iff.mp H
 obtain ⟨t102,A30,H⟩:=H
 replace H:(if t102 < 0 then (some (-1)) else ((F79.f k l0_3 t102).bind fun t103=>(if t103 < 0 then (some (-1)) else (some t103))))=some r:=H
 have A3:=Aside0.mk A30
 clear A30
 by_cases c4:t102 < 0
 case neg =>
  rw [if_neg c4] at H
  have c4b0:decide (t102 < 0)=false:=decide_eq_false c4
  clear c4
  replace H:=Option.bind_eq_some_iff.mp H
  obtain ⟨t103,A80,H⟩:=H
  replace H:(if t103 < 0 then (some (-1)) else (some t103))=some r:=H
  have A8:=Aside0.mk A80
  clear A80
  by_cases c9:t103 < 0
  case neg =>
   rw [if_neg c9] at H
   have c9b0:decide (t103 < 0)=false:=decide_eq_false c9
   clear c9
   obtain rfl:=Option.some.inj H
   go_enter Try.func14,Try.ntmps14
   go_wp2_with (first|((with_reducible refine gate_dst (N:=2) rfl ?_);refine box_event ?hg (N:=2) ?hd (cs:=#[.int .i64 a0_0,.slice A0_1 l0_1.length c0_1,.int .i64 a0_2,.slice A0_3 l0_3.length c0_3]) (t:=26) ?hr ?_;(case hd=>rfl);(case hg=>rfl);(case hr=>first|(go_simp;done)|(go_simp;rfl));intro gb101 hg w14 hbox hb;have BK101:=Aside0.mk (hbox);have GW101:=Aside0.mk ((by rw [hg];exact (below_size bl):w.heap.size≤gb101));have GE101:=Aside0.mk ((by rw [hg];exact (below_size bl):w.heap.size≤gb101));replace HB:=Aside0.mk (below_step bl hb);clear hb hbox hg;have hcz15_0:w14.cell? ⟨gb101,0,none⟩=some (.int .i64 a0_0):=(blk_cell BK101.out 0).trans rfl;have hcz15_1:w14.cell? ⟨gb101,1,none⟩=some (.slice A0_1 l0_1.length c0_1):=(blk_cell BK101.out 1).trans rfl;have hcz15_2:w14.cell? ⟨gb101,2,none⟩=some (.int .i64 a0_2):=(blk_cell BK101.out 2).trans rfl;have hcz15_3:w14.cell? ⟨gb101,3,none⟩=some (.slice A0_3 l0_3.length c0_3):=(blk_cell BK101.out 3).trans rfl;have hfz15_0:=blk_frozen BK101.out 0;have hfz15_1:=blk_frozen BK101.out 1;have hfz15_2:=blk_frozen BK101.out 2;have hfz15_3:=blk_frozen BK101.out 3)|((with_reducible refine gate_callee (f:=23) rfl ?_);refine goesL_ (some 8) rfl rfl Try.func23 (by kernel_rfl) rfl #[.agg #[.int .i64 a0_0,.slice A0_1 l0_1.length c0_1],.int .i64 a1] rfl gm ?_;(with_reducible refine (F23.calls k a0_0 _ _ l0_1 a1 t102 _ ?side1 ?side2 A3.out).mono ?_);(case side1=>exact aC (Kd.C_below HR0_1.out HB.out));(case side2=>exact HC0_1.out);rintro e w16 ⟨rfl,hb⟩;refine ⟨_,rfl,?_⟩;replace BK101:=Aside0.mk (blk_below (g:=gb101) (o:=.cells #[.int .i64 a0_0,.slice A0_1 l0_1.length c0_1,.int .i64 a0_2,.slice A0_3 l0_3.length c0_3] 26 (0,0)) bk hb);replace HB:=Aside0.mk (below_step bl hb);(try clear hb);(try clear hb2);(try clear hk);(try clear hi);have hcz17_0:w16.cell? ⟨gb101,0,none⟩=some (.int .i64 a0_0):=(blk_cell BK101.out 0).trans rfl;have hcz17_1:w16.cell? ⟨gb101,1,none⟩=some (.slice A0_1 l0_1.length c0_1):=(blk_cell BK101.out 1).trans rfl;have hcz17_2:w16.cell? ⟨gb101,2,none⟩=some (.int .i64 a0_2):=(blk_cell BK101.out 2).trans rfl;have hcz17_3:w16.cell? ⟨gb101,3,none⟩=some (.slice A0_3 l0_3.length c0_3):=(blk_cell BK101.out 3).trans rfl;have hfz17_0:=blk_frozen BK101.out 0;have hfz17_1:=blk_frozen BK101.out 1;have hfz17_2:=blk_frozen BK101.out 2;have hfz17_3:=blk_frozen BK101.out 3)|((with_reducible refine gate_callee (f:=79) rfl ?_);refine goesL_ (some 14) rfl rfl Try.func79 (by kernel_rfl) rfl #[.slice A0_3 l0_3.length c0_3,.int .i64 t102] rfl gm ?_;(with_reducible refine (F79.calls k _ _ l0_3 t102 t103 _ ?side1 ?side2 A8.out).mono ?_);(case side1=>exact aC (Kd.C_below HR0_3.out HB.out));(case side2=>exact HC0_3.out);rintro e w' ⟨rfl,⟨nd,rfl⟩⟩;refine ⟨_,rfl,?_⟩))
   go_ret
   exact ⟨by first|rfl|(simp [errW_none,errW_some]<;>rfl)|(simp [*,errW_none,errW_some]<;>rfl),bl⟩
  rw [if_pos c9] at H
  have c9b0:=decide_eq_true c9
  clear c9
  obtain rfl:=Option.some.inj H
  go_enter Try.func14,Try.ntmps14
  go_wp2_with (first|((with_reducible refine gate_dst (N:=2) rfl ?_);refine box_event ?hg (N:=2) ?hd (cs:=#[.int .i64 a0_0,.slice A0_1 l0_1.length c0_1,.int .i64 a0_2,.slice A0_3 l0_3.length c0_3]) (t:=26) ?hr ?_;(case hd=>rfl);(case hg=>rfl);(case hr=>first|(go_simp;done)|(go_simp;rfl));intro gb101 hg w10 hbox hb;have BK101:=Aside0.mk (hbox);have GW101:=Aside0.mk ((by rw [hg];exact (below_size bl):w.heap.size≤gb101));have GE101:=Aside0.mk ((by rw [hg];exact (below_size bl):w.heap.size≤gb101));replace HB:=Aside0.mk (below_step bl hb);clear hb hbox hg;have hcz11_0:w10.cell? ⟨gb101,0,none⟩=some (.int .i64 a0_0):=(blk_cell BK101.out 0).trans rfl;have hcz11_1:w10.cell? ⟨gb101,1,none⟩=some (.slice A0_1 l0_1.length c0_1):=(blk_cell BK101.out 1).trans rfl;have hcz11_2:w10.cell? ⟨gb101,2,none⟩=some (.int .i64 a0_2):=(blk_cell BK101.out 2).trans rfl;have hcz11_3:w10.cell? ⟨gb101,3,none⟩=some (.slice A0_3 l0_3.length c0_3):=(blk_cell BK101.out 3).trans rfl;have hfz11_0:=blk_frozen BK101.out 0;have hfz11_1:=blk_frozen BK101.out 1;have hfz11_2:=blk_frozen BK101.out 2;have hfz11_3:=blk_frozen BK101.out 3)|((with_reducible refine gate_callee (f:=23) rfl ?_);refine goesL_ (some 8) rfl rfl Try.func23 (by kernel_rfl) rfl #[.agg #[.int .i64 a0_0,.slice A0_1 l0_1.length c0_1],.int .i64 a1] rfl gm ?_;(with_reducible refine (F23.calls k a0_0 _ _ l0_1 a1 t102 _ ?side1 ?side2 A3.out).mono ?_);(case side1=>exact aC (Kd.C_below HR0_1.out HB.out));(case side2=>exact HC0_1.out);rintro e w12 ⟨rfl,hb⟩;refine ⟨_,rfl,?_⟩;replace BK101:=Aside0.mk (blk_below (g:=gb101) (o:=.cells #[.int .i64 a0_0,.slice A0_1 l0_1.length c0_1,.int .i64 a0_2,.slice A0_3 l0_3.length c0_3] 26 (0,0)) bk hb);replace HB:=Aside0.mk (below_step bl hb);(try clear hb);(try clear hb2);(try clear hk);(try clear hi);have hcz13_0:w12.cell? ⟨gb101,0,none⟩=some (.int .i64 a0_0):=(blk_cell BK101.out 0).trans rfl;have hcz13_1:w12.cell? ⟨gb101,1,none⟩=some (.slice A0_1 l0_1.length c0_1):=(blk_cell BK101.out 1).trans rfl;have hcz13_2:w12.cell? ⟨gb101,2,none⟩=some (.int .i64 a0_2):=(blk_cell BK101.out 2).trans rfl;have hcz13_3:w12.cell? ⟨gb101,3,none⟩=some (.slice A0_3 l0_3.length c0_3):=(blk_cell BK101.out 3).trans rfl;have hfz13_0:=blk_frozen BK101.out 0;have hfz13_1:=blk_frozen BK101.out 1;have hfz13_2:=blk_frozen BK101.out 2;have hfz13_3:=blk_frozen BK101.out 3)|((with_reducible refine gate_callee (f:=79) rfl ?_);refine goesL_ (some 14) rfl rfl Try.func79 (by kernel_rfl) rfl #[.slice A0_3 l0_3.length c0_3,.int .i64 t102] rfl gm ?_;(with_reducible refine (F79.calls k _ _ l0_3 t102 t103 _ ?side1 ?side2 A8.out).mono ?_);(case side1=>exact aC (Kd.C_below HR0_3.out HB.out));(case side2=>exact HC0_3.out);rintro e w' ⟨rfl,⟨nd,rfl⟩⟩;refine ⟨_,rfl,?_⟩))
  go_ret
  exact ⟨by first|rfl|(simp [errW_none,errW_some]<;>rfl)|(simp [*,errW_none,errW_some]<;>rfl),bl⟩
 rw [if_pos c4] at H
 have c4b0:=decide_eq_true c4
 clear c4
 obtain rfl:=Option.some.inj H
 go_enter Try.func14,Try.ntmps14
 go_wp2_with (first|((with_reducible refine gate_dst (N:=2) rfl ?_);refine box_event ?hg (N:=2) ?hd (cs:=#[.int .i64 a0_0,.slice A0_1 l0_1.length c0_1,.int .i64 a0_2,.slice A0_3 l0_3.length c0_3]) (t:=26) ?hr ?_;(case hd=>rfl);(case hg=>rfl);(case hr=>first|(go_simp;done)|(go_simp;rfl));intro gb101 hg w5 hbox hb;have BK101:=Aside0.mk (hbox);have GW101:=Aside0.mk ((by rw [hg];exact (below_size bl):w.heap.size≤gb101));have GE101:=Aside0.mk ((by rw [hg];exact (below_size bl):w.heap.size≤gb101));replace HB:=Aside0.mk (below_step bl hb);clear hb hbox hg;have hcz6_0:w5.cell? ⟨gb101,0,none⟩=some (.int .i64 a0_0):=(blk_cell BK101.out 0).trans rfl;have hcz6_1:w5.cell? ⟨gb101,1,none⟩=some (.slice A0_1 l0_1.length c0_1):=(blk_cell BK101.out 1).trans rfl;have hcz6_2:w5.cell? ⟨gb101,2,none⟩=some (.int .i64 a0_2):=(blk_cell BK101.out 2).trans rfl;have hcz6_3:w5.cell? ⟨gb101,3,none⟩=some (.slice A0_3 l0_3.length c0_3):=(blk_cell BK101.out 3).trans rfl;have hfz6_0:=blk_frozen BK101.out 0;have hfz6_1:=blk_frozen BK101.out 1;have hfz6_2:=blk_frozen BK101.out 2;have hfz6_3:=blk_frozen BK101.out 3)|((with_reducible refine gate_callee (f:=23) rfl ?_);refine goesL_ (some 8) rfl rfl Try.func23 (by kernel_rfl) rfl #[.agg #[.int .i64 a0_0,.slice A0_1 l0_1.length c0_1],.int .i64 a1] rfl gm ?_;(with_reducible refine (F23.calls k a0_0 _ _ l0_1 a1 t102 _ ?side1 ?side2 A3.out).mono ?_);(case side1=>exact aC (Kd.C_below HR0_1.out HB.out));(case side2=>exact HC0_1.out);rintro e w7 ⟨rfl,hb⟩;refine ⟨_,rfl,?_⟩;replace BK101:=Aside0.mk (blk_below (g:=gb101) (o:=.cells #[.int .i64 a0_0,.slice A0_1 l0_1.length c0_1,.int .i64 a0_2,.slice A0_3 l0_3.length c0_3] 26 (0,0)) bk hb);replace HB:=Aside0.mk (below_step bl hb);(try clear hb);(try clear hb2);(try clear hk);(try clear hi)))
 go_ret
 exact ⟨by first|rfl|(simp [errW_none,errW_some]<;>rfl)|(simp [*,errW_none,errW_some]<;>rfl),bl⟩
/-! ### F172: function 172 -/
def F172.f (a0:Int) (a1:Int) (a2:Int):Option (Bool):=if a0 ≥ a1 then (some (decide (a0≤a2))) else (some false)
set_option maxHeartbeats 8000000 in
set_option maxRecDepth 100000 in
theorem F172.calls (a0 : Int) (a1 : Int) (a2 : Int) (r : Bool) (w : World) (h : F172.f a0 a1 a2 = some r) :
  Calls Try.prog 172 #[.int .i64 a0,.int .i64 a1,.int .i64 a2] w fun e w'=>e=.returned (.bool r)∧Drawn0 w w':=by
 have H:(if a0 ≥ a1 then (some (decide (a0≤a2))) else (some false))=some r:=h
 clear h
 by_cases c4:a0 ≥ a1
 case neg =>
  rw [if_neg c4] at H
  have c4b0:decide (a1≤a0)=false:=decide_eq_false c4
  clear c4
  obtain rfl:=Option.some.inj H
  go_enter Try.func172,Try.ntmps172
  go_wp2
  go_ret
  exact ⟨by first|rfl|(simp;done)|(simp [*];done),by repeat (first|exact Drawn0.refl _|apply Drawn0.step)⟩
 rw [if_pos c4] at H
 have c4b0:=decide_eq_true c4
 clear c4
 obtain rfl:=Option.some.inj H
 go_enter Try.func172,Try.ntmps172
 go_wp2
 go_ret
 exact ⟨by first|rfl|(simp;done)|(simp [*];done),by repeat (first|exact Drawn0.refl _|apply Drawn0.step)⟩
/-! ### F100: function 100 -/
mutual
def F100.j0 : Nat → Bool → Int → List (List Int) → Option (Bool)
 | 0,_,_,_=>none
 | k+1,x13,x102000,x102001=>if x13=true then (some false) else (F100.l0 k 0 x102000 x102001)
def F100.l0 : Nat → Int → Int → List (List Int) → Option (Bool)
 | 0,_,_,_=>none
 | k+1,x3,x102000,x102001=>if x3 < (x102001.length:Int) then (if 0≤x3 then (if ((rd_L1 x102001 x3).length:Int)=2 then (if 0 < ((rd_L1 x102001 x3).length:Int) then ((F172.f (rd (rd_L1 x102001 x3) 0) 0 (wrap64 (x102000 - 1))).bind fun t106=>(if t106=true then (if 1 < ((rd_L1 x102001 x3).length:Int) then ((F172.f (rd (rd_L1 x102001 x3) 1) 0 (wrap64 (x102000 - 1))).bind fun t109=>(if t109=true then (F100.l0 k (wrap64 (x3+1)) x102000 x102001) else (some false))) else (none)) else (some false))) else (none)) else (some false)) else (none)) else (some true)
end
def F100.f (k:Nat) (a0_0:Int) (l0_1:List (List Int)):Option (Bool):=(F172.f a0_0 1 8).bind fun t102=>(if t102=true then (F100.j0 k (decide ((l0_1.length:Int) > 10)) a0_0 l0_1) else (F100.j0 k true a0_0 l0_1))
theorem F100.mono_l : ∀ k, (∀ y0 y1 y2, LeO (F100.j0 k y0 y1 y2) (F100.j0 (k + 1) y0 y1 y2)) ∧ (∀ y0 y1 y2, LeO (F100.l0 k y0 y1 y2) (F100.l0 (k + 1) y0 y1 y2))
 | 0=>⟨fun _ _ _ r h=>by simp [F100.j0] at h,fun _ _ _ r h=>by simp [F100.l0] at h⟩
 | k+1=>by
  obtain ⟨ih0,ih1⟩:=F100.mono_l k
  refine ⟨?_, ?_⟩ <;> intros <;> (first | unfold F100.j0 | unfold F100.l0) <;> repeat' first
   | (with_reducible first|exact ih0 _ _ _|exact ih1 _ _ _|exact LeO.refl _|exact LeO.none _|refine LeO.ite ?_ ?_|refine LeO.bind ?_ (fun _=>?_))
   | exact ih0 _ _ _|exact ih1 _ _ _|exact LeO.none _|refine LeO.ite ?_ ?_|refine LeO.bind ?_ (fun _=>?_)
theorem F100.mono:∀ a0 a1 k,LeO (F100.f k a0 a1) (F100.f (k+1) a0 a1):=by
 intro a0 a1 k
 obtain ⟨ih0,ih1⟩:=F100.mono_l k
 unfold F100.f
 repeat' first
  | (with_reducible first|exact ih0 _ _ _|exact ih1 _ _ _|exact LeO.refl _|exact LeO.none _|refine LeO.ite ?_ ?_|refine LeO.bind ?_ (fun _=>?_))
  | exact ih0 _ _ _|exact ih1 _ _ _|exact LeO.none _|refine LeO.ite ?_ ?_|refine LeO.bind ?_ (fun _=>?_)
set_option maxHeartbeats 8000000 in
set_option maxRecDepth 100000 in
theorem F100.calls (k : Nat) (a0_0 : Int) (A0_1 : Option Addr) (c0_1 : Nat) (l0_1 : List (List Int)) (r : Bool) (w : World) (hr0_1 : Kd.C (Kd.slice 2 (Kd.int .i64)) w A0_1 l0_1.length l0_1) (hc0_1 : l0_1.length ≤ c0_1) (h : F100.f k a0_0 l0_1 = some r) :
  Calls Try.prog 100 #[.agg #[.int .i64 a0_0,.slice A0_1 l0_1.length c0_1]] w fun e w'=>e=.returned (.bool r)∧Below w.heap.size w w':=by
 have hu31:=Try.underlying31
 have HR0_1:=Aside0.mk hr0_1
 have HC0_1:=Aside0.mk hc0_1
 clear hr0_1 hc0_1
 have HB:=Aside0.mk (Below.refl w.heap.size w)
 have H:((F172.f a0_0 1 8).bind fun t102=>(if t102=true then (F100.j0 k (decide ((l0_1.length:Int) > 10)) a0_0 l0_1) else (F100.j0 k true a0_0 l0_1)))=some r:=h
 clear h
 have HC2:=Aside0.mk H
 clear H
 go_enter Try.func100,Try.ntmps100
 go_upto_region 1 with (first|((with_reducible refine gate_dst (N:=1) rfl ?_);(try (refine gate_guard (by rfl) ?_;dsimp only));refine box_event ?hg (N:=1) ?hd (cs:=#[.int .i64 a0_0,.slice A0_1 l0_1.length c0_1]) (t:=31) ?hr ?_;(case hd=>rfl);(case hg=>rfl);(case hr=>first|(go_simp;done)|(go_simp;rfl));intro gb101 hg w3 hbox hb;have BK101:=Aside0.mk (hbox);have GW101:=Aside0.mk ((by rw [hg];exact (below_size bl):w.heap.size≤gb101));have GE101:=Aside0.mk ((by rw [hg];exact (below_size bl):w.heap.size≤gb101));replace HB:=Aside0.mk (below_step bl hb);clear hb hbox hg))
 repeat (go_quiet (first|((with_reducible refine gate_dst (N:=1) rfl ?_);(try (refine gate_guard (by rfl) ?_;dsimp only));refine box_event ?hg (N:=1) ?hd (cs:=#[.int .i64 a0_0,.slice A0_1 l0_1.length c0_1]) (t:=31) ?hr ?_;(case hd=>rfl);(case hg=>rfl);(case hr=>first|(go_simp;done)|(go_simp;rfl));intro gb101 hg w3 hbox hb;have BK101:=Aside0.mk (hbox);have GW101:=Aside0.mk ((by rw [hg];exact (below_size bl):w.heap.size≤gb101));have GE101:=Aside0.mk ((by rw [hg];exact (below_size bl):w.heap.size≤gb101));replace HB:=Aside0.mk (below_step bl hb);clear hb hbox hg));go_upto_region 1 with (first|((with_reducible refine gate_dst (N:=1) rfl ?_);(try (refine gate_guard (by rfl) ?_;dsimp only));refine box_event ?hg (N:=1) ?hd (cs:=#[.int .i64 a0_0,.slice A0_1 l0_1.length c0_1]) (t:=31) ?hr ?_;(case hd=>rfl);(case hg=>rfl);(case hr=>first|(go_simp;done)|(go_simp;rfl));intro gb101 hg w3 hbox hb;have BK101:=Aside0.mk (hbox);have GW101:=Aside0.mk ((by rw [hg];exact (below_size bl):w.heap.size≤gb101));have GE101:=Aside0.mk ((by rw [hg];exact (below_size bl):w.heap.size≤gb101));replace HB:=Aside0.mk (below_step bl hb);clear hb hbox hg)))
 (try simp only [Act.put,zI,zZ,zS])
 go_cut [13] (fun v13 wc=>∃ (kq:Nat) (x13_1:Bool),v13=.bool x13_1∧Aside0 (F100.j0 kq x13_1 a0_0 l0_1=some r)∧Aside0 (kq≤k)∧Aside0 (wc.heap[gb101]?=some (.cells #[.int .i64 a0_0,(.slice A0_1 l0_1.length c0_1)] 31 (0,0)))∧Aside0 (Below w.heap.size w wc))
 case first =>
  have H:=HC2.out
  clear HC2
  replace H:=Option.bind_eq_some_iff.mp H
  obtain ⟨t102,A40,H⟩:=H
  replace H:(if t102=true then (F100.j0 k (decide ((l0_1.length:Int) > 10)) a0_0 l0_1) else (F100.j0 k true a0_0 l0_1))=some r:=H
  have A4:=Aside0.mk A40
  clear A40
  by_cases c5:t102=true
  case neg =>
   replace c5:=Bool.eq_false_iff.mpr c5
   subst c5
   have H1:(F100.j0 k true a0_0 l0_1)=some r:=by rw [if_neg (show ¬ (false=true) by decide)] at H;exact H
   clear H
   have H:=H1
   clear H1
   have H':=Aside0.mk H
   clear H
   have hcz7_0:w3.cell? ⟨gb101,0,none⟩=some (.int .i64 a0_0):=(blk_cell BK101.out 0).trans rfl
   have hcz7_1:w3.cell? ⟨gb101,1,none⟩=some (.slice A0_1 l0_1.length c0_1):=(blk_cell BK101.out 1).trans rfl
   have hfz7_0:=blk_frozen BK101.out 0
   have hfz7_1:=blk_frozen BK101.out 1
   go_wp2_with (first|(go_at_call 172;(with_reducible refine (F172.calls a0_0 1 8 false _ A4.out).mono ?_);rintro e w' ⟨rfl,⟨nd,rfl⟩⟩;(try first|exact ⟨rfl,_,World.drewN_drewN _ _ _⟩|exact ⟨rfl,_,Eq.trans (World.drewN_drewN _ _ _) (congrArg (World.drewN _) (Nat.add_assoc _ _ _))⟩)))
   repeat (go_quiet (first|(go_at_call 172;(with_reducible refine (F172.calls a0_0 1 8 false _ A4.out).mono ?_);rintro e w' ⟨rfl,⟨nd,rfl⟩⟩;(try first|exact ⟨rfl,_,World.drewN_drewN _ _ _⟩|exact ⟨rfl,_,Eq.trans (World.drewN_drewN _ _ _) (congrArg (World.drewN _) (Nat.add_assoc _ _ _))⟩)));try go_wp2_with (first|(go_at_call 172;(with_reducible refine (F172.calls a0_0 1 8 false _ A4.out).mono ?_);rintro e w' ⟨rfl,⟨nd,rfl⟩⟩;(try first|exact ⟨rfl,_,World.drewN_drewN _ _ _⟩|exact ⟨rfl,_,Eq.trans (World.drewN_drewN _ _ _) (congrArg (World.drewN _) (Nat.add_assoc _ _ _))⟩))))
   go_meet
   case rel=>exact ⟨_,(true),rs,H',⟨by first|omega|exact Nat.le_refl _⟩,⟨bk⟩,⟨bl⟩⟩
  subst c5
  have H1:(F100.j0 k (decide ((l0_1.length:Int) > 10)) a0_0 l0_1)=some r:=by rw [if_pos rfl] at H;exact H
  clear H
  have H:=H1
  clear H1
  have H':=Aside0.mk H
  clear H
  have hcz6_0:w3.cell? ⟨gb101,0,none⟩=some (.int .i64 a0_0):=(blk_cell BK101.out 0).trans rfl
  have hcz6_1:w3.cell? ⟨gb101,1,none⟩=some (.slice A0_1 l0_1.length c0_1):=(blk_cell BK101.out 1).trans rfl
  have hfz6_0:=blk_frozen BK101.out 0
  have hfz6_1:=blk_frozen BK101.out 1
  go_wp2_with (first|(go_at_call 172;(with_reducible refine (F172.calls a0_0 1 8 true _ A4.out).mono ?_);rintro e w' ⟨rfl,⟨nd,rfl⟩⟩;(try first|exact ⟨rfl,_,World.drewN_drewN _ _ _⟩|exact ⟨rfl,_,Eq.trans (World.drewN_drewN _ _ _) (congrArg (World.drewN _) (Nat.add_assoc _ _ _))⟩)))
  repeat (go_quiet (first|(go_at_call 172;(with_reducible refine (F172.calls a0_0 1 8 true _ A4.out).mono ?_);rintro e w' ⟨rfl,⟨nd,rfl⟩⟩;(try first|exact ⟨rfl,_,World.drewN_drewN _ _ _⟩|exact ⟨rfl,_,Eq.trans (World.drewN_drewN _ _ _) (congrArg (World.drewN _) (Nat.add_assoc _ _ _))⟩)));try go_wp2_with (first|(go_at_call 172;(with_reducible refine (F172.calls a0_0 1 8 true _ A4.out).mono ?_);rintro e w' ⟨rfl,⟨nd,rfl⟩⟩;(try first|exact ⟨rfl,_,World.drewN_drewN _ _ _⟩|exact ⟨rfl,_,Eq.trans (World.drewN_drewN _ _ _) (congrArg (World.drewN _) (Nat.add_assoc _ _ _))⟩))))
  go_meet
  case rel=>exact ⟨_,(decide ((l0_1.length:Int) > 10)),rs,H',⟨by first|omega|exact Nat.le_refl _⟩,⟨bk⟩,⟨bl⟩⟩
 case rest =>
  clear HC2
  (try clear c1);(try clear p2);(try clear c5);(try clear hcz6_0);(try clear hcz6_1);(try clear hcz7_0);(try clear hcz7_1);(try clear hfz6_0);(try clear hfz6_1);(try clear hfz7_0);(try clear hfz7_1)
  obtain ⟨kq,x13_1,rfl,HA,HJ1,BK101,HB⟩:=hcut
  cases kq with
  | zero=>exact absurd HA.out (by simp [F100.j0])
  | succ kj1 =>
   have H:=HA.out
   clear HA
   simp only [F100.j0] at H
   by_cases c8:x13_1=true
   case neg =>
    replace c8:=Bool.eq_false_iff.mpr c8
    subst c8
    have H1:(F100.l0 kj1 0 a0_0 l0_1)=some r:=by rw [if_neg (show ¬ (false=true) by decide)] at H;exact H
    clear H
    have H:=H1
    clear H1
    have H':=Aside0.mk H
    clear H
    go_wp2
    repeat (go_quiet (fail);try go_wp2)
    go_loopg [3] kj1 (fun kq v3 w'=>∃ (x3_2:Int),v3=.int .i64 x3_2∧Aside0 (F100.l0 kq x3_2 a0_0 l0_1=some r)∧Aside0 (kq≤kj1)∧Aside0 (w'.heap[gb101]?=some (.cells #[.int .i64 a0_0,(.slice A0_1 l0_1.length c0_1)] 31 (0,0)))∧Aside0 (Below w.heap.size w w'))
    case atStart=>exact ⟨(0),rs,H',⟨Nat.le_refl _⟩,⟨bk⟩,⟨bl⟩⟩
    case round =>
     clear H'
     (try clear c1);(try clear p2);(try clear c5);(try clear c8);(try clear hcz6_0);(try clear hcz6_1);(try clear hcz7_0);(try clear hcz7_1);(try clear hfz6_0);(try clear hfz6_1);(try clear hfz7_0);(try clear hfz7_1);(try clear p2)
     obtain ⟨x3_2,rfl,HA,HK2,BK101,HB⟩:=hrel
     cases gk with
     | zero=>exact absurd HA.out (by simp [F100.l0])
     | succ k2 =>
      have H:=HA.out
      clear HA
      simp only [F100.l0] at H
      by_cases c9:x3_2 < (l0_1.length:Int)
      case neg =>
       rw [if_neg c9] at H
       have c9b0:decide (x3_2 < (l0_1.length:Int))=false:=decide_eq_false c9
       clear c9
       obtain rfl:=Option.some.inj H
       have hcz22_0:wr.cell? ⟨gb101,0,none⟩=some (.int .i64 a0_0):=(blk_cell BK101.out 0).trans rfl
       have hcz22_1:wr.cell? ⟨gb101,1,none⟩=some (.slice A0_1 l0_1.length c0_1):=(blk_cell BK101.out 1).trans rfl
       have hfz22_0:=blk_frozen BK101.out 0
       have hfz22_1:=blk_frozen BK101.out 1
       go_wp2
       repeat (go_quiet (fail);try go_wp2)
       go_ret
       exact ⟨by first|rfl|(simp [errW_none,errW_some]<;>rfl)|(simp [*,errW_none,errW_some]<;>rfl),bl⟩
      rw [if_pos c9] at H
      have c9b0:=decide_eq_true c9
      clear c9
      replace H:=iS H;obtain ⟨c10,H⟩:=H
      have c10b0:=decide_eq_true c10
      clear c10
      by_cases c11:((rd_L1 l0_1 x3_2).length:Int)=2
      case neg =>
       rw [if_neg c11] at H
       have c11b0:(((rd_L1 l0_1 x3_2).length:Int) == 2)=false:=beq_eq_false_iff_ne.mpr c11
       have c11b1:(((rd_L1 l0_1 x3_2).length:Int) != 2)=true:=bne_iff_ne.mpr c11
       obtain rfl:=Option.some.inj H
       have hcz21_0:wr.cell? ⟨gb101,0,none⟩=some (.int .i64 a0_0):=(blk_cell BK101.out 0).trans rfl
       have hcz21_1:wr.cell? ⟨gb101,1,none⟩=some (.slice A0_1 l0_1.length c0_1):=(blk_cell BK101.out 1).trans rfl
       have hfz21_0:=blk_frozen BK101.out 0
       have hfz21_1:=blk_frozen BK101.out 1
       have p103:0≤(x3_2:Int):=oD
       have q103:x3_2 < (l0_1.length:Int):=oD
       obtain ⟨ad103,A103_0,c103_0,e103,hx103_0,hl103_0,hi103_0⟩:=at_L1 HR0_1.out x3_2 p103 q103
       cases e103
       replace hx103_0:=hbc HB hx103_0
       have HR103_0:=Aside0.mk hi103_0
       have HC103_0:=Aside0.mk hl103_0
       clear hi103_0 hl103_0
       replace p103:=eq_true p103
       replace q103:=eq_true q103
       go_wp2
       repeat (go_quiet (fail);try go_wp2)
       go_ret
       exact ⟨by first|rfl|(simp [errW_none,errW_some]<;>rfl)|(simp [*,errW_none,errW_some]<;>rfl),bl⟩
      rw [if_pos c11] at H
      have c11b0:(((rd_L1 l0_1 x3_2).length:Int) == 2)=true:=beq_iff_eq.mpr c11
      have c11b1:(((rd_L1 l0_1 x3_2).length:Int) != 2)=false:=bne_eq_false_iff_eq.mpr c11
      clear c11
      replace H:=iS H;obtain ⟨c12,H⟩:=H
      have c12b0:=decide_eq_true c12
      have c12b1:decide (0 < (rd_L1 l0_1 x3_2).length)=true:=decide_eq_true (by omega)
      clear c12
      replace H:=Option.bind_eq_some_iff.mp H
      obtain ⟨t106,A130,H⟩:=H
      replace H:(if t106=true then (if 1 < ((rd_L1 l0_1 x3_2).length:Int) then ((F172.f (rd (rd_L1 l0_1 x3_2) 1) 0 (wrap64 (a0_0 - 1))).bind fun t109=>(if t109=true then (F100.l0 k2 (wrap64 (x3_2+1)) a0_0 l0_1) else (some false))) else (none)) else (some false))=some r:=H
      have A13:=Aside0.mk A130
      clear A130
      by_cases c14:t106=true
      case neg =>
       replace c14:=Bool.eq_false_iff.mpr c14
       subst c14
       have H1:(some false)=some r:=by rw [if_neg (show ¬ (false=true) by decide)] at H;exact H
       clear H
       have H:=H1
       clear H1
       obtain rfl:=Option.some.inj H
       have hcz20_0:wr.cell? ⟨gb101,0,none⟩=some (.int .i64 a0_0):=(blk_cell BK101.out 0).trans rfl
       have hcz20_1:wr.cell? ⟨gb101,1,none⟩=some (.slice A0_1 l0_1.length c0_1):=(blk_cell BK101.out 1).trans rfl
       have hfz20_0:=blk_frozen BK101.out 0
       have hfz20_1:=blk_frozen BK101.out 1
       have p103:0≤(x3_2:Int):=oD
       have q103:x3_2 < (l0_1.length:Int):=oD
       obtain ⟨ad103,A103_0,c103_0,e103,hx103_0,hl103_0,hi103_0⟩:=at_L1 HR0_1.out x3_2 p103 q103
       cases e103
       replace hx103_0:=hbc HB hx103_0
       have HR103_0:=Aside0.mk hi103_0
       have HC103_0:=Aside0.mk hl103_0
       clear hi103_0 hl103_0
       replace p103:=eq_true p103
       replace q103:=eq_true q103
       have p104:0≤(x3_2:Int):=oD
       have q104:x3_2 < (l0_1.length:Int):=oD
       obtain ⟨ad104,A104_0,c104_0,e104,hx104_0,hl104_0,hi104_0⟩:=at_L1 HR0_1.out x3_2 p104 q104
       obtain rfl:ad103=ad104:=(by injection e104)
       replace hx104_0:=hbc HB hx104_0
       have HR104_0:=Aside0.mk hi104_0
       have HC104_0:=Aside0.mk hl104_0
       clear hi104_0 hl104_0
       replace p104:=eq_true p104
       replace q104:=eq_true q104
       have ea_:=Option.some.inj (hx103_0.symm.trans hx104_0)
       injection ea_ with ea_ en_ ec_
       subst ea_
       subst ec_
       clear en_
       have p105:0≤(0:Int):=(by omega)
       have q105:0 < ((rd_L1 l0_1 x3_2).length:Int):=oD
       obtain ⟨ad105,e105,hx105_0⟩:=Kd.at_int HR104_0.out 0 p105 q105
       cases e105
       have qi105:(0 < (rd_L1 l0_1 x3_2).length)=True:=eq_true (by omega)
       (try rw [show ((0:Int)).toNat=0 from rfl] at hx105_0)
       (try rw [Addr.add_zero'] at hx105_0)
       replace hx105_0:=hbc HB hx105_0
       replace p105:=eq_true p105
       replace q105:=eq_true q105
       go_wp2_with (first|(go_at_call 172;(with_reducible refine (F172.calls (rd (rd_L1 l0_1 x3_2) 0) 0 (wrap64 (a0_0 - 1)) false _ A13.out).mono ?_);rintro e w' ⟨rfl,⟨nd,rfl⟩⟩;(try first|exact ⟨rfl,_,World.drewN_drewN _ _ _⟩|exact ⟨rfl,_,Eq.trans (World.drewN_drewN _ _ _) (congrArg (World.drewN _) (Nat.add_assoc _ _ _))⟩)))
       repeat (go_quiet (first|(go_at_call 172;(with_reducible refine (F172.calls (rd (rd_L1 l0_1 x3_2) 0) 0 (wrap64 (a0_0 - 1)) false _ A13.out).mono ?_);rintro e w' ⟨rfl,⟨nd,rfl⟩⟩;(try first|exact ⟨rfl,_,World.drewN_drewN _ _ _⟩|exact ⟨rfl,_,Eq.trans (World.drewN_drewN _ _ _) (congrArg (World.drewN _) (Nat.add_assoc _ _ _))⟩)));try go_wp2_with (first|(go_at_call 172;(with_reducible refine (F172.calls (rd (rd_L1 l0_1 x3_2) 0) 0 (wrap64 (a0_0 - 1)) false _ A13.out).mono ?_);rintro e w' ⟨rfl,⟨nd,rfl⟩⟩;(try first|exact ⟨rfl,_,World.drewN_drewN _ _ _⟩|exact ⟨rfl,_,Eq.trans (World.drewN_drewN _ _ _) (congrArg (World.drewN _) (Nat.add_assoc _ _ _))⟩))))
       go_ret
       exact ⟨by first|rfl|(simp [errW_none,errW_some]<;>rfl)|(simp [*,errW_none,errW_some]<;>rfl),bl⟩
      subst c14
      have H1:(if 1 < ((rd_L1 l0_1 x3_2).length:Int) then ((F172.f (rd (rd_L1 l0_1 x3_2) 1) 0 (wrap64 (a0_0 - 1))).bind fun t109=>(if t109=true then (F100.l0 k2 (wrap64 (x3_2+1)) a0_0 l0_1) else (some false))) else (none))=some r:=by rw [if_pos rfl] at H;exact H
      clear H
      have H:=H1
      clear H1
      replace H:=iS H;obtain ⟨c15,H⟩:=H
      have c15b0:=decide_eq_true c15
      have c15b1:decide (1 < (rd_L1 l0_1 x3_2).length)=true:=decide_eq_true (by omega)
      clear c15
      replace H:=Option.bind_eq_some_iff.mp H
      obtain ⟨t109,A160,H⟩:=H
      replace H:(if t109=true then (F100.l0 k2 (wrap64 (x3_2+1)) a0_0 l0_1) else (some false))=some r:=H
      have A16:=Aside0.mk A160
      clear A160
      by_cases c17:t109=true
      case neg =>
       replace c17:=Bool.eq_false_iff.mpr c17
       subst c17
       have H1:(some false)=some r:=by rw [if_neg (show ¬ (false=true) by decide)] at H;exact H
       clear H
       have H:=H1
       clear H1
       obtain rfl:=Option.some.inj H
       have hcz19_0:wr.cell? ⟨gb101,0,none⟩=some (.int .i64 a0_0):=(blk_cell BK101.out 0).trans rfl
       have hcz19_1:wr.cell? ⟨gb101,1,none⟩=some (.slice A0_1 l0_1.length c0_1):=(blk_cell BK101.out 1).trans rfl
       have hfz19_0:=blk_frozen BK101.out 0
       have hfz19_1:=blk_frozen BK101.out 1
       have p103:0≤(x3_2:Int):=oD
       have q103:x3_2 < (l0_1.length:Int):=oD
       obtain ⟨ad103,A103_0,c103_0,e103,hx103_0,hl103_0,hi103_0⟩:=at_L1 HR0_1.out x3_2 p103 q103
       cases e103
       replace hx103_0:=hbc HB hx103_0
       have HR103_0:=Aside0.mk hi103_0
       have HC103_0:=Aside0.mk hl103_0
       clear hi103_0 hl103_0
       replace p103:=eq_true p103
       replace q103:=eq_true q103
       have p104:0≤(x3_2:Int):=oD
       have q104:x3_2 < (l0_1.length:Int):=oD
       obtain ⟨ad104,A104_0,c104_0,e104,hx104_0,hl104_0,hi104_0⟩:=at_L1 HR0_1.out x3_2 p104 q104
       obtain rfl:ad103=ad104:=(by injection e104)
       replace hx104_0:=hbc HB hx104_0
       have HR104_0:=Aside0.mk hi104_0
       have HC104_0:=Aside0.mk hl104_0
       clear hi104_0 hl104_0
       replace p104:=eq_true p104
       replace q104:=eq_true q104
       have ea_:=Option.some.inj (hx103_0.symm.trans hx104_0)
       injection ea_ with ea_ en_ ec_
       subst ea_
       subst ec_
       clear en_
       have p105:0≤(0:Int):=(by omega)
       have q105:0 < ((rd_L1 l0_1 x3_2).length:Int):=oD
       obtain ⟨ad105,e105,hx105_0⟩:=Kd.at_int HR104_0.out 0 p105 q105
       cases e105
       have qi105:(0 < (rd_L1 l0_1 x3_2).length)=True:=eq_true (by omega)
       (try rw [show ((0:Int)).toNat=0 from rfl] at hx105_0)
       (try rw [Addr.add_zero'] at hx105_0)
       replace hx105_0:=hbc HB hx105_0
       replace p105:=eq_true p105
       replace q105:=eq_true q105
       have p107:0≤(x3_2:Int):=oD
       have q107:x3_2 < (l0_1.length:Int):=oD
       obtain ⟨ad107,A107_0,c107_0,e107,hx107_0,hl107_0,hi107_0⟩:=at_L1 HR0_1.out x3_2 p107 q107
       obtain rfl:ad103=ad107:=(by injection e107)
       replace hx107_0:=hbc HB hx107_0
       have HR107_0:=Aside0.mk hi107_0
       have HC107_0:=Aside0.mk hl107_0
       clear hi107_0 hl107_0
       replace p107:=eq_true p107
       replace q107:=eq_true q107
       have ea_:=Option.some.inj (hx103_0.symm.trans hx107_0)
       injection ea_ with ea_ en_ ec_
       subst ea_
       subst ec_
       clear en_
       have p108:0≤(1:Int):=(by omega)
       have q108:1 < ((rd_L1 l0_1 x3_2).length:Int):=oD
       obtain ⟨ad108,e108,hx108_0⟩:=Kd.at_int HR107_0.out 1 p108 q108
       cases e108
       (try simp only [show (1:Int).toNat=1 from rfl,Nat.reduceMul,Nat.reduceEqDiff,Go.Addr.add,↓reduceIte] at hx108_0)
       have qi108:(1 < (rd_L1 l0_1 x3_2).length)=True:=eq_true (by omega)
       (try rw [show ((1:Int)).toNat=1 from rfl] at hx108_0)
       replace hx108_0:=hbc HB hx108_0
       replace p108:=eq_true p108
       replace q108:=eq_true q108
       go_wp2_with (first|(go_at_call 172;(with_reducible refine (F172.calls (rd (rd_L1 l0_1 x3_2) 0) 0 (wrap64 (a0_0 - 1)) true _ A13.out).mono ?_);rintro e w' ⟨rfl,⟨nd,rfl⟩⟩;(try first|exact ⟨rfl,_,World.drewN_drewN _ _ _⟩|exact ⟨rfl,_,Eq.trans (World.drewN_drewN _ _ _) (congrArg (World.drewN _) (Nat.add_assoc _ _ _))⟩))|(go_at_call 172;(with_reducible refine (F172.calls (rd (rd_L1 l0_1 x3_2) 1) 0 (wrap64 (a0_0 - 1)) false _ A16.out).mono ?_);rintro e w' ⟨rfl,⟨nd,rfl⟩⟩;(try first|exact ⟨rfl,_,World.drewN_drewN _ _ _⟩|exact ⟨rfl,_,Eq.trans (World.drewN_drewN _ _ _) (congrArg (World.drewN _) (Nat.add_assoc _ _ _))⟩)))
       repeat (go_quiet (first|(go_at_call 172;(with_reducible refine (F172.calls (rd (rd_L1 l0_1 x3_2) 0) 0 (wrap64 (a0_0 - 1)) true _ A13.out).mono ?_);rintro e w' ⟨rfl,⟨nd,rfl⟩⟩;(try first|exact ⟨rfl,_,World.drewN_drewN _ _ _⟩|exact ⟨rfl,_,Eq.trans (World.drewN_drewN _ _ _) (congrArg (World.drewN _) (Nat.add_assoc _ _ _))⟩))|(go_at_call 172;(with_reducible refine (F172.calls (rd (rd_L1 l0_1 x3_2) 1) 0 (wrap64 (a0_0 - 1)) false _ A16.out).mono ?_);rintro e w' ⟨rfl,⟨nd,rfl⟩⟩;(try first|exact ⟨rfl,_,World.drewN_drewN _ _ _⟩|exact ⟨rfl,_,Eq.trans (World.drewN_drewN _ _ _) (congrArg (World.drewN _) (Nat.add_assoc _ _ _))⟩)));try go_wp2_with (first|(go_at_call 172;(with_reducible refine (F172.calls (rd (rd_L1 l0_1 x3_2) 0) 0 (wrap64 (a0_0 - 1)) true _ A13.out).mono ?_);rintro e w' ⟨rfl,⟨nd,rfl⟩⟩;(try first|exact ⟨rfl,_,World.drewN_drewN _ _ _⟩|exact ⟨rfl,_,Eq.trans (World.drewN_drewN _ _ _) (congrArg (World.drewN _) (Nat.add_assoc _ _ _))⟩))|(go_at_call 172;(with_reducible refine (F172.calls (rd (rd_L1 l0_1 x3_2) 1) 0 (wrap64 (a0_0 - 1)) false _ A16.out).mono ?_);rintro e w' ⟨rfl,⟨nd,rfl⟩⟩;(try first|exact ⟨rfl,_,World.drewN_drewN _ _ _⟩|exact ⟨rfl,_,Eq.trans (World.drewN_drewN _ _ _) (congrArg (World.drewN _) (Nat.add_assoc _ _ _))⟩))))
       go_ret
       exact ⟨by first|rfl|(simp [errW_none,errW_some]<;>rfl)|(simp [*,errW_none,errW_some]<;>rfl),bl⟩
      subst c17
      have H1:(F100.l0 k2 (wrap64 (x3_2+1)) a0_0 l0_1)=some r:=by rw [if_pos rfl] at H;exact H
      clear H
      have H:=H1
      clear H1
      have H':=Aside0.mk H
      clear H
      have hcz18_0:wr.cell? ⟨gb101,0,none⟩=some (.int .i64 a0_0):=(blk_cell BK101.out 0).trans rfl
      have hcz18_1:wr.cell? ⟨gb101,1,none⟩=some (.slice A0_1 l0_1.length c0_1):=(blk_cell BK101.out 1).trans rfl
      have hfz18_0:=blk_frozen BK101.out 0
      have hfz18_1:=blk_frozen BK101.out 1
      have p103:0≤(x3_2:Int):=oD
      have q103:x3_2 < (l0_1.length:Int):=oD
      obtain ⟨ad103,A103_0,c103_0,e103,hx103_0,hl103_0,hi103_0⟩:=at_L1 HR0_1.out x3_2 p103 q103
      cases e103
      replace hx103_0:=hbc HB hx103_0
      have HR103_0:=Aside0.mk hi103_0
      have HC103_0:=Aside0.mk hl103_0
      clear hi103_0 hl103_0
      replace p103:=eq_true p103
      replace q103:=eq_true q103
      have p104:0≤(x3_2:Int):=oD
      have q104:x3_2 < (l0_1.length:Int):=oD
      obtain ⟨ad104,A104_0,c104_0,e104,hx104_0,hl104_0,hi104_0⟩:=at_L1 HR0_1.out x3_2 p104 q104
      obtain rfl:ad103=ad104:=(by injection e104)
      replace hx104_0:=hbc HB hx104_0
      have HR104_0:=Aside0.mk hi104_0
      have HC104_0:=Aside0.mk hl104_0
      clear hi104_0 hl104_0
      replace p104:=eq_true p104
      replace q104:=eq_true q104
      have ea_:=Option.some.inj (hx103_0.symm.trans hx104_0)
      injection ea_ with ea_ en_ ec_
      subst ea_
      subst ec_
      clear en_
      have p105:0≤(0:Int):=(by omega)
      have q105:0 < ((rd_L1 l0_1 x3_2).length:Int):=oD
      obtain ⟨ad105,e105,hx105_0⟩:=Kd.at_int HR104_0.out 0 p105 q105
      cases e105
      have qi105:(0 < (rd_L1 l0_1 x3_2).length)=True:=eq_true (by omega)
      (try rw [show ((0:Int)).toNat=0 from rfl] at hx105_0)
      (try rw [Addr.add_zero'] at hx105_0)
      replace hx105_0:=hbc HB hx105_0
      replace p105:=eq_true p105
      replace q105:=eq_true q105
      have p107:0≤(x3_2:Int):=oD
      have q107:x3_2 < (l0_1.length:Int):=oD
      obtain ⟨ad107,A107_0,c107_0,e107,hx107_0,hl107_0,hi107_0⟩:=at_L1 HR0_1.out x3_2 p107 q107
      obtain rfl:ad103=ad107:=(by injection e107)
      replace hx107_0:=hbc HB hx107_0
      have HR107_0:=Aside0.mk hi107_0
      have HC107_0:=Aside0.mk hl107_0
      clear hi107_0 hl107_0
      replace p107:=eq_true p107
      replace q107:=eq_true q107
      have ea_:=Option.some.inj (hx103_0.symm.trans hx107_0)
      injection ea_ with ea_ en_ ec_
      subst ea_
      subst ec_
      clear en_
      have p108:0≤(1:Int):=(by omega)
      have q108:1 < ((rd_L1 l0_1 x3_2).length:Int):=oD
      obtain ⟨ad108,e108,hx108_0⟩:=Kd.at_int HR107_0.out 1 p108 q108
      cases e108
      (try simp only [show (1:Int).toNat=1 from rfl,Nat.reduceMul,Nat.reduceEqDiff,Go.Addr.add,↓reduceIte] at hx108_0)
      have qi108:(1 < (rd_L1 l0_1 x3_2).length)=True:=eq_true (by omega)
      (try rw [show ((1:Int)).toNat=1 from rfl] at hx108_0)
      replace hx108_0:=hbc HB hx108_0
      replace p108:=eq_true p108
      replace q108:=eq_true q108
      go_wp2_with (first|(go_at_call 172;(with_reducible refine (F172.calls (rd (rd_L1 l0_1 x3_2) 0) 0 (wrap64 (a0_0 - 1)) true _ A13.out).mono ?_);rintro e w' ⟨rfl,⟨nd,rfl⟩⟩;(try first|exact ⟨rfl,_,World.drewN_drewN _ _ _⟩|exact ⟨rfl,_,Eq.trans (World.drewN_drewN _ _ _) (congrArg (World.drewN _) (Nat.add_assoc _ _ _))⟩))|(go_at_call 172;(with_reducible refine (F172.calls (rd (rd_L1 l0_1 x3_2) 1) 0 (wrap64 (a0_0 - 1)) true _ A16.out).mono ?_);rintro e w' ⟨rfl,⟨nd,rfl⟩⟩;(try first|exact ⟨rfl,_,World.drewN_drewN _ _ _⟩|exact ⟨rfl,_,Eq.trans (World.drewN_drewN _ _ _) (congrArg (World.drewN _) (Nat.add_assoc _ _ _))⟩)))
      repeat (go_quiet (first|(go_at_call 172;(with_reducible refine (F172.calls (rd (rd_L1 l0_1 x3_2) 0) 0 (wrap64 (a0_0 - 1)) true _ A13.out).mono ?_);rintro e w' ⟨rfl,⟨nd,rfl⟩⟩;(try first|exact ⟨rfl,_,World.drewN_drewN _ _ _⟩|exact ⟨rfl,_,Eq.trans (World.drewN_drewN _ _ _) (congrArg (World.drewN _) (Nat.add_assoc _ _ _))⟩))|(go_at_call 172;(with_reducible refine (F172.calls (rd (rd_L1 l0_1 x3_2) 1) 0 (wrap64 (a0_0 - 1)) true _ A16.out).mono ?_);rintro e w' ⟨rfl,⟨nd,rfl⟩⟩;(try first|exact ⟨rfl,_,World.drewN_drewN _ _ _⟩|exact ⟨rfl,_,Eq.trans (World.drewN_drewN _ _ _) (congrArg (World.drewN _) (Nat.add_assoc _ _ _))⟩)));try go_wp2_with (first|(go_at_call 172;(with_reducible refine (F172.calls (rd (rd_L1 l0_1 x3_2) 0) 0 (wrap64 (a0_0 - 1)) true _ A13.out).mono ?_);rintro e w' ⟨rfl,⟨nd,rfl⟩⟩;(try first|exact ⟨rfl,_,World.drewN_drewN _ _ _⟩|exact ⟨rfl,_,Eq.trans (World.drewN_drewN _ _ _) (congrArg (World.drewN _) (Nat.add_assoc _ _ _))⟩))|(go_at_call 172;(with_reducible refine (F172.calls (rd (rd_L1 l0_1 x3_2) 1) 0 (wrap64 (a0_0 - 1)) true _ A16.out).mono ?_);rintro e w' ⟨rfl,⟨nd,rfl⟩⟩;(try first|exact ⟨rfl,_,World.drewN_drewN _ _ _⟩|exact ⟨rfl,_,Eq.trans (World.drewN_drewN _ _ _) (congrArg (World.drewN _) (Nat.add_assoc _ _ _))⟩))))
      go_roundg k2
      case measure=>have:=HJ1.out;have:=HK2.out;omega
      case rel=>exact ⟨(wrap64 (x3_2+1)),rs,H',⟨by have:=HJ1.out;have:=HK2.out;omega⟩,⟨bk⟩,⟨bl⟩⟩
   subst c8
   have H1:(some false)=some r:=by rw [if_pos rfl] at H;exact H
   clear H
   have H:=H1
   clear H1
   obtain rfl:=Option.some.inj H
   go_wp2
   repeat (go_quiet (fail);try go_wp2)
   go_ret
   exact ⟨by first|rfl|(simp [errW_none,errW_some]<;>rfl)|(simp [*,errW_none,errW_some]<;>rfl),bl⟩
/-! ### F214: function 214 -/
def F214.l0 : Nat → List Int → Int → List Bool → Int → Option Bool
 | 0,_,_,_,_=>none
 | k+1,l,a,m,i=>if i < (l.length:Int) then (if 0≤i then ((F172.f (rd l i) 0 (wrap64 (a - 1))).bind fun b=>if b=true then (if 0≤rd l i then (if rd l i < 4 then (if m.getD (rd l i).toNat false=true then some false else F214.l0 k l a (m.set (rd l i).toNat true) (wrap64 (i+1))) else none) else none) else some false) else none) else some true
def F214.f (k:Nat) (l:List Int) (a:Int):Option Bool:=if (l.length:Int)=a then F214.l0 k l a (List.replicate 4 false) 0 else some false
theorem F214.mono_l : ∀ k, (∀ y0 y1 y2 y3, LeO (F214.l0 k y0 y1 y2 y3) (F214.l0 (k + 1) y0 y1 y2 y3))
 | 0=>fun _ _ _ _ r h=>by simp [F214.l0] at h
 | k+1=>by
  have ih0:=F214.mono_l k
  ·intro y0 y1 y2 y3
   unfold F214.l0
   repeat' first
    | (with_reducible first|exact ih0 _ _ _ _|exact LeO.refl _|exact LeO.none _|refine LeO.ite ?_ ?_|refine LeO.bind ?_ (fun _=>?_))
    | exact ih0 _ _ _ _|exact LeO.none _|refine LeO.ite ?_ ?_|refine LeO.bind ?_ (fun _=>?_)
theorem F214.mono:∀ a0 a1 k,LeO (F214.f k a0 a1) (F214.f (k+1) a0 a1):=by
 intro a0 a1 k
 have ih0:=F214.mono_l k
 unfold F214.f
 repeat' first
  | (with_reducible first|exact ih0 _ _ _ _|exact LeO.refl _|exact LeO.none _|refine LeO.ite ?_ ?_|refine LeO.bind ?_ (fun _=>?_))
  | exact ih0 _ _ _ _|exact LeO.none _|refine LeO.ite ?_ ?_|refine LeO.bind ?_ (fun _=>?_)
set_option maxHeartbeats 8000000 in
set_option maxRecDepth 100000 in
theorem F214.calls (k : Nat) (A0 : Option Addr) (c0 : Nat) (l0 : List Int) (a1 : Int) (r : Bool) (w : World) (hr0 : Kd.C (Kd.int .i64) w A0 l0.length l0) (hc0 : l0.length ≤ c0) (h : F214.f k l0 a1 = some r) :
  Calls Try.prog 214 #[.slice A0 l0.length c0,.int .i64 a1] w fun e w'=>e=.returned (.bool r)∧Below w.heap.size w w':=by
 have HR:=Aside0.mk hr0
 clear hr0
 unfold F214.f at h
 by_cases c1:(l0.length:Int)=a1
 case neg =>
  rw [if_neg c1] at h
  have c1b:((l0.length:Int) != a1)=true:=bne_iff_ne.mpr c1
  obtain rfl:=Option.some.inj h
  clear h c1
  go_enter Try.func214,Try.ntmps214
  go_wp2
  go_ret
  exact ⟨by first|rfl|(simp;done),(Below.refl _ _).alloc (Nat.le_refl _) _⟩
 rw [if_pos c1] at h
 have c1b:((l0.length:Int) != a1)=false:=bne_eq_false_iff_eq.mpr c1
 have H':=Aside0.mk h
 clear h c1
 go_enter Try.func214,Try.ntmps214
 go_wp2
 go_loopg [6] k (fun kq v6 w'=>∃ (i:Int) (m:List Bool),v6=.int .i64 i∧Aside0 (F214.l0 kq l0 a1 m i=some r)∧Aside0 (kq≤k)∧Aside0 (m.length=4)∧Aside0 (w'.heap[w.heap.size]?=some (.cells (m.map Value.bool).toArray 175 (0,0)))∧Aside0 (Below w.heap.size w w'))
 case atStart=>exact ⟨0,List.replicate 4 false,rfl,H',⟨Nat.le_refl _⟩,⟨rfl⟩,⟨heap_alloc_new _ _⟩,⟨(Below.refl _ _).alloc (Nat.le_refl _) _⟩⟩
 case round =>
  clear H'
  obtain ⟨i,m,rfl,HA,HK1,HM,BK,HB⟩:=hrel
  cases gk with
  | zero=>exact absurd HA.out (by simp [F214.l0])
  | succ k1 =>
   have H:=HA.out
   clear HA
   simp only [F214.l0] at H
   by_cases c2:i < (l0.length:Int)
   case neg =>
    rw [if_neg c2] at H
    have c2b:decide (i < (l0.length:Int))=false:=decide_eq_false c2
    obtain rfl:=Option.some.inj H
    clear H c2
    go_wp2
    go_ret
    exact ⟨by first|rfl|(simp;done)|(simp [*];done),HB.out⟩
   rw [if_pos c2] at H
   have c2b:=decide_eq_true c2
   replace H:=iS H;obtain ⟨c3,H⟩:=H
   have c3b:=decide_eq_true c3
   obtain ⟨b,hb,H⟩:=Option.bind_eq_some_iff.mp H
   have HI:=Aside0.mk hb
   clear hb
   obtain ⟨ad,e,hcell⟩:=Kd.at_int (Kd.C_below HR.out HB.out) i c3 c2
   cases e
   have c3p:=eq_true c3
   have c2p:=eq_true c2
   clear c2 c3
   cases b with
   | false =>
    simp only [Bool.false_eq_true,if_false,Option.some.injEq] at H
    subst H
    go_wp2_with (go_at_call 172;refine (F172.calls _ _ _ false _ HI.out).mono ?_;rintro e w_ ⟨rfl,⟨nd_,rfl⟩⟩)
    go_ret
    exact ⟨by first|rfl|(simp;done),by repeat (first|exact HB.out|apply below_alloc|apply pw_below_drewN)⟩
   | true =>
    simp only [if_true] at H
    replace H:=iS H;obtain ⟨c4,H⟩:=H
    replace H:=iS H;obtain ⟨c5,H⟩:=H
    obtain ⟨x,hx⟩:∃ x:Nat,rd l0 i=(x:Int):=⟨(rd l0 i).toNat,by omega⟩
    rw [hx] at H c4 c5 HI hcell
    rw [Int.toNat_natCast] at H
    have hx8:x < 4:=by omega
    have hq:wr.cell? ⟨w.heap.size,x,none⟩=some (.bool (m.getD x false)):=by
     rw [blk_cell BK.out x,List.getD_eq_getElem?_getD,List.getElem?_eq_getElem (by rw [HM.out];exact hx8)]
     simp [HM.out,hx8]
    have hf:wr.frozen? ⟨w.heap.size,x,none⟩=false:=blk_frozen BK.out x
    have c4b:=decide_eq_true c4
    have c5b:=decide_eq_true c5
    have c4p:=eq_true c4
    have c5p:=eq_true c5
    clear c4 c5
    cases hmx:m.getD x false with
    | true =>
     rw [hmx] at H hq
     simp only [if_true,Option.some.injEq] at H
     subst H
     go_wp2_with (go_at_call 172;refine (F172.calls _ _ _ true _ HI.out).mono ?_;rintro e w_ ⟨rfl,⟨nd_,rfl⟩⟩)
     go_ret
     exact ⟨by first|rfl|(simp;done),by repeat (first|exact HB.out|apply below_alloc|apply pw_below_drewN)⟩
    | false =>
     rw [hmx] at H hq
     simp only [Bool.false_eq_true,if_false] at H
     have H':=Aside0.mk H
     clear H
     go_wp2_with (go_at_call 172;refine (F172.calls _ _ _ true _ HI.out).mono ?_;rintro e w_ ⟨rfl,⟨nd_,rfl⟩⟩)
     go_roundg k1
     case measure=>have:=HK1.out;omega
     case rel=>exact ⟨wrap64 (i+1),m.set x true,rs,H',⟨by have:=HK1.out;omega⟩,⟨by rw [List.length_set];exact HM.out⟩,⟨by rw [blk_set (blk_drewN BK.out nd_) x (Value.bool true)];simp [List.map_set]⟩,⟨below_set (pw_below_drewN HB.out _) (Nat.le_refl _)⟩⟩
end Go.Proofs.Ytoebojnhchocaaa.A
/- Set with little white space, by a program. -/
