/- The functions that one law reaches, each as a Lean function, and that Go's call comes to what it says. Condition of each: that the Lean function answers (is not none). -/
import Derived.Test.YtoebojnhchocaaaAx0
import Derived.Test.YtoebojnhchocaaaAx8
namespace Go.Proofs.Ytoebojnhchocaaa.A
open Go.RowKit Go.Proofs.YtoebojnhchocaaaW.PrintWords Go.Proofs.YtoebojnhchocaaaW.PrintLast Go.Proofs.YtoebojnhchocaaaW.PrintMore
attribute [local go_sem] max2_int min2_int max_two min_two max_three min_three max_four min_four   -- for this text's walks alone
set_option linter.unusedVariables false
set_option linter.unusedSimpArgs false
/-! ### F95: function 95 -/
def F95.l0 : Nat → List Int → List Int → Int → Int → Option (Bool)
 | 0,_,_,_,_=>none
 | k+1,x0,x1,x12,x13=>if x13 < x12 then (if 0≤x13 then (if x13 < (x0.length:Int) then (if x13 < (x1.length:Int) then (if (rd x0 x13)=(rd x1 x13) then (F95.l0 k x0 x1 x12 (wrap64 (x13+1))) else (some false)) else (none)) else (none)) else (none)) else (some true)
def F95.f (k:Nat) (l0:List Int) (l1:List Int):Option (Bool):=if (l0.length:Int)=(l1.length:Int) then (F95.l0 k l0 l1 (l0.length:Int) 0) else (some false)
theorem F95.mono_l : ∀ k, (∀ y0 y1 y2 y3, LeO (F95.l0 k y0 y1 y2 y3) (F95.l0 (k + 1) y0 y1 y2 y3))
 | 0=>fun _ _ _ _ r h=>by simp [F95.l0] at h
 | k+1=>by
  have ih0:=F95.mono_l k
  ·intro y0 y1 y2 y3
   unfold F95.l0
   repeat' first
    | (with_reducible first|exact ih0 _ _ _ _|exact LeO.refl _|exact LeO.none _|refine LeO.ite ?_ ?_|refine LeO.bind ?_ (fun _=>?_))
    | exact ih0 _ _ _ _|exact LeO.none _|refine LeO.ite ?_ ?_|refine LeO.bind ?_ (fun _=>?_)
theorem F95.mono:∀ a0 a1 k,LeO (F95.f k a0 a1) (F95.f (k+1) a0 a1):=by
 intro a0 a1 k
 have ih0:=F95.mono_l k
 unfold F95.f
 repeat' first
  | (with_reducible first|exact ih0 _ _ _ _|exact LeO.refl _|exact LeO.none _|refine LeO.ite ?_ ?_|refine LeO.bind ?_ (fun _=>?_))
  | exact ih0 _ _ _ _|exact LeO.none _|refine LeO.ite ?_ ?_|refine LeO.bind ?_ (fun _=>?_)
set_option maxHeartbeats 8000000 in
set_option maxRecDepth 100000 in
theorem F95.calls (k : Nat) (A0 : Option Addr) (c0 : Nat) (l0 : List Int) (A1 : Option Addr) (c1 : Nat) (l1 : List Int) (r : Bool) (w : World) (hr0 : Kd.C (Kd.int .i64) w A0 l0.length l0) (hc0 : l0.length ≤ c0) (hr1 : Kd.C (Kd.int .i64) w A1 l1.length l1) (hc1 : l1.length ≤ c1) (h : F95.f k l0 l1 = some r) :
  Calls Try.prog 95 #[.slice A0 l0.length c0,.slice A1 l1.length c1] w fun e w'=>e=.returned (.bool r)∧Drawn0 w w':=by
 have HR0:=Aside0.mk hr0
 have HC0:=Aside0.mk hc0
 clear hr0 hc0
 have HR1:=Aside0.mk hr1
 have HC1:=Aside0.mk hc1
 clear hr1 hc1
 have H:(if (l0.length:Int)=(l1.length:Int) then (F95.l0 k l0 l1 (l0.length:Int) 0) else (some false))=some r:=h
 clear h
 by_cases c3:(l0.length:Int)=(l1.length:Int)
 case neg =>
  rw [if_neg c3] at H
  have c3b0:((l0.length:Int) == (l1.length:Int))=false:=beq_eq_false_iff_ne.mpr c3
  have c3b1:((l0.length:Int) != (l1.length:Int))=true:=bne_iff_ne.mpr c3
  have c3b2:(l0.length == l1.length)=false:=by first|simpa using c3|(simp at c3 ⊢;omega)
  obtain rfl:=Option.some.inj H
  go_enter Try.func95,Try.ntmps95
  go_wp2
  repeat (go_quiet (fail);try go_wp2)
  go_ret
  exact ⟨by first|rfl|(simp;done)|(simp [*];done),by repeat (first|exact Drawn0.refl _|apply Drawn0.step)⟩
 rw [if_pos c3] at H
 have c3b0:((l0.length:Int) == (l1.length:Int))=true:=beq_iff_eq.mpr c3
 have c3b1:((l0.length:Int) != (l1.length:Int))=false:=bne_eq_false_iff_eq.mpr c3
 have c3b2:(l0.length == l1.length)=true:=by first|simpa using c3|(simp at c3 ⊢;omega)
 clear c3
 have H':=Aside0.mk H
 clear H
 go_enter Try.func95,Try.ntmps95
 go_wp2
 repeat (go_quiet (fail);try go_wp2)
 go_loopg [13] k (fun kq v13 w'=>∃ (x13_1:Int),v13=.int .i64 x13_1∧Aside0 (F95.l0 kq l0 l1 (l0.length:Int) x13_1=some r)∧Aside0 (kq≤k)∧Drawn0 w w')
 case atStart=>exact ⟨(0),rs,H',⟨Nat.le_refl _⟩,by repeat (first|exact Drawn0.refl _|apply Drawn0.step)⟩
 case round =>
  clear H'
  (try clear c1);(try clear p2);(try clear c3);(try clear c3b0);(try clear c3b1);(try clear c3b2)
  obtain ⟨x13_1,rfl,HA,HK1,⟨m1,rfl⟩⟩:=hrel
  cases gk with
  | zero=>exact absurd HA.out (by simp [F95.l0])
  | succ k1 =>
   have H:=HA.out
   clear HA
   simp only [F95.l0] at H
   by_cases c4:x13_1 < (l0.length:Int)
   case neg =>
    rw [if_neg c4] at H
    have c4b0:decide (x13_1 < (l0.length:Int))=false:=decide_eq_false c4
    clear c4
    obtain rfl:=Option.some.inj H
    go_wp2
    repeat (go_quiet (fail);try go_wp2)
    go_ret
    exact ⟨by first|rfl|(simp;done)|(simp [*];done),by repeat (first|exact Drawn0.refl _|apply Drawn0.step)⟩
   rw [if_pos c4] at H
   have c4b0:=decide_eq_true c4
   clear c4
   replace H:=iS H;obtain ⟨c5,H⟩:=H
   have c5b0:=decide_eq_true c5
   clear c5
   replace H:=iS H;obtain ⟨c6,H⟩:=H
   have c6b0:=decide_eq_true c6
   clear c6
   replace H:=iS H;obtain ⟨c7,H⟩:=H
   have c7b0:=decide_eq_true c7
   clear c7
   by_cases c8:(rd l0 x13_1)=(rd l1 x13_1)
   case neg =>
    rw [if_neg c8] at H
    have c8b0:((rd l0 x13_1) == (rd l1 x13_1))=false:=beq_eq_false_iff_ne.mpr c8
    have c8b1:((rd l0 x13_1) != (rd l1 x13_1))=true:=bne_iff_ne.mpr c8
    obtain rfl:=Option.some.inj H
    have p101:0≤(x13_1:Int):=oD
    have q101:x13_1 < (l0.length:Int):=oD
    obtain ⟨ad101,e101,hx101_0⟩:=Kd.at_int HR0.out x13_1 p101 q101
    cases e101
    replace p101:=eq_true p101
    replace q101:=eq_true q101
    have p102:0≤(x13_1:Int):=oD
    have q102:x13_1 < (l1.length:Int):=oD
    obtain ⟨ad102,e102,hx102_0⟩:=Kd.at_int HR1.out x13_1 p102 q102
    cases e102
    replace p102:=eq_true p102
    replace q102:=eq_true q102
    go_wp2
    repeat (go_quiet (fail);try go_wp2)
    go_ret
    exact ⟨by first|rfl|(simp;done)|(simp [*];done),by repeat (first|exact Drawn0.refl _|apply Drawn0.step)⟩
   rw [if_pos c8] at H
   have c8b0:((rd l0 x13_1) == (rd l1 x13_1))=true:=beq_iff_eq.mpr c8
   have c8b1:((rd l0 x13_1) != (rd l1 x13_1))=false:=bne_eq_false_iff_eq.mpr c8
   clear c8
   have H':=Aside0.mk H
   clear H
   have p101:0≤(x13_1:Int):=oD
   have q101:x13_1 < (l0.length:Int):=oD
   obtain ⟨ad101,e101,hx101_0⟩:=Kd.at_int HR0.out x13_1 p101 q101
   cases e101
   replace p101:=eq_true p101
   replace q101:=eq_true q101
   have p102:0≤(x13_1:Int):=oD
   have q102:x13_1 < (l1.length:Int):=oD
   obtain ⟨ad102,e102,hx102_0⟩:=Kd.at_int HR1.out x13_1 p102 q102
   cases e102
   replace p102:=eq_true p102
   replace q102:=eq_true q102
   go_wp2
   repeat (go_quiet (fail);try go_wp2)
   go_roundg k1
   case measure=>have:=HK1.out;omega
   case rel=>exact ⟨(wrap64 (x13_1+1)),rs,H',⟨by have:=HK1.out;omega⟩,by repeat (first|exact Drawn0.refl _|apply Drawn0.step)⟩
/-! ### F218: function 218 -/
def F218.f (a0:Int):Option (Bool):=(F194.f a0 (-1000000000000000) 1000000000000000).bind fun t101=>(some t101)
set_option maxHeartbeats 8000000 in
set_option maxRecDepth 100000 in
theorem F218.calls (a0 : Int) (r : Bool) (w : World) (h : F218.f a0 = some r) :
  Calls Try.prog 218 #[.int .i64 a0] w fun e w'=>e=.returned (.bool r)∧Drawn0 w w':=by
 have H:((F194.f a0 (-1000000000000000) 1000000000000000).bind fun t101=>(some t101))=some r:=h
 clear h
 replace H:=Option.bind_eq_some_iff.mp H
 obtain ⟨t101,A20,H⟩:=H
 replace H:(some t101)=some r:=H
 have A2:=Aside0.mk A20
 clear A20
 obtain rfl:=Option.some.inj H
 go_enter Try.func218,Try.ntmps218
 go_wp2_with (first|((with_reducible refine gate_callee (f:=194) rfl ?_);refine goesL_ (some 4) rfl rfl Try.func194 (by kernel_rfl) rfl #[.int .i64 a0,.int .i64 (-1000000000000000),.int .i64 1000000000000000] rfl gm ?_;(with_reducible refine (F194.calls a0 (-1000000000000000) 1000000000000000 t101 _ A2.out).mono ?_);rintro e w' ⟨rfl,⟨nd,rfl⟩⟩;refine ⟨_,rfl,?_⟩))
 go_ret
 exact ⟨by first|rfl|(simp;done)|(simp [*];done),by repeat (first|exact Drawn0.refl _|apply Drawn0.step)⟩
/-! ### F217: function 217 -/
def F217.l0 : Nat → List Int → List Int → Int → Int → Option (Bool)
 | 0,_,_,_,_=>none
 | k+1,x0,x5,x6,x7=>if x7 < x6 then (if 0≤x7 then (if x7 < (x5.length:Int) then ((F218.f (rd x5 x7)).bind fun t102=>(if t102=true then (F217.l0 k x0 x5 x6 (wrap64 (x7+1))) else (some false))) else (none)) else (none)) else (if (x0.length:Int)≤40 then (if (x0.length:Int)=0 then (some true) else (if 0≤(wrap64 ((x0.length:Int) - 1)) then (if (wrap64 ((x0.length:Int) - 1)) < (x0.length:Int) then (some ((rd x0 (wrap64 ((x0.length:Int) - 1))) != 0)) else (none)) else (none))) else (some false))
def F217.f (k:Nat) (l0:List Int):Option (Bool):=F217.l0 k l0 l0 (l0.length:Int) 0
theorem F217.mono_l : ∀ k, (∀ y0 y1 y2 y3, LeO (F217.l0 k y0 y1 y2 y3) (F217.l0 (k + 1) y0 y1 y2 y3))
 | 0=>fun _ _ _ _ r h=>by simp [F217.l0] at h
 | k+1=>by
  have ih0:=F217.mono_l k
  ·intro y0 y1 y2 y3
   unfold F217.l0
   repeat' first
    | (with_reducible first|exact ih0 _ _ _ _|exact LeO.refl _|exact LeO.none _|refine LeO.ite ?_ ?_|refine LeO.bind ?_ (fun _=>?_))
    | exact ih0 _ _ _ _|exact LeO.none _|refine LeO.ite ?_ ?_|refine LeO.bind ?_ (fun _=>?_)
theorem F217.mono:∀ a0 k,LeO (F217.f k a0) (F217.f (k+1) a0):=by
 intro a0 k
 have ih0:=F217.mono_l k
 unfold F217.f
 repeat' first
  | (with_reducible first|exact ih0 _ _ _ _|exact LeO.refl _|exact LeO.none _|refine LeO.ite ?_ ?_|refine LeO.bind ?_ (fun _=>?_))
  | exact ih0 _ _ _ _|exact LeO.none _|refine LeO.ite ?_ ?_|refine LeO.bind ?_ (fun _=>?_)
set_option maxHeartbeats 8000000 in
set_option maxRecDepth 100000 in
theorem F217.calls (k : Nat) (A0 : Option Addr) (c0 : Nat) (l0 : List Int) (r : Bool) (w : World) (hr0 : Kd.C (Kd.int .i64) w A0 l0.length l0) (hc0 : l0.length ≤ c0) (h : F217.f k l0 = some r) :
  Calls Try.prog 217 #[.slice A0 l0.length c0] w fun e w'=>e=.returned (.bool r)∧Drawn0 w w':=by
 have HR0:=Aside0.mk hr0
 have HC0:=Aside0.mk hc0
 clear hr0 hc0
 have H:(F217.l0 k l0 l0 (l0.length:Int) 0)=some r:=h
 clear h
 have H':=Aside0.mk H
 clear H
 go_enter Try.func217,Try.ntmps217
 go_wp2
 go_loopg [7] k (fun kq v7 w'=>∃ (x7_1:Int),v7=.int .i64 x7_1∧Aside0 (F217.l0 kq l0 l0 (l0.length:Int) x7_1=some r)∧Aside0 (kq≤k)∧Drawn0 w w')
 case atStart=>exact ⟨(0),rs,H',⟨Nat.le_refl _⟩,by repeat (first|exact Drawn0.refl _|apply Drawn0.step)⟩
 case round =>
  clear H'
  obtain ⟨x7_1,rfl,HA,HK1,⟨m1,rfl⟩⟩:=hrel
  cases gk with
  | zero=>exact absurd HA.out (by simp [F217.l0])
  | succ k1 =>
   have H:=HA.out
   clear HA
   simp only [F217.l0] at H
   by_cases c2:x7_1 < (l0.length:Int)
   case neg =>
    rw [if_neg c2] at H
    have c2b0:decide (x7_1 < (l0.length:Int))=false:=decide_eq_false c2
    clear c2
    by_cases c7:(l0.length:Int)≤40
    case neg =>
     rw [if_neg c7] at H
     have c7b0:decide ((l0.length:Int)≤40)=false:=decide_eq_false c7
     have c7b1:decide (l0.length≤40)=false:=decide_eq_false (by omega)
     clear c7
     obtain rfl:=Option.some.inj H
     go_wp2
     go_ret
     exact ⟨by first|rfl|(simp;done)|(simp [*];done),by repeat (first|exact Drawn0.refl _|apply Drawn0.step)⟩
    rw [if_pos c7] at H
    have c7b0:=decide_eq_true c7
    have c7b1:decide (l0.length≤40)=true:=decide_eq_true (by omega)
    clear c7
    by_cases c8:(l0.length:Int)=0
    case neg =>
     rw [if_neg c8] at H
     have c8b0:((l0.length:Int) == 0)=false:=beq_eq_false_iff_ne.mpr c8
     have c8b1:((l0.length:Int) != 0)=true:=bne_iff_ne.mpr c8
     have c8b2:¬ (l0=[]):=fun h_=>c8 (by rw [h_];rfl)
     obtain ⟨ji9,hji9⟩:∃ j_:Int,(wrap64 ((l0.length:Int) - 1))=j_:=⟨_,rfl⟩
     replace H:(if 0≤(ji9) then (if (ji9) < (l0.length:Int) then (some ((rd l0 (ji9)) != 0)) else (none)) else (none))=some r:=by first|(rw [hji9] at H;exact H)|(simp only [hji9] at H ⊢;exact H)
     have hji9w:(IntKind.i64.wrap ((l0.length:Int) - 1))=ji9:=(i64_w _).trans hji9
     replace H:=iS H;obtain ⟨c10,H⟩:=H
     have c10b0:=decide_eq_true c10
     clear c10
     replace H:=iS H;obtain ⟨c11,H⟩:=H
     have c11b0:=decide_eq_true c11
     clear c11
     obtain rfl:=Option.some.inj H
     have p103:0≤((ji9):Int):=oD
     have q103:(ji9) < (l0.length:Int):=oD
     obtain ⟨ad103,e103,hx103_0⟩:=Kd.at_int HR0.out (ji9) p103 q103
     cases e103
     replace p103:=eq_true p103
     replace q103:=eq_true q103
     go_wp2
     go_ret
     exact ⟨by first|rfl|(simp;done)|(simp only [← hji9]<;>(first|rfl|simp))|(simp [*];done),by repeat (first|exact Drawn0.refl _|apply Drawn0.step)⟩
    rw [if_pos c8] at H
    have c8b0:((l0.length:Int) == 0)=true:=beq_iff_eq.mpr c8
    have c8b1:((l0.length:Int) != 0)=false:=bne_eq_false_iff_eq.mpr c8
    clear c8
    obtain rfl:=Option.some.inj H
    go_wp2
    go_ret
    exact ⟨by first|rfl|(simp;done)|(simp [*];done),by repeat (first|exact Drawn0.refl _|apply Drawn0.step)⟩
   rw [if_pos c2] at H
   have c2b0:=decide_eq_true c2
   clear c2
   replace H:=iS H;obtain ⟨c3,H⟩:=H
   have c3b0:=decide_eq_true c3
   clear c3
   replace H:=iS H;obtain ⟨c4,H⟩:=H
   have c4b0:=decide_eq_true c4
   clear c4
   replace H:=Option.bind_eq_some_iff.mp H
   obtain ⟨t102,A50,H⟩:=H
   replace H:(if t102=true then (F217.l0 k1 l0 l0 (l0.length:Int) (wrap64 (x7_1+1))) else (some false))=some r:=H
   have A5:=Aside0.mk A50
   clear A50
   by_cases c6:t102=true
   case neg =>
    replace c6:=Bool.eq_false_iff.mpr c6
    subst c6
    have H1:(some false)=some r:=by rw [if_neg (show ¬ (false=true) by decide)] at H;exact H
    clear H
    have H:=H1
    clear H1
    obtain rfl:=Option.some.inj H
    have p101:0≤(x7_1:Int):=oD
    have q101:x7_1 < (l0.length:Int):=oD
    obtain ⟨ad101,e101,hx101_0⟩:=Kd.at_int HR0.out x7_1 p101 q101
    cases e101
    replace p101:=eq_true p101
    replace q101:=eq_true q101
    go_wp2_with (first|((with_reducible refine gate_callee (f:=218) rfl ?_);refine goesL_ (some 12) rfl rfl Try.func218 (by kernel_rfl) rfl #[.int .i64 (rd l0 x7_1)] rfl gm ?_;(with_reducible refine (F218.calls (rd l0 x7_1) false _ A5.out).mono ?_);rintro e w' ⟨rfl,⟨nd,rfl⟩⟩;refine ⟨_,rfl,?_⟩))
    go_ret
    exact ⟨by first|rfl|(simp;done)|(simp [*];done),by repeat (first|exact Drawn0.refl _|apply Drawn0.step)⟩
   subst c6
   have H1:(F217.l0 k1 l0 l0 (l0.length:Int) (wrap64 (x7_1+1)))=some r:=by rw [if_pos rfl] at H;exact H
   clear H
   have H:=H1
   clear H1
   have H':=Aside0.mk H
   clear H
   have p101:0≤(x7_1:Int):=oD
   have q101:x7_1 < (l0.length:Int):=oD
   obtain ⟨ad101,e101,hx101_0⟩:=Kd.at_int HR0.out x7_1 p101 q101
   cases e101
   replace p101:=eq_true p101
   replace q101:=eq_true q101
   go_wp2_with (first|((with_reducible refine gate_callee (f:=218) rfl ?_);refine goesL_ (some 12) rfl rfl Try.func218 (by kernel_rfl) rfl #[.int .i64 (rd l0 x7_1)] rfl gm ?_;(with_reducible refine (F218.calls (rd l0 x7_1) true _ A5.out).mono ?_);rintro e w' ⟨rfl,⟨nd,rfl⟩⟩;refine ⟨_,rfl,?_⟩))
   first|go_roundg k1|(simp only [← hji9];go_roundg k1)
   case measure=>have:=HK1.out;omega
   case rel=>exact ⟨(wrap64 (x7_1+1)),rs,(by first|exact H'|(rw [hji9];exact H')),⟨by have:=HK1.out;omega⟩,by repeat (first|exact Drawn0.refl _|apply Drawn0.step)⟩
/-! ### F164: function 164 -/
theorem aw_pred (k : Nat) (A : Option Addr) (c : Nat) (l : List Int) (r : Bool) (w : World) (hr : Kd.C (Kd.int .i64) w A l.length l) (hc : l.length ≤ c) (h : F217.f k l = some r) :
  Calls Try.prog 216 #[.slice A l.length c] w fun e w'=>e=.returned (.bool (!r))∧Below w.heap.size w w':=by
 have HW:=fun W (hw:Below w.heap.size w W)=>F217.calls k A c l r W (Kd.C_below hr hw) hc h
 have HW':=Aside0.mk HW
 clear HW hr h
 go_enter Try.func216,Try.ntmps216
 go_wp2_with (go_at_call 217;refine (HW'.out _ (by repeat (first|exact Below.refl _ _|apply below_alloc|apply pw_below_drewN|apply below_drew1))).mono ?_;rintro e w_ ⟨rfl,⟨nd_,rfl⟩⟩)
 go_ret
 exact ⟨by first|rfl|(simp;done),(by repeat (first|exact Below.refl _ _|apply below_alloc|apply pw_below_drewN|apply below_drew1))⟩
theorem aw_idx (p : List Int → Option Bool) (A : Option Addr) (c : Nat) (l : List (List Int)) (R : Int) (w : World) (hr : Kd.C (Kd.slice 2 (Kd.int .i64)) w A l.length l)
 (hp:∀ (A':Option Addr) (c':Nat) (x:List Int) (b:Bool) w1,Below w.heap.size w w1→Kd.C (Kd.int .i64) w1 A' x.length x→x.length≤c'→p x=some b→Calls Try.prog 216 #[.slice A' x.length c'] w1 fun e w'=>e=.returned (.bool b)∧Below w1.heap.size w1 w') (h:idxM p l 0=some R) :
 Calls Try.prog 220 #[.slice A l.length c,.func (.func 216) #[] #[]] w fun e w'=>e=.returned (.int .i64 R)∧Below w.heap.size w w':=by
 have HR:=Aside0.mk hr
 have HP:=Aside0.mk hp
 have H':=Aside0.mk h
 have hlen:l.length≤9223372036854775807:=hr.2.1
 clear hr hp h
 go_enter Try.func220,Try.ntmps220
 go_wp2_with fail
 go_loopw [8] (fun i wr=>∃ k:Nat,k≤l.length∧i=.int .i64 k∧Aside0 (idxM p (l.drop k) k=some R)∧Aside0 (Below w.heap.size w wr)) (fun i _=>l.length - (intOf i).toNat)
 case atStart=>exact ⟨0,Nat.zero_le _,rfl,⟨by simpa using H'.out⟩,⟨Below.refl _ _⟩⟩
 case round =>
  clear H'
  obtain ⟨k,hk,rfl,HI,HB⟩:=hrel
  by_cases hlt:k < l.length
  case neg =>
   have hI:=HI.out
   rw [List.drop_of_length_le (by omega)] at hI
   simp only [idxM,Option.some.injEq] at hI
   subst hI
   have hb:decide (k < l.length)=false:=by simp;omega
   go_wp2
   go_ret
   exact ⟨rfl,HB.out⟩
  have hI:=HI.out
  rw [List.drop_eq_getElem_cons hlt] at hI
  simp only [idxM] at hI
  obtain ⟨b,hb,hI⟩:=Option.bind_eq_some_iff.mp hI
  obtain ⟨ad,A',c',e,hcell,hlc,hC⟩:=at_L1 (Kd.C_below HR.out HB.out) (k:Int) (by omega) (by omega)
  cases e
  rw [Int.toNat_natCast] at hcell
  have hx:rd_L1 l (k:Int)=l[k]:=by simp [rd_L1,List.getD_eq_getElem?_getD,hlt]
  rw [hx] at hcell hlc hC
  have HCX:=Aside0.mk hC
  have HLX:=Aside0.mk hlc
  have HBX:=Aside0.mk hb
  clear hC hlc hb hx
  cases b with
  | true =>
   simp only [if_true,Option.some.injEq] at hI
   subst hI
   go_wp2_with (go_at_call 216;refine (HP.out _ _ _ true _ HB.out HCX.out HLX.out HBX.out).mono ?_;rintro e w' ⟨rfl,hb_⟩;have HB2:=Aside0.mk (below_step HB.out hb_);clear hb_)
   go_ret
   exact ⟨rfl,HB2.out⟩
  | false =>
   simp only [Bool.false_eq_true,if_false] at hI
   have HD:=Aside0.mk hI
   clear hI
   go_wp2_with (go_at_call 216;refine (HP.out _ _ _ false _ HB.out HCX.out HLX.out HBX.out).mono ?_;rintro e w' ⟨rfl,hb_⟩;have HB2:=Aside0.mk (below_step HB.out hb_);clear hb_)
   go_roundw
   case rel=>exact ⟨k+1,by omega,by go_num,HD,HB2⟩
   case measure=>simp [intOf];omega
def F164.f (k:Nat) (l0:List (List Int)):Option Bool:=(idxM (fun x=>(F217.f k x).map not) l0 0).bind fun i=>some (!(decide (0≤i)))
theorem F164.mono:∀ a0 k,LeO (F164.f k a0) (F164.f (k+1) a0):=by
 intro a0 k r h
 unfold F164.f at h ⊢
 obtain ⟨i,hi,h⟩:=Option.bind_eq_some_iff.mp h
 have e:=idxM_mono (p:=fun x=>(F217.f k x).map not) (q:=fun x=>(F217.f (k+1) x).map not) (fun x r hx=>by
  obtain ⟨b,hb,rfl⟩:=Option.map_eq_some_iff.1 hx
  rw [F217.mono _ _ _ hb];rfl) a0 0 i hi
 rw [e]
 exact h
set_option maxHeartbeats 8000000 in
set_option maxRecDepth 100000 in
theorem F164.calls (k : Nat) (A0 : Option Addr) (c0 : Nat) (l0 : List (List Int)) (r : Bool) (w : World) (hr0 : Kd.C (Kd.slice 2 (Kd.int .i64)) w A0 l0.length l0) (hc0 : l0.length ≤ c0) (h : F164.f k l0 = some r) :
  Calls Try.prog 164 #[.slice A0 l0.length c0] w fun e w'=>e=.returned (.bool r)∧Below w.heap.size w w':=by
 unfold F164.f at h
 obtain ⟨i,hi,h⟩:=Option.bind_eq_some_iff.mp h
 obtain rfl:=Option.some.inj h
 have HC:=fun W (hw:Below w.heap.size w W)=>aw_idx (fun x=>(F217.f k x).map not) A0 c0 l0 i W (Kd.C_below hr0 hw) (fun A' c' x b w1 hw1 hC hc hx=>by
  obtain ⟨b',hb',rfl⟩:=Option.map_eq_some_iff.1 hx
  exact aw_pred k A' c' x b' w1 hC hc hb') hi
 have HC':=Aside0.mk HC
 have HD:∀ W,Below w.heap.size w W→Calls Try.prog 180 #[.slice A0 l0.length c0,.func (.func 216) #[] #[]] W fun e w'=>e=.returned (.bool (decide (0≤i)))∧Below W.heap.size W w':=by
  intro W hw
  have HCW:=Aside0.mk (HC'.out W hw)
  clear HC HC' hr0 hi h hw
  go_enter Try.func180,Try.ntmps180
  go_wp2_with (go_at_call 220;refine HCW.out.mono ?_;rintro e w' ⟨rfl,hb_⟩;have HB2:=Aside0.mk hb_;clear hb_)
  go_ret
  exact ⟨by first|rfl|(simp;done),HB2.out⟩
 have HD':=Aside0.mk HD
 clear HC HC' HD hr0 hi h
 go_enter Try.func164,Try.ntmps164
 go_wp2_with (go_at_call 180;refine (HD'.out _ (by repeat (first|exact Below.refl _ _|apply below_alloc|apply pw_below_drewN|apply below_drew1))).mono ?_;rintro e w2 ⟨rfl,hb_⟩;have HB2:=Aside0.mk (below_step (by repeat (first|exact Below.refl _ _|apply below_alloc|apply pw_below_drewN|apply below_drew1)) hb_:Below w.heap.size w w2);clear hb_)
 go_ret
 exact ⟨by first|rfl|(simp;done),(by repeat (first|exact HB2.out|apply below_alloc|apply pw_below_drewN|apply below_drew1))⟩
/-! ### F165: function 165 -/
def F165.f (a0:Int):Option (Int):=some (mx a0 (wrap64 (-a0)))
set_option maxHeartbeats 8000000 in
set_option maxRecDepth 100000 in
theorem F165.calls (a0 : Int) (r : Int) (w : World) (h : F165.f a0 = some r) :
  Calls Try.prog 165 #[.int .i64 a0] w fun e w'=>e=.returned (.int .i64 r)∧Below w.heap.size w w':=by
 have HB:=Aside0.mk (Below.refl w.heap.size w)
 have H:(some (mx a0 (wrap64 (-a0))))=some r:=h
 clear h
 obtain ⟨ji2,hji2⟩:∃ j_:Int,(mx a0 (wrap64 (-a0)))=j_:=⟨_,rfl⟩
 replace H:(some ji2)=some r:=by first|(rw [hji2] at H;exact H)|(simp only [hji2] at H ⊢;exact H)
 have hji2_:(if a0 < (wrap64 (-a0)) then (wrap64 (-a0)) else a0)=ji2:=hji2
 obtain rfl:=Option.some.inj H
 go_enter Try.func165,Try.ntmps165
 go_wp2
 go_ret
 exact ⟨by first|rfl|(simp [errW_none,errW_some]<;>rfl)|(simp only [← hji2];first|rfl|(simp [errW_none,errW_some]<;>rfl))|(simp [*,errW_none,errW_some]<;>rfl),bl⟩
/-! ### F166: function 166 -/
def F166.f (l0:List Int) (a1:Int):Option (Int):=if a1 < (l0.length:Int) then (if 0≤a1 then (some (rd l0 a1)) else (none)) else (some 0)
set_option maxHeartbeats 8000000 in
set_option maxRecDepth 100000 in
theorem F166.calls (A0 : Option Addr) (c0 : Nat) (l0 : List Int) (a1 : Int) (r : Int) (w : World) (hr0 : Kd.C (Kd.int .i64) w A0 l0.length l0) (hc0 : l0.length ≤ c0) (h : F166.f l0 a1 = some r) :
  Calls Try.prog 166 #[.slice A0 l0.length c0,.int .i64 a1] w fun e w'=>e=.returned (.int .i64 r)∧Drawn0 w w':=by
 have HR0:=Aside0.mk hr0
 have HC0:=Aside0.mk hc0
 clear hr0 hc0
 have H:(if a1 < (l0.length:Int) then (if 0≤a1 then (some (rd l0 a1)) else (none)) else (some 0))=some r:=h
 clear h
 by_cases c3:a1 < (l0.length:Int)
 case neg =>
  rw [if_neg c3] at H
  have c3b0:decide (a1 < (l0.length:Int))=false:=decide_eq_false c3
  clear c3
  obtain rfl:=Option.some.inj H
  go_enter Try.func166,Try.ntmps166
  go_wp2
  go_ret
  exact ⟨by first|rfl|(simp;done)|(simp [*];done),by repeat (first|exact Drawn0.refl _|apply Drawn0.step)⟩
 rw [if_pos c3] at H
 have c3b0:=decide_eq_true c3
 clear c3
 replace H:=iS H;obtain ⟨c4,H⟩:=H
 have c4b0:=decide_eq_true c4
 clear c4
 obtain rfl:=Option.some.inj H
 have p101:0≤(a1:Int):=oD
 have q101:a1 < (l0.length:Int):=oD
 obtain ⟨ad101,e101,hx101_0⟩:=Kd.at_int HR0.out a1 p101 q101
 cases e101
 replace p101:=eq_true p101
 replace q101:=eq_true q101
 go_enter Try.func166,Try.ntmps166
 go_wp2
 go_ret
 exact ⟨by first|rfl|(simp;done)|(simp [*];done),by repeat (first|exact Drawn0.refl _|apply Drawn0.step)⟩
/-! ### F167: function 167 -/
def F167.j0 : Nat → Int → Int → Int → Bool → Option (Int × Bool)
 | 0,_,_,_,_=>none
 | k+1,x0,x1,x2,x13=>if x13=true then (some (x0,true)) else ((F165.f x1).bind fun t101=>((F165.f x2).bind fun t102=>(if t102=0 then (none) else (if t101 > (wrap64 ((1000000000000000:Int) / t102)) then (some (0,false)) else ((F218.f (wrap64 (x0+(wrap64 (x1 * x2))))).bind fun t103=>(some (wrap64 (x0+(wrap64 (x1 * x2))),t103)))))))
def F167.f (k:Nat) (a0:Int) (a1:Int) (a2:Int):Option (Int × Bool):=if a1=0 then (F167.j0 k a0 a1 a2 true) else (F167.j0 k a0 a1 a2 (a2 == 0))
theorem F167.mono_l : ∀ k, (∀ y0 y1 y2 y3, LeO (F167.j0 k y0 y1 y2 y3) (F167.j0 (k + 1) y0 y1 y2 y3))
 | 0=>fun _ _ _ _ r h=>by simp [F167.j0] at h
 | k+1=>by
  have ih0:=F167.mono_l k
  ·intro y0 y1 y2 y3
   unfold F167.j0
   repeat' first
    | (with_reducible first|exact ih0 _ _ _ _|exact LeO.refl _|exact LeO.none _|refine LeO.ite ?_ ?_|refine LeO.bind ?_ (fun _=>?_))
    | exact ih0 _ _ _ _|exact LeO.none _|refine LeO.ite ?_ ?_|refine LeO.bind ?_ (fun _=>?_)
theorem F167.mono:∀ a0 a1 a2 k,LeO (F167.f k a0 a1 a2) (F167.f (k+1) a0 a1 a2):=by
 intro a0 a1 a2 k
 have ih0:=F167.mono_l k
 unfold F167.f
 repeat' first
  | (with_reducible first|exact ih0 _ _ _ _|exact LeO.refl _|exact LeO.none _|refine LeO.ite ?_ ?_|refine LeO.bind ?_ (fun _=>?_))
  | exact ih0 _ _ _ _|exact LeO.none _|refine LeO.ite ?_ ?_|refine LeO.bind ?_ (fun _=>?_)
set_option maxHeartbeats 8000000 in
set_option maxRecDepth 100000 in
theorem F167.calls (k : Nat) (a0 : Int) (a1 : Int) (a2 : Int) (r1 : Int) (r2 : Bool) (w : World) (h : F167.f k a0 a1 a2 = some (r1, r2)) :
  Calls Try.prog 167 #[.int .i64 a0,.int .i64 a1,.int .i64 a2] w fun e w'=>e=.returned (.tuple #[.int .i64 r1,.bool r2])∧Below w.heap.size w w':=by
 have HB:=Aside0.mk (Below.refl w.heap.size w)
 have H:(if a1=0 then (F167.j0 k a0 a1 a2 true) else (F167.j0 k a0 a1 a2 (a2 == 0)))=some (r1,r2):=h
 clear h
 have HC4:=Aside0.mk H
 clear H
 go_enter Try.func167,Try.ntmps167
 go_upto_region 1 with (fail)
 go_cut [13] (fun v13 wc=>∃ (kq:Nat) (x13_3:Bool),v13=.bool x13_3∧Aside0 (F167.j0 kq a0 a1 a2 x13_3=some (r1,r2))∧Aside0 (kq≤k)∧Aside0 (Below w.heap.size w wc))
 case first =>
  have H:=HC4.out
  clear HC4
  by_cases c5:a1=0
  case neg =>
   rw [if_neg c5] at H
   have c5b0:(a1 == 0)=false:=beq_eq_false_iff_ne.mpr c5
   have c5b1:(a1 != 0)=true:=bne_iff_ne.mpr c5
   (first|rw [c5b0]|(simp only [i64_w,i32_w];rw [c5b0])|skip)
   have H':=Aside0.mk H
   clear H
   go_wp2
   go_meet
   case rel=>exact ⟨_,((a2 == 0)),rs,H',⟨by first|omega|exact Nat.le_refl _⟩,⟨bl⟩⟩
  rw [if_pos c5] at H
  have c5b0:(a1 == 0)=true:=beq_iff_eq.mpr c5
  have c5b1:(a1 != 0)=false:=bne_eq_false_iff_eq.mpr c5
  clear c5
  (first|rw [c5b0]|(simp only [i64_w,i32_w];rw [c5b0])|skip)
  have H':=Aside0.mk H
  clear H
  go_wp2
  go_meet
  case rel=>exact ⟨_,(true),rs,H',⟨by first|omega|exact Nat.le_refl _⟩,⟨bl⟩⟩
 case rest =>
  clear HC4
  (try clear c1);(try clear p2);(try clear c5);(try clear c5b0);(try clear c5b1)
  obtain ⟨kq,x13_3,rfl,HA,HJ3,HB⟩:=hcut
  cases kq with
  | zero=>exact absurd HA.out (by simp [F167.j0])
  | succ kj3 =>
   have H:=HA.out
   clear HA
   simp only [F167.j0] at H
   by_cases c6:x13_3=true
   case neg =>
    replace c6:=Bool.eq_false_iff.mpr c6
    subst c6
    have H1:((F165.f a1).bind fun t101=>((F165.f a2).bind fun t102=>(if t102=0 then (none) else (if t101 > (wrap64 ((1000000000000000:Int) / t102)) then (some (0,false)) else ((F218.f (wrap64 (a0+(wrap64 (a1 * a2))))).bind fun t103=>(some (wrap64 (a0+(wrap64 (a1 * a2))),t103)))))))=some (r1,r2):=by rw [if_neg (show ¬ (false=true) by decide)] at H;exact H
    clear H
    have H:=H1
    clear H1
    replace H:=Option.bind_eq_some_iff.mp H
    obtain ⟨t101,A70,H⟩:=H
    replace H:((F165.f a2).bind fun t102=>(if t102=0 then (none) else (if t101 > (wrap64 ((1000000000000000:Int) / t102)) then (some (0,false)) else ((F218.f (wrap64 (a0+(wrap64 (a1 * a2))))).bind fun t103=>(some (wrap64 (a0+(wrap64 (a1 * a2))),t103))))))=some (r1,r2):=H
    have A7:=Aside0.mk A70
    clear A70
    replace H:=Option.bind_eq_some_iff.mp H
    obtain ⟨t102,A80,H⟩:=H
    replace H:(if t102=0 then (none) else (if t101 > (wrap64 ((1000000000000000:Int) / t102)) then (some (0,false)) else ((F218.f (wrap64 (a0+(wrap64 (a1 * a2))))).bind fun t103=>(some (wrap64 (a0+(wrap64 (a1 * a2))),t103)))))=some (r1,r2):=H
    have A8:=Aside0.mk A80
    clear A80
    by_cases c9:t102=0
    case neg =>
     rw [if_neg c9] at H
     have c9b0:(t102 == 0)=false:=beq_eq_false_iff_ne.mpr c9
     have c9b1:(t102 != 0)=true:=bne_iff_ne.mpr c9
     by_cases c10:t101 > (wrap64 ((1000000000000000:Int) / t102))
     case neg =>
      rw [if_neg c10] at H
      have c10b0:decide ((wrap64 ((1000000000000000:Int) / t102)) < t101)=false:=decide_eq_false c10
      have c10b0t:decide ((wrap64 (Int.tdiv 1000000000000000 t102)) < t101)=false:=by rw [Int.tdiv_eq_ediv_of_nonneg (by decide)];exact c10b0
      clear c10
      replace H:=Option.bind_eq_some_iff.mp H
      obtain ⟨t103,A130,H⟩:=H
      replace H:(some (wrap64 (a0+(wrap64 (a1 * a2))),t103))=some (r1,r2):=H
      have A13:=Aside0.mk A130
      clear A130
      simp only [Option.some.injEq,Prod.mk.injEq] at H
      obtain ⟨rfl,rfl⟩:=H
      go_wp2_with (first|((with_reducible refine gate_callee (f:=165) rfl ?_);refine goesL_ (some 16) rfl rfl Try.func165 (by kernel_rfl) rfl #[.int .i64 a1] rfl gm ?_;(with_reducible refine (F165.calls a1 t101 _ A7.out).mono ?_);rintro e w14 ⟨rfl,hb⟩;refine ⟨_,rfl,?_⟩;replace HB:=Aside0.mk (below_step bl hb);(try clear hb);(try clear hb2);(try clear hk);(try clear hi))|((with_reducible refine gate_callee (f:=165) rfl ?_);refine goesL_ (some 18) rfl rfl Try.func165 (by kernel_rfl) rfl #[.int .i64 a2] rfl gm ?_;(with_reducible refine (F165.calls a2 t102 _ A8.out).mono ?_);rintro e w15 ⟨rfl,hb⟩;refine ⟨_,rfl,?_⟩;replace HB:=Aside0.mk (below_step bl hb);(try clear hb);(try clear hb2);(try clear hk);(try clear hi))|((with_reducible refine gate_callee (f:=218) rfl ?_);refine goesL_ (some 28) rfl rfl Try.func218 (by kernel_rfl) rfl #[.int .i64 (wrap64 (a0+(wrap64 (a1 * a2))))] rfl gm ?_;(with_reducible refine (F218.calls (wrap64 (a0+(wrap64 (a1 * a2)))) t103 _ A13.out).mono ?_);rintro e w' ⟨rfl,⟨nd,rfl⟩⟩;refine ⟨_,rfl,?_⟩))
      go_ret2
      exact ⟨by first|rfl|(simp [errW_none,errW_some]<;>rfl)|(simp [*,errW_none,errW_some]<;>rfl),bl⟩
     rw [if_pos c10] at H
     have c10b0:=decide_eq_true c10
     have c10b0t:decide ((wrap64 (Int.tdiv 1000000000000000 t102)) < t101)=true:=by rw [Int.tdiv_eq_ediv_of_nonneg (by decide)];exact c10b0
     clear c10
     simp only [Option.some.injEq,Prod.mk.injEq] at H
     obtain ⟨rfl,rfl⟩:=H
     go_wp2_with (first|((with_reducible refine gate_callee (f:=165) rfl ?_);refine goesL_ (some 16) rfl rfl Try.func165 (by kernel_rfl) rfl #[.int .i64 a1] rfl gm ?_;(with_reducible refine (F165.calls a1 t101 _ A7.out).mono ?_);rintro e w11 ⟨rfl,hb⟩;refine ⟨_,rfl,?_⟩;replace HB:=Aside0.mk (below_step bl hb);(try clear hb);(try clear hb2);(try clear hk);(try clear hi))|((with_reducible refine gate_callee (f:=165) rfl ?_);refine goesL_ (some 18) rfl rfl Try.func165 (by kernel_rfl) rfl #[.int .i64 a2] rfl gm ?_;(with_reducible refine (F165.calls a2 t102 _ A8.out).mono ?_);rintro e w12 ⟨rfl,hb⟩;refine ⟨_,rfl,?_⟩;replace HB:=Aside0.mk (below_step bl hb);(try clear hb);(try clear hb2);(try clear hk);(try clear hi)))
     go_ret2
     exact ⟨by first|rfl|(simp [errW_none,errW_some]<;>rfl)|(simp [*,errW_none,errW_some]<;>rfl),bl⟩
    rw [if_pos c9] at H
    exact absurd H (by simp)
   subst c6
   have H1:(some (a0,true))=some (r1,r2):=by rw [if_pos rfl] at H;exact H
   clear H
   have H:=H1
   clear H1
   simp only [Option.some.injEq,Prod.mk.injEq] at H
   obtain ⟨rfl,rfl⟩:=H
   go_wp2
   go_ret2
   exact ⟨by first|rfl|(simp [errW_none,errW_some]<;>rfl)|(simp [*,errW_none,errW_some]<;>rfl),bl⟩
/-! ### F151: function 151 -/
theorem clone_nil (w:World) (a:Option Addr) (n c:Nat):(binOp .eql 28 (.slice a n c) (.slice none 0 0)).run Try.prog w=.ok (.bool a.isNone) w:=Lib.run_eql_slice_nil w _ _ a n c 0 0 Try.underlying28
def F151.f (l0:List Int):Option (List Int):=if l0.length < 17592186044416 then some l0 else none
set_option maxHeartbeats 8000000 in
set_option maxRecDepth 100000 in
theorem F151.calls (A0 : Option Addr) (c0 : Nat) (l0 : List Int) (r : List Int) (w : World) (hr0 : Kd.C (Kd.int .i64) w A0 l0.length l0) (hc0 : l0.length ≤ c0) (h : F151.f l0 = some r) :
  Calls Try.prog 151 #[.slice A0 l0.length c0] w fun e w'=>∃ v0_:Value,e=.returned (v0_)∧Kd.R (Kd.int .i64) 2 w' w.heap.size (fun _=>True) v0_ r∧Below w.heap.size w w':=by
 have HR0:=Aside0.mk hr0
 have HC0:=Aside0.mk hc0
 clear hr0 hc0
 unfold F151.f at h
 by_cases c2:l0.length < 17592186044416
 case neg =>
  rw [if_neg c2] at h
  exact absurd h (by simp)
 rw [if_pos c2] at h
 obtain rfl:=Option.some.inj h
 clear h
 cases A0 with
 | none =>
  have hn:l0=[]:=by
   by_cases hz:l0.length=0
   case neg =>
    obtain ⟨ad,e,_⟩:=Kd.at_int HR0.out 0 (by omega) (by omega)
    cases e
   exact List.eq_nil_of_length_eq_zero hz
  subst hn
  have q_:=clone_nil
  go_enter Try.func151,Try.ntmps151
  go_wp2
  go_ret
  exact ⟨_,rfl,Kd.R_nil _ _ _ _ _,Below.refl _ _⟩
 | some ad =>
  have HB:=Aside0.mk (Below.refl w.heap.size w)
  have LMc2:=Aside0.mk c2
  clear c2
  have q_:=clone_nil
  go_enter Try.func151,Try.ntmps151
  go_wp2_with (first|((with_reducible refine gate_dst (N:=5) rfl ?_);refine Kd.R_lit (Kd.int .i64) _ 2 ?hg (N:=5) ?hd (xs:=([]:List Int)) (inner:=[]) (ok:=fun _=>True) (okp:=fun _=>True) ?hr ?hp (fun _ hk=>hk) trivial (Below.refl _ _) (Nat.le_refl _) (by simp) ?_;(case hd=>rfl);(case hg=>rfl);(case hr=>first|(go_simp;done)|(go_simp;rfl));(case hp=>exact (Reps.none _ _));intro v102 w3 ho4 hb hg_ hnew_;clear hg_ hnew_;have HO103:=Aside0.mk (Kd.R_lower ho4 (below_size bl));replace HB:=Aside0.mk (below_step bl hb);clear hb ho4)|((with_reducible refine gate_builtin (b:=.append) (xs:=#[.tmp 5,.tmp 6]) rfl ?_);at_builtin;refine Kd.R_append_rows (Kd.int .i64) (w0:=w) w.heap.size rfl (.tmp 5) (.tmp 6) 28 2 (.int .i64 0) 8 rfl Try.underlying28 info2 rfl (by decide) (by omega) v102 ([]:List Int) l0 _ _ _ (fun _=>True) (fun _=>False) rfl rfl ?aO ?aR (fun _ _ h=>h) (fun _ h=>h.elim) ?aF ?aB ?aS ?aL ?_;(case aR=>repeat (first|exact (Kd.C_below HR0.out HB.out)|(with_reducible refine Kd.C_alloc ?_ _)|(with_reducible refine Kd.C_drewN ?_ _)|(with_reducible refine Kd.C_drew ?_)));(case aB=>exact bl);(case aF=>exact (fun _ _=>trivial));(case aO=>exact (aR HO103.out));(case aS=>exact (below_size bl));(case aL=>have:=LMc2.out;simp;omega);intro v105 w5 ho hb hg hat;rw [List.nil_append] at ho;have n0_:=Aside0.mk (hb);have n1_:=Aside0.mk (ho);clear HB;clear HO103;have HB:=n0_;have HO106:=n1_;clear n0_ n1_;clear ho hb hg hat))
  go_ret
  exact ⟨_,by first|rfl|(simp;done),by (with_reducible repeat (first|apply Kd.R_alloc|apply Kd.R_drewN|apply Kd.R_drew));exact HO106.out,bl⟩
/-! ### F168: function 168 -/
def F168.l0 : Nat → List Int → Option (List Int)
 | 0,_=>none
 | k+1,x0=>if (x0.length:Int) > 0 then (if 0≤(wrap64 ((x0.length:Int) - 1)) then (if (wrap64 ((x0.length:Int) - 1)) < (x0.length:Int) then (if (rd x0 (wrap64 ((x0.length:Int) - 1)))=0 then (if (wrap64 ((x0.length:Int) - 1))≤(x0.length:Int) then (F168.l0 k (x0.take ((wrap64 ((x0.length:Int) - 1)):Int).toNat)) else (none)) else ((F151.f x0).bind fun t107=>(some t107))) else (none)) else (none)) else ((F151.f x0).bind fun t110=>(some t110))
def F168.f (k:Nat) (l0:List Int):Option (List Int):=F168.l0 k l0
theorem F168.mono_l : ∀ k, (∀ y0, LeO (F168.l0 k y0) (F168.l0 (k + 1) y0))
 | 0=>fun _ r h=>by simp [F168.l0] at h
 | k+1=>by
  have ih0:=F168.mono_l k
  ·intro y0
   unfold F168.l0
   repeat' first
    | (with_reducible first|exact ih0 _|exact LeO.refl _|exact LeO.none _|refine LeO.ite ?_ ?_|refine LeO.bind ?_ (fun _=>?_))
    | exact ih0 _|exact LeO.none _|refine LeO.ite ?_ ?_|refine LeO.bind ?_ (fun _=>?_)
theorem F168.mono:∀ a0 k,LeO (F168.f k a0) (F168.f (k+1) a0):=by
 intro a0 k
 have ih0:=F168.mono_l k
 unfold F168.f
 repeat' first
  | (with_reducible first|exact ih0 _|exact LeO.refl _|exact LeO.none _|refine LeO.ite ?_ ?_|refine LeO.bind ?_ (fun _=>?_))
  | exact ih0 _|exact LeO.none _|refine LeO.ite ?_ ?_|refine LeO.bind ?_ (fun _=>?_)
set_option maxHeartbeats 8000000 in
set_option maxRecDepth 100000 in
theorem F168.calls (k : Nat) (P0_ : Nat → Prop) (A0 : Option Addr) (c0 : Nat) (l0 : List Int) (r : List Int) (w : World) (hs0 : Kd.V (Kd.int .i64) 2 w w.heap.size (fun k_ => P0_ k_) (.slice A0 l0.length c0) l0) (h : F168.f k l0 = some r) :
  Calls Try.prog 168 #[.slice A0 l0.length c0] w fun e w'=>∃ v0_:Value,e=.returned (v0_)∧Kd.R (Kd.int .i64) 2 w' w.heap.size (fun k_=>(w.heap.size≤k_)) v0_ r∧Below w.heap.size w w':=by
 have HO0:=Aside0.mk (show Kd.V (Kd.int .i64) 2 w w.heap.size (fun k_=>(P0_ k_∨w.heap.size≤k_)) (.slice A0 l0.length c0) l0 from Kd.V_mono hs0 (fun k_ hk=>.inl hk))
 have HB:=Aside0.mk (Below.refl w.heap.size w)
 have H:(F168.l0 k l0)=some r:=h
 clear h
 have H':=Aside0.mk H
 clear H
 go_enter Try.func168,Try.ntmps168
 go_wp2
 go_loopg [0] k (fun kq v0 w'=>∃ (x0_1:List Int),Aside0 (F168.l0 kq x0_1=some r)∧Aside0 (kq≤k)∧Aside0 (Kd.V (Kd.int .i64) 2 w' w.heap.size (fun k_=>(P0_ k_∨w.heap.size≤k_)) v0 x0_1)∧Aside0 (Below w.heap.size w w'))
 case atStart=>exact ⟨(l0),H',⟨Nat.le_refl _⟩,⟨by (with_reducible repeat (first|apply Kd.V_alloc|apply Kd.V_drewN|apply Kd.V_drew));exact HO0.out⟩,⟨bl⟩⟩
 case round =>
  clear H'
  (try clear c1)
  obtain ⟨x0_1,HA,HK1,HO_0,HB⟩:=hrel
  cases gk with
  | zero=>exact absurd HA.out (by simp [F168.l0])
  | succ k1 =>
   have H:=HA.out
   clear HA
   simp only [F168.l0] at H
   by_cases c2:(x0_1.length:Int) > 0
   case neg =>
    rw [if_neg c2] at H
    have c2b0:decide (0 < (x0_1.length:Int))=false:=decide_eq_false c2
    have c2b1:decide (0 < x0_1.length)=false:=decide_eq_false (by omega)
    clear c2
    replace H:=Option.bind_eq_some_iff.mp H
    obtain ⟨t110,A140,H⟩:=H
    replace H:(some t110)=some r:=H
    have A14:=Aside0.mk A140
    clear A140
    obtain rfl:=Option.some.inj H
    obtain ⟨Ao15,co15,eo15⟩:=Kd.V_slice HO_0.out
    subst eo15
    go_wp2_with (first|((with_reducible refine gate_callee (f:=151) rfl ?_);refine goesL_ (some 21) rfl rfl Try.func151 (by kernel_rfl) rfl #[.slice Ao15 x0_1.length co15] rfl gm ?_;(with_reducible refine (F151.calls _ _ x0_1 t110 _ ?side1 ?side2 A14.out).mono ?_);(case side1=>exact aC ((Kd.V_reads' HO_0.out).2.2));(case side2=>exact (Kd.V_reads' HO_0.out).2.1);rintro e w16 ⟨v111,rfl,ho0,hb⟩;refine ⟨_,rfl,?_⟩;replace HO_0:=Aside0.mk (Kd.V_elder' (aV HO_0.out) (Kd.R_base ho0) hb);have HO112:=Aside0.mk (Kd.R_lower (Kd.R_newM (M:=fun k_=>(w.heap.size≤k_)) ho0 (below_size bl) (fun k_ h_=>h_)) (below_size bl));replace HB:=Aside0.mk (below_step bl hb);(try clear hb);(try clear hb2);(try clear hk);(try clear hi);(try clear ho0)))
    go_ret
    exact ⟨_,by first|rfl|(simp [errW_none,errW_some]<;>rfl)|(simp [*,errW_none,errW_some]<;>rfl),by (with_reducible repeat (first|apply Kd.R_alloc|apply Kd.R_drewN|apply Kd.R_drew));exact Kd.R_mono HO112.out (fun _ hk=>hk.1),bl⟩
   rw [if_pos c2] at H
   have c2b0:=decide_eq_true c2
   have c2b1:decide (0 < x0_1.length)=true:=decide_eq_true (by omega)
   clear c2
   obtain ⟨ji3,hji3⟩:∃ j_:Int,(wrap64 ((x0_1.length:Int) - 1))=j_:=⟨_,rfl⟩
   replace H:(if 0≤(ji3) then (if (ji3) < (x0_1.length:Int) then (if (rd x0_1 (ji3))=0 then (if (ji3)≤(x0_1.length:Int) then (F168.l0 k1 (x0_1.take ((ji3):Int).toNat)) else (none)) else ((F151.f x0_1).bind fun t107=>(some t107))) else (none)) else (none))=some r:=by first|(rw [hji3] at H;exact H)|(simp only [hji3] at H ⊢;exact H)
   have hji3w:(IntKind.i64.wrap ((x0_1.length:Int) - 1))=ji3:=(i64_w _).trans hji3
   replace H:=iS H;obtain ⟨c4,H⟩:=H
   have c4b0:=decide_eq_true c4
   clear c4
   replace H:=iS H;obtain ⟨c5,H⟩:=H
   have c5b0:=decide_eq_true c5
   clear c5
   by_cases c6:(rd x0_1 (ji3))=0
   case neg =>
    rw [if_neg c6] at H
    have c6b0:((rd x0_1 (ji3)) == 0)=false:=beq_eq_false_iff_ne.mpr c6
    have c6b1:((rd x0_1 (ji3)) != 0)=true:=bne_iff_ne.mpr c6
    replace H:=Option.bind_eq_some_iff.mp H
    obtain ⟨t107,A110,H⟩:=H
    replace H:(some t107)=some r:=H
    have A11:=Aside0.mk A110
    clear A110
    obtain rfl:=Option.some.inj H
    obtain ⟨Ao12,co12,eo12⟩:=Kd.V_slice HO_0.out
    subst eo12
    have p101:0≤((ji3):Int):=oD
    have q101:(ji3) < (x0_1.length:Int):=oD
    obtain ⟨ad101,e101,hx101_0⟩:=Kd.at_int (Kd.V_reads' HO_0.out).2.2 (ji3) p101 q101
    cases e101
    replace p101:=eq_true p101
    replace q101:=eq_true q101
    go_wp2_with (first|((with_reducible refine gate_callee (f:=151) rfl ?_);refine goesL_ (some 21) rfl rfl Try.func151 (by kernel_rfl) rfl #[.slice (some ad101) x0_1.length co12] rfl gm ?_;(with_reducible refine (F151.calls _ _ x0_1 t107 _ ?side1 ?side2 A11.out).mono ?_);(case side1=>exact aC ((Kd.V_reads' HO_0.out).2.2));(case side2=>exact (Kd.V_reads' HO_0.out).2.1);rintro e w13 ⟨v108,rfl,ho0,hb⟩;refine ⟨_,rfl,?_⟩;replace HO_0:=Aside0.mk (Kd.V_elder' (aV HO_0.out) (Kd.R_base ho0) hb);have HO109:=Aside0.mk (Kd.R_lower (Kd.R_newM (M:=fun k_=>(w.heap.size≤k_)) ho0 (below_size bl) (fun k_ h_=>h_)) (below_size bl));replace HB:=Aside0.mk (below_step bl hb);(try clear hb);(try clear hb2);(try clear hk);(try clear hi);(try clear ho0)))
    go_ret
    exact ⟨_,by first|rfl|(simp [errW_none,errW_some]<;>rfl)|(simp only [← hji3];first|rfl|(simp [errW_none,errW_some]<;>rfl))|(simp [*,errW_none,errW_some]<;>rfl),by (with_reducible repeat (first|apply Kd.R_alloc|apply Kd.R_drewN|apply Kd.R_drew));exact Kd.R_mono HO109.out (fun _ hk=>hk.1),bl⟩
   rw [if_pos c6] at H
   have c6b0:((rd x0_1 (ji3)) == 0)=true:=beq_iff_eq.mpr c6
   have c6b1:((rd x0_1 (ji3)) != 0)=false:=bne_eq_false_iff_eq.mpr c6
   clear c6
   have c7b0:=eq_true (oD:0≤(ji3))
   replace H:=iS H;obtain ⟨c8,H⟩:=H
   have c8b0:=eq_true c8
   have c8b1:=decide_eq_true c8
   clear c8
   obtain ⟨y102,hy102⟩:∃ y_:List Int,y_=(x0_1.take ((ji3):Int).toNat):=⟨_,rfl⟩
   replace H:(F168.l0 k1 y102)=some r:=by first|(rw [hy102];with_reducible exact H)|(have H2_:=(Option.bind_some _ _).symm.trans H;rw [hy102];with_reducible exact H2_)|(have H2_:=(Option.bind_some _ _).symm.trans H;with_reducible exact H2_)|with_reducible exact H|(rw [hy102];exact H)|exact H
   have Ny102:=Aside0.mk hy102
   clear hy102
   have H':=Aside0.mk H
   clear H
   obtain ⟨Ao9,co9,eo9⟩:=Kd.V_slice HO_0.out
   subst eo9
   have p101:0≤((ji3):Int):=oD
   have q101:(ji3) < (x0_1.length:Int):=oD
   obtain ⟨ad101,e101,hx101_0⟩:=Kd.at_int (Kd.V_reads' HO_0.out).2.2 (ji3) p101 q101
   cases e101
   replace p101:=eq_true p101
   replace q101:=eq_true q101
   have q10:((ji3):Int)≤((x0_1.length:Int):Int):=oD
   obtain ⟨i010,hi010,_,hsz10,_⟩:=info_parts info2
   have hroom10:x0_1.length≤co9:=(Kd.V_reads' HO_0.out).2.1
   have hC10:Kd.F (Kd.int .i64) _ _ (some ad101) x0_1.length x0_1:=(Kd.V_at (base:=w.heap.size) HO_0.out).2.2
   have hcut10:=cut_to (P:=Try.prog) 28 2 .i64 Try.underlying28 hi010 (some ad101) x0_1.length co9 (ji3) oD q10 hroom10
   have hr10:=Kd.F_take (m:=((ji3):Int).toNat) hC10 (by omega)
   have hy10:y102.length=((ji3):Int).toNat:=(by rw [Ny102.out,List.length_take];omega)
   rw [← Ny102.out] at hr10
   rw [← hy10] at hcut10
   have HO106:=Aside0.mk (show Kd.V (Kd.int .i64) 2 _ w.heap.size _ (.slice (some ad101) y102.length co9) y102 from Kd.V_mk (by omega) hr10)
   have HC106:=Aside0.mk (show y102.length≤co9 from by omega)
   clear hr10 hC10 hroom10 hi010 hsz10
   have KY10:=Aside0.mk hy10
   clear hy10
   replace q10:=eq_true q10
   go_wp2
   first|go_roundg k1|(simp only [← hji3];go_roundg k1)
   case measure=>have:=HK1.out;omega
   case rel=>exact ⟨(y102),(by first|exact H'|(rw [hji3];exact H')),⟨by have:=HK1.out;omega⟩,⟨by (with_reducible repeat (first|apply Kd.V_alloc|apply Kd.V_drewN|apply Kd.V_drew));exact HO106.out⟩,⟨bl⟩⟩
end Go.Proofs.Ytoebojnhchocaaa.A
/- Set with little white space, by a program. -/
