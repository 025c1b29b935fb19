/- The functions that one law reaches, each as a Lean function, and that Go's call comes to what it says. Condition of each: that the Lean function answers (is not none). -/
import Derived.Test.YtoebojnhchocaaaAx0
import Derived.Test.YtoebojnhchocaaaAx8
namespace Go.Proofs.Ytoebojnhchocaaa.A
open Go.RowKit Go.Proofs.YtoebojnhchocaaaW.PrintWords Go.Proofs.YtoebojnhchocaaaW.PrintLast Go.Proofs.YtoebojnhchocaaaW.PrintMore
attribute [local go_sem] max2_int min2_int max_two min_two max_three min_three max_four min_four   -- for this text's walks alone
set_option linter.unusedVariables false
set_option linter.unusedSimpArgs false
/-! ### F106: function 106 -/
def F106.l0 : Nat → List (List Int) → Int → Int → Int → List (List Int) → Option (Bool)
 | 0,_,_,_,_,_=>none
 | k+1,x6,x7,x8,x102000,x102001=>if x8 < x7 then (if 0≤x8 then (if x8 < (x6.length:Int) then (if ((rd_L1 x6 x8).length:Int)=2 then (if 0 < ((rd_L1 x6 x8).length:Int) then ((F194.f (rd (rd_L1 x6 x8) 0) 0 (wrap64 (x102000 - 1))).bind fun t105=>(if t105=true then (if 1 < ((rd_L1 x6 x8).length:Int) then ((F194.f (rd (rd_L1 x6 x8) 1) 0 (wrap64 (x102000 - 1))).bind fun t107=>(if t107=true then (F106.l0 k x6 x7 (wrap64 (x8+1)) x102000 x102001) else (some false))) else (none)) else (some false))) else (none)) else (some false)) else (none)) else (none)) else ((F194.f x102000 1 8).bind fun t102=>(if t102=true then (some (decide ((x102001.length:Int)≤10))) else (some false)))
def F106.f (k:Nat) (a0_0:Int) (l0_1:List (List Int)):Option (Bool):=F106.l0 k l0_1 (l0_1.length:Int) 0 a0_0 l0_1
theorem F106.mono_l : ∀ k, (∀ y0 y1 y2 y3 y4, LeO (F106.l0 k y0 y1 y2 y3 y4) (F106.l0 (k + 1) y0 y1 y2 y3 y4))
 | 0=>fun _ _ _ _ _ r h=>by simp [F106.l0] at h
 | k+1=>by
  have ih0:=F106.mono_l k
  ·intro y0 y1 y2 y3 y4
   unfold F106.l0
   repeat' first
    | (with_reducible first|exact ih0 _ _ _ _ _|exact LeO.refl _|exact LeO.none _|refine LeO.ite ?_ ?_|refine LeO.bind ?_ (fun _=>?_))
    | exact ih0 _ _ _ _ _|exact LeO.none _|refine LeO.ite ?_ ?_|refine LeO.bind ?_ (fun _=>?_)
theorem F106.mono:∀ a0 a1 k,LeO (F106.f k a0 a1) (F106.f (k+1) a0 a1):=by
 intro a0 a1 k
 have ih0:=F106.mono_l k
 unfold F106.f
 repeat' first
  | (with_reducible first|exact ih0 _ _ _ _ _|exact LeO.refl _|exact LeO.none _|refine LeO.ite ?_ ?_|refine LeO.bind ?_ (fun _=>?_))
  | exact ih0 _ _ _ _ _|exact LeO.none _|refine LeO.ite ?_ ?_|refine LeO.bind ?_ (fun _=>?_)
set_option maxHeartbeats 8000000 in
set_option maxRecDepth 100000 in
theorem F106.calls (k : Nat) (a0_0 : Int) (A0_1 : Option Addr) (c0_1 : Nat) (l0_1 : List (List Int)) (r : Bool) (w : World) (hr0_1 : Kd.C (Kd.slice 2 (Kd.int .i64)) w A0_1 l0_1.length l0_1) (hc0_1 : l0_1.length ≤ c0_1) (h : F106.f k a0_0 l0_1 = some r) :
  Calls Try.prog 106 #[.agg #[.int .i64 a0_0,.slice A0_1 l0_1.length c0_1]] w fun e w'=>e=.returned (.bool r)∧Below w.heap.size w w':=by
 have hu31:=Try.underlying31
 have HR0_1:=Aside0.mk hr0_1
 have HC0_1:=Aside0.mk hc0_1
 clear hr0_1 hc0_1
 have HB:=Aside0.mk (Below.refl w.heap.size w)
 have H:(F106.l0 k l0_1 (l0_1.length:Int) 0 a0_0 l0_1)=some r:=h
 clear h
 have H':=Aside0.mk H
 clear H
 go_enter Try.func106,Try.ntmps106
 go_wp2_with (first|((with_reducible refine gate_dst (N:=1) rfl ?_);(try (refine gate_guard (by rfl) ?_;dsimp only));refine box_event ?hg (N:=1) ?hd (cs:=#[.int .i64 a0_0,.slice A0_1 l0_1.length c0_1]) (t:=31) ?hr ?_;(case hd=>rfl);(case hg=>rfl);(case hr=>first|(go_simp;done)|(go_simp;rfl));intro gb101 hg w2 hbox hb;have BK101:=Aside0.mk (hbox);have GW101:=Aside0.mk ((by rw [hg];exact (below_size bl):w.heap.size≤gb101));have GE101:=Aside0.mk ((by rw [hg];exact (below_size bl):w.heap.size≤gb101));replace HB:=Aside0.mk (below_step bl hb);clear hb hbox hg;have hcz3_0:w2.cell? ⟨gb101,0,none⟩=some (.int .i64 a0_0):=(blk_cell BK101.out 0).trans rfl;have hcz3_1:w2.cell? ⟨gb101,1,none⟩=some (.slice A0_1 l0_1.length c0_1):=(blk_cell BK101.out 1).trans rfl;have hfz3_0:=blk_frozen BK101.out 0;have hfz3_1:=blk_frozen BK101.out 1))
 repeat (go_quiet (first|((with_reducible refine gate_dst (N:=1) rfl ?_);(try (refine gate_guard (by rfl) ?_;dsimp only));refine box_event ?hg (N:=1) ?hd (cs:=#[.int .i64 a0_0,.slice A0_1 l0_1.length c0_1]) (t:=31) ?hr ?_;(case hd=>rfl);(case hg=>rfl);(case hr=>first|(go_simp;done)|(go_simp;rfl));intro gb101 hg w2 hbox hb;have BK101:=Aside0.mk (hbox);have GW101:=Aside0.mk ((by rw [hg];exact (below_size bl):w.heap.size≤gb101));have GE101:=Aside0.mk ((by rw [hg];exact (below_size bl):w.heap.size≤gb101));replace HB:=Aside0.mk (below_step bl hb);clear hb hbox hg;have hcz3_0:w2.cell? ⟨gb101,0,none⟩=some (.int .i64 a0_0):=(blk_cell BK101.out 0).trans rfl;have hcz3_1:w2.cell? ⟨gb101,1,none⟩=some (.slice A0_1 l0_1.length c0_1):=(blk_cell BK101.out 1).trans rfl;have hfz3_0:=blk_frozen BK101.out 0;have hfz3_1:=blk_frozen BK101.out 1));try go_wp2_with (first|((with_reducible refine gate_dst (N:=1) rfl ?_);(try (refine gate_guard (by rfl) ?_;dsimp only));refine box_event ?hg (N:=1) ?hd (cs:=#[.int .i64 a0_0,.slice A0_1 l0_1.length c0_1]) (t:=31) ?hr ?_;(case hd=>rfl);(case hg=>rfl);(case hr=>first|(go_simp;done)|(go_simp;rfl));intro gb101 hg w2 hbox hb;have BK101:=Aside0.mk (hbox);have GW101:=Aside0.mk ((by rw [hg];exact (below_size bl):w.heap.size≤gb101));have GE101:=Aside0.mk ((by rw [hg];exact (below_size bl):w.heap.size≤gb101));replace HB:=Aside0.mk (below_step bl hb);clear hb hbox hg;have hcz3_0:w2.cell? ⟨gb101,0,none⟩=some (.int .i64 a0_0):=(blk_cell BK101.out 0).trans rfl;have hcz3_1:w2.cell? ⟨gb101,1,none⟩=some (.slice A0_1 l0_1.length c0_1):=(blk_cell BK101.out 1).trans rfl;have hfz3_0:=blk_frozen BK101.out 0;have hfz3_1:=blk_frozen BK101.out 1)))
 go_loopg [8] k (fun kq v8 w'=>∃ (x8_1:Int),v8=.int .i64 x8_1∧Aside0 (F106.l0 kq l0_1 (l0_1.length:Int) x8_1 a0_0 l0_1=some r)∧Aside0 (kq≤k)∧Aside0 (w'.heap[gb101]?=some (.cells #[.int .i64 a0_0,(.slice A0_1 l0_1.length c0_1)] 31 (0,0)))∧Aside0 (Below w.heap.size w w'))
 case atStart=>exact ⟨(0),rs,H',⟨Nat.le_refl _⟩,⟨bk⟩,⟨bl⟩⟩
 case round =>
  clear H'
  (try clear c1);(try clear p2);(try clear hcz3_0);(try clear hcz3_1);(try clear hfz3_0);(try clear hfz3_1)
  obtain ⟨x8_1,rfl,HA,HK1,BK101,HB⟩:=hrel
  cases gk with
  | zero=>exact absurd HA.out (by simp [F106.l0])
  | succ k1 =>
   have H:=HA.out
   clear HA
   simp only [F106.l0] at H
   by_cases c4:x8_1 < (l0_1.length:Int)
   case neg =>
    rw [if_neg c4] at H
    have c4b0:decide (x8_1 < (l0_1.length:Int))=false:=decide_eq_false c4
    clear c4
    replace H:=Option.bind_eq_some_iff.mp H
    obtain ⟨t102,A170,H⟩:=H
    replace H:(if t102=true then (some (decide ((l0_1.length:Int)≤10))) else (some false))=some r:=H
    have A17:=Aside0.mk A170
    clear A170
    by_cases c18:t102=true
    case neg =>
     replace c18:=Bool.eq_false_iff.mpr c18
     subst c18
     have H1:(some false)=some r:=by rw [if_neg (show ¬ (false=true) by decide)] at H;exact H
     clear H
     have H:=H1
     clear H1
     obtain rfl:=Option.some.inj H
     have hcz20_0:wr.cell? ⟨gb101,0,none⟩=some (.int .i64 a0_0):=(blk_cell BK101.out 0).trans rfl
     have hcz20_1:wr.cell? ⟨gb101,1,none⟩=some (.slice A0_1 l0_1.length c0_1):=(blk_cell BK101.out 1).trans rfl
     have hfz20_0:=blk_frozen BK101.out 0
     have hfz20_1:=blk_frozen BK101.out 1
     go_wp2_with (first|(go_at_call 194;(with_reducible refine (F194.calls a0_0 1 8 false _ A17.out).mono ?_);rintro e w' ⟨rfl,⟨nd,rfl⟩⟩;(try first|exact ⟨rfl,_,World.drewN_drewN _ _ _⟩|exact ⟨rfl,_,Eq.trans (World.drewN_drewN _ _ _) (congrArg (World.drewN _) (Nat.add_assoc _ _ _))⟩)))
     repeat (go_quiet (first|(go_at_call 194;(with_reducible refine (F194.calls a0_0 1 8 false _ A17.out).mono ?_);rintro e w' ⟨rfl,⟨nd,rfl⟩⟩;(try first|exact ⟨rfl,_,World.drewN_drewN _ _ _⟩|exact ⟨rfl,_,Eq.trans (World.drewN_drewN _ _ _) (congrArg (World.drewN _) (Nat.add_assoc _ _ _))⟩)));try go_wp2_with (first|(go_at_call 194;(with_reducible refine (F194.calls a0_0 1 8 false _ A17.out).mono ?_);rintro e w' ⟨rfl,⟨nd,rfl⟩⟩;(try first|exact ⟨rfl,_,World.drewN_drewN _ _ _⟩|exact ⟨rfl,_,Eq.trans (World.drewN_drewN _ _ _) (congrArg (World.drewN _) (Nat.add_assoc _ _ _))⟩))))
     go_ret
     exact ⟨by first|rfl|(simp [errW_none,errW_some]<;>rfl)|(simp [*,errW_none,errW_some]<;>rfl),bl⟩
    subst c18
    have H1:(some (decide ((l0_1.length:Int)≤10)))=some r:=by rw [if_pos rfl] at H;exact H
    clear H
    have H:=H1
    clear H1
    obtain rfl:=Option.some.inj H
    have hcz19_0:wr.cell? ⟨gb101,0,none⟩=some (.int .i64 a0_0):=(blk_cell BK101.out 0).trans rfl
    have hcz19_1:wr.cell? ⟨gb101,1,none⟩=some (.slice A0_1 l0_1.length c0_1):=(blk_cell BK101.out 1).trans rfl
    have hfz19_0:=blk_frozen BK101.out 0
    have hfz19_1:=blk_frozen BK101.out 1
    go_wp2_with (first|(go_at_call 194;(with_reducible refine (F194.calls a0_0 1 8 true _ A17.out).mono ?_);rintro e w' ⟨rfl,⟨nd,rfl⟩⟩;(try first|exact ⟨rfl,_,World.drewN_drewN _ _ _⟩|exact ⟨rfl,_,Eq.trans (World.drewN_drewN _ _ _) (congrArg (World.drewN _) (Nat.add_assoc _ _ _))⟩)))
    repeat (go_quiet (first|(go_at_call 194;(with_reducible refine (F194.calls a0_0 1 8 true _ A17.out).mono ?_);rintro e w' ⟨rfl,⟨nd,rfl⟩⟩;(try first|exact ⟨rfl,_,World.drewN_drewN _ _ _⟩|exact ⟨rfl,_,Eq.trans (World.drewN_drewN _ _ _) (congrArg (World.drewN _) (Nat.add_assoc _ _ _))⟩)));try go_wp2_with (first|(go_at_call 194;(with_reducible refine (F194.calls a0_0 1 8 true _ A17.out).mono ?_);rintro e w' ⟨rfl,⟨nd,rfl⟩⟩;(try first|exact ⟨rfl,_,World.drewN_drewN _ _ _⟩|exact ⟨rfl,_,Eq.trans (World.drewN_drewN _ _ _) (congrArg (World.drewN _) (Nat.add_assoc _ _ _))⟩))))
    go_ret
    exact ⟨by first|rfl|(simp [errW_none,errW_some]<;>rfl)|(simp [*,errW_none,errW_some]<;>rfl),bl⟩
   rw [if_pos c4] at H
   have c4b0:=decide_eq_true c4
   clear c4
   replace H:=iS H;obtain ⟨c5,H⟩:=H
   have c5b0:=decide_eq_true c5
   clear c5
   replace H:=iS H;obtain ⟨c6,H⟩:=H
   have c6b0:=decide_eq_true c6
   clear c6
   by_cases c7:((rd_L1 l0_1 x8_1).length:Int)=2
   case neg =>
    rw [if_neg c7] at H
    have c7b0:(((rd_L1 l0_1 x8_1).length:Int) == 2)=false:=beq_eq_false_iff_ne.mpr c7
    have c7b1:(((rd_L1 l0_1 x8_1).length:Int) != 2)=true:=bne_iff_ne.mpr c7
    obtain rfl:=Option.some.inj H
    have p103:0≤(x8_1:Int):=oD
    have q103:x8_1 < (l0_1.length:Int):=oD
    obtain ⟨ad103,A103_0,c103_0,e103,hx103_0,hl103_0,hi103_0⟩:=at_L1 HR0_1.out x8_1 p103 q103
    cases e103
    replace hx103_0:=hbc HB hx103_0
    have HR103_0:=Aside0.mk hi103_0
    have HC103_0:=Aside0.mk hl103_0
    clear hi103_0 hl103_0
    replace p103:=eq_true p103
    replace q103:=eq_true q103
    go_wp2
    repeat (go_quiet (fail);try go_wp2)
    go_ret
    exact ⟨by first|rfl|(simp [errW_none,errW_some]<;>rfl)|(simp [*,errW_none,errW_some]<;>rfl),bl⟩
   rw [if_pos c7] at H
   have c7b0:(((rd_L1 l0_1 x8_1).length:Int) == 2)=true:=beq_iff_eq.mpr c7
   have c7b1:(((rd_L1 l0_1 x8_1).length:Int) != 2)=false:=bne_eq_false_iff_eq.mpr c7
   clear c7
   replace H:=iS H;obtain ⟨c8,H⟩:=H
   have c8b0:=decide_eq_true c8
   have c8b1:decide (0 < (rd_L1 l0_1 x8_1).length)=true:=decide_eq_true (by omega)
   clear c8
   replace H:=Option.bind_eq_some_iff.mp H
   obtain ⟨t105,A90,H⟩:=H
   replace H:(if t105=true then (if 1 < ((rd_L1 l0_1 x8_1).length:Int) then ((F194.f (rd (rd_L1 l0_1 x8_1) 1) 0 (wrap64 (a0_0 - 1))).bind fun t107=>(if t107=true then (F106.l0 k1 l0_1 (l0_1.length:Int) (wrap64 (x8_1+1)) a0_0 l0_1) else (some false))) else (none)) else (some false))=some r:=H
   have A9:=Aside0.mk A90
   clear A90
   by_cases c10:t105=true
   case neg =>
    replace c10:=Bool.eq_false_iff.mpr c10
    subst c10
    have H1:(some false)=some r:=by rw [if_neg (show ¬ (false=true) by decide)] at H;exact H
    clear H
    have H:=H1
    clear H1
    obtain rfl:=Option.some.inj H
    have p103:0≤(x8_1:Int):=oD
    have q103:x8_1 < (l0_1.length:Int):=oD
    obtain ⟨ad103,A103_0,c103_0,e103,hx103_0,hl103_0,hi103_0⟩:=at_L1 HR0_1.out x8_1 p103 q103
    cases e103
    replace hx103_0:=hbc HB hx103_0
    have HR103_0:=Aside0.mk hi103_0
    have HC103_0:=Aside0.mk hl103_0
    clear hi103_0 hl103_0
    replace p103:=eq_true p103
    replace q103:=eq_true q103
    have p104:0≤(0:Int):=(by omega)
    have q104:0 < ((rd_L1 l0_1 x8_1).length:Int):=oD
    obtain ⟨ad104,e104,hx104_0⟩:=Kd.at_int HR103_0.out 0 p104 q104
    cases e104
    have qi104:(0 < (rd_L1 l0_1 x8_1).length)=True:=eq_true (by omega)
    (try rw [show ((0:Int)).toNat=0 from rfl] at hx104_0)
    (try rw [Addr.add_zero'] at hx104_0)
    replace hx104_0:=hbc HB hx104_0
    replace p104:=eq_true p104
    replace q104:=eq_true q104
    have hcz16_0:wr.cell? ⟨gb101,0,none⟩=some (.int .i64 a0_0):=(blk_cell BK101.out 0).trans rfl
    have hcz16_1:wr.cell? ⟨gb101,1,none⟩=some (.slice (some ad103) l0_1.length c0_1):=(blk_cell BK101.out 1).trans rfl
    have hfz16_0:=blk_frozen BK101.out 0
    have hfz16_1:=blk_frozen BK101.out 1
    go_wp2_with (first|(go_at_call 194;(with_reducible refine (F194.calls (rd (rd_L1 l0_1 x8_1) 0) 0 (wrap64 (a0_0 - 1)) false _ A9.out).mono ?_);rintro e w' ⟨rfl,⟨nd,rfl⟩⟩;(try first|exact ⟨rfl,_,World.drewN_drewN _ _ _⟩|exact ⟨rfl,_,Eq.trans (World.drewN_drewN _ _ _) (congrArg (World.drewN _) (Nat.add_assoc _ _ _))⟩)))
    repeat (go_quiet (first|(go_at_call 194;(with_reducible refine (F194.calls (rd (rd_L1 l0_1 x8_1) 0) 0 (wrap64 (a0_0 - 1)) false _ A9.out).mono ?_);rintro e w' ⟨rfl,⟨nd,rfl⟩⟩;(try first|exact ⟨rfl,_,World.drewN_drewN _ _ _⟩|exact ⟨rfl,_,Eq.trans (World.drewN_drewN _ _ _) (congrArg (World.drewN _) (Nat.add_assoc _ _ _))⟩)));try go_wp2_with (first|(go_at_call 194;(with_reducible refine (F194.calls (rd (rd_L1 l0_1 x8_1) 0) 0 (wrap64 (a0_0 - 1)) false _ A9.out).mono ?_);rintro e w' ⟨rfl,⟨nd,rfl⟩⟩;(try first|exact ⟨rfl,_,World.drewN_drewN _ _ _⟩|exact ⟨rfl,_,Eq.trans (World.drewN_drewN _ _ _) (congrArg (World.drewN _) (Nat.add_assoc _ _ _))⟩))))
    go_ret
    exact ⟨by first|rfl|(simp [errW_none,errW_some]<;>rfl)|(simp [*,errW_none,errW_some]<;>rfl),bl⟩
   subst c10
   have H1:(if 1 < ((rd_L1 l0_1 x8_1).length:Int) then ((F194.f (rd (rd_L1 l0_1 x8_1) 1) 0 (wrap64 (a0_0 - 1))).bind fun t107=>(if t107=true then (F106.l0 k1 l0_1 (l0_1.length:Int) (wrap64 (x8_1+1)) a0_0 l0_1) else (some false))) else (none))=some r:=by rw [if_pos rfl] at H;exact H
   clear H
   have H:=H1
   clear H1
   replace H:=iS H;obtain ⟨c11,H⟩:=H
   have c11b0:=decide_eq_true c11
   have c11b1:decide (1 < (rd_L1 l0_1 x8_1).length)=true:=decide_eq_true (by omega)
   clear c11
   replace H:=Option.bind_eq_some_iff.mp H
   obtain ⟨t107,A120,H⟩:=H
   replace H:(if t107=true then (F106.l0 k1 l0_1 (l0_1.length:Int) (wrap64 (x8_1+1)) a0_0 l0_1) else (some false))=some r:=H
   have A12:=Aside0.mk A120
   clear A120
   by_cases c13:t107=true
   case neg =>
    replace c13:=Bool.eq_false_iff.mpr c13
    subst c13
    have H1:(some false)=some r:=by rw [if_neg (show ¬ (false=true) by decide)] at H;exact H
    clear H
    have H:=H1
    clear H1
    obtain rfl:=Option.some.inj H
    have p103:0≤(x8_1:Int):=oD
    have q103:x8_1 < (l0_1.length:Int):=oD
    obtain ⟨ad103,A103_0,c103_0,e103,hx103_0,hl103_0,hi103_0⟩:=at_L1 HR0_1.out x8_1 p103 q103
    cases e103
    replace hx103_0:=hbc HB hx103_0
    have HR103_0:=Aside0.mk hi103_0
    have HC103_0:=Aside0.mk hl103_0
    clear hi103_0 hl103_0
    replace p103:=eq_true p103
    replace q103:=eq_true q103
    have p104:0≤(0:Int):=(by omega)
    have q104:0 < ((rd_L1 l0_1 x8_1).length:Int):=oD
    obtain ⟨ad104,e104,hx104_0⟩:=Kd.at_int HR103_0.out 0 p104 q104
    cases e104
    have qi104:(0 < (rd_L1 l0_1 x8_1).length)=True:=eq_true (by omega)
    (try rw [show ((0:Int)).toNat=0 from rfl] at hx104_0)
    (try rw [Addr.add_zero'] at hx104_0)
    replace hx104_0:=hbc HB hx104_0
    replace p104:=eq_true p104
    replace q104:=eq_true q104
    have hcz15_0:wr.cell? ⟨gb101,0,none⟩=some (.int .i64 a0_0):=(blk_cell BK101.out 0).trans rfl
    have hcz15_1:wr.cell? ⟨gb101,1,none⟩=some (.slice (some ad103) l0_1.length c0_1):=(blk_cell BK101.out 1).trans rfl
    have hfz15_0:=blk_frozen BK101.out 0
    have hfz15_1:=blk_frozen BK101.out 1
    have p106:0≤(1:Int):=(by omega)
    have q106:1 < ((rd_L1 l0_1 x8_1).length:Int):=oD
    obtain ⟨ad106,e106,hx106_0⟩:=Kd.at_int HR103_0.out 1 p106 q106
    obtain rfl:ad104=ad106:=(by injection e106)
    (try simp only [show (1:Int).toNat=1 from rfl,Nat.reduceMul,Nat.reduceEqDiff,Go.Addr.add,↓reduceIte] at hx106_0)
    have qi106:(1 < (rd_L1 l0_1 x8_1).length)=True:=eq_true (by omega)
    (try rw [show ((1:Int)).toNat=1 from rfl] at hx106_0)
    replace hx106_0:=hbc HB hx106_0
    replace p106:=eq_true p106
    replace q106:=eq_true q106
    go_wp2_with (first|(go_at_call 194;(with_reducible refine (F194.calls (rd (rd_L1 l0_1 x8_1) 0) 0 (wrap64 (a0_0 - 1)) true _ A9.out).mono ?_);rintro e w' ⟨rfl,⟨nd,rfl⟩⟩;(try first|exact ⟨rfl,_,World.drewN_drewN _ _ _⟩|exact ⟨rfl,_,Eq.trans (World.drewN_drewN _ _ _) (congrArg (World.drewN _) (Nat.add_assoc _ _ _))⟩))|(go_at_call 194;(with_reducible refine (F194.calls (rd (rd_L1 l0_1 x8_1) 1) 0 (wrap64 (a0_0 - 1)) false _ A12.out).mono ?_);rintro e w' ⟨rfl,⟨nd,rfl⟩⟩;(try first|exact ⟨rfl,_,World.drewN_drewN _ _ _⟩|exact ⟨rfl,_,Eq.trans (World.drewN_drewN _ _ _) (congrArg (World.drewN _) (Nat.add_assoc _ _ _))⟩)))
    repeat (go_quiet (first|(go_at_call 194;(with_reducible refine (F194.calls (rd (rd_L1 l0_1 x8_1) 0) 0 (wrap64 (a0_0 - 1)) true _ A9.out).mono ?_);rintro e w' ⟨rfl,⟨nd,rfl⟩⟩;(try first|exact ⟨rfl,_,World.drewN_drewN _ _ _⟩|exact ⟨rfl,_,Eq.trans (World.drewN_drewN _ _ _) (congrArg (World.drewN _) (Nat.add_assoc _ _ _))⟩))|(go_at_call 194;(with_reducible refine (F194.calls (rd (rd_L1 l0_1 x8_1) 1) 0 (wrap64 (a0_0 - 1)) false _ A12.out).mono ?_);rintro e w' ⟨rfl,⟨nd,rfl⟩⟩;(try first|exact ⟨rfl,_,World.drewN_drewN _ _ _⟩|exact ⟨rfl,_,Eq.trans (World.drewN_drewN _ _ _) (congrArg (World.drewN _) (Nat.add_assoc _ _ _))⟩)));try go_wp2_with (first|(go_at_call 194;(with_reducible refine (F194.calls (rd (rd_L1 l0_1 x8_1) 0) 0 (wrap64 (a0_0 - 1)) true _ A9.out).mono ?_);rintro e w' ⟨rfl,⟨nd,rfl⟩⟩;(try first|exact ⟨rfl,_,World.drewN_drewN _ _ _⟩|exact ⟨rfl,_,Eq.trans (World.drewN_drewN _ _ _) (congrArg (World.drewN _) (Nat.add_assoc _ _ _))⟩))|(go_at_call 194;(with_reducible refine (F194.calls (rd (rd_L1 l0_1 x8_1) 1) 0 (wrap64 (a0_0 - 1)) false _ A12.out).mono ?_);rintro e w' ⟨rfl,⟨nd,rfl⟩⟩;(try first|exact ⟨rfl,_,World.drewN_drewN _ _ _⟩|exact ⟨rfl,_,Eq.trans (World.drewN_drewN _ _ _) (congrArg (World.drewN _) (Nat.add_assoc _ _ _))⟩))))
    go_ret
    exact ⟨by first|rfl|(simp [errW_none,errW_some]<;>rfl)|(simp [*,errW_none,errW_some]<;>rfl),bl⟩
   subst c13
   have H1:(F106.l0 k1 l0_1 (l0_1.length:Int) (wrap64 (x8_1+1)) a0_0 l0_1)=some r:=by rw [if_pos rfl] at H;exact H
   clear H
   have H:=H1
   clear H1
   have H':=Aside0.mk H
   clear H
   have p103:0≤(x8_1:Int):=oD
   have q103:x8_1 < (l0_1.length:Int):=oD
   obtain ⟨ad103,A103_0,c103_0,e103,hx103_0,hl103_0,hi103_0⟩:=at_L1 HR0_1.out x8_1 p103 q103
   cases e103
   replace hx103_0:=hbc HB hx103_0
   have HR103_0:=Aside0.mk hi103_0
   have HC103_0:=Aside0.mk hl103_0
   clear hi103_0 hl103_0
   replace p103:=eq_true p103
   replace q103:=eq_true q103
   have p104:0≤(0:Int):=(by omega)
   have q104:0 < ((rd_L1 l0_1 x8_1).length:Int):=oD
   obtain ⟨ad104,e104,hx104_0⟩:=Kd.at_int HR103_0.out 0 p104 q104
   cases e104
   have qi104:(0 < (rd_L1 l0_1 x8_1).length)=True:=eq_true (by omega)
   (try rw [show ((0:Int)).toNat=0 from rfl] at hx104_0)
   (try rw [Addr.add_zero'] at hx104_0)
   replace hx104_0:=hbc HB hx104_0
   replace p104:=eq_true p104
   replace q104:=eq_true q104
   have hcz14_0:wr.cell? ⟨gb101,0,none⟩=some (.int .i64 a0_0):=(blk_cell BK101.out 0).trans rfl
   have hcz14_1:wr.cell? ⟨gb101,1,none⟩=some (.slice (some ad103) l0_1.length c0_1):=(blk_cell BK101.out 1).trans rfl
   have hfz14_0:=blk_frozen BK101.out 0
   have hfz14_1:=blk_frozen BK101.out 1
   have p106:0≤(1:Int):=(by omega)
   have q106:1 < ((rd_L1 l0_1 x8_1).length:Int):=oD
   obtain ⟨ad106,e106,hx106_0⟩:=Kd.at_int HR103_0.out 1 p106 q106
   obtain rfl:ad104=ad106:=(by injection e106)
   (try simp only [show (1:Int).toNat=1 from rfl,Nat.reduceMul,Nat.reduceEqDiff,Go.Addr.add,↓reduceIte] at hx106_0)
   have qi106:(1 < (rd_L1 l0_1 x8_1).length)=True:=eq_true (by omega)
   (try rw [show ((1:Int)).toNat=1 from rfl] at hx106_0)
   replace hx106_0:=hbc HB hx106_0
   replace p106:=eq_true p106
   replace q106:=eq_true q106
   go_wp2_with (first|(go_at_call 194;(with_reducible refine (F194.calls (rd (rd_L1 l0_1 x8_1) 0) 0 (wrap64 (a0_0 - 1)) true _ A9.out).mono ?_);rintro e w' ⟨rfl,⟨nd,rfl⟩⟩;(try first|exact ⟨rfl,_,World.drewN_drewN _ _ _⟩|exact ⟨rfl,_,Eq.trans (World.drewN_drewN _ _ _) (congrArg (World.drewN _) (Nat.add_assoc _ _ _))⟩))|(go_at_call 194;(with_reducible refine (F194.calls (rd (rd_L1 l0_1 x8_1) 1) 0 (wrap64 (a0_0 - 1)) true _ A12.out).mono ?_);rintro e w' ⟨rfl,⟨nd,rfl⟩⟩;(try first|exact ⟨rfl,_,World.drewN_drewN _ _ _⟩|exact ⟨rfl,_,Eq.trans (World.drewN_drewN _ _ _) (congrArg (World.drewN _) (Nat.add_assoc _ _ _))⟩)))
   repeat (go_quiet (first|(go_at_call 194;(with_reducible refine (F194.calls (rd (rd_L1 l0_1 x8_1) 0) 0 (wrap64 (a0_0 - 1)) true _ A9.out).mono ?_);rintro e w' ⟨rfl,⟨nd,rfl⟩⟩;(try first|exact ⟨rfl,_,World.drewN_drewN _ _ _⟩|exact ⟨rfl,_,Eq.trans (World.drewN_drewN _ _ _) (congrArg (World.drewN _) (Nat.add_assoc _ _ _))⟩))|(go_at_call 194;(with_reducible refine (F194.calls (rd (rd_L1 l0_1 x8_1) 1) 0 (wrap64 (a0_0 - 1)) true _ A12.out).mono ?_);rintro e w' ⟨rfl,⟨nd,rfl⟩⟩;(try first|exact ⟨rfl,_,World.drewN_drewN _ _ _⟩|exact ⟨rfl,_,Eq.trans (World.drewN_drewN _ _ _) (congrArg (World.drewN _) (Nat.add_assoc _ _ _))⟩)));try go_wp2_with (first|(go_at_call 194;(with_reducible refine (F194.calls (rd (rd_L1 l0_1 x8_1) 0) 0 (wrap64 (a0_0 - 1)) true _ A9.out).mono ?_);rintro e w' ⟨rfl,⟨nd,rfl⟩⟩;(try first|exact ⟨rfl,_,World.drewN_drewN _ _ _⟩|exact ⟨rfl,_,Eq.trans (World.drewN_drewN _ _ _) (congrArg (World.drewN _) (Nat.add_assoc _ _ _))⟩))|(go_at_call 194;(with_reducible refine (F194.calls (rd (rd_L1 l0_1 x8_1) 1) 0 (wrap64 (a0_0 - 1)) true _ A12.out).mono ?_);rintro e w' ⟨rfl,⟨nd,rfl⟩⟩;(try first|exact ⟨rfl,_,World.drewN_drewN _ _ _⟩|exact ⟨rfl,_,Eq.trans (World.drewN_drewN _ _ _) (congrArg (World.drewN _) (Nat.add_assoc _ _ _))⟩))))
   go_roundg k1
   case measure=>have:=HK1.out;omega
   case rel=>exact ⟨(wrap64 (x8_1+1)),rs,H',⟨by have:=HK1.out;omega⟩,⟨bk⟩,⟨bl⟩⟩
/-! ### F163: function 163 -/
def F163.f (a0_0:Int) (l0_1:List (List Int)):Option (Int):=some (l0_1.length:Int)
set_option maxHeartbeats 8000000 in
set_option maxRecDepth 100000 in
theorem F163.calls (a0_0 : Int) (A0_1 : Option Addr) (c0_1 : Nat) (l0_1 : List (List Int)) (r : Int) (w : World) (hr0_1 : Kd.C (Kd.slice 2 (Kd.int .i64)) w A0_1 l0_1.length l0_1) (hc0_1 : l0_1.length ≤ c0_1) (h : F163.f a0_0 l0_1 = some r) :
  Calls Try.prog 163 #[.agg #[.int .i64 a0_0,.slice A0_1 l0_1.length c0_1]] w fun e w'=>e=.returned (.int .i64 r)∧Below w.heap.size w w':=by
 have hu31:=Try.underlying31
 have HR0_1:=Aside0.mk hr0_1
 have HC0_1:=Aside0.mk hc0_1
 clear hr0_1 hc0_1
 have HB:=Aside0.mk (Below.refl w.heap.size w)
 have H:(some (l0_1.length:Int))=some r:=h
 clear h
 obtain rfl:=Option.some.inj H
 go_enter Try.func163,Try.ntmps163
 go_wp2_with (first|((with_reducible refine gate_dst (N:=1) rfl ?_);refine box_event ?hg (N:=1) ?hd (cs:=#[.int .i64 a0_0,.slice A0_1 l0_1.length c0_1]) (t:=31) ?hr ?_;(case hd=>rfl);(case hg=>rfl);(case hr=>first|(go_simp;done)|(go_simp;rfl));intro gb101 hg w2 hbox hb;have BK101:=Aside0.mk (hbox);have GW101:=Aside0.mk ((by rw [hg];exact (below_size bl):w.heap.size≤gb101));have GE101:=Aside0.mk ((by rw [hg];exact (below_size bl):w.heap.size≤gb101));replace HB:=Aside0.mk (below_step bl hb);clear hb hbox hg;have hcz3_0:w2.cell? ⟨gb101,0,none⟩=some (.int .i64 a0_0):=(blk_cell BK101.out 0).trans rfl;have hcz3_1:w2.cell? ⟨gb101,1,none⟩=some (.slice A0_1 l0_1.length c0_1):=(blk_cell BK101.out 1).trans rfl;have hfz3_0:=blk_frozen BK101.out 0;have hfz3_1:=blk_frozen BK101.out 1))
 go_ret
 exact ⟨by first|rfl|(simp [errW_none,errW_some]<;>rfl)|(simp [*,errW_none,errW_some]<;>rfl),bl⟩
-- NOT PRINTED: function 220 (slices_IndexFunc_int64_int64)
-- NOT PRINTED: function 180 (slices_ContainsFunc_int64_int64)
/-! ### F200: function 200 -/
def F200.l0 : Nat → List Int → Int → Int → Int → Option (Int)
 | 0,_,_,_,_=>none
 | k+1,x0,x1,x7,x8=>if x8 < x7 then (if 0≤x8 then (if x8 < (x0.length:Int) then (if x1=(rd x0 x8) then (some x8) else (F200.l0 k x0 x1 x7 (wrap64 (x8+1)))) else (none)) else (none)) else (some (-1))
def F200.f (k:Nat) (l0:List Int) (a1:Int):Option (Int):=F200.l0 k l0 a1 (l0.length:Int) 0
theorem F200.mono_l : ∀ k, (∀ y0 y1 y2 y3, LeO (F200.l0 k y0 y1 y2 y3) (F200.l0 (k + 1) y0 y1 y2 y3))
 | 0=>fun _ _ _ _ r h=>by simp [F200.l0] at h
 | k+1=>by
  have ih0:=F200.mono_l k
  ·intro y0 y1 y2 y3
   unfold F200.l0
   repeat' first
    | (with_reducible first|exact ih0 _ _ _ _|exact LeO.refl _|exact LeO.none _|refine LeO.ite ?_ ?_|refine LeO.bind ?_ (fun _=>?_))
    | exact ih0 _ _ _ _|exact LeO.none _|refine LeO.ite ?_ ?_|refine LeO.bind ?_ (fun _=>?_)
theorem F200.mono:∀ a0 a1 k,LeO (F200.f k a0 a1) (F200.f (k+1) a0 a1):=by
 intro a0 a1 k
 have ih0:=F200.mono_l k
 unfold F200.f
 repeat' first
  | (with_reducible first|exact ih0 _ _ _ _|exact LeO.refl _|exact LeO.none _|refine LeO.ite ?_ ?_|refine LeO.bind ?_ (fun _=>?_))
  | exact ih0 _ _ _ _|exact LeO.none _|refine LeO.ite ?_ ?_|refine LeO.bind ?_ (fun _=>?_)
set_option maxHeartbeats 8000000 in
set_option maxRecDepth 100000 in
theorem F200.calls (k : Nat) (A0 : Option Addr) (c0 : Nat) (l0 : List Int) (a1 : Int) (r : Int) (w : World) (hr0 : Kd.C (Kd.int .i64) w A0 l0.length l0) (hc0 : l0.length ≤ c0) (h : F200.f k l0 a1 = some r) :
  Calls Try.prog 200 #[.slice A0 l0.length c0,.int .i64 a1] w fun e w'=>e=.returned (.int .i64 r)∧Drawn0 w w':=by
 have HR0:=Aside0.mk hr0
 have HC0:=Aside0.mk hc0
 clear hr0 hc0
 have H:(F200.l0 k l0 a1 (l0.length:Int) 0)=some r:=h
 clear h
 have H':=Aside0.mk H
 clear H
 go_enter Try.func200,Try.ntmps200
 go_wp2
 go_loopg [8] k (fun kq v8 w'=>∃ (x8_1:Int),v8=.int .i64 x8_1∧Aside0 (F200.l0 kq l0 a1 (l0.length:Int) x8_1=some r)∧Aside0 (kq≤k)∧Drawn0 w w')
 case atStart=>exact ⟨(0),rs,H',⟨Nat.le_refl _⟩,by repeat (first|exact Drawn0.refl _|apply Drawn0.step)⟩
 case round =>
  clear H'
  (try clear c2);(try clear p2)
  obtain ⟨x8_1,rfl,HA,HK1,⟨m1,rfl⟩⟩:=hrel
  cases gk with
  | zero=>exact absurd HA.out (by simp [F200.l0])
  | succ k1 =>
   have H:=HA.out
   clear HA
   simp only [F200.l0] at H
   by_cases c3:x8_1 < (l0.length:Int)
   case neg =>
    rw [if_neg c3] at H
    have c3b0:decide (x8_1 < (l0.length:Int))=false:=decide_eq_false c3
    clear c3
    obtain rfl:=Option.some.inj H
    go_wp2
    go_ret
    exact ⟨by first|rfl|(simp;done)|(simp [*];done),by repeat (first|exact Drawn0.refl _|apply Drawn0.step)⟩
   rw [if_pos c3] at H
   have c3b0:=decide_eq_true c3
   clear c3
   replace H:=iS H;obtain ⟨c4,H⟩:=H
   have c4b0:=decide_eq_true c4
   clear c4
   replace H:=iS H;obtain ⟨c5,H⟩:=H
   have c5b0:=decide_eq_true c5
   clear c5
   by_cases c6:a1=(rd l0 x8_1)
   case neg =>
    rw [if_neg c6] at H
    have c6b0:(a1 == (rd l0 x8_1))=false:=beq_eq_false_iff_ne.mpr c6
    have c6b1:(a1 != (rd l0 x8_1))=true:=bne_iff_ne.mpr c6
    have H':=Aside0.mk H
    clear H
    have p101:0≤(x8_1:Int):=oD
    have q101:x8_1 < (l0.length:Int):=oD
    obtain ⟨ad101,e101,hx101_0⟩:=Kd.at_int HR0.out x8_1 p101 q101
    cases e101
    replace p101:=eq_true p101
    replace q101:=eq_true q101
    go_wp2
    go_roundg k1
    case measure=>have:=HK1.out;omega
    case rel=>exact ⟨(wrap64 (x8_1+1)),rs,H',⟨by have:=HK1.out;omega⟩,by repeat (first|exact Drawn0.refl _|apply Drawn0.step)⟩
   rw [if_pos c6] at H
   have c6b0:(a1 == (rd l0 x8_1))=true:=beq_iff_eq.mpr c6
   have c6b1:(a1 != (rd l0 x8_1))=false:=bne_eq_false_iff_eq.mpr c6
   clear c6
   obtain rfl:=Option.some.inj H
   have p101:0≤(x8_1:Int):=oD
   have q101:x8_1 < (l0.length:Int):=oD
   obtain ⟨ad101,e101,hx101_0⟩:=Kd.at_int HR0.out x8_1 p101 q101
   cases e101
   replace p101:=eq_true p101
   replace q101:=eq_true q101
   go_wp2
   go_ret
   exact ⟨by first|rfl|(simp;done)|(simp [*];done),by repeat (first|exact Drawn0.refl _|apply Drawn0.step)⟩
/-! ### F118: function 118 -/
def F118.f (k:Nat) (l0:List Int) (a1:Int):Option (Bool):=(F200.f k l0 a1).bind fun t101=>(some (decide (t101 ≥ 0)))
theorem F118.mono:∀ a0 a1 k,LeO (F118.f k a0 a1) (F118.f (k+1) a0 a1):=by
 intro a0 a1 k
 unfold F118.f
 repeat' first
  | (with_reducible first|exact F200.mono _ _ _|exact LeO.refl _|exact LeO.none _|refine LeO.ite ?_ ?_|refine LeO.bind ?_ (fun _=>?_))
  | exact F200.mono _ _ _|exact LeO.none _|refine LeO.ite ?_ ?_|refine LeO.bind ?_ (fun _=>?_)
set_option maxHeartbeats 8000000 in
set_option maxRecDepth 100000 in
theorem F118.calls (k : Nat) (A0 : Option Addr) (c0 : Nat) (l0 : List Int) (a1 : Int) (r : Bool) (w : World) (hr0 : Kd.C (Kd.int .i64) w A0 l0.length l0) (hc0 : l0.length ≤ c0) (h : F118.f k l0 a1 = some r) :
  Calls Try.prog 118 #[.slice A0 l0.length c0,.int .i64 a1] w fun e w'=>e=.returned (.bool r)∧Drawn0 w w':=by
 have HR0:=Aside0.mk hr0
 have HC0:=Aside0.mk hc0
 clear hr0 hc0
 have H:((F200.f k l0 a1).bind fun t101=>(some (decide (t101 ≥ 0))))=some r:=h
 clear h
 replace H:=Option.bind_eq_some_iff.mp H
 obtain ⟨t101,A30,H⟩:=H
 replace H:(some (decide (t101 ≥ 0)))=some r:=H
 have A3:=Aside0.mk A30
 clear A30
 obtain rfl:=Option.some.inj H
 go_enter Try.func118,Try.ntmps118
 go_wp2_with (first|((with_reducible refine gate_callee (f:=200) rfl ?_);refine goesL_ (some 7) rfl rfl Try.func200 (by kernel_rfl) rfl #[.slice A0 l0.length c0,.int .i64 a1] rfl gm ?_;(with_reducible refine (F200.calls k _ _ l0 a1 t101 _ ?side1 ?side2 A3.out).mono ?_);(case side1=>exact aC HR0.out);(case side2=>exact HC0.out);rintro e w' ⟨rfl,⟨nd,rfl⟩⟩;refine ⟨_,rfl,?_⟩))
 go_ret
 exact ⟨by first|rfl|(simp;done)|(simp [*];done),by repeat (first|exact Drawn0.refl _|apply Drawn0.step)⟩
/-! ### F127: function 127 -/
def F127.l0 : Nat → List Int → Int → Int → Int → Option (Bool)
 | 0,_,_,_,_=>none
 | k+1,x0,x1,x6,x7=>if x7 < x6 then ((F118.f k x0 x7).bind fun t101=>(if t101=true then (F127.l0 k x0 x1 x6 (wrap64 (x7+1))) else (some false))) else (some ((x0.length:Int) == x1))
def F127.f (k:Nat) (l0:List Int) (a1:Int):Option (Bool):=F127.l0 k l0 a1 a1 0
theorem F127.mono_l : ∀ k, (∀ y0 y1 y2 y3, LeO (F127.l0 k y0 y1 y2 y3) (F127.l0 (k + 1) y0 y1 y2 y3))
 | 0=>fun _ _ _ _ r h=>by simp [F127.l0] at h
 | k+1=>by
  have ih0:=F127.mono_l k
  ·intro y0 y1 y2 y3
   unfold F127.l0
   repeat' first
    | (with_reducible first|exact ih0 _ _ _ _|exact F118.mono _ _ _|exact LeO.refl _|exact LeO.none _|refine LeO.ite ?_ ?_|refine LeO.bind ?_ (fun _=>?_))
    | exact ih0 _ _ _ _|exact F118.mono _ _ _|exact LeO.none _|refine LeO.ite ?_ ?_|refine LeO.bind ?_ (fun _=>?_)
theorem F127.mono:∀ a0 a1 k,LeO (F127.f k a0 a1) (F127.f (k+1) a0 a1):=by
 intro a0 a1 k
 have ih0:=F127.mono_l k
 unfold F127.f
 repeat' first
  | (with_reducible first|exact ih0 _ _ _ _|exact F118.mono _ _ _|exact LeO.refl _|exact LeO.none _|refine LeO.ite ?_ ?_|refine LeO.bind ?_ (fun _=>?_))
  | exact ih0 _ _ _ _|exact F118.mono _ _ _|exact LeO.none _|refine LeO.ite ?_ ?_|refine LeO.bind ?_ (fun _=>?_)
set_option maxHeartbeats 8000000 in
set_option maxRecDepth 100000 in
theorem F127.calls (k : Nat) (A0 : Option Addr) (c0 : Nat) (l0 : List Int) (a1 : Int) (r : Bool) (w : World) (hr0 : Kd.C (Kd.int .i64) w A0 l0.length l0) (hc0 : l0.length ≤ c0) (h : F127.f k l0 a1 = some r) :
  Calls Try.prog 127 #[.slice A0 l0.length c0,.int .i64 a1] w fun e w'=>e=.returned (.bool r)∧Drawn0 w w':=by
 have HR0:=Aside0.mk hr0
 have HC0:=Aside0.mk hc0
 clear hr0 hc0
 have H:(F127.l0 k l0 a1 a1 0)=some r:=h
 clear h
 have H':=Aside0.mk H
 clear H
 go_enter Try.func127,Try.ntmps127
 go_wp2
 go_loopg [7] k (fun kq v7 w'=>∃ (x7_1:Int),v7=.int .i64 x7_1∧Aside0 (F127.l0 kq l0 a1 a1 x7_1=some r)∧Aside0 (kq≤k)∧Drawn0 w w')
 case atStart=>exact ⟨(0),rs,H',⟨Nat.le_refl _⟩,by repeat (first|exact Drawn0.refl _|apply Drawn0.step)⟩
 case round =>
  clear H'
  (try clear c1);(try clear p2)
  obtain ⟨x7_1,rfl,HA,HK1,⟨m1,rfl⟩⟩:=hrel
  cases gk with
  | zero=>exact absurd HA.out (by simp [F127.l0])
  | succ k1 =>
   have H:=HA.out
   clear HA
   simp only [F127.l0] at H
   by_cases c3:x7_1 < a1
   case neg =>
    rw [if_neg c3] at H
    have c3b0:decide (x7_1 < a1)=false:=decide_eq_false c3
    clear c3
    obtain rfl:=Option.some.inj H
    go_wp2
    go_ret
    exact ⟨by first|rfl|(simp;done)|(simp [*];done),by repeat (first|exact Drawn0.refl _|apply Drawn0.step)⟩
   rw [if_pos c3] at H
   have c3b0:=decide_eq_true c3
   clear c3
   replace H:=Option.bind_eq_some_iff.mp H
   obtain ⟨t101,A40,H⟩:=H
   replace H:(if t101=true then (F127.l0 k1 l0 a1 a1 (wrap64 (x7_1+1))) else (some false))=some r:=H
   have A4:=Aside0.mk A40
   clear A40
   by_cases c5:t101=true
   case neg =>
    replace c5:=Bool.eq_false_iff.mpr c5
    subst c5
    have H1:(some false)=some r:=by rw [if_neg (show ¬ (false=true) by decide)] at H;exact H
    clear H
    have H:=H1
    clear H1
    obtain rfl:=Option.some.inj H
    go_wp2_with (first|((with_reducible refine gate_callee (f:=118) rfl ?_);refine goesL_ (some 12) rfl rfl Try.func118 (by kernel_rfl) rfl #[.slice A0 l0.length c0,.int .i64 x7_1] rfl gm ?_;(with_reducible refine (F118.calls k1 _ _ l0 x7_1 false _ ?side1 ?side2 A4.out).mono ?_);(case side1=>exact aC HR0.out);(case side2=>exact HC0.out);rintro e w' ⟨rfl,⟨nd,rfl⟩⟩;refine ⟨_,rfl,?_⟩))
    go_ret
    exact ⟨by first|rfl|(simp;done)|(simp [*];done),by repeat (first|exact Drawn0.refl _|apply Drawn0.step)⟩
   subst c5
   have H1:(F127.l0 k1 l0 a1 a1 (wrap64 (x7_1+1)))=some r:=by rw [if_pos rfl] at H;exact H
   clear H
   have H:=H1
   clear H1
   have H':=Aside0.mk H
   clear H
   go_wp2_with (first|((with_reducible refine gate_callee (f:=118) rfl ?_);refine goesL_ (some 12) rfl rfl Try.func118 (by kernel_rfl) rfl #[.slice A0 l0.length c0,.int .i64 x7_1] rfl gm ?_;(with_reducible refine (F118.calls k1 _ _ l0 x7_1 true _ ?side1 ?side2 A4.out).mono ?_);(case side1=>exact aC HR0.out);(case side2=>exact HC0.out);rintro e w' ⟨rfl,⟨nd,rfl⟩⟩;refine ⟨_,rfl,?_⟩))
   go_roundg k1
   case measure=>have:=HK1.out;omega
   case rel=>exact ⟨(wrap64 (x7_1+1)),rs,H',⟨by have:=HK1.out;omega⟩,by repeat (first|exact Drawn0.refl _|apply Drawn0.step)⟩
/-! ### F215: function 215 -/
theorem ic_pred {b1 : Nat} (k : Nat) (A : Option Addr) (c : Nat) (l : List Int) (a0 : Int) (v1 : Value) (a2 : Int) (v3 : Value) (r : Bool) (w : World) (hr : Kd.C (Kd.int .i64) w A l.length l) (hc : l.length ≤ c) (hb : w.heap[b1]? = some (.cells #[.int .i64 a0, v1, .int .i64 a2, v3] 33 (0, 0))) (h : F127.f k l a2 = some r) :
  Calls Try.prog 215 #[.slice A l.length c,.pointer (some ⟨b1,0,none⟩)] w fun e w'=>e=.returned (.bool (!r))∧Drawn0 w w':=by
 have HR:=Aside0.mk hr
 have H:=Aside0.mk h
 have hq2:w.cell? ⟨b1,2,none⟩=some (.int .i64 a2):=(blk_cell hb 2).trans rfl
 have hf2:=blk_frozen hb 2
 clear hr hb h
 go_enter Try.func215,Try.ntmps215
 go_wp2_with (go_at_call 127;refine (F127.calls k A c l a2 r _ (by repeat (first|exact HR.out|(with_reducible refine Kd.C_alloc ?_ _)|(with_reducible refine Kd.C_drewN ?_ _)|(with_reducible refine Kd.C_drew ?_))) hc H.out).mono ?_;rintro e w_ ⟨rfl,⟨nd_,rfl⟩⟩)
 go_ret
 exact ⟨by first|rfl|(simp;done),by repeat (first|exact Drawn0.refl _|apply Drawn0.step)⟩
theorem ic_idx (p : List Int → Option Bool) (b1 : Nat) (A : Option Addr) (c : Nat) (l : List (List Int)) (R : Int) (w : World) (hr : Kd.C (Kd.slice 2 (Kd.int .i64)) w A l.length l)
 (hp:∀ (A':Option Addr) (c':Nat) (x:List Int) (b:Bool) w1,Below w.heap.size w w1→Kd.C (Kd.int .i64) w1 A' x.length x→x.length≤c'→p x=some b→Calls Try.prog 215 #[.slice A' x.length c',.pointer (some ⟨b1,0,none⟩)] w1 fun e w'=>e=.returned (.bool b)∧Below w1.heap.size w1 w') (h:idxM p l 0=some R) :
 Calls Try.prog 220 #[.slice A l.length c,.func (.func 215) #[] #[.pointer (some ⟨b1,0,none⟩)]] w fun e w'=>e=.returned (.int .i64 R)∧Below w.heap.size w w':=by
 have HR:=Aside0.mk hr
 have HP:=Aside0.mk hp
 have H':=Aside0.mk h
 have hlen:l.length≤9223372036854775807:=hr.2.1
 clear hr hp h
 go_enter Try.func220,Try.ntmps220
 go_wp2_with fail
 go_loopw [8] (fun i wr=>∃ k:Nat,k≤l.length∧i=.int .i64 k∧Aside0 (idxM p (l.drop k) k=some R)∧Aside0 (Below w.heap.size w wr)) (fun i _=>l.length - (intOf i).toNat)
 case atStart=>exact ⟨0,Nat.zero_le _,rfl,⟨by simpa using H'.out⟩,⟨Below.refl _ _⟩⟩
 case round =>
  clear H'
  obtain ⟨k,hk,rfl,HI,HB⟩:=hrel
  by_cases hlt:k < l.length
  case neg =>
   have hI:=HI.out
   rw [List.drop_of_length_le (by omega)] at hI
   simp only [idxM,Option.some.injEq] at hI
   subst hI
   have hb:decide (k < l.length)=false:=by simp;omega
   go_wp2
   go_ret
   exact ⟨rfl,HB.out⟩
  have hI:=HI.out
  rw [List.drop_eq_getElem_cons hlt] at hI
  simp only [idxM] at hI
  obtain ⟨b,hb,hI⟩:=Option.bind_eq_some_iff.mp hI
  obtain ⟨ad,A',c',e,hcell,hlc,hC⟩:=at_L1 (Kd.C_below HR.out HB.out) (k:Int) (by omega) (by omega)
  cases e
  rw [Int.toNat_natCast] at hcell
  have hx:rd_L1 l (k:Int)=l[k]:=by simp [rd_L1,List.getD_eq_getElem?_getD,hlt]
  rw [hx] at hcell hlc hC
  have HCX:=Aside0.mk hC
  have HLX:=Aside0.mk hlc
  have HBX:=Aside0.mk hb
  clear hC hlc hb hx
  cases b with
  | true =>
   simp only [if_true,Option.some.injEq] at hI
   subst hI
   go_wp2_with (go_at_call 215;refine (HP.out _ _ _ true _ HB.out HCX.out HLX.out HBX.out).mono ?_;rintro e w' ⟨rfl,hb_⟩;have HB2:=Aside0.mk (below_step HB.out hb_);clear hb_)
   go_ret
   exact ⟨rfl,HB2.out⟩
  | false =>
   simp only [Bool.false_eq_true,if_false] at hI
   have HD:=Aside0.mk hI
   clear hI
   go_wp2_with (go_at_call 215;refine (HP.out _ _ _ false _ HB.out HCX.out HLX.out HBX.out).mono ?_;rintro e w' ⟨rfl,hb_⟩;have HB2:=Aside0.mk (below_step HB.out hb_);clear hb_)
   go_roundw
   case rel=>exact ⟨k+1,by omega,by go_num,HD,HB2⟩
   case measure=>simp [intOf];omega
def F215.f (k:Nat) (l0:List (List Int)) (a1_0:Int) (l1_1:List (List Int)) (a1_2:Int) (l1_3:List (List Int)):Option Bool:=(idxM (fun x=>(F127.f k x a1_2).map not) l0 0).bind fun i=>some (decide (0≤i))
theorem F215.mono:∀ a0 a1 a2 a3 a4 k,LeO (F215.f k a0 a1 a2 a3 a4) (F215.f (k+1) a0 a1 a2 a3 a4):=by
 intro a0 a1 a2 a3 a4 k r h
 unfold F215.f at h ⊢
 obtain ⟨i,hi,h⟩:=Option.bind_eq_some_iff.mp h
 have e:=idxM_mono (p:=fun x=>(F127.f k x a3).map not) (q:=fun x=>(F127.f (k+1) x a3).map not) (fun x r hx=>by
  obtain ⟨b,hb,rfl⟩:=Option.map_eq_some_iff.1 hx
  rw [F127.mono _ _ _ _ hb];rfl) a0 0 i hi
 rw [e]
 exact h
set_option maxHeartbeats 8000000 in
set_option maxRecDepth 100000 in
theorem F215.calls {b1 : Nat} (k : Nat) (A0 : Option Addr) (c0 : Nat) (l0 : List (List Int)) (a1_0 : Int) (A1_1 : Option Addr) (c1_1 : Nat) (l1_1 : List (List Int)) (a1_2 : Int) (A1_3 : Option Addr) (c1_3 : Nat) (l1_3 : List (List Int)) (r : Bool) (w : World) (hr0 : Kd.C (Kd.slice 2 (Kd.int .i64)) w A0 l0.length l0) (hc0 : l0.length ≤ c0) (hr1_1 : Kd.C (Kd.slice 2 (Kd.int .i64)) w A1_1 l1_1.length l1_1) (hc1_1 : l1_1.length ≤ c1_1) (hr1_3 : Kd.C (Kd.slice 2 (Kd.int .i64)) w A1_3 l1_3.length l1_3) (hc1_3 : l1_3.length ≤ c1_3) (hb1 : w.heap[b1]? = some (.cells #[.int .i64 a1_0, .slice A1_1 l1_1.length c1_1, .int .i64 a1_2, .slice A1_3 l1_3.length c1_3] 33 (0, 0))) (h : F215.f k l0 a1_0 l1_1 a1_2 l1_3 = some r) :
  Calls Try.prog 180 #[.slice A0 l0.length c0,.func (.func 215) #[] #[.pointer (some ⟨b1,0,none⟩)]] w fun e w'=>e=.returned (.bool r)∧Below w.heap.size w w':=by
 unfold F215.f at h
 obtain ⟨i,hi,h⟩:=Option.bind_eq_some_iff.mp h
 obtain rfl:=Option.some.inj h
 have HC:=fun W (hw:Below w.heap.size w W)=>ic_idx (fun x=>(F127.f k x a1_2).map not) b1 A0 c0 l0 i W (Kd.C_below hr0 hw) (fun A' c' x b w1 hw1 hC hc hx=>by
  obtain ⟨b',hb',rfl⟩:=Option.map_eq_some_iff.1 hx
  exact (ic_pred k A' c' x a1_0 _ a1_2 _ b' w1 hC hc (blk_below hb1 (below_step hw hw1)) hb').mono fun e w' ⟨h1,h2⟩=>⟨h1,h2.below⟩) hi
 have HC':=Aside0.mk HC
 clear HC hr0 hr1_1 hr1_3 hb1 hi h
 go_enter Try.func180,Try.ntmps180
 go_wp2_with (go_at_call 220;refine (HC'.out _ (Below.refl _ _)).mono ?_;rintro e w' ⟨rfl,hb_⟩;have HB2:=Aside0.mk hb_;clear hb_)
 go_ret
 exact ⟨by first|rfl|(simp;done),HB2.out⟩
end Go.Proofs.Ytoebojnhchocaaa.A
/- Set with little white space, by a program. -/
