/- The functions that one law reaches, each as a Lean function, and that Go's call comes to what it says. Condition of each: that the Lean function answers (is not none). -/
import Derived.Test.YtjgdibhalmcigaaDx0
import Derived.Test.YtjgdibhalmcigaaDx1
import Derived.Test.YtjgdibhalmcigaaDx3
namespace Go.Proofs.Ytjgdibhalmcigaa.D
open Go.RowKit Go.Proofs.YtjgdibhalmcigaaW.PrintWords Go.Proofs.YtjgdibhalmcigaaW.PrintLast Go.Proofs.YtjgdibhalmcigaaW.PrintMore
attribute [local go_sem] max2_int min2_int max_two min_two max_three min_three max_four min_four   -- for this text's walks alone
set_option linter.unusedVariables false
set_option linter.unusedSimpArgs false
/-! ### spec_l01Degree: function 98 -/
mutual
def spec_l01Degree.l0 : Nat → Int → Int → Int → Int → List (List Int) → Option (Int)
 | 0,_,_,_,_,_=>none
 | k+1,x1,x5,x6,x102000,x102001=>if x6 < (x102001.length:Int) then (spec_l01Degree.l1 k x1 x5 x6 0 x102000 x102001) else (some x5)
def spec_l01Degree.l1 : Nat → Int → Int → Int → Int → Int → List (List Int) → Option (Int)
 | 0,_,_,_,_,_,_=>none
 | k+1,x1,x5,x6,x7,x102000,x102001=>if x7 < 2 then (if 0≤x6 then (if x6 < (x102001.length:Int) then (if 0≤x7 then (if x7 < ((rd_L1 x102001 x6).length:Int) then (if (rd (rd_L1 x102001 x6) x7)=x1 then (spec_l01Degree.l1 k x1 (wrap64 (x5+1)) x6 (wrap64 (x7+1)) x102000 x102001) else (spec_l01Degree.l1 k x1 x5 x6 (wrap64 (x7+1)) x102000 x102001)) else (none)) else (none)) else (none)) else (none)) else (spec_l01Degree.l0 k x1 x5 (wrap64 (x6+1)) x102000 x102001)
end
def spec_l01Degree.f (k:Nat) (a0_0:Int) (l0_1:List (List Int)) (a1:Int):Option (Int):=spec_l01Degree.l0 k a1 0 0 a0_0 l0_1
theorem spec_l01Degree.mono_l : ∀ k, (∀ y0 y1 y2 y3 y4, LeO (spec_l01Degree.l0 k y0 y1 y2 y3 y4) (spec_l01Degree.l0 (k + 1) y0 y1 y2 y3 y4)) ∧ (∀ y0 y1 y2 y3 y4 y5, LeO (spec_l01Degree.l1 k y0 y1 y2 y3 y4 y5) (spec_l01Degree.l1 (k + 1) y0 y1 y2 y3 y4 y5))
 | 0=>⟨fun _ _ _ _ _ r h=>by simp [spec_l01Degree.l0] at h,fun _ _ _ _ _ _ r h=>by simp [spec_l01Degree.l1] at h⟩
 | k+1=>by
  obtain ⟨ih0,ih1⟩:=spec_l01Degree.mono_l k
  refine ⟨?_,?_⟩
  ·intro y0 y1 y2 y3 y4
   unfold spec_l01Degree.l0
   repeat' first
   | (with_reducible exact ih0 _ _ _ _ _)
   | (with_reducible exact ih1 _ _ _ _ _ _)
   | (with_reducible exact LeO.refl _)
   | (with_reducible exact LeO.none _)
   | (with_reducible refine LeO.ite ?_ ?_)
   | (with_reducible refine LeO.bind ?_ (fun _=>?_))
   | exact ih0 _ _ _ _ _
   | exact ih1 _ _ _ _ _ _
   | exact LeO.none _
   | refine LeO.ite ?_ ?_
   | refine LeO.bind ?_ (fun _=>?_)
  ·intro y0 y1 y2 y3 y4 y5
   unfold spec_l01Degree.l1
   repeat' first
   | (with_reducible exact ih0 _ _ _ _ _)
   | (with_reducible exact ih1 _ _ _ _ _ _)
   | (with_reducible exact LeO.refl _)
   | (with_reducible exact LeO.none _)
   | (with_reducible refine LeO.ite ?_ ?_)
   | (with_reducible refine LeO.bind ?_ (fun _=>?_))
   | exact ih0 _ _ _ _ _
   | exact ih1 _ _ _ _ _ _
   | exact LeO.none _
   | refine LeO.ite ?_ ?_
   | refine LeO.bind ?_ (fun _=>?_)
theorem spec_l01Degree.mono:∀ a0 a1 a2 k,LeO (spec_l01Degree.f k a0 a1 a2) (spec_l01Degree.f (k+1) a0 a1 a2):=by
 intro a0 a1 a2 k
 obtain ⟨ih0,ih1⟩:=spec_l01Degree.mono_l k
 unfold spec_l01Degree.f
 repeat' first
   | (with_reducible exact ih0 _ _ _ _ _)
   | (with_reducible exact ih1 _ _ _ _ _ _)
   | (with_reducible exact LeO.refl _)
   | (with_reducible exact LeO.none _)
   | (with_reducible refine LeO.ite ?_ ?_)
   | (with_reducible refine LeO.bind ?_ (fun _=>?_))
   | exact ih0 _ _ _ _ _
   | exact ih1 _ _ _ _ _ _
   | exact LeO.none _
   | refine LeO.ite ?_ ?_
   | refine LeO.bind ?_ (fun _=>?_)
set_option maxHeartbeats 8000000 in
set_option maxRecDepth 100000 in
theorem spec_l01Degree.calls (k : Nat) (a0_0 : Int) (A0_1 : Option Addr) (c0_1 : Nat) (l0_1 : List (List Int)) (a1 : Int) (r : Int) (w : World) (hr0_1 : Kd.C (Kd.slice 2 (Kd.int .i64)) w A0_1 l0_1.length l0_1) (hc0_1 : l0_1.length ≤ c0_1) (h : spec_l01Degree.f k a0_0 l0_1 a1 = some r) :
  Calls Try.prog 98 #[.agg #[.int .i64 a0_0,.slice A0_1 l0_1.length c0_1],.int .i64 a1] w fun e w'=>e=.returned (.int .i64 r)∧Below w.heap.size w w':=by
 have hu28:=Try.underlying28
 have HR0_1:=Aside0.mk hr0_1
 have HC0_1:=Aside0.mk hc0_1
 clear hr0_1 hc0_1
 have HB:=Aside0.mk (Below.refl w.heap.size w)
 have H:(spec_l01Degree.l0 k a1 0 0 a0_0 l0_1)=some r:=h
 clear h
 have H':=Aside0.mk H
 clear H
 go_enter Try.func98,Try.ntmps98
 go_wp2_with (first|((with_reducible refine gate_dst (N:=2) rfl ?_);refine box_event ?hg (N:=2) ?hd (cs:=#[.int .i64 a0_0,.slice A0_1 l0_1.length c0_1]) (t:=28) ?hr ?_;(case hd=>rfl);(case hg=>rfl);(case hr=>first|(go_simp;done)|(go_simp;rfl));intro gb101 hg w3 hbox hb;have n0_:=Aside0.mk (below_step bl hb);have n1_:=Aside0.mk (hbox);have n2_:=Aside0.mk ((by rw [hg];exact (below_size bl):w.heap.size≤gb101));have n3_:=Aside0.mk ((by rw [hg];exact (below_size bl):w.heap.size≤gb101));clear HB;have HB:=n0_;have BK101:=n1_;have GW101:=n2_;have GE101:=n3_;clear n0_ n1_ n2_ n3_;clear hb hbox hg))
 go_loopg [5,6] k (fun kq v5 v6 w'=>∃ (x5_1:Int) (x6_1:Int),v5=.int .i64 x5_1∧v6=.int .i64 x6_1∧Aside0 (spec_l01Degree.l0 kq a1 x5_1 x6_1 a0_0 l0_1=some r)∧Aside0 (kq≤k)∧Aside0 (w'.heap[gb101]?=some (.cells #[.int .i64 a0_0,(.slice A0_1 l0_1.length c0_1)] 28 (0,0)))∧Aside0 (Below w.heap.size w w'))
 case atStart=>exact ⟨(0),(0),rs,rs,H',⟨Nat.le_refl _⟩,⟨bk⟩,⟨bl⟩⟩
 case round =>
  clear H'
  (try clear p2)
  obtain ⟨x5_1,x6_1,rfl,rfl,HA,HK1,BK101,HB⟩:=hrel
  cases gk with
  | zero=>exact absurd HA.out (by simp [spec_l01Degree.l0])
  | succ k1 =>
   have H:=HA.out
   clear HA
   simp only [spec_l01Degree.l0] at H
   by_cases c4:x6_1 < (l0_1.length:Int)
   case neg =>
    rw [if_neg c4] at H
    have c4b0:decide (x6_1 < (l0_1.length:Int))=false:=decide_eq_false c4
    clear c4
    obtain rfl:=Option.some.inj H
    have hcz14_0:wr.cell? ⟨gb101,0,none⟩=some (.int .i64 a0_0):=(blk_cell BK101.out 0).trans rfl
    have hcz14_1:wr.cell? ⟨gb101,1,none⟩=some (.slice A0_1 l0_1.length c0_1):=(blk_cell BK101.out 1).trans rfl
    have hfz14_0:=blk_frozen BK101.out 0
    have hfz14_1:=blk_frozen BK101.out 1
    go_wp2
    go_ret
    exact ⟨by first|rfl|(simp [errW_none,errW_some]<;>rfl)|(simp [*,errW_none,errW_some]<;>rfl),bl⟩
   rw [if_pos c4] at H
   have c4b0:decide (x6_1 < (l0_1.length:Int))=true:=decide_eq_true c4
   clear c4
   have H':=Aside0.mk H
   clear H
   have hcz5_0:wr.cell? ⟨gb101,0,none⟩=some (.int .i64 a0_0):=(blk_cell BK101.out 0).trans rfl
   have hcz5_1:wr.cell? ⟨gb101,1,none⟩=some (.slice A0_1 l0_1.length c0_1):=(blk_cell BK101.out 1).trans rfl
   have hfz5_0:=blk_frozen BK101.out 0
   have hfz5_1:=blk_frozen BK101.out 1
   go_wp2
   go_loopg [5,7] k1 (fun kq v5 v7 w'=>∃ (x5_2:Int) (x7_2:Int),v5=.int .i64 x5_2∧v7=.int .i64 x7_2∧Aside0 (spec_l01Degree.l1 kq a1 x5_2 x6_1 x7_2 a0_0 l0_1=some r)∧Aside0 (kq≤k1)∧Aside0 (w'.heap[gb101]?=some (.cells #[.int .i64 a0_0,(.slice A0_1 l0_1.length c0_1)] 28 (0,0)))∧Aside0 (Below w.heap.size w w'))
   case atStart=>exact ⟨(x5_1),(0),rs,rs,H',⟨Nat.le_refl _⟩,⟨bk⟩,⟨bl⟩⟩
   case round =>
    clear H'
    (try clear p2);(try clear c4);(try clear c4b0);(try clear hcz5_0);(try clear hcz5_1);(try clear hfz5_0);(try clear hfz5_1);(try clear p2)
    obtain ⟨x5_2,x7_2,rfl,rfl,HA,HK2,BK101,HB⟩:=hrel
    cases gk with
    | zero=>exact absurd HA.out (by simp [spec_l01Degree.l1])
    | succ k2 =>
     have H:=HA.out
     clear HA
     simp only [spec_l01Degree.l1] at H
     by_cases c6:x7_2 < 2
     case neg =>
      rw [if_neg c6] at H
      have c6b0:decide (x7_2 < 2)=false:=decide_eq_false c6
      clear c6
      have H':=Aside0.mk H
      clear H
      go_wp2
      go_roundg k2
      case measure=>have:=HK1.out;have:=HK2.out;omega
      case rel=>exact ⟨(x5_2),(wrap64 (x6_1+1)),rs,rs,H',⟨by have:=HK1.out;have:=HK2.out;omega⟩,⟨bk⟩,⟨bl⟩⟩
     rw [if_pos c6] at H
     have c6b0:decide (x7_2 < 2)=true:=decide_eq_true c6
     clear c6
     by_cases c7:0≤x6_1
     case neg=>rw [if_neg c7] at H;exact absurd H (by simp)
     rw [if_pos c7] at H
     have c7b0:decide (0≤x6_1)=true:=decide_eq_true c7
     clear c7
     by_cases c8:x6_1 < (l0_1.length:Int)
     case neg=>rw [if_neg c8] at H;exact absurd H (by simp)
     rw [if_pos c8] at H
     have c8b0:decide (x6_1 < (l0_1.length:Int))=true:=decide_eq_true c8
     clear c8
     by_cases c9:0≤x7_2
     case neg=>rw [if_neg c9] at H;exact absurd H (by simp)
     rw [if_pos c9] at H
     have c9b0:decide (0≤x7_2)=true:=decide_eq_true c9
     clear c9
     by_cases c10:x7_2 < ((rd_L1 l0_1 x6_1).length:Int)
     case neg=>rw [if_neg c10] at H;exact absurd H (by simp)
     rw [if_pos c10] at H
     have c10b0:decide (x7_2 < ((rd_L1 l0_1 x6_1).length:Int))=true:=decide_eq_true c10
     clear c10
     by_cases c11:(rd (rd_L1 l0_1 x6_1) x7_2)=a1
     case neg =>
      rw [if_neg c11] at H
      have c11b0:((rd (rd_L1 l0_1 x6_1) x7_2) == a1)=false:=beq_eq_false_iff_ne.mpr c11
      have c11b1:((rd (rd_L1 l0_1 x6_1) x7_2) != a1)=true:=bne_iff_ne.mpr c11
      have H':=Aside0.mk H
      clear H
      have hcz13_0:wr.cell? ⟨gb101,0,none⟩=some (.int .i64 a0_0):=(blk_cell BK101.out 0).trans rfl
      have hcz13_1:wr.cell? ⟨gb101,1,none⟩=some (.slice A0_1 l0_1.length c0_1):=(blk_cell BK101.out 1).trans rfl
      have hfz13_0:=blk_frozen BK101.out 0
      have hfz13_1:=blk_frozen BK101.out 1
      have p102:0≤(x6_1:Int):=oD
      have q102:x6_1 < (l0_1.length:Int):=oD
      obtain ⟨ad102,A102_0,c102_0,e102,hx102_0,hl102_0,hi102_0⟩:=at_L1 HR0_1.out x6_1 p102 q102
      cases e102
      replace hx102_0:=hbc HB hx102_0
      have HR102_0:=Aside0.mk hi102_0
      have HC102_0:=Aside0.mk hl102_0
      clear hi102_0 hl102_0
      replace p102:=eq_true p102
      replace q102:=eq_true q102
      have p103:0≤(x7_2:Int):=oD
      have q103:x7_2 < ((rd_L1 l0_1 x6_1).length:Int):=oD
      obtain ⟨ad103,e103,hx103_0⟩:=Kd.at_int HR102_0.out x7_2 p103 q103
      cases e103
      replace hx103_0:=hbc HB hx103_0
      replace p103:=eq_true p103
      replace q103:=eq_true q103
      go_wp2
      go_roundg k2
      case measure=>have:=HK1.out;have:=HK2.out;omega
      case rel=>exact ⟨(x5_2),(wrap64 (x7_2+1)),rs,rs,H',⟨by have:=HK1.out;have:=HK2.out;omega⟩,⟨bk⟩,⟨bl⟩⟩
     rw [if_pos c11] at H
     have c11b0:((rd (rd_L1 l0_1 x6_1) x7_2) == a1)=true:=beq_iff_eq.mpr c11
     have c11b1:((rd (rd_L1 l0_1 x6_1) x7_2) != a1)=false:=bne_eq_false_iff_eq.mpr c11
     clear c11
     have H':=Aside0.mk H
     clear H
     have hcz12_0:wr.cell? ⟨gb101,0,none⟩=some (.int .i64 a0_0):=(blk_cell BK101.out 0).trans rfl
     have hcz12_1:wr.cell? ⟨gb101,1,none⟩=some (.slice A0_1 l0_1.length c0_1):=(blk_cell BK101.out 1).trans rfl
     have hfz12_0:=blk_frozen BK101.out 0
     have hfz12_1:=blk_frozen BK101.out 1
     have p102:0≤(x6_1:Int):=oD
     have q102:x6_1 < (l0_1.length:Int):=oD
     obtain ⟨ad102,A102_0,c102_0,e102,hx102_0,hl102_0,hi102_0⟩:=at_L1 HR0_1.out x6_1 p102 q102
     cases e102
     replace hx102_0:=hbc HB hx102_0
     have HR102_0:=Aside0.mk hi102_0
     have HC102_0:=Aside0.mk hl102_0
     clear hi102_0 hl102_0
     replace p102:=eq_true p102
     replace q102:=eq_true q102
     have p103:0≤(x7_2:Int):=oD
     have q103:x7_2 < ((rd_L1 l0_1 x6_1).length:Int):=oD
     obtain ⟨ad103,e103,hx103_0⟩:=Kd.at_int HR102_0.out x7_2 p103 q103
     cases e103
     replace hx103_0:=hbc HB hx103_0
     replace p103:=eq_true p103
     replace q103:=eq_true q103
     go_wp2
     go_roundg k2
     case measure=>have:=HK1.out;have:=HK2.out;omega
     case rel=>exact ⟨(wrap64 (x5_2+1)),(wrap64 (x7_2+1)),rs,rs,H',⟨by have:=HK1.out;have:=HK2.out;omega⟩,⟨bk⟩,⟨bl⟩⟩
/-! ### spec_l02Prune: function 67 -/
mutual
def spec_l02Prune.l0 : Nat → Int → Int → List (List Int) → Option (Int × (List (List Int)))
 | 0,_,_,_=>none
 | k+1,x4,x108000,x108001=>if x4 < x108000 then ((spec_l01Degree.f k x108000 x108001 x4).bind fun t108=>(if t108=1 then (spec_l02Prune.l1 k x4 (([]:List (List Int))) 0 x108000 x108001) else (spec_l02Prune.l0 k (wrap64 (x4+1)) x108000 x108001))) else (some (x108000,x108001))
def spec_l02Prune.l1 : Nat → Int → List (List Int) → Int → Int → List (List Int) → Option (Int × (List (List Int)))
 | 0,_,_,_,_,_=>none
 | k+1,x4,x5,x6,x108000,x108001=>if x6 < (x108001.length:Int) then (if 0≤x6 then (if 0 < ((rd_L1 x108001 x6).length:Int) then (if 1 < ((rd_L1 x108001 x6).length:Int) then (if (rd (rd_L1 x108001 x6) 0)=x4 then (spec_l02Prune.j2 k x4 x5 x6 (rd (rd_L1 x108001 x6) 0) (rd (rd_L1 x108001 x6) 1) true x108000 x108001) else (spec_l02Prune.j2 k x4 x5 x6 (rd (rd_L1 x108001 x6) 0) (rd (rd_L1 x108001 x6) 1) ((rd (rd_L1 x108001 x6) 1) == x4) x108000 x108001)) else (none)) else (none)) else (none)) else (spec_l02Prune.l0 k 0 (wrap64 (x108000 - 1)) x5)
def spec_l02Prune.j2 : Nat → Int → List (List Int) → Int → Int → Int → Bool → Int → List (List Int) → Option (Int × (List (List Int)))
 | 0,_,_,_,_,_,_,_,_=>none
 | k+1,x4,x5,x6,x7,x8,x50,x108000,x108001=>if x50=true then (spec_l02Prune.l1 k x4 x5 (wrap64 (x6+1)) x108000 x108001) else (if x7 > x4 then (if x8 > x4 then (if x5.length < 5864062014805 then (spec_l02Prune.l1 k x4 (x5 ++ [(([wrap64 (x7 - 1),wrap64 (x8 - 1)]:List Int))]) (wrap64 (x6+1)) x108000 x108001) else (none)) else (if x5.length < 5864062014805 then (spec_l02Prune.l1 k x4 (x5 ++ [(([wrap64 (x7 - 1),x8]:List Int))]) (wrap64 (x6+1)) x108000 x108001) else (none))) else (if x8 > x4 then (if x5.length < 5864062014805 then (spec_l02Prune.l1 k x4 (x5 ++ [(([x7,wrap64 (x8 - 1)]:List Int))]) (wrap64 (x6+1)) x108000 x108001) else (none)) else (if x5.length < 5864062014805 then (spec_l02Prune.l1 k x4 (x5 ++ [(([x7,x8]:List Int))]) (wrap64 (x6+1)) x108000 x108001) else (none))))
end
def spec_l02Prune.f (k:Nat) (a0_0:Int) (l0_1:List (List Int)):Option (Int × (List (List Int))):=(spec_l01Copy.f k a0_0 l0_1).bind fun bt103=>(spec_l02Prune.l0 k 0 bt103.1 bt103.2)
theorem spec_l02Prune.mono_l : ∀ k, (∀ y0 y1 y2, LeO (spec_l02Prune.l0 k y0 y1 y2) (spec_l02Prune.l0 (k + 1) y0 y1 y2)) ∧ (∀ y0 y1 y2 y3 y4, LeO (spec_l02Prune.l1 k y0 y1 y2 y3 y4) (spec_l02Prune.l1 (k + 1) y0 y1 y2 y3 y4)) ∧ (∀ y0 y1 y2 y3 y4 y5 y6 y7, LeO (spec_l02Prune.j2 k y0 y1 y2 y3 y4 y5 y6 y7) (spec_l02Prune.j2 (k + 1) y0 y1 y2 y3 y4 y5 y6 y7))
 | 0=>⟨fun _ _ _ r h=>by simp [spec_l02Prune.l0] at h,fun _ _ _ _ _ r h=>by simp [spec_l02Prune.l1] at h,fun _ _ _ _ _ _ _ _ r h=>by simp [spec_l02Prune.j2] at h⟩
 | k+1=>by
  obtain ⟨ih0,ih1,ih2⟩:=spec_l02Prune.mono_l k
  refine ⟨?_,?_,?_⟩
  ·intro y0 y1 y2
   unfold spec_l02Prune.l0
   repeat' first
   | (with_reducible exact ih0 _ _ _)
   | (with_reducible exact ih1 _ _ _ _ _)
   | (with_reducible exact ih2 _ _ _ _ _ _ _ _)
   | (with_reducible exact spec_l01Copy.mono _ _ _)
   | (with_reducible exact spec_l01Degree.mono _ _ _ _)
   | (with_reducible exact LeO.refl _)
   | (with_reducible exact LeO.none _)
   | (with_reducible refine LeO.ite ?_ ?_)
   | (with_reducible refine LeO.bind ?_ (fun _=>?_))
   | exact ih0 _ _ _
   | exact ih1 _ _ _ _ _
   | exact ih2 _ _ _ _ _ _ _ _
   | exact spec_l01Copy.mono _ _ _
   | exact spec_l01Degree.mono _ _ _ _
   | exact LeO.none _
   | refine LeO.ite ?_ ?_
   | refine LeO.bind ?_ (fun _=>?_)
  ·intro y0 y1 y2 y3 y4
   unfold spec_l02Prune.l1
   repeat' first
   | (with_reducible exact ih0 _ _ _)
   | (with_reducible exact ih1 _ _ _ _ _)
   | (with_reducible exact ih2 _ _ _ _ _ _ _ _)
   | (with_reducible exact spec_l01Copy.mono _ _ _)
   | (with_reducible exact spec_l01Degree.mono _ _ _ _)
   | (with_reducible exact LeO.refl _)
   | (with_reducible exact LeO.none _)
   | (with_reducible refine LeO.ite ?_ ?_)
   | (with_reducible refine LeO.bind ?_ (fun _=>?_))
   | exact ih0 _ _ _
   | exact ih1 _ _ _ _ _
   | exact ih2 _ _ _ _ _ _ _ _
   | exact spec_l01Copy.mono _ _ _
   | exact spec_l01Degree.mono _ _ _ _
   | exact LeO.none _
   | refine LeO.ite ?_ ?_
   | refine LeO.bind ?_ (fun _=>?_)
  ·intro y0 y1 y2 y3 y4 y5 y6 y7
   unfold spec_l02Prune.j2
   repeat' first
   | (with_reducible exact ih0 _ _ _)
   | (with_reducible exact ih1 _ _ _ _ _)
   | (with_reducible exact ih2 _ _ _ _ _ _ _ _)
   | (with_reducible exact spec_l01Copy.mono _ _ _)
   | (with_reducible exact spec_l01Degree.mono _ _ _ _)
   | (with_reducible exact LeO.refl _)
   | (with_reducible exact LeO.none _)
   | (with_reducible refine LeO.ite ?_ ?_)
   | (with_reducible refine LeO.bind ?_ (fun _=>?_))
   | exact ih0 _ _ _
   | exact ih1 _ _ _ _ _
   | exact ih2 _ _ _ _ _ _ _ _
   | exact spec_l01Copy.mono _ _ _
   | exact spec_l01Degree.mono _ _ _ _
   | exact LeO.none _
   | refine LeO.ite ?_ ?_
   | refine LeO.bind ?_ (fun _=>?_)
theorem spec_l02Prune.mono:∀ a0 a1 k,LeO (spec_l02Prune.f k a0 a1) (spec_l02Prune.f (k+1) a0 a1):=by
 intro a0 a1 k
 obtain ⟨ih0,ih1,ih2⟩:=spec_l02Prune.mono_l k
 unfold spec_l02Prune.f
 repeat' first
   | (with_reducible exact ih0 _ _ _)
   | (with_reducible exact ih1 _ _ _ _ _)
   | (with_reducible exact ih2 _ _ _ _ _ _ _ _)
   | (with_reducible exact spec_l01Copy.mono _ _ _)
   | (with_reducible exact spec_l01Degree.mono _ _ _ _)
   | (with_reducible exact LeO.refl _)
   | (with_reducible exact LeO.none _)
   | (with_reducible refine LeO.ite ?_ ?_)
   | (with_reducible refine LeO.bind ?_ (fun _=>?_))
   | exact ih0 _ _ _
   | exact ih1 _ _ _ _ _
   | exact ih2 _ _ _ _ _ _ _ _
   | exact spec_l01Copy.mono _ _ _
   | exact spec_l01Degree.mono _ _ _ _
   | exact LeO.none _
   | refine LeO.ite ?_ ?_
   | refine LeO.bind ?_ (fun _=>?_)
set_option maxHeartbeats 8000000 in
set_option maxRecDepth 100000 in
theorem spec_l02Prune.calls (k : Nat) (a0_0 : Int) (A0_1 : Option Addr) (c0_1 : Nat) (l0_1 : List (List Int)) (r1 : Int) (r2 : List (List Int)) (w : World) (hr0_1 : Kd.C (Kd.slice 2 (Kd.int .i64)) w A0_1 l0_1.length l0_1) (hc0_1 : l0_1.length ≤ c0_1) (h : spec_l02Prune.f k a0_0 l0_1 = some (r1, r2)) :
  Calls Try.prog 67 #[.agg #[.int .i64 a0_0,.slice A0_1 l0_1.length c0_1]] w fun e w'=>∃ v1_:Value,e=.returned (.agg #[.int .i64 r1,v1_])∧Kd.S (Kd.slice 2 (Kd.int .i64)) 32 w' w.heap.size (fun _=>True) v1_ r2∧Below w.heap.size w w':=by
 have hu28:=Try.underlying28
 have HR0_1:=Aside0.mk hr0_1
 have HC0_1:=Aside0.mk hc0_1
 clear hr0_1 hc0_1
 have HB:=Aside0.mk (Below.refl w.heap.size w)
 have H:((spec_l01Copy.f k a0_0 l0_1).bind fun bt103=>(spec_l02Prune.l0 k 0 bt103.1 bt103.2))=some (r1,r2):=h
 clear h
 replace H:=Option.bind_eq_some_iff.mp H
 obtain ⟨⟨t103,t104⟩,A20,H⟩:=H
 replace H:(spec_l02Prune.l0 k 0 t103 t104)=some (r1,r2):=H
 have A2:=Aside0.mk A20
 clear A20
 have H':=Aside0.mk H
 clear H
 go_enter Try.func67,Try.ntmps67
 go_wp2_with (first|((with_reducible refine gate_dst (N:=1) rfl ?_);refine box_event ?hg (N:=1) ?hd (cs:=#[.int .i64 a0_0,.slice A0_1 l0_1.length c0_1]) (t:=28) ?hr ?_;(case hd=>rfl);(case hg=>rfl);(case hr=>first|(go_simp;done)|(go_simp;rfl));intro gb101 hg w3 hbox hb;have n0_:=Aside0.mk (below_step bl hb);have n1_:=Aside0.mk (hbox);have n2_:=Aside0.mk ((by rw [hg];exact (below_size bl):w.heap.size≤gb101));have n3_:=Aside0.mk ((by rw [hg];exact (below_size bl):w.heap.size≤gb101));clear HB;have HB:=n0_;have BK101:=n1_;have GW101:=n2_;have GE101:=n3_;clear n0_ n1_ n2_ n3_;clear hb hbox hg)|((with_reducible refine gate_dst (N:=2) rfl ?_);refine box_event ?hg (N:=2) ?hd (cs:=#[.int .i64 0,.slice none 0 0]) (t:=28) ?hr ?_;(case hd=>rfl);(case hg=>rfl);(case hr=>first|(go_simp;done)|(go_simp;rfl));intro gb102 hg w4 hbox hb;have n0_:=Aside0.mk (blk_below (g:=gb101) (o:=.cells #[.int .i64 a0_0,.slice A0_1 l0_1.length c0_1] 28 (0,0)) bk hb);have n1_:=Aside0.mk (below_step bl hb);have n2_:=Aside0.mk (hbox);have n3_:=Aside0.mk ((by rw [hg];exact (below_size bl):w.heap.size≤gb102));have n4_:=Aside0.mk ((by rw [hg];exact (below_size bl):w.heap.size≤gb102));have n5_:=Aside0.mk ((by rw [hg];exact Nat.ne_of_lt (blk_lt (g:=gb101) (o:=.cells #[.int .i64 a0_0,.slice A0_1 l0_1.length c0_1] 28 (0,0)) bk):gb101 ≠ gb102));have n6_:=Aside0.mk ((by rw [hg];exact Nat.ne_of_gt (blk_lt (g:=gb101) (o:=.cells #[.int .i64 a0_0,.slice A0_1 l0_1.length c0_1] 28 (0,0)) bk):gb102 ≠ gb101));clear BK101;clear HB;have BK101:=n0_;have HB:=n1_;have BK102:=n2_;have GW102:=n3_;have GE102:=n4_;have NB101_102:=n5_;have NB102_101:=n6_;clear n0_ n1_ n2_ n3_ n4_ n5_ n6_;clear hb hbox hg;have hnb5:=NB101_102.out;have hnc5:=NB102_101.out;have hcz6_0:w4.cell? ⟨gb101,0,none⟩=some (.int .i64 a0_0):=(blk_cell BK101.out 0).trans rfl;have hcz6_1:w4.cell? ⟨gb101,1,none⟩=some (.slice A0_1 l0_1.length c0_1):=(blk_cell BK101.out 1).trans rfl;have hfz6_0:=blk_frozen BK101.out 0;have hfz6_1:=blk_frozen BK101.out 1)|(go_at_call 97;(with_reducible refine (spec_l01Copy.calls k a0_0 _ _ l0_1 t103 t104 _ ?side1 ?side2 A2.out).mono ?_);(case side1=>repeat (first|exact (Kd.C_below HR0_1.out HB.out)|(with_reducible refine Kd.C_alloc ?_ _)|(with_reducible refine Kd.C_drewN ?_ _)|(with_reducible refine Kd.C_drew ?_)));(case side2=>exact HC0_1.out);rintro e w7 ⟨v105,rfl,ho0,hb⟩;have n0_:=Aside0.mk (Kd.S_lower ho0 (below_size bl));have n1_:=Aside0.mk (blk_below (g:=gb101) (o:=.cells #[.int .i64 a0_0,.slice A0_1 l0_1.length c0_1] 28 (0,0)) bk hb);have n2_:=Aside0.mk (blk_below (g:=gb102) (o:=.cells #[.int .i64 0,.slice none 0 0] 28 (0,0)) bk hb);have n3_:=Aside0.mk (below_step bl hb);clear BK101;clear BK102;clear HB;have HO106:=n0_;have BK101:=n1_;have BK102:=n2_;have HB:=n3_;clear n0_ n1_ n2_ n3_;(try clear hb);(try clear hb2);(try clear hk);(try clear hi);(try clear ho0))|((with_reducible refine gate_dst (N:=3) rfl ?_);refine box_event ?hg (N:=3) ?hd (cs:=#[.int .i64 0,.slice none 0 0]) (t:=28) ?hr ?_;(case hd=>rfl);(case hg=>rfl);(case hr=>first|(go_simp;done)|(go_simp;rfl));intro gb107 hg w8 hbox hb;have n0_:=Aside0.mk (Kd.S_below (by (with_reducible repeat (first|apply Kd.S_alloc|apply Kd.S_drewN|apply Kd.S_drew));exact HO106.out) hb);have n1_:=Aside0.mk (blk_below (g:=gb101) (o:=.cells #[.int .i64 a0_0,.slice A0_1 l0_1.length c0_1] 28 (0,0)) bk hb);have n2_:=Aside0.mk (blk_below (g:=gb102) (o:=.cells #[.int .i64 0,.slice none 0 0] 28 (0,0)) bk hb);have n3_:=Aside0.mk (below_step bl hb);have n4_:=Aside0.mk (hbox);have n5_:=Aside0.mk ((by rw [hg];exact (below_size bl):w.heap.size≤gb107));have n6_:=Aside0.mk ((by rw [hg];exact (below_size bl):w.heap.size≤gb107));have n7_:=Aside0.mk ((by rw [hg];exact Nat.ne_of_lt (blk_lt (g:=gb101) (o:=.cells #[.int .i64 a0_0,.slice A0_1 l0_1.length c0_1] 28 (0,0)) bk):gb101 ≠ gb107));have n8_:=Aside0.mk ((by rw [hg];exact Nat.ne_of_gt (blk_lt (g:=gb101) (o:=.cells #[.int .i64 a0_0,.slice A0_1 l0_1.length c0_1] 28 (0,0)) bk):gb107 ≠ gb101));have n9_:=Aside0.mk ((by rw [hg];exact Nat.ne_of_lt (blk_lt (g:=gb102) (o:=.cells #[.int .i64 0,.slice none 0 0] 28 (0,0)) bk):gb102 ≠ gb107));have n10_:=Aside0.mk ((by rw [hg];exact Nat.ne_of_gt (blk_lt (g:=gb102) (o:=.cells #[.int .i64 0,.slice none 0 0] 28 (0,0)) bk):gb107 ≠ gb102));clear HO106;clear BK101;clear BK102;clear HB;have HO106:=n0_;have BK101:=n1_;have BK102:=n2_;have HB:=n3_;have BK107:=n4_;have GW107:=n5_;have GE107:=n6_;have NB101_107:=n7_;have NB107_101:=n8_;have NB102_107:=n9_;have NB107_102:=n10_;clear n0_ n1_ n2_ n3_ n4_ n5_ n6_ n7_ n8_ n9_ n10_;clear hb hbox hg;have hnb9:=NB107_101.out;have hnc9:=NB101_107.out;have hnb10:=NB107_102.out;have hnc10:=NB102_107.out;have hcz11_0:w8.cell? ⟨gb107,0,none⟩=some (.int .i64 0):=(blk_cell BK107.out 0).trans rfl;have hcz11_1:w8.cell? ⟨gb107,1,none⟩=some (.slice none 0 0):=(blk_cell BK107.out 1).trans rfl;have hfz11_0:=blk_frozen BK107.out 0;have hfz11_1:=blk_frozen BK107.out 1;obtain ⟨Ao12,co12,eo12⟩:=Kd.S_slice HO106.out;subst eo12))
 go_loopg [4] k (fun kq v4 w'=>∃ (x4_1:Int) (x108000_1:Int) (x108001_1:List (List Int)) (u108001:Value),v4=.int .i64 x4_1∧Aside0 (spec_l02Prune.l0 kq x4_1 x108000_1 x108001_1=some (r1,r2))∧Aside0 (kq≤k)∧Aside0 (Kd.S (Kd.slice 2 (Kd.int .i64)) 32 w' w.heap.size (fun _=>True) u108001 x108001_1)∧Aside0 (w'.heap[gb101]?=some (.cells #[.int .i64 a0_0,(.slice A0_1 l0_1.length c0_1)] 28 (0,0)))∧Aside0 (w'.heap[gb102]?=some (.cells #[.int .i64 0,(.slice none 0 0)] 28 (0,0)))∧Aside0 (w'.heap[gb107]?=some (.cells #[.int .i64 x108000_1,u108001] 28 (0,0)))∧Aside0 (Below w.heap.size w w'))
 case atStart=>exact ⟨(0),(t103),(t104),(.slice Ao12 t104.length co12),rs,H',⟨Nat.le_refl _⟩,⟨by (with_reducible repeat (first|apply Kd.S_alloc|apply Kd.S_drewN|apply Kd.S_drew));exact Kd.S_mono (Kd.S_far (p:=⟨gb107,1,none⟩) (Kd.S_far (p:=⟨gb107,0,none⟩) (Kd.S_types HO106.out BK107.out (by decide)) (fun _ hk=>hk.2) (.int .i64 t103)) (fun _ hk=>hk.2) (.slice Ao12 t104.length co12)) (fun _ hk=>trivial)⟩,⟨by (with_reducible repeat (first|refine blk_drewN ?_ _|refine blk_drew ?_|refine blk_alloc ?_ _));refine blk_far ?_ NB101_107.out _;(with_reducible repeat (first|refine blk_drewN ?_ _|refine blk_drew ?_|refine blk_alloc ?_ _));refine blk_far ?_ NB101_107.out _;(with_reducible repeat (first|refine blk_drewN ?_ _|refine blk_drew ?_|refine blk_alloc ?_ _));exact BK101.out⟩,⟨by (with_reducible repeat (first|refine blk_drewN ?_ _|refine blk_drew ?_|refine blk_alloc ?_ _));refine blk_far ?_ NB102_107.out _;(with_reducible repeat (first|refine blk_drewN ?_ _|refine blk_drew ?_|refine blk_alloc ?_ _));refine blk_far ?_ NB102_107.out _;(with_reducible repeat (first|refine blk_drewN ?_ _|refine blk_drew ?_|refine blk_alloc ?_ _));exact BK102.out⟩,⟨by (with_reducible repeat (first|refine blk_drewN ?_ _|refine blk_drew ?_|refine blk_alloc ?_ _));refine blk_put (cs:=#[.int .i64 t103,.slice none 0 0]) ?_ 1 _ rfl;(with_reducible repeat (first|refine blk_drewN ?_ _|refine blk_drew ?_|refine blk_alloc ?_ _));refine blk_put (cs:=#[.int .i64 0,.slice none 0 0]) ?_ 0 _ rfl;(with_reducible repeat (first|refine blk_drewN ?_ _|refine blk_drew ?_|refine blk_alloc ?_ _));exact BK107.out⟩,⟨bl⟩⟩
 case round =>
  clear H'
  (try clear c1);(try clear p2);(try clear c5);(try clear c6);(try clear c9);(try clear c10);(try clear hcz11_0);(try clear hcz11_1);(try clear hcz6_0);(try clear hcz6_1);(try clear hfz11_0);(try clear hfz11_1);(try clear hfz6_0);(try clear hfz6_1)
  obtain ⟨x4_1,x108000_1,x108001_1,u108001,rfl,HA,HK1,HO_108001,BK101,BK102,BK107,HB⟩:=hrel
  cases gk with
  | zero=>exact absurd HA.out (by simp [spec_l02Prune.l0])
  | succ k1 =>
   have H:=HA.out
   clear HA
   simp only [spec_l02Prune.l0] at H
   by_cases c13:x4_1 < x108000_1
   case neg =>
    rw [if_neg c13] at H
    have c13b0:decide (x4_1 < x108000_1)=false:=decide_eq_false c13
    clear c13
    simp only [Option.some.injEq,Prod.mk.injEq] at H
    obtain ⟨rfl,rfl⟩:=H
    have hnb65:=NB107_101.out
    have hnc65:=NB101_107.out
    have hnb66:=NB107_102.out
    have hnc66:=NB102_107.out
    have hcz67_0:wr.cell? ⟨gb107,0,none⟩=some (.int .i64 x108000_1):=(blk_cell BK107.out 0).trans rfl
    have hcz67_1:wr.cell? ⟨gb107,1,none⟩=some (u108001):=(blk_cell BK107.out 1).trans rfl
    have hfz67_0:=blk_frozen BK107.out 0
    have hfz67_1:=blk_frozen BK107.out 1
    have hnb68:=NB102_101.out
    have hnc68:=NB101_102.out
    have hcz69_0:wr.cell? ⟨gb102,0,none⟩=some (.int .i64 0):=(blk_cell BK102.out 0).trans rfl
    have hcz69_1:wr.cell? ⟨gb102,1,none⟩=some (.slice none 0 0):=(blk_cell BK102.out 1).trans rfl
    have hfz69_0:=blk_frozen BK102.out 0
    have hfz69_1:=blk_frozen BK102.out 1
    obtain ⟨Ao70,co70,eo70⟩:=Kd.S_slice HO_108001.out
    subst eo70
    go_wp2
    refine bodyPost_ret (results_cell_row rfl _ _ gb102 28 #[.int .i64 x108000_1,.slice Ao70 x108001_1.length co70] (0,0) _ rfl (by (with_reducible repeat (first|refine blk_drewN ?_ _|refine blk_drew ?_|refine blk_alloc ?_ _));refine blk_put (cs:=#[.int .i64 x108000_1,.slice none 0 0]) ?_ 1 _ rfl;(with_reducible repeat (first|refine blk_drewN ?_ _|refine blk_drew ?_|refine blk_alloc ?_ _));refine blk_put (cs:=#[.int .i64 0,.slice none 0 0]) ?_ 0 _ rfl;(with_reducible repeat (first|refine blk_drewN ?_ _|refine blk_drew ?_|refine blk_alloc ?_ _));exact BK102.out) Try.underlying28 rfl (by kernel_rfl)) rfl ?_
    exact ⟨_,by first|rfl|(simp [errW_none,errW_some]<;>rfl)|(simp [*,errW_none,errW_some]<;>rfl),by (with_reducible repeat (first|apply Kd.S_alloc|apply Kd.S_drewN|apply Kd.S_drew));exact Kd.S_mono (Kd.S_far (p:=⟨gb102,1,none⟩) (Kd.S_far (p:=⟨gb102,0,none⟩) (Kd.S_types HO_108001.out BK102.out (by decide)) (fun _ hk=>hk.2) (.int .i64 x108000_1)) (fun _ hk=>hk.2) (.slice Ao70 x108001_1.length co70)) (fun _ hk=>trivial),bl⟩
   rw [if_pos c13] at H
   have c13b0:decide (x4_1 < x108000_1)=true:=decide_eq_true c13
   clear c13
   replace H:=Option.bind_eq_some_iff.mp H
   obtain ⟨t108,A140,H⟩:=H
   replace H:(if t108=1 then (spec_l02Prune.l1 k1 x4_1 (([]:List (List Int))) 0 x108000_1 x108001_1) else (spec_l02Prune.l0 k1 (wrap64 (x4_1+1)) x108000_1 x108001_1))=some (r1,r2):=H
   have A14:=Aside0.mk A140
   clear A140
   by_cases c15:t108=1
   case neg =>
    rw [if_neg c15] at H
    have c15b0:(t108 == 1)=false:=beq_eq_false_iff_ne.mpr c15
    have c15b1:(t108 != 1)=true:=bne_iff_ne.mpr c15
    have H':=Aside0.mk H
    clear H
    have hnb60:=NB107_101.out
    have hnc60:=NB101_107.out
    have hnb61:=NB107_102.out
    have hnc61:=NB102_107.out
    have hcz62_0:wr.cell? ⟨gb107,0,none⟩=some (.int .i64 x108000_1):=(blk_cell BK107.out 0).trans rfl
    have hcz62_1:wr.cell? ⟨gb107,1,none⟩=some (u108001):=(blk_cell BK107.out 1).trans rfl
    have hfz62_0:=blk_frozen BK107.out 0
    have hfz62_1:=blk_frozen BK107.out 1
    obtain ⟨Ao63,co63,eo63⟩:=Kd.S_slice HO_108001.out
    subst eo63
    go_wp2_with (first|(go_at_call 98;(with_reducible refine (spec_l01Degree.calls k1 x108000_1 _ _ x108001_1 x4_1 t108 _ ?side1 ?side2 A14.out).mono ?_);(case side1=>repeat (first|exact (Kd.S_reads' HO_108001.out).2.2|(with_reducible refine Kd.C_alloc ?_ _)|(with_reducible refine Kd.C_drewN ?_ _)|(with_reducible refine Kd.C_drew ?_)));(case side2=>exact (Kd.S_reads' HO_108001.out).2.1);rintro e w64 ⟨rfl,hb⟩;have n0_:=Aside0.mk (Kd.S_below (by (with_reducible repeat (first|apply Kd.S_alloc|apply Kd.S_drewN|apply Kd.S_drew));exact HO_108001.out) hb);have n1_:=Aside0.mk (blk_below (g:=gb101) (o:=.cells #[.int .i64 a0_0,.slice A0_1 l0_1.length c0_1] 28 (0,0)) bk hb);have n2_:=Aside0.mk (blk_below (g:=gb102) (o:=.cells #[.int .i64 0,.slice none 0 0] 28 (0,0)) bk hb);have n3_:=Aside0.mk (blk_below (g:=gb107) (o:=.cells #[.int .i64 x108000_1,.slice Ao63 x108001_1.length co63] 28 (0,0)) bk hb);have n4_:=Aside0.mk (below_step bl hb);clear HO_108001;clear BK101;clear BK102;clear BK107;clear HB;have HO_108001:=n0_;have BK101:=n1_;have BK102:=n2_;have BK107:=n3_;have HB:=n4_;clear n0_ n1_ n2_ n3_ n4_;(try clear hb);(try clear hb2);(try clear hk);(try clear hi)))
    go_roundg k1
    case measure=>have:=HK1.out;omega
    case rel=>exact ⟨(wrap64 (x4_1+1)),(x108000_1),(x108001_1),(.slice Ao63 x108001_1.length co63),rs,H',⟨by have:=HK1.out;omega⟩,⟨by (with_reducible repeat (first|apply Kd.S_alloc|apply Kd.S_drewN|apply Kd.S_drew));exact HO_108001.out⟩,⟨bk⟩,⟨bk⟩,⟨bk⟩,⟨bl⟩⟩
   rw [if_pos c15] at H
   have c15b0:(t108 == 1)=true:=beq_iff_eq.mpr c15
   have c15b1:(t108 != 1)=false:=bne_eq_false_iff_eq.mpr c15
   clear c15
   obtain ⟨y109,hy109⟩:∃ y_:List (List Int),y_=(([]:List (List Int))):=⟨_,rfl⟩
   replace H:(spec_l02Prune.l1 k1 x4_1 y109 0 x108000_1 x108001_1)=some (r1,r2):=by first|(rw [hy109];with_reducible exact H)|(have H2_:=(Option.bind_some _ _).symm.trans H;rw [hy109];with_reducible exact H2_)|(have H2_:=(Option.bind_some _ _).symm.trans H;with_reducible exact H2_)|with_reducible exact H|(rw [hy109];exact H)|exact H
   have Ny109:=Aside0.mk hy109
   clear hy109
   have H':=Aside0.mk H
   clear H
   have hnb16:=NB107_101.out
   have hnc16:=NB101_107.out
   have hnb17:=NB107_102.out
   have hnc17:=NB102_107.out
   have hcz18_0:wr.cell? ⟨gb107,0,none⟩=some (.int .i64 x108000_1):=(blk_cell BK107.out 0).trans rfl
   have hcz18_1:wr.cell? ⟨gb107,1,none⟩=some (u108001):=(blk_cell BK107.out 1).trans rfl
   have hfz18_0:=blk_frozen BK107.out 0
   have hfz18_1:=blk_frozen BK107.out 1
   obtain ⟨Ao19,co19,eo19⟩:=Kd.S_slice HO_108001.out
   subst eo19
   go_wp2_with (first|(go_at_call 98;(with_reducible refine (spec_l01Degree.calls k1 x108000_1 _ _ x108001_1 x4_1 t108 _ ?side1 ?side2 A14.out).mono ?_);(case side1=>repeat (first|exact (Kd.S_reads' HO_108001.out).2.2|(with_reducible refine Kd.C_alloc ?_ _)|(with_reducible refine Kd.C_drewN ?_ _)|(with_reducible refine Kd.C_drew ?_)));(case side2=>exact (Kd.S_reads' HO_108001.out).2.1);rintro e w20 ⟨rfl,hb⟩;have n0_:=Aside0.mk (Kd.S_below (by (with_reducible repeat (first|apply Kd.S_alloc|apply Kd.S_drewN|apply Kd.S_drew));exact HO_108001.out) hb);have n1_:=Aside0.mk (blk_below (g:=gb101) (o:=.cells #[.int .i64 a0_0,.slice A0_1 l0_1.length c0_1] 28 (0,0)) bk hb);have n2_:=Aside0.mk (blk_below (g:=gb102) (o:=.cells #[.int .i64 0,.slice none 0 0] 28 (0,0)) bk hb);have n3_:=Aside0.mk (blk_below (g:=gb107) (o:=.cells #[.int .i64 x108000_1,.slice Ao19 x108001_1.length co19] 28 (0,0)) bk hb);have n4_:=Aside0.mk (below_step bl hb);clear HO_108001;clear BK101;clear BK102;clear BK107;clear HB;have HO_108001:=n0_;have BK101:=n1_;have BK102:=n2_;have BK107:=n3_;have HB:=n4_;clear n0_ n1_ n2_ n3_ n4_;(try clear hb);(try clear hb2);(try clear hk);(try clear hi))|((with_reducible refine gate_dst (N:=21) rfl ?_);refine Kd.S_lit (Kd.slice 2 (Kd.int .i64)) _ 32 ?hg (N:=21) ?hd (xs:=([]:List (List Int))) (inner:=[]) (ok:=fun _=>True) (okp:=fun _=>True) ?hr ?hp (fun _ hk=>hk) trivial (Below.refl _ _) (Nat.le_refl _) (by simp) ?_;(case hd=>rfl);(case hg=>rfl);(case hr=>first|(go_simp;done)|(go_simp;rfl));(case hp=>exact (Reps.none _ _));intro v110 w21 ho22 hb hg_ hnew_;clear hg_ hnew_;(first|rw [← Ny109.out] at ho22|(simp only [Int.reduceToNat] at ho22;rw [← Ny109.out] at ho22));have n0_:=Aside0.mk (Kd.S_elder' (by (with_reducible repeat (first|apply Kd.S_alloc|apply Kd.S_drewN|apply Kd.S_drew));exact HO_108001.out) (Kd.S_base ho22) hb);have n1_:=Aside0.mk (Kd.S_lower (Kd.S_new' ho22 (Kd.S_lt (by (with_reducible repeat (first|apply Kd.S_alloc|apply Kd.S_drewN|apply Kd.S_drew));exact HO_108001.out))) (below_size bl));have n2_:=Aside0.mk (blk_below (g:=gb101) (o:=.cells #[.int .i64 a0_0,.slice A0_1 l0_1.length c0_1] 28 (0,0)) bk hb);have n3_:=Aside0.mk (blk_below (g:=gb102) (o:=.cells #[.int .i64 0,.slice none 0 0] 28 (0,0)) bk hb);have n4_:=Aside0.mk (blk_below (g:=gb107) (o:=.cells #[.int .i64 x108000_1,.slice Ao19 x108001_1.length co19] 28 (0,0)) bk hb);have n5_:=Aside0.mk (below_step bl hb);clear HO_108001;clear BK101;clear BK102;clear BK107;clear HB;have HO_108001:=n0_;have HO111:=n1_;have BK101:=n2_;have BK102:=n3_;have BK107:=n4_;have HB:=n5_;clear n0_ n1_ n2_ n3_ n4_ n5_;clear hb ho22))
   go_loopg [5,6] k1 (fun kq v5 v6 w'=>∃ (x5_2:List (List Int)) (x6_2:Int),v6=.int .i64 x6_2∧Aside0 (spec_l02Prune.l1 kq x4_1 x5_2 x6_2 x108000_1 x108001_1=some (r1,r2))∧Aside0 (kq≤k1)∧Aside0 (Kd.S (Kd.slice 2 (Kd.int .i64)) 32 w' w.heap.size (fun k_=>some k_ ≠ ((.slice Ao19 x108001_1.length co19):Value).ownBlock) v5 x5_2)∧Aside0 (Kd.S (Kd.slice 2 (Kd.int .i64)) 32 w' w.heap.size (fun k_=>some k_ ≠ (v5:Value).ownBlock) (.slice Ao19 x108001_1.length co19) x108001_1)∧Aside0 (w'.heap[gb101]?=some (.cells #[.int .i64 a0_0,(.slice A0_1 l0_1.length c0_1)] 28 (0,0)))∧Aside0 (w'.heap[gb102]?=some (.cells #[.int .i64 0,(.slice none 0 0)] 28 (0,0)))∧Aside0 (w'.heap[gb107]?=some (.cells #[.int .i64 x108000_1,(.slice Ao19 x108001_1.length co19)] 28 (0,0)))∧Aside0 (Below w.heap.size w w'))
   case atStart=>exact ⟨(y109),(0),rs,H',⟨Nat.le_refl _⟩,⟨by (with_reducible repeat (first|apply Kd.S_alloc|apply Kd.S_drewN|apply Kd.S_drew));exact Kd.S_mono HO111.out (fun _ hk=>hk.2)⟩,⟨by (with_reducible repeat (first|apply Kd.S_alloc|apply Kd.S_drewN|apply Kd.S_drew));exact Kd.S_mono HO_108001.out (fun _ hk=>hk.2)⟩,⟨bk⟩,⟨bk⟩,⟨bk⟩,⟨bl⟩⟩
   case round =>
    clear H'
    (try clear c1);(try clear p2);(try clear c5);(try clear c6);(try clear p6);(try clear c9);(try clear c10);(try clear c13);(try clear c13b0);(try clear c15);(try clear c15b0);(try clear c15b1);(try clear c16);(try clear c17);(try clear hcz11_0);(try clear hcz11_1);(try clear hcz18_0);(try clear hcz18_1);(try clear hcz6_0);(try clear hcz6_1);(try clear hfz11_0);(try clear hfz11_1);(try clear hfz18_0);(try clear hfz18_1);(try clear hfz6_0);(try clear hfz6_1);(try clear p2)
    obtain ⟨x5_2,x6_2,rfl,HA,HK2,HO_5,HO_108001,BK101,BK102,BK107,HB⟩:=hrel
    cases gk with
    | zero=>exact absurd HA.out (by simp [spec_l02Prune.l1])
    | succ k2 =>
     have H:=HA.out
     clear HA
     simp only [spec_l02Prune.l1] at H
     by_cases c23:x6_2 < (x108001_1.length:Int)
     case neg =>
      rw [if_neg c23] at H
      have c23b0:decide (x6_2 < (x108001_1.length:Int))=false:=decide_eq_false c23
      clear c23
      have H':=Aside0.mk H
      clear H
      have hnb56:=NB107_101.out
      have hnc56:=NB101_107.out
      have hnb57:=NB107_102.out
      have hnc57:=NB102_107.out
      have hcz58_0:wr.cell? ⟨gb107,0,none⟩=some (.int .i64 x108000_1):=(blk_cell BK107.out 0).trans rfl
      have hcz58_1:wr.cell? ⟨gb107,1,none⟩=some (.slice Ao19 x108001_1.length co19):=(blk_cell BK107.out 1).trans rfl
      have hfz58_0:=blk_frozen BK107.out 0
      have hfz58_1:=blk_frozen BK107.out 1
      obtain ⟨Ao59,co59,eo59⟩:=Kd.S_slice HO_5.out
      subst eo59
      go_wp2
      go_roundg k2
      case measure=>have:=HK1.out;have:=HK2.out;omega
      case rel=>exact ⟨(0),(wrap64 (x108000_1 - 1)),(x5_2),(.slice Ao59 x5_2.length co59),rs,H',⟨by have:=HK1.out;have:=HK2.out;omega⟩,⟨by (with_reducible repeat (first|apply Kd.S_alloc|apply Kd.S_drewN|apply Kd.S_drew));exact Kd.S_mono (Kd.S_far (p:=⟨gb107,1,none⟩) (Kd.S_far (p:=⟨gb107,0,none⟩) (Kd.S_types HO_5.out BK107.out (by decide)) (fun _ hk=>hk.2) (.int .i64 (wrap64 (x108000_1 - 1)))) (fun _ hk=>hk.2) (.slice Ao59 x5_2.length co59)) (fun _ hk=>trivial)⟩,⟨by (with_reducible repeat (first|refine blk_drewN ?_ _|refine blk_drew ?_|refine blk_alloc ?_ _));refine blk_far ?_ NB101_107.out _;(with_reducible repeat (first|refine blk_drewN ?_ _|refine blk_drew ?_|refine blk_alloc ?_ _));refine blk_far ?_ NB101_107.out _;(with_reducible repeat (first|refine blk_drewN ?_ _|refine blk_drew ?_|refine blk_alloc ?_ _));exact BK101.out⟩,⟨by (with_reducible repeat (first|refine blk_drewN ?_ _|refine blk_drew ?_|refine blk_alloc ?_ _));refine blk_far ?_ NB102_107.out _;(with_reducible repeat (first|refine blk_drewN ?_ _|refine blk_drew ?_|refine blk_alloc ?_ _));refine blk_far ?_ NB102_107.out _;(with_reducible repeat (first|refine blk_drewN ?_ _|refine blk_drew ?_|refine blk_alloc ?_ _));exact BK102.out⟩,⟨by (with_reducible repeat (first|refine blk_drewN ?_ _|refine blk_drew ?_|refine blk_alloc ?_ _));refine blk_put (cs:=#[.int .i64 (wrap64 (x108000_1 - 1)),.slice Ao19 x108001_1.length co19]) ?_ 1 _ rfl;(with_reducible repeat (first|refine blk_drewN ?_ _|refine blk_drew ?_|refine blk_alloc ?_ _));refine blk_put (cs:=#[.int .i64 x108000_1,.slice Ao19 x108001_1.length co19]) ?_ 0 _ rfl;(with_reducible repeat (first|refine blk_drewN ?_ _|refine blk_drew ?_|refine blk_alloc ?_ _));exact BK107.out⟩,⟨bl⟩⟩
     rw [if_pos c23] at H
     have c23b0:decide (x6_2 < (x108001_1.length:Int))=true:=decide_eq_true c23
     clear c23
     by_cases c24:0≤x6_2
     case neg=>rw [if_neg c24] at H;exact absurd H (by simp)
     rw [if_pos c24] at H
     have c24b0:decide (0≤x6_2)=true:=decide_eq_true c24
     clear c24
     by_cases c25:0 < ((rd_L1 x108001_1 x6_2).length:Int)
     case neg=>rw [if_neg c25] at H;exact absurd H (by simp)
     rw [if_pos c25] at H
     have c25b0:decide (0 < ((rd_L1 x108001_1 x6_2).length:Int))=true:=decide_eq_true c25
     have c25b1:decide (0 < (rd_L1 x108001_1 x6_2).length)=true:=decide_eq_true (by omega)
     clear c25
     by_cases c26:1 < ((rd_L1 x108001_1 x6_2).length:Int)
     case neg=>rw [if_neg c26] at H;exact absurd H (by simp)
     rw [if_pos c26] at H
     have c26b0:decide (1 < ((rd_L1 x108001_1 x6_2).length:Int))=true:=decide_eq_true c26
     have c26b1:decide (1 < (rd_L1 x108001_1 x6_2).length)=true:=decide_eq_true (by omega)
     clear c26
     have HC27:=Aside0.mk H
     clear H
     have hnb28:=NB107_101.out
     have hnc28:=NB101_107.out
     have hnb29:=NB107_102.out
     have hnc29:=NB102_107.out
     have hcz30_0:wr.cell? ⟨gb107,0,none⟩=some (.int .i64 x108000_1):=(blk_cell BK107.out 0).trans rfl
     have hcz30_1:wr.cell? ⟨gb107,1,none⟩=some (.slice Ao19 x108001_1.length co19):=(blk_cell BK107.out 1).trans rfl
     have hfz30_0:=blk_frozen BK107.out 0
     have hfz30_1:=blk_frozen BK107.out 1
     have p112:0≤(x6_2:Int):=oD
     have q112:x6_2 < (x108001_1.length:Int):=oD
     obtain ⟨ad112,A112_0,c112_0,e112,hx112_0,hl112_0,hi112_0⟩:=at_L1 (Kd.S_reads' HO_108001.out).2.2 x6_2 p112 q112
     cases e112
     obtain ⟨ce112,hce112,hMe112,hcc112⟩:=Kd.S_get HO_108001.out [] x6_2 p112 (by first|exact q112|exact oD|(have e_:=(Kd.S_reads' HO_108001.out).1;omega))
     obtain ⟨ve112_0,rfl,ge112_0⟩:=hMe112
     have hv112_0:=hcc112 0 _ rfl
     rw [Nat.add_zero,show ((Kd.slice 2 (Kd.int .i64))).sz=1 from rfl,Nat.mul_one] at hv112_0
     replace hv112_0:=Option.some.inj (hv112_0.symm.trans hx112_0)
     rw [hv112_0] at ge112_0
     have HL112_0:=Aside0.mk (show Kd.R (Kd.int .i64) 2 _ _ _ _ (rd_L1 x108001_1 x6_2) from ge112_0)
     clear hv112_0 ge112_0
     clear hcc112 hce112
     have HR112_0:=Aside0.mk hi112_0
     have HC112_0:=Aside0.mk hl112_0
     clear hi112_0 hl112_0
     replace p112:=eq_true p112
     replace q112:=eq_true q112
     have p113:0≤(0:Int):=(by omega)
     have q113:0 < ((rd_L1 x108001_1 x6_2).length:Int):=oD
     obtain ⟨ad113,e113,hx113_0⟩:=Kd.at_int (by repeat (first|(with_reducible exact HR112_0.out)|(with_reducible refine Kd.C_alloc ?_ _)|(with_reducible refine Kd.C_drewN ?_ _)|(with_reducible refine Kd.C_drew ?_)|exact HR112_0.out)) 0 p113 q113
     cases e113
     have qi113:(0 < (rd_L1 x108001_1 x6_2).length)=True:=eq_true (by omega)
     (try rw [show ((0:Int)).toNat=0 from rfl] at hx113_0)
     (try rw [Addr.add_zero'] at hx113_0)
     replace p113:=eq_true p113
     replace q113:=eq_true q113
     have p114:0≤(x6_2:Int):=oD
     have q114:x6_2 < (x108001_1.length:Int):=oD
     obtain ⟨ad114,A114_0,c114_0,e114,hx114_0,hl114_0,hi114_0⟩:=at_L1 (Kd.S_reads' HO_108001.out).2.2 x6_2 p114 q114
     obtain rfl:ad112=ad114:=(by injection e114)
     obtain ⟨ce114,hce114,hMe114,hcc114⟩:=Kd.S_get HO_108001.out [] x6_2 p114 (by first|exact q114|exact oD|(have e_:=(Kd.S_reads' HO_108001.out).1;omega))
     obtain ⟨ve114_0,rfl,ge114_0⟩:=hMe114
     have hv114_0:=hcc114 0 _ rfl
     rw [Nat.add_zero,show ((Kd.slice 2 (Kd.int .i64))).sz=1 from rfl,Nat.mul_one] at hv114_0
     replace hv114_0:=Option.some.inj (hv114_0.symm.trans hx114_0)
     rw [hv114_0] at ge114_0
     have HL114_0:=Aside0.mk (show Kd.R (Kd.int .i64) 2 _ _ _ _ (rd_L1 x108001_1 x6_2) from ge114_0)
     clear hv114_0 ge114_0
     clear hcc114 hce114
     have HR114_0:=Aside0.mk hi114_0
     have HC114_0:=Aside0.mk hl114_0
     clear hi114_0 hl114_0
     replace p114:=eq_true p114
     replace q114:=eq_true q114
     have ea_:=Option.some.inj (hx112_0.symm.trans hx114_0)
     injection ea_ with ea_ en_ ec_
     subst ea_
     subst ec_
     clear en_
     have p115:0≤(1:Int):=(by omega)
     have q115:1 < ((rd_L1 x108001_1 x6_2).length:Int):=oD
     obtain ⟨ad115,e115,hx115_0⟩:=Kd.at_int (by repeat (first|(with_reducible exact HR114_0.out)|(with_reducible refine Kd.C_alloc ?_ _)|(with_reducible refine Kd.C_drewN ?_ _)|(with_reducible refine Kd.C_drew ?_)|exact HR114_0.out)) 1 p115 q115
     obtain rfl:ad113=ad115:=(by injection e115)
     (try simp only [show (1:Int).toNat=1 from rfl,Nat.reduceMul,Nat.reduceEqDiff,Go.Addr.add,↓reduceIte] at hx115_0)
     have qi115:(1 < (rd_L1 x108001_1 x6_2).length)=True:=eq_true (by omega)
     (try rw [show ((1:Int)).toNat=1 from rfl] at hx115_0)
     replace p115:=eq_true p115
     replace q115:=eq_true q115
     go_upto_region 11 with (fail)
     repeat (go_quiet (fail);go_upto_region 11 with (fail))
     go_cut [50] (fun v50 wc=>∃ (kq:Nat) (x50_26:Bool),v50=.bool x50_26∧Aside0 (spec_l02Prune.j2 kq x4_1 x5_2 x6_2 (rd (rd_L1 x108001_1 x6_2) 0) (rd (rd_L1 x108001_1 x6_2) 1) x50_26 x108000_1 x108001_1=some (r1,r2))∧Aside0 (kq≤k2)∧Aside0 (Kd.S (Kd.slice 2 (Kd.int .i64)) 32 wc w.heap.size (fun k_=>some k_ ≠ ((.slice (some ad112) x108001_1.length co19):Value).ownBlock) u5 x5_2)∧Aside0 (Kd.S (Kd.slice 2 (Kd.int .i64)) 32 wc w.heap.size (fun k_=>some k_ ≠ (u5:Value).ownBlock) (.slice (some ad112) x108001_1.length co19) x108001_1)∧Aside0 (wc.heap[gb101]?=some (.cells #[.int .i64 a0_0,(.slice A0_1 l0_1.length c0_1)] 28 (0,0)))∧Aside0 (wc.heap[gb102]?=some (.cells #[.int .i64 0,(.slice none 0 0)] 28 (0,0)))∧Aside0 (wc.heap[gb107]?=some (.cells #[.int .i64 x108000_1,(.slice (some ad112) x108001_1.length co19)] 28 (0,0)))∧Aside0 (Kd.C (Kd.int .i64) wc (some ad113) (rd_L1 x108001_1 x6_2).length (rd_L1 x108001_1 x6_2))∧Aside0 (Kd.C (Kd.int .i64) wc (some ad113) (rd_L1 x108001_1 x6_2).length (rd_L1 x108001_1 x6_2))∧Aside0 (Below w.heap.size w wc))
     case first =>
      have H:=HC27.out
      clear HC27
      by_cases c31:(rd (rd_L1 x108001_1 x6_2) 0)=x4_1
      case neg =>
       rw [if_neg c31] at H
       have c31b0:((rd (rd_L1 x108001_1 x6_2) 0) == x4_1)=false:=beq_eq_false_iff_ne.mpr c31
       have c31b1:((rd (rd_L1 x108001_1 x6_2) 0) != x4_1)=true:=bne_iff_ne.mpr c31
       (first|rw [c31b0]|(simp only [i64_w,i32_w];rw [c31b0])|skip)
       have H':=Aside0.mk H
       clear H
       go_wp2
       go_meet
       case rel=>exact ⟨_,(((rd (rd_L1 x108001_1 x6_2) 1) == x4_1)),rs,H',⟨by have:=HK1.out;have:=HK2.out;first|omega|exact Nat.le_refl _⟩,⟨by (with_reducible repeat (first|apply Kd.S_alloc|apply Kd.S_drewN|apply Kd.S_drew));exact HO_5.out⟩,⟨by (with_reducible repeat (first|apply Kd.S_alloc|apply Kd.S_drewN|apply Kd.S_drew));exact HO_108001.out⟩,⟨bk⟩,⟨bk⟩,⟨bk⟩,⟨by repeat (first|(with_reducible exact HR112_0.out)|(with_reducible refine Kd.C_alloc ?_ _)|(with_reducible refine Kd.C_drewN ?_ _)|(with_reducible refine Kd.C_drew ?_)|exact HR112_0.out)⟩,⟨by repeat (first|(with_reducible exact HR114_0.out)|(with_reducible refine Kd.C_alloc ?_ _)|(with_reducible refine Kd.C_drewN ?_ _)|(with_reducible refine Kd.C_drew ?_)|exact HR114_0.out)⟩,⟨bl⟩⟩
      rw [if_pos c31] at H
      have c31b0:((rd (rd_L1 x108001_1 x6_2) 0) == x4_1)=true:=beq_iff_eq.mpr c31
      have c31b1:((rd (rd_L1 x108001_1 x6_2) 0) != x4_1)=false:=bne_eq_false_iff_eq.mpr c31
      clear c31
      (first|rw [c31b0]|(simp only [i64_w,i32_w];rw [c31b0])|skip)
      have H':=Aside0.mk H
      clear H
      go_wp2
      repeat (go_quiet (fail);try go_wp2)
      go_meet
      case rel=>exact ⟨_,(true),rs,H',⟨by have:=HK1.out;have:=HK2.out;first|omega|exact Nat.le_refl _⟩,⟨by (with_reducible repeat (first|apply Kd.S_alloc|apply Kd.S_drewN|apply Kd.S_drew));exact HO_5.out⟩,⟨by (with_reducible repeat (first|apply Kd.S_alloc|apply Kd.S_drewN|apply Kd.S_drew));exact HO_108001.out⟩,⟨bk⟩,⟨bk⟩,⟨bk⟩,⟨by repeat (first|(with_reducible exact HR112_0.out)|(with_reducible refine Kd.C_alloc ?_ _)|(with_reducible refine Kd.C_drewN ?_ _)|(with_reducible refine Kd.C_drew ?_)|exact HR112_0.out)⟩,⟨by repeat (first|(with_reducible exact HR114_0.out)|(with_reducible refine Kd.C_alloc ?_ _)|(with_reducible refine Kd.C_drewN ?_ _)|(with_reducible refine Kd.C_drew ?_)|exact HR114_0.out)⟩,⟨bl⟩⟩
     case rest =>
      clear HC27
      (try clear c1);(try clear p1);(try clear q1);(try clear hx1);(try clear qi1);(try clear c2);(try clear p2);(try clear c3);(try clear c5);(try clear c6);(try clear p6);(try clear c9);(try clear c10);(try clear c11);(try clear p11);(try clear q11);(try clear hx11);(try clear qi11);(try clear c13);(try clear c13b0);(try clear c15);(try clear c15b0);(try clear c15b1);(try clear c16);(try clear c17);(try clear c23);(try clear c23b0);(try clear c24);(try clear c24b0);(try clear c25);(try clear c25b0);(try clear c25b1);(try clear c26);(try clear c26b0);(try clear c26b1);(try clear c28);(try clear c29);(try clear c31);(try clear c31b0);(try clear c31b1);(try clear hcz11_0);(try clear hcz11_1);(try clear hcz18_0);(try clear hcz18_1);(try clear hcz30_0);(try clear hcz30_1);(try clear hcz6_0);(try clear hcz6_1);(try clear hfz11_0);(try clear hfz11_1);(try clear hfz18_0);(try clear hfz18_1);(try clear hfz30_0);(try clear hfz30_1);(try clear hfz6_0);(try clear hfz6_1);(try clear hx112_0);(try clear hx113_0);(try clear hx114_0);(try clear hx115_0);(try clear p112);(try clear p113);(try clear p114);(try clear p115);(try clear p2);(try clear p6);(try clear q112);(try clear q113);(try clear q114);(try clear q115)
      obtain ⟨kq,x50_26,rfl,HA,HJ26,HO_5,HO_108001,BK101,BK102,BK107,HR112_0,HR114_0,HB⟩:=hcut
      cases kq with
      | zero=>exact absurd HA.out (by simp [spec_l02Prune.j2])
      | succ kj26 =>
       have H:=HA.out
       clear HA
       simp only [spec_l02Prune.j2] at H
       by_cases c32:x50_26=true
       case neg =>
        replace c32:=Bool.eq_false_iff.mpr c32
        subst c32
        have H1:(if (rd (rd_L1 x108001_1 x6_2) 0) > x4_1 then (if (rd (rd_L1 x108001_1 x6_2) 1) > x4_1 then (if x5_2.length < 5864062014805 then (spec_l02Prune.l1 kj26 x4_1 (x5_2 ++ [(([wrap64 ((rd (rd_L1 x108001_1 x6_2) 0) - 1),wrap64 ((rd (rd_L1 x108001_1 x6_2) 1) - 1)]:List Int))]) (wrap64 (x6_2+1)) x108000_1 x108001_1) else (none)) else (if x5_2.length < 5864062014805 then (spec_l02Prune.l1 kj26 x4_1 (x5_2 ++ [(([wrap64 ((rd (rd_L1 x108001_1 x6_2) 0) - 1),(rd (rd_L1 x108001_1 x6_2) 1)]:List Int))]) (wrap64 (x6_2+1)) x108000_1 x108001_1) else (none))) else (if (rd (rd_L1 x108001_1 x6_2) 1) > x4_1 then (if x5_2.length < 5864062014805 then (spec_l02Prune.l1 kj26 x4_1 (x5_2 ++ [(([(rd (rd_L1 x108001_1 x6_2) 0),wrap64 ((rd (rd_L1 x108001_1 x6_2) 1) - 1)]:List Int))]) (wrap64 (x6_2+1)) x108000_1 x108001_1) else (none)) else (if x5_2.length < 5864062014805 then (spec_l02Prune.l1 kj26 x4_1 (x5_2 ++ [(([(rd (rd_L1 x108001_1 x6_2) 0),(rd (rd_L1 x108001_1 x6_2) 1)]:List Int))]) (wrap64 (x6_2+1)) x108000_1 x108001_1) else (none))))=some (r1,r2):=by rw [if_neg (show ¬ (false=true) by decide)] at H;exact H
        clear H
        have H:=H1
        clear H1
        by_cases c33:(rd (rd_L1 x108001_1 x6_2) 0) > x4_1
        case neg =>
         rw [if_neg c33] at H
         have c33b0:decide (x4_1 < (rd (rd_L1 x108001_1 x6_2) 0))=false:=decide_eq_false c33
         clear c33
         by_cases c45:(rd (rd_L1 x108001_1 x6_2) 1) > x4_1
         case neg =>
          rw [if_neg c45] at H
          have c45b0:decide (x4_1 < (rd (rd_L1 x108001_1 x6_2) 1))=false:=decide_eq_false c45
          clear c45
          obtain ⟨y134,hy134⟩:∃ y_:List Int,y_=(([(rd (rd_L1 x108001_1 x6_2) 0),(rd (rd_L1 x108001_1 x6_2) 1)]:List Int)):=⟨_,rfl⟩
          replace H:(if x5_2.length < 5864062014805 then (spec_l02Prune.l1 kj26 x4_1 (x5_2 ++ [y134]) (wrap64 (x6_2+1)) x108000_1 x108001_1) else (none))=some (r1,r2):=by first|(rw [hy134];with_reducible exact H)|(have H2_:=(Option.bind_some _ _).symm.trans H;rw [hy134];with_reducible exact H2_)|(have H2_:=(Option.bind_some _ _).symm.trans H;with_reducible exact H2_)|with_reducible exact H|(rw [hy134];exact H)|exact H
          have Ny134:=Aside0.mk hy134
          clear hy134
          by_cases c51:x5_2.length < 5864062014805
          case neg=>rw [if_neg c51] at H;exact absurd H (by simp)
          rw [if_pos c51] at H
          have LMc51:=Aside0.mk c51
          clear c51
          obtain ⟨y137,hy137⟩:∃ y_:List (List Int),y_=(x5_2 ++ [y134]):=⟨_,rfl⟩
          replace H:(spec_l02Prune.l1 kj26 x4_1 y137 (wrap64 (x6_2+1)) x108000_1 x108001_1)=some (r1,r2):=by first|(rw [hy137];with_reducible exact H)|(have H2_:=(Option.bind_some _ _).symm.trans H;rw [hy137];with_reducible exact H2_)|(have H2_:=(Option.bind_some _ _).symm.trans H;with_reducible exact H2_)|with_reducible exact H|(rw [hy137];exact H)|exact H
          have Ny137:=Aside0.mk hy137
          clear hy137
          have H':=Aside0.mk H
          clear H
          go_wp2_with (first|((with_reducible refine gate_dst (N:=64) rfl ?_);refine Kd.R_lit (Kd.int .i64) _ 2 ?hg (N:=64) ?hd (xs:=([(rd (rd_L1 x108001_1 x6_2) 0),(rd (rd_L1 x108001_1 x6_2) 1)]:List Int)) (inner:=[.int .i64 (rd (rd_L1 x108001_1 x6_2) 0),.int .i64 (rd (rd_L1 x108001_1 x6_2) 1)]) (ok:=fun _=>True) (okp:=fun _=>True) ?hr ?hp (fun _ hk=>hk) trivial (Below.refl _ _) (Nat.le_refl _) (by simp) ?_;(case hd=>rfl);(case hg=>rfl);(case hr=>first|(go_simp;done)|(go_simp;rfl));(case hp=>exact (Reps.one (show Kd.M (Kd.int .i64) _ _ _ (rd (rd_L1 x108001_1 x6_2) 0) [.int .i64 (rd (rd_L1 x108001_1 x6_2) 0)] from rfl) (Reps.one (show Kd.M (Kd.int .i64) _ _ _ (rd (rd_L1 x108001_1 x6_2) 1) [.int .i64 (rd (rd_L1 x108001_1 x6_2) 1)] from rfl) (Reps.none _ _))));intro v135 w52 ho53 hb hg_ hnew_;clear hg_ hnew_;(first|rw [← Ny134.out] at ho53|(simp only [Int.reduceToNat] at ho53;rw [← Ny134.out] at ho53));have n0_:=Aside0.mk (Kd.S_elder' (by (with_reducible repeat (first|apply Kd.S_alloc|apply Kd.S_drewN|apply Kd.S_drew));exact HO_5.out) (Kd.R_base ho53) hb);have n1_:=Aside0.mk (Kd.S_elder' (by (with_reducible repeat (first|apply Kd.S_alloc|apply Kd.S_drewN|apply Kd.S_drew));exact HO_108001.out) (Kd.R_base ho53) hb);have n2_:=Aside0.mk (Kd.R_lower ho53 (below_size bl));have n3_:=Aside0.mk (blk_below (g:=gb101) (o:=.cells #[.int .i64 a0_0,.slice A0_1 l0_1.length c0_1] 28 (0,0)) bk hb);have n4_:=Aside0.mk (blk_below (g:=gb102) (o:=.cells #[.int .i64 0,.slice none 0 0] 28 (0,0)) bk hb);have n5_:=Aside0.mk (blk_below (g:=gb107) (o:=.cells #[.int .i64 x108000_1,.slice (some ad112) x108001_1.length co19] 28 (0,0)) bk hb);have n6_:=Aside0.mk (Kd.C_below (by repeat (first|(with_reducible exact HR112_0.out)|(with_reducible refine Kd.C_alloc ?_ _)|(with_reducible refine Kd.C_drewN ?_ _)|(with_reducible refine Kd.C_drew ?_)|exact HR112_0.out)) hb);have n7_:=Aside0.mk (Kd.C_below (by repeat (first|(with_reducible exact HR114_0.out)|(with_reducible refine Kd.C_alloc ?_ _)|(with_reducible refine Kd.C_drewN ?_ _)|(with_reducible refine Kd.C_drew ?_)|exact HR114_0.out)) hb);have n8_:=Aside0.mk (below_step bl hb);clear HO_5;clear HO_108001;clear BK101;clear BK102;clear BK107;clear HR112_0;clear HR114_0;clear HB;have HO_5:=n0_;have HO_108001:=n1_;have HO136:=n2_;have BK101:=n3_;have BK102:=n4_;have BK107:=n5_;have HR112_0:=n6_;have HR114_0:=n7_;have HB:=n8_;clear n0_ n1_ n2_ n3_ n4_ n5_ n6_ n7_ n8_;clear hb ho53;obtain ⟨Ao55,co55,eo55⟩:=Kd.R_slice HO136.out;subst eo55)|((with_reducible refine gate_builtin (b:=.append) (xs:=#[.tmp 61,.tmp 65]) rfl ?_);at_builtin;refine Kd.S_append (Kd.slice 2 (Kd.int .i64)) (w0:=w) w.heap.size rfl (.tmp 61) (.tmp 65) 22 32 (.slice none 0 0) 24 rfl Try.underlying22 info32 rfl (by decide) (by omega) u5 x5_2 y134 [.slice Ao55 y134.length co55] (fun k_=>some k_ ≠ (.slice (some ad112) x108001_1.length co19:Value).ownBlock) (fun k_=>some k_=(.slice Ao55 y134.length co55:Value).ownBlock) rfl rfl ?aP (fun k_ hk_=>((Kd.R_mono (ok':=fun k_=>((fun k_=>some k_ ≠ (.slice (some ad112) x108001_1.length co19:Value).ownBlock)) k_∧some k_ ≠ (u5:Value).ownBlock) (Kd.R_apart' (Kd.R_apart' (HO136.out) (Kd.S_typed HO_108001.out) (by decide)) (Kd.S_typed HO_5.out) (by decide)) (fun k_ hk=>⟨hk.1.2,hk.2⟩))).1 k_ hk_.symm) ?aF ?aO ?aB ?aS ?aL ?_;(case aP=>exact Kd.M_row (Kd.R_mono (Kd.R_tight rfl (Kd.R_mono (ok':=fun k_=>((fun k_=>some k_ ≠ (.slice (some ad112) x108001_1.length co19:Value).ownBlock)) k_∧some k_ ≠ (u5:Value).ownBlock) (Kd.R_apart' (Kd.R_apart' (HO136.out) (Kd.S_typed HO_108001.out) (by decide)) (Kd.S_typed HO_5.out) (by decide)) (fun k_ hk=>⟨hk.1.2,hk.2⟩))) (fun _ h_=>h_)));(case aB=>exact bl);(case aF=>exact (fun k_ hk=>Kd.fresh' (Kd.S_lt (by (with_reducible repeat (first|apply Kd.S_alloc|apply Kd.S_drewN|apply Kd.S_drew));exact HO_108001.out)) k_ hk));(case aO=>exact (by (with_reducible repeat (first|apply Kd.S_alloc|apply Kd.S_drewN|apply Kd.S_drew));exact Kd.S_mono HO_5.out (fun k_ hk=>⟨hk.1,fun e_=>hk.2 e_⟩)));(case aS=>exact (below_size bl));(case aL=>have:=LMc51.out;omega);intro v138 w54 ho hb hg hat;rw [← Ny137.out] at ho;have n0_:=Aside0.mk (Kd.S_after (ok:=(fun k_=>some k_ ≠ (.slice Ao55 y134.length co55:Value).ownBlock)) (by (with_reducible repeat (first|apply Kd.S_alloc|apply Kd.S_drewN|apply Kd.S_drew));exact Kd.S_mono HO_108001.out (fun _ hk=>⟨hk.2,hk.1⟩)) hg hat);have n1_:=Aside0.mk (blk_grown (g:=gb101) (o:=.cells #[.int .i64 a0_0,.slice A0_1 l0_1.length c0_1] 28 (0,0)) bk hg (Kd.S_ne HO_5.out BK101.out (by decide)));have n2_:=Aside0.mk (blk_grown (g:=gb102) (o:=.cells #[.int .i64 0,.slice none 0 0] 28 (0,0)) bk hg (Kd.S_ne HO_5.out BK102.out (by decide)));have n3_:=Aside0.mk (blk_grown (g:=gb107) (o:=.cells #[.int .i64 x108000_1,.slice (some ad112) x108001_1.length co19] 28 (0,0)) bk hg (Kd.S_ne HO_5.out BK107.out (by decide)));have n4_:=Aside0.mk (hb);have n5_:=Aside0.mk (ho);clear HO_108001;clear BK101;clear BK102;clear BK107;clear HB;clear HO_5;clear HO136;have HO_108001:=n0_;have BK101:=n1_;have BK102:=n2_;have BK107:=n3_;have HB:=n4_;have HO139:=n5_;clear n0_ n1_ n2_ n3_ n4_ n5_;clear ho hb hg hat))
          go_roundg kj26
          case measure=>have:=HK1.out;have:=HK2.out;have:=HJ26.out;omega
          case rel=>exact ⟨(y137),(wrap64 (x6_2+1)),rs,H',⟨by have:=HK1.out;have:=HK2.out;have:=HJ26.out;omega⟩,⟨by (with_reducible repeat (first|apply Kd.S_alloc|apply Kd.S_drewN|apply Kd.S_drew));exact HO139.out⟩,⟨by (with_reducible repeat (first|apply Kd.S_alloc|apply Kd.S_drewN|apply Kd.S_drew));exact Kd.S_mono HO_108001.out (fun _ hk=>hk.2)⟩,⟨bk⟩,⟨bk⟩,⟨bk⟩,⟨bl⟩⟩
         rw [if_pos c45] at H
         have c45b0:decide (x4_1 < (rd (rd_L1 x108001_1 x6_2) 1))=true:=decide_eq_true c45
         clear c45
         obtain ⟨y128,hy128⟩:∃ y_:List Int,y_=(([(rd (rd_L1 x108001_1 x6_2) 0),wrap64 ((rd (rd_L1 x108001_1 x6_2) 1) - 1)]:List Int)):=⟨_,rfl⟩
         replace H:(if x5_2.length < 5864062014805 then (spec_l02Prune.l1 kj26 x4_1 (x5_2 ++ [y128]) (wrap64 (x6_2+1)) x108000_1 x108001_1) else (none))=some (r1,r2):=by first|(rw [hy128];with_reducible exact H)|(have H2_:=(Option.bind_some _ _).symm.trans H;rw [hy128];with_reducible exact H2_)|(have H2_:=(Option.bind_some _ _).symm.trans H;with_reducible exact H2_)|with_reducible exact H|(rw [hy128];exact H)|exact H
         have Ny128:=Aside0.mk hy128
         clear hy128
         by_cases c46:x5_2.length < 5864062014805
         case neg=>rw [if_neg c46] at H;exact absurd H (by simp)
         rw [if_pos c46] at H
         have LMc46:=Aside0.mk c46
         clear c46
         obtain ⟨y131,hy131⟩:∃ y_:List (List Int),y_=(x5_2 ++ [y128]):=⟨_,rfl⟩
         replace H:(spec_l02Prune.l1 kj26 x4_1 y131 (wrap64 (x6_2+1)) x108000_1 x108001_1)=some (r1,r2):=by first|(rw [hy131];with_reducible exact H)|(have H2_:=(Option.bind_some _ _).symm.trans H;rw [hy131];with_reducible exact H2_)|(have H2_:=(Option.bind_some _ _).symm.trans H;with_reducible exact H2_)|with_reducible exact H|(rw [hy131];exact H)|exact H
         have Ny131:=Aside0.mk hy131
         clear hy131
         have H':=Aside0.mk H
         clear H
         go_wp2_with (first|((with_reducible refine gate_dst (N:=64) rfl ?_);refine Kd.R_lit (Kd.int .i64) _ 2 ?hg (N:=64) ?hd (xs:=([(rd (rd_L1 x108001_1 x6_2) 0),wrap64 ((rd (rd_L1 x108001_1 x6_2) 1) - 1)]:List Int)) (inner:=[.int .i64 (rd (rd_L1 x108001_1 x6_2) 0),.int .i64 (wrap64 ((rd (rd_L1 x108001_1 x6_2) 1) - 1))]) (ok:=fun _=>True) (okp:=fun _=>True) ?hr ?hp (fun _ hk=>hk) trivial (Below.refl _ _) (Nat.le_refl _) (by simp) ?_;(case hd=>rfl);(case hg=>rfl);(case hr=>first|(go_simp;done)|(go_simp;rfl));(case hp=>exact (Reps.one (show Kd.M (Kd.int .i64) _ _ _ (rd (rd_L1 x108001_1 x6_2) 0) [.int .i64 (rd (rd_L1 x108001_1 x6_2) 0)] from rfl) (Reps.one (show Kd.M (Kd.int .i64) _ _ _ (wrap64 ((rd (rd_L1 x108001_1 x6_2) 1) - 1)) [.int .i64 (wrap64 ((rd (rd_L1 x108001_1 x6_2) 1) - 1))] from rfl) (Reps.none _ _))));intro v129 w47 ho48 hb hg_ hnew_;clear hg_ hnew_;(first|rw [← Ny128.out] at ho48|(simp only [Int.reduceToNat] at ho48;rw [← Ny128.out] at ho48));have n0_:=Aside0.mk (Kd.S_elder' (by (with_reducible repeat (first|apply Kd.S_alloc|apply Kd.S_drewN|apply Kd.S_drew));exact HO_5.out) (Kd.R_base ho48) hb);have n1_:=Aside0.mk (Kd.S_elder' (by (with_reducible repeat (first|apply Kd.S_alloc|apply Kd.S_drewN|apply Kd.S_drew));exact HO_108001.out) (Kd.R_base ho48) hb);have n2_:=Aside0.mk (Kd.R_lower ho48 (below_size bl));have n3_:=Aside0.mk (blk_below (g:=gb101) (o:=.cells #[.int .i64 a0_0,.slice A0_1 l0_1.length c0_1] 28 (0,0)) bk hb);have n4_:=Aside0.mk (blk_below (g:=gb102) (o:=.cells #[.int .i64 0,.slice none 0 0] 28 (0,0)) bk hb);have n5_:=Aside0.mk (blk_below (g:=gb107) (o:=.cells #[.int .i64 x108000_1,.slice (some ad112) x108001_1.length co19] 28 (0,0)) bk hb);have n6_:=Aside0.mk (Kd.C_below (by repeat (first|(with_reducible exact HR112_0.out)|(with_reducible refine Kd.C_alloc ?_ _)|(with_reducible refine Kd.C_drewN ?_ _)|(with_reducible refine Kd.C_drew ?_)|exact HR112_0.out)) hb);have n7_:=Aside0.mk (Kd.C_below (by repeat (first|(with_reducible exact HR114_0.out)|(with_reducible refine Kd.C_alloc ?_ _)|(with_reducible refine Kd.C_drewN ?_ _)|(with_reducible refine Kd.C_drew ?_)|exact HR114_0.out)) hb);have n8_:=Aside0.mk (below_step bl hb);clear HO_5;clear HO_108001;clear BK101;clear BK102;clear BK107;clear HR112_0;clear HR114_0;clear HB;have HO_5:=n0_;have HO_108001:=n1_;have HO130:=n2_;have BK101:=n3_;have BK102:=n4_;have BK107:=n5_;have HR112_0:=n6_;have HR114_0:=n7_;have HB:=n8_;clear n0_ n1_ n2_ n3_ n4_ n5_ n6_ n7_ n8_;clear hb ho48;obtain ⟨Ao50,co50,eo50⟩:=Kd.R_slice HO130.out;subst eo50)|((with_reducible refine gate_builtin (b:=.append) (xs:=#[.tmp 61,.tmp 65]) rfl ?_);at_builtin;refine Kd.S_append (Kd.slice 2 (Kd.int .i64)) (w0:=w) w.heap.size rfl (.tmp 61) (.tmp 65) 22 32 (.slice none 0 0) 24 rfl Try.underlying22 info32 rfl (by decide) (by omega) u5 x5_2 y128 [.slice Ao50 y128.length co50] (fun k_=>some k_ ≠ (.slice (some ad112) x108001_1.length co19:Value).ownBlock) (fun k_=>some k_=(.slice Ao50 y128.length co50:Value).ownBlock) rfl rfl ?aP (fun k_ hk_=>((Kd.R_mono (ok':=fun k_=>((fun k_=>some k_ ≠ (.slice (some ad112) x108001_1.length co19:Value).ownBlock)) k_∧some k_ ≠ (u5:Value).ownBlock) (Kd.R_apart' (Kd.R_apart' (HO130.out) (Kd.S_typed HO_108001.out) (by decide)) (Kd.S_typed HO_5.out) (by decide)) (fun k_ hk=>⟨hk.1.2,hk.2⟩))).1 k_ hk_.symm) ?aF ?aO ?aB ?aS ?aL ?_;(case aP=>exact Kd.M_row (Kd.R_mono (Kd.R_tight rfl (Kd.R_mono (ok':=fun k_=>((fun k_=>some k_ ≠ (.slice (some ad112) x108001_1.length co19:Value).ownBlock)) k_∧some k_ ≠ (u5:Value).ownBlock) (Kd.R_apart' (Kd.R_apart' (HO130.out) (Kd.S_typed HO_108001.out) (by decide)) (Kd.S_typed HO_5.out) (by decide)) (fun k_ hk=>⟨hk.1.2,hk.2⟩))) (fun _ h_=>h_)));(case aB=>exact bl);(case aF=>exact (fun k_ hk=>Kd.fresh' (Kd.S_lt (by (with_reducible repeat (first|apply Kd.S_alloc|apply Kd.S_drewN|apply Kd.S_drew));exact HO_108001.out)) k_ hk));(case aO=>exact (by (with_reducible repeat (first|apply Kd.S_alloc|apply Kd.S_drewN|apply Kd.S_drew));exact Kd.S_mono HO_5.out (fun k_ hk=>⟨hk.1,fun e_=>hk.2 e_⟩)));(case aS=>exact (below_size bl));(case aL=>have:=LMc46.out;omega);intro v132 w49 ho hb hg hat;rw [← Ny131.out] at ho;have n0_:=Aside0.mk (Kd.S_after (ok:=(fun k_=>some k_ ≠ (.slice Ao50 y128.length co50:Value).ownBlock)) (by (with_reducible repeat (first|apply Kd.S_alloc|apply Kd.S_drewN|apply Kd.S_drew));exact Kd.S_mono HO_108001.out (fun _ hk=>⟨hk.2,hk.1⟩)) hg hat);have n1_:=Aside0.mk (blk_grown (g:=gb101) (o:=.cells #[.int .i64 a0_0,.slice A0_1 l0_1.length c0_1] 28 (0,0)) bk hg (Kd.S_ne HO_5.out BK101.out (by decide)));have n2_:=Aside0.mk (blk_grown (g:=gb102) (o:=.cells #[.int .i64 0,.slice none 0 0] 28 (0,0)) bk hg (Kd.S_ne HO_5.out BK102.out (by decide)));have n3_:=Aside0.mk (blk_grown (g:=gb107) (o:=.cells #[.int .i64 x108000_1,.slice (some ad112) x108001_1.length co19] 28 (0,0)) bk hg (Kd.S_ne HO_5.out BK107.out (by decide)));have n4_:=Aside0.mk (hb);have n5_:=Aside0.mk (ho);clear HO_108001;clear BK101;clear BK102;clear BK107;clear HB;clear HO_5;clear HO130;have HO_108001:=n0_;have BK101:=n1_;have BK102:=n2_;have BK107:=n3_;have HB:=n4_;have HO133:=n5_;clear n0_ n1_ n2_ n3_ n4_ n5_;clear ho hb hg hat))
         go_roundg kj26
         case measure=>have:=HK1.out;have:=HK2.out;have:=HJ26.out;omega
         case rel=>exact ⟨(y131),(wrap64 (x6_2+1)),rs,H',⟨by have:=HK1.out;have:=HK2.out;have:=HJ26.out;omega⟩,⟨by (with_reducible repeat (first|apply Kd.S_alloc|apply Kd.S_drewN|apply Kd.S_drew));exact HO133.out⟩,⟨by (with_reducible repeat (first|apply Kd.S_alloc|apply Kd.S_drewN|apply Kd.S_drew));exact Kd.S_mono HO_108001.out (fun _ hk=>hk.2)⟩,⟨bk⟩,⟨bk⟩,⟨bk⟩,⟨bl⟩⟩
        rw [if_pos c33] at H
        have c33b0:decide (x4_1 < (rd (rd_L1 x108001_1 x6_2) 0))=true:=decide_eq_true c33
        clear c33
        by_cases c34:(rd (rd_L1 x108001_1 x6_2) 1) > x4_1
        case neg =>
         rw [if_neg c34] at H
         have c34b0:decide (x4_1 < (rd (rd_L1 x108001_1 x6_2) 1))=false:=decide_eq_false c34
         clear c34
         obtain ⟨y122,hy122⟩:∃ y_:List Int,y_=(([wrap64 ((rd (rd_L1 x108001_1 x6_2) 0) - 1),(rd (rd_L1 x108001_1 x6_2) 1)]:List Int)):=⟨_,rfl⟩
         replace H:(if x5_2.length < 5864062014805 then (spec_l02Prune.l1 kj26 x4_1 (x5_2 ++ [y122]) (wrap64 (x6_2+1)) x108000_1 x108001_1) else (none))=some (r1,r2):=by first|(rw [hy122];with_reducible exact H)|(have H2_:=(Option.bind_some _ _).symm.trans H;rw [hy122];with_reducible exact H2_)|(have H2_:=(Option.bind_some _ _).symm.trans H;with_reducible exact H2_)|with_reducible exact H|(rw [hy122];exact H)|exact H
         have Ny122:=Aside0.mk hy122
         clear hy122
         by_cases c40:x5_2.length < 5864062014805
         case neg=>rw [if_neg c40] at H;exact absurd H (by simp)
         rw [if_pos c40] at H
         have LMc40:=Aside0.mk c40
         clear c40
         obtain ⟨y125,hy125⟩:∃ y_:List (List Int),y_=(x5_2 ++ [y122]):=⟨_,rfl⟩
         replace H:(spec_l02Prune.l1 kj26 x4_1 y125 (wrap64 (x6_2+1)) x108000_1 x108001_1)=some (r1,r2):=by first|(rw [hy125];with_reducible exact H)|(have H2_:=(Option.bind_some _ _).symm.trans H;rw [hy125];with_reducible exact H2_)|(have H2_:=(Option.bind_some _ _).symm.trans H;with_reducible exact H2_)|with_reducible exact H|(rw [hy125];exact H)|exact H
         have Ny125:=Aside0.mk hy125
         clear hy125
         have H':=Aside0.mk H
         clear H
         go_wp2_with (first|((with_reducible refine gate_dst (N:=64) rfl ?_);refine Kd.R_lit (Kd.int .i64) _ 2 ?hg (N:=64) ?hd (xs:=([wrap64 ((rd (rd_L1 x108001_1 x6_2) 0) - 1),(rd (rd_L1 x108001_1 x6_2) 1)]:List Int)) (inner:=[.int .i64 (wrap64 ((rd (rd_L1 x108001_1 x6_2) 0) - 1)),.int .i64 (rd (rd_L1 x108001_1 x6_2) 1)]) (ok:=fun _=>True) (okp:=fun _=>True) ?hr ?hp (fun _ hk=>hk) trivial (Below.refl _ _) (Nat.le_refl _) (by simp) ?_;(case hd=>rfl);(case hg=>rfl);(case hr=>first|(go_simp;done)|(go_simp;rfl));(case hp=>exact (Reps.one (show Kd.M (Kd.int .i64) _ _ _ (wrap64 ((rd (rd_L1 x108001_1 x6_2) 0) - 1)) [.int .i64 (wrap64 ((rd (rd_L1 x108001_1 x6_2) 0) - 1))] from rfl) (Reps.one (show Kd.M (Kd.int .i64) _ _ _ (rd (rd_L1 x108001_1 x6_2) 1) [.int .i64 (rd (rd_L1 x108001_1 x6_2) 1)] from rfl) (Reps.none _ _))));intro v123 w41 ho42 hb hg_ hnew_;clear hg_ hnew_;(first|rw [← Ny122.out] at ho42|(simp only [Int.reduceToNat] at ho42;rw [← Ny122.out] at ho42));have n0_:=Aside0.mk (Kd.S_elder' (by (with_reducible repeat (first|apply Kd.S_alloc|apply Kd.S_drewN|apply Kd.S_drew));exact HO_5.out) (Kd.R_base ho42) hb);have n1_:=Aside0.mk (Kd.S_elder' (by (with_reducible repeat (first|apply Kd.S_alloc|apply Kd.S_drewN|apply Kd.S_drew));exact HO_108001.out) (Kd.R_base ho42) hb);have n2_:=Aside0.mk (Kd.R_lower ho42 (below_size bl));have n3_:=Aside0.mk (blk_below (g:=gb101) (o:=.cells #[.int .i64 a0_0,.slice A0_1 l0_1.length c0_1] 28 (0,0)) bk hb);have n4_:=Aside0.mk (blk_below (g:=gb102) (o:=.cells #[.int .i64 0,.slice none 0 0] 28 (0,0)) bk hb);have n5_:=Aside0.mk (blk_below (g:=gb107) (o:=.cells #[.int .i64 x108000_1,.slice (some ad112) x108001_1.length co19] 28 (0,0)) bk hb);have n6_:=Aside0.mk (Kd.C_below (by repeat (first|(with_reducible exact HR112_0.out)|(with_reducible refine Kd.C_alloc ?_ _)|(with_reducible refine Kd.C_drewN ?_ _)|(with_reducible refine Kd.C_drew ?_)|exact HR112_0.out)) hb);have n7_:=Aside0.mk (Kd.C_below (by repeat (first|(with_reducible exact HR114_0.out)|(with_reducible refine Kd.C_alloc ?_ _)|(with_reducible refine Kd.C_drewN ?_ _)|(with_reducible refine Kd.C_drew ?_)|exact HR114_0.out)) hb);have n8_:=Aside0.mk (below_step bl hb);clear HO_5;clear HO_108001;clear BK101;clear BK102;clear BK107;clear HR112_0;clear HR114_0;clear HB;have HO_5:=n0_;have HO_108001:=n1_;have HO124:=n2_;have BK101:=n3_;have BK102:=n4_;have BK107:=n5_;have HR112_0:=n6_;have HR114_0:=n7_;have HB:=n8_;clear n0_ n1_ n2_ n3_ n4_ n5_ n6_ n7_ n8_;clear hb ho42;obtain ⟨Ao44,co44,eo44⟩:=Kd.R_slice HO124.out;subst eo44)|((with_reducible refine gate_builtin (b:=.append) (xs:=#[.tmp 61,.tmp 65]) rfl ?_);at_builtin;refine Kd.S_append (Kd.slice 2 (Kd.int .i64)) (w0:=w) w.heap.size rfl (.tmp 61) (.tmp 65) 22 32 (.slice none 0 0) 24 rfl Try.underlying22 info32 rfl (by decide) (by omega) u5 x5_2 y122 [.slice Ao44 y122.length co44] (fun k_=>some k_ ≠ (.slice (some ad112) x108001_1.length co19:Value).ownBlock) (fun k_=>some k_=(.slice Ao44 y122.length co44:Value).ownBlock) rfl rfl ?aP (fun k_ hk_=>((Kd.R_mono (ok':=fun k_=>((fun k_=>some k_ ≠ (.slice (some ad112) x108001_1.length co19:Value).ownBlock)) k_∧some k_ ≠ (u5:Value).ownBlock) (Kd.R_apart' (Kd.R_apart' (HO124.out) (Kd.S_typed HO_108001.out) (by decide)) (Kd.S_typed HO_5.out) (by decide)) (fun k_ hk=>⟨hk.1.2,hk.2⟩))).1 k_ hk_.symm) ?aF ?aO ?aB ?aS ?aL ?_;(case aP=>exact Kd.M_row (Kd.R_mono (Kd.R_tight rfl (Kd.R_mono (ok':=fun k_=>((fun k_=>some k_ ≠ (.slice (some ad112) x108001_1.length co19:Value).ownBlock)) k_∧some k_ ≠ (u5:Value).ownBlock) (Kd.R_apart' (Kd.R_apart' (HO124.out) (Kd.S_typed HO_108001.out) (by decide)) (Kd.S_typed HO_5.out) (by decide)) (fun k_ hk=>⟨hk.1.2,hk.2⟩))) (fun _ h_=>h_)));(case aB=>exact bl);(case aF=>exact (fun k_ hk=>Kd.fresh' (Kd.S_lt (by (with_reducible repeat (first|apply Kd.S_alloc|apply Kd.S_drewN|apply Kd.S_drew));exact HO_108001.out)) k_ hk));(case aO=>exact (by (with_reducible repeat (first|apply Kd.S_alloc|apply Kd.S_drewN|apply Kd.S_drew));exact Kd.S_mono HO_5.out (fun k_ hk=>⟨hk.1,fun e_=>hk.2 e_⟩)));(case aS=>exact (below_size bl));(case aL=>have:=LMc40.out;omega);intro v126 w43 ho hb hg hat;rw [← Ny125.out] at ho;have n0_:=Aside0.mk (Kd.S_after (ok:=(fun k_=>some k_ ≠ (.slice Ao44 y122.length co44:Value).ownBlock)) (by (with_reducible repeat (first|apply Kd.S_alloc|apply Kd.S_drewN|apply Kd.S_drew));exact Kd.S_mono HO_108001.out (fun _ hk=>⟨hk.2,hk.1⟩)) hg hat);have n1_:=Aside0.mk (blk_grown (g:=gb101) (o:=.cells #[.int .i64 a0_0,.slice A0_1 l0_1.length c0_1] 28 (0,0)) bk hg (Kd.S_ne HO_5.out BK101.out (by decide)));have n2_:=Aside0.mk (blk_grown (g:=gb102) (o:=.cells #[.int .i64 0,.slice none 0 0] 28 (0,0)) bk hg (Kd.S_ne HO_5.out BK102.out (by decide)));have n3_:=Aside0.mk (blk_grown (g:=gb107) (o:=.cells #[.int .i64 x108000_1,.slice (some ad112) x108001_1.length co19] 28 (0,0)) bk hg (Kd.S_ne HO_5.out BK107.out (by decide)));have n4_:=Aside0.mk (hb);have n5_:=Aside0.mk (ho);clear HO_108001;clear BK101;clear BK102;clear BK107;clear HB;clear HO_5;clear HO124;have HO_108001:=n0_;have BK101:=n1_;have BK102:=n2_;have BK107:=n3_;have HB:=n4_;have HO127:=n5_;clear n0_ n1_ n2_ n3_ n4_ n5_;clear ho hb hg hat))
         go_roundg kj26
         case measure=>have:=HK1.out;have:=HK2.out;have:=HJ26.out;omega
         case rel=>exact ⟨(y125),(wrap64 (x6_2+1)),rs,H',⟨by have:=HK1.out;have:=HK2.out;have:=HJ26.out;omega⟩,⟨by (with_reducible repeat (first|apply Kd.S_alloc|apply Kd.S_drewN|apply Kd.S_drew));exact HO127.out⟩,⟨by (with_reducible repeat (first|apply Kd.S_alloc|apply Kd.S_drewN|apply Kd.S_drew));exact Kd.S_mono HO_108001.out (fun _ hk=>hk.2)⟩,⟨bk⟩,⟨bk⟩,⟨bk⟩,⟨bl⟩⟩
        rw [if_pos c34] at H
        have c34b0:decide (x4_1 < (rd (rd_L1 x108001_1 x6_2) 1))=true:=decide_eq_true c34
        clear c34
        obtain ⟨y116,hy116⟩:∃ y_:List Int,y_=(([wrap64 ((rd (rd_L1 x108001_1 x6_2) 0) - 1),wrap64 ((rd (rd_L1 x108001_1 x6_2) 1) - 1)]:List Int)):=⟨_,rfl⟩
        replace H:(if x5_2.length < 5864062014805 then (spec_l02Prune.l1 kj26 x4_1 (x5_2 ++ [y116]) (wrap64 (x6_2+1)) x108000_1 x108001_1) else (none))=some (r1,r2):=by first|(rw [hy116];with_reducible exact H)|(have H2_:=(Option.bind_some _ _).symm.trans H;rw [hy116];with_reducible exact H2_)|(have H2_:=(Option.bind_some _ _).symm.trans H;with_reducible exact H2_)|with_reducible exact H|(rw [hy116];exact H)|exact H
        have Ny116:=Aside0.mk hy116
        clear hy116
        by_cases c35:x5_2.length < 5864062014805
        case neg=>rw [if_neg c35] at H;exact absurd H (by simp)
        rw [if_pos c35] at H
        have LMc35:=Aside0.mk c35
        clear c35
        obtain ⟨y119,hy119⟩:∃ y_:List (List Int),y_=(x5_2 ++ [y116]):=⟨_,rfl⟩
        replace H:(spec_l02Prune.l1 kj26 x4_1 y119 (wrap64 (x6_2+1)) x108000_1 x108001_1)=some (r1,r2):=by first|(rw [hy119];with_reducible exact H)|(have H2_:=(Option.bind_some _ _).symm.trans H;rw [hy119];with_reducible exact H2_)|(have H2_:=(Option.bind_some _ _).symm.trans H;with_reducible exact H2_)|with_reducible exact H|(rw [hy119];exact H)|exact H
        have Ny119:=Aside0.mk hy119
        clear hy119
        have H':=Aside0.mk H
        clear H
        go_wp2_with (first|((with_reducible refine gate_dst (N:=64) rfl ?_);refine Kd.R_lit (Kd.int .i64) _ 2 ?hg (N:=64) ?hd (xs:=([wrap64 ((rd (rd_L1 x108001_1 x6_2) 0) - 1),wrap64 ((rd (rd_L1 x108001_1 x6_2) 1) - 1)]:List Int)) (inner:=[.int .i64 (wrap64 ((rd (rd_L1 x108001_1 x6_2) 0) - 1)),.int .i64 (wrap64 ((rd (rd_L1 x108001_1 x6_2) 1) - 1))]) (ok:=fun _=>True) (okp:=fun _=>True) ?hr ?hp (fun _ hk=>hk) trivial (Below.refl _ _) (Nat.le_refl _) (by simp) ?_;(case hd=>rfl);(case hg=>rfl);(case hr=>first|(go_simp;done)|(go_simp;rfl));(case hp=>exact (Reps.one (show Kd.M (Kd.int .i64) _ _ _ (wrap64 ((rd (rd_L1 x108001_1 x6_2) 0) - 1)) [.int .i64 (wrap64 ((rd (rd_L1 x108001_1 x6_2) 0) - 1))] from rfl) (Reps.one (show Kd.M (Kd.int .i64) _ _ _ (wrap64 ((rd (rd_L1 x108001_1 x6_2) 1) - 1)) [.int .i64 (wrap64 ((rd (rd_L1 x108001_1 x6_2) 1) - 1))] from rfl) (Reps.none _ _))));intro v117 w36 ho37 hb hg_ hnew_;clear hg_ hnew_;(first|rw [← Ny116.out] at ho37|(simp only [Int.reduceToNat] at ho37;rw [← Ny116.out] at ho37));have n0_:=Aside0.mk (Kd.S_elder' (by (with_reducible repeat (first|apply Kd.S_alloc|apply Kd.S_drewN|apply Kd.S_drew));exact HO_5.out) (Kd.R_base ho37) hb);have n1_:=Aside0.mk (Kd.S_elder' (by (with_reducible repeat (first|apply Kd.S_alloc|apply Kd.S_drewN|apply Kd.S_drew));exact HO_108001.out) (Kd.R_base ho37) hb);have n2_:=Aside0.mk (Kd.R_lower ho37 (below_size bl));have n3_:=Aside0.mk (blk_below (g:=gb101) (o:=.cells #[.int .i64 a0_0,.slice A0_1 l0_1.length c0_1] 28 (0,0)) bk hb);have n4_:=Aside0.mk (blk_below (g:=gb102) (o:=.cells #[.int .i64 0,.slice none 0 0] 28 (0,0)) bk hb);have n5_:=Aside0.mk (blk_below (g:=gb107) (o:=.cells #[.int .i64 x108000_1,.slice (some ad112) x108001_1.length co19] 28 (0,0)) bk hb);have n6_:=Aside0.mk (Kd.C_below (by repeat (first|(with_reducible exact HR112_0.out)|(with_reducible refine Kd.C_alloc ?_ _)|(with_reducible refine Kd.C_drewN ?_ _)|(with_reducible refine Kd.C_drew ?_)|exact HR112_0.out)) hb);have n7_:=Aside0.mk (Kd.C_below (by repeat (first|(with_reducible exact HR114_0.out)|(with_reducible refine Kd.C_alloc ?_ _)|(with_reducible refine Kd.C_drewN ?_ _)|(with_reducible refine Kd.C_drew ?_)|exact HR114_0.out)) hb);have n8_:=Aside0.mk (below_step bl hb);clear HO_5;clear HO_108001;clear BK101;clear BK102;clear BK107;clear HR112_0;clear HR114_0;clear HB;have HO_5:=n0_;have HO_108001:=n1_;have HO118:=n2_;have BK101:=n3_;have BK102:=n4_;have BK107:=n5_;have HR112_0:=n6_;have HR114_0:=n7_;have HB:=n8_;clear n0_ n1_ n2_ n3_ n4_ n5_ n6_ n7_ n8_;clear hb ho37;obtain ⟨Ao39,co39,eo39⟩:=Kd.R_slice HO118.out;subst eo39)|((with_reducible refine gate_builtin (b:=.append) (xs:=#[.tmp 61,.tmp 65]) rfl ?_);at_builtin;refine Kd.S_append (Kd.slice 2 (Kd.int .i64)) (w0:=w) w.heap.size rfl (.tmp 61) (.tmp 65) 22 32 (.slice none 0 0) 24 rfl Try.underlying22 info32 rfl (by decide) (by omega) u5 x5_2 y116 [.slice Ao39 y116.length co39] (fun k_=>some k_ ≠ (.slice (some ad112) x108001_1.length co19:Value).ownBlock) (fun k_=>some k_=(.slice Ao39 y116.length co39:Value).ownBlock) rfl rfl ?aP (fun k_ hk_=>((Kd.R_mono (ok':=fun k_=>((fun k_=>some k_ ≠ (.slice (some ad112) x108001_1.length co19:Value).ownBlock)) k_∧some k_ ≠ (u5:Value).ownBlock) (Kd.R_apart' (Kd.R_apart' (HO118.out) (Kd.S_typed HO_108001.out) (by decide)) (Kd.S_typed HO_5.out) (by decide)) (fun k_ hk=>⟨hk.1.2,hk.2⟩))).1 k_ hk_.symm) ?aF ?aO ?aB ?aS ?aL ?_;(case aP=>exact Kd.M_row (Kd.R_mono (Kd.R_tight rfl (Kd.R_mono (ok':=fun k_=>((fun k_=>some k_ ≠ (.slice (some ad112) x108001_1.length co19:Value).ownBlock)) k_∧some k_ ≠ (u5:Value).ownBlock) (Kd.R_apart' (Kd.R_apart' (HO118.out) (Kd.S_typed HO_108001.out) (by decide)) (Kd.S_typed HO_5.out) (by decide)) (fun k_ hk=>⟨hk.1.2,hk.2⟩))) (fun _ h_=>h_)));(case aB=>exact bl);(case aF=>exact (fun k_ hk=>Kd.fresh' (Kd.S_lt (by (with_reducible repeat (first|apply Kd.S_alloc|apply Kd.S_drewN|apply Kd.S_drew));exact HO_108001.out)) k_ hk));(case aO=>exact (by (with_reducible repeat (first|apply Kd.S_alloc|apply Kd.S_drewN|apply Kd.S_drew));exact Kd.S_mono HO_5.out (fun k_ hk=>⟨hk.1,fun e_=>hk.2 e_⟩)));(case aS=>exact (below_size bl));(case aL=>have:=LMc35.out;omega);intro v120 w38 ho hb hg hat;rw [← Ny119.out] at ho;have n0_:=Aside0.mk (Kd.S_after (ok:=(fun k_=>some k_ ≠ (.slice Ao39 y116.length co39:Value).ownBlock)) (by (with_reducible repeat (first|apply Kd.S_alloc|apply Kd.S_drewN|apply Kd.S_drew));exact Kd.S_mono HO_108001.out (fun _ hk=>⟨hk.2,hk.1⟩)) hg hat);have n1_:=Aside0.mk (blk_grown (g:=gb101) (o:=.cells #[.int .i64 a0_0,.slice A0_1 l0_1.length c0_1] 28 (0,0)) bk hg (Kd.S_ne HO_5.out BK101.out (by decide)));have n2_:=Aside0.mk (blk_grown (g:=gb102) (o:=.cells #[.int .i64 0,.slice none 0 0] 28 (0,0)) bk hg (Kd.S_ne HO_5.out BK102.out (by decide)));have n3_:=Aside0.mk (blk_grown (g:=gb107) (o:=.cells #[.int .i64 x108000_1,.slice (some ad112) x108001_1.length co19] 28 (0,0)) bk hg (Kd.S_ne HO_5.out BK107.out (by decide)));have n4_:=Aside0.mk (hb);have n5_:=Aside0.mk (ho);clear HO_108001;clear BK101;clear BK102;clear BK107;clear HB;clear HO_5;clear HO118;have HO_108001:=n0_;have BK101:=n1_;have BK102:=n2_;have BK107:=n3_;have HB:=n4_;have HO121:=n5_;clear n0_ n1_ n2_ n3_ n4_ n5_;clear ho hb hg hat))
        go_roundg kj26
        case measure=>have:=HK1.out;have:=HK2.out;have:=HJ26.out;omega
        case rel=>exact ⟨(y119),(wrap64 (x6_2+1)),rs,H',⟨by have:=HK1.out;have:=HK2.out;have:=HJ26.out;omega⟩,⟨by (with_reducible repeat (first|apply Kd.S_alloc|apply Kd.S_drewN|apply Kd.S_drew));exact HO121.out⟩,⟨by (with_reducible repeat (first|apply Kd.S_alloc|apply Kd.S_drewN|apply Kd.S_drew));exact Kd.S_mono HO_108001.out (fun _ hk=>hk.2)⟩,⟨bk⟩,⟨bk⟩,⟨bk⟩,⟨bl⟩⟩
       subst c32
       have H1:(spec_l02Prune.l1 kj26 x4_1 x5_2 (wrap64 (x6_2+1)) x108000_1 x108001_1)=some (r1,r2):=by rw [if_pos rfl] at H;exact H
       clear H
       have H:=H1
       clear H1
       have H':=Aside0.mk H
       clear H
       go_wp2
       go_roundg kj26
       case measure=>have:=HK1.out;have:=HK2.out;have:=HJ26.out;omega
       case rel=>exact ⟨(x5_2),(wrap64 (x6_2+1)),rs,H',⟨by have:=HK1.out;have:=HK2.out;have:=HJ26.out;omega⟩,⟨by (with_reducible repeat (first|apply Kd.S_alloc|apply Kd.S_drewN|apply Kd.S_drew));exact HO_5.out⟩,⟨by (with_reducible repeat (first|apply Kd.S_alloc|apply Kd.S_drewN|apply Kd.S_drew));exact HO_108001.out⟩,⟨bk⟩,⟨bk⟩,⟨bk⟩,⟨bl⟩⟩
/-! ### spec_PruneGraph: function 26 -/
def spec_PruneGraph.f (k:Nat) (a0_0:Int) (l0_1:List (List Int)):Option (Int × (List (List Int)) × Int):=(spec_l01Is.f k a0_0 l0_1).bind fun t103=>(if t103=true then ((spec_l02Prune.f k a0_0 l0_1).bind fun bt104=>(some (bt104.1,bt104.2,0))) else (some (0,([]:List (List Int)),1)))
theorem spec_PruneGraph.mono:∀ a0 a1 k,LeO (spec_PruneGraph.f k a0 a1) (spec_PruneGraph.f (k+1) a0 a1):=by
 intro a0 a1 k
 unfold spec_PruneGraph.f
 repeat' first
   | (with_reducible exact spec_l01Is.mono _ _ _)
   | (with_reducible exact spec_l02Prune.mono _ _ _)
   | (with_reducible exact LeO.refl _)
   | (with_reducible exact LeO.none _)
   | (with_reducible refine LeO.ite ?_ ?_)
   | (with_reducible refine LeO.bind ?_ (fun _=>?_))
   | exact spec_l01Is.mono _ _ _
   | exact spec_l02Prune.mono _ _ _
   | exact LeO.none _
   | refine LeO.ite ?_ ?_
   | refine LeO.bind ?_ (fun _=>?_)
set_option maxHeartbeats 8000000 in
set_option maxRecDepth 100000 in
theorem spec_PruneGraph.calls (k : Nat) (a0_0 : Int) (A0_1 : Option Addr) (c0_1 : Nat) (l0_1 : List (List Int)) (r1 : Int) (r2 : List (List Int)) (r3 : Int) (w : World) (hr0_1 : Kd.C (Kd.slice 2 (Kd.int .i64)) w A0_1 l0_1.length l0_1) (hc0_1 : l0_1.length ≤ c0_1) (h : spec_PruneGraph.f k a0_0 l0_1 = some (r1, r2, r3)) :
  Calls Try.prog 26 #[.agg #[.int .i64 a0_0,.slice A0_1 l0_1.length c0_1]] w fun e w'=>∃ v1_:Value,e=.returned (.tuple #[.agg #[.int .i64 r1,v1_],.int .i64 r3])∧Kd.S (Kd.slice 2 (Kd.int .i64)) 32 w' w.heap.size (fun _=>True) v1_ r2∧Below w.heap.size w w':=by
 have hu28:=Try.underlying28
 have HR0_1:=Aside0.mk hr0_1
 have HC0_1:=Aside0.mk hc0_1
 clear hr0_1 hc0_1
 have HB:=Aside0.mk (Below.refl w.heap.size w)
 have H:((spec_l01Is.f k a0_0 l0_1).bind fun t103=>(if t103=true then ((spec_l02Prune.f k a0_0 l0_1).bind fun bt104=>(some (bt104.1,bt104.2,0))) else (some (0,([]:List (List Int)),1))))=some (r1,r2,r3):=h
 clear h
 replace H:=Option.bind_eq_some_iff.mp H
 obtain ⟨t103,A20,H⟩:=H
 replace H:(if t103=true then ((spec_l02Prune.f k a0_0 l0_1).bind fun bt104=>(some (bt104.1,bt104.2,0))) else (some (0,([]:List (List Int)),1)))=some (r1,r2,r3):=H
 have A2:=Aside0.mk A20
 clear A20
 by_cases c3:t103=true
 case neg =>
  replace c3:=Bool.eq_false_iff.mpr c3
  subst c3
  have H1:(some (0,([]:List (List Int)),1))=some (r1,r2,r3):=by rw [if_neg (show ¬ (false=true) by decide)] at H;exact H
  clear H
  have H:=H1
  clear H1
  simp only [Option.some.injEq,Prod.mk.injEq] at H
  obtain ⟨rfl,rfl,rfl⟩:=H
  go_enter Try.func26,Try.ntmps26
  go_wp2_with (first|((with_reducible refine gate_dst (N:=1) rfl ?_);refine box_event ?hg (N:=1) ?hd (cs:=#[.int .i64 a0_0,.slice A0_1 l0_1.length c0_1]) (t:=28) ?hr ?_;(case hd=>rfl);(case hg=>rfl);(case hr=>first|(go_simp;done)|(go_simp;rfl));intro gb101 hg w14 hbox hb;have n0_:=Aside0.mk (below_step bl hb);have n1_:=Aside0.mk (hbox);have n2_:=Aside0.mk ((by rw [hg];exact (below_size bl):w.heap.size≤gb101));have n3_:=Aside0.mk ((by rw [hg];exact (below_size bl):w.heap.size≤gb101));clear HB;have HB:=n0_;have BK101:=n1_;have GW101:=n2_;have GE101:=n3_;clear n0_ n1_ n2_ n3_;clear hb hbox hg)|((with_reducible refine gate_dst (N:=2) rfl ?_);refine box_event ?hg (N:=2) ?hd (cs:=#[.int .i64 0,.slice none 0 0]) (t:=28) ?hr ?_;(case hd=>rfl);(case hg=>rfl);(case hr=>first|(go_simp;done)|(go_simp;rfl));intro gb102 hg w15 hbox hb;have n0_:=Aside0.mk (blk_below (g:=gb101) (o:=.cells #[.int .i64 a0_0,.slice A0_1 l0_1.length c0_1] 28 (0,0)) bk hb);have n1_:=Aside0.mk (below_step bl hb);have n2_:=Aside0.mk (hbox);have n3_:=Aside0.mk ((by rw [hg];exact (below_size bl):w.heap.size≤gb102));have n4_:=Aside0.mk ((by rw [hg];exact (below_size bl):w.heap.size≤gb102));have n5_:=Aside0.mk ((by rw [hg];exact Nat.ne_of_lt (blk_lt (g:=gb101) (o:=.cells #[.int .i64 a0_0,.slice A0_1 l0_1.length c0_1] 28 (0,0)) bk):gb101 ≠ gb102));have n6_:=Aside0.mk ((by rw [hg];exact Nat.ne_of_gt (blk_lt (g:=gb101) (o:=.cells #[.int .i64 a0_0,.slice A0_1 l0_1.length c0_1] 28 (0,0)) bk):gb102 ≠ gb101));clear BK101;clear HB;have BK101:=n0_;have HB:=n1_;have BK102:=n2_;have GW102:=n3_;have GE102:=n4_;have NB101_102:=n5_;have NB102_101:=n6_;clear n0_ n1_ n2_ n3_ n4_ n5_ n6_;clear hb hbox hg;have hnb16:=NB101_102.out;have hnc16:=NB102_101.out;have hcz17_0:w15.cell? ⟨gb101,0,none⟩=some (.int .i64 a0_0):=(blk_cell BK101.out 0).trans rfl;have hcz17_1:w15.cell? ⟨gb101,1,none⟩=some (.slice A0_1 l0_1.length c0_1):=(blk_cell BK101.out 1).trans rfl;have hfz17_0:=blk_frozen BK101.out 0;have hfz17_1:=blk_frozen BK101.out 1)|((with_reducible refine gate_callee (f:=36) rfl ?_);refine goesL_ (some 5) rfl rfl Try.func36 (by kernel_rfl) rfl #[.agg #[.int .i64 a0_0,.slice A0_1 l0_1.length c0_1]] rfl gm ?_;(with_reducible refine (spec_l01Is.calls k a0_0 _ _ l0_1 false _ ?side1 ?side2 A2.out).mono ?_);(case side1=>repeat (first|exact (Kd.C_below HR0_1.out HB.out)|(with_reducible refine Kd.C_alloc ?_ _)|(with_reducible refine Kd.C_drewN ?_ _)|(with_reducible refine Kd.C_drew ?_)));(case side2=>exact HC0_1.out);rintro e w18 ⟨rfl,hb⟩;refine ⟨_,rfl,?_⟩;have n0_:=Aside0.mk (blk_below (g:=gb101) (o:=.cells #[.int .i64 a0_0,.slice A0_1 l0_1.length c0_1] 28 (0,0)) bk hb);have n1_:=Aside0.mk (blk_below (g:=gb102) (o:=.cells #[.int .i64 0,.slice none 0 0] 28 (0,0)) bk hb);have n2_:=Aside0.mk (below_step bl hb);clear BK101;clear BK102;clear HB;have BK101:=n0_;have BK102:=n1_;have HB:=n2_;clear n0_ n1_ n2_;(try clear hb);(try clear hb2);(try clear hk);(try clear hi);have hcz19_0:w18.cell? ⟨gb102,0,none⟩=some (.int .i64 0):=(blk_cell BK102.out 0).trans rfl;have hcz19_1:w18.cell? ⟨gb102,1,none⟩=some (.slice none 0 0):=(blk_cell BK102.out 1).trans rfl;have hfz19_0:=blk_frozen BK102.out 0;have hfz19_1:=blk_frozen BK102.out 1))
  refine bodyPost_ret (results_ct rfl _ _ gb102 28 #[.int .i64 0,.slice none 0 0] (0,0) _ rfl (by (with_reducible repeat (first|refine blk_drewN ?_ _|refine blk_drew ?_|refine blk_alloc ?_ _));refine blk_put (cs:=#[.int .i64 0,.slice none 0 0]) ?_ 1 _ rfl;(with_reducible repeat (first|refine blk_drewN ?_ _|refine blk_drew ?_|refine blk_alloc ?_ _));refine blk_put (cs:=#[.int .i64 0,.slice none 0 0]) ?_ 0 _ rfl;(with_reducible repeat (first|refine blk_drewN ?_ _|refine blk_drew ?_|refine blk_alloc ?_ _));exact BK102.out) Try.underlying28 rfl (by kernel_rfl)) rfl ?_
  exact ⟨_,by first|rfl|(simp [errW_none,errW_some]<;>rfl)|(simp [*,errW_none,errW_some]<;>rfl),by first|exact Kd.S_nil _ _ _ _ _|exact Kd.N_nil _ _ _ _ _|exact Kd.V_nil _ _ _ _ _|exact Kd.Q_nil _ _ _ _ _|exact Kd.R_nil _ _ _ _ _,bl⟩
 subst c3
 have H1:((spec_l02Prune.f k a0_0 l0_1).bind fun bt104=>(some (bt104.1,bt104.2,0)))=some (r1,r2,r3):=by rw [if_pos rfl] at H;exact H
 clear H
 have H:=H1
 clear H1
 replace H:=Option.bind_eq_some_iff.mp H
 obtain ⟨⟨t104,t105⟩,A40,H⟩:=H
 replace H:(some (t104,t105,0))=some (r1,r2,r3):=H
 have A4:=Aside0.mk A40
 clear A40
 simp only [Option.some.injEq,Prod.mk.injEq] at H
 obtain ⟨rfl,rfl,rfl⟩:=H
 go_enter Try.func26,Try.ntmps26
 go_wp2_with (first|((with_reducible refine gate_dst (N:=1) rfl ?_);refine box_event ?hg (N:=1) ?hd (cs:=#[.int .i64 a0_0,.slice A0_1 l0_1.length c0_1]) (t:=28) ?hr ?_;(case hd=>rfl);(case hg=>rfl);(case hr=>first|(go_simp;done)|(go_simp;rfl));intro gb101 hg w5 hbox hb;have n0_:=Aside0.mk (below_step bl hb);have n1_:=Aside0.mk (hbox);have n2_:=Aside0.mk ((by rw [hg];exact (below_size bl):w.heap.size≤gb101));have n3_:=Aside0.mk ((by rw [hg];exact (below_size bl):w.heap.size≤gb101));clear HB;have HB:=n0_;have BK101:=n1_;have GW101:=n2_;have GE101:=n3_;clear n0_ n1_ n2_ n3_;clear hb hbox hg)|((with_reducible refine gate_dst (N:=2) rfl ?_);refine box_event ?hg (N:=2) ?hd (cs:=#[.int .i64 0,.slice none 0 0]) (t:=28) ?hr ?_;(case hd=>rfl);(case hg=>rfl);(case hr=>first|(go_simp;done)|(go_simp;rfl));intro gb102 hg w6 hbox hb;have n0_:=Aside0.mk (blk_below (g:=gb101) (o:=.cells #[.int .i64 a0_0,.slice A0_1 l0_1.length c0_1] 28 (0,0)) bk hb);have n1_:=Aside0.mk (below_step bl hb);have n2_:=Aside0.mk (hbox);have n3_:=Aside0.mk ((by rw [hg];exact (below_size bl):w.heap.size≤gb102));have n4_:=Aside0.mk ((by rw [hg];exact (below_size bl):w.heap.size≤gb102));have n5_:=Aside0.mk ((by rw [hg];exact Nat.ne_of_lt (blk_lt (g:=gb101) (o:=.cells #[.int .i64 a0_0,.slice A0_1 l0_1.length c0_1] 28 (0,0)) bk):gb101 ≠ gb102));have n6_:=Aside0.mk ((by rw [hg];exact Nat.ne_of_gt (blk_lt (g:=gb101) (o:=.cells #[.int .i64 a0_0,.slice A0_1 l0_1.length c0_1] 28 (0,0)) bk):gb102 ≠ gb101));clear BK101;clear HB;have BK101:=n0_;have HB:=n1_;have BK102:=n2_;have GW102:=n3_;have GE102:=n4_;have NB101_102:=n5_;have NB102_101:=n6_;clear n0_ n1_ n2_ n3_ n4_ n5_ n6_;clear hb hbox hg;have hnb7:=NB101_102.out;have hnc7:=NB102_101.out;have hcz8_0:w6.cell? ⟨gb101,0,none⟩=some (.int .i64 a0_0):=(blk_cell BK101.out 0).trans rfl;have hcz8_1:w6.cell? ⟨gb101,1,none⟩=some (.slice A0_1 l0_1.length c0_1):=(blk_cell BK101.out 1).trans rfl;have hfz8_0:=blk_frozen BK101.out 0;have hfz8_1:=blk_frozen BK101.out 1)|((with_reducible refine gate_callee (f:=36) rfl ?_);refine goesL_ (some 5) rfl rfl Try.func36 (by kernel_rfl) rfl #[.agg #[.int .i64 a0_0,.slice A0_1 l0_1.length c0_1]] rfl gm ?_;(with_reducible refine (spec_l01Is.calls k a0_0 _ _ l0_1 true _ ?side1 ?side2 A2.out).mono ?_);(case side1=>repeat (first|exact (Kd.C_below HR0_1.out HB.out)|(with_reducible refine Kd.C_alloc ?_ _)|(with_reducible refine Kd.C_drewN ?_ _)|(with_reducible refine Kd.C_drew ?_)));(case side2=>exact HC0_1.out);rintro e w9 ⟨rfl,hb⟩;refine ⟨_,rfl,?_⟩;have n0_:=Aside0.mk (blk_below (g:=gb101) (o:=.cells #[.int .i64 a0_0,.slice A0_1 l0_1.length c0_1] 28 (0,0)) bk hb);have n1_:=Aside0.mk (blk_below (g:=gb102) (o:=.cells #[.int .i64 0,.slice none 0 0] 28 (0,0)) bk hb);have n2_:=Aside0.mk (below_step bl hb);clear BK101;clear BK102;clear HB;have BK101:=n0_;have BK102:=n1_;have HB:=n2_;clear n0_ n1_ n2_;(try clear hb);(try clear hb2);(try clear hk);(try clear hi);have hcz10_0:w9.cell? ⟨gb101,0,none⟩=some (.int .i64 a0_0):=(blk_cell BK101.out 0).trans rfl;have hcz10_1:w9.cell? ⟨gb101,1,none⟩=some (.slice A0_1 l0_1.length c0_1):=(blk_cell BK101.out 1).trans rfl;have hfz10_0:=blk_frozen BK101.out 0;have hfz10_1:=blk_frozen BK101.out 1)|((with_reducible refine gate_callee (f:=67) rfl ?_);refine goesL_ (some 9) rfl rfl Try.func67 (by kernel_rfl) rfl #[.agg #[.int .i64 a0_0,.slice A0_1 l0_1.length c0_1]] rfl gm ?_;(with_reducible refine (spec_l02Prune.calls k a0_0 _ _ l0_1 t104 t105 _ ?side1 ?side2 A4.out).mono ?_);(case side1=>repeat (first|exact (Kd.C_below HR0_1.out HB.out)|(with_reducible refine Kd.C_alloc ?_ _)|(with_reducible refine Kd.C_drewN ?_ _)|(with_reducible refine Kd.C_drew ?_)));(case side2=>exact HC0_1.out);rintro e w11 ⟨v106,rfl,ho0,hb⟩;refine ⟨_,rfl,?_⟩;have n0_:=Aside0.mk (Kd.S_lower ho0 (below_size bl));have n1_:=Aside0.mk (blk_below (g:=gb101) (o:=.cells #[.int .i64 a0_0,.slice A0_1 l0_1.length c0_1] 28 (0,0)) bk hb);have n2_:=Aside0.mk (blk_below (g:=gb102) (o:=.cells #[.int .i64 0,.slice none 0 0] 28 (0,0)) bk hb);have n3_:=Aside0.mk (below_step bl hb);clear BK101;clear BK102;clear HB;have HO107:=n0_;have BK101:=n1_;have BK102:=n2_;have HB:=n3_;clear n0_ n1_ n2_ n3_;(try clear hb);(try clear hb2);(try clear hk);(try clear hi);(try clear ho0);have hcz12_0:w11.cell? ⟨gb102,0,none⟩=some (.int .i64 0):=(blk_cell BK102.out 0).trans rfl;have hcz12_1:w11.cell? ⟨gb102,1,none⟩=some (.slice none 0 0):=(blk_cell BK102.out 1).trans rfl;have hfz12_0:=blk_frozen BK102.out 0;have hfz12_1:=blk_frozen BK102.out 1;obtain ⟨Ao13,co13,eo13⟩:=Kd.S_slice HO107.out;subst eo13))
 refine bodyPost_ret (results_ct rfl _ _ gb102 28 #[.int .i64 t104,.slice Ao13 t105.length co13] (0,0) _ rfl (by (with_reducible repeat (first|refine blk_drewN ?_ _|refine blk_drew ?_|refine blk_alloc ?_ _));refine blk_put (cs:=#[.int .i64 t104,.slice none 0 0]) ?_ 1 _ rfl;(with_reducible repeat (first|refine blk_drewN ?_ _|refine blk_drew ?_|refine blk_alloc ?_ _));refine blk_put (cs:=#[.int .i64 0,.slice none 0 0]) ?_ 0 _ rfl;(with_reducible repeat (first|refine blk_drewN ?_ _|refine blk_drew ?_|refine blk_alloc ?_ _));exact BK102.out) Try.underlying28 rfl (by kernel_rfl)) rfl ?_
 exact ⟨_,by first|rfl|(simp [errW_none,errW_some]<;>rfl)|(simp [*,errW_none,errW_some]<;>rfl),by (with_reducible repeat (first|apply Kd.S_alloc|apply Kd.S_drewN|apply Kd.S_drew));exact Kd.S_mono (Kd.S_far (p:=⟨gb102,1,none⟩) (Kd.S_far (p:=⟨gb102,0,none⟩) (Kd.S_types HO107.out BK102.out (by decide)) (fun _ hk=>hk.2) (.int .i64 t104)) (fun _ hk=>hk.2) (.slice Ao13 t105.length co13)) (fun _ hk=>trivial),bl⟩
end Go.Proofs.Ytjgdibhalmcigaa.D
/- Set with little white space, by a program. -/
