/- The functions that one law reaches, each as a Lean function, and that Go's call comes to what it says. Condition of each: that the Lean function answers (is not none). -/
import Derived.Test.YtoebojnhchocaaaAx0
import Derived.Test.YtoebojnhchocaaaAx12
namespace Go.Proofs.Ytoebojnhchocaaa.A
open Go.RowKit Go.Proofs.YtoebojnhchocaaaW.PrintWords Go.Proofs.YtoebojnhchocaaaW.PrintLast Go.Proofs.YtoebojnhchocaaaW.PrintMore
attribute [local go_sem] max2_int min2_int max_two min_two max_three min_three max_four min_four   -- for this text's walks alone
set_option linter.unusedVariables false
set_option linter.unusedSimpArgs false
/-! ### F169: function 169 -/
mutual
def F169.j0 : Nat → List Int → List Int → Bool → Option (List Int × Bool)
 | 0,_,_,_=>none
 | k+1,x0,x1,x18=>if x18=true then (some ((([]:List Int)),true)) else (if (wrap64 ((wrap64 ((x0.length:Int)+(x1.length:Int))) - 1)) > 40 then (some (([]:List Int),false)) else (F169.l0 k x0 x1 (([]:List Int)) (wrap64 ((wrap64 ((x0.length:Int)+(x1.length:Int))) - 1)) 0))
def F169.l0 : Nat → List Int → List Int → List Int → Int → Int → Option (List Int × Bool)
 | 0,_,_,_,_,_=>none
 | k+1,x0,x1,x6,x33,x34=>if x34 < x33 then (F169.l1 k x0 x1 x6 x34 0 (mx 0 (wrap64 ((wrap64 (x34 - (x1.length:Int)))+1))) x33 x34) else (some (x6,true))
def F169.l1 : Nat → List Int → List Int → List Int → Int → Int → Int → Int → Int → Option (List Int × Bool)
 | 0,_,_,_,_,_,_,_,_=>none
 | k+1,x0,x1,x6,x7,x8,x10,x33,x34=>if x10≤(mn x7 (wrap64 ((x0.length:Int) - 1))) then (if 0≤x10 then (if x10 < (x0.length:Int) then (if 0≤(wrap64 (x7 - x10)) then (if (wrap64 (x7 - x10)) < (x1.length:Int) then ((F167.f k x8 (rd x0 x10) (rd x1 (wrap64 (x7 - x10)))).bind fun bt109=>(if bt109.2=true then (F169.l1 k x0 x1 x6 x7 bt109.1 (wrap64 (x10+1)) x33 x34) else (some (([]:List Int),false)))) else (none)) else (none)) else (none)) else (none)) else (if x6.length < 17592186044416 then (F169.l0 k x0 x1 (x6 ++ [x8]) x33 (wrap64 (x34+1))) else (none))
end
def F169.f (k:Nat) (l0:List Int) (l1:List Int):Option (List Int × Bool):=if (l0.length:Int)=0 then (F169.j0 k l0 l1 true) else (F169.j0 k l0 l1 ((l1.length:Int) == 0))
theorem F169.mono_l : ∀ k, (∀ y0 y1 y2, LeO (F169.j0 k y0 y1 y2) (F169.j0 (k + 1) y0 y1 y2)) ∧ (∀ y0 y1 y2 y3 y4, LeO (F169.l0 k y0 y1 y2 y3 y4) (F169.l0 (k + 1) y0 y1 y2 y3 y4)) ∧ (∀ y0 y1 y2 y3 y4 y5 y6 y7, LeO (F169.l1 k y0 y1 y2 y3 y4 y5 y6 y7) (F169.l1 (k + 1) y0 y1 y2 y3 y4 y5 y6 y7))
 | 0=>⟨fun _ _ _ r h=>by simp [F169.j0] at h,fun _ _ _ _ _ r h=>by simp [F169.l0] at h,fun _ _ _ _ _ _ _ _ r h=>by simp [F169.l1] at h⟩
 | k+1=>by
  obtain ⟨ih0,ih1,ih2⟩:=F169.mono_l k
  refine ⟨?_, ?_, ?_⟩ <;> intros <;> (first | unfold F169.j0 | unfold F169.l0 | unfold F169.l1) <;> repeat' first
   | (with_reducible first|exact ih0 _ _ _|exact ih1 _ _ _ _ _|exact ih2 _ _ _ _ _ _ _ _|exact F167.mono _ _ _ _|exact LeO.refl _|exact LeO.none _|refine LeO.ite ?_ ?_|refine LeO.bind ?_ (fun _=>?_))
   | exact ih0 _ _ _|exact ih1 _ _ _ _ _|exact ih2 _ _ _ _ _ _ _ _|exact F167.mono _ _ _ _|exact LeO.none _|refine LeO.ite ?_ ?_|refine LeO.bind ?_ (fun _=>?_)
theorem F169.mono:∀ a0 a1 k,LeO (F169.f k a0 a1) (F169.f (k+1) a0 a1):=by
 intro a0 a1 k
 obtain ⟨ih0,ih1,ih2⟩:=F169.mono_l k
 unfold F169.f
 repeat' first
  | (with_reducible first|exact ih0 _ _ _|exact ih1 _ _ _ _ _|exact ih2 _ _ _ _ _ _ _ _|exact F167.mono _ _ _ _|exact LeO.refl _|exact LeO.none _|refine LeO.ite ?_ ?_|refine LeO.bind ?_ (fun _=>?_))
  | exact ih0 _ _ _|exact ih1 _ _ _ _ _|exact ih2 _ _ _ _ _ _ _ _|exact F167.mono _ _ _ _|exact LeO.none _|refine LeO.ite ?_ ?_|refine LeO.bind ?_ (fun _=>?_)
def F169.T13:Bool × List (List Nat × List Nat):=(true,[([],[]),([],[]),([],[]),([1,2],[1,2]),([3],[3]),([],[]),([],[]),([],[]),([6,7],[6,7]),([5,8],[5,8]),([9],[9]),([0,4,10],[0,4,10]),([11],[11]),([12],[12]),([12],[12]),([13,11,0,1,2,3,4,5,6,7,8,9,10,11,12,13],[0,13]),([14,15,0,1,2,3,4,5,6,7,8,9,10,11,12,13,14,15],[14])])
def F169.B13:List Nat:=[0,0,0,6,14,0,0,0,192,480,992,2047,4095,8191,8191,16383,65535]
theorem F169.tab13:rtab .any (opsOf Try.f169 13)=F169.T13:=by kernel_rfl
theorem F169.bits13:waitsOk F169.T13.2 F169.B13=true:=by kernel_rfl
set_option maxHeartbeats 8000000 in
set_option maxRecDepth 100000 in
theorem F169.calls (k : Nat) (A0 : Option Addr) (c0 : Nat) (l0 : List Int) (A1 : Option Addr) (c1 : Nat) (l1 : List Int) (r1 : List Int) (r2 : Bool) (w : World) (hr0 : Kd.C (Kd.int .i64) w A0 l0.length l0) (hc0 : l0.length ≤ c0) (hr1 : Kd.C (Kd.int .i64) w A1 l1.length l1) (hc1 : l1.length ≤ c1) (h : F169.f k l0 l1 = some (r1, r2)) :
  Calls Try.prog 169 #[.slice A0 l0.length c0,.slice A1 l1.length c1] w fun e w'=>∃ v0_:Value,e=.returned (.tuple #[v0_,.bool r2])∧Kd.R (Kd.int .i64) 2 w' w.heap.size (fun _=>True) v0_ r1∧Below w.heap.size w w':=by
 have HR0:=Aside0.mk hr0
 have HC0:=Aside0.mk hc0
 clear hr0 hc0
 have HR1:=Aside0.mk hr1
 have HC1:=Aside0.mk hc1
 clear hr1 hc1
 have HB:=Aside0.mk (Below.refl w.heap.size w)
 have H:(if (l0.length:Int)=0 then (F169.j0 k l0 l1 true) else (F169.j0 k l0 l1 ((l1.length:Int) == 0)))=some (r1,r2):=h
 clear h
 have HC3:=Aside0.mk H
 clear H
 go_enter Try.func169,Try.ntmps169
 go_upto_region 1 with (fail)
 go_cut [18] (fun v18 wc=>∃ (kq:Nat) (x18_2:Bool),v18=.bool x18_2∧Aside0 (F169.j0 kq l0 l1 x18_2=some (r1,r2))∧Aside0 (kq≤k)∧Aside0 (Below w.heap.size w wc))
 case first =>
  have H:=HC3.out
  clear HC3
  by_cases c4:(l0.length:Int)=0
  case neg =>
   rw [if_neg c4] at H
   have c4b0:((l0.length:Int) == 0)=false:=beq_eq_false_iff_ne.mpr c4
   have c4b1:((l0.length:Int) != 0)=true:=bne_iff_ne.mpr c4
   have c4b2:¬ (l0=[]):=fun h_=>c4 (by rw [h_];rfl)
   (first|rw [c4b0]|(simp only [i64_w,i32_w];rw [c4b0])|skip)
   have H':=Aside0.mk H
   clear H
   go_wp2
   go_meet
   case rel=>exact ⟨_,(((l1.length:Int) == 0)),rs,(by first|exact H'|(rw [hji12];exact H')|(rw [hji13];exact H')|(rw [hji17];exact H')),⟨by first|omega|exact Nat.le_refl _⟩,⟨bl⟩⟩
  rw [if_pos c4] at H
  have c4b0:((l0.length:Int) == 0)=true:=beq_iff_eq.mpr c4
  have c4b1:((l0.length:Int) != 0)=false:=bne_eq_false_iff_eq.mpr c4
  clear c4
  (first|rw [c4b0]|(simp only [i64_w,i32_w];rw [c4b0])|skip)
  have H':=Aside0.mk H
  clear H
  go_wp2
  go_meet
  case rel=>exact ⟨_,(true),rs,(by first|exact H'|(rw [hji12];exact H')|(rw [hji13];exact H')|(rw [hji17];exact H')),⟨by first|omega|exact Nat.le_refl _⟩,⟨bl⟩⟩
 case rest =>
  clear HC3
  (try clear c1);(try clear p2);(try clear c4);(try clear c4b0);(try clear c4b1);(try clear c4b2)
  obtain ⟨kq,x18_2,rfl,HA,HJ2,HB⟩:=hcut
  cases kq with
  | zero=>exact absurd HA.out (by simp [F169.j0])
  | succ kj2 =>
   have H:=HA.out
   clear HA
   simp only [F169.j0] at H
   by_cases c5:x18_2=true
   case neg =>
    replace c5:=Bool.eq_false_iff.mpr c5
    subst c5
    have H1:(if (wrap64 ((wrap64 ((l0.length:Int)+(l1.length:Int))) - 1)) > 40 then (some (([]:List Int),false)) else (F169.l0 kj2 l0 l1 (([]:List Int)) (wrap64 ((wrap64 ((l0.length:Int)+(l1.length:Int))) - 1)) 0))=some (r1,r2):=by rw [if_neg (show ¬ (false=true) by decide)] at H;exact H
    clear H
    have H:=H1
    clear H1
    by_cases c8:(wrap64 ((wrap64 ((l0.length:Int)+(l1.length:Int))) - 1)) > 40
    case neg =>
     rw [if_neg c8] at H
     have c8b0:decide (40 < (wrap64 ((wrap64 ((l0.length:Int)+(l1.length:Int))) - 1)))=false:=decide_eq_false c8
     clear c8
     obtain ⟨y104,hy104⟩:∃ y_:List Int,y_=(([]:List Int)):=⟨_,rfl⟩
     replace H:(F169.l0 kj2 l0 l1 y104 (wrap64 ((wrap64 ((l0.length:Int)+(l1.length:Int))) - 1)) 0)=some (r1,r2):=by first|(rw [hy104];with_reducible exact H)|(have H2_:=(Option.bind_some _ _).symm.trans H;rw [hy104];with_reducible exact H2_)|(have H2_:=(Option.bind_some _ _).symm.trans H;with_reducible exact H2_)|with_reducible exact H|(rw [hy104];exact H)|exact H
     have Ny104:=Aside0.mk hy104
     clear hy104
     have H':=Aside0.mk H
     clear H
     go_wp2_with (first|((with_reducible refine gate_dst (N:=27) rfl ?_);(try (refine gate_guard (by rfl) ?_;dsimp only));refine Kd.R_lit (Kd.int .i64) _ 2 ?hg (N:=27) ?hd (xs:=([]:List Int)) (inner:=[]) (ok:=fun _=>True) (okp:=fun _=>True) ?hr ?hp (fun _ hk=>hk) trivial (Below.refl _ _) (Nat.le_refl _) (by simp) ?_;(case hd=>rfl);(case hg=>rfl);(case hr=>first|(go_simp;done)|(go_simp;rfl));(case hp=>exact (Reps.none _ _));intro v105 w9 ho10 hb hg_ hnew_;clear hg_ hnew_;(first|rw [← Ny104.out] at ho10|(simp only [Int.reduceToNat] at ho10;rw [← Ny104.out] at ho10));have HO106:=Aside0.mk (Kd.R_lower ho10 (below_size bl));replace HB:=Aside0.mk (below_step bl hb);clear hb ho10))
     go_loopg [6,34] kj2 (fun kq v6 v34 w'=>∃ (x6_2:List Int) (x34_2:Int),v34=.int .i64 x34_2∧Aside0 (F169.l0 kq l0 l1 x6_2 (wrap64 ((wrap64 ((l0.length:Int)+(l1.length:Int))) - 1)) x34_2=some (r1,r2))∧Aside0 (kq≤kj2)∧Aside0 (Kd.R (Kd.int .i64) 2 w' w.heap.size (fun _=>True) v6 x6_2)∧Aside0 (Below w.heap.size w w'))
     case atStart=>exact ⟨(y104),(0),rs,H',⟨Nat.le_refl _⟩,⟨by (with_reducible repeat (first|apply Kd.R_alloc|apply Kd.R_drewN|apply Kd.R_drew));exact HO106.out⟩,⟨bl⟩⟩
     case round =>
      clear H'
      (try clear c1);(try clear p2);(try clear c4);(try clear c4b0);(try clear c4b1);(try clear c4b2);(try clear c5);(try clear p6);(try clear c8);(try clear c8b0);(try clear p2)
      obtain ⟨x6_2,x34_2,rfl,HA,HK2,HO_6,HB⟩:=hrel
      cases gk with
      | zero=>exact absurd HA.out (by simp [F169.l0])
      | succ k2 =>
       have H:=HA.out
       clear HA
       simp only [F169.l0] at H
       by_cases c11:x34_2 < (wrap64 ((wrap64 ((l0.length:Int)+(l1.length:Int))) - 1))
       case neg =>
        rw [if_neg c11] at H
        have c11b0:decide (x34_2 < (wrap64 ((wrap64 ((l0.length:Int)+(l1.length:Int))) - 1)))=false:=decide_eq_false c11
        clear c11
        simp only [Option.some.injEq,Prod.mk.injEq] at H
        obtain ⟨rfl,rfl⟩:=H
        go_wp2
        go_ret2
        exact ⟨_,by first|rfl|(simp [errW_none,errW_some]<;>rfl)|(simp [*,errW_none,errW_some]<;>rfl),by (with_reducible repeat (first|apply Kd.R_alloc|apply Kd.R_drewN|apply Kd.R_drew));exact HO_6.out,bl⟩
       rw [if_pos c11] at H
       have c11b0:=decide_eq_true c11
       clear c11
       obtain ⟨ji12,hji12⟩:∃ j_:Int,(mx 0 (wrap64 ((wrap64 (x34_2 - (l1.length:Int)))+1)))=j_:=⟨_,rfl⟩
       replace H:(F169.l1 k2 l0 l1 x6_2 x34_2 0 ji12 (wrap64 ((wrap64 ((l0.length:Int)+(l1.length:Int))) - 1)) x34_2)=some (r1,r2):=by first|(rw [hji12] at H;exact H)|(simp only [hji12] at H ⊢;exact H)
       have hji12_:(if 0 < (wrap64 ((wrap64 (x34_2 - (l1.length:Int)))+1)) then (wrap64 ((wrap64 (x34_2 - (l1.length:Int)))+1)) else 0)=ji12:=hji12
       have H':=Aside0.mk H
       clear H
       go_wp2
       go_loopg [8,10] k2 (fun kq v8 v10 w'=>∃ (x8_3:Int) (x10_3:Int),v8=.int .i64 x8_3∧v10=.int .i64 x10_3∧Aside0 (F169.l1 kq l0 l1 x6_2 x34_2 x8_3 x10_3 (wrap64 ((wrap64 ((l0.length:Int)+(l1.length:Int))) - 1)) x34_2=some (r1,r2))∧Aside0 (kq≤k2)∧Aside0 (Kd.R (Kd.int .i64) 2 w' w.heap.size (fun _=>True) u6 x6_2)∧Aside0 (Below w.heap.size w w'))
       case atStart=>exact ⟨(0),(ji12),rs,(by first|rfl|(simp;done)|(simp only [← hji12]<;>(first|rfl|simp))|(simp [*];done)),H',⟨Nat.le_refl _⟩,⟨by (with_reducible repeat (first|apply Kd.R_alloc|apply Kd.R_drewN|apply Kd.R_drew));exact HO_6.out⟩,⟨bl⟩⟩
       case round =>
        clear H'
        (try clear c1);(try clear p2);(try clear c4);(try clear c4b0);(try clear c4b1);(try clear c4b2);(try clear c5);(try clear p6);(try clear c8);(try clear c8b0);(try clear c11);(try clear c11b0);(try clear p2);(try clear p6)
        obtain ⟨x8_3,x10_3,rfl,rfl,HA,HK3,HO_6,HB⟩:=hrel
        cases gk with
        | zero=>exact absurd HA.out (by simp [F169.l1])
        | succ k3 =>
         have H:=HA.out
         clear HA
         simp only [F169.l1] at H
         obtain ⟨ji13,hji13⟩:∃ j_:Int,(mn x34_2 (wrap64 ((l0.length:Int) - 1)))=j_:=⟨_,rfl⟩
         replace H:(if x10_3≤(ji13) then (if 0≤x10_3 then (if x10_3 < (l0.length:Int) then (if 0≤(wrap64 (x34_2 - x10_3)) then (if (wrap64 (x34_2 - x10_3)) < (l1.length:Int) then ((F167.f k3 x8_3 (rd l0 x10_3) (rd l1 (wrap64 (x34_2 - x10_3)))).bind fun bt109=>(if bt109.2=true then (F169.l1 k3 l0 l1 x6_2 x34_2 bt109.1 (wrap64 (x10_3+1)) (wrap64 ((wrap64 ((l0.length:Int)+(l1.length:Int))) - 1)) x34_2) else (some (([]:List Int),false)))) else (none)) else (none)) else (none)) else (none)) else (if x6_2.length < 17592186044416 then (F169.l0 k3 l0 l1 (x6_2 ++ [x8_3]) (wrap64 ((wrap64 ((l0.length:Int)+(l1.length:Int))) - 1)) (wrap64 (x34_2+1))) else (none)))=some (r1,r2):=by first|(rw [hji13] at H;exact H)|(simp only [hji13] at H ⊢;exact H)
         have hji13_:(if (wrap64 ((l0.length:Int) - 1)) < x34_2 then (wrap64 ((l0.length:Int) - 1)) else x34_2)=ji13:=hji13
         by_cases c14:x10_3≤(ji13)
         case neg =>
          rw [if_neg c14] at H
          have c14b0:decide (x10_3≤(ji13))=false:=decide_eq_false c14
          clear c14
          replace H:=iS H;obtain ⟨c26,H⟩:=H
          have LMc26:=Aside0.mk c26
          clear c26
          obtain ⟨y111,hy111⟩:∃ y_:List Int,y_=(x6_2 ++ [x8_3]):=⟨_,rfl⟩
          replace H:(F169.l0 k3 l0 l1 y111 (wrap64 ((wrap64 ((l0.length:Int)+(l1.length:Int))) - 1)) (wrap64 (x34_2+1)))=some (r1,r2):=by first|(rw [hy111];with_reducible exact H)|(have H2_:=(Option.bind_some _ _).symm.trans H;rw [hy111];with_reducible exact H2_)|(have H2_:=(Option.bind_some _ _).symm.trans H;with_reducible exact H2_)|with_reducible exact H|(rw [hy111];exact H)|exact H
          have Ny111:=Aside0.mk hy111
          clear hy111
          have H':=Aside0.mk H
          clear H
          go_wp2_with (first|((with_reducible refine gate_builtin (b:=.append) (xs:=#[.tmp 69,.tmp 71]) rfl ?_);(try (refine gate_guard (by rfl) ?_;dsimp only));at_builtin;refine Kd.R_append (Kd.int .i64) (w0:=w) w.heap.size rfl (.tmp 69) (.tmp 71) 28 2 (.int .i64 0) 8 rfl Try.underlying28 info2 rfl (by decide) (by omega) u6 x6_2 x8_3 [.int .i64 x8_3] (fun _=>True) (fun _=>False) rfl rfl ?aP (fun _ hk=>hk.elim) ?aF ?aO ?aB ?aS ?aL ?_;(case aP=>exact rfl);(case aB=>exact bl);(case aF=>exact (fun _ _=>trivial));(case aO=>exact (aR HO_6.out));(case aS=>exact (below_size bl));(case aL=>have:=LMc26.out;omega);intro v112 w27 ho hb hg hat;rw [← Ny111.out] at ho;have n0_:=Aside0.mk (hb);have n1_:=Aside0.mk (ho);clear HB;clear HO_6;have HB:=n0_;have HO113:=n1_;clear n0_ n1_;clear ho hb hg hat))
          first|go_roundg k3|(simp only [← hji12];go_roundg k3)|(simp only [← hji13];go_roundg k3)|(simp only [← hji17];go_roundg k3)
          case measure=>have:=HJ2.out;have:=HK2.out;have:=HK3.out;omega
          case rel=>exact ⟨(y111),(wrap64 (x34_2+1)),rs,(by first|exact H'|(rw [hji12];exact H')|(rw [hji13];exact H')|(rw [hji17];exact H')),⟨by have:=HJ2.out;have:=HK2.out;have:=HK3.out;omega⟩,⟨by (with_reducible repeat (first|apply Kd.R_alloc|apply Kd.R_drewN|apply Kd.R_drew));exact HO113.out⟩,⟨bl⟩⟩
         rw [if_pos c14] at H
         have c14b0:=decide_eq_true c14
         clear c14
         replace H:=iS H;obtain ⟨c15,H⟩:=H
         have c15b0:=decide_eq_true c15
         clear c15
         replace H:=iS H;obtain ⟨c16,H⟩:=H
         have c16b0:=decide_eq_true c16
         clear c16
         obtain ⟨ji17,hji17⟩:∃ j_:Int,(wrap64 (x34_2 - x10_3))=j_:=⟨_,rfl⟩
         replace H:(if 0≤(ji17) then (if (ji17) < (l1.length:Int) then ((F167.f k3 x8_3 (rd l0 x10_3) (rd l1 (ji17))).bind fun bt109=>(if bt109.2=true then (F169.l1 k3 l0 l1 x6_2 x34_2 bt109.1 (wrap64 (x10_3+1)) (wrap64 ((wrap64 ((l0.length:Int)+(l1.length:Int))) - 1)) x34_2) else (some (([]:List Int),false)))) else (none)) else (none))=some (r1,r2):=by first|(rw [hji17] at H;exact H)|(simp only [hji17] at H ⊢;exact H)
         have hji17w:(IntKind.i64.wrap (x34_2 - x10_3))=ji17:=(i64_w _).trans hji17
         replace H:=iS H;obtain ⟨c18,H⟩:=H
         have c18b0:=decide_eq_true c18
         clear c18
         replace H:=iS H;obtain ⟨c19,H⟩:=H
         have c19b0:=decide_eq_true c19
         clear c19
         replace H:=Option.bind_eq_some_iff.mp H
         obtain ⟨⟨t109,t110⟩,A200,H⟩:=H
         replace H:(if t110=true then (F169.l1 k3 l0 l1 x6_2 x34_2 t109 (wrap64 (x10_3+1)) (wrap64 ((wrap64 ((l0.length:Int)+(l1.length:Int))) - 1)) x34_2) else (some (([]:List Int),false)))=some (r1,r2):=H
         have A20:=Aside0.mk A200
         clear A200
         by_cases c21:t110=true
         case neg =>
          replace c21:=Bool.eq_false_iff.mpr c21
          subst c21
          have H1:(some (([]:List Int),false))=some (r1,r2):=by rw [if_neg (show ¬ (false=true) by decide)] at H;exact H
          clear H
          have H:=H1
          clear H1
          simp only [Option.some.injEq,Prod.mk.injEq] at H
          obtain ⟨rfl,rfl⟩:=H
          try go_wp2
          replace HO_6:=Aside0.mk (Kd.R_drew HO_6.out);replace HB:=Aside0.mk (below_drew1 HB.out)
          have p107:0≤(x10_3:Int):=oD
          have q107:x10_3 < (l0.length:Int):=oD
          obtain ⟨ad107,e107,hx107_0⟩:=Kd.at_int HR0.out x10_3 p107 q107
          have hw107_0:=hx107_0
          cases e107
          replace hx107_0:=hbc HB hx107_0
          replace p107:=eq_true p107
          replace q107:=eq_true q107
          have p108:0≤((ji17):Int):=oD
          have q108:(ji17) < (l1.length:Int):=oD
          obtain ⟨ad108,e108,hx108_0⟩:=Kd.at_int HR1.out (ji17) p108 q108
          have hw108_0:=hx108_0
          cases e108
          replace hx108_0:=hbc HB hx108_0
          replace p108:=eq_true p108
          replace q108:=eq_true q108
          refine start_ (n:=17) (S:=fun w'=>w'.cell? (ad107.add (x10_3).toNat)=some (.int .i64 (rd l0 x10_3))∧w'.cell? (ad108.add ((ji17)).toNat)=some (.int .i64 (rd l1 (ji17)))) (ds:=[]) (ba 17 0) (by kernel_rfl) rfl rfl ⟨(hbc HB hw107_0),(hbc HB hw108_0)⟩ (fun hHeld=>?_);refine with_tabW F169.tab13 F169.bits13 (fun HT_ HW_=>?_)
          generalize wr.drew=w24 at HO_6 HB hx107_0 hx108_0 hHeld ⊢
          refine pu 0 (some 53) (ba 17 1) HT_ (h:=?_)
          refine pu 1 (some 54) (ba 17 3) HT_ (h:=?_)
          refine pu 2 (some 55) (ba 17 7) HT_ (h:=?_)
          refine pu 3 (some 56) (ba 17 15) HT_ (h:=?_)
          refine pu 5 (some 58) (ba 17 47) HT_ (h:=?_)
          refine pu 6 (some 59) (ba 17 111) HT_ (h:=?_)
          refine pu 7 (some 60) (ba 17 239) HT_ (h:=?_)
          refine pu 8 (some 61) (ba 17 495) HT_ (h:=?_)
          refine pu 9 (some 62) (ba 17 1007) HT_ (h:=?_)
          refine ta 4 (some 57) (ba 17 1023) HT_ HW_ hHeld (hy:=Or.inl ⟨by rfl,by rintro w' ⟨s0,s1⟩;go_simp;with_reducible rfl⟩) (h:=?_)
          refine ta 10 (some 63) (ba 17 2047) HT_ HW_ hHeld (hy:=Or.inl ⟨by rfl,by rintro w' ⟨s0,s1⟩;go_simp;with_reducible rfl⟩) (h:=?_)
          refine one_ (i:=11) (N:=some 64) (ba 17 4095) rfl rfl (one_of HT_.out (by kernel_rfl)) (by decide) (fun K hK=>?_)
          refine goes_ Try.func167 (by kernel_rfl) rfl #[.int .i64 x8_3,.int .i64 (rd l0 x10_3),.int .i64 (rd l1 (ji17))] (by rfl) rfl rfl (by (try simp only [List.map_toArray,List.map_cons,List.map_nil]);first|done|(simp only [hji17];rfl)|rfl|(simp only [List.length_drop,List.length_take];rfl)) ?_
          with_reducible refine (F167.calls k3 x8_3 (rd l0 x10_3) (rd l1 (ji17)) t109 false _ A20.out).mono ?_
          rintro e w25 ⟨rfl,hb⟩
          refine ⟨_,rfl,?_⟩
          replace HO_6:=Aside0.mk (Kd.R_below (aR HO_6.out) hb);replace HB:=Aside0.mk (below_step bl hb)
          (try clear hb)
          (try clear hb2)
          (try clear hk)
          (try clear hi)
          refine hK.out _ _ ⟨(hbc HB hw107_0),(hbc HB hw108_0)⟩ (fun hHeld=>?_)
          clear hK K
          refine norm_ (a':=?_) ?_ ?_
          rotate_left;· show Act.put _ (some 64) _=_;simp only [Act.put,zI,zZ,zS,i64_w,i32_w];rfl
          refine pu 12 (some 52) (ba 17 8191) HT_ (h:=?_)
          refine pu 13 (some 65) (ba 17 16383) HT_ (h:=?_)
          refine pu 14 (some 66) (ba 17 32767) HT_ (h:=?_)
          refine pu 15 (some 8) (ba 17 65535) HT_ (h:=?_)
          refine pu 16 (some 9) (ba 17 131071) HT_ (h:=?_)
          refine done_ (done_of HT_.out (by kernel_rfl)) ?_
          try go_wp2
          go_ret2
          exact ⟨_,by first|rfl|(simp [errW_none,errW_some]<;>rfl)|(simp only [← hji12,← hji13,← hji17];first|rfl|(simp [errW_none,errW_some]<;>rfl))|(simp [*,errW_none,errW_some]<;>rfl),by first|exact Kd.R_nil _ _ _ _ _|exact Kd.N_nil _ _ _ _ _|exact Kd.V_nil _ _ _ _ _|exact Kd.Q_nil _ _ _ _ _|exact Kd.S_nil _ _ _ _ _,bl⟩
         subst c21
         have H1:(F169.l1 k3 l0 l1 x6_2 x34_2 t109 (wrap64 (x10_3+1)) (wrap64 ((wrap64 ((l0.length:Int)+(l1.length:Int))) - 1)) x34_2)=some (r1,r2):=by rw [if_pos rfl] at H;exact H
         clear H
         have H:=H1
         clear H1
         have H':=Aside0.mk H
         clear H
         try go_wp2
         replace HO_6:=Aside0.mk (Kd.R_drew HO_6.out);replace HB:=Aside0.mk (below_drew1 HB.out)
         have p107:0≤(x10_3:Int):=oD
         have q107:x10_3 < (l0.length:Int):=oD
         obtain ⟨ad107,e107,hx107_0⟩:=Kd.at_int HR0.out x10_3 p107 q107
         have hw107_0:=hx107_0
         cases e107
         replace hx107_0:=hbc HB hx107_0
         replace p107:=eq_true p107
         replace q107:=eq_true q107
         have p108:0≤((ji17):Int):=oD
         have q108:(ji17) < (l1.length:Int):=oD
         obtain ⟨ad108,e108,hx108_0⟩:=Kd.at_int HR1.out (ji17) p108 q108
         have hw108_0:=hx108_0
         cases e108
         replace hx108_0:=hbc HB hx108_0
         replace p108:=eq_true p108
         replace q108:=eq_true q108
         refine start_ (n:=17) (S:=fun w'=>w'.cell? (ad107.add (x10_3).toNat)=some (.int .i64 (rd l0 x10_3))∧w'.cell? (ad108.add ((ji17)).toNat)=some (.int .i64 (rd l1 (ji17)))) (ds:=[]) (ba 17 0) (by kernel_rfl) rfl rfl ⟨(hbc HB hw107_0),(hbc HB hw108_0)⟩ (fun hHeld=>?_);refine with_tabW F169.tab13 F169.bits13 (fun HT_ HW_=>?_)
         generalize wr.drew=w22 at HO_6 HB hx107_0 hx108_0 hHeld ⊢
         refine pu 0 (some 53) (ba 17 1) HT_ (h:=?_)
         refine pu 1 (some 54) (ba 17 3) HT_ (h:=?_)
         refine pu 2 (some 55) (ba 17 7) HT_ (h:=?_)
         refine pu 3 (some 56) (ba 17 15) HT_ (h:=?_)
         refine pu 5 (some 58) (ba 17 47) HT_ (h:=?_)
         refine pu 6 (some 59) (ba 17 111) HT_ (h:=?_)
         refine pu 7 (some 60) (ba 17 239) HT_ (h:=?_)
         refine pu 8 (some 61) (ba 17 495) HT_ (h:=?_)
         refine pu 9 (some 62) (ba 17 1007) HT_ (h:=?_)
         refine ta 4 (some 57) (ba 17 1023) HT_ HW_ hHeld (hy:=Or.inl ⟨by rfl,by rintro w' ⟨s0,s1⟩;go_simp;with_reducible rfl⟩) (h:=?_)
         refine ta 10 (some 63) (ba 17 2047) HT_ HW_ hHeld (hy:=Or.inl ⟨by rfl,by rintro w' ⟨s0,s1⟩;go_simp;with_reducible rfl⟩) (h:=?_)
         refine one_ (i:=11) (N:=some 64) (ba 17 4095) rfl rfl (one_of HT_.out (by kernel_rfl)) (by decide) (fun K hK=>?_)
         refine goes_ Try.func167 (by kernel_rfl) rfl #[.int .i64 x8_3,.int .i64 (rd l0 x10_3),.int .i64 (rd l1 (ji17))] (by rfl) rfl rfl (by (try simp only [List.map_toArray,List.map_cons,List.map_nil]);first|done|(simp only [hji17];rfl)|rfl|(simp only [List.length_drop,List.length_take];rfl)) ?_
         with_reducible refine (F167.calls k3 x8_3 (rd l0 x10_3) (rd l1 (ji17)) t109 true _ A20.out).mono ?_
         rintro e w23 ⟨rfl,hb⟩
         refine ⟨_,rfl,?_⟩
         replace HO_6:=Aside0.mk (Kd.R_below (aR HO_6.out) hb);replace HB:=Aside0.mk (below_step bl hb)
         (try clear hb)
         (try clear hb2)
         (try clear hk)
         (try clear hi)
         refine hK.out _ _ ⟨(hbc HB hw107_0),(hbc HB hw108_0)⟩ (fun hHeld=>?_)
         clear hK K
         refine norm_ (a':=?_) ?_ ?_
         rotate_left;· show Act.put _ (some 64) _=_;simp only [Act.put,zI,zZ,zS,i64_w,i32_w];rfl
         refine pu 12 (some 52) (ba 17 8191) HT_ (h:=?_)
         refine pu 13 (some 65) (ba 17 16383) HT_ (h:=?_)
         refine pu 14 (some 66) (ba 17 32767) HT_ (h:=?_)
         refine pu 15 (some 8) (ba 17 65535) HT_ (h:=?_)
         refine pu 16 (some 9) (ba 17 131071) HT_ (h:=?_)
         refine done_ (done_of HT_.out (by kernel_rfl)) ?_
         try go_wp2
         first|go_roundg k3|(simp only [← hji12];go_roundg k3)|(simp only [← hji13];go_roundg k3)|(simp only [← hji17];go_roundg k3)
         case measure=>have:=HJ2.out;have:=HK2.out;have:=HK3.out;omega
         case rel=>exact ⟨(t109),(wrap64 (x10_3+1)),rs,rs,(by first|exact H'|(rw [hji12];exact H')|(rw [hji13];exact H')|(rw [hji17];exact H')),⟨by have:=HJ2.out;have:=HK2.out;have:=HK3.out;omega⟩,⟨by (with_reducible repeat (first|apply Kd.R_alloc|apply Kd.R_drewN|apply Kd.R_drew));exact HO_6.out⟩,⟨bl⟩⟩
    rw [if_pos c8] at H
    have c8b0:=decide_eq_true c8
    clear c8
    simp only [Option.some.injEq,Prod.mk.injEq] at H
    obtain ⟨rfl,rfl⟩:=H
    go_wp2
    go_ret2
    exact ⟨_,by first|rfl|(simp [errW_none,errW_some]<;>rfl)|(simp [*,errW_none,errW_some]<;>rfl),by first|exact Kd.R_nil _ _ _ _ _|exact Kd.N_nil _ _ _ _ _|exact Kd.V_nil _ _ _ _ _|exact Kd.Q_nil _ _ _ _ _|exact Kd.S_nil _ _ _ _ _,bl⟩
   subst c5
   have H1:(some ((([]:List Int)),true))=some (r1,r2):=by rw [if_pos rfl] at H;exact H
   clear H
   have H:=H1
   clear H1
   obtain ⟨y101,hy101⟩:∃ y_:List Int,y_=(([]:List Int)):=⟨_,rfl⟩
   replace H:(some (y101,true))=some (r1,r2):=by first|(rw [hy101];with_reducible exact H)|(have H2_:=(Option.bind_some _ _).symm.trans H;rw [hy101];with_reducible exact H2_)|(have H2_:=(Option.bind_some _ _).symm.trans H;with_reducible exact H2_)|with_reducible exact H|(rw [hy101];exact H)|exact H
   have Ny101:=Aside0.mk hy101
   clear hy101
   simp only [Option.some.injEq,Prod.mk.injEq] at H
   obtain ⟨rfl,rfl⟩:=H
   go_wp2_with (first|((with_reducible refine gate_dst (N:=19) rfl ?_);(try (refine gate_guard (by rfl) ?_;dsimp only));refine Kd.R_lit (Kd.int .i64) _ 2 ?hg (N:=19) ?hd (xs:=([]:List Int)) (inner:=[]) (ok:=fun _=>True) (okp:=fun _=>True) ?hr ?hp (fun _ hk=>hk) trivial (Below.refl _ _) (Nat.le_refl _) (by simp) ?_;(case hd=>rfl);(case hg=>rfl);(case hr=>first|(go_simp;done)|(go_simp;rfl));(case hp=>exact (Reps.none _ _));intro v102 w6 ho7 hb hg_ hnew_;clear hg_ hnew_;(first|rw [← Ny101.out] at ho7|(simp only [Int.reduceToNat] at ho7;rw [← Ny101.out] at ho7));have HO103:=Aside0.mk (Kd.R_lower ho7 (below_size bl));replace HB:=Aside0.mk (below_step bl hb);clear hb ho7))
   go_ret2
   exact ⟨_,by first|rfl|(simp [errW_none,errW_some]<;>rfl)|(simp [*,errW_none,errW_some]<;>rfl),by (with_reducible repeat (first|apply Kd.R_alloc|apply Kd.R_drewN|apply Kd.R_drew));exact HO103.out,bl⟩
end Go.Proofs.Ytoebojnhchocaaa.A
/- Set with little white space, by a program. -/
