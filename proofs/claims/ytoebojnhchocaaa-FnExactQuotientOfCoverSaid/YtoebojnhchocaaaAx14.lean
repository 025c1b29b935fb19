/- The functions that one law reaches, each as a Lean function, and that Go's call comes to what it says. Condition of each: that the Lean function answers (is not none). -/
import Derived.Test.YtoebojnhchocaaaAx0
import Derived.Test.YtoebojnhchocaaaAx12
import Derived.Test.YtoebojnhchocaaaAx13
namespace Go.Proofs.Ytoebojnhchocaaa.A
open Go.RowKit Go.Proofs.YtoebojnhchocaaaW.PrintWords Go.Proofs.YtoebojnhchocaaaW.PrintLast Go.Proofs.YtoebojnhchocaaaW.PrintMore
attribute [local go_sem] max2_int min2_int max_two min_two max_three min_three max_four min_four   -- for this text's walks alone
set_option linter.unusedVariables false
set_option linter.unusedSimpArgs false
/-! ### F85: function 85 -/
mutual
def F85.j0 : Nat → List Int → List Int → Option (List Int × Int)
 | 0,_,_=>none
 | k+1,x0,x1=>F85.l0 k x0 x1 (([]:List Int)) (mx 0 (wrap64 ((wrap64 ((x0.length:Int) - (x1.length:Int)))+1))) 0
def F85.l0 : Nat → List Int → List Int → List Int → Int → Int → Option (List Int × Int)
 | 0,_,_,_,_,_=>none
 | k+1,x0,x1,x6,x42,x43=>if x43 < x42 then ((F166.f x0 x43).bind fun t110=>(F85.l1 k x0 x1 x6 x43 t110 1 x42 x43)) else (if (x0.length:Int)=0 then (F85.j3 k x0 x1 ([]:List Int)) else (F85.j3 k x0 x1 x6))
def F85.l1 : Nat → List Int → List Int → List Int → Int → Int → Int → Int → Int → Option (List Int × Int)
 | 0,_,_,_,_,_,_,_,_=>none
 | k+1,x0,x1,x6,x7,x8,x10,x42,x43=>if x10≤(mn x7 (wrap64 ((x1.length:Int) - 1))) then (if 0≤x10 then (if x10 < (x1.length:Int) then (if 0≤(wrap64 (x7 - x10)) then (if (wrap64 (x7 - x10)) < (x6.length:Int) then ((F167.f k x8 (wrap64 (-(rd x1 x10))) (rd x6 (wrap64 (x7 - x10)))).bind fun bt113=>(if bt113.2=true then (F85.l1 k x0 x1 x6 x7 bt113.1 (wrap64 (x10+1)) x42 x43) else (some (([]:List Int),3)))) else (none)) else (none)) else (none)) else (none)) else (if 0 < (x1.length:Int) then (if x6.length < 17592186044416 then (F85.l0 k x0 x1 (x6 ++ [wrap64 (x8 * (rd x1 0))]) x42 (wrap64 (x43+1))) else (none)) else (none))
def F85.j3 : Nat → List Int → List Int → List Int → Option (List Int × Int)
 | 0,_,_,_=>none
 | k+1,x0,x1,x6=>(F168.f k x6).bind fun t119=>((F169.f k t119 x1).bind fun bt122=>(if bt122.2=true then ((F95.f k bt122.1 x0).bind fun t126=>(if t126=true then (some (t119,0)) else (some (([]:List Int),4)))) else (some (([]:List Int),3))))
end
def F85.f (k:Nat) (l0:List Int) (l1:List Int):Option (List Int × Int):=(F164.f k (([l0,l1]:List (List Int)))).bind fun t104=>(if t104=true then ((F166.f l1 0).bind fun t105=>((F165.f t105).bind fun t106=>(if t106=1 then (if (l0.length:Int) > 0 then (if (l0.length:Int) < (l1.length:Int) then (some (([]:List Int),4)) else (F85.j0 k l0 l1)) else (F85.j0 k l0 l1)) else (some (([]:List Int),5))))) else (some (([]:List Int),1)))
theorem F85.mono_l : ∀ k, (∀ y0 y1, LeO (F85.j0 k y0 y1) (F85.j0 (k + 1) y0 y1)) ∧ (∀ y0 y1 y2 y3 y4, LeO (F85.l0 k y0 y1 y2 y3 y4) (F85.l0 (k + 1) y0 y1 y2 y3 y4)) ∧ (∀ y0 y1 y2 y3 y4 y5 y6 y7, LeO (F85.l1 k y0 y1 y2 y3 y4 y5 y6 y7) (F85.l1 (k + 1) y0 y1 y2 y3 y4 y5 y6 y7)) ∧ (∀ y0 y1 y2, LeO (F85.j3 k y0 y1 y2) (F85.j3 (k + 1) y0 y1 y2))
 | 0=>⟨fun _ _ r h=>by simp [F85.j0] at h,fun _ _ _ _ _ r h=>by simp [F85.l0] at h,fun _ _ _ _ _ _ _ _ r h=>by simp [F85.l1] at h,fun _ _ _ r h=>by simp [F85.j3] at h⟩
 | k+1=>by
  obtain ⟨ih0,ih1,ih2,ih3⟩:=F85.mono_l k
  refine ⟨?_, ?_, ?_, ?_⟩ <;> intros <;> (first | unfold F85.j0 | unfold F85.l0 | unfold F85.l1 | unfold F85.j3) <;> repeat' first
   | (with_reducible first|exact ih0 _ _|exact ih1 _ _ _ _ _|exact ih2 _ _ _ _ _ _ _ _|exact ih3 _ _ _|exact F164.mono _ _|exact F169.mono _ _ _|exact F167.mono _ _ _ _|exact F168.mono _ _|exact F95.mono _ _ _|exact LeO.refl _|exact LeO.none _|refine LeO.ite ?_ ?_|refine LeO.bind ?_ (fun _=>?_))
   | exact ih0 _ _|exact ih1 _ _ _ _ _|exact ih2 _ _ _ _ _ _ _ _|exact ih3 _ _ _|exact F164.mono _ _|exact F169.mono _ _ _|exact F167.mono _ _ _ _|exact F168.mono _ _|exact F95.mono _ _ _|exact LeO.none _|refine LeO.ite ?_ ?_|refine LeO.bind ?_ (fun _=>?_)
theorem F85.mono:∀ a0 a1 k,LeO (F85.f k a0 a1) (F85.f (k+1) a0 a1):=by
 intro a0 a1 k
 obtain ⟨ih0,ih1,ih2,ih3⟩:=F85.mono_l k
 unfold F85.f
 repeat' first
  | (with_reducible first|exact ih0 _ _|exact ih1 _ _ _ _ _|exact ih2 _ _ _ _ _ _ _ _|exact ih3 _ _ _|exact F164.mono _ _|exact F169.mono _ _ _|exact F167.mono _ _ _ _|exact F168.mono _ _|exact F95.mono _ _ _|exact LeO.refl _|exact LeO.none _|refine LeO.ite ?_ ?_|refine LeO.bind ?_ (fun _=>?_))
  | exact ih0 _ _|exact ih1 _ _ _ _ _|exact ih2 _ _ _ _ _ _ _ _|exact ih3 _ _ _|exact F164.mono _ _|exact F169.mono _ _ _|exact F167.mono _ _ _ _|exact F168.mono _ _|exact F95.mono _ _ _|exact LeO.none _|refine LeO.ite ?_ ?_|refine LeO.bind ?_ (fun _=>?_)
def F85.T15:Bool × List (List Nat × List Nat):=(true,[([],[]),([],[]),([],[]),([1,2],[1,2]),([3],[3]),([4],[4]),([],[]),([],[]),([],[]),([7,8],[7,8]),([6,9],[6,9]),([10],[10]),([0,5,11],[0,5,11]),([12],[12]),([13],[13]),([13],[13]),([14,12,0,1,2,3,4,5,6,7,8,9,10,11,12,13,14],[0,14]),([15,16,0,1,2,3,4,5,6,7,8,9,10,11,12,13,14,15,16],[15])])
def F85.B15:List Nat:=[0,0,0,6,14,30,0,0,0,384,960,1984,4095,8191,16383,16383,32767,131071]
theorem F85.tab15:rtab .any (opsOf Try.f85 15)=F85.T15:=by kernel_rfl
theorem F85.bits15:waitsOk F85.T15.2 F85.B15=true:=by kernel_rfl
set_option maxHeartbeats 8000000 in
set_option maxRecDepth 100000 in
theorem F85.calls (k : Nat) (P0_ : Nat → Prop) (A0 : Option Addr) (c0 : Nat) (l0 : List Int) (P1_ : Nat → Prop) (A1 : Option Addr) (c1 : Nat) (l1 : List Int) (r1 : List Int) (r2 : Int) (w : World) (hs0 : Kd.V (Kd.int .i64) 2 w w.heap.size (fun k_ => P0_ k_) (.slice A0 l0.length c0) l0) (hs1 : Kd.V (Kd.int .i64) 2 w w.heap.size (fun k_ => P1_ k_) (.slice A1 l1.length c1) l1) (h : F85.f k l0 l1 = some (r1, r2)) :
  Calls Try.prog 85 #[.slice A0 l0.length c0,.slice A1 l1.length c1] w fun e w'=>∃ v0_:Value,e=.returned (.tuple #[v0_,.int .i64 r2])∧Kd.R (Kd.int .i64) 2 w' w.heap.size (fun k_=>(w.heap.size≤k_)) v0_ r1∧Below w.heap.size w w':=by
 have HO0:=Aside0.mk (show Kd.V (Kd.int .i64) 2 w w.heap.size (fun k_=>((P0_ k_∨P1_ k_)∨w.heap.size≤k_)) (.slice A0 l0.length c0) l0 from Kd.V_mono hs0 (fun k_ hk=>.inl (.inl hk)))
 have HO1:=Aside0.mk (show Kd.V (Kd.int .i64) 2 w w.heap.size (fun k_=>((P0_ k_∨P1_ k_)∨w.heap.size≤k_)) (.slice A1 l1.length c1) l1 from Kd.V_mono hs1 (fun k_ hk=>.inl (.inr hk)))
 have HB:=Aside0.mk (Below.refl w.heap.size w)
 have H:((F164.f k (([l0,l1]:List (List Int)))).bind fun t104=>(if t104=true then ((F166.f l1 0).bind fun t105=>((F165.f t105).bind fun t106=>(if t106=1 then (if (l0.length:Int) > 0 then (if (l0.length:Int) < (l1.length:Int) then (some (([]:List Int),4)) else (F85.j0 k l0 l1)) else (F85.j0 k l0 l1)) else (some (([]:List Int),5))))) else (some (([]:List Int),1))))=some (r1,r2):=h
 clear h
 have HC3:=Aside0.mk H
 clear H
 go_enter Try.func85,Try.ntmps85
 go_upto_block 0 with (fail)
 go_cut [] (fun wc=>∃ (kq:Nat),Aside0 (F85.j0 kq l0 l1=some (r1,r2))∧Aside0 (kq≤k)∧Aside0 (Kd.V (Kd.int .i64) 2 wc w.heap.size (fun k_=>((P0_ k_∨P1_ k_)∨w.heap.size≤k_)) (.slice A0 l0.length c0) l0)∧Aside0 (Kd.V (Kd.int .i64) 2 wc w.heap.size (fun k_=>((P0_ k_∨P1_ k_)∨w.heap.size≤k_)) (.slice A1 l1.length c1) l1)∧Aside0 (Below w.heap.size w wc))
 case first =>
  have H:=HC3.out
  clear HC3
  obtain ⟨y101,hy101⟩:∃ y_:List (List Int),y_=(([l0,l1]:List (List Int))):=⟨_,rfl⟩
  replace H:((F164.f k y101).bind fun t104=>(if t104=true then ((F166.f l1 0).bind fun t105=>((F165.f t105).bind fun t106=>(if t106=1 then (if (l0.length:Int) > 0 then (if (l0.length:Int) < (l1.length:Int) then (some (([]:List Int),4)) else (F85.j0 k l0 l1)) else (F85.j0 k l0 l1)) else (some (([]:List Int),5))))) else (some (([]:List Int),1))))=some (r1,r2):=by first|(rw [hy101];with_reducible exact H)|(have H2_:=(Option.bind_some _ _).symm.trans H;rw [hy101];with_reducible exact H2_)|(have H2_:=(Option.bind_some _ _).symm.trans H;with_reducible exact H2_)|with_reducible exact H|(rw [hy101];exact H)|exact H
  have Ny101:=Aside0.mk hy101
  clear hy101
  replace H:=Option.bind_eq_some_iff.mp H
  obtain ⟨t104,A40,H⟩:=H
  replace H:(if t104=true then ((F166.f l1 0).bind fun t105=>((F165.f t105).bind fun t106=>(if t106=1 then (if (l0.length:Int) > 0 then (if (l0.length:Int) < (l1.length:Int) then (some (([]:List Int),4)) else (F85.j0 k l0 l1)) else (F85.j0 k l0 l1)) else (some (([]:List Int),5))))) else (some (([]:List Int),1)))=some (r1,r2):=H
  have A4:=Aside0.mk A40
  clear A40
  by_cases c5:t104=true
  case neg =>
   replace c5:=Bool.eq_false_iff.mpr c5
   subst c5
   have H1:(some (([]:List Int),1))=some (r1,r2):=by rw [if_neg (show ¬ (false=true) by decide)] at H;exact H
   clear H
   have H:=H1
   clear H1
   simp only [Option.some.injEq,Prod.mk.injEq] at H
   obtain ⟨rfl,rfl⟩:=H
   go_wp2_with (first|((with_reducible refine gate_dst (N:=16) rfl ?_);(try (refine gate_guard (by rfl) ?_;dsimp only));refine Kd.N_lit (Kd.slice 2 (Kd.int .i64)) _ 28 ?hg (N':=16) ?hd (xs:=([l0,l1]:List (List Int))) (inner:=[.slice A0 l0.length c0,.slice A1 l1.length c1]) (ok:=(fun k_=>((P0_ k_∨P1_ k_)∨w.heap.size≤k_))) (okp:=(fun k_=>((P0_ k_∨P1_ k_)∨w.heap.size≤k_))) ?hr ?hp (fun _ hk=>hk) ((show ∀ k_,w.heap.size≤k_→(fun k_=>((P0_ k_∨P1_ k_)∨w.heap.size≤k_)) k_ from fun k_ hk=>(.inr (Nat.le_trans (below_size bl) hk))) _ (Nat.le_refl _)) (Below.refl _ _) (Nat.le_refl _) (by simp) ?_;(case hd=>rfl);(case hg=>rfl);(case hr=>first|(go_simp;done)|(go_simp;rfl));(case hp=>exact (Reps.one (show Kd.FK (Kd.slice 2 (Kd.int .i64)) _ _ l0 [.slice A0 l0.length c0] from (Kd.FK_slice_mk (Kd.V_reads' (Kd.V_mono (ok':=(fun k_=>((P0_ k_∨P1_ k_)∨w.heap.size≤k_))) (HO0.out) (fun k_ hk=>hk))).2.1 (Kd.V_F (Kd.V_mono (ok':=(fun k_=>((P0_ k_∨P1_ k_)∨w.heap.size≤k_))) (HO0.out) (fun k_ hk=>hk))))) (Reps.one (show Kd.FK (Kd.slice 2 (Kd.int .i64)) _ _ l1 [.slice A1 l1.length c1] from (Kd.FK_slice_mk (Kd.V_reads' (Kd.V_mono (ok':=(fun k_=>((P0_ k_∨P1_ k_)∨w.heap.size≤k_))) (HO1.out) (fun k_ hk=>hk))).2.1 (Kd.V_F (Kd.V_mono (ok':=(fun k_=>((P0_ k_∨P1_ k_)∨w.heap.size≤k_))) (HO1.out) (fun k_ hk=>hk))))) (Reps.none _ _))));intro v102 w31 ho32 hb hg_ hnew_;clear hg_ hnew_;(first|rw [← Ny101.out] at ho32|(simp only [Int.reduceToNat] at ho32;rw [← Ny101.out] at ho32));replace HO0:=Aside0.mk (Kd.V_elder' (aV HO0.out) (Kd.N_base ho32) hb);replace HO1:=Aside0.mk (Kd.V_elder' (aV HO1.out) (Kd.N_base ho32) hb);have HO103:=Aside0.mk (Kd.N_lower ho32 (below_size bl));replace HB:=Aside0.mk (below_step bl hb);clear hb ho32;obtain ⟨Ao33,co33,eo33⟩:=Kd.N_slice HO103.out;subst eo33)|((with_reducible refine gate_callee (f:=164) rfl ?_);refine goesL_ (some 17) rfl rfl Try.func164 (by kernel_rfl) rfl #[.slice Ao33 y101.length co33] rfl gm ?_;(with_reducible refine (F164.calls k _ _ y101 false _ ?side1 ?side2 A4.out).mono ?_);(case side1=>exact aC ((Kd.N_reads' HO103.out).2.2));(case side2=>exact (Kd.N_reads' HO103.out).2.1);rintro e w34 ⟨rfl,hb⟩;refine ⟨_,rfl,?_⟩;replace HO0:=Aside0.mk (Kd.V_below (aV HO0.out) hb);replace HO1:=Aside0.mk (Kd.V_below (aV HO1.out) hb);replace HO103:=Aside0.mk (Kd.N_below (aN HO103.out) hb);replace HB:=Aside0.mk (below_step bl hb);(try clear hb);(try clear hb2);(try clear hk);(try clear hi)))
   go_ret2
   exact ⟨_,by first|rfl|(simp [errW_none,errW_some]<;>rfl)|(simp [*,errW_none,errW_some]<;>rfl),by first|exact Kd.R_nil _ _ _ _ _|exact Kd.N_nil _ _ _ _ _|exact Kd.V_nil _ _ _ _ _|exact Kd.Q_nil _ _ _ _ _|exact Kd.S_nil _ _ _ _ _,bl⟩
  subst c5
  have H1:((F166.f l1 0).bind fun t105=>((F165.f t105).bind fun t106=>(if t106=1 then (if (l0.length:Int) > 0 then (if (l0.length:Int) < (l1.length:Int) then (some (([]:List Int),4)) else (F85.j0 k l0 l1)) else (F85.j0 k l0 l1)) else (some (([]:List Int),5)))))=some (r1,r2):=by rw [if_pos rfl] at H;exact H
  clear H
  have H:=H1
  clear H1
  replace H:=Option.bind_eq_some_iff.mp H
  obtain ⟨t105,A60,H⟩:=H
  replace H:((F165.f t105).bind fun t106=>(if t106=1 then (if (l0.length:Int) > 0 then (if (l0.length:Int) < (l1.length:Int) then (some (([]:List Int),4)) else (F85.j0 k l0 l1)) else (F85.j0 k l0 l1)) else (some (([]:List Int),5))))=some (r1,r2):=H
  have A6:=Aside0.mk A60
  clear A60
  replace H:=Option.bind_eq_some_iff.mp H
  obtain ⟨t106,A70,H⟩:=H
  replace H:(if t106=1 then (if (l0.length:Int) > 0 then (if (l0.length:Int) < (l1.length:Int) then (some (([]:List Int),4)) else (F85.j0 k l0 l1)) else (F85.j0 k l0 l1)) else (some (([]:List Int),5)))=some (r1,r2):=H
  have A7:=Aside0.mk A70
  clear A70
  by_cases c8:t106=1
  case neg =>
   rw [if_neg c8] at H
   have c8b0:(t106 == 1)=false:=beq_eq_false_iff_ne.mpr c8
   have c8b1:(t106 != 1)=true:=bne_iff_ne.mpr c8
   (first|rw [c8b0]|(simp only [i64_w,i32_w];rw [c8b0])|skip)
   simp only [Option.some.injEq,Prod.mk.injEq] at H
   obtain ⟨rfl,rfl⟩:=H
   go_wp2_with (first|((with_reducible refine gate_dst (N:=16) rfl ?_);(try (refine gate_guard (by rfl) ?_;dsimp only));refine Kd.N_lit (Kd.slice 2 (Kd.int .i64)) _ 28 ?hg (N':=16) ?hd (xs:=([l0,l1]:List (List Int))) (inner:=[.slice A0 l0.length c0,.slice A1 l1.length c1]) (ok:=(fun k_=>((P0_ k_∨P1_ k_)∨w.heap.size≤k_))) (okp:=(fun k_=>((P0_ k_∨P1_ k_)∨w.heap.size≤k_))) ?hr ?hp (fun _ hk=>hk) ((show ∀ k_,w.heap.size≤k_→(fun k_=>((P0_ k_∨P1_ k_)∨w.heap.size≤k_)) k_ from fun k_ hk=>(.inr (Nat.le_trans (below_size bl) hk))) _ (Nat.le_refl _)) (Below.refl _ _) (Nat.le_refl _) (by simp) ?_;(case hd=>rfl);(case hg=>rfl);(case hr=>first|(go_simp;done)|(go_simp;rfl));(case hp=>exact (Reps.one (show Kd.FK (Kd.slice 2 (Kd.int .i64)) _ _ l0 [.slice A0 l0.length c0] from (Kd.FK_slice_mk (Kd.V_reads' (Kd.V_mono (ok':=(fun k_=>((P0_ k_∨P1_ k_)∨w.heap.size≤k_))) (HO0.out) (fun k_ hk=>hk))).2.1 (Kd.V_F (Kd.V_mono (ok':=(fun k_=>((P0_ k_∨P1_ k_)∨w.heap.size≤k_))) (HO0.out) (fun k_ hk=>hk))))) (Reps.one (show Kd.FK (Kd.slice 2 (Kd.int .i64)) _ _ l1 [.slice A1 l1.length c1] from (Kd.FK_slice_mk (Kd.V_reads' (Kd.V_mono (ok':=(fun k_=>((P0_ k_∨P1_ k_)∨w.heap.size≤k_))) (HO1.out) (fun k_ hk=>hk))).2.1 (Kd.V_F (Kd.V_mono (ok':=(fun k_=>((P0_ k_∨P1_ k_)∨w.heap.size≤k_))) (HO1.out) (fun k_ hk=>hk))))) (Reps.none _ _))));intro v102 w26 ho27 hb hg_ hnew_;clear hg_ hnew_;(first|rw [← Ny101.out] at ho27|(simp only [Int.reduceToNat] at ho27;rw [← Ny101.out] at ho27));replace HO0:=Aside0.mk (Kd.V_elder' (aV HO0.out) (Kd.N_base ho27) hb);replace HO1:=Aside0.mk (Kd.V_elder' (aV HO1.out) (Kd.N_base ho27) hb);have HO103:=Aside0.mk (Kd.N_lower ho27 (below_size bl));replace HB:=Aside0.mk (below_step bl hb);clear hb ho27;obtain ⟨Ao28,co28,eo28⟩:=Kd.N_slice HO103.out;subst eo28)|((with_reducible refine gate_callee (f:=164) rfl ?_);refine goesL_ (some 17) rfl rfl Try.func164 (by kernel_rfl) rfl #[.slice Ao28 y101.length co28] rfl gm ?_;(with_reducible refine (F164.calls k _ _ y101 true _ ?side1 ?side2 A4.out).mono ?_);(case side1=>exact aC ((Kd.N_reads' HO103.out).2.2));(case side2=>exact (Kd.N_reads' HO103.out).2.1);rintro e w29 ⟨rfl,hb⟩;refine ⟨_,rfl,?_⟩;replace HO0:=Aside0.mk (Kd.V_below (aV HO0.out) hb);replace HO1:=Aside0.mk (Kd.V_below (aV HO1.out) hb);replace HO103:=Aside0.mk (Kd.N_below (aN HO103.out) hb);replace HB:=Aside0.mk (below_step bl hb);(try clear hb);(try clear hb2);(try clear hk);(try clear hi))|((with_reducible refine gate_callee (f:=166) rfl ?_);refine goesL_ (some 21) rfl rfl Try.func166 (by kernel_rfl) rfl #[.slice A1 l1.length c1,.int .i64 0] rfl gm ?_;(with_reducible refine (F166.calls _ _ l1 0 t105 _ ?side1 ?side2 A6.out).mono ?_);(case side1=>exact aC ((Kd.V_reads' HO1.out).2.2));(case side2=>exact (Kd.V_reads' HO1.out).2.1);rintro e w' ⟨rfl,⟨nd,rfl⟩⟩;refine ⟨_,rfl,?_⟩)|((with_reducible refine gate_callee (f:=165) rfl ?_);refine goesL_ (some 22) rfl rfl Try.func165 (by kernel_rfl) rfl #[.int .i64 t105] rfl gm ?_;(with_reducible refine (F165.calls t105 t106 _ A7.out).mono ?_);rintro e w30 ⟨rfl,hb⟩;refine ⟨_,rfl,?_⟩;replace HO0:=Aside0.mk (Kd.V_below (aV HO0.out) hb);replace HO1:=Aside0.mk (Kd.V_below (aV HO1.out) hb);replace HO103:=Aside0.mk (Kd.N_below (aN HO103.out) hb);replace HB:=Aside0.mk (below_step bl hb);(try clear hb);(try clear hb2);(try clear hk);(try clear hi)))
   go_ret2
   exact ⟨_,by first|rfl|(simp [errW_none,errW_some]<;>rfl)|(simp [*,errW_none,errW_some]<;>rfl),by first|exact Kd.R_nil _ _ _ _ _|exact Kd.N_nil _ _ _ _ _|exact Kd.V_nil _ _ _ _ _|exact Kd.Q_nil _ _ _ _ _|exact Kd.S_nil _ _ _ _ _,bl⟩
  rw [if_pos c8] at H
  have c8b0:(t106 == 1)=true:=beq_iff_eq.mpr c8
  have c8b1:(t106 != 1)=false:=bne_eq_false_iff_eq.mpr c8
  clear c8
  (first|rw [c8b0]|(simp only [i64_w,i32_w];rw [c8b0])|skip)
  by_cases c9:(l0.length:Int) > 0
  case neg =>
   rw [if_neg c9] at H
   have c9b0:decide (0 < (l0.length:Int))=false:=decide_eq_false c9
   have c9b1:decide (0 < l0.length)=false:=decide_eq_false (by omega)
   clear c9
   have H':=Aside0.mk H
   clear H
   go_wp2_with (first|((with_reducible refine gate_dst (N:=16) rfl ?_);(try (refine gate_guard (by rfl) ?_;dsimp only));refine Kd.N_lit (Kd.slice 2 (Kd.int .i64)) _ 28 ?hg (N':=16) ?hd (xs:=([l0,l1]:List (List Int))) (inner:=[.slice A0 l0.length c0,.slice A1 l1.length c1]) (ok:=(fun k_=>((P0_ k_∨P1_ k_)∨w.heap.size≤k_))) (okp:=(fun k_=>((P0_ k_∨P1_ k_)∨w.heap.size≤k_))) ?hr ?hp (fun _ hk=>hk) ((show ∀ k_,w.heap.size≤k_→(fun k_=>((P0_ k_∨P1_ k_)∨w.heap.size≤k_)) k_ from fun k_ hk=>(.inr (Nat.le_trans (below_size bl) hk))) _ (Nat.le_refl _)) (Below.refl _ _) (Nat.le_refl _) (by simp) ?_;(case hd=>rfl);(case hg=>rfl);(case hr=>first|(go_simp;done)|(go_simp;rfl));(case hp=>exact (Reps.one (show Kd.FK (Kd.slice 2 (Kd.int .i64)) _ _ l0 [.slice A0 l0.length c0] from (Kd.FK_slice_mk (Kd.V_reads' (Kd.V_mono (ok':=(fun k_=>((P0_ k_∨P1_ k_)∨w.heap.size≤k_))) (HO0.out) (fun k_ hk=>hk))).2.1 (Kd.V_F (Kd.V_mono (ok':=(fun k_=>((P0_ k_∨P1_ k_)∨w.heap.size≤k_))) (HO0.out) (fun k_ hk=>hk))))) (Reps.one (show Kd.FK (Kd.slice 2 (Kd.int .i64)) _ _ l1 [.slice A1 l1.length c1] from (Kd.FK_slice_mk (Kd.V_reads' (Kd.V_mono (ok':=(fun k_=>((P0_ k_∨P1_ k_)∨w.heap.size≤k_))) (HO1.out) (fun k_ hk=>hk))).2.1 (Kd.V_F (Kd.V_mono (ok':=(fun k_=>((P0_ k_∨P1_ k_)∨w.heap.size≤k_))) (HO1.out) (fun k_ hk=>hk))))) (Reps.none _ _))));intro v102 w21 ho22 hb hg_ hnew_;clear hg_ hnew_;(first|rw [← Ny101.out] at ho22|(simp only [Int.reduceToNat] at ho22;rw [← Ny101.out] at ho22));replace HO0:=Aside0.mk (Kd.V_elder' (aV HO0.out) (Kd.N_base ho22) hb);replace HO1:=Aside0.mk (Kd.V_elder' (aV HO1.out) (Kd.N_base ho22) hb);have HO103:=Aside0.mk (Kd.N_lower ho22 (below_size bl));replace HB:=Aside0.mk (below_step bl hb);clear hb ho22;obtain ⟨Ao23,co23,eo23⟩:=Kd.N_slice HO103.out;subst eo23)|((with_reducible refine gate_callee (f:=164) rfl ?_);refine goesL_ (some 17) rfl rfl Try.func164 (by kernel_rfl) rfl #[.slice Ao23 y101.length co23] rfl gm ?_;(with_reducible refine (F164.calls k _ _ y101 true _ ?side1 ?side2 A4.out).mono ?_);(case side1=>exact aC ((Kd.N_reads' HO103.out).2.2));(case side2=>exact (Kd.N_reads' HO103.out).2.1);rintro e w24 ⟨rfl,hb⟩;refine ⟨_,rfl,?_⟩;replace HO0:=Aside0.mk (Kd.V_below (aV HO0.out) hb);replace HO1:=Aside0.mk (Kd.V_below (aV HO1.out) hb);replace HO103:=Aside0.mk (Kd.N_below (aN HO103.out) hb);replace HB:=Aside0.mk (below_step bl hb);(try clear hb);(try clear hb2);(try clear hk);(try clear hi))|((with_reducible refine gate_callee (f:=166) rfl ?_);refine goesL_ (some 21) rfl rfl Try.func166 (by kernel_rfl) rfl #[.slice A1 l1.length c1,.int .i64 0] rfl gm ?_;(with_reducible refine (F166.calls _ _ l1 0 t105 _ ?side1 ?side2 A6.out).mono ?_);(case side1=>exact aC ((Kd.V_reads' HO1.out).2.2));(case side2=>exact (Kd.V_reads' HO1.out).2.1);rintro e w' ⟨rfl,⟨nd,rfl⟩⟩;refine ⟨_,rfl,?_⟩)|((with_reducible refine gate_callee (f:=165) rfl ?_);refine goesL_ (some 22) rfl rfl Try.func165 (by kernel_rfl) rfl #[.int .i64 t105] rfl gm ?_;(with_reducible refine (F165.calls t105 t106 _ A7.out).mono ?_);rintro e w25 ⟨rfl,hb⟩;refine ⟨_,rfl,?_⟩;replace HO0:=Aside0.mk (Kd.V_below (aV HO0.out) hb);replace HO1:=Aside0.mk (Kd.V_below (aV HO1.out) hb);replace HO103:=Aside0.mk (Kd.N_below (aN HO103.out) hb);replace HB:=Aside0.mk (below_step bl hb);(try clear hb);(try clear hb2);(try clear hk);(try clear hi)))
   go_meet
   case rel=>exact ⟨_,(by first|exact H'|(rw [hji35];exact H')|(rw [hji40];exact H')|(rw [hji44];exact H')),⟨by first|omega|exact Nat.le_refl _⟩,⟨by (with_reducible repeat (first|apply Kd.V_alloc|apply Kd.V_drewN|apply Kd.V_drew));exact Kd.V_mono HO0.out (fun _ hk=>hk.1)⟩,⟨by (with_reducible repeat (first|apply Kd.V_alloc|apply Kd.V_drewN|apply Kd.V_drew));exact Kd.V_mono HO1.out (fun _ hk=>hk.1)⟩,⟨bl⟩⟩
  rw [if_pos c9] at H
  have c9b0:=decide_eq_true c9
  have c9b1:decide (0 < l0.length)=true:=decide_eq_true (by omega)
  clear c9
  by_cases c10:(l0.length:Int) < (l1.length:Int)
  case neg =>
   rw [if_neg c10] at H
   have c10b0:decide ((l0.length:Int) < (l1.length:Int))=false:=decide_eq_false c10
   have c10b1:decide (l0.length < l1.length)=false:=decide_eq_false (fun h=>c10 (Int.ofNat_lt.mpr h))
   clear c10
   have H':=Aside0.mk H
   clear H
   go_wp2_with (first|((with_reducible refine gate_dst (N:=16) rfl ?_);(try (refine gate_guard (by rfl) ?_;dsimp only));refine Kd.N_lit (Kd.slice 2 (Kd.int .i64)) _ 28 ?hg (N':=16) ?hd (xs:=([l0,l1]:List (List Int))) (inner:=[.slice A0 l0.length c0,.slice A1 l1.length c1]) (ok:=(fun k_=>((P0_ k_∨P1_ k_)∨w.heap.size≤k_))) (okp:=(fun k_=>((P0_ k_∨P1_ k_)∨w.heap.size≤k_))) ?hr ?hp (fun _ hk=>hk) ((show ∀ k_,w.heap.size≤k_→(fun k_=>((P0_ k_∨P1_ k_)∨w.heap.size≤k_)) k_ from fun k_ hk=>(.inr (Nat.le_trans (below_size bl) hk))) _ (Nat.le_refl _)) (Below.refl _ _) (Nat.le_refl _) (by simp) ?_;(case hd=>rfl);(case hg=>rfl);(case hr=>first|(go_simp;done)|(go_simp;rfl));(case hp=>exact (Reps.one (show Kd.FK (Kd.slice 2 (Kd.int .i64)) _ _ l0 [.slice A0 l0.length c0] from (Kd.FK_slice_mk (Kd.V_reads' (Kd.V_mono (ok':=(fun k_=>((P0_ k_∨P1_ k_)∨w.heap.size≤k_))) (HO0.out) (fun k_ hk=>hk))).2.1 (Kd.V_F (Kd.V_mono (ok':=(fun k_=>((P0_ k_∨P1_ k_)∨w.heap.size≤k_))) (HO0.out) (fun k_ hk=>hk))))) (Reps.one (show Kd.FK (Kd.slice 2 (Kd.int .i64)) _ _ l1 [.slice A1 l1.length c1] from (Kd.FK_slice_mk (Kd.V_reads' (Kd.V_mono (ok':=(fun k_=>((P0_ k_∨P1_ k_)∨w.heap.size≤k_))) (HO1.out) (fun k_ hk=>hk))).2.1 (Kd.V_F (Kd.V_mono (ok':=(fun k_=>((P0_ k_∨P1_ k_)∨w.heap.size≤k_))) (HO1.out) (fun k_ hk=>hk))))) (Reps.none _ _))));intro v102 w16 ho17 hb hg_ hnew_;clear hg_ hnew_;(first|rw [← Ny101.out] at ho17|(simp only [Int.reduceToNat] at ho17;rw [← Ny101.out] at ho17));replace HO0:=Aside0.mk (Kd.V_elder' (aV HO0.out) (Kd.N_base ho17) hb);replace HO1:=Aside0.mk (Kd.V_elder' (aV HO1.out) (Kd.N_base ho17) hb);have HO103:=Aside0.mk (Kd.N_lower ho17 (below_size bl));replace HB:=Aside0.mk (below_step bl hb);clear hb ho17;obtain ⟨Ao18,co18,eo18⟩:=Kd.N_slice HO103.out;subst eo18)|((with_reducible refine gate_callee (f:=164) rfl ?_);refine goesL_ (some 17) rfl rfl Try.func164 (by kernel_rfl) rfl #[.slice Ao18 y101.length co18] rfl gm ?_;(with_reducible refine (F164.calls k _ _ y101 true _ ?side1 ?side2 A4.out).mono ?_);(case side1=>exact aC ((Kd.N_reads' HO103.out).2.2));(case side2=>exact (Kd.N_reads' HO103.out).2.1);rintro e w19 ⟨rfl,hb⟩;refine ⟨_,rfl,?_⟩;replace HO0:=Aside0.mk (Kd.V_below (aV HO0.out) hb);replace HO1:=Aside0.mk (Kd.V_below (aV HO1.out) hb);replace HO103:=Aside0.mk (Kd.N_below (aN HO103.out) hb);replace HB:=Aside0.mk (below_step bl hb);(try clear hb);(try clear hb2);(try clear hk);(try clear hi))|((with_reducible refine gate_callee (f:=166) rfl ?_);refine goesL_ (some 21) rfl rfl Try.func166 (by kernel_rfl) rfl #[.slice A1 l1.length c1,.int .i64 0] rfl gm ?_;(with_reducible refine (F166.calls _ _ l1 0 t105 _ ?side1 ?side2 A6.out).mono ?_);(case side1=>exact aC ((Kd.V_reads' HO1.out).2.2));(case side2=>exact (Kd.V_reads' HO1.out).2.1);rintro e w' ⟨rfl,⟨nd,rfl⟩⟩;refine ⟨_,rfl,?_⟩)|((with_reducible refine gate_callee (f:=165) rfl ?_);refine goesL_ (some 22) rfl rfl Try.func165 (by kernel_rfl) rfl #[.int .i64 t105] rfl gm ?_;(with_reducible refine (F165.calls t105 t106 _ A7.out).mono ?_);rintro e w20 ⟨rfl,hb⟩;refine ⟨_,rfl,?_⟩;replace HO0:=Aside0.mk (Kd.V_below (aV HO0.out) hb);replace HO1:=Aside0.mk (Kd.V_below (aV HO1.out) hb);replace HO103:=Aside0.mk (Kd.N_below (aN HO103.out) hb);replace HB:=Aside0.mk (below_step bl hb);(try clear hb);(try clear hb2);(try clear hk);(try clear hi)))
   go_meet
   case rel=>exact ⟨_,(by first|exact H'|(rw [hji35];exact H')|(rw [hji40];exact H')|(rw [hji44];exact H')),⟨by first|omega|exact Nat.le_refl _⟩,⟨by (with_reducible repeat (first|apply Kd.V_alloc|apply Kd.V_drewN|apply Kd.V_drew));exact Kd.V_mono HO0.out (fun _ hk=>hk.1)⟩,⟨by (with_reducible repeat (first|apply Kd.V_alloc|apply Kd.V_drewN|apply Kd.V_drew));exact Kd.V_mono HO1.out (fun _ hk=>hk.1)⟩,⟨bl⟩⟩
  rw [if_pos c10] at H
  have c10b0:=decide_eq_true c10
  have c10b1:decide (l0.length < l1.length)=true:=decide_eq_true (Int.ofNat_lt.mp c10)
  clear c10
  simp only [Option.some.injEq,Prod.mk.injEq] at H
  obtain ⟨rfl,rfl⟩:=H
  go_wp2_with (first|((with_reducible refine gate_dst (N:=16) rfl ?_);(try (refine gate_guard (by rfl) ?_;dsimp only));refine Kd.N_lit (Kd.slice 2 (Kd.int .i64)) _ 28 ?hg (N':=16) ?hd (xs:=([l0,l1]:List (List Int))) (inner:=[.slice A0 l0.length c0,.slice A1 l1.length c1]) (ok:=(fun k_=>((P0_ k_∨P1_ k_)∨w.heap.size≤k_))) (okp:=(fun k_=>((P0_ k_∨P1_ k_)∨w.heap.size≤k_))) ?hr ?hp (fun _ hk=>hk) ((show ∀ k_,w.heap.size≤k_→(fun k_=>((P0_ k_∨P1_ k_)∨w.heap.size≤k_)) k_ from fun k_ hk=>(.inr (Nat.le_trans (below_size bl) hk))) _ (Nat.le_refl _)) (Below.refl _ _) (Nat.le_refl _) (by simp) ?_;(case hd=>rfl);(case hg=>rfl);(case hr=>first|(go_simp;done)|(go_simp;rfl));(case hp=>exact (Reps.one (show Kd.FK (Kd.slice 2 (Kd.int .i64)) _ _ l0 [.slice A0 l0.length c0] from (Kd.FK_slice_mk (Kd.V_reads' (Kd.V_mono (ok':=(fun k_=>((P0_ k_∨P1_ k_)∨w.heap.size≤k_))) (HO0.out) (fun k_ hk=>hk))).2.1 (Kd.V_F (Kd.V_mono (ok':=(fun k_=>((P0_ k_∨P1_ k_)∨w.heap.size≤k_))) (HO0.out) (fun k_ hk=>hk))))) (Reps.one (show Kd.FK (Kd.slice 2 (Kd.int .i64)) _ _ l1 [.slice A1 l1.length c1] from (Kd.FK_slice_mk (Kd.V_reads' (Kd.V_mono (ok':=(fun k_=>((P0_ k_∨P1_ k_)∨w.heap.size≤k_))) (HO1.out) (fun k_ hk=>hk))).2.1 (Kd.V_F (Kd.V_mono (ok':=(fun k_=>((P0_ k_∨P1_ k_)∨w.heap.size≤k_))) (HO1.out) (fun k_ hk=>hk))))) (Reps.none _ _))));intro v102 w11 ho12 hb hg_ hnew_;clear hg_ hnew_;(first|rw [← Ny101.out] at ho12|(simp only [Int.reduceToNat] at ho12;rw [← Ny101.out] at ho12));replace HO0:=Aside0.mk (Kd.V_elder' (aV HO0.out) (Kd.N_base ho12) hb);replace HO1:=Aside0.mk (Kd.V_elder' (aV HO1.out) (Kd.N_base ho12) hb);have HO103:=Aside0.mk (Kd.N_lower ho12 (below_size bl));replace HB:=Aside0.mk (below_step bl hb);clear hb ho12;obtain ⟨Ao13,co13,eo13⟩:=Kd.N_slice HO103.out;subst eo13)|((with_reducible refine gate_callee (f:=164) rfl ?_);refine goesL_ (some 17) rfl rfl Try.func164 (by kernel_rfl) rfl #[.slice Ao13 y101.length co13] rfl gm ?_;(with_reducible refine (F164.calls k _ _ y101 true _ ?side1 ?side2 A4.out).mono ?_);(case side1=>exact aC ((Kd.N_reads' HO103.out).2.2));(case side2=>exact (Kd.N_reads' HO103.out).2.1);rintro e w14 ⟨rfl,hb⟩;refine ⟨_,rfl,?_⟩;replace HO0:=Aside0.mk (Kd.V_below (aV HO0.out) hb);replace HO1:=Aside0.mk (Kd.V_below (aV HO1.out) hb);replace HO103:=Aside0.mk (Kd.N_below (aN HO103.out) hb);replace HB:=Aside0.mk (below_step bl hb);(try clear hb);(try clear hb2);(try clear hk);(try clear hi))|((with_reducible refine gate_callee (f:=166) rfl ?_);refine goesL_ (some 21) rfl rfl Try.func166 (by kernel_rfl) rfl #[.slice A1 l1.length c1,.int .i64 0] rfl gm ?_;(with_reducible refine (F166.calls _ _ l1 0 t105 _ ?side1 ?side2 A6.out).mono ?_);(case side1=>exact aC ((Kd.V_reads' HO1.out).2.2));(case side2=>exact (Kd.V_reads' HO1.out).2.1);rintro e w' ⟨rfl,⟨nd,rfl⟩⟩;refine ⟨_,rfl,?_⟩)|((with_reducible refine gate_callee (f:=165) rfl ?_);refine goesL_ (some 22) rfl rfl Try.func165 (by kernel_rfl) rfl #[.int .i64 t105] rfl gm ?_;(with_reducible refine (F165.calls t105 t106 _ A7.out).mono ?_);rintro e w15 ⟨rfl,hb⟩;refine ⟨_,rfl,?_⟩;replace HO0:=Aside0.mk (Kd.V_below (aV HO0.out) hb);replace HO1:=Aside0.mk (Kd.V_below (aV HO1.out) hb);replace HO103:=Aside0.mk (Kd.N_below (aN HO103.out) hb);replace HB:=Aside0.mk (below_step bl hb);(try clear hb);(try clear hb2);(try clear hk);(try clear hi)))
  go_ret2
  exact ⟨_,by first|rfl|(simp [errW_none,errW_some]<;>rfl)|(simp [*,errW_none,errW_some]<;>rfl),by first|exact Kd.R_nil _ _ _ _ _|exact Kd.N_nil _ _ _ _ _|exact Kd.V_nil _ _ _ _ _|exact Kd.Q_nil _ _ _ _ _|exact Kd.S_nil _ _ _ _ _,bl⟩
 case rest =>
  clear HC3
  (try clear c1);(try clear p2);(try clear c5);(try clear c8);(try clear c8b0);(try clear c8b1);(try clear c9);(try clear c9b0);(try clear c9b1);(try clear c10);(try clear c10b0);(try clear c10b1);(try clear c16)
  obtain ⟨kq,HA,HJ2,HO_0,HO_1,HB⟩:=hcut
  cases kq with
  | zero=>exact absurd HA.out (by simp [F85.j0])
  | succ kj2 =>
   have H:=HA.out
   clear HA
   simp only [F85.j0] at H
   obtain ⟨y107,hy107⟩:∃ y_:List Int,y_=(([]:List Int)):=⟨_,rfl⟩
   replace H:(F85.l0 kj2 l0 l1 y107 (mx 0 (wrap64 ((wrap64 ((l0.length:Int) - (l1.length:Int)))+1))) 0)=some (r1,r2):=by first|(rw [hy107];with_reducible exact H)|(have H2_:=(Option.bind_some _ _).symm.trans H;rw [hy107];with_reducible exact H2_)|(have H2_:=(Option.bind_some _ _).symm.trans H;with_reducible exact H2_)|with_reducible exact H|(rw [hy107];exact H)|exact H
   have Ny107:=Aside0.mk hy107
   clear hy107
   obtain ⟨ji35,hji35⟩:∃ j_:Int,(mx 0 (wrap64 ((wrap64 ((l0.length:Int) - (l1.length:Int)))+1)))=j_:=⟨_,rfl⟩
   replace H:(F85.l0 kj2 l0 l1 y107 ji35 0)=some (r1,r2):=by first|(rw [hji35] at H;exact H)|(simp only [hji35] at H ⊢;exact H)
   have hji35_:(if 0 < (wrap64 ((wrap64 ((l0.length:Int) - (l1.length:Int)))+1)) then (wrap64 ((wrap64 ((l0.length:Int) - (l1.length:Int)))+1)) else 0)=ji35:=hji35
   have H':=Aside0.mk H
   clear H
   go_wp2_with (first|((with_reducible refine gate_dst (N:=35) rfl ?_);(try (refine gate_guard (by rfl) ?_;dsimp only));refine Kd.R_lit (Kd.int .i64) _ 2 ?hg (N:=35) ?hd (xs:=([]:List Int)) (inner:=[]) (ok:=fun _=>True) (okp:=fun _=>True) ?hr ?hp (fun _ hk=>hk) trivial (Below.refl _ _) (Nat.le_refl _) (by simp) ?_;(case hd=>rfl);(case hg=>rfl);(case hr=>first|(go_simp;done)|(go_simp;rfl));(case hp=>exact (Reps.none _ _));intro v108 w36 ho37 hb hg_ hnew_;clear hg_ hnew_;(first|rw [← Ny107.out] at ho37|(simp only [Int.reduceToNat] at ho37;rw [← Ny107.out] at ho37));replace HO_0:=Aside0.mk (Kd.V_elder' (aV HO_0.out) (Kd.R_base ho37) hb);replace HO_1:=Aside0.mk (Kd.V_elder' (aV HO_1.out) (Kd.R_base ho37) hb);have HO109:=Aside0.mk (Kd.R_lower (Kd.R_newM (M:=fun k_=>(w.heap.size≤k_)) ho37 (below_size bl) (fun k_ h_=>h_)) (below_size bl));replace HB:=Aside0.mk (below_step bl hb);clear hb ho37))
   go_loopg [6,43] kj2 (fun kq v6 v43 w'=>∃ (x6_2:List Int) (x43_2:Int),v43=.int .i64 x43_2∧Aside0 (F85.l0 kq l0 l1 x6_2 ji35 x43_2=some (r1,r2))∧Aside0 (kq≤kj2)∧Aside0 (Kd.V (Kd.int .i64) 2 w' w.heap.size (fun k_=>((P0_ k_∨P1_ k_)∨w.heap.size≤k_)∧some k_ ≠ (v6:Value).ownBlock) (.slice A0 l0.length c0) l0)∧Aside0 (Kd.V (Kd.int .i64) 2 w' w.heap.size (fun k_=>((P0_ k_∨P1_ k_)∨w.heap.size≤k_)∧some k_ ≠ (v6:Value).ownBlock) (.slice A1 l1.length c1) l1)∧Aside0 (Kd.R (Kd.int .i64) 2 w' w.heap.size (fun k_=>(w.heap.size≤k_)) v6 x6_2)∧Aside0 (Below w.heap.size w w'))
   case atStart=>exact ⟨(y107),(0),rs,H',⟨Nat.le_refl _⟩,⟨by (with_reducible repeat (first|apply Kd.V_alloc|apply Kd.V_drewN|apply Kd.V_drew));exact HO_0.out⟩,⟨by (with_reducible repeat (first|apply Kd.V_alloc|apply Kd.V_drewN|apply Kd.V_drew));exact HO_1.out⟩,⟨by (with_reducible repeat (first|apply Kd.R_alloc|apply Kd.R_drewN|apply Kd.R_drew));exact Kd.R_mono HO109.out (fun _ hk=>hk.1)⟩,⟨bl⟩⟩
   case round =>
    clear H'
    (try clear c1);(try clear p2);(try clear c5);(try clear p6);(try clear c8);(try clear c8b0);(try clear c8b1);(try clear c9);(try clear c9b0);(try clear c9b1);(try clear c10);(try clear c10b0);(try clear c10b1);(try clear c16);(try clear p2)
    obtain ⟨x6_2,x43_2,rfl,HA,HK2,HO_0,HO_1,HO_6,HB⟩:=hrel
    cases gk with
    | zero=>exact absurd HA.out (by simp [F85.l0])
    | succ k2 =>
     have H:=HA.out
     clear HA
     simp only [F85.l0] at H
     by_cases c38:x43_2 < ji35
     case neg =>
      rw [if_neg c38] at H
      have c38b0:decide (x43_2 < ji35)=false:=decide_eq_false c38
      clear c38
      have HC58:=Aside0.mk H
      clear H
      go_upto_if 87 with (fail)
      go_cut [6] (fun v6 wc=>∃ (kq:Nat) (x6_57:List Int),Aside0 (F85.j3 kq l0 l1 x6_57=some (r1,r2))∧Aside0 (kq≤k2)∧Aside0 (Kd.V (Kd.int .i64) 2 wc w.heap.size (fun k_=>((P0_ k_∨P1_ k_)∨w.heap.size≤k_)∧some k_ ≠ (v6:Value).ownBlock) (.slice A0 l0.length c0) l0)∧Aside0 (Kd.V (Kd.int .i64) 2 wc w.heap.size (fun k_=>((P0_ k_∨P1_ k_)∨w.heap.size≤k_)∧some k_ ≠ (v6:Value).ownBlock) (.slice A1 l1.length c1) l1)∧Aside0 (Kd.R (Kd.int .i64) 2 wc w.heap.size (fun k_=>(w.heap.size≤k_)) v6 x6_57)∧Aside0 (Below w.heap.size w wc))
      case first =>
       have H:=HC58.out
       clear HC58
       by_cases c59:(l0.length:Int)=0
       case neg =>
        rw [if_neg c59] at H
        have c59b0:((l0.length:Int) == 0)=false:=beq_eq_false_iff_ne.mpr c59
        have c59b1:((l0.length:Int) != 0)=true:=bne_iff_ne.mpr c59
        have c59b2:¬ (l0=[]):=fun h_=>c59 (by rw [h_];rfl)
        (first|rw [c59b0]|(simp only [i64_w,i32_w];rw [c59b0])|skip)
        have H':=Aside0.mk H
        clear H
        go_wp2
        go_meet
        case rel=>exact ⟨_,(x6_2),(by first|exact H'|(rw [hji35];exact H')|(rw [hji40];exact H')|(rw [hji44];exact H')),⟨by have:=HJ2.out;have:=HK2.out;first|omega|exact Nat.le_refl _⟩,⟨by (with_reducible repeat (first|apply Kd.V_alloc|apply Kd.V_drewN|apply Kd.V_drew));exact HO_0.out⟩,⟨by (with_reducible repeat (first|apply Kd.V_alloc|apply Kd.V_drewN|apply Kd.V_drew));exact HO_1.out⟩,⟨by (with_reducible repeat (first|apply Kd.R_alloc|apply Kd.R_drewN|apply Kd.R_drew));exact HO_6.out⟩,⟨bl⟩⟩
       rw [if_pos c59] at H
       have c59b0:((l0.length:Int) == 0)=true:=beq_iff_eq.mpr c59
       have c59b1:((l0.length:Int) != 0)=false:=bne_eq_false_iff_eq.mpr c59
       clear c59
       (first|rw [c59b0]|(simp only [i64_w,i32_w];rw [c59b0])|skip)
       have H':=Aside0.mk H
       clear H
       go_wp2
       go_meet
       case rel=>exact ⟨_,(([]:List Int)),(by first|exact H'|(rw [hji35];exact H')|(rw [hji40];exact H')|(rw [hji44];exact H')),⟨by have:=HJ2.out;have:=HK2.out;first|omega|exact Nat.le_refl _⟩,⟨by (with_reducible repeat (first|apply Kd.V_alloc|apply Kd.V_drewN|apply Kd.V_drew));exact Kd.V_mono HO_0.out (fun _ hk=>⟨hk.1,(by simp [Value.ownBlock])⟩)⟩,⟨by (with_reducible repeat (first|apply Kd.V_alloc|apply Kd.V_drewN|apply Kd.V_drew));exact Kd.V_mono HO_1.out (fun _ hk=>⟨hk.1,(by simp [Value.ownBlock])⟩)⟩,⟨by first|exact Kd.R_nil _ _ _ _ _|exact Kd.N_nil _ _ _ _ _|exact Kd.V_nil _ _ _ _ _|exact Kd.Q_nil _ _ _ _ _|exact Kd.S_nil _ _ _ _ _⟩,⟨bl⟩⟩
      case rest =>
       clear HC58
       (try clear c1);(try clear p1);(try clear q1);(try clear hx1);(try clear qi1);(try clear p2);(try clear c3);(try clear c4);(try clear c5);(try clear p6);(try clear c8);(try clear c8b0);(try clear c8b1);(try clear c9);(try clear c9b0);(try clear c9b1);(try clear c10);(try clear c10b0);(try clear c10b1);(try clear p11);(try clear q11);(try clear hx11);(try clear qi11);(try clear c16);(try clear c38);(try clear c38b0);(try clear c41);(try clear c41b0);(try clear c42);(try clear c42b0);(try clear c43);(try clear c43b0);(try clear c45);(try clear c45b0);(try clear c46);(try clear c46b0);(try clear c48);(try clear c55);(try clear c55b0);(try clear c55b1);(try clear c56);(try clear c59);(try clear c59b0);(try clear c59b1);(try clear c59b2);(try clear hx111_0);(try clear hx112_0);(try clear hx115_0);(try clear p111);(try clear p112);(try clear p115);(try clear p2);(try clear p6);(try clear q111);(try clear q112);(try clear q115)
       obtain ⟨kq,x6_57,HA,HJ57,HO_0,HO_1,HO_6,HB⟩:=hcut
       cases kq with
       | zero=>exact absurd HA.out (by simp [F85.j3])
       | succ kj57 =>
        have H:=HA.out
        clear HA
        simp only [F85.j3] at H
        replace H:=Option.bind_eq_some_iff.mp H
        obtain ⟨t119,A600,H⟩:=H
        replace H:((F169.f kj57 t119 l1).bind fun bt122=>(if bt122.2=true then ((F95.f kj57 bt122.1 l0).bind fun t126=>(if t126=true then (some (t119,0)) else (some (([]:List Int),4)))) else (some (([]:List Int),3))))=some (r1,r2):=H
        have A60:=Aside0.mk A600
        clear A600
        replace H:=Option.bind_eq_some_iff.mp H
        obtain ⟨⟨t122,t123⟩,A610,H⟩:=H
        replace H:(if t123=true then ((F95.f kj57 t122 l0).bind fun t126=>(if t126=true then (some (t119,0)) else (some (([]:List Int),4)))) else (some (([]:List Int),3)))=some (r1,r2):=H
        have A61:=Aside0.mk A610
        clear A610
        by_cases c62:t123=true
        case neg =>
         replace c62:=Bool.eq_false_iff.mpr c62
         subst c62
         have H1:(some (([]:List Int),3))=some (r1,r2):=by rw [if_neg (show ¬ (false=true) by decide)] at H;exact H
         clear H
         have H:=H1
         clear H1
         simp only [Option.some.injEq,Prod.mk.injEq] at H
         obtain ⟨rfl,rfl⟩:=H
         obtain ⟨Ao75,co75,eo75⟩:=Kd.R_slice HO_6.out
         subst eo75
         go_wp2_with (first|((with_reducible refine gate_callee (f:=168) rfl ?_);refine goesL_ (some 89) rfl rfl Try.func168 (by kernel_rfl) rfl #[.slice Ao75 x6_57.length co75] rfl gm ?_;(with_reducible refine (F168.calls kj57 (fun k_=>some k_=(.slice Ao75 x6_57.length co75:Value).ownBlock) _ _ x6_57 t119 _ ?side1 A60.out).mono ?_);(case side1=>exact Kd.R_V (Kd.R_tight rfl (HO_6.out)));rintro e w76 ⟨v120,rfl,ho0,hb⟩;refine ⟨_,rfl,?_⟩;replace HO_0:=Aside0.mk (Kd.V_elder' (aV HO_0.out) (Kd.R_base ho0) hb);replace HO_1:=Aside0.mk (Kd.V_elder' (aV HO_1.out) (Kd.R_base ho0) hb);have HO121:=Aside0.mk (Kd.R_lower (Kd.R_new' (Kd.R_newM (M:=fun k_=>(w.heap.size≤k_)) (Kd.R_mono (ok':=fun k_=>True) ho0 (fun _ hk_=>trivial)) (below_size bl) (fun k_ h_=>h_)) (Kd.R_lt (aR HO_6.out))) (below_size bl));replace HO_6:=Aside0.mk (Kd.R_elder' (aR HO_6.out) (Kd.R_base ho0) hb);replace HB:=Aside0.mk (below_step bl hb);(try clear hb);(try clear hb2);(try clear hk);(try clear hi);(try clear ho0);obtain ⟨Ao77,co77,eo77⟩:=Kd.R_slice HO121.out;subst eo77)|((with_reducible refine gate_callee (f:=169) rfl ?_);refine goesL_ (some 93) rfl rfl Try.func169 (by kernel_rfl) rfl #[.slice Ao77 t119.length co77,.slice A1 l1.length c1] rfl gm ?_;(with_reducible refine (F169.calls kj57 _ _ t119 _ _ l1 t122 false _ ?side1 ?side2 ?side3 ?side4 A61.out).mono ?_);(case side1=>exact aC ((Kd.R_reads' HO121.out).2.2));(case side2=>exact (Kd.R_reads' HO121.out).2.1);(case side3=>exact aC ((Kd.V_reads' HO_1.out).2.2));(case side4=>exact (Kd.V_reads' HO_1.out).2.1);rintro e w78 ⟨v124,rfl,ho0,hb⟩;refine ⟨_,rfl,?_⟩;replace HO_0:=Aside0.mk (Kd.V_elder' (aV HO_0.out) (Kd.R_base ho0) hb);replace HO_1:=Aside0.mk (Kd.V_elder' (aV HO_1.out) (Kd.R_base ho0) hb);have HO125:=Aside0.mk (Kd.R_lower (Kd.R_new' (Kd.R_new' (Kd.R_newM (M:=fun k_=>(w.heap.size≤k_)) ho0 (below_size bl) (fun k_ h_=>h_)) (Kd.R_lt (aR HO_6.out))) (Kd.R_lt (aR HO121.out))) (below_size bl));replace HO_6:=Aside0.mk (Kd.R_elder' (aR HO_6.out) (Kd.R_base ho0) hb);replace HO121:=Aside0.mk (Kd.R_elder' (aR HO121.out) (Kd.R_base ho0) hb);replace HB:=Aside0.mk (below_step bl hb);(try clear hb);(try clear hb2);(try clear hk);(try clear hi);(try clear ho0)))
         go_ret2
         exact ⟨_,by first|rfl|(simp [errW_none,errW_some]<;>rfl)|(simp only [← hji35];first|rfl|(simp [errW_none,errW_some]<;>rfl))|(simp [*,errW_none,errW_some]<;>rfl),by first|exact Kd.R_nil _ _ _ _ _|exact Kd.N_nil _ _ _ _ _|exact Kd.V_nil _ _ _ _ _|exact Kd.Q_nil _ _ _ _ _|exact Kd.S_nil _ _ _ _ _,bl⟩
        subst c62
        have H1:((F95.f kj57 t122 l0).bind fun t126=>(if t126=true then (some (t119,0)) else (some (([]:List Int),4))))=some (r1,r2):=by rw [if_pos rfl] at H;exact H
        clear H
        have H:=H1
        clear H1
        replace H:=Option.bind_eq_some_iff.mp H
        obtain ⟨t126,A630,H⟩:=H
        replace H:(if t126=true then (some (t119,0)) else (some (([]:List Int),4)))=some (r1,r2):=H
        have A63:=Aside0.mk A630
        clear A630
        by_cases c64:t126=true
        case neg =>
         replace c64:=Bool.eq_false_iff.mpr c64
         subst c64
         have H1:(some (([]:List Int),4))=some (r1,r2):=by rw [if_neg (show ¬ (false=true) by decide)] at H;exact H
         clear H
         have H:=H1
         clear H1
         simp only [Option.some.injEq,Prod.mk.injEq] at H
         obtain ⟨rfl,rfl⟩:=H
         obtain ⟨Ao70,co70,eo70⟩:=Kd.R_slice HO_6.out
         subst eo70
         go_wp2_with (first|((with_reducible refine gate_callee (f:=168) rfl ?_);refine goesL_ (some 89) rfl rfl Try.func168 (by kernel_rfl) rfl #[.slice Ao70 x6_57.length co70] rfl gm ?_;(with_reducible refine (F168.calls kj57 (fun k_=>some k_=(.slice Ao70 x6_57.length co70:Value).ownBlock) _ _ x6_57 t119 _ ?side1 A60.out).mono ?_);(case side1=>exact Kd.R_V (Kd.R_tight rfl (HO_6.out)));rintro e w71 ⟨v120,rfl,ho0,hb⟩;refine ⟨_,rfl,?_⟩;replace HO_0:=Aside0.mk (Kd.V_elder' (aV HO_0.out) (Kd.R_base ho0) hb);replace HO_1:=Aside0.mk (Kd.V_elder' (aV HO_1.out) (Kd.R_base ho0) hb);have HO121:=Aside0.mk (Kd.R_lower (Kd.R_new' (Kd.R_newM (M:=fun k_=>(w.heap.size≤k_)) (Kd.R_mono (ok':=fun k_=>True) ho0 (fun _ hk_=>trivial)) (below_size bl) (fun k_ h_=>h_)) (Kd.R_lt (aR HO_6.out))) (below_size bl));replace HO_6:=Aside0.mk (Kd.R_elder' (aR HO_6.out) (Kd.R_base ho0) hb);replace HB:=Aside0.mk (below_step bl hb);(try clear hb);(try clear hb2);(try clear hk);(try clear hi);(try clear ho0);obtain ⟨Ao72,co72,eo72⟩:=Kd.R_slice HO121.out;subst eo72)|((with_reducible refine gate_callee (f:=169) rfl ?_);refine goesL_ (some 93) rfl rfl Try.func169 (by kernel_rfl) rfl #[.slice Ao72 t119.length co72,.slice A1 l1.length c1] rfl gm ?_;(with_reducible refine (F169.calls kj57 _ _ t119 _ _ l1 t122 true _ ?side1 ?side2 ?side3 ?side4 A61.out).mono ?_);(case side1=>exact aC ((Kd.R_reads' HO121.out).2.2));(case side2=>exact (Kd.R_reads' HO121.out).2.1);(case side3=>exact aC ((Kd.V_reads' HO_1.out).2.2));(case side4=>exact (Kd.V_reads' HO_1.out).2.1);rintro e w73 ⟨v124,rfl,ho0,hb⟩;refine ⟨_,rfl,?_⟩;replace HO_0:=Aside0.mk (Kd.V_elder' (aV HO_0.out) (Kd.R_base ho0) hb);replace HO_1:=Aside0.mk (Kd.V_elder' (aV HO_1.out) (Kd.R_base ho0) hb);have HO125:=Aside0.mk (Kd.R_lower (Kd.R_new' (Kd.R_new' (Kd.R_newM (M:=fun k_=>(w.heap.size≤k_)) ho0 (below_size bl) (fun k_ h_=>h_)) (Kd.R_lt (aR HO_6.out))) (Kd.R_lt (aR HO121.out))) (below_size bl));replace HO_6:=Aside0.mk (Kd.R_elder' (aR HO_6.out) (Kd.R_base ho0) hb);replace HO121:=Aside0.mk (Kd.R_elder' (aR HO121.out) (Kd.R_base ho0) hb);replace HB:=Aside0.mk (below_step bl hb);(try clear hb);(try clear hb2);(try clear hk);(try clear hi);(try clear ho0);obtain ⟨Ao74,co74,eo74⟩:=Kd.R_slice HO125.out;subst eo74)|((with_reducible refine gate_callee (f:=95) rfl ?_);refine goesL_ (some 102) rfl rfl Try.func95 (by kernel_rfl) rfl #[.slice Ao74 t122.length co74,.slice A0 l0.length c0] rfl gm ?_;(with_reducible refine (F95.calls kj57 _ _ t122 _ _ l0 false _ ?side1 ?side2 ?side3 ?side4 A63.out).mono ?_);(case side1=>exact aC ((Kd.R_reads' HO125.out).2.2));(case side2=>exact (Kd.R_reads' HO125.out).2.1);(case side3=>exact aC ((Kd.V_reads' HO_0.out).2.2));(case side4=>exact (Kd.V_reads' HO_0.out).2.1);rintro e w' ⟨rfl,⟨nd,rfl⟩⟩;refine ⟨_,rfl,?_⟩))
         go_ret2
         exact ⟨_,by first|rfl|(simp [errW_none,errW_some]<;>rfl)|(simp only [← hji35];first|rfl|(simp [errW_none,errW_some]<;>rfl))|(simp [*,errW_none,errW_some]<;>rfl),by first|exact Kd.R_nil _ _ _ _ _|exact Kd.N_nil _ _ _ _ _|exact Kd.V_nil _ _ _ _ _|exact Kd.Q_nil _ _ _ _ _|exact Kd.S_nil _ _ _ _ _,bl⟩
        subst c64
        have H1:(some (t119,0))=some (r1,r2):=by rw [if_pos rfl] at H;exact H
        clear H
        have H:=H1
        clear H1
        simp only [Option.some.injEq,Prod.mk.injEq] at H
        obtain ⟨rfl,rfl⟩:=H
        obtain ⟨Ao65,co65,eo65⟩:=Kd.R_slice HO_6.out
        subst eo65
        go_wp2_with (first|((with_reducible refine gate_callee (f:=168) rfl ?_);refine goesL_ (some 89) rfl rfl Try.func168 (by kernel_rfl) rfl #[.slice Ao65 x6_57.length co65] rfl gm ?_;(with_reducible refine (F168.calls kj57 (fun k_=>some k_=(.slice Ao65 x6_57.length co65:Value).ownBlock) _ _ x6_57 t119 _ ?side1 A60.out).mono ?_);(case side1=>exact Kd.R_V (Kd.R_tight rfl (HO_6.out)));rintro e w66 ⟨v120,rfl,ho0,hb⟩;refine ⟨_,rfl,?_⟩;replace HO_0:=Aside0.mk (Kd.V_elder' (aV HO_0.out) (Kd.R_base ho0) hb);replace HO_1:=Aside0.mk (Kd.V_elder' (aV HO_1.out) (Kd.R_base ho0) hb);have HO121:=Aside0.mk (Kd.R_lower (Kd.R_new' (Kd.R_newM (M:=fun k_=>(w.heap.size≤k_)) (Kd.R_mono (ok':=fun k_=>True) ho0 (fun _ hk_=>trivial)) (below_size bl) (fun k_ h_=>h_)) (Kd.R_lt (aR HO_6.out))) (below_size bl));replace HO_6:=Aside0.mk (Kd.R_elder' (aR HO_6.out) (Kd.R_base ho0) hb);replace HB:=Aside0.mk (below_step bl hb);(try clear hb);(try clear hb2);(try clear hk);(try clear hi);(try clear ho0);obtain ⟨Ao67,co67,eo67⟩:=Kd.R_slice HO121.out;subst eo67)|((with_reducible refine gate_callee (f:=169) rfl ?_);refine goesL_ (some 93) rfl rfl Try.func169 (by kernel_rfl) rfl #[.slice Ao67 t119.length co67,.slice A1 l1.length c1] rfl gm ?_;(with_reducible refine (F169.calls kj57 _ _ t119 _ _ l1 t122 true _ ?side1 ?side2 ?side3 ?side4 A61.out).mono ?_);(case side1=>exact aC ((Kd.R_reads' HO121.out).2.2));(case side2=>exact (Kd.R_reads' HO121.out).2.1);(case side3=>exact aC ((Kd.V_reads' HO_1.out).2.2));(case side4=>exact (Kd.V_reads' HO_1.out).2.1);rintro e w68 ⟨v124,rfl,ho0,hb⟩;refine ⟨_,rfl,?_⟩;replace HO_0:=Aside0.mk (Kd.V_elder' (aV HO_0.out) (Kd.R_base ho0) hb);replace HO_1:=Aside0.mk (Kd.V_elder' (aV HO_1.out) (Kd.R_base ho0) hb);have HO125:=Aside0.mk (Kd.R_lower (Kd.R_new' (Kd.R_new' (Kd.R_newM (M:=fun k_=>(w.heap.size≤k_)) ho0 (below_size bl) (fun k_ h_=>h_)) (Kd.R_lt (aR HO_6.out))) (Kd.R_lt (aR HO121.out))) (below_size bl));replace HO_6:=Aside0.mk (Kd.R_elder' (aR HO_6.out) (Kd.R_base ho0) hb);replace HO121:=Aside0.mk (Kd.R_elder' (aR HO121.out) (Kd.R_base ho0) hb);replace HB:=Aside0.mk (below_step bl hb);(try clear hb);(try clear hb2);(try clear hk);(try clear hi);(try clear ho0);obtain ⟨Ao69,co69,eo69⟩:=Kd.R_slice HO125.out;subst eo69)|((with_reducible refine gate_callee (f:=95) rfl ?_);refine goesL_ (some 102) rfl rfl Try.func95 (by kernel_rfl) rfl #[.slice Ao69 t122.length co69,.slice A0 l0.length c0] rfl gm ?_;(with_reducible refine (F95.calls kj57 _ _ t122 _ _ l0 true _ ?side1 ?side2 ?side3 ?side4 A63.out).mono ?_);(case side1=>exact aC ((Kd.R_reads' HO125.out).2.2));(case side2=>exact (Kd.R_reads' HO125.out).2.1);(case side3=>exact aC ((Kd.V_reads' HO_0.out).2.2));(case side4=>exact (Kd.V_reads' HO_0.out).2.1);rintro e w' ⟨rfl,⟨nd,rfl⟩⟩;refine ⟨_,rfl,?_⟩))
        go_ret2
        exact ⟨_,by first|rfl|(simp [errW_none,errW_some]<;>rfl)|(simp only [← hji35];first|rfl|(simp [errW_none,errW_some]<;>rfl))|(simp [*,errW_none,errW_some]<;>rfl),by (with_reducible repeat (first|apply Kd.R_alloc|apply Kd.R_drewN|apply Kd.R_drew));exact Kd.R_mono HO121.out (fun _ hk=>hk.1.1.1),bl⟩
     rw [if_pos c38] at H
     have c38b0:=decide_eq_true c38
     clear c38
     replace H:=Option.bind_eq_some_iff.mp H
     obtain ⟨t110,A390,H⟩:=H
     replace H:(F85.l1 k2 l0 l1 x6_2 x43_2 t110 1 ji35 x43_2)=some (r1,r2):=H
     have A39:=Aside0.mk A390
     clear A390
     have H':=Aside0.mk H
     clear H
     go_wp2_with (first|((with_reducible refine gate_callee (f:=166) rfl ?_);refine goesL_ (some 48) rfl rfl Try.func166 (by kernel_rfl) rfl #[.slice A0 l0.length c0,.int .i64 x43_2] rfl gm ?_;(with_reducible refine (F166.calls _ _ l0 x43_2 t110 _ ?side1 ?side2 A39.out).mono ?_);(case side1=>exact aC ((Kd.V_reads' HO_0.out).2.2));(case side2=>exact (Kd.V_reads' HO_0.out).2.1);rintro e w' ⟨rfl,⟨nd,rfl⟩⟩;refine ⟨_,rfl,?_⟩))
     go_loopg [8,10] k2 (fun kq v8 v10 w'=>∃ (x8_3:Int) (x10_3:Int),v8=.int .i64 x8_3∧v10=.int .i64 x10_3∧Aside0 (F85.l1 kq l0 l1 x6_2 x43_2 x8_3 x10_3 ji35 x43_2=some (r1,r2))∧Aside0 (kq≤k2)∧Aside0 (Kd.V (Kd.int .i64) 2 w' w.heap.size (fun k_=>((P0_ k_∨P1_ k_)∨w.heap.size≤k_)∧some k_ ≠ (u6:Value).ownBlock) (.slice A0 l0.length c0) l0)∧Aside0 (Kd.V (Kd.int .i64) 2 w' w.heap.size (fun k_=>((P0_ k_∨P1_ k_)∨w.heap.size≤k_)∧some k_ ≠ (u6:Value).ownBlock) (.slice A1 l1.length c1) l1)∧Aside0 (Kd.R (Kd.int .i64) 2 w' w.heap.size (fun k_=>(w.heap.size≤k_)) u6 x6_2)∧Aside0 (Below w.heap.size w w'))
     case atStart=>exact ⟨(t110),(1),rs,rs,H',⟨Nat.le_refl _⟩,⟨by (with_reducible repeat (first|apply Kd.V_alloc|apply Kd.V_drewN|apply Kd.V_drew));exact HO_0.out⟩,⟨by (with_reducible repeat (first|apply Kd.V_alloc|apply Kd.V_drewN|apply Kd.V_drew));exact HO_1.out⟩,⟨by (with_reducible repeat (first|apply Kd.R_alloc|apply Kd.R_drewN|apply Kd.R_drew));exact HO_6.out⟩,⟨bl⟩⟩
     case round =>
      clear H'
      (try clear c1);(try clear p2);(try clear c3);(try clear c5);(try clear p6);(try clear c8);(try clear c8b0);(try clear c8b1);(try clear c9);(try clear c9b0);(try clear c9b1);(try clear c10);(try clear c10b0);(try clear c10b1);(try clear c16);(try clear c38);(try clear c38b0);(try clear p2);(try clear p6)
      obtain ⟨x8_3,x10_3,rfl,rfl,HA,HK3,HO_0,HO_1,HO_6,HB⟩:=hrel
      cases gk with
      | zero=>exact absurd HA.out (by simp [F85.l1])
      | succ k3 =>
       have H:=HA.out
       clear HA
       simp only [F85.l1] at H
       obtain ⟨ji40,hji40⟩:∃ j_:Int,(mn x43_2 (wrap64 ((l1.length:Int) - 1)))=j_:=⟨_,rfl⟩
       replace H:(if x10_3≤(ji40) then (if 0≤x10_3 then (if x10_3 < (l1.length:Int) then (if 0≤(wrap64 (x43_2 - x10_3)) then (if (wrap64 (x43_2 - x10_3)) < (x6_2.length:Int) then ((F167.f k3 x8_3 (wrap64 (-(rd l1 x10_3))) (rd x6_2 (wrap64 (x43_2 - x10_3)))).bind fun bt113=>(if bt113.2=true then (F85.l1 k3 l0 l1 x6_2 x43_2 bt113.1 (wrap64 (x10_3+1)) ji35 x43_2) else (some (([]:List Int),3)))) else (none)) else (none)) else (none)) else (none)) else (if 0 < (l1.length:Int) then (if x6_2.length < 17592186044416 then (F85.l0 k3 l0 l1 (x6_2 ++ [wrap64 (x8_3 * (rd l1 0))]) ji35 (wrap64 (x43_2+1))) else (none)) else (none)))=some (r1,r2):=by first|(rw [hji40] at H;exact H)|(simp only [hji40] at H ⊢;exact H)
       have hji40_:(if (wrap64 ((l1.length:Int) - 1)) < x43_2 then (wrap64 ((l1.length:Int) - 1)) else x43_2)=ji40:=hji40
       by_cases c41:x10_3≤(ji40)
       case neg =>
        rw [if_neg c41] at H
        have c41b0:decide (x10_3≤(ji40))=false:=decide_eq_false c41
        clear c41
        replace H:=iS H;obtain ⟨c55,H⟩:=H
        have c55b0:=decide_eq_true c55
        have c55b1:decide (0 < l1.length)=true:=decide_eq_true (by omega)
        clear c55
        replace H:=iS H;obtain ⟨c56,H⟩:=H
        have LMc56:=Aside0.mk c56
        clear c56
        obtain ⟨y116,hy116⟩:∃ y_:List Int,y_=(x6_2 ++ [wrap64 (x8_3 * (rd l1 0))]):=⟨_,rfl⟩
        replace H:(F85.l0 k3 l0 l1 y116 ji35 (wrap64 (x43_2+1)))=some (r1,r2):=by first|(rw [hy116];with_reducible exact H)|(have H2_:=(Option.bind_some _ _).symm.trans H;rw [hy116];with_reducible exact H2_)|(have H2_:=(Option.bind_some _ _).symm.trans H;with_reducible exact H2_)|with_reducible exact H|(rw [hy116];exact H)|exact H
        have Ny116:=Aside0.mk hy116
        clear hy116
        have H':=Aside0.mk H
        clear H
        have p115:0≤(0:Int):=(by omega)
        have q115:0 < (l1.length:Int):=oD
        obtain ⟨ad115,e115,hx115_0⟩:=Kd.at_int (Kd.V_reads' HO_1.out).2.2 0 p115 q115
        cases e115
        have qi115:(0 < l1.length)=True:=eq_true (by omega)
        (try rw [show ((0:Int)).toNat=0 from rfl] at hx115_0)
        (try rw [Addr.add_zero'] at hx115_0)
        replace p115:=eq_true p115
        replace q115:=eq_true q115
        go_wp2_with (first|((with_reducible refine gate_builtin (b:=.append) (xs:=#[.tmp 76,.tmp 82]) rfl ?_);(try (refine gate_guard (by rfl) ?_;dsimp only));at_builtin;refine Kd.R_append (Kd.int .i64) (w0:=w) w.heap.size rfl (.tmp 76) (.tmp 82) 28 2 (.int .i64 0) 8 rfl Try.underlying28 info2 rfl (by decide) (by omega) u6 x6_2 (wrap64 (x8_3 * (rd l1 0))) [.int .i64 (wrap64 (x8_3 * (rd l1 0)))] (fun k_=>(w.heap.size≤k_)) (fun _=>False) rfl rfl ?aP (fun _ hk=>hk.elim) ?aF ?aO ?aB ?aS ?aL ?_;(case aP=>exact rfl);(case aB=>exact bl);(case aF=>exact (fun k_ hk=>(Nat.le_trans (below_size bl) hk)));(case aO=>exact (aR HO_6.out));(case aS=>exact (below_size bl));(case aL=>have:=LMc56.out;omega);intro v117 w57 ho hb hg hat;rw [← Ny116.out] at ho;have n0_:=Aside0.mk (Kd.V_afterv (ok:=(fun k_=>((P0_ k_∨P1_ k_)∨w.heap.size≤k_))) (aV HO_0.out) hg hat);have n1_:=Aside0.mk (Kd.V_afterv (ok:=(fun k_=>((P0_ k_∨P1_ k_)∨w.heap.size≤k_))) (aV HO_1.out) hg hat);have n2_:=Aside0.mk (hb);have n3_:=Aside0.mk (ho);clear HO_0;clear HO_1;clear HB;clear HO_6;have HO_0:=n0_;have HO_1:=n1_;have HB:=n2_;have HO118:=n3_;clear n0_ n1_ n2_ n3_;clear ho hb hg hat))
        first|go_roundg k3|(simp only [← hji35];go_roundg k3)|(simp only [← hji40];go_roundg k3)|(simp only [← hji44];go_roundg k3)
        case measure=>have:=HJ2.out;have:=HK2.out;have:=HK3.out;omega
        case rel=>exact ⟨(y116),(wrap64 (x43_2+1)),rs,(by first|exact H'|(rw [hji35];exact H')|(rw [hji40];exact H')|(rw [hji44];exact H')),⟨by have:=HJ2.out;have:=HK2.out;have:=HK3.out;omega⟩,⟨by (with_reducible repeat (first|apply Kd.V_alloc|apply Kd.V_drewN|apply Kd.V_drew));exact HO_0.out⟩,⟨by (with_reducible repeat (first|apply Kd.V_alloc|apply Kd.V_drewN|apply Kd.V_drew));exact HO_1.out⟩,⟨by (with_reducible repeat (first|apply Kd.R_alloc|apply Kd.R_drewN|apply Kd.R_drew));exact HO118.out⟩,⟨bl⟩⟩
       rw [if_pos c41] at H
       have c41b0:=decide_eq_true c41
       clear c41
       replace H:=iS H;obtain ⟨c42,H⟩:=H
       have c42b0:=decide_eq_true c42
       clear c42
       replace H:=iS H;obtain ⟨c43,H⟩:=H
       have c43b0:=decide_eq_true c43
       clear c43
       obtain ⟨ji44,hji44⟩:∃ j_:Int,(wrap64 (x43_2 - x10_3))=j_:=⟨_,rfl⟩
       replace H:(if 0≤(ji44) then (if (ji44) < (x6_2.length:Int) then ((F167.f k3 x8_3 (wrap64 (-(rd l1 x10_3))) (rd x6_2 (ji44))).bind fun bt113=>(if bt113.2=true then (F85.l1 k3 l0 l1 x6_2 x43_2 bt113.1 (wrap64 (x10_3+1)) ji35 x43_2) else (some (([]:List Int),3)))) else (none)) else (none))=some (r1,r2):=by first|(rw [hji44] at H;exact H)|(simp only [hji44] at H ⊢;exact H)
       have hji44w:(IntKind.i64.wrap (x43_2 - x10_3))=ji44:=(i64_w _).trans hji44
       replace H:=iS H;obtain ⟨c45,H⟩:=H
       have c45b0:=decide_eq_true c45
       clear c45
       replace H:=iS H;obtain ⟨c46,H⟩:=H
       have c46b0:=decide_eq_true c46
       clear c46
       replace H:=Option.bind_eq_some_iff.mp H
       obtain ⟨⟨t113,t114⟩,A470,H⟩:=H
       replace H:(if t114=true then (F85.l1 k3 l0 l1 x6_2 x43_2 t113 (wrap64 (x10_3+1)) ji35 x43_2) else (some (([]:List Int),3)))=some (r1,r2):=H
       have A47:=Aside0.mk A470
       clear A470
       by_cases c48:t114=true
       case neg =>
        replace c48:=Bool.eq_false_iff.mpr c48
        subst c48
        have H1:(some (([]:List Int),3))=some (r1,r2):=by rw [if_neg (show ¬ (false=true) by decide)] at H;exact H
        clear H
        have H:=H1
        clear H1
        simp only [Option.some.injEq,Prod.mk.injEq] at H
        obtain ⟨rfl,rfl⟩:=H
        try go_wp2
        replace HO_0:=Aside0.mk (Kd.V_drew HO_0.out);replace HO_1:=Aside0.mk (Kd.V_drew HO_1.out);replace HO_6:=Aside0.mk (Kd.R_drew HO_6.out);replace HB:=Aside0.mk (below_drew1 HB.out)
        have p111:0≤(x10_3:Int):=oD
        have q111:x10_3 < (l1.length:Int):=oD
        obtain ⟨ad111,e111,hx111_0⟩:=Kd.at_int (Kd.V_reads' HO_1.out).2.2 x10_3 p111 q111
        cases e111
        replace p111:=eq_true p111
        replace q111:=eq_true q111
        obtain ⟨Ao53,co53,eo53⟩:=Kd.R_slice HO_6.out
        (first|subst eo53|(injection eo53 with f1_ f2_ f3_;have f4_:=f1_.symm;have f5_:=f3_.symm;clear f1_ f2_ f3_;subst f4_;subst f5_))
        have p112:0≤((ji44):Int):=oD
        have q112:(ji44) < (x6_2.length:Int):=oD
        obtain ⟨ad112,e112,hx112_0⟩:=Kd.at_int (Kd.R_reads' HO_6.out).2.2 (ji44) p112 q112
        cases e112
        replace p112:=eq_true p112
        replace q112:=eq_true q112
        refine start_ (n:=18) (S:=fun w'=>w'.cell? (ad111.add (x10_3).toNat)=some (.int .i64 (rd l1 x10_3))∧w'.cell? (ad112.add ((ji44)).toNat)=some (.int .i64 (rd x6_2 (ji44)))) (ds:=[]) (ba 18 0) (by kernel_rfl) rfl rfl ⟨hx111_0,hx112_0⟩ (fun hHeld=>?_);refine with_tabW F85.tab15 F85.bits15 (fun HT_ HW_=>?_)
        generalize wr.drew=w52 at HO_0 HO_1 HO_6 HB hx111_0 hx112_0 hHeld ⊢
        refine pu 0 (some 59) (ba 18 1) HT_ (h:=?_)
        refine pu 1 (some 60) (ba 18 3) HT_ (h:=?_)
        refine pu 2 (some 61) (ba 18 7) HT_ (h:=?_)
        refine pu 3 (some 62) (ba 18 15) HT_ (h:=?_)
        refine pu 6 (some 65) (ba 18 79) HT_ (h:=?_)
        refine pu 7 (some 66) (ba 18 207) HT_ (h:=?_)
        refine pu 8 (some 67) (ba 18 463) HT_ (h:=?_)
        refine pu 9 (some 68) (ba 18 975) HT_ (h:=?_)
        refine pu 10 (some 69) (ba 18 1999) HT_ (h:=?_)
        refine ta 4 (some 63) (ba 18 2015) HT_ HW_ hHeld (hy:=Or.inl ⟨by rfl,by rintro w' ⟨s0,s1⟩;go_simp;with_reducible rfl⟩) (h:=?_)
        refine pu 5 (some 64) (ba 18 2047) HT_ (h:=?_)
        refine ta 11 (some 70) (ba 18 4095) HT_ HW_ hHeld (hy:=Or.inl ⟨by rfl,by rintro w' ⟨s0,s1⟩;go_simp;with_reducible rfl⟩) (h:=?_)
        refine one_ (i:=12) (N:=some 71) (ba 18 8191) rfl rfl (one_of HT_.out (by kernel_rfl)) (by decide) (fun K hK=>?_)
        refine goes_ Try.func167 (by kernel_rfl) rfl #[.int .i64 x8_3,.int .i64 (wrap64 (-(rd l1 x10_3))),.int .i64 (rd x6_2 (ji44))] (by rfl) rfl rfl (by (try simp only [List.map_toArray,List.map_cons,List.map_nil]);first|done|(simp only [hji44];rfl)|rfl|(simp only [List.length_drop,List.length_take];rfl)) ?_
        with_reducible refine (F167.calls k3 x8_3 (wrap64 (-(rd l1 x10_3))) (rd x6_2 (ji44)) t113 false _ A47.out).mono ?_
        rintro e w54 ⟨rfl,hb⟩
        have HS0_:=(hb.cell (World.block_lt_of_cell? _ _ (hHeld.1))).trans (hHeld.1)
        have HS1_:=(hb.cell (World.block_lt_of_cell? _ _ (hHeld.2))).trans (hHeld.2)
        refine ⟨_,rfl,?_⟩
        replace HO_0:=Aside0.mk (Kd.V_below (aV HO_0.out) hb);replace HO_1:=Aside0.mk (Kd.V_below (aV HO_1.out) hb);replace HO_6:=Aside0.mk (Kd.R_below (aR HO_6.out) hb);replace HB:=Aside0.mk (below_step bl hb)
        (try clear hb)
        (try clear hb2)
        (try clear hk)
        (try clear hi)
        refine hK.out _ _ ⟨HS0_,HS1_⟩ (fun hHeld=>?_)
        clear hK K
        refine norm_ (a':=?_) ?_ ?_
        rotate_left;· show Act.put _ (some 71) _=_;simp only [Act.put,zI,zZ,zS,i64_w,i32_w];rfl
        refine pu 13 (some 58) (ba 18 16383) HT_ (h:=?_)
        refine pu 14 (some 72) (ba 18 32767) HT_ (h:=?_)
        refine pu 15 (some 73) (ba 18 65535) HT_ (h:=?_)
        refine pu 16 (some 8) (ba 18 131071) HT_ (h:=?_)
        refine pu 17 (some 9) (ba 18 262143) HT_ (h:=?_)
        refine done_ (done_of HT_.out (by kernel_rfl)) ?_
        try go_wp2
        go_ret2
        exact ⟨_,by first|rfl|(simp [errW_none,errW_some]<;>rfl)|(simp only [← hji35,← hji40,← hji44];first|rfl|(simp [errW_none,errW_some]<;>rfl))|(simp [*,errW_none,errW_some]<;>rfl),by first|exact Kd.R_nil _ _ _ _ _|exact Kd.N_nil _ _ _ _ _|exact Kd.V_nil _ _ _ _ _|exact Kd.Q_nil _ _ _ _ _|exact Kd.S_nil _ _ _ _ _,bl⟩
       subst c48
       have H1:(F85.l1 k3 l0 l1 x6_2 x43_2 t113 (wrap64 (x10_3+1)) ji35 x43_2)=some (r1,r2):=by rw [if_pos rfl] at H;exact H
       clear H
       have H:=H1
       clear H1
       have H':=Aside0.mk H
       clear H
       try go_wp2
       replace HO_0:=Aside0.mk (Kd.V_drew HO_0.out);replace HO_1:=Aside0.mk (Kd.V_drew HO_1.out);replace HO_6:=Aside0.mk (Kd.R_drew HO_6.out);replace HB:=Aside0.mk (below_drew1 HB.out)
       have p111:0≤(x10_3:Int):=oD
       have q111:x10_3 < (l1.length:Int):=oD
       obtain ⟨ad111,e111,hx111_0⟩:=Kd.at_int (Kd.V_reads' HO_1.out).2.2 x10_3 p111 q111
       cases e111
       replace p111:=eq_true p111
       replace q111:=eq_true q111
       obtain ⟨Ao50,co50,eo50⟩:=Kd.R_slice HO_6.out
       (first|subst eo50|(injection eo50 with f1_ f2_ f3_;have f4_:=f1_.symm;have f5_:=f3_.symm;clear f1_ f2_ f3_;subst f4_;subst f5_))
       have p112:0≤((ji44):Int):=oD
       have q112:(ji44) < (x6_2.length:Int):=oD
       obtain ⟨ad112,e112,hx112_0⟩:=Kd.at_int (Kd.R_reads' HO_6.out).2.2 (ji44) p112 q112
       cases e112
       replace p112:=eq_true p112
       replace q112:=eq_true q112
       refine start_ (n:=18) (S:=fun w'=>w'.cell? (ad111.add (x10_3).toNat)=some (.int .i64 (rd l1 x10_3))∧w'.cell? (ad112.add ((ji44)).toNat)=some (.int .i64 (rd x6_2 (ji44)))) (ds:=[]) (ba 18 0) (by kernel_rfl) rfl rfl ⟨hx111_0,hx112_0⟩ (fun hHeld=>?_);refine with_tabW F85.tab15 F85.bits15 (fun HT_ HW_=>?_)
       generalize wr.drew=w49 at HO_0 HO_1 HO_6 HB hx111_0 hx112_0 hHeld ⊢
       refine pu 0 (some 59) (ba 18 1) HT_ (h:=?_)
       refine pu 1 (some 60) (ba 18 3) HT_ (h:=?_)
       refine pu 2 (some 61) (ba 18 7) HT_ (h:=?_)
       refine pu 3 (some 62) (ba 18 15) HT_ (h:=?_)
       refine pu 6 (some 65) (ba 18 79) HT_ (h:=?_)
       refine pu 7 (some 66) (ba 18 207) HT_ (h:=?_)
       refine pu 8 (some 67) (ba 18 463) HT_ (h:=?_)
       refine pu 9 (some 68) (ba 18 975) HT_ (h:=?_)
       refine pu 10 (some 69) (ba 18 1999) HT_ (h:=?_)
       refine ta 4 (some 63) (ba 18 2015) HT_ HW_ hHeld (hy:=Or.inl ⟨by rfl,by rintro w' ⟨s0,s1⟩;go_simp;with_reducible rfl⟩) (h:=?_)
       refine pu 5 (some 64) (ba 18 2047) HT_ (h:=?_)
       refine ta 11 (some 70) (ba 18 4095) HT_ HW_ hHeld (hy:=Or.inl ⟨by rfl,by rintro w' ⟨s0,s1⟩;go_simp;with_reducible rfl⟩) (h:=?_)
       refine one_ (i:=12) (N:=some 71) (ba 18 8191) rfl rfl (one_of HT_.out (by kernel_rfl)) (by decide) (fun K hK=>?_)
       refine goes_ Try.func167 (by kernel_rfl) rfl #[.int .i64 x8_3,.int .i64 (wrap64 (-(rd l1 x10_3))),.int .i64 (rd x6_2 (ji44))] (by rfl) rfl rfl (by (try simp only [List.map_toArray,List.map_cons,List.map_nil]);first|done|(simp only [hji44];rfl)|rfl|(simp only [List.length_drop,List.length_take];rfl)) ?_
       with_reducible refine (F167.calls k3 x8_3 (wrap64 (-(rd l1 x10_3))) (rd x6_2 (ji44)) t113 true _ A47.out).mono ?_
       rintro e w51 ⟨rfl,hb⟩
       have HS0_:=(hb.cell (World.block_lt_of_cell? _ _ (hHeld.1))).trans (hHeld.1)
       have HS1_:=(hb.cell (World.block_lt_of_cell? _ _ (hHeld.2))).trans (hHeld.2)
       refine ⟨_,rfl,?_⟩
       replace HO_0:=Aside0.mk (Kd.V_below (aV HO_0.out) hb);replace HO_1:=Aside0.mk (Kd.V_below (aV HO_1.out) hb);replace HO_6:=Aside0.mk (Kd.R_below (aR HO_6.out) hb);replace HB:=Aside0.mk (below_step bl hb)
       (try clear hb)
       (try clear hb2)
       (try clear hk)
       (try clear hi)
       refine hK.out _ _ ⟨HS0_,HS1_⟩ (fun hHeld=>?_)
       clear hK K
       refine norm_ (a':=?_) ?_ ?_
       rotate_left;· show Act.put _ (some 71) _=_;simp only [Act.put,zI,zZ,zS,i64_w,i32_w];rfl
       refine pu 13 (some 58) (ba 18 16383) HT_ (h:=?_)
       refine pu 14 (some 72) (ba 18 32767) HT_ (h:=?_)
       refine pu 15 (some 73) (ba 18 65535) HT_ (h:=?_)
       refine pu 16 (some 8) (ba 18 131071) HT_ (h:=?_)
       refine pu 17 (some 9) (ba 18 262143) HT_ (h:=?_)
       refine done_ (done_of HT_.out (by kernel_rfl)) ?_
       try go_wp2
       first|go_roundg k3|(simp only [← hji35];go_roundg k3)|(simp only [← hji40];go_roundg k3)|(simp only [← hji44];go_roundg k3)
       case measure=>have:=HJ2.out;have:=HK2.out;have:=HK3.out;omega
       case rel=>exact ⟨(t113),(wrap64 (x10_3+1)),rs,rs,(by first|exact H'|(rw [hji35];exact H')|(rw [hji40];exact H')|(rw [hji44];exact H')),⟨by have:=HJ2.out;have:=HK2.out;have:=HK3.out;omega⟩,⟨by (with_reducible repeat (first|apply Kd.V_alloc|apply Kd.V_drewN|apply Kd.V_drew));exact HO_0.out⟩,⟨by (with_reducible repeat (first|apply Kd.V_alloc|apply Kd.V_drewN|apply Kd.V_drew));exact HO_1.out⟩,⟨by (with_reducible repeat (first|apply Kd.R_alloc|apply Kd.R_drewN|apply Kd.R_drew));exact HO_6.out⟩,⟨bl⟩⟩
end Go.Proofs.Ytoebojnhchocaaa.A
/- Set with little white space, by a program. -/
