/- The functions that one law reaches, each as a Lean function, and that Go's call comes to what it says. Condition of each: that the Lean function answers (is not none). -/
import Derived.Test.YtoebojnhchocaaaAx0
namespace Go.Proofs.Ytoebojnhchocaaa.A
open Go.RowKit Go.Proofs.YtoebojnhchocaaaW.PrintWords Go.Proofs.YtoebojnhchocaaaW.PrintLast Go.Proofs.YtoebojnhchocaaaW.PrintMore
attribute [local go_sem] max2_int min2_int max_two min_two max_three min_three max_four min_four   -- for this text's walks alone
set_option linter.unusedVariables false
set_option linter.unusedSimpArgs false
/-! ### F173: function 173 -/
def F173.f (l0:List Int):Option (List Int):=(some (([]:List Int):List Int)).bind fun y101=>(if y101.length+l0.length < 17592186044416 then (some (y101 ++ l0)) else (none))
set_option maxHeartbeats 8000000 in
set_option maxRecDepth 100000 in
theorem F173.calls (A0 : Option Addr) (c0 : Nat) (l0 : List Int) (r : List Int) (w : World) (hr0 : Kd.C (Kd.int .i64) w A0 l0.length l0) (hc0 : l0.length ≤ c0) (h : F173.f l0 = some r) :
  Calls Try.prog 173 #[.slice A0 l0.length c0] w fun e w'=>∃ v0_:Value,e=.returned (v0_)∧Kd.R (Kd.int .i64) 2 w' w.heap.size (fun _=>True) v0_ r∧Below w.heap.size w w':=by
 have HR0:=Aside0.mk hr0
 have HC0:=Aside0.mk hc0
 clear hr0 hc0
 have HB:=Aside0.mk (Below.refl w.heap.size w)
 have H:((some (([]:List Int):List Int)).bind fun y101=>(if y101.length+l0.length < 17592186044416 then (some (y101 ++ l0)) else (none)))=some r:=h
 clear h
 obtain ⟨y101,hy101⟩:∃ y_:List Int,y_=(([]:List Int)):=⟨_,rfl⟩
 replace H:(if y101.length+l0.length < 17592186044416 then (some (y101 ++ l0)) else (none))=some r:=by first|(rw [hy101];with_reducible exact H)|(have H2_:=(Option.bind_some _ _).symm.trans H;rw [hy101];with_reducible exact H2_)|(have H2_:=(Option.bind_some _ _).symm.trans H;with_reducible exact H2_)|with_reducible exact H|(rw [hy101];exact H)|exact H
 have Ny101:=Aside0.mk hy101
 clear hy101
 replace H:=iS H;obtain ⟨c2,H⟩:=H
 have LMc2:=Aside0.mk c2
 clear c2
 obtain ⟨y104,hy104⟩:∃ y_:List Int,y_=(y101 ++ l0):=⟨_,rfl⟩
 replace H:(some y104)=some r:=by first|(rw [hy104];with_reducible exact H)|(have H2_:=(Option.bind_some _ _).symm.trans H;rw [hy104];with_reducible exact H2_)|(have H2_:=(Option.bind_some _ _).symm.trans H;with_reducible exact H2_)|with_reducible exact H|(rw [hy104];exact H)|exact H
 have Ny104:=Aside0.mk hy104
 clear hy104
 obtain rfl:=Option.some.inj H
 go_enter Try.func173,Try.ntmps173
 go_wp2_with (first|((with_reducible refine gate_dst (N:=3) rfl ?_);refine Kd.R_lit (Kd.int .i64) _ 2 ?hg (N:=3) ?hd (xs:=([]:List Int)) (inner:=[]) (ok:=fun _=>True) (okp:=fun _=>True) ?hr ?hp (fun _ hk=>hk) trivial (Below.refl _ _) (Nat.le_refl _) (by simp) ?_;(case hd=>rfl);(case hg=>rfl);(case hr=>first|(go_simp;done)|(go_simp;rfl));(case hp=>exact (Reps.none _ _));intro v102 w3 ho4 hb hg_ hnew_;clear hg_ hnew_;(first|rw [← Ny101.out] at ho4|(simp only [Int.reduceToNat] at ho4;rw [← Ny101.out] at ho4));have HO103:=Aside0.mk (Kd.R_lower ho4 (below_size bl));replace HB:=Aside0.mk (below_step bl hb);clear hb ho4)|((with_reducible refine gate_builtin (b:=.append) (xs:=#[.tmp 3,.tmp 4]) rfl ?_);at_builtin;refine Kd.R_append_rows (Kd.int .i64) (w0:=w) w.heap.size rfl (.tmp 3) (.tmp 4) 28 2 (.int .i64 0) 8 rfl Try.underlying28 info2 rfl (by decide) (by omega) v102 y101 l0 _ _ _ (fun _=>True) (fun _=>False) rfl rfl ?aO ?aR (fun _ _ h=>h) (fun _ h=>h.elim) ?aF ?aB ?aS ?aL ?_;(case aR=>repeat (first|exact (Kd.C_below HR0.out HB.out)|(with_reducible refine Kd.C_alloc ?_ _)|(with_reducible refine Kd.C_drewN ?_ _)|(with_reducible refine Kd.C_drew ?_)));(case aB=>exact bl);(case aF=>exact (fun _ _=>trivial));(case aO=>exact (aR HO103.out));(case aS=>exact (below_size bl));(case aL=>have:=LMc2.out;omega);intro v105 w5 ho hb hg hat;rw [← Ny104.out] at ho;have n0_:=Aside0.mk (hb);have n1_:=Aside0.mk (ho);clear HB;clear HO103;have HB:=n0_;have HO106:=n1_;clear n0_ n1_;clear ho hb hg hat))
 go_ret
 exact ⟨_,by first|rfl|(simp [errW_none,errW_some]<;>rfl)|(simp [*,errW_none,errW_some]<;>rfl),by (with_reducible repeat (first|apply Kd.R_alloc|apply Kd.R_drewN|apply Kd.R_drew));exact HO106.out,bl⟩
/-! ### F160: function 160 -/
def F160.l0 : Nat → List Int → Int → Option (List Int)
 | 0,_,_=>none
 | k+1,x0,x3=>if x3 > 0 then (if 0≤(wrap64 (x3 - 1)) then (if (wrap64 (x3 - 1)) < (x0.length:Int) then (if (rd x0 (wrap64 (x3 - 1)))=0 then (F160.l0 k x0 (wrap64 (x3 - 1))) else (if 0≤x3 then (if x3≤(x0.length:Int) then ((F173.f (x0.take (x3:Int).toNat)).bind fun t103=>(some t103)) else (none)) else (none))) else (none)) else (none)) else (if 0≤x3 then (if x3≤(x0.length:Int) then ((F173.f (x0.take (x3:Int).toNat)).bind fun t107=>(some t107)) else (none)) else (none))
def F160.f (k:Nat) (l0:List Int):Option (List Int):=F160.l0 k l0 (l0.length:Int)
theorem F160.mono_l : ∀ k, (∀ y0 y1, LeO (F160.l0 k y0 y1) (F160.l0 (k + 1) y0 y1))
 | 0=>fun _ _ r h=>by simp [F160.l0] at h
 | k+1=>by
  have ih0:=F160.mono_l k
  ·intro y0 y1
   unfold F160.l0
   repeat' first
    | (with_reducible first|exact ih0 _ _|exact LeO.refl _|exact LeO.none _|refine LeO.ite ?_ ?_|refine LeO.bind ?_ (fun _=>?_))
    | exact ih0 _ _|exact LeO.none _|refine LeO.ite ?_ ?_|refine LeO.bind ?_ (fun _=>?_)
theorem F160.mono:∀ a0 k,LeO (F160.f k a0) (F160.f (k+1) a0):=by
 intro a0 k
 have ih0:=F160.mono_l k
 unfold F160.f
 repeat' first
  | (with_reducible first|exact ih0 _ _|exact LeO.refl _|exact LeO.none _|refine LeO.ite ?_ ?_|refine LeO.bind ?_ (fun _=>?_))
  | exact ih0 _ _|exact LeO.none _|refine LeO.ite ?_ ?_|refine LeO.bind ?_ (fun _=>?_)
set_option maxHeartbeats 8000000 in
set_option maxRecDepth 100000 in
theorem F160.calls (k : Nat) (A0 : Option Addr) (c0 : Nat) (l0 : List Int) (r : List Int) (w : World) (hr0 : Kd.C (Kd.int .i64) w A0 l0.length l0) (hc0 : l0.length ≤ c0) (h : F160.f k l0 = some r) :
  Calls Try.prog 160 #[.slice A0 l0.length c0] w fun e w'=>∃ v0_:Value,e=.returned (v0_)∧Kd.R (Kd.int .i64) 2 w' w.heap.size (fun _=>True) v0_ r∧Below w.heap.size w w':=by
 have HR0:=Aside0.mk hr0
 have HC0:=Aside0.mk hc0
 clear hr0 hc0
 have HB:=Aside0.mk (Below.refl w.heap.size w)
 have H:(F160.l0 k l0 (l0.length:Int))=some r:=h
 clear h
 have H':=Aside0.mk H
 clear H
 go_enter Try.func160,Try.ntmps160
 go_wp2
 go_loopg [3] k (fun kq v3 w'=>∃ (x3_1:Int),v3=.int .i64 x3_1∧Aside0 (F160.l0 kq l0 x3_1=some r)∧Aside0 (kq≤k)∧Aside0 (Below w.heap.size w w'))
 case atStart=>exact ⟨((l0.length:Int)),rs,H',⟨Nat.le_refl _⟩,⟨bl⟩⟩
 case round =>
  clear H'
  (try clear c1)
  obtain ⟨x3_1,rfl,HA,HK1,HB⟩:=hrel
  cases gk with
  | zero=>exact absurd HA.out (by simp [F160.l0])
  | succ k1 =>
   have H:=HA.out
   clear HA
   simp only [F160.l0] at H
   by_cases c2:x3_1 > 0
   case neg =>
    rw [if_neg c2] at H
    have c2b0:decide (0 < x3_1)=false:=decide_eq_false c2
    clear c2
    replace H:=iS H;obtain ⟨c12,H⟩:=H
    have c12b0:=eq_true c12
    have c12b1:=decide_eq_true c12
    clear c12
    replace H:=iS H;obtain ⟨c13,H⟩:=H
    have c13b0:=eq_true c13
    have c13b1:=decide_eq_true c13
    clear c13
    replace H:=Option.bind_eq_some_iff.mp H
    obtain ⟨t107,A140,H⟩:=H
    replace H:(some t107)=some r:=H
    have A14:=Aside0.mk A140
    clear A140
    obtain rfl:=Option.some.inj H
    obtain ⟨i015,hi015,_,hsz15,_⟩:=info_parts info2
    obtain ⟨hcut15,hA15,hC15⟩:=print_take_of (P:=Try.prog) (Value.int .i64) 0 28 2 .i64 Try.underlying28 hi015 hsz15 A0 c0 l0 x3_1 oD oD HC0.out
    have HR106:=Aside0.mk (Kd.C_of_reads (h1:=fun _=>rfl) (hA15 _ (Kd.reads_of_C HR0.out)))
    have HC106:=Aside0.mk hC15
    clear hA15 hC15 hi015 hsz15
    go_wp2_with (first|((with_reducible refine gate_callee (f:=173) rfl ?_);refine goesL_ (some 21) rfl rfl Try.func173 (by kernel_rfl) rfl #[.slice A0 (l0.take (x3_1:Int).toNat).length c0] rfl (by (try simp only [List.map_toArray,List.map_cons,List.map_nil]);first|done|(rw [show (l0.take (x3_1:Int).toNat).length=x3_1.toNat from (by rw [List.length_take];have h_:(x3_1:Int)≤(l0.length:Int):=oD;omega)]<;>rfl)|rfl|(simp only [List.length_drop,List.length_take];rfl)) ?_;(with_reducible refine (F173.calls _ _ (l0.take (x3_1:Int).toNat) t107 _ ?side1 ?side2 A14.out).mono ?_);(case side1=>exact aC (Kd.C_below HR106.out HB.out));(case side2=>exact HC106.out);rintro e w16 ⟨v108,rfl,ho0,hb⟩;refine ⟨_,rfl,?_⟩;have HO109:=Aside0.mk (Kd.R_lower ho0 (below_size bl));replace HB:=Aside0.mk (below_step bl hb);(try clear hb);(try clear hb2);(try clear hk);(try clear hi);(try clear ho0)))
    go_ret
    exact ⟨_,by first|rfl|(simp [errW_none,errW_some]<;>rfl)|(simp [*,errW_none,errW_some]<;>rfl),by (with_reducible repeat (first|apply Kd.R_alloc|apply Kd.R_drewN|apply Kd.R_drew));exact HO109.out,bl⟩
   rw [if_pos c2] at H
   have c2b0:=decide_eq_true c2
   clear c2
   obtain ⟨ji3,hji3⟩:∃ j_:Int,(wrap64 (x3_1 - 1))=j_:=⟨_,rfl⟩
   replace H:(if 0≤(ji3) then (if (ji3) < (l0.length:Int) then (if (rd l0 (ji3))=0 then (F160.l0 k1 l0 ji3) else (if 0≤x3_1 then (if x3_1≤(l0.length:Int) then ((F173.f (l0.take (x3_1:Int).toNat)).bind fun t103=>(some t103)) else (none)) else (none))) else (none)) else (none))=some r:=by first|(rw [hji3] at H;exact H)|(simp only [hji3] at H ⊢;exact H)
   have hji3w:(IntKind.i64.wrap (x3_1 - 1))=ji3:=(i64_w _).trans hji3
   replace H:=iS H;obtain ⟨c4,H⟩:=H
   have c4b0:=decide_eq_true c4
   clear c4
   replace H:=iS H;obtain ⟨c5,H⟩:=H
   have c5b0:=decide_eq_true c5
   clear c5
   by_cases c6:(rd l0 (ji3))=0
   case neg =>
    rw [if_neg c6] at H
    have c6b0:((rd l0 (ji3)) == 0)=false:=beq_eq_false_iff_ne.mpr c6
    have c6b1:((rd l0 (ji3)) != 0)=true:=bne_iff_ne.mpr c6
    replace H:=iS H;obtain ⟨c7,H⟩:=H
    have c7b0:=eq_true c7
    have c7b1:=decide_eq_true c7
    clear c7
    replace H:=iS H;obtain ⟨c8,H⟩:=H
    have c8b0:=eq_true c8
    have c8b1:=decide_eq_true c8
    clear c8
    replace H:=Option.bind_eq_some_iff.mp H
    obtain ⟨t103,A90,H⟩:=H
    replace H:(some t103)=some r:=H
    have A9:=Aside0.mk A90
    clear A90
    obtain rfl:=Option.some.inj H
    have p101:0≤((ji3):Int):=oD
    have q101:(ji3) < (l0.length:Int):=oD
    obtain ⟨ad101,e101,hx101_0⟩:=Kd.at_int HR0.out (ji3) p101 q101
    cases e101
    replace hx101_0:=hbc HB hx101_0
    replace p101:=eq_true p101
    replace q101:=eq_true q101
    obtain ⟨i010,hi010,_,hsz10,_⟩:=info_parts info2
    obtain ⟨hcut10,hA10,hC10⟩:=print_take_of (P:=Try.prog) (Value.int .i64) 0 28 2 .i64 Try.underlying28 hi010 hsz10 (some ad101) c0 l0 x3_1 oD oD HC0.out
    have HR102:=Aside0.mk (Kd.C_of_reads (h1:=fun _=>rfl) (hA10 _ (Kd.reads_of_C HR0.out)))
    have HC102:=Aside0.mk hC10
    clear hA10 hC10 hi010 hsz10
    go_wp2_with (first|((with_reducible refine gate_callee (f:=173) rfl ?_);refine goesL_ (some 21) rfl rfl Try.func173 (by kernel_rfl) rfl #[.slice (some ad101) (l0.take (x3_1:Int).toNat).length c0] rfl (by (try simp only [List.map_toArray,List.map_cons,List.map_nil]);first|done|(rw [show (l0.take (x3_1:Int).toNat).length=x3_1.toNat from (by rw [List.length_take];have h_:(x3_1:Int)≤(l0.length:Int):=oD;omega)]<;>rfl)|rfl|(simp only [List.length_drop,List.length_take];rfl)) ?_;(with_reducible refine (F173.calls _ _ (l0.take (x3_1:Int).toNat) t103 _ ?side1 ?side2 A9.out).mono ?_);(case side1=>exact aC (Kd.C_below HR102.out HB.out));(case side2=>exact HC102.out);rintro e w11 ⟨v104,rfl,ho0,hb⟩;refine ⟨_,rfl,?_⟩;have HO105:=Aside0.mk (Kd.R_lower ho0 (below_size bl));replace HB:=Aside0.mk (below_step bl hb);(try clear hb);(try clear hb2);(try clear hk);(try clear hi);(try clear ho0)))
    go_ret
    exact ⟨_,by first|rfl|(simp [errW_none,errW_some]<;>rfl)|(simp only [← hji3];first|rfl|(simp [errW_none,errW_some]<;>rfl))|(simp [*,errW_none,errW_some]<;>rfl),by (with_reducible repeat (first|apply Kd.R_alloc|apply Kd.R_drewN|apply Kd.R_drew));exact HO105.out,bl⟩
   rw [if_pos c6] at H
   have c6b0:((rd l0 (ji3)) == 0)=true:=beq_iff_eq.mpr c6
   have c6b1:((rd l0 (ji3)) != 0)=false:=bne_eq_false_iff_eq.mpr c6
   clear c6
   have H':=Aside0.mk H
   clear H
   have p101:0≤((ji3):Int):=oD
   have q101:(ji3) < (l0.length:Int):=oD
   obtain ⟨ad101,e101,hx101_0⟩:=Kd.at_int HR0.out (ji3) p101 q101
   cases e101
   replace hx101_0:=hbc HB hx101_0
   replace p101:=eq_true p101
   replace q101:=eq_true q101
   go_wp2
   first|go_roundg k1|(simp only [← hji3];go_roundg k1)
   case measure=>have:=HK1.out;omega
   case rel=>exact ⟨(ji3),(by first|rfl|(simp;done)|(simp only [← hji3]<;>(first|rfl|simp))|(simp [*];done)),(by first|exact H'|(rw [hji3];exact H')),⟨by have:=HK1.out;omega⟩,⟨bl⟩⟩
/-! ### F159: function 159 -/
mutual
def F159.j0 : Nat → List Int → List Int → Bool → Option (List Int)
 | 0,_,_,_=>none
 | k+1,x0,x1,x15=>if x15=true then (some (([]:List Int))) else (if 0≤(wrap64 ((wrap64 ((x0.length:Int)+(x1.length:Int))) - 1)) then (if (wrap64 ((wrap64 ((x0.length:Int)+(x1.length:Int))) - 1):Int).toNat≤35184372088832 then (F159.l0 k x0 x1 (List.replicate (wrap64 ((wrap64 ((x0.length:Int)+(x1.length:Int))) - 1):Int).toNat 0) 0) else (none)) else (none))
def F159.l0 : Nat → List Int → List Int → List Int → Int → Option (List Int)
 | 0,_,_,_,_=>none
 | k+1,x0,x1,x5,x6=>if x6 < (x0.length:Int) then (F159.l1 k x0 x1 x5 x6 0) else ((F160.f k x5).bind fun t107=>(some t107))
def F159.l1 : Nat → List Int → List Int → List Int → Int → Int → Option (List Int)
 | 0,_,_,_,_,_=>none
 | k+1,x0,x1,x5,x6,x7=>if x7 < (x1.length:Int) then (if 0≤(wrap64 (x6+x7)) then (if (wrap64 (x6+x7)) < (x5.length:Int) then (if 0≤x6 then (if x6 < (x0.length:Int) then (if 0≤x7 then (F159.l1 k x0 x1 (x5.set ((wrap64 (x6+x7)):Int).toNat (wrap64 ((rd x5 (wrap64 (x6+x7)))+(wrap64 ((rd x0 x6) * (rd x1 x7)))))) x6 (wrap64 (x7+1))) else (none)) else (none)) else (none)) else (none)) else (none)) else (F159.l0 k x0 x1 x5 (wrap64 (x6+1)))
end
def F159.f (k:Nat) (l0:List Int) (l1:List Int):Option (List Int):=if (l0.length:Int)=0 then (F159.j0 k l0 l1 true) else (F159.j0 k l0 l1 ((l1.length:Int) == 0))
theorem F159.mono_l : ∀ k, (∀ y0 y1 y2, LeO (F159.j0 k y0 y1 y2) (F159.j0 (k + 1) y0 y1 y2)) ∧ (∀ y0 y1 y2 y3, LeO (F159.l0 k y0 y1 y2 y3) (F159.l0 (k + 1) y0 y1 y2 y3)) ∧ (∀ y0 y1 y2 y3 y4, LeO (F159.l1 k y0 y1 y2 y3 y4) (F159.l1 (k + 1) y0 y1 y2 y3 y4))
 | 0=>⟨fun _ _ _ r h=>by simp [F159.j0] at h,fun _ _ _ _ r h=>by simp [F159.l0] at h,fun _ _ _ _ _ r h=>by simp [F159.l1] at h⟩
 | k+1=>by
  obtain ⟨ih0,ih1,ih2⟩:=F159.mono_l k
  refine ⟨?_, ?_, ?_⟩ <;> intros <;> (first | unfold F159.j0 | unfold F159.l0 | unfold F159.l1) <;> repeat' first
   | (with_reducible first|exact ih0 _ _ _|exact ih1 _ _ _ _|exact ih2 _ _ _ _ _|exact F160.mono _ _|exact LeO.refl _|exact LeO.none _|refine LeO.ite ?_ ?_|refine LeO.bind ?_ (fun _=>?_))
   | exact ih0 _ _ _|exact ih1 _ _ _ _|exact ih2 _ _ _ _ _|exact F160.mono _ _|exact LeO.none _|refine LeO.ite ?_ ?_|refine LeO.bind ?_ (fun _=>?_)
theorem F159.mono:∀ a0 a1 k,LeO (F159.f k a0 a1) (F159.f (k+1) a0 a1):=by
 intro a0 a1 k
 obtain ⟨ih0,ih1,ih2⟩:=F159.mono_l k
 unfold F159.f
 repeat' first
  | (with_reducible first|exact ih0 _ _ _|exact ih1 _ _ _ _|exact ih2 _ _ _ _ _|exact F160.mono _ _|exact LeO.refl _|exact LeO.none _|refine LeO.ite ?_ ?_|refine LeO.bind ?_ (fun _=>?_))
  | exact ih0 _ _ _|exact ih1 _ _ _ _|exact ih2 _ _ _ _ _|exact F160.mono _ _|exact LeO.none _|refine LeO.ite ?_ ?_|refine LeO.bind ?_ (fun _=>?_)
def F159.T10:Bool × List (List Nat × List Nat):=(true,[([],[]),([],[]),([],[]),([1,2],[1,2]),([],[]),([],[]),([],[]),([5,6],[5,6]),([4,7],[4,7]),([8],[8]),([],[]),([],[]),([10,11],[10,11]),([12],[12]),([],[]),([],[]),([14,15],[14,15]),([16],[16]),([13,17],[13,17]),([9,18],[9,18]),([0,3,0,1,2,3,4,5,6,7,8,9,10,11,12,13,14,15,16,17,18,19],[0,3]),([20,19,0,1,2,3,4,5,6,7,8,9,10,11,12,13,14,15,16,17,18,19],[19,20])])
def F159.B10:List Nat:=[0,0,0,6,0,0,0,96,240,496,0,0,3072,7168,0,0,49152,114688,261120,524272,1048575,2097151]
theorem F159.tab10:rtab .any (opsOf Try.f159 10)=F159.T10:=by kernel_rfl
theorem F159.bits10:waitsOk F159.T10.2 F159.B10=true:=by kernel_rfl
set_option maxHeartbeats 8000000 in
set_option maxRecDepth 100000 in
theorem F159.calls (k : Nat) (A0 : Option Addr) (c0 : Nat) (l0 : List Int) (A1 : Option Addr) (c1 : Nat) (l1 : List Int) (r : List Int) (w : World) (hr0 : Kd.C (Kd.int .i64) w A0 l0.length l0) (hc0 : l0.length ≤ c0) (hr1 : Kd.C (Kd.int .i64) w A1 l1.length l1) (hc1 : l1.length ≤ c1) (h : F159.f k l0 l1 = some r) :
  Calls Try.prog 159 #[.slice A0 l0.length c0,.slice A1 l1.length c1] w fun e w'=>∃ v0_:Value,e=.returned (v0_)∧Kd.R (Kd.int .i64) 2 w' w.heap.size (fun _=>True) v0_ r∧Below w.heap.size w w':=by
 have HR0:=Aside0.mk hr0
 have HC0:=Aside0.mk hc0
 clear hr0 hc0
 have HR1:=Aside0.mk hr1
 have HC1:=Aside0.mk hc1
 clear hr1 hc1
 have HB:=Aside0.mk (Below.refl w.heap.size w)
 have H:(if (l0.length:Int)=0 then (F159.j0 k l0 l1 true) else (F159.j0 k l0 l1 ((l1.length:Int) == 0)))=some r:=h
 clear h
 have HC3:=Aside0.mk H
 clear H
 go_enter Try.func159,Try.ntmps159
 go_upto_region 1 with (fail)
 go_cut [15] (fun v15 wc=>∃ (kq:Nat) (x15_2:Bool),v15=.bool x15_2∧Aside0 (F159.j0 kq l0 l1 x15_2=some r)∧Aside0 (kq≤k)∧Aside0 (Below w.heap.size w wc))
 case first =>
  have H:=HC3.out
  clear HC3
  by_cases c4:(l0.length:Int)=0
  case neg =>
   rw [if_neg c4] at H
   have c4b0:((l0.length:Int) == 0)=false:=beq_eq_false_iff_ne.mpr c4
   have c4b1:((l0.length:Int) != 0)=true:=bne_iff_ne.mpr c4
   have c4b2:¬ (l0=[]):=fun h_=>c4 (by rw [h_];rfl)
   (first|rw [c4b0]|(simp only [i64_w,i32_w];rw [c4b0])|skip)
   have H':=Aside0.mk H
   clear H
   go_wp2
   go_meet
   case rel=>exact ⟨_,(((l1.length:Int) == 0)),rs,(by first|exact H'|(rw [hji15];exact H')|(rw [hji8];exact H')),⟨by first|omega|exact Nat.le_refl _⟩,⟨bl⟩⟩
  rw [if_pos c4] at H
  have c4b0:((l0.length:Int) == 0)=true:=beq_iff_eq.mpr c4
  have c4b1:((l0.length:Int) != 0)=false:=bne_eq_false_iff_eq.mpr c4
  clear c4
  (first|rw [c4b0]|(simp only [i64_w,i32_w];rw [c4b0])|skip)
  have H':=Aside0.mk H
  clear H
  go_wp2
  go_meet
  case rel=>exact ⟨_,(true),rs,(by first|exact H'|(rw [hji15];exact H')|(rw [hji8];exact H')),⟨by first|omega|exact Nat.le_refl _⟩,⟨bl⟩⟩
 case rest =>
  clear HC3
  (try clear c1);(try clear p2);(try clear c4);(try clear c4b0);(try clear c4b1);(try clear c4b2)
  obtain ⟨kq,x15_2,rfl,HA,HJ2,HB⟩:=hcut
  cases kq with
  | zero=>exact absurd HA.out (by simp [F159.j0])
  | succ kj2 =>
   have H:=HA.out
   clear HA
   simp only [F159.j0] at H
   by_cases c5:x15_2=true
   case neg =>
    replace c5:=Bool.eq_false_iff.mpr c5
    subst c5
    have H1:(if 0≤(wrap64 ((wrap64 ((l0.length:Int)+(l1.length:Int))) - 1)) then (if (wrap64 ((wrap64 ((l0.length:Int)+(l1.length:Int))) - 1):Int).toNat≤35184372088832 then (F159.l0 kj2 l0 l1 (List.replicate (wrap64 ((wrap64 ((l0.length:Int)+(l1.length:Int))) - 1):Int).toNat 0) 0) else (none)) else (none))=some r:=by rw [if_neg (show ¬ (false=true) by decide)] at H;exact H
    clear H
    have H:=H1
    clear H1
    obtain ⟨ji8,hji8⟩:∃ j_:Int,(wrap64 ((wrap64 ((l0.length:Int)+(l1.length:Int))) - 1))=j_:=⟨_,rfl⟩
    replace H:(if 0≤(ji8) then (if (ji8:Int).toNat≤35184372088832 then (F159.l0 kj2 l0 l1 (List.replicate (ji8:Int).toNat 0) 0) else (none)) else (none))=some r:=by first|(rw [hji8] at H;exact H)|(simp only [hji8] at H ⊢;exact H)
    have hji8w:(IntKind.i64.wrap ((wrap64 ((l0.length:Int)+(l1.length:Int))) - 1))=ji8:=(i64_w _).trans hji8
    replace H:=iS H;obtain ⟨c9,H⟩:=H
    have c9b0:=eq_true c9
    have c9b1:=decide_eq_true c9
    clear c9
    replace H:=iS H;obtain ⟨c10,H⟩:=H
    have c10b0:=eq_true c10
    have c10b1:=decide_eq_true c10
    clear c10
    obtain ⟨y104,hy104⟩:∃ y_:List Int,y_=(List.replicate (ji8:Int).toNat 0):=⟨_,rfl⟩
    replace H:(F159.l0 kj2 l0 l1 y104 0)=some r:=by first|(rw [hy104];with_reducible exact H)|(have H2_:=(Option.bind_some _ _).symm.trans H;rw [hy104];with_reducible exact H2_)|(have H2_:=(Option.bind_some _ _).symm.trans H;with_reducible exact H2_)|with_reducible exact H|(rw [hy104];exact H)|exact H
    have Ny104:=Aside0.mk hy104
    clear hy104
    have H':=Aside0.mk H
    clear H
    go_wp2_with (first|((with_reducible refine gate_dst (N:=23) rfl ?_);(try (refine gate_guard (by rfl) ?_;dsimp only));refine Kd.R_make (Kd.int .i64) _ 2 rfl (N:=23) rfl 28 _ _ rfl ji8 rfl rfl Try.underlying28 (.int .i64 0) 8 info2 rfl (by decide) (by omega) 0 (ok:=fun _=>True) (okp:=fun _=>True) rfl (fun _ hk=>hk) trivial oD (Nat.le_trans (Nat.mul_le_mul_right _ (oD:ji8.toNat≤35184372088832)) (by omega)) (Below.refl _ _) (Nat.le_refl _) ?_;intro v105 w11 ho12 hb hg_ hnew_;clear hg_ hnew_;(first|rw [← Ny104.out] at ho12|(simp only [Int.reduceToNat] at ho12;rw [← Ny104.out] at ho12));have HO106:=Aside0.mk (Kd.R_lower ho12 (below_size bl));replace HB:=Aside0.mk (below_step bl hb);clear hb ho12))
    go_loopg [6] kj2 (fun kq v6 w'=>∃ (x5_2:List Int) (x6_2:Int),v6=.int .i64 x6_2∧Aside0 (F159.l0 kq l0 l1 x5_2 x6_2=some r)∧Aside0 (kq≤kj2)∧Aside0 (Kd.R (Kd.int .i64) 2 w' w.heap.size (fun _=>True) v105 x5_2)∧Aside0 (Below w.heap.size w w'))
    case atStart=>exact ⟨(y104),(0),rs,H',⟨Nat.le_refl _⟩,⟨by (with_reducible repeat (first|apply Kd.R_alloc|apply Kd.R_drewN|apply Kd.R_drew));exact HO106.out⟩,⟨bl⟩⟩
    case round =>
     clear H'
     (try clear c1);(try clear p2);(try clear c4);(try clear c4b0);(try clear c4b1);(try clear c4b2);(try clear c5);(try clear p6);(try clear c9);(try clear c9b0);(try clear c9b1);(try clear c10);(try clear c10b0);(try clear c10b1);(try clear p2)
     obtain ⟨x5_2,x6_2,rfl,HA,HK2,HO_5,HB⟩:=hrel
     cases gk with
     | zero=>exact absurd HA.out (by simp [F159.l0])
     | succ k2 =>
      have H:=HA.out
      clear HA
      simp only [F159.l0] at H
      by_cases c13:x6_2 < (l0.length:Int)
      case neg =>
       rw [if_neg c13] at H
       have c13b0:decide (x6_2 < (l0.length:Int))=false:=decide_eq_false c13
       clear c13
       replace H:=Option.bind_eq_some_iff.mp H
       obtain ⟨t107,A250,H⟩:=H
       replace H:(some t107)=some r:=H
       have A25:=Aside0.mk A250
       clear A250
       obtain rfl:=Option.some.inj H
       obtain ⟨Ao26,co26,eo26⟩:=Kd.R_slice HO_5.out
       subst eo26
       go_wp2_with (first|((with_reducible refine gate_callee (f:=160) rfl ?_);refine goesL_ (some 58) rfl rfl Try.func160 (by kernel_rfl) rfl #[.slice Ao26 x5_2.length co26] rfl gm ?_;(with_reducible refine (F160.calls k2 _ _ x5_2 t107 _ ?side1 ?side2 A25.out).mono ?_);(case side1=>exact aC ((Kd.R_reads' HO_5.out).2.2));(case side2=>exact (Kd.R_reads' HO_5.out).2.1);rintro e w27 ⟨v108,rfl,ho0,hb⟩;refine ⟨_,rfl,?_⟩;have HO109:=Aside0.mk (Kd.R_lower (Kd.R_new' ho0 (Kd.R_lt (aR HO_5.out))) (below_size bl));replace HO_5:=Aside0.mk (Kd.R_elder' (aR HO_5.out) (Kd.R_base ho0) hb);replace HB:=Aside0.mk (below_step bl hb);(try clear hb);(try clear hb2);(try clear hk);(try clear hi);(try clear ho0)))
       go_ret
       exact ⟨_,by first|rfl|(simp [errW_none,errW_some]<;>rfl)|(simp only [← hji8];first|rfl|(simp [errW_none,errW_some]<;>rfl))|(simp [*,errW_none,errW_some]<;>rfl),by (with_reducible repeat (first|apply Kd.R_alloc|apply Kd.R_drewN|apply Kd.R_drew));exact Kd.R_mono HO109.out (fun _ hk=>trivial),bl⟩
      rw [if_pos c13] at H
      have c13b0:=decide_eq_true c13
      clear c13
      have H':=Aside0.mk H
      clear H
      go_wp2
      go_loopg [7] k2 (fun kq v7 w'=>∃ (x5_3:List Int) (x7_3:Int),v7=.int .i64 x7_3∧Aside0 (F159.l1 kq l0 l1 x5_3 x6_2 x7_3=some r)∧Aside0 (kq≤k2)∧Aside0 (Kd.R (Kd.int .i64) 2 w' w.heap.size (fun _=>True) v105 x5_3)∧Aside0 (Below w.heap.size w w'))
      case atStart=>exact ⟨(x5_2),(0),rs,H',⟨Nat.le_refl _⟩,⟨by (with_reducible repeat (first|apply Kd.R_alloc|apply Kd.R_drewN|apply Kd.R_drew));exact HO_5.out⟩,⟨bl⟩⟩
      case round =>
       clear H'
       (try clear c1);(try clear p2);(try clear c4);(try clear c4b0);(try clear c4b1);(try clear c4b2);(try clear c5);(try clear p6);(try clear c9);(try clear c9b0);(try clear c9b1);(try clear c10);(try clear c10b0);(try clear c10b1);(try clear c13);(try clear c13b0);(try clear p2);(try clear p6)
       obtain ⟨x5_3,x7_3,rfl,HA,HK3,HO_5,HB⟩:=hrel
       cases gk with
       | zero=>exact absurd HA.out (by simp [F159.l1])
       | succ k3 =>
        have H:=HA.out
        clear HA
        simp only [F159.l1] at H
        by_cases c14:x7_3 < (l1.length:Int)
        case neg =>
         rw [if_neg c14] at H
         have c14b0:decide (x7_3 < (l1.length:Int))=false:=decide_eq_false c14
         clear c14
         have H':=Aside0.mk H
         clear H
         go_wp2
         first|go_roundg k3|(simp only [← hji15];go_roundg k3)|(simp only [← hji8];go_roundg k3)
         case measure=>have:=HJ2.out;have:=HK2.out;have:=HK3.out;omega
         case rel=>exact ⟨(x5_3),(wrap64 (x6_2+1)),rs,(by first|exact H'|(rw [hji15];exact H')|(rw [hji8];exact H')),⟨by have:=HJ2.out;have:=HK2.out;have:=HK3.out;omega⟩,⟨by (with_reducible repeat (first|apply Kd.R_alloc|apply Kd.R_drewN|apply Kd.R_drew));exact HO_5.out⟩,⟨bl⟩⟩
        rw [if_pos c14] at H
        have c14b0:=decide_eq_true c14
        clear c14
        obtain ⟨ji15,hji15⟩:∃ j_:Int,(wrap64 (x6_2+x7_3))=j_:=⟨_,rfl⟩
        replace H:(if 0≤(ji15) then (if (ji15) < (x5_3.length:Int) then (if 0≤x6_2 then (if x6_2 < (l0.length:Int) then (if 0≤x7_3 then (F159.l1 k3 l0 l1 (x5_3.set ((ji15):Int).toNat (wrap64 ((rd x5_3 (ji15))+(wrap64 ((rd l0 x6_2) * (rd l1 x7_3)))))) x6_2 (wrap64 (x7_3+1))) else (none)) else (none)) else (none)) else (none)) else (none))=some r:=by first|(rw [hji15] at H;exact H)|(simp only [hji15] at H ⊢;exact H)
        have hji15w:(IntKind.i64.wrap (x6_2+x7_3))=ji15:=(i64_w _).trans hji15
        replace H:=iS H;obtain ⟨c16,H⟩:=H
        have c16b0:=decide_eq_true c16
        clear c16
        replace H:=iS H;obtain ⟨c17,H⟩:=H
        have c17b0:=decide_eq_true c17
        clear c17
        replace H:=iS H;obtain ⟨c18,H⟩:=H
        have c18b0:=decide_eq_true c18
        clear c18
        replace H:=iS H;obtain ⟨c19,H⟩:=H
        have c19b0:=decide_eq_true c19
        clear c19
        replace H:=iS H;obtain ⟨c20,H⟩:=H
        have c20b0:=decide_eq_true c20
        clear c20
        obtain ⟨y113,hy113⟩:∃ y_:List Int,y_=(x5_3.set ((ji15):Int).toNat (wrap64 ((rd x5_3 (ji15))+(wrap64 ((rd l0 x6_2) * (rd l1 x7_3)))))):=⟨_,rfl⟩
        replace H:(F159.l1 k3 l0 l1 y113 x6_2 (wrap64 (x7_3+1)))=some r:=by first|(rw [hy113];with_reducible exact H)|(have H2_:=(Option.bind_some _ _).symm.trans H;rw [hy113];with_reducible exact H2_)|(have H2_:=(Option.bind_some _ _).symm.trans H;with_reducible exact H2_)|with_reducible exact H|(rw [hy113];exact H)|exact H
        have Ny113:=Aside0.mk hy113
        clear hy113
        have H':=Aside0.mk H
        clear H
        try go_wp2
        replace HO_5:=Aside0.mk (Kd.R_drew HO_5.out);replace HB:=Aside0.mk (below_drew1 HB.out)
        obtain ⟨Ao23,co23,eo23⟩:=Kd.R_slice HO_5.out
        (first|subst eo23|(injection eo23 with f1_ f2_ f3_;have f4_:=f1_.symm;have f5_:=f3_.symm;clear f1_ f2_ f3_;subst f4_;subst f5_))
        have p110:0≤((ji15):Int):=oD
        have q110:(ji15) < (x5_3.length:Int):=oD
        obtain ⟨ad110,e110,hx110_0⟩:=Kd.at_int (Kd.R_reads' HO_5.out).2.2 (ji15) p110 q110
        cases e110
        replace p110:=eq_true p110
        replace q110:=eq_true q110
        have p111:0≤(x6_2:Int):=oD
        have q111:x6_2 < (l0.length:Int):=oD
        obtain ⟨ad111,e111,hx111_0⟩:=Kd.at_int HR0.out x6_2 p111 q111
        have hw111_0:=hx111_0
        cases e111
        replace hx111_0:=hbc HB hx111_0
        replace p111:=eq_true p111
        replace q111:=eq_true q111
        have p112:0≤(x7_3:Int):=oD
        have q112:x7_3 < (l1.length:Int):=oD
        obtain ⟨ad112,e112,hx112_0⟩:=Kd.at_int HR1.out x7_3 p112 q112
        have hw112_0:=hx112_0
        cases e112
        replace hx112_0:=hbc HB hx112_0
        replace p112:=eq_true p112
        replace q112:=eq_true q112
        have p21:0≤((ji15):Int):=oD
        have q21:((ji15):Int) < ((x5_3.length:Int):Int):=oD
        obtain ⟨go21,co21,eo21,gb21,gl21,cl21,HG21⟩:=Kd.R_form HO_5.out (by omega)
        (first|cases eo21|(injection eo21 with ea_ en_ ec_;(first|subst ea_|(injection ea_ with ea_;subst ea_));subst ec_;clear en_))
        have GB21:=Aside0.mk gb21
        have GG21:=Aside0.mk HG21
        clear gb21 gl21 HG21
        (first|simp only [add_plain] at hx110_0|skip)
        obtain ⟨hx21_0,hf21_0⟩:=Kd.R_celln 0 HO_5.out ((ji15):Int) p21 q21
        replace p21:=eq_true p21
        replace q21:=eq_true q21
        have HP24:=Kd.R_putn HO_5.out ((ji15):Int) (wrap64 ((rd x5_3 (ji15))+(wrap64 ((rd l0 x6_2) * (rd l1 x7_3)))))
        rw [← Ny113.out] at HP24
        have HQ24:=Aside0.mk HP24
        clear HP24
        refine start_ (n:=22) (S:=fun w'=>w'.cell? ⟨go21,((ji15)).toNat,none⟩=some (.int .i64 (rd x5_3 (ji15)))∧w'.cell? (ad111.add (x6_2).toNat)=some (.int .i64 (rd l0 x6_2))∧w'.cell? (ad112.add (x7_3).toNat)=some (.int .i64 (rd l1 x7_3))) (ds:=[21]) (ba 22 0) (by kernel_rfl) rfl rfl ⟨hx110_0,(hbc HB hw111_0),(hbc HB hw112_0)⟩ (fun hHeld=>?_);refine with_tabW F159.tab10 F159.bits10 (fun HT_ HW_=>?_)
        generalize wr.drew=w22 at HO_5 HB GG21 HQ24 hf21_0 hx110_0 hx111_0 hx112_0 hx21_0 hHeld ⊢
        refine pu 0 (some 36) (ba 22 1) HT_ (h:=?_)
        refine pu 1 (some 37) (ba 22 3) HT_ (h:=?_)
        refine pu 2 (some 38) (ba 22 7) HT_ (h:=?_)
        refine pu 3 (some 39) (ba 22 15) HT_ (h:=?_)
        refine pu 4 (some 40) (ba 22 31) HT_ (h:=?_)
        refine pu 5 (some 41) (ba 22 63) HT_ (h:=?_)
        refine pu 6 (some 42) (ba 22 127) HT_ (h:=?_)
        refine pu 7 (some 43) (ba 22 255) HT_ (h:=?_)
        refine pu 8 (some 44) (ba 22 511) HT_ (h:=?_)
        refine pu 10 (some 46) (ba 22 1535) HT_ (h:=?_)
        refine pu 11 (some 47) (ba 22 3583) HT_ (h:=?_)
        refine pu 12 (some 48) (ba 22 7679) HT_ (h:=?_)
        refine pu 14 (some 50) (ba 22 24063) HT_ (h:=?_)
        refine pu 15 (some 51) (ba 22 56831) HT_ (h:=?_)
        refine pu 16 (some 52) (ba 22 122367) HT_ (h:=?_)
        refine ta 9 (some 45) (ba 22 122879) HT_ HW_ hHeld (hy:=Or.inl ⟨by rfl,by rintro w' ⟨s0,s1,s2⟩;go_simp;with_reducible rfl⟩) (h:=?_)
        refine ta 13 (some 49) (ba 22 131071) HT_ HW_ hHeld (hy:=Or.inl ⟨by rfl,by rintro w' ⟨s0,s1,s2⟩;go_simp;with_reducible rfl⟩) (h:=?_)
        refine ta 17 (some 53) (ba 22 262143) HT_ HW_ hHeld (hy:=Or.inl ⟨by rfl,by rintro w' ⟨s0,s1,s2⟩;go_simp;with_reducible rfl⟩) (h:=?_)
        refine pu 18 (some 54) (ba 22 524287) HT_ (h:=?_)
        refine pu 19 (some 55) (ba 22 1048575) HT_ (h:=?_)
        refine pu 20 (some 56) (ba 22 2097151) HT_ (h:=?_)
        refine last_ (i:=21) (N:=none) (ba 22 4194303) rfl rfl (one_of HT_.out (by kernel_rfl)) (by decide) (fun K hK=>?_)
        refine skip_ (w1:=?_) (by rfl) rfl ?_ ?_
        rotate_left;· go_simp;rfl
        refine hK.out _ _ ?_
        clear hK K
        refine done_ (done_of HT_.out (by kernel_rfl)) ?_
        try go_wp2
        first|go_roundg k3|(simp only [← hji15];go_roundg k3)|(simp only [← hji8];go_roundg k3)
        case measure=>have:=HJ2.out;have:=HK2.out;have:=HK3.out;omega
        case rel=>exact ⟨(y113),(wrap64 (x7_3+1)),rs,(by first|exact H'|(rw [hji15];exact H')|(rw [hji8];exact H')),⟨by have:=HJ2.out;have:=HK2.out;have:=HK3.out;omega⟩,⟨by (with_reducible repeat (first|apply Kd.R_alloc|apply Kd.R_drewN|apply Kd.R_drew));exact HQ24.out⟩,⟨by repeat (first|(with_reducible first|exact HB.out|apply below_alloc|apply pw_below_drewN|apply below_drew1|refine below_set ?_ GB21.out)|exact HB.out)⟩⟩
   subst c5
   have H1:(some (([]:List Int)))=some r:=by rw [if_pos rfl] at H;exact H
   clear H
   have H:=H1
   clear H1
   obtain ⟨y101,hy101⟩:∃ y_:List Int,y_=(([]:List Int)):=⟨_,rfl⟩
   replace H:(some y101)=some r:=by first|(rw [hy101];with_reducible exact H)|(have H2_:=(Option.bind_some _ _).symm.trans H;rw [hy101];with_reducible exact H2_)|(have H2_:=(Option.bind_some _ _).symm.trans H;with_reducible exact H2_)|with_reducible exact H|(rw [hy101];exact H)|exact H
   have Ny101:=Aside0.mk hy101
   clear hy101
   obtain rfl:=Option.some.inj H
   go_wp2_with (first|((with_reducible refine gate_dst (N:=16) rfl ?_);(try (refine gate_guard (by rfl) ?_;dsimp only));refine Kd.R_lit (Kd.int .i64) _ 2 ?hg (N:=16) ?hd (xs:=([]:List Int)) (inner:=[]) (ok:=fun _=>True) (okp:=fun _=>True) ?hr ?hp (fun _ hk=>hk) trivial (Below.refl _ _) (Nat.le_refl _) (by simp) ?_;(case hd=>rfl);(case hg=>rfl);(case hr=>first|(go_simp;done)|(go_simp;rfl));(case hp=>exact (Reps.none _ _));intro v102 w6 ho7 hb hg_ hnew_;clear hg_ hnew_;(first|rw [← Ny101.out] at ho7|(simp only [Int.reduceToNat] at ho7;rw [← Ny101.out] at ho7));have HO103:=Aside0.mk (Kd.R_lower ho7 (below_size bl));replace HB:=Aside0.mk (below_step bl hb);clear hb ho7))
   go_ret
   exact ⟨_,by first|rfl|(simp [errW_none,errW_some]<;>rfl)|(simp [*,errW_none,errW_some]<;>rfl),by (with_reducible repeat (first|apply Kd.R_alloc|apply Kd.R_drewN|apply Kd.R_drew));exact HO103.out,bl⟩
end Go.Proofs.Ytoebojnhchocaaa.A
/- Set with little white space, by a program. -/
