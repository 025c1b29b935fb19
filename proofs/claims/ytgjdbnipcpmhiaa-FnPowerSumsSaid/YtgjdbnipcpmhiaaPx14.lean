/- Go's calls come to what the Lean functions say. Condition of each: that the Lean function answers. -/
import Derived.Test.YtgjdbnipcpmhiaaPx0
import Derived.Test.YtgjdbnipcpmhiaaPx13
namespace Go.Proofs.Ytgjdbnipcpmhiaa.P
open Go.RowKit Go.Proofs.YtgjdbnipcpmhiaaW.PrintWords Go.Proofs.YtgjdbnipcpmhiaaW.PrintLast Go.Proofs.YtgjdbnipcpmhiaaW.PrintMore
attribute [local go_sem] max2_int min2_int max_two min_two max_three min_three max_four min_four
set_option linter.unusedVariables false
set_option linter.unusedSimpArgs false
set_option maxHeartbeats 8000000
set_option maxRecDepth 100000
/-! ### F81: function 81 -/
mutual
def F81.l0 : Nat → List Int → List Int → Int → Int → Option (List Int)
 | 0,_,_,_,_=>none
 | k+1,x0,x3,x10,x11=>if x11 < x10 then (F81.l1 k x0 x3 (wrap64 (x11+1)) 0 1 x10 x11) else (some x3)
def F81.l1 : Nat → List Int → List Int → Int → Int → Int → Int → Int → Option (List Int)
 | 0,_,_,_,_,_,_,_=>none
 | k+1,x0,x3,x5,x6,x7,x10,x11=>if x7≤x5 then (if x7=0 then (none) else (if (Int.tmod x5 x7)=0 then ((F86.f k (wrap64 (Int.tdiv x5 x7))).bind fun t104=>(if 0≤(wrap64 (x7 - 1)) then (if (wrap64 (x7 - 1)) < (x0.length:Int) then (F81.l1 k x0 x3 x5 (wrap64 (x6+(wrap64 (t104 * (rd x0 (wrap64 (x7 - 1))))))) (wrap64 (x7+1)) x10 x11) else (none)) else (none))) else (F81.l1 k x0 x3 x5 x6 (wrap64 (x7+1)) x10 x11))) else (if x5=0 then (none) else (if x3.length < 17592186044416 then (F81.l0 k x0 (x3 ++ [wrap64 (Int.tdiv x6 x5)]) x10 (wrap64 (x11+1))) else (none)))
end
def F81.f (k:Nat) (l0:List Int):Option (List Int):=F81.l0 k l0 (([]:List Int)) (l0.length:Int) 0
theorem F81.calls (k : Nat) (A0 : Option Addr) (c0 : Nat) (l0 : List Int) (r : List Int) (w : World) (hr0 : Kd.C (Kd.int .i64) w A0 l0.length l0) (hc0 : l0.length ≤ c0) (h : F81.f k l0 = some r) :
  Calls Try.prog 81 #[.slice A0 l0.length c0] w fun e w'=>∃ v0_:Value,e=.returned (v0_)∧Kd.R (Kd.int .i64) 2 w' w.heap.size (fun _=>True) v0_ r∧Below w.heap.size w w':=by
 have HR0:=k0 hr0
 have HC0:=k0 hc0
 clear hr0 hc0
 have HB:=k0 (Below.refl w.heap.size w)
 unfold F81.f at h
 have H:=h
 clear h
 obtain ⟨y101,Ny101⟩:=nY (([]:List Int):List Int)
 replace H:(F81.l0 k l0 y101 (l0.length:Int) 0)=some r:=rH Ny101.z H
 have H':=k0 H
 clear H
 go_enter Try.func81,Try.ntmps81
 go_wp2_with (first|(refine gate_dst (N:=8) rfl ?_;refine zRt 2 (N:=8) (xs:=([]:List Int)) (inner:=[]) (Reps.none _ _) ?_;intro v102 w2 ho3 hb hg_ hnew_;clear hg_ hnew_;(first|rw [← Ny101.z] at ho3|(simp only [Int.reduceToNat] at ho3;rw [← Ny101.z] at ho3));have HO103:=k0 (Kd.R_lower ho3 (below_size bl));replace HB:=bW hb;clear hb ho3))
 repeat (go_quiet (first|(refine gate_dst (N:=8) rfl ?_;refine zRt 2 (N:=8) (xs:=([]:List Int)) (inner:=[]) (Reps.none _ _) ?_;intro v102 w2 ho3 hb hg_ hnew_;clear hg_ hnew_;(first|rw [← Ny101.z] at ho3|(simp only [Int.reduceToNat] at ho3;rw [← Ny101.z] at ho3));have HO103:=k0 (Kd.R_lower ho3 (below_size bl));replace HB:=bW hb;clear hb ho3));try go_wp2_with (first|(refine gate_dst (N:=8) rfl ?_;refine zRt 2 (N:=8) (xs:=([]:List Int)) (inner:=[]) (Reps.none _ _) ?_;intro v102 w2 ho3 hb hg_ hnew_;clear hg_ hnew_;(first|rw [← Ny101.z] at ho3|(simp only [Int.reduceToNat] at ho3;rw [← Ny101.z] at ho3));have HO103:=k0 (Kd.R_lower ho3 (below_size bl));replace HB:=bW hb;clear hb ho3)))
 go_loopg [3,11] k (fun kq v3 v11 w'=>∃ (x3_1:List Int) (x11_1:Int),v11=.int .i64 x11_1∧Aside0 (F81.l0 kq l0 x3_1 (l0.length:Int) x11_1=some r)∧Aside0 (kq≤k)∧Aside0 (Kd.R (Kd.int .i64) 2 w' w.heap.size (fun _=>True) v3 x3_1)∧Aside0 (Below w.heap.size w w'))
 case atStart=>exact ⟨(y101),(0),rs,H',⟨Nat.le_refl _⟩,⟨aR (HO103.z)⟩,⟨bl⟩⟩
 case round =>
  clear H'
  obtain ⟨x3_1,x11_1,rfl,HA,HK1,HO_3,HB⟩:=hrel
  cases gk with
  | zero=>exact absurd HA.z (by simp [F81.l0])
  | succ k1 =>
   have H:=HA.z
   clear HA
   simp only [F81.l0] at H
   replace H:=iC H;obtain ⟨c4b0,H⟩|⟨c4b0,H⟩:=H
   case inl =>
    obtain rfl:=Option.some.inj H
    go_wp2
    repeat (go_quiet (fail);try go_wp2)
    go_ret
    exact ⟨_,eR,aR HO_3.z,bl⟩
   have H':=k0 H
   clear H
   go_wp2
   repeat (go_quiet (fail);try go_wp2)
   go_loopg [6,7] k1 (fun kq v6 v7 w'=>∃ (x6_2:Int) (x7_2:Int),v6=.int .i64 x6_2∧v7=.int .i64 x7_2∧Aside0 (F81.l1 kq l0 x3_1 (wrap64 (x11_1+1)) x6_2 x7_2 (l0.length:Int) x11_1=some r)∧Aside0 (kq≤k1)∧Aside0 (Kd.R (Kd.int .i64) 2 w' w.heap.size (fun _=>True) u3 x3_1)∧Aside0 (Below w.heap.size w w'))
   case atStart=>exact ⟨(0),(1),rs,rs,H',⟨Nat.le_refl _⟩,⟨aR (HO_3.z)⟩,⟨bl⟩⟩
   case round =>
    clear H'
    obtain ⟨x6_2,x7_2,rfl,rfl,HA,HK2,HO_3,HB⟩:=hrel
    cases gk with
    | zero=>exact absurd HA.z (by simp [F81.l1])
    | succ k2 =>
     have H:=HA.z
     clear HA
     simp only [F81.l1] at H
     replace H:=iC H;obtain ⟨c5b0,H⟩|⟨c5b0,H⟩:=H
     case inl =>
      by_cases c12:(wrap64 (x11_1+1))=0
      case neg =>
       rw [if_neg c12] at H
       have c12b0:=beq_eq_false_iff_ne.mpr c12
       have c12b1:=bne_iff_ne.mpr c12
       replace H:=iS H;obtain ⟨c13,H⟩:=H
       have LMc13:=k0 c13
       clear c13
       obtain ⟨y106,Ny106⟩:=nY (x3_1 ++ [wrap64 (Int.tdiv x6_2 (wrap64 (x11_1+1)))]:List Int)
       replace H:(F81.l0 k2 l0 y106 (l0.length:Int) (wrap64 (x11_1+1)))=some r:=rH Ny106.z H
       have H':=k0 H
       clear H
       go_wp2_with (first|((with_reducible refine gate_builtin (b:=.append) (xs:=#[.tmp 37,.tmp 41]) rfl ?_);at_builtin;refine Kd.R_append (Kd.int .i64) (w0:=w) w.heap.size rfl (.tmp 37) (.tmp 41) 27 2 (.int .i64 0) 8 rfl Try.underlying27 info2 rfl (by decide) (by omega) u3 x3_1 (wrap64 (Int.tdiv x6_2 (wrap64 (x11_1+1)))) [.int .i64 (wrap64 (Int.tdiv x6_2 (wrap64 (x11_1+1))))] (fun _=>True) (fun _=>False) rfl rfl ?aP (fun _ hk=>hk.elim) ?aF ?aO ?aB ?aS ?aL ?_;(case aP=>exact rfl);(case aB=>exact bl);(case aF=>exact (fun _ _=>trivial));(case aO=>exact (aR HO_3.z));(case aS=>exact (below_size bl));(case aL=>have:=LMc13.out;omega);intro v107 w14 ho hb hg hat;rw [← Ny106.z] at ho;replace HB:=k0 hb;have HO108:=k0 ho;clear HO_3;clear ho hb hg hat))
       repeat (go_quiet (first|((with_reducible refine gate_builtin (b:=.append) (xs:=#[.tmp 37,.tmp 41]) rfl ?_);at_builtin;refine Kd.R_append (Kd.int .i64) (w0:=w) w.heap.size rfl (.tmp 37) (.tmp 41) 27 2 (.int .i64 0) 8 rfl Try.underlying27 info2 rfl (by decide) (by omega) u3 x3_1 (wrap64 (Int.tdiv x6_2 (wrap64 (x11_1+1)))) [.int .i64 (wrap64 (Int.tdiv x6_2 (wrap64 (x11_1+1))))] (fun _=>True) (fun _=>False) rfl rfl ?aP (fun _ hk=>hk.elim) ?aF ?aO ?aB ?aS ?aL ?_;(case aP=>exact rfl);(case aB=>exact bl);(case aF=>exact (fun _ _=>trivial));(case aO=>exact (aR HO_3.z));(case aS=>exact (below_size bl));(case aL=>have:=LMc13.out;omega);intro v107 w14 ho hb hg hat;rw [← Ny106.z] at ho;replace HB:=k0 hb;have HO108:=k0 ho;clear HO_3;clear ho hb hg hat));try go_wp2_with (first|((with_reducible refine gate_builtin (b:=.append) (xs:=#[.tmp 37,.tmp 41]) rfl ?_);at_builtin;refine Kd.R_append (Kd.int .i64) (w0:=w) w.heap.size rfl (.tmp 37) (.tmp 41) 27 2 (.int .i64 0) 8 rfl Try.underlying27 info2 rfl (by decide) (by omega) u3 x3_1 (wrap64 (Int.tdiv x6_2 (wrap64 (x11_1+1)))) [.int .i64 (wrap64 (Int.tdiv x6_2 (wrap64 (x11_1+1))))] (fun _=>True) (fun _=>False) rfl rfl ?aP (fun _ hk=>hk.elim) ?aF ?aO ?aB ?aS ?aL ?_;(case aP=>exact rfl);(case aB=>exact bl);(case aF=>exact (fun _ _=>trivial));(case aO=>exact (aR HO_3.z));(case aS=>exact (below_size bl));(case aL=>have:=LMc13.out;omega);intro v107 w14 ho hb hg hat;rw [← Ny106.z] at ho;replace HB:=k0 hb;have HO108:=k0 ho;clear HO_3;clear ho hb hg hat)))
       first|go_roundg k2|(simp only [← hji9];go_roundg k2)
       case measure=>have:=HK1.z;have:=HK2.z;omega
       case rel=>exact ⟨(y106),(wrap64 (x11_1+1)),rs,(by first|exact H'|(rw [hji9];exact H')),⟨by have:=HK1.z;have:=HK2.z;omega⟩,⟨aR (HO108.z)⟩,⟨bl⟩⟩
      rw [if_pos c12] at H
      exact absurd H (by simp)
     by_cases c6:x7_2=0
     case neg =>
      rw [if_neg c6] at H
      have c6b0:=beq_eq_false_iff_ne.mpr c6
      have c6b1:=bne_iff_ne.mpr c6
      replace H:=iE H;obtain ⟨c7,c7b0,c7b1,H⟩|⟨c7b0,c7b1,H⟩:=H
      case inl =>
       have H':=k0 H
       clear H
       go_wp2
       repeat (go_quiet (fail);try go_wp2)
       first|go_roundg k2|(simp only [← hji9];go_roundg k2)
       case measure=>have:=HK1.z;have:=HK2.z;omega
       case rel=>exact ⟨(x6_2),(wrap64 (x7_2+1)),rs,rs,(by first|exact H'|(rw [hji9];exact H')),⟨by have:=HK1.z;have:=HK2.z;omega⟩,⟨aR (HO_3.z)⟩,⟨bl⟩⟩
      replace H:=bS H;obtain ⟨t104,A8,H⟩:=H
      obtain ⟨ji9,hji9⟩:∃ j_:Int,(wrap64 (x7_2 - 1))=j_:=⟨_,rfl⟩
      replace H:(if 0≤(ji9) then (if (ji9) < (l0.length:Int) then (F81.l1 k2 l0 x3_1 (wrap64 (x11_1+1)) (wrap64 (x6_2+(wrap64 (t104 * (rd l0 (ji9)))))) (wrap64 (x7_2+1)) (l0.length:Int) x11_1) else (none)) else (none))=some r:=by first|(rw [hji9] at H;exact H)|(simp only [hji9] at H ⊢;exact H)
      (try rw [hji9] at A8)
      have hji9w:(IntKind.i64.wrap (x7_2 - 1))=ji9:=(i64_w _).trans hji9
      replace H:=iS H;obtain ⟨c10,H⟩:=H
      have c10b0:=decide_eq_true c10
      clear c10
      replace H:=iS H;obtain ⟨c11,H⟩:=H
      have c11b0:=decide_eq_true c11
      clear c11
      have H':=k0 H
      clear H
      have p105:0≤((ji9):Int):=oD
      have q105:(ji9) < (l0.length:Int):=oD
      obtain ⟨ad105,e105,hx105_0⟩:=Kd.at_int HR0.z (ji9) p105 q105
      cases e105
      replace hx105_0:=hbc HB hx105_0
      replace p105:=eT p105
      replace q105:=eT q105
      go_wp2_with (first|(go_at_call 86;(with_reducible refine (F86.calls k2 (wrap64 (Int.tdiv (wrap64 (x11_1+1)) x7_2)) t104 _ A8.z).mono ?_);rintro e w' ⟨rfl,⟨nd,rfl⟩⟩;(try exact dN)))
      repeat (go_quiet (first|(go_at_call 86;(with_reducible refine (F86.calls k2 (wrap64 (Int.tdiv (wrap64 (x11_1+1)) x7_2)) t104 _ A8.z).mono ?_);rintro e w' ⟨rfl,⟨nd,rfl⟩⟩;(try exact dN)));try go_wp2_with (first|(go_at_call 86;(with_reducible refine (F86.calls k2 (wrap64 (Int.tdiv (wrap64 (x11_1+1)) x7_2)) t104 _ A8.z).mono ?_);rintro e w' ⟨rfl,⟨nd,rfl⟩⟩;(try exact dN))))
      first|go_roundg k2|(simp only [← hji9];go_roundg k2)
      case measure=>have:=HK1.z;have:=HK2.z;omega
      case rel=>exact ⟨(wrap64 (x6_2+(wrap64 (t104 * (rd l0 (ji9)))))),(wrap64 (x7_2+1)),(by first|rfl|(simp;done)|(simp only [← hji9]<;>(first|rfl|simp))|(simp [*];done)),rs,(by first|exact H'|(rw [hji9];exact H')),⟨by have:=HK1.z;have:=HK2.z;omega⟩,⟨aR (HO_3.z)⟩,⟨bl⟩⟩
     rw [if_pos c6] at H
     exact absurd H (by simp)
/-! ### F110: function 110 -/
def F110.l0 : Nat → Int → List (List Int) → Int → Int → Option (Int)
 | 0,_,_,_,_=>none
 | k+1,x3,x6,x7,x8=>if x8 < x7 then (if 0≤x8 then (if x8 < (x6.length:Int) then (if x8 < ((rd_L1 x6 x8).length:Int) then (F110.l0 k (wrap64 (x3+(rd (rd_L1 x6 x8) x8))) x6 x7 (wrap64 (x8+1))) else (none)) else (none)) else (none)) else (some x3)
def F110.f (k:Nat) (l0:List (List Int)):Option (Int):=F110.l0 k 0 l0 (l0.length:Int) 0
theorem F110.calls (k : Nat) (A0 : Option Addr) (c0 : Nat) (l0 : List (List Int)) (r : Int) (w : World) (hr0 : Kd.C (Kd.slice 2 (Kd.int .i64)) w A0 l0.length l0) (hc0 : l0.length ≤ c0) (h : F110.f k l0 = some r) :
  Calls Try.prog 110 #[.slice A0 l0.length c0] w fun e w'=>e=.returned (.int .i64 r)∧Drawn0 w w':=by
 have HR0:=k0 hr0
 have HC0:=k0 hc0
 clear hr0 hc0
 unfold F110.f at h
 have H:=h
 clear h
 have H':=k0 H
 clear H
 go_enter Try.func110,Try.ntmps110
 go_wp2
 go_loopg [3,8] k (fun kq v3 v8 w'=>∃ (x3_1:Int) (x8_1:Int),v3=.int .i64 x3_1∧v8=.int .i64 x8_1∧Aside0 (F110.l0 kq x3_1 l0 (l0.length:Int) x8_1=some r)∧Aside0 (kq≤k)∧Drawn0 w w')
 case atStart=>exact ⟨(0),(0),rs,rs,H',⟨Nat.le_refl _⟩,dW⟩
 case round =>
  clear H'
  obtain ⟨x3_1,x8_1,rfl,rfl,HA,HK1,⟨m1,rfl⟩⟩:=hrel
  cases gk with
  | zero=>exact absurd HA.z (by simp [F110.l0])
  | succ k1 =>
   have H:=HA.z
   clear HA
   simp only [F110.l0] at H
   replace H:=iC H;obtain ⟨c2b0,H⟩|⟨c2b0,H⟩:=H
   case inl =>
    obtain rfl:=Option.some.inj H
    go_wp2
    go_ret
    exact ⟨rs,dW⟩
   replace H:=iS H;obtain ⟨c3,H⟩:=H
   have c3b0:=decide_eq_true c3
   clear c3
   replace H:=iS H;obtain ⟨c4,H⟩:=H
   have c4b0:=decide_eq_true c4
   clear c4
   replace H:=iS H;obtain ⟨c5,H⟩:=H
   have c5b0:=decide_eq_true c5
   clear c5
   have H':=k0 H
   clear H
   obtain ⟨p101,q101⟩:=iN x8_1 (l0.length:Int)
   obtain ⟨ad101,A101_0,c101_0,e101,hx101_0,hl101_0,hi101_0⟩:=at_L1 HR0.z x8_1 p101 q101
   cases e101
   have HR101_0:=k0 hi101_0
   have HC101_0:=k0 hl101_0
   clear hi101_0 hl101_0
   replace p101:=eT p101
   replace q101:=eT q101
   obtain ⟨p102,q102⟩:=iN x8_1 ((rd_L1 l0 x8_1).length:Int)
   obtain ⟨ad102,e102,hx102_0⟩:=Kd.at_int HR101_0.z x8_1 p102 q102
   cases e102
   replace p102:=eT p102
   replace q102:=eT q102
   go_wp2
   go_roundg k1
   case measure=>have:=HK1.z;omega
   case rel=>exact ⟨(wrap64 (x3_1+(rd (rd_L1 l0 x8_1) x8_1))),(wrap64 (x8_1+1)),rs,rs,H',⟨by have:=HK1.z;omega⟩,dW⟩
/-! ### F100: function 100 -/
def F100.l0 : Nat → Int → List (List Int) → Int → Int → Option ((List (List Int)))
 | 0,_,_,_,_=>none
 | k+1,x0,x3,x5,x6=>if x6 < x5 then (if 0≤x0 then (if (x0:Int).toNat≤35184372088832 then (if x3.length < 5864062014805 then (F100.l0 k x0 (x3 ++ [(List.replicate (x0:Int).toNat 0)]) x5 (wrap64 (x6+1))) else (none)) else (none)) else (none)) else (some x3)
def F100.f (k:Nat) (a0:Int):Option ((List (List Int))):=F100.l0 k a0 (([]:List (List Int))) a0 0
theorem F100.calls (k : Nat) (a0 : Int) (r : List (List Int)) (w : World) (h : F100.f k a0 = some r) :
  Calls Try.prog 100 #[.int .i64 a0] w fun e w'=>∃ v0_:Value,e=.returned (v0_)∧Kd.S (Kd.slice 2 (Kd.int .i64)) 27 w' w.heap.size (fun _=>True) v0_ r∧Below w.heap.size w w':=by
 have HB:=k0 (Below.refl w.heap.size w)
 unfold F100.f at h
 have H:=h
 clear h
 obtain ⟨y101,Ny101⟩:=nY (([]:List (List Int)):List (List Int))
 replace H:(F100.l0 k a0 y101 a0 0)=some r:=rH Ny101.z H
 have H':=k0 H
 clear H
 go_enter Try.func100,Try.ntmps100
 go_wp2_with (first|(refine gate_dst (N:=4) rfl ?_;refine Kd.S_lit (Kd.slice 2 (Kd.int .i64)) _ 27 ?hg (N:=4) ?hd (xs:=([]:List (List Int))) (inner:=[]) (ok:=fun _=>True) (okp:=fun _=>True) ?hr ?hp (fun _ hk=>hk) trivial (Below.refl _ _) (Nat.le_refl _) (by simp) ?_;(case hd=>rfl);(case hg=>rfl);(case hr=>first|(go_simp;done)|(go_simp;rfl));(case hp=>exact (Reps.none _ _));intro v102 w2 ho3 hb hg_ hnew_;clear hg_ hnew_;(first|rw [← Ny101.z] at ho3|(simp only [Int.reduceToNat] at ho3;rw [← Ny101.z] at ho3));have HO103:=k0 (Kd.S_lower ho3 (below_size bl));replace HB:=bW hb;clear hb ho3))
 go_loopg [3,6] k (fun kq v3 v6 w'=>∃ (x3_1:List (List Int)) (x6_1:Int),v6=.int .i64 x6_1∧Aside0 (F100.l0 kq a0 x3_1 a0 x6_1=some r)∧Aside0 (kq≤k)∧Aside0 (Kd.S (Kd.slice 2 (Kd.int .i64)) 27 w' w.heap.size (fun _=>True) v3 x3_1)∧Aside0 (Below w.heap.size w w'))
 case atStart=>exact ⟨(y101),(0),rs,H',⟨Nat.le_refl _⟩,⟨aS (HO103.z)⟩,⟨bl⟩⟩
 case round =>
  clear H'
  obtain ⟨x3_1,x6_1,rfl,HA,HK1,HO_3,HB⟩:=hrel
  cases gk with
  | zero=>exact absurd HA.z (by simp [F100.l0])
  | succ k1 =>
   have H:=HA.z
   clear HA
   simp only [F100.l0] at H
   replace H:=iC H;obtain ⟨c4b0,H⟩|⟨c4b0,H⟩:=H
   case inl =>
    obtain rfl:=Option.some.inj H
    go_wp2
    go_ret
    exact ⟨_,eR,aS HO_3.z,bl⟩
   replace H:=iS H;obtain ⟨c5,H⟩:=H
   have c5b0:=eq_true c5
   have c5b1:=decide_eq_true c5
   clear c5
   replace H:=iS H;obtain ⟨c6,H⟩:=H
   have c6b0:=eq_true c6
   have c6b1:=decide_eq_true c6
   clear c6
   obtain ⟨y104,Ny104⟩:=nY (List.replicate (a0:Int).toNat 0:List Int)
   replace H:(if x3_1.length < 5864062014805 then (F100.l0 k1 a0 (x3_1 ++ [y104]) a0 (wrap64 (x6_1+1))) else (none))=some r:=rH Ny104.z H
   replace H:=iS H;obtain ⟨c7,H⟩:=H
   have LMc7:=k0 c7
   clear c7
   obtain ⟨y107,Ny107⟩:=nY (x3_1 ++ [y104]:List (List Int))
   replace H:(F100.l0 k1 a0 y107 a0 (wrap64 (x6_1+1)))=some r:=rH Ny107.z H
   have H':=k0 H
   clear H
   go_wp2_with (first|(refine gate_dst (N:=10) rfl ?_;refine Kd.R_make (Kd.int .i64) _ 2 rfl (N:=10) rfl 27 _ _ rfl a0 rfl rfl Try.underlying27 (.int .i64 0) 8 info2 rfl (by decide) (by omega) 0 (ok:=fun _=>True) (okp:=fun _=>True) rfl (fun _ hk=>hk) trivial oD (Nat.le_trans (Nat.mul_le_mul_right _ (oD:a0.toNat≤35184372088832)) (by omega)) (Below.refl _ _) (Nat.le_refl _) ?_;intro v105 w8 ho9 hb hg_ hnew_;clear hg_ hnew_;(first|rw [← Ny104.z] at ho9|(simp only [Int.reduceToNat] at ho9;rw [← Ny104.z] at ho9));replace HO_3:=elS HO_3 (Kd.R_base ho9) hb;have HO106:=k0 (Kd.R_lower ho9 (below_size bl));replace HB:=bW hb;clear hb ho9;obtain ⟨Ao11,co11,rfl⟩:=Kd.R_slice HO106.z)|((with_reducible refine gate_builtin (b:=.append) (xs:=#[.tmp 8,.tmp 11]) rfl ?_);at_builtin;refine Kd.S_append (Kd.slice 2 (Kd.int .i64)) (w0:=w) w.heap.size rfl (.tmp 8) (.tmp 11) 24 27 (.slice none 0 0) 24 rfl Try.underlying24 info27 rfl (by decide) (by omega) u3 x3_1 y104 [.slice Ao11 y104.length co11] (fun _=>True) (fun k_=>some k_=(.slice Ao11 y104.length co11:Value).ownBlock) rfl rfl ?aP (fun k_ hk_=>((Kd.R_mono (ok':=fun k_=>((fun _=>True)) k_∧some k_ ≠ (u3:Value).ownBlock) (Kd.R_apart' (HO106.z) (Kd.S_typed HO_3.z) (by decide)) (fun k_ hk=>⟨trivial,hk.2⟩))).1 k_ hk_.symm) ?aF ?aO ?aB ?aS ?aL ?_;(case aP=>exact Kd.M_row (Kd.R_mono (Kd.R_tight rfl (Kd.R_mono (ok':=fun k_=>((fun _=>True)) k_∧some k_ ≠ (u3:Value).ownBlock) (Kd.R_apart' (HO106.z) (Kd.S_typed HO_3.z) (by decide)) (fun k_ hk=>⟨trivial,hk.2⟩))) (fun _ h_=>h_)));(case aB=>exact bl);(case aF=>exact (fun _ _=>trivial));(case aO=>exact (aS (Kd.S_mono HO_3.z (fun k_ hk=>⟨trivial,fun e_=>hk.2 e_⟩))));(case aS=>exact (below_size bl));(case aL=>have:=LMc7.out;omega);intro v108 w10 ho hb hg hat;rw [← Ny107.z] at ho;replace HB:=k0 hb;have HO109:=k0 ho;clear HO_3 HO106;clear ho hb hg hat))
   go_roundg k1
   case measure=>have:=HK1.z;omega
   case rel=>exact ⟨(y107),(wrap64 (x6_1+1)),rs,H',⟨by have:=HK1.z;omega⟩,⟨aS (HO109.z)⟩,⟨bl⟩⟩
/-! ### F111: function 111 -/
mutual
def F111.l0 : Nat → List (List Int) → List (List Int) → List (List Int) → Int → Int → Option ((List (List Int)))
 | 0,_,_,_,_,_=>none
 | k+1,x1,x5,x15,x16,x17=>if x17 < x16 then (if 0≤x17 then (if x17 < (x15.length:Int) then (F111.l1 k x1 x5 x17 x15 x16 x17 (rd_L1 x15 x17) ((rd_L1 x15 x17).length:Int) 0) else (none)) else (none)) else (some x5)
def F111.l1 : Nat → List (List Int) → List (List Int) → Int → List (List Int) → Int → Int → List Int → Int → Int → Option ((List (List Int)))
 | 0,_,_,_,_,_,_,_,_,_=>none
 | k+1,x1,x5,x6,x15,x16,x17,x22,x23,x24=>if x24 < x23 then (if 0≤x24 then (if x24 < (x22.length:Int) then (if (rd x22 x24)=0 then (F111.l1 k x1 x5 x6 x15 x16 x17 x22 x23 (wrap64 (x24+1))) else (if x24 < (x1.length:Int) then (F111.l2 k x1 x5 x6 (rd x22 x24) x15 x16 x17 x22 x23 x24 (rd_L1 x1 x24) ((rd_L1 x1 x24).length:Int) 0) else (none))) else (none)) else (none)) else (F111.l0 k x1 x5 x15 x16 (wrap64 (x17+1)))
def F111.l2 : Nat → List (List Int) → List (List Int) → Int → Int → List (List Int) → Int → Int → List Int → Int → Int → List Int → Int → Int → Option ((List (List Int)))
 | 0,_,_,_,_,_,_,_,_,_,_,_,_,_=>none
 | k+1,x1,x5,x6,x9,x15,x16,x17,x22,x23,x24,x34,x35,x36=>if x36 < x35 then (if 0≤x36 then (if x36 < (x34.length:Int) then (if 0≤x6 then (if x6 < (x5.length:Int) then (if x36 < ((rd_L1 x5 x6).length:Int) then (F111.l2 k x1 (x5.set (x6:Int).toNat ((rd_L1 x5 x6).set (x36:Int).toNat (wrap64 ((rd (rd_L1 x5 x6) x36)+(wrap64 (x9 * (rd x34 x36))))))) x6 x9 x15 x16 x17 x22 x23 x24 x34 x35 (wrap64 (x36+1))) else (none)) else (none)) else (none)) else (none)) else (none)) else (F111.l1 k x1 x5 x6 x15 x16 x17 x22 x23 (wrap64 (x24+1)))
end
def F111.f (k:Nat) (l0:List (List Int)) (l1:List (List Int)):Option ((List (List Int))):=(F100.f k (l0.length:Int)).bind fun t101=>(F111.l0 k l1 t101 l0 (l0.length:Int) 0)
theorem F111.calls (k : Nat) (A0 : Option Addr) (c0 : Nat) (l0 : List (List Int)) (A1 : Option Addr) (c1 : Nat) (l1 : List (List Int)) (r : List (List Int)) (w : World) (hr0 : Kd.C (Kd.slice 2 (Kd.int .i64)) w A0 l0.length l0) (hc0 : l0.length ≤ c0) (hr1 : Kd.C (Kd.slice 2 (Kd.int .i64)) w A1 l1.length l1) (hc1 : l1.length ≤ c1) (h : F111.f k l0 l1 = some r) :
  Calls Try.prog 111 #[.slice A0 l0.length c0,.slice A1 l1.length c1] w fun e w'=>∃ v0_:Value,e=.returned (v0_)∧Kd.S (Kd.slice 2 (Kd.int .i64)) 27 w' w.heap.size (fun _=>True) v0_ r∧Below w.heap.size w w':=by
 have HR0:=k0 hr0
 have HC0:=k0 hc0
 clear hr0 hc0
 have HR1:=k0 hr1
 have HC1:=k0 hc1
 clear hr1 hc1
 have HB:=k0 (Below.refl w.heap.size w)
 unfold F111.f at h
 have H:=h
 clear h
 replace H:=bS H;obtain ⟨t101,A3,H⟩:=H
 have H':=k0 H
 clear H
 go_enter Try.func111,Try.ntmps111
 go_wp2_with (first|(refine gate_callee (f:=100) rfl ?_;refine gC (some 14) Try.func100 #[.int .i64 (l0.length:Int)] ?_;(with_reducible refine (F100.calls k (l0.length:Int) t101 _ A3.z).mono ?_);rintro e w4 ⟨v102,rfl,ho0,hb⟩;refine ⟨_,rfl,?_⟩;have HO103:=k0 (Kd.S_lower ho0 (below_size bl));replace HB:=bW hb))
 go_loopg [17] k (fun kq v17 w'=>∃ (x5_1:List (List Int)) (x17_1:Int),v17=.int .i64 x17_1∧Aside0 (F111.l0 kq l1 x5_1 l0 (l0.length:Int) x17_1=some r)∧Aside0 (kq≤k)∧Aside0 (Kd.S (Kd.slice 2 (Kd.int .i64)) 27 w' w.heap.size (fun _=>True) v102 x5_1)∧Aside0 (Below w.heap.size w w'))
 case atStart=>exact ⟨(t101),(0),rs,H',⟨Nat.le_refl _⟩,⟨aS (HO103.z)⟩,⟨bl⟩⟩
 case round =>
  clear H'
  obtain ⟨x5_1,x17_1,rfl,HA,HK1,HO_5,HB⟩:=hrel
  cases gk with
  | zero=>exact absurd HA.z (by simp [F111.l0])
  | succ k1 =>
   have H:=HA.z
   clear HA
   simp only [F111.l0] at H
   replace H:=iC H;obtain ⟨c5b0,H⟩|⟨c5b0,H⟩:=H
   case inl =>
    obtain rfl:=Option.some.inj H
    go_wp2
    go_ret
    exact ⟨_,eR,aS HO_5.z,bl⟩
   replace H:=iS H;obtain ⟨c6,H⟩:=H
   have c6b0:=decide_eq_true c6
   clear c6
   replace H:=iS H;obtain ⟨c7,H⟩:=H
   have c7b0:=decide_eq_true c7
   clear c7
   have H':=k0 H
   clear H
   obtain ⟨p104,q104⟩:=iN x17_1 (l0.length:Int)
   obtain ⟨ad104,A104_0,c104_0,e104,hx104_0,hl104_0,hi104_0⟩:=at_L1 HR0.z x17_1 p104 q104
   cases e104
   replace hx104_0:=hbc HB hx104_0
   have HR104_0:=k0 hi104_0
   have HC104_0:=k0 hl104_0
   clear hi104_0 hl104_0
   replace p104:=eT p104
   replace q104:=eT q104
   go_wp2
   go_loopg [24] k1 (fun kq v24 w'=>∃ (x5_2:List (List Int)) (x24_2:Int),v24=.int .i64 x24_2∧Aside0 (F111.l1 kq l1 x5_2 x17_1 l0 (l0.length:Int) x17_1 (rd_L1 l0 x17_1) ((rd_L1 l0 x17_1).length:Int) x24_2=some r)∧Aside0 (kq≤k1)∧Aside0 (Kd.S (Kd.slice 2 (Kd.int .i64)) 27 w' w.heap.size (fun _=>True) v102 x5_2)∧Aside0 (Below w.heap.size w w'))
   case atStart=>exact ⟨(x5_1),(0),rs,H',⟨Nat.le_refl _⟩,⟨aS (HO_5.z)⟩,⟨bl⟩⟩
   case round =>
    clear H'
    obtain ⟨x5_2,x24_2,rfl,HA,HK2,HO_5,HB⟩:=hrel
    cases gk with
    | zero=>exact absurd HA.z (by simp [F111.l1])
    | succ k2 =>
     have H:=HA.z
     clear HA
     simp only [F111.l1] at H
     replace H:=iC H;obtain ⟨c8b0,H⟩|⟨c8b0,H⟩:=H
     case inl =>
      have H':=k0 H
      clear H
      go_wp2
      go_roundg k2
      case measure=>have:=HK1.z;have:=HK2.z;omega
      case rel=>exact ⟨(x5_2),(wrap64 (x17_1+1)),rs,H',⟨by have:=HK1.z;have:=HK2.z;omega⟩,⟨aS (HO_5.z)⟩,⟨bl⟩⟩
     replace H:=iS H;obtain ⟨c9,H⟩:=H
     have c9b0:=decide_eq_true c9
     clear c9
     replace H:=iS H;obtain ⟨c10,H⟩:=H
     have c10b0:=decide_eq_true c10
     clear c10
     replace H:=iE H;obtain ⟨c11,c11b0,c11b1,H⟩|⟨c11b0,c11b1,H⟩:=H
     case inl =>
      replace H:=iS H;obtain ⟨c12,H⟩:=H
      have c12b0:=decide_eq_true c12
      clear c12
      have H':=k0 H
      clear H
      obtain ⟨p105,q105⟩:=iN x24_2 ((rd_L1 l0 x17_1).length:Int)
      obtain ⟨ad105,e105,hx105_0⟩:=Kd.at_int HR104_0.z x24_2 p105 q105
      cases e105
      replace hx105_0:=hbc HB hx105_0
      replace p105:=eT p105
      replace q105:=eT q105
      obtain ⟨p106,q106⟩:=iN x24_2 (l1.length:Int)
      obtain ⟨ad106,A106_0,c106_0,e106,hx106_0,hl106_0,hi106_0⟩:=at_L1 HR1.z x24_2 p106 q106
      cases e106
      replace hx106_0:=hbc HB hx106_0
      have HR106_0:=k0 hi106_0
      have HC106_0:=k0 hl106_0
      clear hi106_0 hl106_0
      replace p106:=eT p106
      replace q106:=eT q106
      go_wp2
      go_loopg [36] k2 (fun kq v36 w'=>∃ (x5_3:List (List Int)) (x36_3:Int),v36=.int .i64 x36_3∧Aside0 (F111.l2 kq l1 x5_3 x17_1 (rd (rd_L1 l0 x17_1) x24_2) l0 (l0.length:Int) x17_1 (rd_L1 l0 x17_1) ((rd_L1 l0 x17_1).length:Int) x24_2 (rd_L1 l1 x24_2) ((rd_L1 l1 x24_2).length:Int) x36_3=some r)∧Aside0 (kq≤k2)∧Aside0 (Kd.S (Kd.slice 2 (Kd.int .i64)) 27 w' w.heap.size (fun _=>True) v102 x5_3)∧Aside0 (Below w.heap.size w w'))
      case atStart=>exact ⟨(x5_2),(0),rs,H',⟨Nat.le_refl _⟩,⟨aS (HO_5.z)⟩,⟨bl⟩⟩
      case round =>
       clear H'
       obtain ⟨x5_3,x36_3,rfl,HA,HK3,HO_5,HB⟩:=hrel
       cases gk with
       | zero=>exact absurd HA.z (by simp [F111.l2])
       | succ k3 =>
        have H:=HA.z
        clear HA
        simp only [F111.l2] at H
        replace H:=iC H;obtain ⟨c13b0,H⟩|⟨c13b0,H⟩:=H
        case inl =>
         have H':=k0 H
         clear H
         go_wp2
         go_roundg k3
         case measure=>have:=HK1.z;have:=HK2.z;have:=HK3.z;omega
         case rel=>exact ⟨(x5_3),(wrap64 (x24_2+1)),rs,H',⟨by have:=HK1.z;have:=HK2.z;have:=HK3.z;omega⟩,⟨aS (HO_5.z)⟩,⟨bl⟩⟩
        replace H:=iS H;obtain ⟨c14,H⟩:=H
        have c14b0:=decide_eq_true c14
        clear c14
        replace H:=iS H;obtain ⟨c15,H⟩:=H
        have c15b0:=decide_eq_true c15
        clear c15
        replace H:=iS H;obtain ⟨c16,H⟩:=H
        have c16b0:=decide_eq_true c16
        clear c16
        replace H:=iS H;obtain ⟨c17,H⟩:=H
        have c17b0:=decide_eq_true c17
        clear c17
        replace H:=iS H;obtain ⟨c18,H⟩:=H
        have c18b0:=decide_eq_true c18
        clear c18
        obtain ⟨y110,Ny110⟩:=nY ((rd_L1 x5_3 x17_1).set (x36_3:Int).toNat (wrap64 ((rd (rd_L1 x5_3 x17_1) x36_3)+(wrap64 ((rd (rd_L1 l0 x17_1) x24_2) * (rd (rd_L1 l1 x24_2) x36_3))))):List Int)
        replace H:(F111.l2 k3 l1 (x5_3.set (x17_1:Int).toNat y110) x17_1 (rd (rd_L1 l0 x17_1) x24_2) l0 (l0.length:Int) x17_1 (rd_L1 l0 x17_1) ((rd_L1 l0 x17_1).length:Int) x24_2 (rd_L1 l1 x24_2) ((rd_L1 l1 x24_2).length:Int) (wrap64 (x36_3+1)))=some r:=rH Ny110.z H
        obtain ⟨y112,Ny112⟩:=nY (x5_3.set (x17_1:Int).toNat y110:List (List Int))
        replace H:(F111.l2 k3 l1 y112 x17_1 (rd (rd_L1 l0 x17_1) x24_2) l0 (l0.length:Int) x17_1 (rd_L1 l0 x17_1) ((rd_L1 l0 x17_1).length:Int) x24_2 (rd_L1 l1 x24_2) ((rd_L1 l1 x24_2).length:Int) (wrap64 (x36_3+1)))=some r:=rH Ny112.z H
        have H':=k0 H
        clear H
        obtain ⟨p107,q107⟩:=iN x36_3 ((rd_L1 l1 x24_2).length:Int)
        obtain ⟨ad107,e107,hx107_0⟩:=Kd.at_int HR106_0.z x36_3 p107 q107
        cases e107
        replace hx107_0:=hbc HB hx107_0
        replace p107:=eT p107
        replace q107:=eT q107
        obtain ⟨Ao20,co20,rfl⟩:=Kd.S_slice HO_5.z
        obtain ⟨p108,q108⟩:=iN x17_1 (x5_3.length:Int)
        obtain ⟨ad108,A108_0,c108_0,e108,hx108_0,hl108_0,hi108_0⟩:=at_L1 (Kd.S_reads' HO_5.z).2.2 x17_1 p108 q108
        cases e108
        obtain ⟨ce108,hce108,hMe108,hcc108⟩:=Kd.S_get HO_5.z [] x17_1 p108 (by first|exact q108|exact oD|(have e_:=(Kd.S_reads' HO_5.z).1;omega))
        obtain ⟨ve108_0,rfl,ge108_0⟩:=hMe108
        have hv108_0:=hcc108 0 _ rfl
        rw [Nat.add_zero,show ((Kd.slice 2 (Kd.int .i64))).sz=1 from rfl,Nat.mul_one] at hv108_0
        replace hv108_0:=Option.some.inj (hv108_0.symm.trans hx108_0)
        rw [hv108_0] at ge108_0
        have HL108_0:=k0 (show Kd.R (Kd.int .i64) 2 _ _ _ _ (rd_L1 x5_3 x17_1) from ge108_0)
        clear hv108_0 ge108_0
        have HX108_0:=k0 hx108_0
        clear hcc108 hce108
        have HR108_0:=k0 hi108_0
        have HC108_0:=k0 hl108_0
        clear hi108_0 hl108_0
        replace p108:=eT p108
        replace q108:=eT q108
        obtain ⟨p109,q109⟩:=iN x36_3 ((rd_L1 x5_3 x17_1).length:Int)
        obtain ⟨ad109,e109,hx109_0⟩:=Kd.at_int (by repeat (first|(with_reducible exact HR108_0.z)|(with_reducible refine Kd.C_alloc ?_ _)|(with_reducible refine Kd.C_drewN ?_ _)|(with_reducible refine Kd.C_drew ?_)|exact HR108_0.z)) x36_3 p109 q109
        cases e109
        replace p109:=eT p109
        replace q109:=eT q109
        have p19:0≤(x36_3:Int):=oD
        have q19:(x36_3:Int) < (((rd_L1 x5_3 x17_1).length:Int):Int):=oD
        obtain ⟨go19,co19,eo19,gb19,gl19,cl19,HG19⟩:=Kd.R_form HL108_0.z (by omega)
        (first|cases eo19|(injection eo19 with ea_ en_ ec_;(first|subst ea_|(injection ea_ with ea_;subst ea_));subst ec_;clear en_))
        (first|simp only [add_plain] at hx109_0|skip)
        have GB19:=k0 gb19
        have GG19:=k0 HG19
        clear gb19 gl19 HG19
        (first|simp only [add_plain] at hx109_0|skip)
        obtain ⟨hx19_0,hf19_0⟩:=Kd.R_celln 0 HL108_0.z (x36_3:Int) p19 q19
        replace p19:=eT p19
        replace q19:=eT q19
        have hq21:(x17_1:Int) < (x5_3.length:Int):=(by have h_:(x17_1:Int) < ((x5_3.length:Int):Int):=oD;first|exact h_|(have e_:=(Kd.S_reads' HO_5.z).1;omega)|simpa only [List.length_set,List.length_set] using h_)
        obtain ⟨oki21,ce21,hcl21,hM21,hcc21,hok21,hbk21⟩:=Kd.S_borrow HO_5.z [] (x17_1:Int) oD (by first|exact hq21|(have e_:=(Kd.S_reads' HO_5.z).1;omega))
        obtain ⟨ve21_0,rfl,ge21_0⟩:=hM21
        have hv21:=hcc21 0 _ rfl
        rw [Nat.add_zero,show ((Kd.slice 2 (Kd.int .i64))).sz=1 from rfl,Nat.mul_one] at hv21
        replace hv21:=Option.some.inj (hv21.symm.trans HX108_0.z)
        subst hv21
        clear hcc21 hcl21
        replace ge21_0:=(show Kd.R (Kd.int .i64) 2 _ _ _ _ (rd_L1 x5_3 x17_1) from ge21_0)
        have HP21:=Kd.R_putg ge21_0 (x36_3:Int) (wrap64 ((rd (rd_L1 x5_3 x17_1) x36_3)+(wrap64 ((rd (rd_L1 l0 x17_1) x24_2) * (rd (rd_L1 l1 x24_2) x36_3)))))
        go_wp2_with (first|((with_reducible refine gate_store (t:=2) (p:=52) rfl ?_);refine store_event (t:=2) (p:=52) (v:=?vo_w22) (w1:=(wr.setCell ⟨go19,(x36_3:Int).toNat,none⟩ (.int .i64 (wrap64 ((rd (rd_L1 x5_3 x17_1) x36_3)+(wrap64 ((rd (rd_L1 l0 x17_1) x24_2) * (rd (rd_L1 l1 x24_2) x36_3)))))))) ?hg ?ho ?hn ?hr ?_;(case ho=>rfl);(case hg=>rfl);(case hn=>rfl);(case hr=>first|(go_simp;done)|(go_simp;rfl));intro w22 hw;have hg:wr.grownBy w22 (some go19):=(by rw [hw];exact HP21.2);have hz_:Kd.R (Kd.int .i64) 2 w22 w.heap.size oki21 (.slice (some ⟨go19,0,none⟩) (rd_L1 x5_3 x17_1).length c108_0) y110:=(by rw [hw,Ny110.z];exact HP21.1);have hp_:Kd.S (Kd.slice 2 (Kd.int .i64)) 27 w22 w.heap.size (fun _=>True) (.slice (some ad108) x5_3.length co20) y112:=(by rw [Ny112.z];exact hbk21 hg (fun k_ e_=>by injection e_ with e_;subst e_;exact ge21_0.1 _ rfl) (Kd.M_row hz_));have hm_:=Kd.R_mono hz_ hok21;clear HP21 hbk21;replace HO_5:=k0 hp_;replace HX108_0:=k0 (cell_grown hg HX108_0.z (cell_ne (hok21 _ (ge21_0.1 _ rfl)).2));replace HB:=k0 ((by rw [hw];exact below_set (HB.z) GB19.out:Below w.heap.size w w22));have HL113:=k0 hm_;have HC111:=k0 ((Kd.R_reads' hm_).2.1);clear HL108_0;clear hg hw hp_ hz_ hm_ hok21))
        go_roundg k3
        case measure=>have:=HK1.z;have:=HK2.z;have:=HK3.z;omega
        case rel=>exact ⟨(y112),(wrap64 (x36_3+1)),rs,H',⟨by have:=HK1.z;have:=HK2.z;have:=HK3.z;omega⟩,⟨aS (HO_5.z)⟩,⟨bl⟩⟩
     have H':=k0 H
     clear H
     obtain ⟨p105,q105⟩:=iN x24_2 ((rd_L1 l0 x17_1).length:Int)
     obtain ⟨ad105,e105,hx105_0⟩:=Kd.at_int HR104_0.z x24_2 p105 q105
     cases e105
     replace hx105_0:=hbc HB hx105_0
     replace p105:=eT p105
     replace q105:=eT q105
     go_wp2
     go_roundg k2
     case measure=>have:=HK1.z;have:=HK2.z;omega
     case rel=>exact ⟨(x5_2),(wrap64 (x24_2+1)),rs,H',⟨by have:=HK1.z;have:=HK2.z;omega⟩,⟨aS (HO_5.z)⟩,⟨bl⟩⟩
end Go.Proofs.Ytgjdbnipcpmhiaa.P
/- Set with little white space, by a program. -/
