/- Go's calls come to what the Lean functions say. Condition of each: that the Lean function answers. -/
import Derived.Test.YtgjdbnipcpmhiaaPx0
import Derived.Test.YtgjdbnipcpmhiaaPx5
import Derived.Test.YtgjdbnipcpmhiaaPx6
namespace Go.Proofs.Ytgjdbnipcpmhiaa.P
open Go.RowKit Go.Proofs.YtgjdbnipcpmhiaaW.PrintWords Go.Proofs.YtgjdbnipcpmhiaaW.PrintLast Go.Proofs.YtgjdbnipcpmhiaaW.PrintMore
attribute [local go_sem] max2_int min2_int max_two min_two max_three min_three max_four min_four
set_option linter.unusedVariables false
set_option linter.unusedSimpArgs false
set_option maxHeartbeats 8000000
set_option maxRecDepth 100000
/-! ### F26: function 26 -/
mutual
def F26.l0 : Nat → List Int → Int → List Int → Int → Option (List Int × Int)
 | 0,_,_,_,_=>none
 | k+1,x0,x1,x6,x7=>if x7≤x1 then (if x7 < (x0.length:Int) then (if 0≤x7 then ((F75.f 0 (wrap64 (-x7)) (rd x0 x7)).bind fun bt108=>(F26.j1 k x0 x1 x6 x7 bt108.1 bt108.2)) else (none)) else (F26.j1 k x0 x1 x6 x7 0 true)) else (some (x6,0))
def F26.j1 : Nat → List Int → Int → List Int → Int → Int → Bool → Option (List Int × Int)
 | 0,_,_,_,_,_,_=>none
 | k+1,x0,x1,x6,x7,x8,x9=>F26.l1 k x0 x1 x6 x7 x8 x9 1
def F26.l1 : Nat → List Int → Int → List Int → Int → Int → Bool → Int → Option (List Int × Int)
 | 0,_,_,_,_,_,_,_=>none
 | k+1,x0,x1,x6,x7,x8,x9,x10=>if x10 < x7 then (if x10 < (x0.length:Int) then (if x9=true then (if 0≤x10 then (if 0≤(wrap64 ((wrap64 (x7 - x10)) - 1)) then (if (wrap64 ((wrap64 (x7 - x10)) - 1)) < (x6.length:Int) then ((F75.f x8 (wrap64 (-(rd x0 x10))) (rd x6 (wrap64 ((wrap64 (x7 - x10)) - 1)))).bind fun bt112=>(F26.l1 k x0 x1 x6 x7 bt112.1 bt112.2 (wrap64 (x10+1)))) else (none)) else (none)) else (none)) else (some (([]:List Int),3))) else (if x9=true then (if x6.length < 17592186044416 then (F26.l0 k x0 x1 (x6 ++ [x8]) (wrap64 (x7+1))) else (none)) else (some (([]:List Int),3)))) else (if x9=true then (if x6.length < 17592186044416 then (F26.l0 k x0 x1 (x6 ++ [x8]) (wrap64 (x7+1))) else (none)) else (some (([]:List Int),3)))
end
def F26.f (k:Nat) (l0:List Int) (a1:Int):Option (List Int × Int):=(F73.f k l0).bind fun t101=>(if t101=true then ((F74.f a1 0 24).bind fun t102=>(if t102=true then (if (l0.length:Int)=0 then (some (([]:List Int),5)) else (if 0 < (l0.length:Int) then (if (rd l0 0)=1 then (F26.l0 k l0 a1 (([]:List Int)) 1) else (some (([]:List Int),5))) else (none))) else (some (([]:List Int),2)))) else (some (([]:List Int),1)))
def F26.T17:Bool × List (List Nat × List Nat):=(true,[([],[]),([],[]),([],[]),([1,2],[1,2]),([3],[3]),([4],[4]),([],[]),([],[]),([],[]),([7,8],[7,8]),([9],[9]),([6,10],[6,10]),([11],[11]),([0,5,12],[0,5,12]),([13],[13]),([14],[14]),([14],[14]),([15,13,0,1,2,3,4,5,6,7,8,9,10,11,12,13,14,15],[0,15]),([16,17,0,1,2,3,4,5,6,7,8,9,10,11,12,13,14,15,16,17],[16])])
def F26.B17:List Nat:=[0,0,0,6,14,30,0,0,0,384,896,1984,4032,8191,16383,32767,32767,65535,262143]
theorem F26.tab17:rtab .any (opsOf Try.f26 17)=F26.T17:=by kernel_rfl
theorem F26.bits17:waitsOk F26.T17.2 F26.B17=true:=by kernel_rfl
theorem F26.calls (k : Nat) (A0 : Option Addr) (c0 : Nat) (l0 : List Int) (a1 : Int) (r1 : List Int) (r2 : Int) (w : World) (hr0 : Kd.C (Kd.int .i64) w A0 l0.length l0) (hc0 : l0.length ≤ c0) (h : F26.f k l0 a1 = some (r1, r2)) :
  Calls Try.prog 26 #[.slice A0 l0.length c0,.int .i64 a1] w fun e w'=>∃ v0_:Value,e=.returned (.tuple #[v0_,.int .i64 r2])∧Kd.R (Kd.int .i64) 2 w' w.heap.size (fun _=>True) v0_ r1∧Below w.heap.size w w':=by
 have HR0:=k0 hr0
 have HC0:=k0 hc0
 clear hr0 hc0
 have HB:=k0 (Below.refl w.heap.size w)
 unfold F26.f at h
 have H:=h
 clear h
 replace H:=bS H;obtain ⟨t101,A3,H⟩:=H
 cases t101
 case false =>
  replace H:=iF H
  obtain ⟨rfl,rfl⟩:=zSo H
  go_enter Try.func26,Try.ntmps26
  go_wp2_with (first|(refine gate_callee (f:=73) rfl ?_;refine gC (some 13) Try.func73 #[.slice A0 l0.length c0] ?_;(with_reducible refine (F73.calls k _ _ l0 false _ ?side1 ?side2 A3.z).mono ?_);(case side1=>exact aC HR0.z);(case side2=>exact HC0.z);rintro e w' ⟨rfl,⟨nd,rfl⟩⟩;refine ⟨_,rfl,?_⟩))
  go_ret2
  exact ⟨_,eR,by first|exact Kd.R_nil _ _ _ _ _|exact Kd.N_nil _ _ _ _ _|exact Kd.V_nil _ _ _ _ _|exact Kd.Q_nil _ _ _ _ _|exact Kd.S_nil _ _ _ _ _,bl⟩
 replace H:=iT H
 replace H:=bS H;obtain ⟨t102,A5,H⟩:=H
 cases t102
 case false =>
  replace H:=iF H
  obtain ⟨rfl,rfl⟩:=zSo H
  go_enter Try.func26,Try.ntmps26
  go_wp2_with (first|(refine gate_callee (f:=73) rfl ?_;refine gC (some 13) Try.func73 #[.slice A0 l0.length c0] ?_;(with_reducible refine (F73.calls k _ _ l0 true _ ?side1 ?side2 A3.z).mono ?_);(case side1=>exact aC HR0.z);(case side2=>exact HC0.z);rintro e w' ⟨rfl,⟨nd,rfl⟩⟩;refine ⟨_,rfl,?_⟩)|(refine gate_callee (f:=74) rfl ?_;refine gC (some 17) Try.func74 #[.int .i64 a1,.int .i64 0,.int .i64 24] ?_;(with_reducible refine (F74.calls a1 0 24 false _ A5.z).mono ?_);rintro e w' ⟨rfl,⟨nd,rfl⟩⟩;refine ⟨_,rfl,?_⟩))
  go_ret2
  exact ⟨_,eR,by first|exact Kd.R_nil _ _ _ _ _|exact Kd.N_nil _ _ _ _ _|exact Kd.V_nil _ _ _ _ _|exact Kd.Q_nil _ _ _ _ _|exact Kd.S_nil _ _ _ _ _,bl⟩
 replace H:=iT H
 replace H:=iE H;obtain ⟨c7,c7b0,c7b1,H⟩|⟨c7b0,c7b1,H⟩:=H
 case inl =>
  have c7b2:¬ (l0=[]):=fun h_=>c7 (by rw [h_];rfl)
  replace H:=iS H;obtain ⟨c8,H⟩:=H
  have c8b0:=decide_eq_true c8
  have c8b1:decide (0 < l0.length)=true:=decide_eq_true (by omega)
  clear c8
  replace H:=iE H;obtain ⟨c9,c9b0,c9b1,H⟩|⟨c9b0,c9b1,H⟩:=H
  case inl =>
   obtain ⟨rfl,rfl⟩:=zSo H
   go_enter Try.func26,Try.ntmps26
   go_wp2_with (first|(refine gate_callee (f:=73) rfl ?_;refine gC (some 13) Try.func73 #[.slice A0 l0.length c0] ?_;(with_reducible refine (F73.calls k _ _ l0 true _ ?side1 ?side2 A3.z).mono ?_);(case side1=>exact aC HR0.z);(case side2=>exact HC0.z);rintro e w' ⟨rfl,⟨nd,rfl⟩⟩;refine ⟨_,rfl,?_⟩)|(refine gate_callee (f:=74) rfl ?_;refine gC (some 17) Try.func74 #[.int .i64 a1,.int .i64 0,.int .i64 24] ?_;(with_reducible refine (F74.calls a1 0 24 true _ A5.z).mono ?_);rintro e w' ⟨rfl,⟨nd,rfl⟩⟩;refine ⟨_,rfl,?_⟩;have p103:0≤(0:Int):=(by omega);have q103:0 < (l0.length:Int):=oD;obtain ⟨ad103,e103,hx103_0⟩:=Kd.at_int HR0.z 0 p103 q103;cases e103;have qi103:(0 < l0.length)=True:=eq_true (by omega);(try rw [show ((0:Int)).toNat=0 from rfl] at hx103_0);(try rw [Addr.add_zero'] at hx103_0);replace p103:=eT p103;replace q103:=eT q103))
   go_ret2
   exact ⟨_,eR,by first|exact Kd.R_nil _ _ _ _ _|exact Kd.N_nil _ _ _ _ _|exact Kd.V_nil _ _ _ _ _|exact Kd.Q_nil _ _ _ _ _|exact Kd.S_nil _ _ _ _ _,bl⟩
  obtain ⟨y104,Ny104⟩:=nY (([]:List Int):List Int)
  replace H:(F26.l0 k l0 a1 y104 1)=some (r1,r2):=rH Ny104.z H
  have H':=k0 H
  clear H
  go_enter Try.func26,Try.ntmps26
  go_wp2_with (first|(refine gate_callee (f:=73) rfl ?_;refine gC (some 13) Try.func73 #[.slice A0 l0.length c0] ?_;(with_reducible refine (F73.calls k _ _ l0 true _ ?side1 ?side2 A3.z).mono ?_);(case side1=>exact aC HR0.z);(case side2=>exact HC0.z);rintro e w' ⟨rfl,⟨nd,rfl⟩⟩;refine ⟨_,rfl,?_⟩)|(refine gate_callee (f:=74) rfl ?_;refine gC (some 17) Try.func74 #[.int .i64 a1,.int .i64 0,.int .i64 24] ?_;(with_reducible refine (F74.calls a1 0 24 true _ A5.z).mono ?_);rintro e w' ⟨rfl,⟨nd,rfl⟩⟩;refine ⟨_,rfl,?_⟩;have p103:0≤(0:Int):=(by omega);have q103:0 < (l0.length:Int):=oD;obtain ⟨ad103,e103,hx103_0⟩:=Kd.at_int HR0.z 0 p103 q103;cases e103;have qi103:(0 < l0.length)=True:=eq_true (by omega);(try rw [show ((0:Int)).toNat=0 from rfl] at hx103_0);(try rw [Addr.add_zero'] at hx103_0);replace p103:=eT p103;replace q103:=eT q103)|(refine gate_dst (N:=29) rfl ?_;(try (refine gate_guard (by rfl) ?_;dsimp only));refine zRt 2 (N:=29) (xs:=([]:List Int)) (inner:=[]) (Reps.none _ _) ?_;intro v105 w10 ho11 hb hg_ hnew_;clear hg_ hnew_;(first|rw [← Ny104.z] at ho11|(simp only [Int.reduceToNat] at ho11;rw [← Ny104.z] at ho11));have HO106:=k0 (Kd.R_lower ho11 (below_size bl));replace HB:=bW hb;clear hb ho11))
  go_loopg [6,7] k (fun kq v6 v7 w'=>∃ (x6_1:List Int) (x7_1:Int),v7=.int .i64 x7_1∧Aside0 (F26.l0 kq l0 a1 x6_1 x7_1=some (r1,r2))∧Aside0 (kq≤k)∧Aside0 (Kd.R (Kd.int .i64) 2 w' w.heap.size (fun _=>True) v6 x6_1)∧Aside0 (Below w.heap.size w w'))
  case atStart=>exact ⟨(y104),(1),rs,H',⟨Nat.le_refl _⟩,⟨aR (HO106.z)⟩,⟨bl⟩⟩
  case round =>
   clear H'
   obtain ⟨x6_1,x7_1,rfl,HA,HK1,HO_6,HB⟩:=hrel
   cases gk with
   | zero=>exact absurd HA.z (by simp [F26.l0])
   | succ k1 =>
    have H:=HA.z
    clear HA
    simp only [F26.l0] at H
    replace H:=iC H;obtain ⟨c12b0,H⟩|⟨c12b0,H⟩:=H
    case inl =>
     obtain ⟨rfl,rfl⟩:=zSo H
     go_wp2
     go_ret2
     exact ⟨_,eR,aR HO_6.z,bl⟩
    have HC13:=k0 H
    clear H
    go_upto_if 38 with (fail)
    go_cut [8,9] (fun v8 v9 wc=>∃ (kq:Nat) (x8_12:Int) (x9_12:Bool),v8=.int .i64 x8_12∧v9=.bool x9_12∧Aside0 (F26.j1 kq l0 a1 x6_1 x7_1 x8_12 x9_12=some (r1,r2))∧Aside0 (kq≤k1)∧Aside0 (Kd.R (Kd.int .i64) 2 wc w.heap.size (fun _=>True) u6 x6_1)∧Aside0 (Below w.heap.size w wc))
    case first =>
     have H:=HC13.z
     clear HC13
     replace H:=iC H;obtain ⟨c14b0,H⟩|⟨c14b0,H⟩:=H
     case inl =>
      (first|rw [c14b0]|(simp only [i64_w,i32_w];rw [c14b0])|skip)
      have H':=k0 H
      clear H
      go_wp2
      go_meet
      case rel=>exact ⟨_,(0),(true),rs,rs,(by first|exact H'|(rw [hji22];exact H')),⟨by have:=HK1.z;first|omega|exact Nat.le_refl _⟩,⟨aR (HO_6.z)⟩,⟨bl⟩⟩
     (first|rw [c14b0]|(simp only [i64_w,i32_w];rw [c14b0])|skip)
     replace H:=iS H;obtain ⟨c15,H⟩:=H
     have c15b0:=decide_eq_true c15
     clear c15
     replace H:=bS H;obtain ⟨⟨t108,t109⟩,A16,H⟩:=H
     dsimp only at H
     have H':=k0 H
     clear H
     obtain ⟨p107,q107⟩:=iN x7_1 (l0.length:Int)
     obtain ⟨ad107,e107,hx107_0⟩:=Kd.at_int HR0.z x7_1 p107 q107
     obtain rfl:ad103=ad107:=(by injection e107)
     replace hx107_0:=hbc HB hx107_0
     replace p107:=eT p107
     replace q107:=eT q107
     go_wp2_with (first|(refine gate_callee (f:=75) rfl ?_;refine gC (some 46) Try.func75 #[.int .i64 0,.int .i64 (wrap64 (-x7_1)),.int .i64 (rd l0 x7_1)] ?_;(with_reducible refine (F75.calls 0 (wrap64 (-x7_1)) (rd l0 x7_1) t108 t109 _ A16.z).mono ?_);rintro e w17 ⟨rfl,hb⟩;refine ⟨_,rfl,?_⟩;replace HO_6:=bwR HO_6 hb;replace HB:=bW hb))
     go_meet
     case rel=>exact ⟨_,(t108),(t109),rs,rs,(by first|exact H'|(rw [hji22];exact H')),⟨by have:=HK1.z;first|omega|exact Nat.le_refl _⟩,⟨aR (HO_6.z)⟩,⟨bl⟩⟩
    case rest =>
     clear HC13
     obtain ⟨kq,x8_12,x9_12,rfl,rfl,HA,HJ12,HO_6,HB⟩:=hcut
     cases kq with
     | zero=>exact absurd HA.z (by simp [F26.j1])
     | succ kj12 =>
      have H:=HA.z
      clear HA
      simp only [F26.j1] at H
      have H':=k0 H
      clear H
      go_wp2
      go_loopg [8,9,10] kj12 (fun kq v8 v9 v10 w'=>∃ (x8_3:Int) (x9_3:Bool) (x10_3:Int),v8=.int .i64 x8_3∧v9=.bool x9_3∧v10=.int .i64 x10_3∧Aside0 (F26.l1 kq l0 a1 x6_1 x7_1 x8_3 x9_3 x10_3=some (r1,r2))∧Aside0 (kq≤kj12)∧Aside0 (Kd.R (Kd.int .i64) 2 w' w.heap.size (fun _=>True) u6 x6_1)∧Aside0 (Below w.heap.size w w'))
      case atStart=>exact ⟨(x8_12),(x9_12),(1),rs,rs,rs,H',⟨Nat.le_refl _⟩,⟨aR (HO_6.z)⟩,⟨bl⟩⟩
      case round =>
       clear H'
       obtain ⟨x8_3,x9_3,x10_3,rfl,rfl,rfl,HA,HK3,HO_6,HB⟩:=hrel
       cases gk with
       | zero=>exact absurd HA.z (by simp [F26.l1])
       | succ k3 =>
        have H:=HA.z
        clear HA
        simp only [F26.l1] at H
        replace H:=iC H;obtain ⟨c18b0,H⟩|⟨c18b0,H⟩:=H
        case inl =>
         cases x9_3
         case false =>
          replace H:=iF H
          obtain ⟨rfl,rfl⟩:=zSo H
          go_wp2
          go_ret2
          exact ⟨_,eR,by first|exact Kd.R_nil _ _ _ _ _|exact Kd.N_nil _ _ _ _ _|exact Kd.V_nil _ _ _ _ _|exact Kd.Q_nil _ _ _ _ _|exact Kd.S_nil _ _ _ _ _,bl⟩
         replace H:=iT H
         replace H:=iS H;obtain ⟨c33,H⟩:=H
         have LMc33:=k0 c33
         clear c33
         obtain ⟨y117,Ny117⟩:=nY (x6_1 ++ [x8_3]:List Int)
         replace H:(F26.l0 k3 l0 a1 y117 (wrap64 (x7_1+1)))=some (r1,r2):=rH Ny117.z H
         have H':=k0 H
         clear H
         go_wp2_with (first|((with_reducible refine gate_builtin (b:=.append) (xs:=#[.tmp 82,.tmp 84]) rfl ?_);(try (refine gate_guard (by rfl) ?_;dsimp only));at_builtin;refine Kd.R_append (Kd.int .i64) (w0:=w) w.heap.size rfl (.tmp 82) (.tmp 84) 27 2 (.int .i64 0) 8 rfl Try.underlying27 info2 rfl (by decide) (by omega) u6 x6_1 x8_3 [.int .i64 x8_3] (fun _=>True) (fun _=>False) rfl rfl ?aP (fun _ hk=>hk.elim) ?aF ?aO ?aB ?aS ?aL ?_;(case aP=>exact rfl);(case aB=>exact bl);(case aF=>exact (fun _ _=>trivial));(case aO=>exact (aR HO_6.z));(case aS=>exact (below_size bl));(case aL=>have:=LMc33.out;omega);intro v118 w34 ho hb hg hat;rw [← Ny117.z] at ho;replace HB:=k0 hb;have HO119:=k0 ho;clear HO_6;clear ho hb hg hat))
         first|go_roundg k3|(simp only [← hji22];go_roundg k3)
         case measure=>have:=HK1.z;have:=HJ12.out;have:=HK3.z;omega
         case rel=>exact ⟨(y117),(wrap64 (x7_1+1)),rs,(by first|exact H'|(rw [hji22];exact H')),⟨by have:=HK1.z;have:=HJ12.out;have:=HK3.z;omega⟩,⟨aR (HO119.z)⟩,⟨bl⟩⟩
        replace H:=iC H;obtain ⟨c19b0,H⟩|⟨c19b0,H⟩:=H
        case inl =>
         cases x9_3
         case false =>
          replace H:=iF H
          obtain ⟨rfl,rfl⟩:=zSo H
          go_wp2
          go_ret2
          exact ⟨_,eR,by first|exact Kd.R_nil _ _ _ _ _|exact Kd.N_nil _ _ _ _ _|exact Kd.V_nil _ _ _ _ _|exact Kd.Q_nil _ _ _ _ _|exact Kd.S_nil _ _ _ _ _,bl⟩
         replace H:=iT H
         replace H:=iS H;obtain ⟨c30,H⟩:=H
         have LMc30:=k0 c30
         clear c30
         obtain ⟨y114,Ny114⟩:=nY (x6_1 ++ [x8_3]:List Int)
         replace H:(F26.l0 k3 l0 a1 y114 (wrap64 (x7_1+1)))=some (r1,r2):=rH Ny114.z H
         have H':=k0 H
         clear H
         go_wp2_with (first|((with_reducible refine gate_builtin (b:=.append) (xs:=#[.tmp 82,.tmp 84]) rfl ?_);(try (refine gate_guard (by rfl) ?_;dsimp only));at_builtin;refine Kd.R_append (Kd.int .i64) (w0:=w) w.heap.size rfl (.tmp 82) (.tmp 84) 27 2 (.int .i64 0) 8 rfl Try.underlying27 info2 rfl (by decide) (by omega) u6 x6_1 x8_3 [.int .i64 x8_3] (fun _=>True) (fun _=>False) rfl rfl ?aP (fun _ hk=>hk.elim) ?aF ?aO ?aB ?aS ?aL ?_;(case aP=>exact rfl);(case aB=>exact bl);(case aF=>exact (fun _ _=>trivial));(case aO=>exact (aR HO_6.z));(case aS=>exact (below_size bl));(case aL=>have:=LMc30.out;omega);intro v115 w31 ho hb hg hat;rw [← Ny114.z] at ho;replace HB:=k0 hb;have HO116:=k0 ho;clear HO_6;clear ho hb hg hat))
         first|go_roundg k3|(simp only [← hji22];go_roundg k3)
         case measure=>have:=HK1.z;have:=HJ12.out;have:=HK3.z;omega
         case rel=>exact ⟨(y114),(wrap64 (x7_1+1)),rs,(by first|exact H'|(rw [hji22];exact H')),⟨by have:=HK1.z;have:=HJ12.out;have:=HK3.z;omega⟩,⟨aR (HO116.z)⟩,⟨bl⟩⟩
        cases x9_3
        case false =>
         replace H:=iF H
         obtain ⟨rfl,rfl⟩:=zSo H
         go_wp2
         go_ret2
         exact ⟨_,eR,by first|exact Kd.R_nil _ _ _ _ _|exact Kd.N_nil _ _ _ _ _|exact Kd.V_nil _ _ _ _ _|exact Kd.Q_nil _ _ _ _ _|exact Kd.S_nil _ _ _ _ _,bl⟩
        replace H:=iT H
        replace H:=iS H;obtain ⟨c21,H⟩:=H
        have c21b0:=decide_eq_true c21
        clear c21
        obtain ⟨ji22,hji22⟩:∃ j_:Int,(wrap64 ((wrap64 (x7_1 - x10_3)) - 1))=j_:=⟨_,rfl⟩
        replace H:(if 0≤(ji22) then (if (ji22) < (x6_1.length:Int) then ((F75.f x8_3 (wrap64 (-(rd l0 x10_3))) (rd x6_1 (ji22))).bind fun bt112=>(F26.l1 k3 l0 a1 x6_1 x7_1 bt112.1 bt112.2 (wrap64 (x10_3+1)))) else (none)) else (none))=some (r1,r2):=by first|(rw [hji22] at H;exact H)|(simp only [hji22] at H ⊢;exact H)
        have hji22w:(IntKind.i64.wrap ((wrap64 (x7_1 - x10_3)) - 1))=ji22:=(i64_w _).trans hji22
        replace H:=iS H;obtain ⟨c23,H⟩:=H
        have c23b0:=decide_eq_true c23
        clear c23
        replace H:=iS H;obtain ⟨c24,H⟩:=H
        have c24b0:=decide_eq_true c24
        clear c24
        replace H:=bS H;obtain ⟨⟨t112,t113⟩,A25,H⟩:=H
        dsimp only at H
        have H':=k0 H
        clear H
        try go_wp2
        replace HO_6:=k0 (Kd.R_drew HO_6.z);replace HB:=k0 (below_drew1 HB.z)
        obtain ⟨p110,q110⟩:=iN x10_3 (l0.length:Int)
        obtain ⟨ad110,e110,hx110_0⟩:=Kd.at_int HR0.z x10_3 p110 q110
        have hw110_0:=hx110_0
        obtain rfl:ad103=ad110:=(by injection e110)
        replace hx110_0:=hbc HB hx110_0
        replace p110:=eT p110
        replace q110:=eT q110
        obtain ⟨Ao27,co27,eo27⟩:=Kd.R_slice HO_6.z
        (first|subst eo27|(injection eo27 with f1_ f2_ f3_;have f4_:=f1_.symm;have f5_:=f3_.symm;clear f1_ f2_ f3_;subst f4_;subst f5_))
        have p111:0≤((ji22):Int):=oD
        have q111:(ji22) < (x6_1.length:Int):=oD
        obtain ⟨ad111,e111,hx111_0⟩:=Kd.at_int (Kd.R_reads' HO_6.z).2.2 (ji22) p111 q111
        cases e111
        replace p111:=eT p111
        replace q111:=eT q111
        refine start_ (n:=19) (S:=fun w'=>w'.cell? (ad103.add (x10_3).toNat)=some (.int .i64 (rd l0 x10_3))∧w'.cell? (ad111.add ((ji22)).toNat)=some (.int .i64 (rd x6_1 (ji22)))) (ds:=[]) (ba 19 0) (by kernel_rfl) rfl rfl ⟨(hbc HB hw110_0 :),hx111_0⟩ (fun hHeld=>?_);refine with_tabW F26.tab17 F26.bits17 (fun HT_ HW_=>?_)
        generalize wr.drew=w26 at HO_6 HB hx110_0 hx111_0 hHeld ⊢
        refine pu 0 (some 64) (ba 19 1) HT_ (h:=?_)
        refine pu 1 (some 65) (ba 19 3) HT_ (h:=?_)
        refine pu 2 (some 66) (ba 19 7) HT_ (h:=?_)
        refine pu 3 (some 67) (ba 19 15) HT_ (h:=?_)
        refine pu 6 (some 70) (ba 19 79) HT_ (h:=?_)
        refine pu 7 (some 71) (ba 19 207) HT_ (h:=?_)
        refine pu 8 (some 72) (ba 19 463) HT_ (h:=?_)
        refine pu 9 (some 73) (ba 19 975) HT_ (h:=?_)
        refine pu 10 (some 74) (ba 19 1999) HT_ (h:=?_)
        refine pu 11 (some 75) (ba 19 4047) HT_ (h:=?_)
        refine zT2 4 (some 68) (ba 19 4063) HT_ HW_ hHeld (h:=?_)
        refine pu 5 (some 69) (ba 19 4095) HT_ (h:=?_)
        refine zT2 12 (some 76) (ba 19 8191) HT_ HW_ hHeld (h:=?_)
        refine one_ (i:=13) (N:=some 77) (ba 19 16383) rfl rfl (one_of HT_.out (by kernel_rfl)) (by decide) (fun K hK=>?_)
        refine goes_ Try.func75 (by kernel_rfl) rfl #[.int .i64 x8_3,.int .i64 (wrap64 (-(rd l0 x10_3))),.int .i64 (rd x6_1 (ji22))] (by rfl) rfl rfl (by (try simp only [List.map_toArray,List.map_cons,List.map_nil]);first|done|(simp only [hji22];rfl)|rfl|(simp only [List.length_drop,List.length_take];rfl)) ?_
        with_reducible refine (F75.calls x8_3 (wrap64 (-(rd l0 x10_3))) (rd x6_1 (ji22)) t112 t113 _ A25.z).mono ?_
        rintro e w28 ⟨rfl,hb⟩
        have HS1_:=(hb.cell (World.block_lt_of_cell? _ _ (hHeld.2))).trans (hHeld.2)
        refine ⟨_,rfl,?_⟩
        replace HO_6:=bwR HO_6 hb;replace HB:=bW hb
        refine hK.out _ _ ⟨(hbc HB hw110_0 :),HS1_⟩ (fun hHeld=>?_)
        clear hK K
        refine norm_ (a':=?_) ?_ ?_
        rotate_left;· show Act.put _ (some 77) _=_;simp only [Act.put,zI,zZ,zS,i64_w,i32_w];rfl
        refine pu 14 (some 63) (ba 19 32767) HT_ (h:=?_)
        refine pu 15 (some 78) (ba 19 65535) HT_ (h:=?_)
        refine pu 16 (some 79) (ba 19 131071) HT_ (h:=?_)
        refine pu 17 (some 8) (ba 19 262143) HT_ (h:=?_)
        refine pu 18 (some 9) (ba 19 524287) HT_ (h:=?_)
        refine done_ (done_of HT_.out (by kernel_rfl)) ?_
        try go_wp2
        first|go_roundg k3|(simp only [← hji22];go_roundg k3)
        case measure=>have:=HK1.z;have:=HJ12.out;have:=HK3.z;omega
        case rel=>exact ⟨(t112),(t113),(wrap64 (x10_3+1)),rs,rs,rs,(by first|exact H'|(rw [hji22];exact H')),⟨by have:=HK1.z;have:=HJ12.out;have:=HK3.z;omega⟩,⟨aR (HO_6.z)⟩,⟨bl⟩⟩
 obtain ⟨rfl,rfl⟩:=zSo H
 go_enter Try.func26,Try.ntmps26
 go_wp2_with (first|(refine gate_callee (f:=73) rfl ?_;refine gC (some 13) Try.func73 #[.slice A0 l0.length c0] ?_;(with_reducible refine (F73.calls k _ _ l0 true _ ?side1 ?side2 A3.z).mono ?_);(case side1=>exact aC HR0.z);(case side2=>exact HC0.z);rintro e w' ⟨rfl,⟨nd,rfl⟩⟩;refine ⟨_,rfl,?_⟩)|(refine gate_callee (f:=74) rfl ?_;refine gC (some 17) Try.func74 #[.int .i64 a1,.int .i64 0,.int .i64 24] ?_;(with_reducible refine (F74.calls a1 0 24 true _ A5.z).mono ?_);rintro e w' ⟨rfl,⟨nd,rfl⟩⟩;refine ⟨_,rfl,?_⟩))
 go_ret2
 exact ⟨_,eR,by first|exact Kd.R_nil _ _ _ _ _|exact Kd.N_nil _ _ _ _ _|exact Kd.V_nil _ _ _ _ _|exact Kd.Q_nil _ _ _ _ _|exact Kd.S_nil _ _ _ _ _,bl⟩
/-! ### F76: function 76 -/
def smBad (x:Int):Bool:=!(decide ((-1000000000000000)≤x) && decide (x≤1000000000000000))
theorem sm_pred (x:Int) (w1:World):Calls Try.prog 109 #[.int .i64 x] w1 fun e w'=>e=.returned (.bool (smBad x))∧Drawn0 w1 w':=by
 have h:F106.f x=some (decide ((-1000000000000000)≤x) && decide (x≤1000000000000000)):=by
  unfold F106.f F70.f
  by_cases h1:(-1000000000000000)≤x<;>simp [h1]
 have HX:Aside0 (smBad x=!(decide ((-1000000000000000)≤x) && decide (x≤1000000000000000))):=⟨rfl⟩
 generalize (decide ((-1000000000000000)≤x) && decide (x≤1000000000000000))=b at h HX
 go_enter Try.func109,Try.ntmps109
 go_wp2_with (go_at_call 106;refine (F106.calls _ b _ h).mono ?_;rintro e w' ⟨rfl,⟨nd,rfl⟩⟩)
 go_ret
 exact ⟨by rw [HX.z];rfl,dW⟩
theorem sm_idx (p : Int → Bool) (A : Option Addr) (c : Nat) (l : List Int) (w : World) (hr : Kd.C (Kd.int .i64) w A l.length l)
 (hp:∀ x w1,Below w.heap.size w w1→Calls Try.prog 109 #[.int .i64 x] w1 fun e w'=>e=.returned (.bool (p x))∧Below w1.heap.size w1 w') :
 Calls Try.prog 119 #[.slice A l.length c,.func (.func 109) #[] #[]] w fun e w'=>e=.returned (.int .i64 (idxFrom p l 0))∧Below w.heap.size w w':=by
 have HR:=k0 hr
 have HP:=k0 hp
 have hlen:l.length≤9223372036854775807:=hr.2.1
 clear hr hp
 go_enter Try.func119,Try.ntmps119
 go_wp2_with fail
 go_loopw [8] (fun i wr=>∃ k:Nat,k≤l.length∧i=.int .i64 k∧Aside0 (idxFrom p (l.drop k) k=idxFrom p l 0)∧Aside0 (Below w.heap.size w wr)) (fun i _=>l.length - (intOf i).toNat)
 case atStart=>exact ⟨0,Nat.zero_le _,rfl,⟨by simp⟩,⟨Below.refl _ _⟩⟩
 case round =>
  obtain ⟨k,hk,rfl,HI,HB⟩:=hrel
  by_cases hlt:k < l.length
  case neg =>
   have HD:Aside0 (idxFrom p l 0=-1):=⟨by rw [← HI.z,List.drop_of_length_le (by omega)];rfl⟩
   have hb:decide (k < l.length)=false:=by simp;omega
   go_wp2
   go_ret
   exact ⟨by rw [HD.out];rfl,HB.z⟩
  obtain ⟨ad,e,hcell⟩:=Kd.at_int (Kd.C_below HR.z HB.z) k (by omega) (by omega)
  cases e
  rw [Int.toNat_natCast] at hcell
  cases hpx:p (rd l k) with
  | true =>
   have HD:Aside0 (idxFrom p l 0=k):=⟨by rw [← HI.z,idxFrom_drop p l k hlt,hpx];rfl⟩
   have HX:=k0 hpx
   clear hpx
   go_wp2_with (go_at_call 109;refine (HP.out _ _ HB.z).mono ?_;rw [HX.z];rintro e w' ⟨rfl,hb_⟩;have HB2:=k0 (below_step HB.z hb_);clear hb_)
   go_ret
   exact ⟨by rw [HD.out];rfl,HB2.z⟩
  | false =>
   have HD:Aside0 (idxFrom p (l.drop (k+1)) (k+1)=idxFrom p l 0):=⟨by rw [← HI.z,idxFrom_drop p l k hlt,hpx];rfl⟩
   have HX:=k0 hpx
   clear hpx
   go_wp2_with (go_at_call 109;refine (HP.out _ _ HB.z).mono ?_;rw [HX.z];rintro e w' ⟨rfl,hb_⟩;have HB2:=k0 (below_step HB.z hb_);clear hb_)
   go_roundw
   case rel=>exact ⟨k+1,by omega,by go_num,HD,HB2⟩
   case measure=>simp [intOf];omega
theorem sm_cont (p : Int → Bool) (A : Option Addr) (c : Nat) (l : List Int) (w : World) (hr : Kd.C (Kd.int .i64) w A l.length l)
 (hp:∀ x w1,Below w.heap.size w w1→Calls Try.prog 109 #[.int .i64 x] w1 fun e w'=>e=.returned (.bool (p x))∧Below w1.heap.size w1 w') :
 Calls Try.prog 108 #[.slice A l.length c,.func (.func 109) #[] #[]] w fun e w'=>e=.returned (.bool (l.any p))∧Below w.heap.size w w':=by
 have HC:=sm_idx p A c l w hr hp
 have HX:Aside0 (l.any p=decide (0≤idxFrom p l 0)):=⟨(idxFrom_any p l 0).symm⟩
 have HC':=k0 HC
 clear HC hr hp
 go_enter Try.func108,Try.ntmps108
 go_wp2_with (go_at_call 119;refine HC'.z.mono ?_;rintro e w' ⟨rfl,hb_⟩;have HB2:=k0 hb_;clear hb_)
 go_ret
 exact ⟨by rw [HX.z];rfl,HB2.z⟩
def F76.f (l0:List Int):Option Bool:=some (decide ((l0.length:Int)≤24) && !(l0.any smBad))
theorem F76.calls (A0 : Option Addr) (c0 : Nat) (l0 : List Int) (r : Bool) (w : World) (hr0 : Kd.C (Kd.int .i64) w A0 l0.length l0) (hc0 : l0.length ≤ c0) (h : F76.f l0 = some r) :
  Calls Try.prog 76 #[.slice A0 l0.length c0] w fun e w'=>e=.returned (.bool r)∧Below w.heap.size w w':=by
 have HR:=k0 hr0
 clear hr0
 obtain rfl:=Option.some.inj h
 clear h
 by_cases hl:decide ((l0.length:Int)≤24)=true
 case neg =>
  have hl':decide ((l0.length:Int)≤24)=false:=by simpa using hl
  have HX:Aside0 ((decide ((l0.length:Int)≤24) && !(l0.any smBad))=false):=⟨by rw [hl'];rfl⟩
  clear hl
  go_enter Try.func76,Try.ntmps76
  go_wp2
  go_ret
  exact ⟨by rw [HX.z];rfl,Below.refl _ _⟩
 have HX:Aside0 ((decide ((l0.length:Int)≤24) && !(l0.any smBad))=!(l0.any smBad)):=⟨by rw [hl];rfl⟩
 have HC:=fun W h=>sm_cont smBad A0 c0 l0 W h (fun x w1 _=>(sm_pred x w1).mono fun e w' ⟨h1,h2⟩=>⟨h1,h2.below⟩)
 have HC':=k0 HC
 clear HC
 go_enter Try.func76,Try.ntmps76
 go_wp2_with (go_at_call 108;refine (HC'.z _ HR.z).mono ?_;rintro e w' ⟨rfl,hb_⟩;have HB2:=k0 hb_;clear hb_)
 go_ret
 exact ⟨by rw [HX.z];rfl,HB2.z⟩
/-! ### F52: function 52 -/
theorem clone_nil (w:World) (a:Option Addr) (n c:Nat):(binOp .eql 27 (.slice a n c) (.slice none 0 0)).run Try.prog w=.ok (.bool a.isNone) w:=Lib.run_eql_slice_nil w _ _ a n c 0 0 Try.underlying27
def F52.f (l0:List Int):Option (List Int):=if l0.length < 17592186044416 then some l0 else none
theorem F52.calls (A0 : Option Addr) (c0 : Nat) (l0 : List Int) (r : List Int) (w : World) (hr0 : Kd.C (Kd.int .i64) w A0 l0.length l0) (hc0 : l0.length ≤ c0) (h : F52.f l0 = some r) :
  Calls Try.prog 52 #[.slice A0 l0.length c0] w fun e w'=>∃ v0_:Value,e=.returned (v0_)∧Kd.R (Kd.int .i64) 2 w' w.heap.size (fun _=>True) v0_ r∧Below w.heap.size w w':=by
 have HR0:=k0 hr0
 have HC0:=k0 hc0
 clear hr0 hc0
 unfold F52.f at h
 by_cases c2:l0.length < 17592186044416
 case neg =>
  rw [if_neg c2] at h
  exact absurd h (by simp)
 rw [if_pos c2] at h
 obtain rfl:=Option.some.inj h
 clear h
 cases A0 with
 | none =>
  have hn:l0=[]:=by
   by_cases hz:l0.length=0
   case neg =>
    obtain ⟨ad,e,_⟩:=Kd.at_int HR0.z 0 (by omega) (by omega)
    cases e
   exact List.eq_nil_of_length_eq_zero hz
  subst hn
  have q_:=clone_nil
  go_enter Try.func52,Try.ntmps52
  go_wp2
  go_ret
  exact ⟨_,rfl,Kd.R_nil _ _ _ _ _,Below.refl _ _⟩
 | some ad =>
  have HB:=k0 (Below.refl w.heap.size w)
  have LMc2:=k0 c2
  clear c2
  have q_:=clone_nil
  go_enter Try.func52,Try.ntmps52
  go_wp2_with (first|(refine gate_dst (N:=5) rfl ?_;refine zRt 2 (N:=5) (xs:=([]:List Int)) (inner:=[]) (Reps.none _ _) ?_;intro v102 w3 ho4 hb hg_ hnew_;clear hg_ hnew_;have HO103:=k0 (Kd.R_lower ho4 (below_size bl));replace HB:=bW hb;clear hb ho4)|((with_reducible refine gate_builtin (b:=.append) (xs:=#[.tmp 5,.tmp 6]) rfl ?_);at_builtin;refine Kd.R_append_rows (Kd.int .i64) (w0:=w) w.heap.size rfl (.tmp 5) (.tmp 6) 27 2 (.int .i64 0) 8 rfl Try.underlying27 info2 rfl (by decide) (by omega) v102 ([]:List Int) l0 _ _ _ (fun _=>True) (fun _=>False) rfl rfl ?aO ?aR (fun _ _ h=>h) (fun _ h=>h.elim) ?aF ?aB ?aS ?aL ?_;(case aR=>repeat (first|exact (Kd.C_below HR0.z HB.z)|(with_reducible refine Kd.C_alloc ?_ _)|(with_reducible refine Kd.C_drewN ?_ _)|(with_reducible refine Kd.C_drew ?_)));(case aB=>exact bl);(case aF=>exact (fun _ _=>trivial));(case aO=>exact (aR HO103.z));(case aS=>exact (below_size bl));(case aL=>have:=LMc2.out;simp;omega);intro v105 w5 ho hb hg hat;rw [List.nil_append] at ho;replace HB:=k0 hb;have HO106:=k0 ho;clear HO103;clear ho hb hg hat))
  go_ret
  exact ⟨_,by first|rfl|(simp;done),aR HO106.z,bl⟩
end Go.Proofs.Ytgjdbnipcpmhiaa.P
/- Set with little white space, by a program. -/
