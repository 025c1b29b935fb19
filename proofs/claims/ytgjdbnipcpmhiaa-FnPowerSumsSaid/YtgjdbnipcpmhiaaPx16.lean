/- Go's calls come to what the Lean functions say. Condition of each: that the Lean function answers. -/
import Derived.Test.YtgjdbnipcpmhiaaPx0
import Derived.Test.YtgjdbnipcpmhiaaPx5
import Derived.Test.YtgjdbnipcpmhiaaPx7
import Derived.Test.YtgjdbnipcpmhiaaPx13
import Derived.Test.YtgjdbnipcpmhiaaPx15
namespace Go.Proofs.Ytgjdbnipcpmhiaa.P
open Go.RowKit Go.Proofs.YtgjdbnipcpmhiaaW.PrintWords Go.Proofs.YtgjdbnipcpmhiaaW.PrintLast Go.Proofs.YtgjdbnipcpmhiaaW.PrintMore
attribute [local go_sem] max2_int min2_int max_two min_two max_three min_three max_four min_four
set_option linter.unusedVariables false
set_option linter.unusedSimpArgs false
set_option maxHeartbeats 8000000
set_option maxRecDepth 100000
/-! ### F30: function 30 -/
def F30.f (k:Nat) (a0_0:Int) (l0_1:List (List Int)) (a1:Int):Option (Int × Int):=(F84.f k a0_0 l0_1 a1).bind fun t103=>(if t103=0 then ((F85.f k a0_0 l0_1 a1).bind fun t104=>(some (t104,0))) else (some (0,t103)))
theorem F30.calls (k : Nat) (a0_0 : Int) (A0_1 : Option Addr) (c0_1 : Nat) (l0_1 : List (List Int)) (a1 : Int) (r1 : Int) (r2 : Int) (w : World) (hr0_1 : Kd.C (Kd.slice 2 (Kd.int .i64)) w A0_1 l0_1.length l0_1) (hc0_1 : l0_1.length ≤ c0_1) (h : F30.f k a0_0 l0_1 a1 = some (r1, r2)) :
  Calls Try.prog 30 #[.agg #[.int .i64 a0_0,.slice A0_1 l0_1.length c0_1],.int .i64 a1] w fun e w'=>e=.returned (.tuple #[.int .i64 r1,.int .i64 r2])∧Below w.heap.size w w':=by
 have hu26:=Try.underlying26
 have HR0_1:=k0 hr0_1
 have HC0_1:=k0 hc0_1
 clear hr0_1 hc0_1
 have HB:=k0 (Below.refl w.heap.size w)
 unfold F30.f at h
 have H:=h
 clear h
 replace H:=bS H;obtain ⟨t103,A3,H⟩:=H
 replace H:=iE H;obtain ⟨c4,c4b0,c4b1,H⟩|⟨c4b0,c4b1,H⟩:=H
 case inl =>
  obtain ⟨rfl,rfl⟩:=zSo H
  go_enter Try.func30,Try.ntmps30
  go_wp2_with (first|(refine gate_dst (N:=2) rfl ?_;refine bxz 2 #[.int .i64 a0_0,.slice A0_1 l0_1.length c0_1] 26 bl ?_;intro gb101 w14 BK101 GW101 HB;have GE101:=GW101)|(refine gate_dst (N:=3) rfl ?_;refine bxe 3 #[.int .i64 a1] 2 ?_;intro gb102 hg w15 hbox hb;have BK102:=k0 hbox;have GW102:=gW hg (below_size bl);have GE102:=GW102;replace HB:=bW hb;have NB101_102:=nL hg BK101;have NB102_101:=nG NB101_102;replace BK101:=kB BK101 hb;clear hb hbox hg;obtain ⟨_,_⟩:=nE NB101_102;obtain ⟨_,_,_,_⟩:=cz2 BK101)|(refine gate_callee (f:=40) rfl ?_;refine gC (some 9) Try.func40 #[.agg #[.int .i64 a0_0,.slice A0_1 l0_1.length c0_1],.func (.func 84) #[] #[.pointer (some ⟨gb102,0,none⟩)]] ?_;(with_reducible refine (F84.calls k a0_0 _ _ l0_1 a1 t103 _ ?side1 ?side2 ?side3 A3.z).mono ?_);(case side1=>exact aC (Kd.C_below HR0_1.z HB.z));(case side2=>exact HC0_1.z);(case side3=>exact by exact bk);rintro e w18 ⟨rfl,hb⟩;refine ⟨_,rfl,?_⟩;replace BK101:=kB BK101 hb;replace BK102:=kB BK102 hb;replace HB:=bW hb))
  go_ret2
  exact ⟨eR,bl⟩
 replace H:=bS H;obtain ⟨t104,A5,H⟩:=H
 obtain ⟨rfl,rfl⟩:=zSo H
 go_enter Try.func30,Try.ntmps30
 go_wp2_with (first|(refine gate_dst (N:=2) rfl ?_;refine bxz 2 #[.int .i64 a0_0,.slice A0_1 l0_1.length c0_1] 26 bl ?_;intro gb101 w6 BK101 GW101 HB;have GE101:=GW101)|(refine gate_dst (N:=3) rfl ?_;refine bxe 3 #[.int .i64 a1] 2 ?_;intro gb102 hg w7 hbox hb;have BK102:=k0 hbox;have GW102:=gW hg (below_size bl);have GE102:=GW102;replace HB:=bW hb;have NB101_102:=nL hg BK101;have NB102_101:=nG NB101_102;replace BK101:=kB BK101 hb;clear hb hbox hg;obtain ⟨_,_⟩:=nE NB101_102;obtain ⟨_,_,_,_⟩:=cz2 BK101)|(refine gate_callee (f:=40) rfl ?_;refine gC (some 9) Try.func40 #[.agg #[.int .i64 a0_0,.slice A0_1 l0_1.length c0_1],.func (.func 84) #[] #[.pointer (some ⟨gb102,0,none⟩)]] ?_;(with_reducible refine (F84.calls k a0_0 _ _ l0_1 a1 t103 _ ?side1 ?side2 ?side3 A3.z).mono ?_);(case side1=>exact aC (Kd.C_below HR0_1.z HB.z));(case side2=>exact HC0_1.z);(case side3=>exact by exact bk);rintro e w10 ⟨rfl,hb⟩;refine ⟨_,rfl,?_⟩;replace BK101:=kB BK101 hb;replace BK102:=kB BK102 hb;replace HB:=bW hb;obtain ⟨_,_,_,_⟩:=cz2 BK101;obtain ⟨_,_⟩:=cz1 BK102)|(refine gate_callee (f:=85) rfl ?_;refine gC (some 15) Try.func85 #[.agg #[.int .i64 a0_0,.slice A0_1 l0_1.length c0_1],.int .i64 a1] ?_;(with_reducible refine (F85.calls k a0_0 _ _ l0_1 a1 t104 _ ?side1 ?side2 A5.z).mono ?_);(case side1=>exact aC (Kd.C_below HR0_1.z HB.z));(case side2=>exact HC0_1.z);rintro e w13 ⟨rfl,hb⟩;refine ⟨_,rfl,?_⟩;replace BK101:=kB BK101 hb;replace BK102:=kB BK102 hb;replace HB:=bW hb))
 go_ret2
 exact ⟨eR,bl⟩
/-! ### F31: function 31 -/
mutual
def F31.l0 : Nat → List Int → List Int → Int → Option (List Int × Int)
 | 0,_,_,_=>none
 | k+1,x0,x4,x5=>if x5≤(x0.length:Int) then (F31.l1 k x0 x4 x5 0 true 1) else (some (x4,0))
def F31.l1 : Nat → List Int → List Int → Int → Int → Bool → Int → Option (List Int × Int)
 | 0,_,_,_,_,_,_=>none
 | k+1,x0,x4,x5,x6,x7,x8=>if x8≤x5 then (F31.j2 k x0 x4 x5 x6 x7 x8 x7) else (F31.j2 k x0 x4 x5 x6 x7 x8 false)
def F31.j2 : Nat → List Int → List Int → Int → Int → Bool → Int → Bool → Option (List Int × Int)
 | 0,_,_,_,_,_,_,_=>none
 | k+1,x0,x4,x5,x6,x7,x8,x24=>if x24=true then (if x8=0 then (none) else (if (Int.tmod x5 x8)=0 then ((F86.f k (wrap64 (Int.tdiv x5 x8))).bind fun t105=>(if 0≤(wrap64 (x8 - 1)) then (if (wrap64 (x8 - 1)) < (x0.length:Int) then ((F72.f k x6 t105 (rd x0 (wrap64 (x8 - 1)))).bind fun bt107=>(F31.l1 k x0 x4 x5 bt107.1 bt107.2 (wrap64 (x8+1)))) else (none)) else (none))) else (F31.l1 k x0 x4 x5 x6 x7 (wrap64 (x8+1))))) else (if x7=true then (if x5=0 then (none) else (if (Int.tmod x6 x5)=0 then (if x4.length < 17592186044416 then (F31.l0 k x0 (x4 ++ [wrap64 (Int.tdiv x6 x5)]) (wrap64 (x5+1))) else (none)) else (some (([]:List Int),4)))) else (some (([]:List Int),3)))
end
def F31.f (k:Nat) (l0:List Int):Option (List Int × Int):=(F76.f l0).bind fun t101=>(if t101=true then (F31.l0 k l0 (([]:List Int)) 1) else (some (([]:List Int),2)))
def F31.T12:Bool × List (List Nat × List Nat):=(true,[([],[]),([],[]),([],[]),([1,2],[1,2]),([3],[3]),([],[]),([],[]),([6],[6]),([5,7],[5,7]),([8],[8]),([0,4,9,4],[0,4,9]),([10],[10]),([11],[11]),([11],[11]),([12,10,0,1,2,3,4,5,6,7,8,9,10,11,12],[0,12]),([13,14,0,1,2,3,4,5,6,7,8,9,10,11,12,13,14],[13])])
def F31.B12:List Nat:=[0,0,0,6,14,0,0,64,224,480,1023,2047,4095,4095,8191,32767]
theorem F31.tab12:rtab .any (opsOf Try.f31 12)=F31.T12:=by kernel_rfl
theorem F31.bits12:waitsOk F31.T12.2 F31.B12=true:=by kernel_rfl
theorem F31.calls (k : Nat) (A0 : Option Addr) (c0 : Nat) (l0 : List Int) (r1 : List Int) (r2 : Int) (w : World) (hr0 : Kd.C (Kd.int .i64) w A0 l0.length l0) (hc0 : l0.length ≤ c0) (h : F31.f k l0 = some (r1, r2)) :
  Calls Try.prog 31 #[.slice A0 l0.length c0] w fun e w'=>∃ v0_:Value,e=.returned (.tuple #[v0_,.int .i64 r2])∧Kd.R (Kd.int .i64) 2 w' w.heap.size (fun _=>True) v0_ r1∧Below w.heap.size w w':=by
 have HR0:=k0 hr0
 have HC0:=k0 hc0
 clear hr0 hc0
 have HB:=k0 (Below.refl w.heap.size w)
 unfold F31.f at h
 have H:=h
 clear h
 replace H:=bS H;obtain ⟨t101,A2,H⟩:=H
 cases t101
 case false =>
  replace H:=iF H
  obtain ⟨rfl,rfl⟩:=zSo H
  go_enter Try.func31,Try.ntmps31
  go_wp2_with (first|(refine gate_callee (f:=76) rfl ?_;refine gC (some 10) Try.func76 #[.slice A0 l0.length c0] ?_;(with_reducible refine (F76.calls _ _ l0 false _ ?side1 ?side2 A2.z).mono ?_);(case side1=>exact aC HR0.z);(case side2=>exact HC0.z);rintro e w25 ⟨rfl,hb⟩;refine ⟨_,rfl,?_⟩;replace HB:=bW hb))
  go_ret2
  exact ⟨_,eR,by first|exact Kd.R_nil _ _ _ _ _|exact Kd.N_nil _ _ _ _ _|exact Kd.V_nil _ _ _ _ _|exact Kd.Q_nil _ _ _ _ _|exact Kd.S_nil _ _ _ _ _,bl⟩
 replace H:=iT H
 obtain ⟨y102,Ny102⟩:=nY (([]:List Int):List Int)
 replace H:(F31.l0 k l0 y102 1)=some (r1,r2):=rH Ny102.z H
 have H':=k0 H
 clear H
 go_enter Try.func31,Try.ntmps31
 go_wp2_with (first|(refine gate_callee (f:=76) rfl ?_;refine gC (some 10) Try.func76 #[.slice A0 l0.length c0] ?_;(with_reducible refine (F76.calls _ _ l0 true _ ?side1 ?side2 A2.z).mono ?_);(case side1=>exact aC HR0.z);(case side2=>exact HC0.z);rintro e w4 ⟨rfl,hb⟩;refine ⟨_,rfl,?_⟩;replace HB:=bW hb)|(refine gate_dst (N:=12) rfl ?_;refine zRt 2 (N:=12) (xs:=([]:List Int)) (inner:=[]) (Reps.none _ _) ?_;intro v103 w5 ho6 hb hg_ hnew_;clear hg_ hnew_;(first|rw [← Ny102.z] at ho6|(simp only [Int.reduceToNat] at ho6;rw [← Ny102.z] at ho6));have HO104:=k0 (Kd.R_lower ho6 (below_size bl));replace HB:=bW hb;clear hb ho6))
 go_loopg [4,5] k (fun kq v4 v5 w'=>∃ (x4_1:List Int) (x5_1:Int),v5=.int .i64 x5_1∧Aside0 (F31.l0 kq l0 x4_1 x5_1=some (r1,r2))∧Aside0 (kq≤k)∧Aside0 (Kd.R (Kd.int .i64) 2 w' w.heap.size (fun _=>True) v4 x4_1)∧Aside0 (Below w.heap.size w w'))
 case atStart=>exact ⟨(y102),(1),rs,H',⟨Nat.le_refl _⟩,⟨aR (HO104.z)⟩,⟨bl⟩⟩
 case round =>
  clear H'
  obtain ⟨x4_1,x5_1,rfl,HA,HK1,HO_4,HB⟩:=hrel
  cases gk with
  | zero=>exact absurd HA.z (by simp [F31.l0])
  | succ k1 =>
   have H:=HA.z
   clear HA
   simp only [F31.l0] at H
   replace H:=iC H;obtain ⟨c7b0,H⟩|⟨c7b0,H⟩:=H
   case inl =>
    obtain ⟨rfl,rfl⟩:=zSo H
    go_wp2
    go_ret2
    exact ⟨_,eR,aR HO_4.z,bl⟩
   have H':=k0 H
   clear H
   go_wp2
   go_loopg [6,7,8] k1 (fun kq v6 v7 v8 w'=>∃ (x6_2:Int) (x7_2:Bool) (x8_2:Int),v6=.int .i64 x6_2∧v7=.bool x7_2∧v8=.int .i64 x8_2∧Aside0 (F31.l1 kq l0 x4_1 x5_1 x6_2 x7_2 x8_2=some (r1,r2))∧Aside0 (kq≤k1)∧Aside0 (Kd.R (Kd.int .i64) 2 w' w.heap.size (fun _=>True) u4 x4_1)∧Aside0 (Below w.heap.size w w'))
   case atStart=>exact ⟨(0),(true),(1),rs,rs,rs,H',⟨Nat.le_refl _⟩,⟨aR (HO_4.z)⟩,⟨bl⟩⟩
   case round =>
    clear H'
    obtain ⟨x6_2,x7_2,x8_2,rfl,rfl,rfl,HA,HK2,HO_4,HB⟩:=hrel
    cases gk with
    | zero=>exact absurd HA.z (by simp [F31.l1])
    | succ k2 =>
     have H:=HA.z
     clear HA
     simp only [F31.l1] at H
     have HC8:=k0 H
     clear H
     go_upto_region 9 with (fail)
     go_cut [24] (fun v24 wc=>∃ (kq:Nat) (x24_7:Bool),v24=.bool x24_7∧Aside0 (F31.j2 kq l0 x4_1 x5_1 x6_2 x7_2 x8_2 x24_7=some (r1,r2))∧Aside0 (kq≤k2)∧Aside0 (Kd.R (Kd.int .i64) 2 wc w.heap.size (fun _=>True) u4 x4_1)∧Aside0 (Below w.heap.size w wc))
     case first =>
      have H:=HC8.z
      clear HC8
      replace H:=iC H;obtain ⟨c9b0,H⟩|⟨c9b0,H⟩:=H
      case inl =>
       (first|rw [c9b0]|(simp only [i64_w,i32_w];rw [c9b0])|skip)
       have H':=k0 H
       clear H
       go_wp2
       go_meet
       case rel=>exact ⟨_,(false),rs,(by first|exact H'|(rw [hji14];exact H')),⟨by have:=HK1.z;have:=HK2.z;first|omega|exact Nat.le_refl _⟩,⟨aR (HO_4.z)⟩,⟨bl⟩⟩
      (first|rw [c9b0]|(simp only [i64_w,i32_w];rw [c9b0])|skip)
      have H':=k0 H
      clear H
      go_wp2
      go_meet
      case rel=>exact ⟨_,(x7_2),rs,(by first|exact H'|(rw [hji14];exact H')),⟨by have:=HK1.z;have:=HK2.z;first|omega|exact Nat.le_refl _⟩,⟨aR (HO_4.z)⟩,⟨bl⟩⟩
     case rest =>
      clear HC8
      obtain ⟨kq,x24_7,rfl,HA,HJ7,HO_4,HB⟩:=hcut
      cases kq with
      | zero=>exact absurd HA.z (by simp [F31.j2])
      | succ kj7 =>
       have H:=HA.z
       clear HA
       simp only [F31.j2] at H
       cases x24_7
       case false =>
        replace H:=iF H
        cases x7_2
        case false =>
         replace H:=iF H
         obtain ⟨rfl,rfl⟩:=zSo H
         go_wp2
         go_ret2
         exact ⟨_,eR,by first|exact Kd.R_nil _ _ _ _ _|exact Kd.N_nil _ _ _ _ _|exact Kd.V_nil _ _ _ _ _|exact Kd.Q_nil _ _ _ _ _|exact Kd.S_nil _ _ _ _ _,bl⟩
        replace H:=iT H
        by_cases c21:x5_1=0
        case neg =>
         rw [if_neg c21] at H
         have c21b0:=beq_eq_false_iff_ne.mpr c21
         have c21b1:=bne_iff_ne.mpr c21
         replace H:=iE H;obtain ⟨c22,c22b0,c22b1,H⟩|⟨c22b0,c22b1,H⟩:=H
         case inl =>
          obtain ⟨rfl,rfl⟩:=zSo H
          go_wp2
          go_ret2
          exact ⟨_,eR,by first|exact Kd.R_nil _ _ _ _ _|exact Kd.N_nil _ _ _ _ _|exact Kd.V_nil _ _ _ _ _|exact Kd.Q_nil _ _ _ _ _|exact Kd.S_nil _ _ _ _ _,bl⟩
         replace H:=iS H;obtain ⟨c23,H⟩:=H
         have LMc23:=k0 c23
         clear c23
         obtain ⟨y109,Ny109⟩:=nY (x4_1 ++ [wrap64 (Int.tdiv x6_2 x5_1)]:List Int)
         replace H:(F31.l0 kj7 l0 y109 (wrap64 (x5_1+1)))=some (r1,r2):=rH Ny109.z H
         have H':=k0 H
         clear H
         go_wp2_with (first|((with_reducible refine gate_builtin (b:=.append) (xs:=#[.tmp 53,.tmp 57]) rfl ?_);at_builtin;refine Kd.R_append (Kd.int .i64) (w0:=w) w.heap.size rfl (.tmp 53) (.tmp 57) 27 2 (.int .i64 0) 8 rfl Try.underlying27 info2 rfl (by decide) (by omega) u4 x4_1 (wrap64 (Int.tdiv x6_2 x5_1)) [.int .i64 (wrap64 (Int.tdiv x6_2 x5_1))] (fun _=>True) (fun _=>False) rfl rfl ?aP (fun _ hk=>hk.elim) ?aF ?aO ?aB ?aS ?aL ?_;(case aP=>exact rfl);(case aB=>exact bl);(case aF=>exact (fun _ _=>trivial));(case aO=>exact (aR HO_4.z));(case aS=>exact (below_size bl));(case aL=>have:=LMc23.out;omega);intro v110 w24 ho hb hg hat;rw [← Ny109.z] at ho;replace HB:=k0 hb;have HO111:=k0 ho;clear HO_4;clear ho hb hg hat))
         first|go_roundg kj7|(simp only [← hji14];go_roundg kj7)
         case measure=>have:=HK1.z;have:=HK2.z;have:=HJ7.out;omega
         case rel=>exact ⟨(y109),(wrap64 (x5_1+1)),rs,(by first|exact H'|(rw [hji14];exact H')),⟨by have:=HK1.z;have:=HK2.z;have:=HJ7.out;omega⟩,⟨aR (HO111.z)⟩,⟨bl⟩⟩
        rw [if_pos c21] at H
        exact absurd H (by simp)
       replace H:=iT H
       by_cases c11:x8_2=0
       case neg =>
        rw [if_neg c11] at H
        have c11b0:=beq_eq_false_iff_ne.mpr c11
        have c11b1:=bne_iff_ne.mpr c11
        replace H:=iE H;obtain ⟨c12,c12b0,c12b1,H⟩|⟨c12b0,c12b1,H⟩:=H
        case inl =>
         have H':=k0 H
         clear H
         go_wp2
         first|go_roundg kj7|(simp only [← hji14];go_roundg kj7)
         case measure=>have:=HK1.z;have:=HK2.z;have:=HJ7.out;omega
         case rel=>exact ⟨(x6_2),(x7_2),(wrap64 (x8_2+1)),rs,rs,rs,(by first|exact H'|(rw [hji14];exact H')),⟨by have:=HK1.z;have:=HK2.z;have:=HJ7.out;omega⟩,⟨aR (HO_4.z)⟩,⟨bl⟩⟩
        replace H:=bS H;obtain ⟨t105,A13,H⟩:=H
        obtain ⟨ji14,hji14⟩:∃ j_:Int,(wrap64 (x8_2 - 1))=j_:=⟨_,rfl⟩
        replace H:(if 0≤(ji14) then (if (ji14) < (l0.length:Int) then ((F72.f kj7 x6_2 t105 (rd l0 (ji14))).bind fun bt107=>(F31.l1 kj7 l0 x4_1 x5_1 bt107.1 bt107.2 (wrap64 (x8_2+1)))) else (none)) else (none))=some (r1,r2):=by first|(rw [hji14] at H;exact H)|(simp only [hji14] at H ⊢;exact H)
        (try rw [hji14] at A13)
        have hji14w:(IntKind.i64.wrap (x8_2 - 1))=ji14:=(i64_w _).trans hji14
        replace H:=iS H;obtain ⟨c15,H⟩:=H
        have c15b0:=decide_eq_true c15
        clear c15
        replace H:=iS H;obtain ⟨c16,H⟩:=H
        have c16b0:=decide_eq_true c16
        clear c16
        replace H:=bS H;obtain ⟨⟨t107,t108⟩,A17,H⟩:=H
        dsimp only at H
        have H':=k0 H
        clear H
        try go_wp2
        replace HO_4:=k0 (Kd.R_drew HO_4.z);replace HB:=k0 (below_drew1 HB.z)
        have p106:0≤((ji14):Int):=oD
        have q106:(ji14) < (l0.length:Int):=oD
        obtain ⟨ad106,e106,hx106_0⟩:=Kd.at_int HR0.z (ji14) p106 q106
        have hw106_0:=hx106_0
        cases e106
        replace hx106_0:=hbc HB hx106_0
        replace p106:=eT p106
        replace q106:=eT q106
        refine start_ (n:=16) (S:=fun w'=>w'.cell? (ad106.add ((ji14)).toNat)=some (.int .i64 (rd l0 (ji14)))) (ds:=[]) (ba 16 0) (by kernel_rfl) rfl rfl ((hbc HB hw106_0 :)) (fun hHeld=>?_);refine with_tabW F31.tab12 F31.bits12 (fun HT_ HW_=>?_)
        generalize wc.drew=w18 at HO_4 HB hx106_0 hHeld ⊢
        refine pu 0 (some 32) (ba 16 1) HT_ (h:=?_)
        refine pu 1 (some 33) (ba 16 3) HT_ (h:=?_)
        refine pu 2 (some 34) (ba 16 7) HT_ (h:=?_)
        refine pu 3 (some 35) (ba 16 15) HT_ (h:=?_)
        refine pu 5 (some 37) (ba 16 47) HT_ (h:=?_)
        refine pu 6 (some 38) (ba 16 111) HT_ (h:=?_)
        refine pu 7 (some 39) (ba 16 239) HT_ (h:=?_)
        refine pu 8 (some 40) (ba 16 495) HT_ (h:=?_)
        refine ta 9 (some 41) (ba 16 1007) HT_ HW_ hHeld (hy:=Or.inl ⟨by rfl,by intro w' s0;go_simp;with_reducible rfl⟩) (h:=?_)
        refine one_ (i:=4) (N:=some 36) (ba 16 1023) rfl rfl (one_of HT_.out (by kernel_rfl)) (by decide) (fun K hK=>?_)
        refine goes_ Try.func86 (by kernel_rfl) rfl #[.int .i64 (wrap64 (Int.tdiv x5_1 x8_2))] (by rfl) rfl rfl gm ?_
        with_reducible refine (F86.calls kj7 (wrap64 (Int.tdiv x5_1 x8_2)) t105 _ A13.z).mono ?_
        rintro e w' ⟨rfl,⟨nd,rfl⟩⟩
        refine ⟨_,rfl,?_⟩
        refine hK.out _ _ ((hbc HB hw106_0 :)) (fun hHeld=>?_)
        clear hK K
        refine norm_ (a':=?_) ?_ ?_
        rotate_left;· show Act.put _ (some 36) _=_;simp only [Act.put,zI,zZ,zS,i64_w,i32_w];rfl
        refine one_ (i:=10) (N:=some 42) (ba 16 2047) rfl rfl (one_of HT_.out (by kernel_rfl)) (by decide) (fun K hK=>?_)
        refine goes_ Try.func72 (by kernel_rfl) rfl #[.int .i64 x6_2,.int .i64 t105,.int .i64 (rd l0 (ji14))] (by rfl) rfl rfl (by (try simp only [List.map_toArray,List.map_cons,List.map_nil]);first|done|(simp only [hji14];rfl)|rfl|(simp only [List.length_drop,List.length_take];rfl)) ?_
        with_reducible refine (F72.calls kj7 x6_2 t105 (rd l0 (ji14)) t107 t108 _ A17.z).mono ?_
        rintro e w19 ⟨rfl,hb⟩
        refine ⟨_,rfl,?_⟩
        replace HO_4:=bwR HO_4 hb;replace HB:=bW hb
        refine hK.out _ _ ((hbc HB hw106_0 :)) (fun hHeld=>?_)
        clear hK K
        refine norm_ (a':=?_) ?_ ?_
        rotate_left;· show Act.put _ (some 42) _=_;simp only [Act.put,zI,zZ,zS,i64_w,i32_w];rfl
        refine pu 11 (some 31) (ba 16 4095) HT_ (h:=?_)
        refine pu 12 (some 43) (ba 16 8191) HT_ (h:=?_)
        refine pu 13 (some 44) (ba 16 16383) HT_ (h:=?_)
        refine pu 14 (some 6) (ba 16 32767) HT_ (h:=?_)
        refine pu 15 (some 7) (ba 16 65535) HT_ (h:=?_)
        refine done_ (done_of HT_.out (by kernel_rfl)) ?_
        try go_wp2
        first|go_roundg kj7|(simp only [← hji14];go_roundg kj7)
        case measure=>have:=HK1.z;have:=HK2.z;have:=HJ7.out;omega
        case rel=>exact ⟨(t107),(t108),(wrap64 (x8_2+1)),rs,rs,rs,(by first|exact H'|(rw [hji14];exact H')),⟨by have:=HK1.z;have:=HK2.z;have:=HJ7.out;omega⟩,⟨aR (HO_4.z)⟩,⟨bl⟩⟩
       rw [if_pos c11] at H
       exact absurd H (by simp)
end Go.Proofs.Ytgjdbnipcpmhiaa.P
/- Set with little white space, by a program. -/
