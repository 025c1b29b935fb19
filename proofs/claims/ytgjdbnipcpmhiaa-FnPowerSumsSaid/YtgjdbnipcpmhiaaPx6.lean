/- Go's calls come to what the Lean functions say. Condition of each: that the Lean function answers. -/
import Derived.Test.YtgjdbnipcpmhiaaPx0
import Derived.Test.YtgjdbnipcpmhiaaPx5
namespace Go.Proofs.Ytgjdbnipcpmhiaa.P
open Go.RowKit Go.Proofs.YtgjdbnipcpmhiaaW.PrintWords Go.Proofs.YtgjdbnipcpmhiaaW.PrintLast Go.Proofs.YtgjdbnipcpmhiaaW.PrintMore
attribute [local go_sem] max2_int min2_int max_two min_two max_three min_three max_four min_four
set_option linter.unusedVariables false
set_option linter.unusedSimpArgs false
set_option maxHeartbeats 8000000
set_option maxRecDepth 100000
/-! ### F25: function 25 -/
mutual
def F25.l0 : Nat → List Int → Int → List Int → Int → Option (List Int × Int)
 | 0,_,_,_,_=>none
 | k+1,x0,x1,x6,x7=>if x7≤x1 then ((F71.f x0 x7).bind fun t107=>((F72.f k 0 (wrap64 (-x7)) t107).bind fun bt108=>(F25.l1 k x0 x1 x6 x7 bt108.1 bt108.2 1))) else (some (x6,0))
def F25.l1 : Nat → List Int → Int → List Int → Int → Int → Bool → Int → Option (List Int × Int)
 | 0,_,_,_,_,_,_,_=>none
 | k+1,x0,x1,x6,x7,x8,x9,x10=>if x10 < x7 then (F25.j2 k x0 x1 x6 x7 x8 x9 x10 x9) else (F25.j2 k x0 x1 x6 x7 x8 x9 x10 false)
def F25.j2 : Nat → List Int → Int → List Int → Int → Int → Bool → Int → Bool → Option (List Int × Int)
 | 0,_,_,_,_,_,_,_,_=>none
 | k+1,x0,x1,x6,x7,x8,x9,x10,x43=>if x43=true then ((F71.f x0 x10).bind fun t110=>(if 0≤(wrap64 ((wrap64 (x7 - x10)) - 1)) then (if (wrap64 ((wrap64 (x7 - x10)) - 1)) < (x6.length:Int) then ((F72.f k x8 (wrap64 (-t110)) (rd x6 (wrap64 ((wrap64 (x7 - x10)) - 1)))).bind fun bt112=>(F25.l1 k x0 x1 x6 x7 bt112.1 bt112.2 (wrap64 (x10+1)))) else (none)) else (none))) else (if x9=true then (if x6.length < 17592186044416 then (F25.l0 k x0 x1 (x6 ++ [x8]) (wrap64 (x7+1))) else (none)) else (some (([]:List Int),3)))
end
def F25.f (k:Nat) (l0:List Int) (a1:Int):Option (List Int × Int):=(F69.f k l0).bind fun t101=>(if t101=true then ((F70.f a1 0 24).bind fun t102=>(if t102=true then ((F71.f l0 0).bind fun t103=>(if t103=1 then (F25.l0 k l0 a1 (([]:List Int)) 1) else (some (([]:List Int),5)))) else (some (([]:List Int),2)))) else (some (([]:List Int),1)))
def F25.T15:Bool × List (List Nat × List Nat):=(true,[([],[]),([],[]),([],[]),([1,2],[1,2]),([3],[3]),([],[]),([],[]),([],[]),([6,7],[6,7]),([8],[8]),([5,9],[5,9]),([10],[10]),([0,4,11,3],[0,4,11]),([12],[12]),([13],[13]),([13],[13]),([14,12,0,1,2,3,4,5,6,7,8,9,10,11,12,13,14],[0,14]),([15,16,0,1,2,3,4,5,6,7,8,9,10,11,12,13,14,15,16],[15])])
def F25.B15:List Nat:=[0,0,0,6,14,0,0,0,192,448,992,2016,4095,8191,16383,16383,32767,131071]
theorem F25.tab15:rtab .any (opsOf Try.f25 15)=F25.T15:=by kernel_rfl
theorem F25.bits15:waitsOk F25.T15.2 F25.B15=true:=by kernel_rfl
theorem F25.calls (k : Nat) (A0 : Option Addr) (c0 : Nat) (l0 : List Int) (a1 : Int) (r1 : List Int) (r2 : Int) (w : World) (hr0 : Kd.C (Kd.int .i64) w A0 l0.length l0) (hc0 : l0.length ≤ c0) (h : F25.f k l0 a1 = some (r1, r2)) :
  Calls Try.prog 25 #[.slice A0 l0.length c0,.int .i64 a1] w fun e w'=>∃ v0_:Value,e=.returned (.tuple #[v0_,.int .i64 r2])∧Kd.R (Kd.int .i64) 2 w' w.heap.size (fun _=>True) v0_ r1∧Below w.heap.size w w':=by
 have HR0:=k0 hr0
 have HC0:=k0 hc0
 clear hr0 hc0
 have HB:=k0 (Below.refl w.heap.size w)
 unfold F25.f at h
 have H:=h
 clear h
 replace H:=bS H;obtain ⟨t101,A3,H⟩:=H
 cases t101
 case false =>
  replace H:=iF H
  obtain ⟨rfl,rfl⟩:=zSo H
  go_enter Try.func25,Try.ntmps25
  go_wp2_with (first|(refine gate_callee (f:=69) rfl ?_;refine gC (some 13) Try.func69 #[.slice A0 l0.length c0] ?_;(with_reducible refine (F69.calls k _ _ l0 false _ ?side1 ?side2 A3.z).mono ?_);(case side1=>exact aC HR0.z);(case side2=>exact HC0.z);rintro e w' ⟨rfl,⟨nd,rfl⟩⟩;refine ⟨_,rfl,?_⟩))
  go_ret2
  exact ⟨_,eR,by first|exact Kd.R_nil _ _ _ _ _|exact Kd.N_nil _ _ _ _ _|exact Kd.V_nil _ _ _ _ _|exact Kd.Q_nil _ _ _ _ _|exact Kd.S_nil _ _ _ _ _,bl⟩
 replace H:=iT H
 replace H:=bS H;obtain ⟨t102,A5,H⟩:=H
 cases t102
 case false =>
  replace H:=iF H
  obtain ⟨rfl,rfl⟩:=zSo H
  go_enter Try.func25,Try.ntmps25
  go_wp2_with (first|(refine gate_callee (f:=69) rfl ?_;refine gC (some 13) Try.func69 #[.slice A0 l0.length c0] ?_;(with_reducible refine (F69.calls k _ _ l0 true _ ?side1 ?side2 A3.z).mono ?_);(case side1=>exact aC HR0.z);(case side2=>exact HC0.z);rintro e w' ⟨rfl,⟨nd,rfl⟩⟩;refine ⟨_,rfl,?_⟩)|(refine gate_callee (f:=70) rfl ?_;refine gC (some 17) Try.func70 #[.int .i64 a1,.int .i64 0,.int .i64 24] ?_;(with_reducible refine (F70.calls a1 0 24 false _ A5.z).mono ?_);rintro e w' ⟨rfl,⟨nd,rfl⟩⟩;refine ⟨_,rfl,?_⟩))
  go_ret2
  exact ⟨_,eR,by first|exact Kd.R_nil _ _ _ _ _|exact Kd.N_nil _ _ _ _ _|exact Kd.V_nil _ _ _ _ _|exact Kd.Q_nil _ _ _ _ _|exact Kd.S_nil _ _ _ _ _,bl⟩
 replace H:=iT H
 replace H:=bS H;obtain ⟨t103,A7,H⟩:=H
 replace H:=iE H;obtain ⟨c8,c8b0,c8b1,H⟩|⟨c8b0,c8b1,H⟩:=H
 case inl =>
  obtain ⟨rfl,rfl⟩:=zSo H
  go_enter Try.func25,Try.ntmps25
  go_wp2_with (first|(refine gate_callee (f:=69) rfl ?_;refine gC (some 13) Try.func69 #[.slice A0 l0.length c0] ?_;(with_reducible refine (F69.calls k _ _ l0 true _ ?side1 ?side2 A3.z).mono ?_);(case side1=>exact aC HR0.z);(case side2=>exact HC0.z);rintro e w' ⟨rfl,⟨nd,rfl⟩⟩;refine ⟨_,rfl,?_⟩)|(refine gate_callee (f:=70) rfl ?_;refine gC (some 17) Try.func70 #[.int .i64 a1,.int .i64 0,.int .i64 24] ?_;(with_reducible refine (F70.calls a1 0 24 true _ A5.z).mono ?_);rintro e w' ⟨rfl,⟨nd,rfl⟩⟩;refine ⟨_,rfl,?_⟩)|(refine gate_callee (f:=71) rfl ?_;refine gC (some 21) Try.func71 #[.slice A0 l0.length c0,.int .i64 0] ?_;(with_reducible refine (F71.calls _ _ l0 0 t103 _ ?side1 ?side2 A7.z).mono ?_);(case side1=>exact aC HR0.z);(case side2=>exact HC0.z);rintro e w' ⟨rfl,⟨nd,rfl⟩⟩;refine ⟨_,rfl,?_⟩))
  go_ret2
  exact ⟨_,eR,by first|exact Kd.R_nil _ _ _ _ _|exact Kd.N_nil _ _ _ _ _|exact Kd.V_nil _ _ _ _ _|exact Kd.Q_nil _ _ _ _ _|exact Kd.S_nil _ _ _ _ _,bl⟩
 obtain ⟨y104,Ny104⟩:=nY (([]:List Int):List Int)
 replace H:(F25.l0 k l0 a1 y104 1)=some (r1,r2):=rH Ny104.z H
 have H':=k0 H
 clear H
 go_enter Try.func25,Try.ntmps25
 go_wp2_with (first|(refine gate_callee (f:=69) rfl ?_;refine gC (some 13) Try.func69 #[.slice A0 l0.length c0] ?_;(with_reducible refine (F69.calls k _ _ l0 true _ ?side1 ?side2 A3.z).mono ?_);(case side1=>exact aC HR0.z);(case side2=>exact HC0.z);rintro e w' ⟨rfl,⟨nd,rfl⟩⟩;refine ⟨_,rfl,?_⟩)|(refine gate_callee (f:=70) rfl ?_;refine gC (some 17) Try.func70 #[.int .i64 a1,.int .i64 0,.int .i64 24] ?_;(with_reducible refine (F70.calls a1 0 24 true _ A5.z).mono ?_);rintro e w' ⟨rfl,⟨nd,rfl⟩⟩;refine ⟨_,rfl,?_⟩)|(refine gate_callee (f:=71) rfl ?_;refine gC (some 21) Try.func71 #[.slice A0 l0.length c0,.int .i64 0] ?_;(with_reducible refine (F71.calls _ _ l0 0 t103 _ ?side1 ?side2 A7.z).mono ?_);(case side1=>exact aC HR0.z);(case side2=>exact HC0.z);rintro e w' ⟨rfl,⟨nd,rfl⟩⟩;refine ⟨_,rfl,?_⟩)|(refine gate_dst (N:=23) rfl ?_;refine zRt 2 (N:=23) (xs:=([]:List Int)) (inner:=[]) (Reps.none _ _) ?_;intro v105 w9 ho10 hb hg_ hnew_;clear hg_ hnew_;(first|rw [← Ny104.z] at ho10|(simp only [Int.reduceToNat] at ho10;rw [← Ny104.z] at ho10));have HO106:=k0 (Kd.R_lower ho10 (below_size bl));replace HB:=bW hb;clear hb ho10))
 go_loopg [6,7] k (fun kq v6 v7 w'=>∃ (x6_1:List Int) (x7_1:Int),v7=.int .i64 x7_1∧Aside0 (F25.l0 kq l0 a1 x6_1 x7_1=some (r1,r2))∧Aside0 (kq≤k)∧Aside0 (Kd.R (Kd.int .i64) 2 w' w.heap.size (fun _=>True) v6 x6_1)∧Aside0 (Below w.heap.size w w'))
 case atStart=>exact ⟨(y104),(1),rs,H',⟨Nat.le_refl _⟩,⟨aR (HO106.z)⟩,⟨bl⟩⟩
 case round =>
  clear H'
  obtain ⟨x6_1,x7_1,rfl,HA,HK1,HO_6,HB⟩:=hrel
  cases gk with
  | zero=>exact absurd HA.z (by simp [F25.l0])
  | succ k1 =>
   have H:=HA.z
   clear HA
   simp only [F25.l0] at H
   replace H:=iC H;obtain ⟨c11b0,H⟩|⟨c11b0,H⟩:=H
   case inl =>
    obtain ⟨rfl,rfl⟩:=zSo H
    go_wp2
    go_ret2
    exact ⟨_,eR,aR HO_6.z,bl⟩
   replace H:=bS H;obtain ⟨t107,A12,H⟩:=H
   replace H:=bS H;obtain ⟨⟨t108,t109⟩,A13,H⟩:=H
   dsimp only at H
   have H':=k0 H
   clear H
   go_wp2_with (first|(refine gate_callee (f:=71) rfl ?_;refine gC (some 34) Try.func71 #[.slice A0 l0.length c0,.int .i64 x7_1] ?_;(with_reducible refine (F71.calls _ _ l0 x7_1 t107 _ ?side1 ?side2 A12.z).mono ?_);(case side1=>exact aC (Kd.C_below HR0.z HB.z));(case side2=>exact HC0.z);rintro e w' ⟨rfl,⟨nd,rfl⟩⟩;refine ⟨_,rfl,?_⟩)|(refine gate_callee (f:=72) rfl ?_;refine gC (some 35) Try.func72 #[.int .i64 0,.int .i64 (wrap64 (-x7_1)),.int .i64 t107] ?_;(with_reducible refine (F72.calls k1 0 (wrap64 (-x7_1)) t107 t108 t109 _ A13.z).mono ?_);rintro e w14 ⟨rfl,hb⟩;refine ⟨_,rfl,?_⟩;replace HO_6:=bwR HO_6 hb;replace HB:=bW hb))
   go_loopg [8,9,10] k1 (fun kq v8 v9 v10 w'=>∃ (x8_2:Int) (x9_2:Bool) (x10_2:Int),v8=.int .i64 x8_2∧v9=.bool x9_2∧v10=.int .i64 x10_2∧Aside0 (F25.l1 kq l0 a1 x6_1 x7_1 x8_2 x9_2 x10_2=some (r1,r2))∧Aside0 (kq≤k1)∧Aside0 (Kd.R (Kd.int .i64) 2 w' w.heap.size (fun _=>True) u6 x6_1)∧Aside0 (Below w.heap.size w w'))
   case atStart=>exact ⟨(t108),(t109),(1),rs,rs,rs,H',⟨Nat.le_refl _⟩,⟨aR (HO_6.z)⟩,⟨bl⟩⟩
   case round =>
    clear H'
    obtain ⟨x8_2,x9_2,x10_2,rfl,rfl,rfl,HA,HK2,HO_6,HB⟩:=hrel
    cases gk with
    | zero=>exact absurd HA.z (by simp [F25.l1])
    | succ k2 =>
     have H:=HA.z
     clear HA
     simp only [F25.l1] at H
     have HC15:=k0 H
     clear H
     go_upto_region 13 with (fail)
     go_cut [43] (fun v43 wc=>∃ (kq:Nat) (x43_14:Bool),v43=.bool x43_14∧Aside0 (F25.j2 kq l0 a1 x6_1 x7_1 x8_2 x9_2 x10_2 x43_14=some (r1,r2))∧Aside0 (kq≤k2)∧Aside0 (Kd.R (Kd.int .i64) 2 wc w.heap.size (fun _=>True) u6 x6_1)∧Aside0 (Below w.heap.size w wc))
     case first =>
      have H:=HC15.z
      clear HC15
      replace H:=iC H;obtain ⟨c16b0,H⟩|⟨c16b0,H⟩:=H
      case inl =>
       (first|rw [c16b0]|(simp only [i64_w,i32_w];rw [c16b0])|skip)
       have H':=k0 H
       clear H
       go_wp2
       go_meet
       case rel=>exact ⟨_,(false),rs,(by first|exact H'|(rw [hji19];exact H')),⟨by have:=HK1.z;have:=HK2.z;first|omega|exact Nat.le_refl _⟩,⟨aR (HO_6.z)⟩,⟨bl⟩⟩
      (first|rw [c16b0]|(simp only [i64_w,i32_w];rw [c16b0])|skip)
      have H':=k0 H
      clear H
      go_wp2
      go_meet
      case rel=>exact ⟨_,(x9_2),rs,(by first|exact H'|(rw [hji19];exact H')),⟨by have:=HK1.z;have:=HK2.z;first|omega|exact Nat.le_refl _⟩,⟨aR (HO_6.z)⟩,⟨bl⟩⟩
     case rest =>
      clear HC15
      obtain ⟨kq,x43_14,rfl,HA,HJ14,HO_6,HB⟩:=hcut
      cases kq with
      | zero=>exact absurd HA.z (by simp [F25.j2])
      | succ kj14 =>
       have H:=HA.z
       clear HA
       simp only [F25.j2] at H
       cases x43_14
       case false =>
        replace H:=iF H
        cases x9_2
        case false =>
         replace H:=iF H
         obtain ⟨rfl,rfl⟩:=zSo H
         go_wp2
         go_ret2
         exact ⟨_,eR,by first|exact Kd.R_nil _ _ _ _ _|exact Kd.N_nil _ _ _ _ _|exact Kd.V_nil _ _ _ _ _|exact Kd.Q_nil _ _ _ _ _|exact Kd.S_nil _ _ _ _ _,bl⟩
        replace H:=iT H
        replace H:=iS H;obtain ⟨c27,H⟩:=H
        have LMc27:=k0 c27
        clear c27
        obtain ⟨y114,Ny114⟩:=nY (x6_1 ++ [x8_2]:List Int)
        replace H:(F25.l0 kj14 l0 a1 y114 (wrap64 (x7_1+1)))=some (r1,r2):=rH Ny114.z H
        have H':=k0 H
        clear H
        go_wp2_with (first|((with_reducible refine gate_builtin (b:=.append) (xs:=#[.tmp 64,.tmp 66]) rfl ?_);at_builtin;refine Kd.R_append (Kd.int .i64) (w0:=w) w.heap.size rfl (.tmp 64) (.tmp 66) 27 2 (.int .i64 0) 8 rfl Try.underlying27 info2 rfl (by decide) (by omega) u6 x6_1 x8_2 [.int .i64 x8_2] (fun _=>True) (fun _=>False) rfl rfl ?aP (fun _ hk=>hk.elim) ?aF ?aO ?aB ?aS ?aL ?_;(case aP=>exact rfl);(case aB=>exact bl);(case aF=>exact (fun _ _=>trivial));(case aO=>exact (aR HO_6.z));(case aS=>exact (below_size bl));(case aL=>have:=LMc27.out;omega);intro v115 w28 ho hb hg hat;rw [← Ny114.z] at ho;replace HB:=k0 hb;have HO116:=k0 ho;clear HO_6;clear ho hb hg hat))
        first|go_roundg kj14|(simp only [← hji19];go_roundg kj14)
        case measure=>have:=HK1.z;have:=HK2.z;have:=HJ14.out;omega
        case rel=>exact ⟨(y114),(wrap64 (x7_1+1)),rs,(by first|exact H'|(rw [hji19];exact H')),⟨by have:=HK1.z;have:=HK2.z;have:=HJ14.out;omega⟩,⟨aR (HO116.z)⟩,⟨bl⟩⟩
       replace H:=iT H
       replace H:=bS H;obtain ⟨t110,A18,H⟩:=H
       obtain ⟨ji19,hji19⟩:∃ j_:Int,(wrap64 ((wrap64 (x7_1 - x10_2)) - 1))=j_:=⟨_,rfl⟩
       replace H:(if 0≤(ji19) then (if (ji19) < (x6_1.length:Int) then ((F72.f kj14 x8_2 (wrap64 (-t110)) (rd x6_1 (ji19))).bind fun bt112=>(F25.l1 kj14 l0 a1 x6_1 x7_1 bt112.1 bt112.2 (wrap64 (x10_2+1)))) else (none)) else (none))=some (r1,r2):=by first|(rw [hji19] at H;exact H)|(simp only [hji19] at H ⊢;exact H)
       (try rw [hji19] at A18)
       have hji19w:(IntKind.i64.wrap ((wrap64 (x7_1 - x10_2)) - 1))=ji19:=(i64_w _).trans hji19
       replace H:=iS H;obtain ⟨c20,H⟩:=H
       have c20b0:=decide_eq_true c20
       clear c20
       replace H:=iS H;obtain ⟨c21,H⟩:=H
       have c21b0:=decide_eq_true c21
       clear c21
       replace H:=bS H;obtain ⟨⟨t112,t113⟩,A22,H⟩:=H
       dsimp only at H
       have H':=k0 H
       clear H
       try go_wp2
       replace HO_6:=k0 (Kd.R_drew HO_6.z);replace HB:=k0 (below_drew1 HB.z)
       obtain ⟨Ao24,co24,eo24⟩:=Kd.R_slice HO_6.z
       (first|subst eo24|(injection eo24 with f1_ f2_ f3_;have f4_:=f1_.symm;have f5_:=f3_.symm;clear f1_ f2_ f3_;subst f4_;subst f5_))
       have p111:0≤((ji19):Int):=oD
       have q111:(ji19) < (x6_1.length:Int):=oD
       obtain ⟨ad111,e111,hx111_0⟩:=Kd.at_int (Kd.R_reads' HO_6.z).2.2 (ji19) p111 q111
       cases e111
       replace p111:=eT p111
       replace q111:=eT q111
       refine start_ (n:=18) (S:=fun w'=>w'.cell? (ad111.add ((ji19)).toNat)=some (.int .i64 (rd x6_1 (ji19)))) (ds:=[]) (ba 18 0) (by kernel_rfl) rfl rfl (hx111_0) (fun hHeld=>?_);refine with_tabW F25.tab15 F25.bits15 (fun HT_ HW_=>?_)
       generalize wc.drew=w23 at HO_6 HB hx111_0 hHeld ⊢
       refine pu 0 (some 47) (ba 18 1) HT_ (h:=?_)
       refine pu 1 (some 48) (ba 18 3) HT_ (h:=?_)
       refine pu 2 (some 49) (ba 18 7) HT_ (h:=?_)
       refine pu 5 (some 52) (ba 18 39) HT_ (h:=?_)
       refine pu 6 (some 53) (ba 18 103) HT_ (h:=?_)
       refine pu 7 (some 54) (ba 18 231) HT_ (h:=?_)
       refine pu 8 (some 55) (ba 18 487) HT_ (h:=?_)
       refine pu 9 (some 56) (ba 18 999) HT_ (h:=?_)
       refine pu 10 (some 57) (ba 18 2023) HT_ (h:=?_)
       refine ta 11 (some 58) (ba 18 4071) HT_ HW_ hHeld (hy:=Or.inl ⟨by rfl,by intro w' s0;go_simp;with_reducible rfl⟩) (h:=?_)
       refine one_ (i:=3) (N:=some 50) (ba 18 4079) rfl rfl (one_of HT_.out (by kernel_rfl)) (by decide) (fun K hK=>?_)
       refine goes_ Try.func71 (by kernel_rfl) rfl #[.slice A0 l0.length c0,.int .i64 x10_2] (by rfl) rfl rfl gm ?_
       with_reducible refine (F71.calls _ _ l0 x10_2 t110 _ ?side1 ?side2 A18.z).mono ?_
       (case side1=>exact aC (Kd.C_below HR0.z HB.z))
       (case side2=>exact HC0.z)
       rintro e w' ⟨rfl,⟨nd,rfl⟩⟩
       refine ⟨_,rfl,?_⟩
       refine hK.out _ _ (hHeld) (fun hHeld=>?_)
       clear hK K
       refine norm_ (a':=?_) ?_ ?_
       rotate_left;· show Act.put _ (some 50) _=_;simp only [Act.put,zI,zZ,zS,i64_w,i32_w];rfl
       refine pu 4 (some 51) (ba 18 4095) HT_ (h:=?_)
       refine one_ (i:=12) (N:=some 59) (ba 18 8191) rfl rfl (one_of HT_.out (by kernel_rfl)) (by decide) (fun K hK=>?_)
       refine goes_ Try.func72 (by kernel_rfl) rfl #[.int .i64 x8_2,.int .i64 (wrap64 (-t110)),.int .i64 (rd x6_1 (ji19))] (by rfl) rfl rfl (by (try simp only [List.map_toArray,List.map_cons,List.map_nil]);first|done|(simp only [hji19];rfl)|rfl|(simp only [List.length_drop,List.length_take];rfl)) ?_
       with_reducible refine (F72.calls kj14 x8_2 (wrap64 (-t110)) (rd x6_1 (ji19)) t112 t113 _ A22.z).mono ?_
       rintro e w25 ⟨rfl,hb⟩
       have HS0_:=(hb.cell (World.block_lt_of_cell? _ _ (hHeld))).trans (hHeld)
       refine ⟨_,rfl,?_⟩
       replace HO_6:=bwR HO_6 hb;replace HB:=bW hb
       refine hK.out _ _ (HS0_) (fun hHeld=>?_)
       clear hK K
       refine norm_ (a':=?_) ?_ ?_
       rotate_left;· show Act.put _ (some 59) _=_;simp only [Act.put,zI,zZ,zS,i64_w,i32_w];rfl
       refine pu 13 (some 46) (ba 18 16383) HT_ (h:=?_)
       refine pu 14 (some 60) (ba 18 32767) HT_ (h:=?_)
       refine pu 15 (some 61) (ba 18 65535) HT_ (h:=?_)
       refine pu 16 (some 8) (ba 18 131071) HT_ (h:=?_)
       refine pu 17 (some 9) (ba 18 262143) HT_ (h:=?_)
       refine done_ (done_of HT_.out (by kernel_rfl)) ?_
       try go_wp2
       first|go_roundg kj14|(simp only [← hji19];go_roundg kj14)
       case measure=>have:=HK1.z;have:=HK2.z;have:=HJ14.out;omega
       case rel=>exact ⟨(t112),(t113),(wrap64 (x10_2+1)),rs,rs,rs,(by first|exact H'|(rw [hji19];exact H')),⟨by have:=HK1.z;have:=HK2.z;have:=HJ14.out;omega⟩,⟨aR (HO_6.z)⟩,⟨bl⟩⟩
/-! ### F74: function 74 -/
def F74.f (a0:Int) (a1:Int) (a2:Int):Option (Bool):=if a0 ≥ a1 then (some (decide (a0≤a2))) else (some false)
theorem F74.calls (a0 : Int) (a1 : Int) (a2 : Int) (r : Bool) (w : World) (h : F74.f a0 a1 a2 = some r) :
  Calls Try.prog 74 #[.int .i64 a0,.int .i64 a1,.int .i64 a2] w fun e w'=>e=.returned (.bool r)∧Drawn0 w w':=by
 unfold F74.f at h
 have H:=h
 clear h
 replace H:=iC H;obtain ⟨c4b0,H⟩|⟨c4b0,H⟩:=H
 case inl =>
  obtain rfl:=Option.some.inj H
  go_enter Try.func74,Try.ntmps74
  go_wp2
  go_ret
  exact ⟨rs,dW⟩
 obtain rfl:=Option.some.inj H
 go_enter Try.func74,Try.ntmps74
 go_wp2
 go_ret
 exact ⟨rs,dW⟩
/-! ### F73: function 73 -/
def F73.l0 : Nat → List Int → Int → Option (Bool)
 | 0,_,_=>none
 | k+1,x0,x3=>if x3 < (x0.length:Int) then (if 0≤x3 then ((F74.f (rd x0 x3) (-1000000000000000) 1000000000000000).bind fun t102=>(if t102=true then (F73.l0 k x0 (wrap64 (x3+1))) else (some false))) else (none)) else (if (x0.length:Int)≤40 then (if (x0.length:Int)=0 then (some true) else (if 0≤(wrap64 ((x0.length:Int) - 1)) then (if (wrap64 ((x0.length:Int) - 1)) < (x0.length:Int) then (some ((rd x0 (wrap64 ((x0.length:Int) - 1))) != 0)) else (none)) else (none))) else (some false))
def F73.f (k:Nat) (l0:List Int):Option (Bool):=F73.l0 k l0 0
theorem F73.calls (k : Nat) (A0 : Option Addr) (c0 : Nat) (l0 : List Int) (r : Bool) (w : World) (hr0 : Kd.C (Kd.int .i64) w A0 l0.length l0) (hc0 : l0.length ≤ c0) (h : F73.f k l0 = some r) :
  Calls Try.prog 73 #[.slice A0 l0.length c0] w fun e w'=>e=.returned (.bool r)∧Drawn0 w w':=by
 have HR0:=k0 hr0
 have HC0:=k0 hc0
 clear hr0 hc0
 unfold F73.f at h
 have H:=h
 clear h
 have H':=k0 H
 clear H
 go_enter Try.func73,Try.ntmps73
 go_wp2
 go_loopg [3] k (fun kq v3 w'=>∃ (x3_1:Int),v3=.int .i64 x3_1∧Aside0 (F73.l0 kq l0 x3_1=some r)∧Aside0 (kq≤k)∧Drawn0 w w')
 case atStart=>exact ⟨(0),rs,H',⟨Nat.le_refl _⟩,dW⟩
 case round =>
  clear H'
  obtain ⟨x3_1,rfl,HA,HK1,⟨m1,rfl⟩⟩:=hrel
  cases gk with
  | zero=>exact absurd HA.z (by simp [F73.l0])
  | succ k1 =>
   have H:=HA.z
   clear HA
   simp only [F73.l0] at H
   replace H:=iC H;obtain ⟨c2b0,H⟩|⟨c2b0,H⟩:=H
   case inl =>
    by_cases c6:(l0.length:Int)≤40
    case neg =>
     rw [if_neg c6] at H
     have c6b0:=decide_eq_false c6
     have c6b1:decide (l0.length≤40)=false:=decide_eq_false (by omega)
     clear c6
     obtain rfl:=Option.some.inj H
     go_wp2
     go_ret
     exact ⟨rs,dW⟩
    rw [if_pos c6] at H
    have c6b0:=decide_eq_true c6
    have c6b1:decide (l0.length≤40)=true:=decide_eq_true (by omega)
    clear c6
    replace H:=iE H;obtain ⟨c7,c7b0,c7b1,H⟩|⟨c7b0,c7b1,H⟩:=H
    case inl =>
     have c7b2:¬ (l0=[]):=fun h_=>c7 (by rw [h_];rfl)
     obtain ⟨ji8,hji8⟩:∃ j_:Int,(wrap64 ((l0.length:Int) - 1))=j_:=⟨_,rfl⟩
     replace H:(if 0≤(ji8) then (if (ji8) < (l0.length:Int) then (some ((rd l0 (ji8)) != 0)) else (none)) else (none))=some r:=by first|(rw [hji8] at H;exact H)|(simp only [hji8] at H ⊢;exact H)
     have hji8w:(IntKind.i64.wrap ((l0.length:Int) - 1))=ji8:=(i64_w _).trans hji8
     replace H:=iS H;obtain ⟨c9,H⟩:=H
     have c9b0:=decide_eq_true c9
     clear c9
     replace H:=iS H;obtain ⟨c10,H⟩:=H
     have c10b0:=decide_eq_true c10
     clear c10
     obtain rfl:=Option.some.inj H
     have p103:0≤((ji8):Int):=oD
     have q103:(ji8) < (l0.length:Int):=oD
     obtain ⟨ad103,e103,hx103_0⟩:=Kd.at_int HR0.z (ji8) p103 q103
     cases e103
     replace p103:=eT p103
     replace q103:=eT q103
     go_wp2
     go_ret
     exact ⟨by first|rfl|(simp;done)|(simp only [← hji8]<;>(first|rfl|simp))|(simp [*];done),dW⟩
    obtain rfl:=Option.some.inj H
    go_wp2
    go_ret
    exact ⟨rs,dW⟩
   replace H:=iS H;obtain ⟨c3,H⟩:=H
   have c3b0:=decide_eq_true c3
   clear c3
   replace H:=bS H;obtain ⟨t102,A4,H⟩:=H
   cases t102
   case false =>
    replace H:=iF H
    obtain rfl:=Option.some.inj H
    obtain ⟨p101,q101⟩:=iN x3_1 (l0.length:Int)
    obtain ⟨ad101,e101,hx101_0⟩:=Kd.at_int HR0.z x3_1 p101 q101
    cases e101
    replace p101:=eT p101
    replace q101:=eT q101
    go_wp2_with (first|(refine gate_callee (f:=74) rfl ?_;refine gC (some 14) Try.func74 #[.int .i64 (rd l0 x3_1),.int .i64 (-1000000000000000),.int .i64 1000000000000000] ?_;(with_reducible refine (F74.calls (rd l0 x3_1) (-1000000000000000) 1000000000000000 false _ A4.z).mono ?_);rintro e w' ⟨rfl,⟨nd,rfl⟩⟩;refine ⟨_,rfl,?_⟩))
    go_ret
    exact ⟨rs,dW⟩
   replace H:=iT H
   have H':=k0 H
   clear H
   obtain ⟨p101,q101⟩:=iN x3_1 (l0.length:Int)
   obtain ⟨ad101,e101,hx101_0⟩:=Kd.at_int HR0.z x3_1 p101 q101
   cases e101
   replace p101:=eT p101
   replace q101:=eT q101
   go_wp2_with (first|(refine gate_callee (f:=74) rfl ?_;refine gC (some 14) Try.func74 #[.int .i64 (rd l0 x3_1),.int .i64 (-1000000000000000),.int .i64 1000000000000000] ?_;(with_reducible refine (F74.calls (rd l0 x3_1) (-1000000000000000) 1000000000000000 true _ A4.z).mono ?_);rintro e w' ⟨rfl,⟨nd,rfl⟩⟩;refine ⟨_,rfl,?_⟩))
   first|go_roundg k1|(simp only [← hji8];go_roundg k1)
   case measure=>have:=HK1.z;omega
   case rel=>exact ⟨(wrap64 (x3_1+1)),rs,(by first|exact H'|(rw [hji8];exact H')),⟨by have:=HK1.z;omega⟩,dW⟩
/-! ### F75: function 75 -/
def F75.f (a0:Int) (a1:Int) (a2:Int):Option (Int × Bool):=if a1=0 then ((F74.f (wrap64 (a0+(wrap64 (a1 * a2)))) (-1000000000000000) 1000000000000000).bind fun t101=>(some (wrap64 (a0+(wrap64 (a1 * a2))),t101))) else (if (mx a1 (wrap64 (-a1)))=0 then (none) else (if (mx a2 (wrap64 (-a2))) > (wrap64 ((1000000000000000:Int) / (mx a1 (wrap64 (-a1))))) then (some (0,false)) else ((F74.f (wrap64 (a0+(wrap64 (a1 * a2)))) (-1000000000000000) 1000000000000000).bind fun t102=>(some (wrap64 (a0+(wrap64 (a1 * a2))),t102)))))
theorem F75.calls (a0 : Int) (a1 : Int) (a2 : Int) (r1 : Int) (r2 : Bool) (w : World) (h : F75.f a0 a1 a2 = some (r1, r2)) :
  Calls Try.prog 75 #[.int .i64 a0,.int .i64 a1,.int .i64 a2] w fun e w'=>e=.returned (.tuple #[.int .i64 r1,.bool r2])∧Below w.heap.size w w':=by
 have HB:=k0 (Below.refl w.heap.size w)
 unfold F75.f at h
 have H:=h
 clear h
 replace H:=iE H;obtain ⟨c4,c4b0,c4b1,H⟩|⟨c4b0,c4b1,H⟩:=H
 case inl =>
  obtain ⟨ji6,hji6⟩:∃ j_:Int,(mx a2 (wrap64 (-a2)))=j_:=⟨_,rfl⟩
  replace H:(if (mx a1 (wrap64 (-a1)))=0 then (none) else (if (ji6) > (wrap64 ((1000000000000000:Int) / (mx a1 (wrap64 (-a1))))) then (some (0,false)) else ((F74.f (wrap64 (a0+(wrap64 (a1 * a2)))) (-1000000000000000) 1000000000000000).bind fun t102=>(some (wrap64 (a0+(wrap64 (a1 * a2))),t102)))))=some (r1,r2):=by first|(rw [hji6] at H;exact H)|(simp only [hji6] at H ⊢;exact H)
  have hji6_:(if a2 < (wrap64 (-a2)) then (wrap64 (-a2)) else a2)=ji6:=hji6
  obtain ⟨ji7,hji7⟩:∃ j_:Int,(mx a1 (wrap64 (-a1)))=j_:=⟨_,rfl⟩
  replace H:(if (ji7)=0 then (none) else (if (ji6) > (wrap64 ((1000000000000000:Int) / (ji7))) then (some (0,false)) else ((F74.f (wrap64 (a0+(wrap64 (a1 * a2)))) (-1000000000000000) 1000000000000000).bind fun t102=>(some (wrap64 (a0+(wrap64 (a1 * a2))),t102)))))=some (r1,r2):=by first|(rw [hji7] at H;exact H)|(simp only [hji7] at H ⊢;exact H)
  have hji7_:(if a1 < (wrap64 (-a1)) then (wrap64 (-a1)) else a1)=ji7:=hji7
  by_cases c8:(ji7)=0
  case neg =>
   rw [if_neg c8] at H
   have c8b0:=beq_eq_false_iff_ne.mpr c8
   have c8b1:=bne_iff_ne.mpr c8
   by_cases c9:(ji6) > (wrap64 ((1000000000000000:Int) / (ji7)))
   case neg =>
    rw [if_neg c9] at H
    have c9b0:=decide_eq_false c9
    have c9b0t:decide ((wrap64 (Int.tdiv 1000000000000000 ji7)) < (ji6))=false:=by rw [Int.tdiv_eq_ediv_of_nonneg (by decide)];exact c9b0
    clear c9
    replace H:=bS H;obtain ⟨t102,A10,H⟩:=H
    obtain ⟨rfl,rfl⟩:=zSo H
    go_enter Try.func75,Try.ntmps75
    go_wp2_with (first|(refine gate_callee (f:=74) rfl ?_;refine gC (some 30) Try.func74 #[.int .i64 (wrap64 (a0+(wrap64 (a1 * a2)))),.int .i64 (-1000000000000000),.int .i64 1000000000000000] ?_;(with_reducible refine (F74.calls (wrap64 (a0+(wrap64 (a1 * a2)))) (-1000000000000000) 1000000000000000 t102 _ A10.z).mono ?_);rintro e w' ⟨rfl,⟨nd,rfl⟩⟩;refine ⟨_,rfl,?_⟩))
    go_ret2
    exact ⟨by first|rfl|(simp [errW_none,errW_some]<;>rfl)|(simp only [← hji6,← hji7];first|rfl|(simp [errW_none,errW_some]<;>rfl))|(simp [*,errW_none,errW_some]<;>rfl),bl⟩
   rw [if_pos c9] at H
   have c9b0:=decide_eq_true c9
   have c9b0t:decide ((wrap64 (Int.tdiv 1000000000000000 ji7)) < (ji6))=true:=by rw [Int.tdiv_eq_ediv_of_nonneg (by decide)];exact c9b0
   clear c9
   obtain ⟨rfl,rfl⟩:=zSo H
   go_enter Try.func75,Try.ntmps75
   go_wp2
   go_ret2
   exact ⟨by first|rfl|(simp [errW_none,errW_some]<;>rfl)|(simp only [← hji6,← hji7];first|rfl|(simp [errW_none,errW_some]<;>rfl))|(simp [*,errW_none,errW_some]<;>rfl),bl⟩
  rw [if_pos c8] at H
  exact absurd H (by simp)
 replace H:=bS H;obtain ⟨t101,A5,H⟩:=H
 obtain ⟨rfl,rfl⟩:=zSo H
 go_enter Try.func75,Try.ntmps75
 go_wp2_with (first|(refine gate_callee (f:=74) rfl ?_;refine gC (some 30) Try.func74 #[.int .i64 (wrap64 (a0+(wrap64 (a1 * a2)))),.int .i64 (-1000000000000000),.int .i64 1000000000000000] ?_;(with_reducible refine (F74.calls (wrap64 (a0+(wrap64 (a1 * a2)))) (-1000000000000000) 1000000000000000 t101 _ A5.z).mono ?_);rintro e w' ⟨rfl,⟨nd,rfl⟩⟩;refine ⟨_,rfl,?_⟩))
 go_ret2
 exact ⟨eR,bl⟩
end Go.Proofs.Ytgjdbnipcpmhiaa.P
/- Set with little white space, by a program. -/
