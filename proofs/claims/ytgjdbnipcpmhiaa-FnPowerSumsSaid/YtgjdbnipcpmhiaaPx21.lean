/- Go's calls come to what the Lean functions say. Condition of each: that the Lean function answers. -/
import Derived.Test.YtgjdbnipcpmhiaaPx0
import Derived.Test.YtgjdbnipcpmhiaaPx1
import Derived.Test.YtgjdbnipcpmhiaaPx5
import Derived.Test.YtgjdbnipcpmhiaaPx6
import Derived.Test.YtgjdbnipcpmhiaaPx7
import Derived.Test.YtgjdbnipcpmhiaaPx8
import Derived.Test.YtgjdbnipcpmhiaaPx13
import Derived.Test.YtgjdbnipcpmhiaaPx15
import Derived.Test.YtgjdbnipcpmhiaaPx16
import Derived.Test.YtgjdbnipcpmhiaaPx17
import Derived.Test.YtgjdbnipcpmhiaaPx18
import Derived.Test.YtgjdbnipcpmhiaaPx19
import Derived.Test.YtgjdbnipcpmhiaaPx20
namespace Go.Proofs.Ytgjdbnipcpmhiaa.P
open Go.RowKit Go.Proofs.YtgjdbnipcpmhiaaW.PrintWords Go.Proofs.YtgjdbnipcpmhiaaW.PrintLast Go.Proofs.YtgjdbnipcpmhiaaW.PrintMore
attribute [local go_sem] max2_int min2_int max_two min_two max_three min_three max_four min_four
set_option linter.unusedVariables false
set_option linter.unusedSimpArgs false
/-! ### F4: function 4 -/
mutual
def F4.j0 : Nat → List Int → List Int → Int → List Int → Int → Bool → Option (Bool)
 | 0,_,_,_,_,_,_=>none
 | k+1,x0,x3,x4,x5,x6,x67=>if x67=true then (some false) else (if x6=0 then (F4.j1 k x0 x3 x5 (decide (x4 ≥ (wrap64 ((x3.length:Int) - 1))))) else (F4.j1 k x0 x3 x5 false))
def F4.j1 : Nat → List Int → List Int → List Int → Bool → Option (Bool)
 | 0,_,_,_,_=>none
 | k+1,x0,x3,x5,x76=>if x76=true then ((F27.f k x5).bind fun bt115=>(if bt115.2=0 then ((F13.f k bt115.1 x3).bind fun t119=>(if t119=true then (if bt115.2=4 then (some false) else (F4.j2 k x0)) else (some false))) else (if bt115.2=4 then (some false) else (F4.j2 k x0)))) else (F4.j2 k x0)
def F4.j2 : Nat → List Int → Option (Bool)
 | 0,_=>none
 | k+1,x0=>(F28.f k x0).bind fun bt120=>((F29.f k bt120.1 bt120.2.1 bt120.2.2).bind fun bt126=>(if bt126.2=0 then (F4.l0 k x0 bt120.2.2 (([]:List Int)) 1 bt120.1 bt120.2.1) else (F4.j9 k x0)))
def F4.j9 : Nat → List Int → Option (Bool)
 | 0,_=>none
 | k+1,x0=>(F33.f k x0).bind fun t154=>((F27.f k t154).bind fun bt157=>((F34.f k t154).bind fun bt161=>((F35.f k x0).bind fun t165=>((F31.f k t165).bind fun bt168=>((F36.f k t165).bind fun bt172=>(if bt157.2=bt161.2 then ((F13.f k bt157.1 bt161.1).bind fun t176=>(if t176=true then (if bt168.2=bt172.2 then ((F13.f k bt168.1 bt172.1).bind fun t177=>(some t177)) else (some false)) else (some false))) else (some false)))))))
def F4.l0 : Nat → List Int → Int → List Int → Int → Int → List (List Int) → Option (Bool)
 | 0,_,_,_,_,_,_=>none
 | k+1,x0,x12,x15,x16,x126000,x126001=>if x16≤x12 then ((F30.f k x126000 x126001 x16).bind fun bt131=>(if bt131.2=0 then (if x15.length < 17592186044416 then (F4.l0 k x0 x12 (x15 ++ [bt131.1]) (wrap64 (x16+1)) x126000 x126001) else (none)) else (some false))) else ((F31.f k x15).bind fun bt136=>((F27.f k x15).bind fun bt140=>((F32.f k x126000 x126001 x12).bind fun bt144=>(if bt136.2=4 then (F4.j4 k x0 bt136.1 bt136.2 bt140.1 bt140.2 bt144.1 true x126000 x126001) else (if bt140.2=4 then (F4.j4 k x0 bt136.1 bt136.2 bt140.1 bt140.2 bt144.1 true x126000 x126001) else (F4.j4 k x0 bt136.1 bt136.2 bt140.1 bt140.2 bt144.1 (bt144.2 != 0) x126000 x126001))))))
def F4.j4 : Nat → List Int → List Int → Int → List Int → Int → List Int → Bool → Int → List (List Int) → Option (Bool)
 | 0,_,_,_,_,_,_,_,_,_=>none
 | k+1,x0,x19,x20,x21,x22,x23,x150,x126000,x126001=>if x150=true then (some false) else (F4.l1 k x0 x19 x20 x21 x22 x23 0 x126000 x126001)
def F4.l1 : Nat → List Int → List Int → Int → List Int → Int → List Int → Int → Int → List (List Int) → Option (Bool)
 | 0,_,_,_,_,_,_,_,_,_=>none
 | k+1,x0,x19,x20,x21,x22,x23,x25,x126000,x126001=>if x20=0 then (F4.j6 k x0 x19 x20 x21 x22 x23 x25 (decide (x25 < (x19.length:Int))) x126000 x126001) else (F4.j6 k x0 x19 x20 x21 x22 x23 x25 false x126000 x126001)
def F4.j6 : Nat → List Int → List Int → Int → List Int → Int → List Int → Int → Bool → Int → List (List Int) → Option (Bool)
 | 0,_,_,_,_,_,_,_,_,_,_=>none
 | k+1,x0,x19,x20,x21,x22,x23,x25,x158,x126000,x126001=>if x158=true then ((F29.f k x126000 x126001 (wrap64 (x25+1))).bind fun bt148=>(if bt148.2=0 then (if 0≤x25 then (if x25 < (x19.length:Int) then (if bt148.1=(rd x19 x25) then (F4.l1 k x0 x19 x20 x21 x22 x23 (wrap64 (x25+1)) x126000 x126001) else (some false)) else (none)) else (none)) else (some false))) else (F4.l2 k x0 x21 x22 x23 0)
def F4.l2 : Nat → List Int → List Int → Int → List Int → Int → Option (Bool)
 | 0,_,_,_,_,_=>none
 | k+1,x0,x21,x22,x23,x28=>if x22=0 then (F4.j8 k x0 x21 x22 x23 x28 (decide (x28 < (x23.length:Int)))) else (F4.j8 k x0 x21 x22 x23 x28 false)
def F4.j8 : Nat → List Int → List Int → Int → List Int → Int → Bool → Option (Bool)
 | 0,_,_,_,_,_,_=>none
 | k+1,x0,x21,x22,x23,x28,x185=>if x185=true then (if x28 < (x21.length:Int) then (if 0≤x28 then (if x28 < (x23.length:Int) then (if (rd x23 x28)=(rd x21 x28) then (F4.l2 k x0 x21 x22 x23 (wrap64 (x28+1))) else (some false)) else (none)) else (none)) else (if 0≤x28 then (if x28 < (x23.length:Int) then (if (rd x23 x28)=0 then (F4.l2 k x0 x21 x22 x23 (wrap64 (x28+1))) else (some false)) else (none)) else (none))) else (F4.j9 k x0)
end
def F4.f (k:Nat) (l0:List Int):Option (Bool):=(F5.f l0).bind fun t101=>(if t101=true then (some true) else ((F24.f k l0).bind fun bt102=>((F25.f k bt102.1 bt102.2).bind fun bt106=>((F26.f k bt102.1 bt102.2).bind fun bt110=>(if bt106.2=bt110.2 then ((F13.f k bt106.1 bt110.1).bind fun t114=>(F4.j0 k l0 bt102.1 bt102.2 bt106.1 bt106.2 (!t114))) else (F4.j0 k l0 bt102.1 bt102.2 bt106.1 bt106.2 true))))))
set_option maxHeartbeats 8000000 in
set_option maxRecDepth 100000 in
theorem F4.calls (k : Nat) (A0 : Option Addr) (c0 : Nat) (l0 : List Int) (r : Bool) (w : World) (hr0 : Kd.C (Kd.int .u8) w A0 l0.length l0) (hc0 : l0.length ≤ c0) (h : F4.f k l0 = some r) :
  Calls Try.prog 4 #[.slice A0 l0.length c0] w fun e w'=>e=.returned (.bool r)∧Below w.heap.size w w':=by
 have hu26:=Try.underlying26
 have HR0:=k0 hr0
 have HC0:=k0 hc0
 clear hr0 hc0
 have HB:=k0 (Below.refl w.heap.size w)
 unfold F4.f at h
 have H:=h
 clear h
 replace H:=bS H;obtain ⟨t101,A2,H⟩:=H
 cases t101
 case false =>
  replace H:=iF H
  replace H:=bS H;obtain ⟨⟨t102,t103⟩,A4,H⟩:=H
  dsimp only at H
  replace H:=bS H;obtain ⟨⟨t106,t107⟩,A5,H⟩:=H
  dsimp only at H
  replace H:=bS H;obtain ⟨⟨t110,t111⟩,A6,H⟩:=H
  dsimp only at H
  have HC7:=k0 H
  clear H
  go_enter Try.func4,Try.ntmps4
  go_upto_region 6 with (first|((with_reducible refine gate_callee (f:=5) rfl ?_);refine gC (some 41) Try.func5 #[.slice A0 l0.length c0] ?_;(with_reducible refine (F5.calls _ _ l0 false _ ?side1 ?side2 A2.z).mono ?_);(case side1=>exact aC HR0.z);(case side2=>exact HC0.z);rintro e w' ⟨rfl,⟨nd,rfl⟩⟩;refine ⟨_,rfl,?_⟩)|((with_reducible refine gate_callee (f:=24) rfl ?_);refine gC (some 44) Try.func24 #[.slice A0 l0.length c0] ?_;(with_reducible refine (F24.calls k _ _ l0 t102 t103 _ ?side1 ?side2 A4.z).mono ?_);(case side1=>exact aC HR0.z);(case side2=>exact HC0.z);rintro e w8 ⟨v104,rfl,ho0,hb⟩;refine ⟨_,rfl,?_⟩;have HO105:=k0 (Kd.R_lower ho0 (below_size bl));replace HB:=bW hb;obtain ⟨Ao9,co9,rfl⟩:=Kd.R_slice HO105.z)|((with_reducible refine gate_callee (f:=25) rfl ?_);refine gC (some 50) Try.func25 #[.slice Ao9 t102.length co9,.int .i64 t103] ?_;(with_reducible refine (F25.calls k _ _ t102 t103 t106 t107 _ ?side1 ?side2 A5.z).mono ?_);(case side1=>exact aC ((Kd.R_reads' HO105.z).2.2));(case side2=>exact (Kd.R_reads' HO105.z).2.1);rintro e w10 ⟨v108,rfl,ho0,hb⟩;refine ⟨_,rfl,?_⟩;have HO109:=k0 (Kd.R_lower (Kd.R_new' ho0 (Kd.R_lt (aR HO105.z))) (below_size bl));replace HO105:=elR HO105 (Kd.R_base ho0) hb;replace HB:=bW hb)|((with_reducible refine gate_callee (f:=26) rfl ?_);refine gC (some 56) Try.func26 #[.slice Ao9 t102.length co9,.int .i64 t103] ?_;(with_reducible refine (F26.calls k _ _ t102 t103 t110 t111 _ ?side1 ?side2 A6.z).mono ?_);(case side1=>exact aC ((Kd.R_reads' HO105.z).2.2));(case side2=>exact (Kd.R_reads' HO105.z).2.1);rintro e w11 ⟨v112,rfl,ho0,hb⟩;refine ⟨_,rfl,?_⟩;have HO113:=k0 (Kd.R_lower (Kd.R_new' (Kd.R_new' ho0 (Kd.R_lt (aR HO105.z))) (Kd.R_lt (aR HO109.z))) (below_size bl));replace HO105:=elR HO105 (Kd.R_base ho0) hb;replace HO109:=elR HO109 (Kd.R_base ho0) hb;replace HB:=bW hb))
  (try simp only [Act.put,zI,zZ,zS])
  go_cut [67] (fun v67 wc=>∃ (kq:Nat) (x67_6:Bool),v67=.bool x67_6∧Aside0 (F4.j0 kq l0 t102 t103 t106 t107 x67_6=some r)∧Aside0 (kq≤k)∧Aside0 (Kd.R (Kd.int .i64) 2 wc w.heap.size (fun k_=>some k_ ≠ (v108:Value).ownBlock) (.slice Ao9 t102.length co9) t102)∧Aside0 (Kd.R (Kd.int .i64) 2 wc w.heap.size (fun k_=>some k_ ≠ ((.slice Ao9 t102.length co9):Value).ownBlock) v108 t106)∧Aside0 (Below w.heap.size w wc))
  case first =>
   have H:=HC7.z
   clear HC7
   replace H:=iE H;obtain ⟨c12,c12b0,c12b1,H⟩|⟨c12b0,c12b1,H⟩:=H
   case inl =>
    (first|rw [c12b0]|(simp only [i64_w,i32_w];rw [c12b0])|skip)
    have H':=k0 H
    clear H
    go_wp2
    go_meet
    case rel=>exact ⟨_,(true),rs,H',⟨oL⟩,⟨aR (Kd.R_mono HO105.z (fun _ hk=>hk.1.2))⟩,⟨aR (Kd.R_mono HO109.z (fun _ hk=>hk.1.2))⟩,⟨bl⟩⟩
   (first|rw [c12b0]|(simp only [i64_w,i32_w];rw [c12b0])|skip)
   replace H:=bS H;obtain ⟨t114,A13,H⟩:=H
   have H':=k0 H
   clear H
   obtain ⟨Ao14,co14,rfl⟩:=Kd.R_slice HO109.z
   obtain ⟨Ao15,co15,rfl⟩:=Kd.R_slice HO113.z
   go_wp2_with (first|(go_at_call 13;(with_reducible refine (F13.calls k _ _ t106 _ _ t110 t114 _ ?side1 ?side2 ?side3 ?side4 A13.z).mono ?_);(case side1=>exact aC ((Kd.R_reads' HO109.z).2.2));(case side2=>exact (Kd.R_reads' HO109.z).2.1);(case side3=>exact aC ((Kd.R_reads' HO113.z).2.2));(case side4=>exact (Kd.R_reads' HO113.z).2.1);rintro e w' ⟨rfl,⟨nd,rfl⟩⟩))
   go_meet
   case rel=>exact ⟨_,(!t114),rs,H',⟨oL⟩,⟨aR (Kd.R_mono HO105.z (fun _ hk=>hk.1.2))⟩,⟨aR (Kd.R_mono HO109.z (fun _ hk=>hk.1.2))⟩,⟨bl⟩⟩
  case rest=>as_aux_lemma =>
   clear HC7
   obtain ⟨kq,x67_6,rfl,HA,HJ6,HO_3,HO_5,HB⟩:=hcut
   cases kq with
   | zero=>exact absurd HA.z (by simp [F4.j0])
   | succ kj6 =>
    have H:=HA.z
    clear HA
    simp only [F4.j0] at H
    cases x67_6
    case false =>
     replace H:=iF H
     have HC17:=k0 H
     clear H
     go_upto_region 8 with (fail)
     go_cut [76] (fun v76 wc=>∃ (kq:Nat) (x76_16:Bool),v76=.bool x76_16∧Aside0 (F4.j1 kq l0 t102 t106 x76_16=some r)∧Aside0 (kq≤kj6)∧Aside0 (Kd.R (Kd.int .i64) 2 wc w.heap.size (fun k_=>some k_ ≠ (v108:Value).ownBlock) (.slice Ao9 t102.length co9) t102)∧Aside0 (Kd.R (Kd.int .i64) 2 wc w.heap.size (fun k_=>some k_ ≠ ((.slice Ao9 t102.length co9):Value).ownBlock) v108 t106)∧Aside0 (Below w.heap.size w wc))
     case first =>
      have H:=HC17.z
      clear HC17
      replace H:=iE H;obtain ⟨c18,c18b0,c18b1,H⟩|⟨c18b0,c18b1,H⟩:=H
      case inl =>
       (first|rw [c18b0]|(simp only [i64_w,i32_w];rw [c18b0])|skip)
       have H':=k0 H
       clear H
       go_wp2
       go_meet
       case rel=>exact ⟨_,(false),rs,H',⟨by have:=HJ6.out;first|omega|exact Nat.le_refl _⟩,⟨aR (HO_3.z)⟩,⟨aR (HO_5.z)⟩,⟨bl⟩⟩
      (first|rw [c18b0]|(simp only [i64_w,i32_w];rw [c18b0])|skip)
      have H':=k0 H
      clear H
      go_wp2
      go_meet
      case rel=>exact ⟨_,(decide (t103 ≥ (wrap64 ((t102.length:Int) - 1)))),rs,H',⟨by have:=HJ6.out;first|omega|exact Nat.le_refl _⟩,⟨aR (HO_3.z)⟩,⟨aR (HO_5.z)⟩,⟨bl⟩⟩
     case rest=>as_aux_lemma =>
      clear HC17
      obtain ⟨kq,x76_16,rfl,HA,HJ16,HO_3,HO_5,HB⟩:=hcut
      cases kq with
      | zero=>exact absurd HA.z (by simp [F4.j1])
      | succ kj16 =>
       have H:=HA.z
       clear HA
       simp only [F4.j1] at H
       have HC19:=k0 H
       clear H
       go_upto_if 76 with (fail)
       go_cut [] (fun wc=>∃ (kq:Nat),Aside0 (F4.j2 kq l0=some r)∧Aside0 (kq≤kj16)∧Aside0 (Below w.heap.size w wc))
       case first =>
        have H:=HC19.z
        clear HC19
        cases x76_16
        case false =>
         replace H:=iF H
         have H':=k0 H
         clear H
         go_wp2
         go_meet
         case rel=>exact ⟨_,H',⟨by have:=HJ6.out;have:=HJ16.out;first|omega|exact Nat.le_refl _⟩,⟨bl⟩⟩
        replace H:=iT H
        replace H:=bS H;obtain ⟨⟨t115,t116⟩,A21,H⟩:=H
        dsimp only at H
        replace H:=iE H;obtain ⟨c22,c22b0,c22b1,H⟩|⟨c22b0,c22b1,H⟩:=H
        case inl =>
         (first|rw [c22b0]|(simp only [i64_w,i32_w];rw [c22b0])|skip)
         replace H:=iE H;obtain ⟨c35,c35b0,c35b1,H⟩|⟨c35b0,c35b1,H⟩:=H
         case inl =>
          have H':=k0 H
          clear H
          obtain ⟨Ao38,co38,rfl⟩:=Kd.R_slice HO_5.z
          go_wp2_with (first|((with_reducible refine gate_callee (f:=27) rfl ?_);refine gC (some 79) Try.func27 #[.slice Ao38 t106.length co38] ?_;(with_reducible refine (F27.calls kj16 _ _ t106 t115 t116 _ ?side1 ?side2 A21.z).mono ?_);(case side1=>exact aC ((Kd.R_reads' HO_5.z).2.2));(case side2=>exact (Kd.R_reads' HO_5.z).2.1);rintro e w39 ⟨v117,rfl,ho0,hb⟩;refine ⟨_,rfl,?_⟩;have HO118:=k0 (Kd.R_lower (Kd.R_new' (Kd.R_new' ho0 (Kd.R_lt (aR HO_3.z))) (Kd.R_lt (aR HO_5.z))) (below_size bl));replace HO_3:=elR HO_3 (Kd.R_base ho0) hb;replace HO_5:=elR HO_5 (Kd.R_base ho0) hb;replace HB:=bW hb))
          go_meet
          case rel=>exact ⟨_,H',⟨by have:=HJ6.out;have:=HJ16.out;first|omega|exact Nat.le_refl _⟩,⟨bl⟩⟩
         obtain rfl:=Option.some.inj H
         obtain ⟨Ao36,co36,rfl⟩:=Kd.R_slice HO_5.z
         go_wp2_with (first|((with_reducible refine gate_callee (f:=27) rfl ?_);refine gC (some 79) Try.func27 #[.slice Ao36 t106.length co36] ?_;(with_reducible refine (F27.calls kj16 _ _ t106 t115 t116 _ ?side1 ?side2 A21.z).mono ?_);(case side1=>exact aC ((Kd.R_reads' HO_5.z).2.2));(case side2=>exact (Kd.R_reads' HO_5.z).2.1);rintro e w37 ⟨v117,rfl,ho0,hb⟩;refine ⟨_,rfl,?_⟩;have HO118:=k0 (Kd.R_lower (Kd.R_new' (Kd.R_new' ho0 (Kd.R_lt (aR HO_3.z))) (Kd.R_lt (aR HO_5.z))) (below_size bl));replace HO_3:=elR HO_3 (Kd.R_base ho0) hb;replace HO_5:=elR HO_5 (Kd.R_base ho0) hb;replace HB:=bW hb))
         go_ret
         exact ⟨eR,bl⟩
        (first|rw [c22b0]|(simp only [i64_w,i32_w];rw [c22b0])|skip)
        replace H:=bS H;obtain ⟨t119,A23,H⟩:=H
        cases t119
        case false =>
         replace H:=iF H
         obtain rfl:=Option.some.inj H
         obtain ⟨Ao32,co32,rfl⟩:=Kd.R_slice HO_5.z
         go_wp2_with (first|((with_reducible refine gate_callee (f:=27) rfl ?_);refine gC (some 79) Try.func27 #[.slice Ao32 t106.length co32] ?_;(with_reducible refine (F27.calls kj16 _ _ t106 t115 t116 _ ?side1 ?side2 A21.z).mono ?_);(case side1=>exact aC ((Kd.R_reads' HO_5.z).2.2));(case side2=>exact (Kd.R_reads' HO_5.z).2.1);rintro e w33 ⟨v117,rfl,ho0,hb⟩;refine ⟨_,rfl,?_⟩;have HO118:=k0 (Kd.R_lower (Kd.R_new' (Kd.R_new' ho0 (Kd.R_lt (aR HO_3.z))) (Kd.R_lt (aR HO_5.z))) (below_size bl));replace HO_3:=elR HO_3 (Kd.R_base ho0) hb;replace HO_5:=elR HO_5 (Kd.R_base ho0) hb;replace HB:=bW hb;obtain ⟨Ao34,co34,rfl⟩:=Kd.R_slice HO118.z)|(go_at_call 13;(with_reducible refine (F13.calls kj16 _ _ t115 _ _ t102 false _ ?side1 ?side2 ?side3 ?side4 A23.z).mono ?_);(case side1=>exact aC ((Kd.R_reads' HO118.z).2.2));(case side2=>exact (Kd.R_reads' HO118.z).2.1);(case side3=>exact aC ((Kd.R_reads' HO_3.z).2.2));(case side4=>exact (Kd.R_reads' HO_3.z).2.1);rintro e w' ⟨rfl,⟨nd,rfl⟩⟩))
         go_ret
         exact ⟨eR,bl⟩
        replace H:=iT H
        replace H:=iE H;obtain ⟨c25,c25b0,c25b1,H⟩|⟨c25b0,c25b1,H⟩:=H
        case inl =>
         have H':=k0 H
         clear H
         obtain ⟨Ao29,co29,rfl⟩:=Kd.R_slice HO_5.z
         go_wp2_with (first|((with_reducible refine gate_callee (f:=27) rfl ?_);refine gC (some 79) Try.func27 #[.slice Ao29 t106.length co29] ?_;(with_reducible refine (F27.calls kj16 _ _ t106 t115 t116 _ ?side1 ?side2 A21.z).mono ?_);(case side1=>exact aC ((Kd.R_reads' HO_5.z).2.2));(case side2=>exact (Kd.R_reads' HO_5.z).2.1);rintro e w30 ⟨v117,rfl,ho0,hb⟩;refine ⟨_,rfl,?_⟩;have HO118:=k0 (Kd.R_lower (Kd.R_new' (Kd.R_new' ho0 (Kd.R_lt (aR HO_3.z))) (Kd.R_lt (aR HO_5.z))) (below_size bl));replace HO_3:=elR HO_3 (Kd.R_base ho0) hb;replace HO_5:=elR HO_5 (Kd.R_base ho0) hb;replace HB:=bW hb;obtain ⟨Ao31,co31,rfl⟩:=Kd.R_slice HO118.z)|(go_at_call 13;(with_reducible refine (F13.calls kj16 _ _ t115 _ _ t102 true _ ?side1 ?side2 ?side3 ?side4 A23.z).mono ?_);(case side1=>exact aC ((Kd.R_reads' HO118.z).2.2));(case side2=>exact (Kd.R_reads' HO118.z).2.1);(case side3=>exact aC ((Kd.R_reads' HO_3.z).2.2));(case side4=>exact (Kd.R_reads' HO_3.z).2.1);rintro e w' ⟨rfl,⟨nd,rfl⟩⟩))
         go_meet
         case rel=>exact ⟨_,H',⟨by have:=HJ6.out;have:=HJ16.out;first|omega|exact Nat.le_refl _⟩,⟨bl⟩⟩
        obtain rfl:=Option.some.inj H
        obtain ⟨Ao26,co26,rfl⟩:=Kd.R_slice HO_5.z
        go_wp2_with (first|((with_reducible refine gate_callee (f:=27) rfl ?_);refine gC (some 79) Try.func27 #[.slice Ao26 t106.length co26] ?_;(with_reducible refine (F27.calls kj16 _ _ t106 t115 t116 _ ?side1 ?side2 A21.z).mono ?_);(case side1=>exact aC ((Kd.R_reads' HO_5.z).2.2));(case side2=>exact (Kd.R_reads' HO_5.z).2.1);rintro e w27 ⟨v117,rfl,ho0,hb⟩;refine ⟨_,rfl,?_⟩;have HO118:=k0 (Kd.R_lower (Kd.R_new' (Kd.R_new' ho0 (Kd.R_lt (aR HO_3.z))) (Kd.R_lt (aR HO_5.z))) (below_size bl));replace HO_3:=elR HO_3 (Kd.R_base ho0) hb;replace HO_5:=elR HO_5 (Kd.R_base ho0) hb;replace HB:=bW hb;obtain ⟨Ao28,co28,rfl⟩:=Kd.R_slice HO118.z)|(go_at_call 13;(with_reducible refine (F13.calls kj16 _ _ t115 _ _ t102 true _ ?side1 ?side2 ?side3 ?side4 A23.z).mono ?_);(case side1=>exact aC ((Kd.R_reads' HO118.z).2.2));(case side2=>exact (Kd.R_reads' HO118.z).2.1);(case side3=>exact aC ((Kd.R_reads' HO_3.z).2.2));(case side4=>exact (Kd.R_reads' HO_3.z).2.1);rintro e w' ⟨rfl,⟨nd,rfl⟩⟩))
        go_ret
        exact ⟨eR,bl⟩
       case rest=>as_aux_lemma =>
        clear HC19
        obtain ⟨kq,HA,HJ18,HB⟩:=hcut
        cases kq with
        | zero=>exact absurd HA.z (by simp [F4.j2])
        | succ kj18 =>
         have H:=HA.z
         clear HA
         simp only [F4.j2] at H
         replace H:=bS H;obtain ⟨⟨t120,t121,t124⟩,A40,H⟩:=H
         dsimp only at H
         replace H:=bS H;obtain ⟨⟨t126,t127⟩,A41,H⟩:=H
         dsimp only at H
         have HC42:=k0 H
         clear H
         go_upto_if 106 with (first|((with_reducible refine gate_callee (f:=28) rfl ?_);refine gC (some 96) Try.func28 #[.slice A0 l0.length c0] ?_;(with_reducible refine (F28.calls kj18 _ _ l0 t120 t121 t124 _ ?side1 ?side2 A40.z).mono ?_);(case side1=>exact aC (Kd.C_below HR0.z HB.z));(case side2=>exact HC0.z);rintro e w43 ⟨v122,rfl,ho0,hb⟩;refine ⟨_,rfl,?_⟩;have HO123:=k0 (Kd.V_lower (Kd.V_mono (ok':=fun k_=>True) ho0 (fun k_ hk_=>trivial)) (below_size bl));replace HB:=bW hb)|((with_reducible refine gate_dst (N:=11) rfl ?_);(try (refine gate_guard (by rfl) ?_;dsimp only));refine bxe 11 #[.int .i64 0,.slice none 0 0] 26 ?_;intro gb125 hg w44 hbox hb;replace HO123:=ebV HO123 hg hb;have BK125:=k0 hbox;have GW125:=gW hg (below_size bl);have GE125:=GW125;replace HB:=bW hb;clear hb hbox hg;obtain ⟨_,_,_,_⟩:=cz2 BK125;obtain ⟨Ao46,co46,rfl⟩:=Kd.V_slice HO123.z)|((with_reducible refine gate_callee (f:=29) rfl ?_);refine gC (some 102) Try.func29 #[.agg #[.int .i64 t120,.slice Ao46 t121.length co46],.int .i64 t124] ?_;(with_reducible refine (F29.calls kj18 t120 _ _ t121 t124 t126 t127 _ ?side1 ?side2 A41.z).mono ?_);(case side1=>exact rV HO123);(case side2=>exact (Kd.V_reads' HO123.z).2.1);rintro e w47 ⟨rfl,hb⟩;refine ⟨_,rfl,?_⟩;replace HO123:=bwV HO123 hb;replace BK125:=kP (sO t120 Ao46 t121 co46 26) BK125 hb;replace HB:=bW hb))
         (try simp only [Act.put,zI,zZ,zS])
         go_cut [] (fun wc=>∃ (kq:Nat),Aside0 (F4.j9 kq l0=some r)∧Aside0 (kq≤kj18)∧Aside0 (Kd.V (Kd.slice 2 (Kd.int .i64)) 27 wc w.heap.size (fun k_=>k_ ≠ gb125) (.slice Ao46 t121.length co46) t121)∧Aside0 (wc.heap[gb125]?=some (sO t120 Ao46 t121 co46 26))∧Aside0 (Below w.heap.size w wc))
         case first =>
          have H:=HC42.z
          clear HC42
          replace H:=iE H;obtain ⟨c48,c48b0,c48b1,H⟩|⟨c48b0,c48b1,H⟩:=H
          case inl =>
           (first|rw [c48b0]|(simp only [i64_w,i32_w];rw [c48b0])|skip)
           have H':=k0 H
           clear H
           go_wp2
           go_meet
           case rel=>exact ⟨_,H',⟨by have:=HJ6.out;have:=HJ16.out;have:=HJ18.out;first|omega|exact Nat.le_refl _⟩,⟨aV (Kd.V_mono HO123.z (fun _ hk=>hk.2))⟩,⟨bk⟩,⟨bl⟩⟩
          (first|rw [c48b0]|(simp only [i64_w,i32_w];rw [c48b0])|skip)
          obtain ⟨y128,Ny128⟩:=nY (([]:List Int):List Int)
          replace H:(F4.l0 kj18 l0 t124 y128 1 t120 t121)=some r:=rH Ny128.z H
          have H':=k0 H
          clear H
          go_wp2_with (first|((with_reducible refine gate_dst (N:=107) rfl ?_);(try (refine gate_guard (by rfl) ?_;dsimp only));refine zRt 2 (N:=107) (xs:=([]:List Int)) (inner:=[]) (Reps.none _ _) ?_;intro v129 w49 ho50 hb hg_ hnew_;clear hg_ hnew_;(first|rw [← Ny128.z] at ho50|(simp only [Int.reduceToNat] at ho50;rw [← Ny128.z] at ho50));replace HO123:=elV HO123 (Kd.R_base ho50) hb;have HO130:=k0 (Kd.R_lower ho50 (below_size bl));replace BK125:=kB BK125 hb;replace HB:=bW hb;clear hb ho50))
          go_loopg [15,16] kj18 (fun kq v15 v16 w'=>∃ (x15_4:List Int) (x16_4:Int),v16=.int .i64 x16_4∧Aside0 (F4.l0 kq l0 t124 x15_4 x16_4 t120 t121=some r)∧Aside0 (kq≤kj18)∧Aside0 (Kd.R (Kd.int .i64) 2 w' w.heap.size (fun _=>True) v15 x15_4)∧Aside0 (Kd.V (Kd.slice 2 (Kd.int .i64)) 27 w' w.heap.size (fun k_=>some k_ ≠ (v15:Value).ownBlock∧k_ ≠ gb125) (.slice Ao46 t121.length co46) t121)∧Aside0 (w'.heap[gb125]?=some (sO t120 Ao46 t121 co46 26))∧Aside0 (Below w.heap.size w w'))
          case atStart=>exact ⟨(y128),(1),rs,H',⟨Nat.le_refl _⟩,⟨aR (HO130.z)⟩,⟨aV (Kd.V_mono HO123.z (fun _ hk=>⟨hk.2,hk.1.2⟩))⟩,⟨bk⟩,⟨bl⟩⟩
          case round=>as_aux_lemma =>
           clear H'
           obtain ⟨x15_4,x16_4,rfl,HA,HK4,HO_15,HO_126001,BK125,HB⟩:=hrel
           cases gk with
           | zero=>exact absurd HA.z (by simp [F4.l0])
           | succ k4 =>
            have H:=HA.z
            clear HA
            simp only [F4.l0] at H
            replace H:=iC H;obtain ⟨c51b0,H⟩|⟨c51b0,H⟩:=H
            case inl =>
             replace H:=bS H;obtain ⟨⟨t136,t137⟩,A60,H⟩:=H
             dsimp only at H
             replace H:=bS H;obtain ⟨⟨t140,t141⟩,A61,H⟩:=H
             dsimp only at H
             replace H:=bS H;obtain ⟨⟨t144,t147⟩,A62,H⟩:=H
             dsimp only at H
             have HC63:=k0 H
             clear H
             obtain ⟨Ao64,co64,rfl⟩:=Kd.R_slice HO_15.z
             go_upto_region 26 with (first|((with_reducible refine gate_callee (f:=31) rfl ?_);refine gC (some 127) Try.func31 #[.slice Ao64 x15_4.length co64] ?_;(with_reducible refine (F31.calls k4 _ _ x15_4 t136 t137 _ ?side1 ?side2 A60.z).mono ?_);(case side1=>exact aC ((Kd.R_reads' HO_15.z).2.2));(case side2=>exact (Kd.R_reads' HO_15.z).2.1);rintro e w65 ⟨v138,rfl,ho0,hb⟩;refine ⟨_,rfl,?_⟩;replace HO_126001:=elV HO_126001 (Kd.R_base ho0) hb;have HO139:=k0 (Kd.R_lower (Kd.R_new' ho0 (Kd.R_lt (aR HO_15.z))) (below_size bl));replace HO_15:=elR HO_15 (Kd.R_base ho0) hb;replace BK125:=kB BK125 hb;replace HB:=bW hb)|((with_reducible refine gate_callee (f:=27) rfl ?_);refine gC (some 132) Try.func27 #[.slice Ao64 x15_4.length co64] ?_;(with_reducible refine (F27.calls k4 _ _ x15_4 t140 t141 _ ?side1 ?side2 A61.z).mono ?_);(case side1=>exact aC ((Kd.R_reads' HO_15.z).2.2));(case side2=>exact (Kd.R_reads' HO_15.z).2.1);rintro e w66 ⟨v142,rfl,ho0,hb⟩;refine ⟨_,rfl,?_⟩;replace HO_126001:=elV HO_126001 (Kd.R_base ho0) hb;have HO143:=k0 (Kd.R_lower (Kd.R_new' (Kd.R_new' ho0 (Kd.R_lt (aR HO_15.z))) (Kd.R_lt (aR HO139.z))) (below_size bl));replace HO_15:=elR HO_15 (Kd.R_base ho0) hb;replace HO139:=elR HO139 (Kd.R_base ho0) hb;replace BK125:=kB BK125 hb;replace HB:=bW hb;obtain ⟨_,_,_,_⟩:=cz2 BK125)|((with_reducible refine gate_callee (f:=32) rfl ?_);refine gC (some 138) Try.func32 #[.agg #[.int .i64 t120,.slice Ao46 t121.length co46],.int .i64 t124] ?_;(with_reducible refine (F32.calls k4 t120 _ _ t121 t124 t144 t147 _ ?side1 ?side2 A62.z).mono ?_);(case side1=>exact aC ((Kd.V_reads' HO_126001.z).2.2));(case side2=>exact (Kd.V_reads' HO_126001.z).2.1);rintro e w68 ⟨v145,rfl,ho0,hb⟩;refine ⟨_,rfl,?_⟩;replace HO_126001:=elV HO_126001 (Kd.R_base ho0) hb;have HO146:=k0 (Kd.R_lower (Kd.R_new' (Kd.R_new' (Kd.R_new' ho0 (Kd.R_lt (aR HO_15.z))) (Kd.R_lt (aR HO139.z))) (Kd.R_lt (aR HO143.z))) (below_size bl));replace HO_15:=elR HO_15 (Kd.R_base ho0) hb;replace HO139:=elR HO139 (Kd.R_base ho0) hb;replace HO143:=elR HO143 (Kd.R_base ho0) hb;replace BK125:=kB BK125 hb;replace HB:=bW hb))
             (try simp only [Act.put,zI,zZ,zS])
             go_cut [150] (fun v150 wc=>∃ (kq:Nat) (x150_62:Bool),v150=.bool x150_62∧Aside0 (F4.j4 kq l0 t136 t137 t140 t141 t144 x150_62 t120 t121=some r)∧Aside0 (kq≤k4)∧Aside0 (Kd.R (Kd.int .i64) 2 wc w.heap.size (fun k_=>some k_ ≠ (v142:Value).ownBlock∧some k_ ≠ (v145:Value).ownBlock) v138 t136)∧Aside0 (Kd.R (Kd.int .i64) 2 wc w.heap.size (fun k_=>some k_ ≠ (v138:Value).ownBlock∧some k_ ≠ (v145:Value).ownBlock) v142 t140)∧Aside0 (Kd.R (Kd.int .i64) 2 wc w.heap.size (fun k_=>some k_ ≠ (v138:Value).ownBlock∧some k_ ≠ (v142:Value).ownBlock) v145 t144)∧Aside0 (Kd.V (Kd.slice 2 (Kd.int .i64)) 27 wc w.heap.size (fun k_=>some k_ ≠ (v138:Value).ownBlock∧some k_ ≠ (v142:Value).ownBlock∧some k_ ≠ (v145:Value).ownBlock∧k_ ≠ gb125) (.slice Ao46 t121.length co46) t121)∧Aside0 (wc.heap[gb125]?=some (sO t120 Ao46 t121 co46 26))∧Aside0 (Below w.heap.size w wc))
             case first =>
              have H:=HC63.z
              clear HC63
              replace H:=iE H;obtain ⟨c69,c69b0,c69b1,H⟩|⟨c69b0,c69b1,H⟩:=H
              case inl =>
               (first|rw [c69b0]|(simp only [i64_w,i32_w];rw [c69b0])|skip)
               replace H:=iE H;obtain ⟨c70,c70b0,c70b1,H⟩|⟨c70b0,c70b1,H⟩:=H
               case inl =>
                have H':=k0 H
                clear H
                go_wp2
                go_meet
                case rel=>exact ⟨_,((t147 != 0)),rs,H',⟨by have:=HJ6.out;have:=HJ16.out;have:=HJ18.out;have:=HK4.z;first|omega|exact Nat.le_refl _⟩,⟨aR (Kd.R_mono HO139.z (fun _ hk=>⟨hk.1.2,hk.2⟩))⟩,⟨aR (Kd.R_mono HO143.z (fun _ hk=>⟨hk.1.2,hk.2⟩))⟩,⟨aR (Kd.R_mono HO146.z (fun _ hk=>⟨hk.1.2,hk.2⟩))⟩,⟨aV (Kd.V_mono HO_126001.z (fun _ hk=>⟨hk.1.1.2,⟨hk.1.2,⟨hk.2,hk.1.1.1.2⟩⟩⟩))⟩,⟨bk⟩,⟨bl⟩⟩
               have H':=k0 H
               clear H
               go_wp2
               go_meet
               case rel=>exact ⟨_,(true),rs,H',⟨by have:=HJ6.out;have:=HJ16.out;have:=HJ18.out;have:=HK4.z;first|omega|exact Nat.le_refl _⟩,⟨aR (Kd.R_mono HO139.z (fun _ hk=>⟨hk.1.2,hk.2⟩))⟩,⟨aR (Kd.R_mono HO143.z (fun _ hk=>⟨hk.1.2,hk.2⟩))⟩,⟨aR (Kd.R_mono HO146.z (fun _ hk=>⟨hk.1.2,hk.2⟩))⟩,⟨aV (Kd.V_mono HO_126001.z (fun _ hk=>⟨hk.1.1.2,⟨hk.1.2,⟨hk.2,hk.1.1.1.2⟩⟩⟩))⟩,⟨bk⟩,⟨bl⟩⟩
              (first|rw [c69b0]|(simp only [i64_w,i32_w];rw [c69b0])|skip)
              have H':=k0 H
              clear H
              go_wp2
              go_meet
              case rel=>exact ⟨_,(true),rs,H',⟨by have:=HJ6.out;have:=HJ16.out;have:=HJ18.out;have:=HK4.z;first|omega|exact Nat.le_refl _⟩,⟨aR (Kd.R_mono HO139.z (fun _ hk=>⟨hk.1.2,hk.2⟩))⟩,⟨aR (Kd.R_mono HO143.z (fun _ hk=>⟨hk.1.2,hk.2⟩))⟩,⟨aR (Kd.R_mono HO146.z (fun _ hk=>⟨hk.1.2,hk.2⟩))⟩,⟨aV (Kd.V_mono HO_126001.z (fun _ hk=>⟨hk.1.1.2,⟨hk.1.2,⟨hk.2,hk.1.1.1.2⟩⟩⟩))⟩,⟨bk⟩,⟨bl⟩⟩
             case rest=>as_aux_lemma =>
              clear HC63
              obtain ⟨kq,x150_62,rfl,HA,HJ62,HO_19,HO_21,HO_23,HO_126001,BK125,HB⟩:=hcut
              cases kq with
              | zero=>exact absurd HA.z (by simp [F4.j4])
              | succ kj62 =>
               have H:=HA.z
               clear HA
               simp only [F4.j4] at H
               cases x150_62
               case false =>
                replace H:=iF H
                have H':=k0 H
                clear H
                go_wp2
                go_loopg [25] kj62 (fun kq v25 w'=>∃ (x25_6:Int),v25=.int .i64 x25_6∧Aside0 (F4.l1 kq l0 t136 t137 t140 t141 t144 x25_6 t120 t121=some r)∧Aside0 (kq≤kj62)∧Aside0 (Kd.R (Kd.int .i64) 2 w' w.heap.size (fun k_=>some k_ ≠ (v142:Value).ownBlock∧some k_ ≠ (v145:Value).ownBlock) v138 t136)∧Aside0 (Kd.R (Kd.int .i64) 2 w' w.heap.size (fun k_=>some k_ ≠ (v138:Value).ownBlock∧some k_ ≠ (v145:Value).ownBlock) v142 t140)∧Aside0 (Kd.R (Kd.int .i64) 2 w' w.heap.size (fun k_=>some k_ ≠ (v138:Value).ownBlock∧some k_ ≠ (v142:Value).ownBlock) v145 t144)∧Aside0 (Kd.V (Kd.slice 2 (Kd.int .i64)) 27 w' w.heap.size (fun k_=>some k_ ≠ (v138:Value).ownBlock∧some k_ ≠ (v142:Value).ownBlock∧some k_ ≠ (v145:Value).ownBlock∧k_ ≠ gb125) (.slice Ao46 t121.length co46) t121)∧Aside0 (w'.heap[gb125]?=some (sO t120 Ao46 t121 co46 26))∧Aside0 (Below w.heap.size w w'))
                case atStart=>exact ⟨(0),rs,H',⟨Nat.le_refl _⟩,⟨aR (HO_19.z)⟩,⟨aR (HO_21.z)⟩,⟨aR (HO_23.z)⟩,⟨aV (HO_126001.z)⟩,⟨bk⟩,⟨bl⟩⟩
                case round=>as_aux_lemma =>
                 clear H'
                 obtain ⟨x25_6,rfl,HA,HK6,HO_19,HO_21,HO_23,HO_126001,BK125,HB⟩:=hrel
                 cases gk with
                 | zero=>exact absurd HA.z (by simp [F4.l1])
                 | succ k6 =>
                  have H:=HA.z
                  clear HA
                  simp only [F4.l1] at H
                  have HC72:=k0 H
                  clear H
                  go_upto_region 29 with (fail)
                  go_cut [158] (fun v158 wc=>∃ (kq:Nat) (x158_71:Bool),v158=.bool x158_71∧Aside0 (F4.j6 kq l0 t136 t137 t140 t141 t144 x25_6 x158_71 t120 t121=some r)∧Aside0 (kq≤k6)∧Aside0 (Kd.R (Kd.int .i64) 2 wc w.heap.size (fun k_=>some k_ ≠ (v142:Value).ownBlock∧some k_ ≠ (v145:Value).ownBlock) v138 t136)∧Aside0 (Kd.R (Kd.int .i64) 2 wc w.heap.size (fun k_=>some k_ ≠ (v138:Value).ownBlock∧some k_ ≠ (v145:Value).ownBlock) v142 t140)∧Aside0 (Kd.R (Kd.int .i64) 2 wc w.heap.size (fun k_=>some k_ ≠ (v138:Value).ownBlock∧some k_ ≠ (v142:Value).ownBlock) v145 t144)∧Aside0 (Kd.V (Kd.slice 2 (Kd.int .i64)) 27 wc w.heap.size (fun k_=>some k_ ≠ (v138:Value).ownBlock∧some k_ ≠ (v142:Value).ownBlock∧some k_ ≠ (v145:Value).ownBlock∧k_ ≠ gb125) (.slice Ao46 t121.length co46) t121)∧Aside0 (wc.heap[gb125]?=some (sO t120 Ao46 t121 co46 26))∧Aside0 (Below w.heap.size w wc))
                  case first =>
                   have H:=HC72.z
                   clear HC72
                   replace H:=iE H;obtain ⟨c73,c73b0,c73b1,H⟩|⟨c73b0,c73b1,H⟩:=H
                   case inl =>
                    (first|rw [c73b0]|(simp only [i64_w,i32_w];rw [c73b0])|skip)
                    have H':=k0 H
                    clear H
                    go_wp2
                    go_meet
                    case rel=>exact ⟨_,(false),rs,H',⟨by have:=HJ6.out;have:=HJ16.out;have:=HJ18.out;have:=HK4.z;have:=HJ62.out;have:=HK6.z;first|omega|exact Nat.le_refl _⟩,⟨aR (HO_19.z)⟩,⟨aR (HO_21.z)⟩,⟨aR (HO_23.z)⟩,⟨aV (HO_126001.z)⟩,⟨bk⟩,⟨bl⟩⟩
                   (first|rw [c73b0]|(simp only [i64_w,i32_w];rw [c73b0])|skip)
                   have H':=k0 H
                   clear H
                   obtain ⟨Ao74,co74,rfl⟩:=Kd.R_slice HO_19.z
                   go_wp2
                   go_meet
                   case rel=>exact ⟨_,(decide (x25_6 < (t136.length:Int))),rs,H',⟨by have:=HJ6.out;have:=HJ16.out;have:=HJ18.out;have:=HK4.z;have:=HJ62.out;have:=HK6.z;first|omega|exact Nat.le_refl _⟩,⟨aR (HO_19.z)⟩,⟨aR (HO_21.z)⟩,⟨aR (HO_23.z)⟩,⟨aV (HO_126001.z)⟩,⟨bk⟩,⟨bl⟩⟩
                  case rest=>as_aux_lemma =>
                   clear HC72
                   obtain ⟨kq,x158_71,rfl,HA,HJ71,HO_19,HO_21,HO_23,HO_126001,BK125,HB⟩:=hcut
                   cases kq with
                   | zero=>exact absurd HA.z (by simp [F4.j6])
                   | succ kj71 =>
                    have H:=HA.z
                    clear HA
                    simp only [F4.j6] at H
                    cases x158_71
                    case false =>
                     replace H:=iF H
                     have H':=k0 H
                     clear H
                     go_wp2
                     go_loopg [28] kj71 (fun kq v28 w'=>∃ (x28_8:Int),v28=.int .i64 x28_8∧Aside0 (F4.l2 kq l0 t140 t141 t144 x28_8=some r)∧Aside0 (kq≤kj71)∧Aside0 (Kd.R (Kd.int .i64) 2 w' w.heap.size (fun k_=>some k_ ≠ (v145:Value).ownBlock) v142 t140)∧Aside0 (Kd.R (Kd.int .i64) 2 w' w.heap.size (fun k_=>some k_ ≠ (v142:Value).ownBlock) v145 t144)∧Aside0 (Kd.V (Kd.slice 2 (Kd.int .i64)) 27 w' w.heap.size (fun k_=>some k_ ≠ (v142:Value).ownBlock∧some k_ ≠ (v145:Value).ownBlock∧k_ ≠ gb125) (.slice Ao46 t121.length co46) t121)∧Aside0 (w'.heap[gb125]?=some (sO t120 Ao46 t121 co46 26))∧Aside0 (Below w.heap.size w w'))
                     case atStart=>exact ⟨(0),rs,H',⟨Nat.le_refl _⟩,⟨aR (Kd.R_mono HO_21.z (fun _ hk=>hk.2))⟩,⟨aR (Kd.R_mono HO_23.z (fun _ hk=>hk.2))⟩,⟨aV (Kd.V_mono HO_126001.z (fun _ hk=>⟨hk.2.1,⟨hk.2.2.1,hk.2.2.2⟩⟩))⟩,⟨bk⟩,⟨bl⟩⟩
                     case round=>as_aux_lemma =>
                      clear H'
                      obtain ⟨x28_8,rfl,HA,HK8,HO_21,HO_23,HO_126001,BK125,HB⟩:=hrel
                      cases gk with
                      | zero=>exact absurd HA.z (by simp [F4.l2])
                      | succ k8 =>
                       have H:=HA.z
                       clear HA
                       simp only [F4.l2] at H
                       have HC89:=k0 H
                       clear H
                       go_upto_region 35 with (fail)
                       go_cut [185] (fun v185 wc=>∃ (kq:Nat) (x185_88:Bool),v185=.bool x185_88∧Aside0 (F4.j8 kq l0 t140 t141 t144 x28_8 x185_88=some r)∧Aside0 (kq≤k8)∧Aside0 (Kd.R (Kd.int .i64) 2 wc w.heap.size (fun k_=>some k_ ≠ (v145:Value).ownBlock) v142 t140)∧Aside0 (Kd.R (Kd.int .i64) 2 wc w.heap.size (fun k_=>some k_ ≠ (v142:Value).ownBlock) v145 t144)∧Aside0 (Kd.V (Kd.slice 2 (Kd.int .i64)) 27 wc w.heap.size (fun k_=>some k_ ≠ (v142:Value).ownBlock∧some k_ ≠ (v145:Value).ownBlock∧k_ ≠ gb125) (.slice Ao46 t121.length co46) t121)∧Aside0 (wc.heap[gb125]?=some (sO t120 Ao46 t121 co46 26))∧Aside0 (Below w.heap.size w wc))
                       case first =>
                        have H:=HC89.z
                        clear HC89
                        replace H:=iE H;obtain ⟨c90,c90b0,c90b1,H⟩|⟨c90b0,c90b1,H⟩:=H
                        case inl =>
                         (first|rw [c90b0]|(simp only [i64_w,i32_w];rw [c90b0])|skip)
                         have H':=k0 H
                         clear H
                         go_wp2
                         go_meet
                         case rel=>exact ⟨_,(false),rs,H',⟨by have:=HJ6.out;have:=HJ16.out;have:=HJ18.out;have:=HK4.z;have:=HJ62.out;have:=HK6.z;have:=HJ71.out;have:=HK8.z;first|omega|exact Nat.le_refl _⟩,⟨aR (HO_21.z)⟩,⟨aR (HO_23.z)⟩,⟨aV (HO_126001.z)⟩,⟨bk⟩,⟨bl⟩⟩
                        (first|rw [c90b0]|(simp only [i64_w,i32_w];rw [c90b0])|skip)
                        have H':=k0 H
                        clear H
                        obtain ⟨Ao91,co91,rfl⟩:=Kd.R_slice HO_23.z
                        go_wp2
                        go_meet
                        case rel=>exact ⟨_,(decide (x28_8 < (t144.length:Int))),rs,H',⟨by have:=HJ6.out;have:=HJ16.out;have:=HJ18.out;have:=HK4.z;have:=HJ62.out;have:=HK6.z;have:=HJ71.out;have:=HK8.z;first|omega|exact Nat.le_refl _⟩,⟨aR (HO_21.z)⟩,⟨aR (HO_23.z)⟩,⟨aV (HO_126001.z)⟩,⟨bk⟩,⟨bl⟩⟩
                       case rest=>as_aux_lemma =>
                        clear HC89
                        obtain ⟨kq,x185_88,rfl,HA,HJ88,HO_21,HO_23,HO_126001,BK125,HB⟩:=hcut
                        cases kq with
                        | zero=>exact absurd HA.z (by simp [F4.j8])
                        | succ kj88 =>
                         have H:=HA.z
                         clear HA
                         simp only [F4.j8] at H
                         cases x185_88
                         case false =>
                          replace H:=iF H
                          have H':=k0 H
                          clear H
                          go_wp2
                          go_meet
                          case rel=>exact ⟨_,H',⟨by have:=HJ6.out;have:=HJ16.out;have:=HJ18.out;have:=HK4.z;have:=HJ62.out;have:=HK6.z;have:=HJ71.out;have:=HK8.z;have:=HJ88.out;first|omega|exact Nat.le_refl _⟩,⟨aV (Kd.V_mono HO_126001.z (fun _ hk=>hk.2.2))⟩,⟨bk⟩,⟨bl⟩⟩
                         replace H:=iT H
                         replace H:=iC H;obtain ⟨c93b0,H⟩|⟨c93b0,H⟩:=H
                         case inl =>
                          replace H:=iS H;obtain ⟨c101,H⟩:=H
                          have c101b0:=decide_eq_true c101
                          clear c101
                          replace H:=iS H;obtain ⟨c102,H⟩:=H
                          have c102b0:=decide_eq_true c102
                          clear c102
                          replace H:=iE H;obtain ⟨c103,c103b0,c103b1,H⟩|⟨c103b0,c103b1,H⟩:=H
                          case inl =>
                           obtain rfl:=Option.some.inj H
                           obtain ⟨Ao106,co106,rfl⟩:=Kd.R_slice HO_21.z
                           obtain ⟨Ao107,co107,rfl⟩:=Kd.R_slice HO_23.z
                           obtain ⟨p153,q153⟩:=iN x28_8 (t144.length:Int)
                           obtain ⟨ad153,e153,hx153_0⟩:=Kd.at_int (Kd.R_reads' HO_23.z).2.2 x28_8 p153 q153
                           cases e153
                           replace p153:=eT p153
                           replace q153:=eT q153
                           go_wp2
                           go_ret
                           exact ⟨eR,bl⟩
                          have H':=k0 H
                          clear H
                          obtain ⟨Ao104,co104,rfl⟩:=Kd.R_slice HO_21.z
                          obtain ⟨Ao105,co105,rfl⟩:=Kd.R_slice HO_23.z
                          obtain ⟨p153,q153⟩:=iN x28_8 (t144.length:Int)
                          obtain ⟨ad153,e153,hx153_0⟩:=Kd.at_int (Kd.R_reads' HO_23.z).2.2 x28_8 p153 q153
                          cases e153
                          replace p153:=eT p153
                          replace q153:=eT q153
                          go_wp2
                          go_roundg kj88
                          case measure=>have:=HJ6.out;have:=HJ16.out;have:=HJ18.out;have:=HK4.z;have:=HJ62.out;have:=HK6.z;have:=HJ71.out;have:=HK8.z;have:=HJ88.out;omega
                          case rel=>exact ⟨(wrap64 (x28_8+1)),rs,H',⟨by have:=HJ6.out;have:=HJ16.out;have:=HJ18.out;have:=HK4.z;have:=HJ62.out;have:=HK6.z;have:=HJ71.out;have:=HK8.z;have:=HJ88.out;omega⟩,⟨aR (HO_21.z)⟩,⟨aR (HO_23.z)⟩,⟨aV (HO_126001.z)⟩,⟨bk⟩,⟨bl⟩⟩
                         replace H:=iS H;obtain ⟨c94,H⟩:=H
                         have c94b0:=decide_eq_true c94
                         clear c94
                         replace H:=iS H;obtain ⟨c95,H⟩:=H
                         have c95b0:=decide_eq_true c95
                         clear c95
                         replace H:=iE H;obtain ⟨c96,c96b0,c96b1,H⟩|⟨c96b0,c96b1,H⟩:=H
                         case inl =>
                          obtain rfl:=Option.some.inj H
                          obtain ⟨Ao99,co99,rfl⟩:=Kd.R_slice HO_21.z
                          obtain ⟨p151,q151⟩:=iN x28_8 (t140.length:Int)
                          obtain ⟨ad151,e151,hx151_0⟩:=Kd.at_int (Kd.R_reads' HO_21.z).2.2 x28_8 p151 q151
                          cases e151
                          replace p151:=eT p151
                          replace q151:=eT q151
                          obtain ⟨Ao100,co100,rfl⟩:=Kd.R_slice HO_23.z
                          obtain ⟨p152,q152⟩:=iN x28_8 (t144.length:Int)
                          obtain ⟨ad152,e152,hx152_0⟩:=Kd.at_int (Kd.R_reads' HO_23.z).2.2 x28_8 p152 q152
                          cases e152
                          replace p152:=eT p152
                          replace q152:=eT q152
                          go_wp2
                          go_ret
                          exact ⟨eR,bl⟩
                         have H':=k0 H
                         clear H
                         obtain ⟨Ao97,co97,rfl⟩:=Kd.R_slice HO_21.z
                         obtain ⟨p151,q151⟩:=iN x28_8 (t140.length:Int)
                         obtain ⟨ad151,e151,hx151_0⟩:=Kd.at_int (Kd.R_reads' HO_21.z).2.2 x28_8 p151 q151
                         cases e151
                         replace p151:=eT p151
                         replace q151:=eT q151
                         obtain ⟨Ao98,co98,rfl⟩:=Kd.R_slice HO_23.z
                         obtain ⟨p152,q152⟩:=iN x28_8 (t144.length:Int)
                         obtain ⟨ad152,e152,hx152_0⟩:=Kd.at_int (Kd.R_reads' HO_23.z).2.2 x28_8 p152 q152
                         cases e152
                         replace p152:=eT p152
                         replace q152:=eT q152
                         go_wp2
                         go_roundg kj88
                         case measure=>have:=HJ6.out;have:=HJ16.out;have:=HJ18.out;have:=HK4.z;have:=HJ62.out;have:=HK6.z;have:=HJ71.out;have:=HK8.z;have:=HJ88.out;omega
                         case rel=>exact ⟨(wrap64 (x28_8+1)),rs,H',⟨by have:=HJ6.out;have:=HJ16.out;have:=HJ18.out;have:=HK4.z;have:=HJ62.out;have:=HK6.z;have:=HJ71.out;have:=HK8.z;have:=HJ88.out;omega⟩,⟨aR (HO_21.z)⟩,⟨aR (HO_23.z)⟩,⟨aV (HO_126001.z)⟩,⟨bk⟩,⟨bl⟩⟩
                    replace H:=iT H
                    replace H:=bS H;obtain ⟨⟨t148,t149⟩,A76,H⟩:=H
                    dsimp only at H
                    replace H:=iE H;obtain ⟨c77,c77b0,c77b1,H⟩|⟨c77b0,c77b1,H⟩:=H
                    case inl =>
                     obtain rfl:=Option.some.inj H
                     obtain ⟨_,_,_,_⟩:=cz2 BK125
                     go_wp2_with (first|((with_reducible refine gate_callee (f:=29) rfl ?_);refine gC (some 165) Try.func29 #[.agg #[.int .i64 t120,.slice Ao46 t121.length co46],.int .i64 (wrap64 (x25_6+1))] ?_;(with_reducible refine (F29.calls kj71 t120 _ _ t121 (wrap64 (x25_6+1)) t148 t149 _ ?side1 ?side2 A76.z).mono ?_);(case side1=>exact aC ((Kd.V_reads' HO_126001.z).2.2));(case side2=>exact (Kd.V_reads' HO_126001.z).2.1);rintro e w88 ⟨rfl,hb⟩;refine ⟨_,rfl,?_⟩;replace HO_19:=bwR HO_19 hb;replace HO_21:=bwR HO_21 hb;replace HO_23:=bwR HO_23 hb;replace HO_126001:=bwV HO_126001 hb;replace BK125:=kB BK125 hb;replace HB:=bW hb))
                     go_ret
                     exact ⟨eR,bl⟩
                    replace H:=iS H;obtain ⟨c78,H⟩:=H
                    have c78b0:=decide_eq_true c78
                    clear c78
                    replace H:=iS H;obtain ⟨c79,H⟩:=H
                    have c79b0:=decide_eq_true c79
                    clear c79
                    replace H:=iE H;obtain ⟨c80,c80b0,c80b1,H⟩|⟨c80b0,c80b1,H⟩:=H
                    case inl =>
                     obtain rfl:=Option.some.inj H
                     obtain ⟨_,_,_,_⟩:=cz2 BK125
                     go_wp2_with (first|((with_reducible refine gate_callee (f:=29) rfl ?_);refine gC (some 165) Try.func29 #[.agg #[.int .i64 t120,.slice Ao46 t121.length co46],.int .i64 (wrap64 (x25_6+1))] ?_;(with_reducible refine (F29.calls kj71 t120 _ _ t121 (wrap64 (x25_6+1)) t148 t149 _ ?side1 ?side2 A76.z).mono ?_);(case side1=>exact aC ((Kd.V_reads' HO_126001.z).2.2));(case side2=>exact (Kd.V_reads' HO_126001.z).2.1);rintro e w85 ⟨rfl,hb⟩;refine ⟨_,rfl,?_⟩;replace HO_19:=bwR HO_19 hb;replace HO_21:=bwR HO_21 hb;replace HO_23:=bwR HO_23 hb;replace HO_126001:=bwV HO_126001 hb;replace BK125:=kB BK125 hb;replace HB:=bW hb;obtain ⟨Ao86,co86,rfl⟩:=Kd.R_slice HO_19.z;obtain ⟨p150,q150⟩:=iN x25_6 (t136.length:Int);obtain ⟨ad150,e150,hx150_0⟩:=Kd.at_int (Kd.R_reads' HO_19.z).2.2 x25_6 p150 q150;cases e150;replace p150:=eT p150;replace q150:=eT q150))
                     go_ret
                     exact ⟨eR,bl⟩
                    have H':=k0 H
                    clear H
                    obtain ⟨_,_,_,_⟩:=cz2 BK125
                    go_wp2_with (first|((with_reducible refine gate_callee (f:=29) rfl ?_);refine gC (some 165) Try.func29 #[.agg #[.int .i64 t120,.slice Ao46 t121.length co46],.int .i64 (wrap64 (x25_6+1))] ?_;(with_reducible refine (F29.calls kj71 t120 _ _ t121 (wrap64 (x25_6+1)) t148 t149 _ ?side1 ?side2 A76.z).mono ?_);(case side1=>exact aC ((Kd.V_reads' HO_126001.z).2.2));(case side2=>exact (Kd.V_reads' HO_126001.z).2.1);rintro e w82 ⟨rfl,hb⟩;refine ⟨_,rfl,?_⟩;replace HO_19:=bwR HO_19 hb;replace HO_21:=bwR HO_21 hb;replace HO_23:=bwR HO_23 hb;replace HO_126001:=bwV HO_126001 hb;replace BK125:=kB BK125 hb;replace HB:=bW hb;obtain ⟨Ao83,co83,rfl⟩:=Kd.R_slice HO_19.z;obtain ⟨p150,q150⟩:=iN x25_6 (t136.length:Int);obtain ⟨ad150,e150,hx150_0⟩:=Kd.at_int (Kd.R_reads' HO_19.z).2.2 x25_6 p150 q150;cases e150;replace p150:=eT p150;replace q150:=eT q150))
                    go_roundg kj71
                    case measure=>have:=HJ6.out;have:=HJ16.out;have:=HJ18.out;have:=HK4.z;have:=HJ62.out;have:=HK6.z;have:=HJ71.out;omega
                    case rel=>exact ⟨(wrap64 (x25_6+1)),rs,H',⟨by have:=HJ6.out;have:=HJ16.out;have:=HJ18.out;have:=HK4.z;have:=HJ62.out;have:=HK6.z;have:=HJ71.out;omega⟩,⟨aR (HO_19.z)⟩,⟨aR (HO_21.z)⟩,⟨aR (HO_23.z)⟩,⟨aV (HO_126001.z)⟩,⟨bk⟩,⟨bl⟩⟩
               replace H:=iT H
               obtain rfl:=Option.some.inj H
               go_wp2
               go_ret
               exact ⟨eR,bl⟩
            replace H:=bS H;obtain ⟨⟨t131,t132⟩,A52,H⟩:=H
            dsimp only at H
            replace H:=iE H;obtain ⟨c53,c53b0,c53b1,H⟩|⟨c53b0,c53b1,H⟩:=H
            case inl =>
             obtain rfl:=Option.some.inj H
             obtain ⟨_,_,_,_⟩:=cz2 BK125
             go_wp2_with (first|((with_reducible refine gate_callee (f:=30) rfl ?_);refine gC (some 116) Try.func30 #[.agg #[.int .i64 t120,.slice Ao46 t121.length co46],.int .i64 x16_4] ?_;(with_reducible refine (F30.calls k4 t120 _ _ t121 x16_4 t131 t132 _ ?side1 ?side2 A52.z).mono ?_);(case side1=>exact aC ((Kd.V_reads' HO_126001.z).2.2));(case side2=>exact (Kd.V_reads' HO_126001.z).2.1);rintro e w59 ⟨rfl,hb⟩;refine ⟨_,rfl,?_⟩;replace HO_15:=bwR HO_15 hb;replace HO_126001:=bwV HO_126001 hb;replace BK125:=kB BK125 hb;replace HB:=bW hb))
             go_ret
             exact ⟨eR,bl⟩
            replace H:=iS H;obtain ⟨c54,H⟩:=H
            have LMc54:=k0 c54
            clear c54
            obtain ⟨y133,Ny133⟩:=nY (x15_4 ++ [t131]:List Int)
            replace H:(F4.l0 k4 l0 t124 y133 (wrap64 (x16_4+1)) t120 t121)=some r:=rH Ny133.z H
            have H':=k0 H
            clear H
            obtain ⟨_,_,_,_⟩:=cz2 BK125
            go_wp2_with (first|((with_reducible refine gate_callee (f:=30) rfl ?_);refine gC (some 116) Try.func30 #[.agg #[.int .i64 t120,.slice Ao46 t121.length co46],.int .i64 x16_4] ?_;(with_reducible refine (F30.calls k4 t120 _ _ t121 x16_4 t131 t132 _ ?side1 ?side2 A52.z).mono ?_);(case side1=>exact aC ((Kd.V_reads' HO_126001.z).2.2));(case side2=>exact (Kd.V_reads' HO_126001.z).2.1);rintro e w56 ⟨rfl,hb⟩;refine ⟨_,rfl,?_⟩;replace HO_15:=bwR HO_15 hb;replace HO_126001:=bwV HO_126001 hb;replace BK125:=kB BK125 hb;replace HB:=bW hb)|((with_reducible refine gate_builtin (b:=.append) (xs:=#[.tmp 121,.tmp 123]) rfl ?_);(try (refine gate_guard (by rfl) ?_;dsimp only));at_builtin;refine Kd.R_append (Kd.int .i64) (w0:=w) w.heap.size rfl (.tmp 121) (.tmp 123) 27 2 (.int .i64 0) 8 rfl Try.underlying27 info2 rfl (by decide) (by omega) u15 x15_4 t131 [.int .i64 t131] (fun _=>True) (fun _=>False) rfl rfl ?aP (fun _ hk=>hk.elim) ?aF ?aO ?aB ?aS ?aL ?_;(case aP=>exact rfl);(case aB=>exact bl);(case aF=>exact (fun _ _=>trivial));(case aO=>exact (aR HO_15.z));(case aS=>exact (below_size bl));(case aL=>have:=LMc54.out;omega);intro v134 w57 ho hb hg hat;rw [← Ny133.z] at ho;replace HO_126001:=k0 (Kd.V_afterv (ok:=(fun k_=>k_ ≠ gb125)) (aV (Kd.V_mono HO_126001.z (fun _ hk=>⟨hk.2,hk.1⟩))) hg hat);replace BK125:=k0 (blk_grown (aB BK125.z) hg (Kd.R_ne HO_15.z BK125.z (by decide)));replace HB:=k0 hb;have HO135:=k0 ho;clear HO_15;clear ho hb hg hat))
            go_roundg k4
            case measure=>have:=HJ6.out;have:=HJ16.out;have:=HJ18.out;have:=HK4.z;omega
            case rel=>exact ⟨(y133),(wrap64 (x16_4+1)),rs,H',⟨by have:=HJ6.out;have:=HJ16.out;have:=HJ18.out;have:=HK4.z;omega⟩,⟨aR (HO135.z)⟩,⟨aV (Kd.V_mono HO_126001.z (fun _ hk=>⟨hk.2,hk.1⟩))⟩,⟨bk⟩,⟨bl⟩⟩
         case rest=>as_aux_lemma =>
          clear HC42
          obtain ⟨kq,HA,HJ41,HO_126001,BK125,HB⟩:=hcut
          cases kq with
          | zero=>exact absurd HA.z (by simp [F4.j9])
          | succ kj41 =>
           have H:=HA.z
           clear HA
           simp only [F4.j9] at H
           replace H:=bS H;obtain ⟨t154,A108,H⟩:=H
           replace H:=bS H;obtain ⟨⟨t157,t158⟩,A109,H⟩:=H
           dsimp only at H
           replace H:=bS H;obtain ⟨⟨t161,t162⟩,A110,H⟩:=H
           dsimp only at H
           replace H:=bS H;obtain ⟨t165,A111,H⟩:=H
           replace H:=bS H;obtain ⟨⟨t168,t169⟩,A112,H⟩:=H
           dsimp only at H
           replace H:=bS H;obtain ⟨⟨t172,t173⟩,A113,H⟩:=H
           dsimp only at H
           replace H:=iE H;obtain ⟨c114,c114b0,c114b1,H⟩|⟨c114b0,c114b1,H⟩:=H
           case inl =>
            obtain rfl:=Option.some.inj H
            go_wp2_with (first|((with_reducible refine gate_callee (f:=33) rfl ?_);refine gC (some 203) Try.func33 #[.slice A0 l0.length c0] ?_;(with_reducible refine (F33.calls kj41 _ _ l0 t154 _ ?side1 ?side2 A108.z).mono ?_);(case side1=>exact aC (Kd.C_below HR0.z HB.z));(case side2=>exact HC0.z);rintro e w151 ⟨v155,rfl,ho0,hb⟩;refine ⟨_,rfl,?_⟩;replace HO_126001:=elV HO_126001 (Kd.R_base ho0) hb;have HO156:=k0 (Kd.R_lower ho0 (below_size bl));replace BK125:=kB BK125 hb;replace HB:=bW hb;obtain ⟨Ao152,co152,rfl⟩:=Kd.R_slice HO156.z)|((with_reducible refine gate_callee (f:=27) rfl ?_);refine gC (some 206) Try.func27 #[.slice Ao152 t154.length co152] ?_;(with_reducible refine (F27.calls kj41 _ _ t154 t157 t158 _ ?side1 ?side2 A109.z).mono ?_);(case side1=>exact aC ((Kd.R_reads' HO156.z).2.2));(case side2=>exact (Kd.R_reads' HO156.z).2.1);rintro e w153 ⟨v159,rfl,ho0,hb⟩;refine ⟨_,rfl,?_⟩;replace HO_126001:=elV HO_126001 (Kd.R_base ho0) hb;have HO160:=k0 (Kd.R_lower (Kd.R_new' ho0 (Kd.R_lt (aR HO156.z))) (below_size bl));replace HO156:=elR HO156 (Kd.R_base ho0) hb;replace BK125:=kB BK125 hb;replace HB:=bW hb)|((with_reducible refine gate_callee (f:=34) rfl ?_);refine gC (some 211) Try.func34 #[.slice Ao152 t154.length co152] ?_;(with_reducible refine (F34.calls kj41 _ _ t154 t161 t162 _ ?side1 ?side2 A110.z).mono ?_);(case side1=>exact aC ((Kd.R_reads' HO156.z).2.2));(case side2=>exact (Kd.R_reads' HO156.z).2.1);rintro e w154 ⟨v163,rfl,ho0,hb⟩;refine ⟨_,rfl,?_⟩;replace HO_126001:=elV HO_126001 (Kd.R_base ho0) hb;have HO164:=k0 (Kd.R_lower (Kd.R_new' (Kd.R_new' ho0 (Kd.R_lt (aR HO156.z))) (Kd.R_lt (aR HO160.z))) (below_size bl));replace HO156:=elR HO156 (Kd.R_base ho0) hb;replace HO160:=elR HO160 (Kd.R_base ho0) hb;replace BK125:=kB BK125 hb;replace HB:=bW hb)|((with_reducible refine gate_callee (f:=35) rfl ?_);refine gC (some 215) Try.func35 #[.slice A0 l0.length c0] ?_;(with_reducible refine (F35.calls kj41 _ _ l0 t165 _ ?side1 ?side2 A111.z).mono ?_);(case side1=>exact aC (Kd.C_below HR0.z HB.z));(case side2=>exact HC0.z);rintro e w155 ⟨v166,rfl,ho0,hb⟩;refine ⟨_,rfl,?_⟩;replace HO_126001:=elV HO_126001 (Kd.R_base ho0) hb;have HO167:=k0 (Kd.R_lower (Kd.R_new' (Kd.R_new' (Kd.R_new' ho0 (Kd.R_lt (aR HO156.z))) (Kd.R_lt (aR HO160.z))) (Kd.R_lt (aR HO164.z))) (below_size bl));replace HO156:=elR HO156 (Kd.R_base ho0) hb;replace HO160:=elR HO160 (Kd.R_base ho0) hb;replace HO164:=elR HO164 (Kd.R_base ho0) hb;replace BK125:=kB BK125 hb;replace HB:=bW hb;obtain ⟨Ao156,co156,rfl⟩:=Kd.R_slice HO167.z)|((with_reducible refine gate_callee (f:=31) rfl ?_);refine gC (some 218) Try.func31 #[.slice Ao156 t165.length co156] ?_;(with_reducible refine (F31.calls kj41 _ _ t165 t168 t169 _ ?side1 ?side2 A112.z).mono ?_);(case side1=>exact aC ((Kd.R_reads' HO167.z).2.2));(case side2=>exact (Kd.R_reads' HO167.z).2.1);rintro e w157 ⟨v170,rfl,ho0,hb⟩;refine ⟨_,rfl,?_⟩;replace HO_126001:=elV HO_126001 (Kd.R_base ho0) hb;have HO171:=k0 (Kd.R_lower (Kd.R_new' (Kd.R_new' (Kd.R_new' (Kd.R_new' ho0 (Kd.R_lt (aR HO156.z))) (Kd.R_lt (aR HO160.z))) (Kd.R_lt (aR HO164.z))) (Kd.R_lt (aR HO167.z))) (below_size bl));replace HO156:=elR HO156 (Kd.R_base ho0) hb;replace HO160:=elR HO160 (Kd.R_base ho0) hb;replace HO164:=elR HO164 (Kd.R_base ho0) hb;replace HO167:=elR HO167 (Kd.R_base ho0) hb;replace BK125:=kB BK125 hb;replace HB:=bW hb)|((with_reducible refine gate_callee (f:=36) rfl ?_);refine gC (some 223) Try.func36 #[.slice Ao156 t165.length co156] ?_;(with_reducible refine (F36.calls kj41 _ _ t165 t172 t173 _ ?side1 ?side2 A113.z).mono ?_);(case side1=>exact aC ((Kd.R_reads' HO167.z).2.2));(case side2=>exact (Kd.R_reads' HO167.z).2.1);rintro e w158 ⟨v174,rfl,ho0,hb⟩;refine ⟨_,rfl,?_⟩;replace HO_126001:=elV HO_126001 (Kd.R_base ho0) hb;have HO175:=k0 (Kd.R_lower (Kd.R_new' (Kd.R_new' (Kd.R_new' (Kd.R_new' (Kd.R_new' ho0 (Kd.R_lt (aR HO156.z))) (Kd.R_lt (aR HO160.z))) (Kd.R_lt (aR HO164.z))) (Kd.R_lt (aR HO167.z))) (Kd.R_lt (aR HO171.z))) (below_size bl));replace HO156:=elR HO156 (Kd.R_base ho0) hb;replace HO160:=elR HO160 (Kd.R_base ho0) hb;replace HO164:=elR HO164 (Kd.R_base ho0) hb;replace HO167:=elR HO167 (Kd.R_base ho0) hb;replace HO171:=elR HO171 (Kd.R_base ho0) hb;replace BK125:=kB BK125 hb;replace HB:=bW hb))
            go_ret
            exact ⟨eR,bl⟩
           replace H:=bS H;obtain ⟨t176,A115,H⟩:=H
           cases t176
           case false =>
            replace H:=iF H
            obtain rfl:=Option.some.inj H
            go_wp2_with (first|((with_reducible refine gate_callee (f:=33) rfl ?_);refine gC (some 203) Try.func33 #[.slice A0 l0.length c0] ?_;(with_reducible refine (F33.calls kj41 _ _ l0 t154 _ ?side1 ?side2 A108.z).mono ?_);(case side1=>exact aC (Kd.C_below HR0.z HB.z));(case side2=>exact HC0.z);rintro e w141 ⟨v155,rfl,ho0,hb⟩;refine ⟨_,rfl,?_⟩;replace HO_126001:=elV HO_126001 (Kd.R_base ho0) hb;have HO156:=k0 (Kd.R_lower ho0 (below_size bl));replace BK125:=kB BK125 hb;replace HB:=bW hb;obtain ⟨Ao142,co142,rfl⟩:=Kd.R_slice HO156.z)|((with_reducible refine gate_callee (f:=27) rfl ?_);refine gC (some 206) Try.func27 #[.slice Ao142 t154.length co142] ?_;(with_reducible refine (F27.calls kj41 _ _ t154 t157 t158 _ ?side1 ?side2 A109.z).mono ?_);(case side1=>exact aC ((Kd.R_reads' HO156.z).2.2));(case side2=>exact (Kd.R_reads' HO156.z).2.1);rintro e w143 ⟨v159,rfl,ho0,hb⟩;refine ⟨_,rfl,?_⟩;replace HO_126001:=elV HO_126001 (Kd.R_base ho0) hb;have HO160:=k0 (Kd.R_lower (Kd.R_new' ho0 (Kd.R_lt (aR HO156.z))) (below_size bl));replace HO156:=elR HO156 (Kd.R_base ho0) hb;replace BK125:=kB BK125 hb;replace HB:=bW hb)|((with_reducible refine gate_callee (f:=34) rfl ?_);refine gC (some 211) Try.func34 #[.slice Ao142 t154.length co142] ?_;(with_reducible refine (F34.calls kj41 _ _ t154 t161 t162 _ ?side1 ?side2 A110.z).mono ?_);(case side1=>exact aC ((Kd.R_reads' HO156.z).2.2));(case side2=>exact (Kd.R_reads' HO156.z).2.1);rintro e w144 ⟨v163,rfl,ho0,hb⟩;refine ⟨_,rfl,?_⟩;replace HO_126001:=elV HO_126001 (Kd.R_base ho0) hb;have HO164:=k0 (Kd.R_lower (Kd.R_new' (Kd.R_new' ho0 (Kd.R_lt (aR HO156.z))) (Kd.R_lt (aR HO160.z))) (below_size bl));replace HO156:=elR HO156 (Kd.R_base ho0) hb;replace HO160:=elR HO160 (Kd.R_base ho0) hb;replace BK125:=kB BK125 hb;replace HB:=bW hb)|((with_reducible refine gate_callee (f:=35) rfl ?_);refine gC (some 215) Try.func35 #[.slice A0 l0.length c0] ?_;(with_reducible refine (F35.calls kj41 _ _ l0 t165 _ ?side1 ?side2 A111.z).mono ?_);(case side1=>exact aC (Kd.C_below HR0.z HB.z));(case side2=>exact HC0.z);rintro e w145 ⟨v166,rfl,ho0,hb⟩;refine ⟨_,rfl,?_⟩;replace HO_126001:=elV HO_126001 (Kd.R_base ho0) hb;have HO167:=k0 (Kd.R_lower (Kd.R_new' (Kd.R_new' (Kd.R_new' ho0 (Kd.R_lt (aR HO156.z))) (Kd.R_lt (aR HO160.z))) (Kd.R_lt (aR HO164.z))) (below_size bl));replace HO156:=elR HO156 (Kd.R_base ho0) hb;replace HO160:=elR HO160 (Kd.R_base ho0) hb;replace HO164:=elR HO164 (Kd.R_base ho0) hb;replace BK125:=kB BK125 hb;replace HB:=bW hb;obtain ⟨Ao146,co146,rfl⟩:=Kd.R_slice HO167.z)|((with_reducible refine gate_callee (f:=31) rfl ?_);refine gC (some 218) Try.func31 #[.slice Ao146 t165.length co146] ?_;(with_reducible refine (F31.calls kj41 _ _ t165 t168 t169 _ ?side1 ?side2 A112.z).mono ?_);(case side1=>exact aC ((Kd.R_reads' HO167.z).2.2));(case side2=>exact (Kd.R_reads' HO167.z).2.1);rintro e w147 ⟨v170,rfl,ho0,hb⟩;refine ⟨_,rfl,?_⟩;replace HO_126001:=elV HO_126001 (Kd.R_base ho0) hb;have HO171:=k0 (Kd.R_lower (Kd.R_new' (Kd.R_new' (Kd.R_new' (Kd.R_new' ho0 (Kd.R_lt (aR HO156.z))) (Kd.R_lt (aR HO160.z))) (Kd.R_lt (aR HO164.z))) (Kd.R_lt (aR HO167.z))) (below_size bl));replace HO156:=elR HO156 (Kd.R_base ho0) hb;replace HO160:=elR HO160 (Kd.R_base ho0) hb;replace HO164:=elR HO164 (Kd.R_base ho0) hb;replace HO167:=elR HO167 (Kd.R_base ho0) hb;replace BK125:=kB BK125 hb;replace HB:=bW hb)|((with_reducible refine gate_callee (f:=36) rfl ?_);refine gC (some 223) Try.func36 #[.slice Ao146 t165.length co146] ?_;(with_reducible refine (F36.calls kj41 _ _ t165 t172 t173 _ ?side1 ?side2 A113.z).mono ?_);(case side1=>exact aC ((Kd.R_reads' HO167.z).2.2));(case side2=>exact (Kd.R_reads' HO167.z).2.1);rintro e w148 ⟨v174,rfl,ho0,hb⟩;refine ⟨_,rfl,?_⟩;replace HO_126001:=elV HO_126001 (Kd.R_base ho0) hb;have HO175:=k0 (Kd.R_lower (Kd.R_new' (Kd.R_new' (Kd.R_new' (Kd.R_new' (Kd.R_new' ho0 (Kd.R_lt (aR HO156.z))) (Kd.R_lt (aR HO160.z))) (Kd.R_lt (aR HO164.z))) (Kd.R_lt (aR HO167.z))) (Kd.R_lt (aR HO171.z))) (below_size bl));replace HO156:=elR HO156 (Kd.R_base ho0) hb;replace HO160:=elR HO160 (Kd.R_base ho0) hb;replace HO164:=elR HO164 (Kd.R_base ho0) hb;replace HO167:=elR HO167 (Kd.R_base ho0) hb;replace HO171:=elR HO171 (Kd.R_base ho0) hb;replace BK125:=kB BK125 hb;replace HB:=bW hb;obtain ⟨Ao149,co149,rfl⟩:=Kd.R_slice HO160.z;obtain ⟨Ao150,co150,rfl⟩:=Kd.R_slice HO164.z)|(go_at_call 13;(with_reducible refine (F13.calls kj41 _ _ t157 _ _ t161 false _ ?side1 ?side2 ?side3 ?side4 A115.z).mono ?_);(case side1=>exact aC ((Kd.R_reads' HO160.z).2.2));(case side2=>exact (Kd.R_reads' HO160.z).2.1);(case side3=>exact aC ((Kd.R_reads' HO164.z).2.2));(case side4=>exact (Kd.R_reads' HO164.z).2.1);rintro e w' ⟨rfl,⟨nd,rfl⟩⟩))
            go_ret
            exact ⟨eR,bl⟩
           replace H:=iT H
           replace H:=iE H;obtain ⟨c117,c117b0,c117b1,H⟩|⟨c117b0,c117b1,H⟩:=H
           case inl =>
            obtain rfl:=Option.some.inj H
            go_wp2_with (first|((with_reducible refine gate_callee (f:=33) rfl ?_);refine gC (some 203) Try.func33 #[.slice A0 l0.length c0] ?_;(with_reducible refine (F33.calls kj41 _ _ l0 t154 _ ?side1 ?side2 A108.z).mono ?_);(case side1=>exact aC (Kd.C_below HR0.z HB.z));(case side2=>exact HC0.z);rintro e w131 ⟨v155,rfl,ho0,hb⟩;refine ⟨_,rfl,?_⟩;replace HO_126001:=elV HO_126001 (Kd.R_base ho0) hb;have HO156:=k0 (Kd.R_lower ho0 (below_size bl));replace BK125:=kB BK125 hb;replace HB:=bW hb;obtain ⟨Ao132,co132,rfl⟩:=Kd.R_slice HO156.z)|((with_reducible refine gate_callee (f:=27) rfl ?_);refine gC (some 206) Try.func27 #[.slice Ao132 t154.length co132] ?_;(with_reducible refine (F27.calls kj41 _ _ t154 t157 t158 _ ?side1 ?side2 A109.z).mono ?_);(case side1=>exact aC ((Kd.R_reads' HO156.z).2.2));(case side2=>exact (Kd.R_reads' HO156.z).2.1);rintro e w133 ⟨v159,rfl,ho0,hb⟩;refine ⟨_,rfl,?_⟩;replace HO_126001:=elV HO_126001 (Kd.R_base ho0) hb;have HO160:=k0 (Kd.R_lower (Kd.R_new' ho0 (Kd.R_lt (aR HO156.z))) (below_size bl));replace HO156:=elR HO156 (Kd.R_base ho0) hb;replace BK125:=kB BK125 hb;replace HB:=bW hb)|((with_reducible refine gate_callee (f:=34) rfl ?_);refine gC (some 211) Try.func34 #[.slice Ao132 t154.length co132] ?_;(with_reducible refine (F34.calls kj41 _ _ t154 t161 t162 _ ?side1 ?side2 A110.z).mono ?_);(case side1=>exact aC ((Kd.R_reads' HO156.z).2.2));(case side2=>exact (Kd.R_reads' HO156.z).2.1);rintro e w134 ⟨v163,rfl,ho0,hb⟩;refine ⟨_,rfl,?_⟩;replace HO_126001:=elV HO_126001 (Kd.R_base ho0) hb;have HO164:=k0 (Kd.R_lower (Kd.R_new' (Kd.R_new' ho0 (Kd.R_lt (aR HO156.z))) (Kd.R_lt (aR HO160.z))) (below_size bl));replace HO156:=elR HO156 (Kd.R_base ho0) hb;replace HO160:=elR HO160 (Kd.R_base ho0) hb;replace BK125:=kB BK125 hb;replace HB:=bW hb)|((with_reducible refine gate_callee (f:=35) rfl ?_);refine gC (some 215) Try.func35 #[.slice A0 l0.length c0] ?_;(with_reducible refine (F35.calls kj41 _ _ l0 t165 _ ?side1 ?side2 A111.z).mono ?_);(case side1=>exact aC (Kd.C_below HR0.z HB.z));(case side2=>exact HC0.z);rintro e w135 ⟨v166,rfl,ho0,hb⟩;refine ⟨_,rfl,?_⟩;replace HO_126001:=elV HO_126001 (Kd.R_base ho0) hb;have HO167:=k0 (Kd.R_lower (Kd.R_new' (Kd.R_new' (Kd.R_new' ho0 (Kd.R_lt (aR HO156.z))) (Kd.R_lt (aR HO160.z))) (Kd.R_lt (aR HO164.z))) (below_size bl));replace HO156:=elR HO156 (Kd.R_base ho0) hb;replace HO160:=elR HO160 (Kd.R_base ho0) hb;replace HO164:=elR HO164 (Kd.R_base ho0) hb;replace BK125:=kB BK125 hb;replace HB:=bW hb;obtain ⟨Ao136,co136,rfl⟩:=Kd.R_slice HO167.z)|((with_reducible refine gate_callee (f:=31) rfl ?_);refine gC (some 218) Try.func31 #[.slice Ao136 t165.length co136] ?_;(with_reducible refine (F31.calls kj41 _ _ t165 t168 t169 _ ?side1 ?side2 A112.z).mono ?_);(case side1=>exact aC ((Kd.R_reads' HO167.z).2.2));(case side2=>exact (Kd.R_reads' HO167.z).2.1);rintro e w137 ⟨v170,rfl,ho0,hb⟩;refine ⟨_,rfl,?_⟩;replace HO_126001:=elV HO_126001 (Kd.R_base ho0) hb;have HO171:=k0 (Kd.R_lower (Kd.R_new' (Kd.R_new' (Kd.R_new' (Kd.R_new' ho0 (Kd.R_lt (aR HO156.z))) (Kd.R_lt (aR HO160.z))) (Kd.R_lt (aR HO164.z))) (Kd.R_lt (aR HO167.z))) (below_size bl));replace HO156:=elR HO156 (Kd.R_base ho0) hb;replace HO160:=elR HO160 (Kd.R_base ho0) hb;replace HO164:=elR HO164 (Kd.R_base ho0) hb;replace HO167:=elR HO167 (Kd.R_base ho0) hb;replace BK125:=kB BK125 hb;replace HB:=bW hb)|((with_reducible refine gate_callee (f:=36) rfl ?_);refine gC (some 223) Try.func36 #[.slice Ao136 t165.length co136] ?_;(with_reducible refine (F36.calls kj41 _ _ t165 t172 t173 _ ?side1 ?side2 A113.z).mono ?_);(case side1=>exact aC ((Kd.R_reads' HO167.z).2.2));(case side2=>exact (Kd.R_reads' HO167.z).2.1);rintro e w138 ⟨v174,rfl,ho0,hb⟩;refine ⟨_,rfl,?_⟩;replace HO_126001:=elV HO_126001 (Kd.R_base ho0) hb;have HO175:=k0 (Kd.R_lower (Kd.R_new' (Kd.R_new' (Kd.R_new' (Kd.R_new' (Kd.R_new' ho0 (Kd.R_lt (aR HO156.z))) (Kd.R_lt (aR HO160.z))) (Kd.R_lt (aR HO164.z))) (Kd.R_lt (aR HO167.z))) (Kd.R_lt (aR HO171.z))) (below_size bl));replace HO156:=elR HO156 (Kd.R_base ho0) hb;replace HO160:=elR HO160 (Kd.R_base ho0) hb;replace HO164:=elR HO164 (Kd.R_base ho0) hb;replace HO167:=elR HO167 (Kd.R_base ho0) hb;replace HO171:=elR HO171 (Kd.R_base ho0) hb;replace BK125:=kB BK125 hb;replace HB:=bW hb;obtain ⟨Ao139,co139,rfl⟩:=Kd.R_slice HO160.z;obtain ⟨Ao140,co140,rfl⟩:=Kd.R_slice HO164.z)|(go_at_call 13;(with_reducible refine (F13.calls kj41 _ _ t157 _ _ t161 true _ ?side1 ?side2 ?side3 ?side4 A115.z).mono ?_);(case side1=>exact aC ((Kd.R_reads' HO160.z).2.2));(case side2=>exact (Kd.R_reads' HO160.z).2.1);(case side3=>exact aC ((Kd.R_reads' HO164.z).2.2));(case side4=>exact (Kd.R_reads' HO164.z).2.1);rintro e w' ⟨rfl,⟨nd,rfl⟩⟩))
            go_ret
            exact ⟨eR,bl⟩
           replace H:=bS H;obtain ⟨t177,A118,H⟩:=H
           obtain rfl:=Option.some.inj H
           go_wp2_with (first|((with_reducible refine gate_callee (f:=33) rfl ?_);refine gC (some 203) Try.func33 #[.slice A0 l0.length c0] ?_;(with_reducible refine (F33.calls kj41 _ _ l0 t154 _ ?side1 ?side2 A108.z).mono ?_);(case side1=>exact aC (Kd.C_below HR0.z HB.z));(case side2=>exact HC0.z);rintro e w119 ⟨v155,rfl,ho0,hb⟩;refine ⟨_,rfl,?_⟩;replace HO_126001:=elV HO_126001 (Kd.R_base ho0) hb;have HO156:=k0 (Kd.R_lower ho0 (below_size bl));replace BK125:=kB BK125 hb;replace HB:=bW hb;obtain ⟨Ao120,co120,rfl⟩:=Kd.R_slice HO156.z)|((with_reducible refine gate_callee (f:=27) rfl ?_);refine gC (some 206) Try.func27 #[.slice Ao120 t154.length co120] ?_;(with_reducible refine (F27.calls kj41 _ _ t154 t157 t158 _ ?side1 ?side2 A109.z).mono ?_);(case side1=>exact aC ((Kd.R_reads' HO156.z).2.2));(case side2=>exact (Kd.R_reads' HO156.z).2.1);rintro e w121 ⟨v159,rfl,ho0,hb⟩;refine ⟨_,rfl,?_⟩;replace HO_126001:=elV HO_126001 (Kd.R_base ho0) hb;have HO160:=k0 (Kd.R_lower (Kd.R_new' ho0 (Kd.R_lt (aR HO156.z))) (below_size bl));replace HO156:=elR HO156 (Kd.R_base ho0) hb;replace BK125:=kB BK125 hb;replace HB:=bW hb)|((with_reducible refine gate_callee (f:=34) rfl ?_);refine gC (some 211) Try.func34 #[.slice Ao120 t154.length co120] ?_;(with_reducible refine (F34.calls kj41 _ _ t154 t161 t162 _ ?side1 ?side2 A110.z).mono ?_);(case side1=>exact aC ((Kd.R_reads' HO156.z).2.2));(case side2=>exact (Kd.R_reads' HO156.z).2.1);rintro e w122 ⟨v163,rfl,ho0,hb⟩;refine ⟨_,rfl,?_⟩;replace HO_126001:=elV HO_126001 (Kd.R_base ho0) hb;have HO164:=k0 (Kd.R_lower (Kd.R_new' (Kd.R_new' ho0 (Kd.R_lt (aR HO156.z))) (Kd.R_lt (aR HO160.z))) (below_size bl));replace HO156:=elR HO156 (Kd.R_base ho0) hb;replace HO160:=elR HO160 (Kd.R_base ho0) hb;replace BK125:=kB BK125 hb;replace HB:=bW hb)|((with_reducible refine gate_callee (f:=35) rfl ?_);refine gC (some 215) Try.func35 #[.slice A0 l0.length c0] ?_;(with_reducible refine (F35.calls kj41 _ _ l0 t165 _ ?side1 ?side2 A111.z).mono ?_);(case side1=>exact aC (Kd.C_below HR0.z HB.z));(case side2=>exact HC0.z);rintro e w123 ⟨v166,rfl,ho0,hb⟩;refine ⟨_,rfl,?_⟩;replace HO_126001:=elV HO_126001 (Kd.R_base ho0) hb;have HO167:=k0 (Kd.R_lower (Kd.R_new' (Kd.R_new' (Kd.R_new' ho0 (Kd.R_lt (aR HO156.z))) (Kd.R_lt (aR HO160.z))) (Kd.R_lt (aR HO164.z))) (below_size bl));replace HO156:=elR HO156 (Kd.R_base ho0) hb;replace HO160:=elR HO160 (Kd.R_base ho0) hb;replace HO164:=elR HO164 (Kd.R_base ho0) hb;replace BK125:=kB BK125 hb;replace HB:=bW hb;obtain ⟨Ao124,co124,rfl⟩:=Kd.R_slice HO167.z)|((with_reducible refine gate_callee (f:=31) rfl ?_);refine gC (some 218) Try.func31 #[.slice Ao124 t165.length co124] ?_;(with_reducible refine (F31.calls kj41 _ _ t165 t168 t169 _ ?side1 ?side2 A112.z).mono ?_);(case side1=>exact aC ((Kd.R_reads' HO167.z).2.2));(case side2=>exact (Kd.R_reads' HO167.z).2.1);rintro e w125 ⟨v170,rfl,ho0,hb⟩;refine ⟨_,rfl,?_⟩;replace HO_126001:=elV HO_126001 (Kd.R_base ho0) hb;have HO171:=k0 (Kd.R_lower (Kd.R_new' (Kd.R_new' (Kd.R_new' (Kd.R_new' ho0 (Kd.R_lt (aR HO156.z))) (Kd.R_lt (aR HO160.z))) (Kd.R_lt (aR HO164.z))) (Kd.R_lt (aR HO167.z))) (below_size bl));replace HO156:=elR HO156 (Kd.R_base ho0) hb;replace HO160:=elR HO160 (Kd.R_base ho0) hb;replace HO164:=elR HO164 (Kd.R_base ho0) hb;replace HO167:=elR HO167 (Kd.R_base ho0) hb;replace BK125:=kB BK125 hb;replace HB:=bW hb)|((with_reducible refine gate_callee (f:=36) rfl ?_);refine gC (some 223) Try.func36 #[.slice Ao124 t165.length co124] ?_;(with_reducible refine (F36.calls kj41 _ _ t165 t172 t173 _ ?side1 ?side2 A113.z).mono ?_);(case side1=>exact aC ((Kd.R_reads' HO167.z).2.2));(case side2=>exact (Kd.R_reads' HO167.z).2.1);rintro e w126 ⟨v174,rfl,ho0,hb⟩;refine ⟨_,rfl,?_⟩;replace HO_126001:=elV HO_126001 (Kd.R_base ho0) hb;have HO175:=k0 (Kd.R_lower (Kd.R_new' (Kd.R_new' (Kd.R_new' (Kd.R_new' (Kd.R_new' ho0 (Kd.R_lt (aR HO156.z))) (Kd.R_lt (aR HO160.z))) (Kd.R_lt (aR HO164.z))) (Kd.R_lt (aR HO167.z))) (Kd.R_lt (aR HO171.z))) (below_size bl));replace HO156:=elR HO156 (Kd.R_base ho0) hb;replace HO160:=elR HO160 (Kd.R_base ho0) hb;replace HO164:=elR HO164 (Kd.R_base ho0) hb;replace HO167:=elR HO167 (Kd.R_base ho0) hb;replace HO171:=elR HO171 (Kd.R_base ho0) hb;replace BK125:=kB BK125 hb;replace HB:=bW hb;obtain ⟨Ao127,co127,rfl⟩:=Kd.R_slice HO160.z;obtain ⟨Ao128,co128,rfl⟩:=Kd.R_slice HO164.z)|(go_at_call 13;(with_reducible refine (F13.calls kj41 _ _ t157 _ _ t161 true _ ?side1 ?side2 ?side3 ?side4 A115.z).mono ?_);(case side1=>exact aC ((Kd.R_reads' HO160.z).2.2));(case side2=>exact (Kd.R_reads' HO160.z).2.1);(case side3=>exact aC ((Kd.R_reads' HO164.z).2.2));(case side4=>exact (Kd.R_reads' HO164.z).2.1);rintro e w' ⟨rfl,⟨nd,rfl⟩⟩;obtain ⟨Ao129,co129,rfl⟩:=Kd.R_slice HO171.z;obtain ⟨Ao130,co130,rfl⟩:=Kd.R_slice HO175.z)|(go_at_call 13;(with_reducible refine (F13.calls kj41 _ _ t168 _ _ t172 t177 _ ?side1 ?side2 ?side3 ?side4 A118.z).mono ?_);(case side1=>exact aC ((Kd.R_reads' HO171.z).2.2));(case side2=>exact (Kd.R_reads' HO171.z).2.1);(case side3=>exact aC ((Kd.R_reads' HO175.z).2.2));(case side4=>exact (Kd.R_reads' HO175.z).2.1);rintro e w' ⟨rfl,⟨nd,rfl⟩⟩))
           go_ret
           exact ⟨eR,bl⟩
    replace H:=iT H
    obtain rfl:=Option.some.inj H
    go_wp2
    go_ret
    exact ⟨eR,bl⟩
 replace H:=iT H
 obtain rfl:=Option.some.inj H
 go_enter Try.func4,Try.ntmps4
 go_wp2_with (first|((with_reducible refine gate_callee (f:=5) rfl ?_);refine gC (some 41) Try.func5 #[.slice A0 l0.length c0] ?_;(with_reducible refine (F5.calls _ _ l0 true _ ?side1 ?side2 A2.z).mono ?_);(case side1=>exact aC HR0.z);(case side2=>exact HC0.z);rintro e w' ⟨rfl,⟨nd,rfl⟩⟩;refine ⟨_,rfl,?_⟩))
 go_ret
 exact ⟨eR,bl⟩
/-- THE ONE PURE STATEMENT of F4: yours. -/
def F4.Pure:Prop:=∀ (l0:List Int),l0.length≤maxLen→l0.length * 1≤140737488351232→(∀ x ∈ l0,(Lit.int .u8 x).wf=true)→∃ k,F4.f k l0=some true
theorem F4.walk (P : F4.Pure) (a0 : Option Addr) (len0 cap0 : Nat) (z0 : List Int) (w : World) (w0 : (a0 = none ∧ len0 = 0 ∧ cap0 = 0 ∧ z0 = []) ∨ ∃ x, a0 = some x ∧ len0 ≤ cap0 ∧ cap0 ≤ maxLen ∧ z0.length = cap0 ∧ (∀ i, i < z0.length → w.cell? (x.add i) = some (.int .u8 (z0.getD i 0))) ∧ ∀ n ∈ z0, (Lit.int .u8 n).wf = true) (y0 : len0 * 1 ≤ 140737488351232) :
  Calls Try.prog 4 #[.slice a0 len0 cap0] w fun e w'=>e=.returned (.bool true)∧Below w.heap.size w w':=by
 obtain ⟨l0,rfl,hr0,hm0,hw0,hc0⟩:=ReadsInt.ofRowC w0
 obtain ⟨k,h⟩:=P l0 hm0 y0 hw0
 refine (F4.calls k _ _ l0 true w (Kd.C_of_reads (d:=(0:Int)) (h1:=fun _=>rfl) hr0) hc0 h).mono ?_
 rintro e w' ⟨rfl,hd⟩
 exact ⟨rfl,hd⟩
end Go.Proofs.Ytgjdbnipcpmhiaa.P
/- Set with little white space, by a program. -/
