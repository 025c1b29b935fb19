/- Go's calls come to what the Lean functions say. Condition of each: that the Lean function answers. -/
import Derived.Test.YtgjdbnipcpmhiaaPx0
import Derived.Test.YtgjdbnipcpmhiaaPx6
namespace Go.Proofs.Ytgjdbnipcpmhiaa.P
open Go.RowKit Go.Proofs.YtgjdbnipcpmhiaaW.PrintWords Go.Proofs.YtgjdbnipcpmhiaaW.PrintLast Go.Proofs.YtgjdbnipcpmhiaaW.PrintMore
attribute [local go_sem] max2_int min2_int max_two min_two max_three min_three max_four min_four
set_option linter.unusedVariables false
set_option linter.unusedSimpArgs false
set_option maxHeartbeats 8000000
set_option maxRecDepth 100000
/-! ### F44: function 44 -/
mutual
def F44.j0 : Nat → Bool → Int → List (List Int) → Option (Bool)
 | 0,_,_,_=>none
 | k+1,x13,x102000,x102001=>if x13=true then (some false) else (F44.l0 k 0 x102000 x102001)
def F44.l0 : Nat → Int → Int → List (List Int) → Option (Bool)
 | 0,_,_,_=>none
 | k+1,x3,x102000,x102001=>if x3 < (x102001.length:Int) then (if 0≤x3 then (if ((rd_L1 x102001 x3).length:Int)=2 then (if 0 < ((rd_L1 x102001 x3).length:Int) then ((F74.f (rd (rd_L1 x102001 x3) 0) 0 (wrap64 (x102000 - 1))).bind fun t106=>(if t106=true then (if 1 < ((rd_L1 x102001 x3).length:Int) then ((F74.f (rd (rd_L1 x102001 x3) 1) 0 (wrap64 (x102000 - 1))).bind fun t109=>(if t109=true then (F44.l0 k (wrap64 (x3+1)) x102000 x102001) else (some false))) else (none)) else (some false))) else (none)) else (some false)) else (none)) else (some true)
end
def F44.f (k:Nat) (a0_0:Int) (l0_1:List (List Int)):Option (Bool):=(F74.f a0_0 1 8).bind fun t102=>(if t102=true then (F44.j0 k (decide ((l0_1.length:Int) > 10)) a0_0 l0_1) else (F44.j0 k true a0_0 l0_1))
theorem F44.calls (k : Nat) (a0_0 : Int) (A0_1 : Option Addr) (c0_1 : Nat) (l0_1 : List (List Int)) (r : Bool) (w : World) (hr0_1 : Kd.C (Kd.slice 2 (Kd.int .i64)) w A0_1 l0_1.length l0_1) (hc0_1 : l0_1.length ≤ c0_1) (h : F44.f k a0_0 l0_1 = some r) :
  Calls Try.prog 44 #[.agg #[.int .i64 a0_0,.slice A0_1 l0_1.length c0_1]] w fun e w'=>e=.returned (.bool r)∧Below w.heap.size w w':=by
 have hu26:=Try.underlying26
 have HR0_1:=k0 hr0_1
 have HC0_1:=k0 hc0_1
 clear hr0_1 hc0_1
 have HB:=k0 (Below.refl w.heap.size w)
 unfold F44.f at h
 have H:=h
 clear h
 have HC2:=k0 H
 clear H
 go_enter Try.func44,Try.ntmps44
 go_upto_region 1 with (first|(refine gate_dst (N:=1) rfl ?_;(try (refine gate_guard (by rfl) ?_;dsimp only));refine bxz 1 #[.int .i64 a0_0,.slice A0_1 l0_1.length c0_1] 26 bl ?_;intro gb101 w3 BK101 GW101 HB;have GE101:=GW101))
 repeat (go_quiet (first|(refine gate_dst (N:=1) rfl ?_;(try (refine gate_guard (by rfl) ?_;dsimp only));refine bxz 1 #[.int .i64 a0_0,.slice A0_1 l0_1.length c0_1] 26 bl ?_;intro gb101 w3 BK101 GW101 HB;have GE101:=GW101));go_upto_region 1 with (first|(refine gate_dst (N:=1) rfl ?_;(try (refine gate_guard (by rfl) ?_;dsimp only));refine bxz 1 #[.int .i64 a0_0,.slice A0_1 l0_1.length c0_1] 26 bl ?_;intro gb101 w3 BK101 GW101 HB;have GE101:=GW101)))
 (try simp only [Act.put,zI,zZ,zS])
 go_cut [13] (fun v13 wc=>∃ (kq:Nat) (x13_1:Bool),v13=.bool x13_1∧Aside0 (F44.j0 kq x13_1 a0_0 l0_1=some r)∧Aside0 (kq≤k)∧Aside0 (wc.heap[gb101]?=some (sO a0_0 A0_1 l0_1 c0_1 26))∧Aside0 (Below w.heap.size w wc))
 case first =>
  have H:=HC2.z
  clear HC2
  replace H:=bS H;obtain ⟨t102,A4,H⟩:=H
  cases t102
  case false =>
   replace H:=iF H
   have H':=k0 H
   clear H
   obtain ⟨_,_,_,_⟩:=cz2 BK101
   go_wp2_with (first|(go_at_call 74;(with_reducible refine (F74.calls a0_0 1 8 false _ A4.z).mono ?_);rintro e w' ⟨rfl,⟨nd,rfl⟩⟩;(try exact dN)))
   repeat (go_quiet (first|(go_at_call 74;(with_reducible refine (F74.calls a0_0 1 8 false _ A4.z).mono ?_);rintro e w' ⟨rfl,⟨nd,rfl⟩⟩;(try exact dN)));try go_wp2_with (first|(go_at_call 74;(with_reducible refine (F74.calls a0_0 1 8 false _ A4.z).mono ?_);rintro e w' ⟨rfl,⟨nd,rfl⟩⟩;(try exact dN))))
   go_meet
   case rel=>exact ⟨_,(true),rs,H',⟨oL⟩,⟨bk⟩,⟨bl⟩⟩
  replace H:=iT H
  have H':=k0 H
  clear H
  obtain ⟨_,_,_,_⟩:=cz2 BK101
  go_wp2_with (first|(go_at_call 74;(with_reducible refine (F74.calls a0_0 1 8 true _ A4.z).mono ?_);rintro e w' ⟨rfl,⟨nd,rfl⟩⟩;(try exact dN)))
  repeat (go_quiet (first|(go_at_call 74;(with_reducible refine (F74.calls a0_0 1 8 true _ A4.z).mono ?_);rintro e w' ⟨rfl,⟨nd,rfl⟩⟩;(try exact dN)));try go_wp2_with (first|(go_at_call 74;(with_reducible refine (F74.calls a0_0 1 8 true _ A4.z).mono ?_);rintro e w' ⟨rfl,⟨nd,rfl⟩⟩;(try exact dN))))
  go_meet
  case rel=>exact ⟨_,(decide ((l0_1.length:Int) > 10)),rs,H',⟨oL⟩,⟨bk⟩,⟨bl⟩⟩
 case rest =>
  clear HC2
  obtain ⟨kq,x13_1,rfl,HA,HJ1,BK101,HB⟩:=hcut
  cases kq with
  | zero=>exact absurd HA.z (by simp [F44.j0])
  | succ kj1 =>
   have H:=HA.z
   clear HA
   simp only [F44.j0] at H
   cases x13_1
   case false =>
    replace H:=iF H
    have H':=k0 H
    clear H
    go_wp2
    repeat (go_quiet (fail);try go_wp2)
    go_loopg [3] kj1 (fun kq v3 w'=>∃ (x3_2:Int),v3=.int .i64 x3_2∧Aside0 (F44.l0 kq x3_2 a0_0 l0_1=some r)∧Aside0 (kq≤kj1)∧Aside0 (w'.heap[gb101]?=some (sO a0_0 A0_1 l0_1 c0_1 26))∧Aside0 (Below w.heap.size w w'))
    case atStart=>exact ⟨(0),rs,H',⟨Nat.le_refl _⟩,⟨bk⟩,⟨bl⟩⟩
    case round =>
     clear H'
     obtain ⟨x3_2,rfl,HA,HK2,BK101,HB⟩:=hrel
     cases gk with
     | zero=>exact absurd HA.z (by simp [F44.l0])
     | succ k2 =>
      have H:=HA.z
      clear HA
      simp only [F44.l0] at H
      replace H:=iC H;obtain ⟨c9b0,H⟩|⟨c9b0,H⟩:=H
      case inl =>
       obtain rfl:=Option.some.inj H
       obtain ⟨_,_,_,_⟩:=cz2 BK101
       go_wp2
       repeat (go_quiet (fail);try go_wp2)
       go_ret
       exact ⟨eR,bl⟩
      replace H:=iS H;obtain ⟨c10,H⟩:=H
      have c10b0:=decide_eq_true c10
      clear c10
      replace H:=iE H;obtain ⟨c11,c11b0,c11b1,H⟩|⟨c11b0,c11b1,H⟩:=H
      case inl =>
       obtain rfl:=Option.some.inj H
       obtain ⟨_,_,_,_⟩:=cz2 BK101
       obtain ⟨p103,q103⟩:=iN x3_2 (l0_1.length:Int)
       obtain ⟨ad103,A103_0,c103_0,e103,hx103_0,hl103_0,hi103_0⟩:=at_L1 HR0_1.z x3_2 p103 q103
       cases e103
       replace hx103_0:=hbc HB hx103_0
       have HR103_0:=k0 hi103_0
       have HC103_0:=k0 hl103_0
       clear hi103_0 hl103_0
       replace p103:=eT p103
       replace q103:=eT q103
       go_wp2
       repeat (go_quiet (fail);try go_wp2)
       go_ret
       exact ⟨eR,bl⟩
      replace H:=iS H;obtain ⟨c12,H⟩:=H
      have c12b0:=decide_eq_true c12
      have c12b1:decide (0 < (rd_L1 l0_1 x3_2).length)=true:=decide_eq_true (by omega)
      clear c12
      replace H:=bS H;obtain ⟨t106,A13,H⟩:=H
      cases t106
      case false =>
       replace H:=iF H
       obtain rfl:=Option.some.inj H
       obtain ⟨_,_,_,_⟩:=cz2 BK101
       obtain ⟨p103,q103⟩:=iN x3_2 (l0_1.length:Int)
       obtain ⟨ad103,A103_0,c103_0,e103,hx103_0,hl103_0,hi103_0⟩:=at_L1 HR0_1.z x3_2 p103 q103
       cases e103
       replace hx103_0:=hbc HB hx103_0
       have HR103_0:=k0 hi103_0
       have HC103_0:=k0 hl103_0
       clear hi103_0 hl103_0
       replace p103:=eT p103
       replace q103:=eT q103
       obtain ⟨p104,q104⟩:=iN x3_2 (l0_1.length:Int)
       obtain ⟨ad104,A104_0,c104_0,e104,hx104_0,hl104_0,hi104_0⟩:=at_L1 HR0_1.z x3_2 p104 q104
       obtain rfl:ad103=ad104:=(by injection e104)
       replace hx104_0:=hbc HB hx104_0
       have HR104_0:=k0 hi104_0
       have HC104_0:=k0 hl104_0
       clear hi104_0 hl104_0
       replace p104:=eT p104
       replace q104:=eT q104
       have ea_:=Option.some.inj (hx103_0.symm.trans hx104_0)
       injection ea_ with ea_ en_ ec_
       subst ea_
       subst ec_
       clear en_
       have p105:0≤(0:Int):=(by omega)
       have q105:0 < ((rd_L1 l0_1 x3_2).length:Int):=oD
       obtain ⟨ad105,e105,hx105_0⟩:=Kd.at_int HR104_0.z 0 p105 q105
       cases e105
       have qi105:(0 < (rd_L1 l0_1 x3_2).length)=True:=eq_true (by omega)
       (try rw [show ((0:Int)).toNat=0 from rfl] at hx105_0)
       (try rw [Addr.add_zero'] at hx105_0)
       replace hx105_0:=hbc HB hx105_0
       replace p105:=eT p105
       replace q105:=eT q105
       go_wp2_with (first|(go_at_call 74;(with_reducible refine (F74.calls (rd (rd_L1 l0_1 x3_2) 0) 0 (wrap64 (a0_0 - 1)) false _ A13.z).mono ?_);rintro e w' ⟨rfl,⟨nd,rfl⟩⟩;(try exact dN)))
       repeat (go_quiet (first|(go_at_call 74;(with_reducible refine (F74.calls (rd (rd_L1 l0_1 x3_2) 0) 0 (wrap64 (a0_0 - 1)) false _ A13.z).mono ?_);rintro e w' ⟨rfl,⟨nd,rfl⟩⟩;(try exact dN)));try go_wp2_with (first|(go_at_call 74;(with_reducible refine (F74.calls (rd (rd_L1 l0_1 x3_2) 0) 0 (wrap64 (a0_0 - 1)) false _ A13.z).mono ?_);rintro e w' ⟨rfl,⟨nd,rfl⟩⟩;(try exact dN))))
       go_ret
       exact ⟨eR,bl⟩
      replace H:=iT H
      replace H:=iS H;obtain ⟨c15,H⟩:=H
      have c15b0:=decide_eq_true c15
      have c15b1:decide (1 < (rd_L1 l0_1 x3_2).length)=true:=decide_eq_true (by omega)
      clear c15
      replace H:=bS H;obtain ⟨t109,A16,H⟩:=H
      cases t109
      case false =>
       replace H:=iF H
       obtain rfl:=Option.some.inj H
       obtain ⟨_,_,_,_⟩:=cz2 BK101
       obtain ⟨p103,q103⟩:=iN x3_2 (l0_1.length:Int)
       obtain ⟨ad103,A103_0,c103_0,e103,hx103_0,hl103_0,hi103_0⟩:=at_L1 HR0_1.z x3_2 p103 q103
       cases e103
       replace hx103_0:=hbc HB hx103_0
       have HR103_0:=k0 hi103_0
       have HC103_0:=k0 hl103_0
       clear hi103_0 hl103_0
       replace p103:=eT p103
       replace q103:=eT q103
       obtain ⟨p104,q104⟩:=iN x3_2 (l0_1.length:Int)
       obtain ⟨ad104,A104_0,c104_0,e104,hx104_0,hl104_0,hi104_0⟩:=at_L1 HR0_1.z x3_2 p104 q104
       obtain rfl:ad103=ad104:=(by injection e104)
       replace hx104_0:=hbc HB hx104_0
       have HR104_0:=k0 hi104_0
       have HC104_0:=k0 hl104_0
       clear hi104_0 hl104_0
       replace p104:=eT p104
       replace q104:=eT q104
       have ea_:=Option.some.inj (hx103_0.symm.trans hx104_0)
       injection ea_ with ea_ en_ ec_
       subst ea_
       subst ec_
       clear en_
       have p105:0≤(0:Int):=(by omega)
       have q105:0 < ((rd_L1 l0_1 x3_2).length:Int):=oD
       obtain ⟨ad105,e105,hx105_0⟩:=Kd.at_int HR104_0.z 0 p105 q105
       cases e105
       have qi105:(0 < (rd_L1 l0_1 x3_2).length)=True:=eq_true (by omega)
       (try rw [show ((0:Int)).toNat=0 from rfl] at hx105_0)
       (try rw [Addr.add_zero'] at hx105_0)
       replace hx105_0:=hbc HB hx105_0
       replace p105:=eT p105
       replace q105:=eT q105
       obtain ⟨p107,q107⟩:=iN x3_2 (l0_1.length:Int)
       obtain ⟨ad107,A107_0,c107_0,e107,hx107_0,hl107_0,hi107_0⟩:=at_L1 HR0_1.z x3_2 p107 q107
       obtain rfl:ad103=ad107:=(by injection e107)
       replace hx107_0:=hbc HB hx107_0
       have HR107_0:=k0 hi107_0
       have HC107_0:=k0 hl107_0
       clear hi107_0 hl107_0
       replace p107:=eT p107
       replace q107:=eT q107
       have ea_:=Option.some.inj (hx103_0.symm.trans hx107_0)
       injection ea_ with ea_ en_ ec_
       subst ea_
       subst ec_
       clear en_
       have p108:0≤(1:Int):=(by omega)
       have q108:1 < ((rd_L1 l0_1 x3_2).length:Int):=oD
       obtain ⟨ad108,e108,hx108_0⟩:=Kd.at_int HR107_0.z 1 p108 q108
       cases e108
       (try simp only [show (1:Int).toNat=1 from rfl,Nat.reduceMul,Nat.reduceEqDiff,Go.Addr.add,↓reduceIte] at hx108_0)
       have qi108:(1 < (rd_L1 l0_1 x3_2).length)=True:=eq_true (by omega)
       (try rw [show ((1:Int)).toNat=1 from rfl] at hx108_0)
       replace hx108_0:=hbc HB hx108_0
       replace p108:=eT p108
       replace q108:=eT q108
       go_wp2_with (first|(go_at_call 74;(with_reducible refine (F74.calls (rd (rd_L1 l0_1 x3_2) 0) 0 (wrap64 (a0_0 - 1)) true _ A13.z).mono ?_);rintro e w' ⟨rfl,⟨nd,rfl⟩⟩;(try exact dN))|(go_at_call 74;(with_reducible refine (F74.calls (rd (rd_L1 l0_1 x3_2) 1) 0 (wrap64 (a0_0 - 1)) false _ A16.z).mono ?_);rintro e w' ⟨rfl,⟨nd,rfl⟩⟩;(try exact dN)))
       repeat (go_quiet (first|(go_at_call 74;(with_reducible refine (F74.calls (rd (rd_L1 l0_1 x3_2) 0) 0 (wrap64 (a0_0 - 1)) true _ A13.z).mono ?_);rintro e w' ⟨rfl,⟨nd,rfl⟩⟩;(try exact dN))|(go_at_call 74;(with_reducible refine (F74.calls (rd (rd_L1 l0_1 x3_2) 1) 0 (wrap64 (a0_0 - 1)) false _ A16.z).mono ?_);rintro e w' ⟨rfl,⟨nd,rfl⟩⟩;(try exact dN)));try go_wp2_with (first|(go_at_call 74;(with_reducible refine (F74.calls (rd (rd_L1 l0_1 x3_2) 0) 0 (wrap64 (a0_0 - 1)) true _ A13.z).mono ?_);rintro e w' ⟨rfl,⟨nd,rfl⟩⟩;(try exact dN))|(go_at_call 74;(with_reducible refine (F74.calls (rd (rd_L1 l0_1 x3_2) 1) 0 (wrap64 (a0_0 - 1)) false _ A16.z).mono ?_);rintro e w' ⟨rfl,⟨nd,rfl⟩⟩;(try exact dN))))
       go_ret
       exact ⟨eR,bl⟩
      replace H:=iT H
      have H':=k0 H
      clear H
      obtain ⟨_,_,_,_⟩:=cz2 BK101
      obtain ⟨p103,q103⟩:=iN x3_2 (l0_1.length:Int)
      obtain ⟨ad103,A103_0,c103_0,e103,hx103_0,hl103_0,hi103_0⟩:=at_L1 HR0_1.z x3_2 p103 q103
      cases e103
      replace hx103_0:=hbc HB hx103_0
      have HR103_0:=k0 hi103_0
      have HC103_0:=k0 hl103_0
      clear hi103_0 hl103_0
      replace p103:=eT p103
      replace q103:=eT q103
      obtain ⟨p104,q104⟩:=iN x3_2 (l0_1.length:Int)
      obtain ⟨ad104,A104_0,c104_0,e104,hx104_0,hl104_0,hi104_0⟩:=at_L1 HR0_1.z x3_2 p104 q104
      obtain rfl:ad103=ad104:=(by injection e104)
      replace hx104_0:=hbc HB hx104_0
      have HR104_0:=k0 hi104_0
      have HC104_0:=k0 hl104_0
      clear hi104_0 hl104_0
      replace p104:=eT p104
      replace q104:=eT q104
      have ea_:=Option.some.inj (hx103_0.symm.trans hx104_0)
      injection ea_ with ea_ en_ ec_
      subst ea_
      subst ec_
      clear en_
      have p105:0≤(0:Int):=(by omega)
      have q105:0 < ((rd_L1 l0_1 x3_2).length:Int):=oD
      obtain ⟨ad105,e105,hx105_0⟩:=Kd.at_int HR104_0.z 0 p105 q105
      cases e105
      have qi105:(0 < (rd_L1 l0_1 x3_2).length)=True:=eq_true (by omega)
      (try rw [show ((0:Int)).toNat=0 from rfl] at hx105_0)
      (try rw [Addr.add_zero'] at hx105_0)
      replace hx105_0:=hbc HB hx105_0
      replace p105:=eT p105
      replace q105:=eT q105
      obtain ⟨p107,q107⟩:=iN x3_2 (l0_1.length:Int)
      obtain ⟨ad107,A107_0,c107_0,e107,hx107_0,hl107_0,hi107_0⟩:=at_L1 HR0_1.z x3_2 p107 q107
      obtain rfl:ad103=ad107:=(by injection e107)
      replace hx107_0:=hbc HB hx107_0
      have HR107_0:=k0 hi107_0
      have HC107_0:=k0 hl107_0
      clear hi107_0 hl107_0
      replace p107:=eT p107
      replace q107:=eT q107
      have ea_:=Option.some.inj (hx103_0.symm.trans hx107_0)
      injection ea_ with ea_ en_ ec_
      subst ea_
      subst ec_
      clear en_
      have p108:0≤(1:Int):=(by omega)
      have q108:1 < ((rd_L1 l0_1 x3_2).length:Int):=oD
      obtain ⟨ad108,e108,hx108_0⟩:=Kd.at_int HR107_0.z 1 p108 q108
      cases e108
      (try simp only [show (1:Int).toNat=1 from rfl,Nat.reduceMul,Nat.reduceEqDiff,Go.Addr.add,↓reduceIte] at hx108_0)
      have qi108:(1 < (rd_L1 l0_1 x3_2).length)=True:=eq_true (by omega)
      (try rw [show ((1:Int)).toNat=1 from rfl] at hx108_0)
      replace hx108_0:=hbc HB hx108_0
      replace p108:=eT p108
      replace q108:=eT q108
      go_wp2_with (first|(go_at_call 74;(with_reducible refine (F74.calls (rd (rd_L1 l0_1 x3_2) 0) 0 (wrap64 (a0_0 - 1)) true _ A13.z).mono ?_);rintro e w' ⟨rfl,⟨nd,rfl⟩⟩;(try exact dN))|(go_at_call 74;(with_reducible refine (F74.calls (rd (rd_L1 l0_1 x3_2) 1) 0 (wrap64 (a0_0 - 1)) true _ A16.z).mono ?_);rintro e w' ⟨rfl,⟨nd,rfl⟩⟩;(try exact dN)))
      repeat (go_quiet (first|(go_at_call 74;(with_reducible refine (F74.calls (rd (rd_L1 l0_1 x3_2) 0) 0 (wrap64 (a0_0 - 1)) true _ A13.z).mono ?_);rintro e w' ⟨rfl,⟨nd,rfl⟩⟩;(try exact dN))|(go_at_call 74;(with_reducible refine (F74.calls (rd (rd_L1 l0_1 x3_2) 1) 0 (wrap64 (a0_0 - 1)) true _ A16.z).mono ?_);rintro e w' ⟨rfl,⟨nd,rfl⟩⟩;(try exact dN)));try go_wp2_with (first|(go_at_call 74;(with_reducible refine (F74.calls (rd (rd_L1 l0_1 x3_2) 0) 0 (wrap64 (a0_0 - 1)) true _ A13.z).mono ?_);rintro e w' ⟨rfl,⟨nd,rfl⟩⟩;(try exact dN))|(go_at_call 74;(with_reducible refine (F74.calls (rd (rd_L1 l0_1 x3_2) 1) 0 (wrap64 (a0_0 - 1)) true _ A16.z).mono ?_);rintro e w' ⟨rfl,⟨nd,rfl⟩⟩;(try exact dN))))
      go_roundg k2
      case measure=>have:=HJ1.out;have:=HK2.z;omega
      case rel=>exact ⟨(wrap64 (x3_2+1)),rs,H',⟨by have:=HJ1.out;have:=HK2.z;omega⟩,⟨bk⟩,⟨bl⟩⟩
   replace H:=iT H
   obtain rfl:=Option.some.inj H
   go_wp2
   repeat (go_quiet (fail);try go_wp2)
   go_ret
   exact ⟨eR,bl⟩
/-! ### F122: function 122 -/
def F122.l0 : Nat → ByteArray → Int → List ByteArray → Int → Int → Option (List ByteArray)
 | 0,_,_,_,_,_=>none
 | k+1,x0,x1,x5,x6,x7=>if x7 < (x0.size:Int) then (if 0≤x7 then (if (bt x0 x7)=x1 then (if 0≤x6 then (if x6≤x7 then (if x7≤(x0.size:Int) then (if x5.length < 8796093022208 then (F122.l0 k x0 x1 (x5 ++ [x0.extract (x6:Int).toNat (x7:Int).toNat]) (wrap64 (x7+1)) (wrap64 (x7+1))) else (none)) else (none)) else (none)) else (none)) else (F122.l0 k x0 x1 x5 x6 (wrap64 (x7+1)))) else (none)) else (if 0≤x6 then (if x6≤(x0.size:Int) then (if x5.length < 8796093022208 then (some (x5 ++ [x0.extract (x6:Int).toNat x0.size])) else (none)) else (none)) else (none))
def F122.f (k:Nat) (a0:ByteArray) (a1:Int):Option (List ByteArray):=F122.l0 k a0 a1 (([]:List ByteArray)) 0 0
theorem F122.calls (k : Nat) (a0 : ByteArray) (a1 : Int) (r : List ByteArray) (w : World) (h : F122.f k a0 a1 = some r) :
  Calls Try.prog 122 #[.string a0,.int .u8 a1] w fun e w'=>∃ v0_:Value,e=.returned (v0_)∧Kd.R Kd.string 9 w' w.heap.size (fun _=>True) v0_ r∧Below w.heap.size w w':=by
 have HB:=k0 (Below.refl w.heap.size w)
 unfold F122.f at h
 have H:=h
 clear h
 obtain ⟨y101,Ny101⟩:=nY (([]:List ByteArray):List ByteArray)
 replace H:(F122.l0 k a0 a1 y101 0 0)=some r:=rH Ny101.z H
 have H':=k0 H
 clear H
 go_enter Try.func122,Try.ntmps122
 go_wp2_with (first|(refine gate_dst (N:=8) rfl ?_;refine Kd.R_lit Kd.string _ 9 ?hg (N:=8) ?hd (xs:=([]:List ByteArray)) (inner:=[]) (ok:=fun _=>True) (okp:=fun _=>True) ?hr ?hp (fun _ hk=>hk) trivial (Below.refl _ _) (Nat.le_refl _) (by simp) ?_;(case hd=>rfl);(case hg=>rfl);(case hr=>first|(go_simp;done)|(go_simp;rfl));(case hp=>exact (Reps.none _ _));intro v102 w3 ho4 hb hg_ hnew_;clear hg_ hnew_;(first|rw [← Ny101.z] at ho4|(simp only [Int.reduceToNat] at ho4;rw [← Ny101.z] at ho4));have HO103:=k0 (Kd.R_lower ho4 (below_size bl));replace HB:=bW hb;clear hb ho4))
 go_loopg [5,6,7] k (fun kq v5 v6 v7 w'=>∃ (x5_1:List ByteArray) (x6_1:Int) (x7_1:Int),v6=.int .i64 x6_1∧v7=.int .i64 x7_1∧Aside0 (F122.l0 kq a0 a1 x5_1 x6_1 x7_1=some r)∧Aside0 (kq≤k)∧Aside0 (Kd.R Kd.string 9 w' w.heap.size (fun _=>True) v5 x5_1)∧Aside0 (Below w.heap.size w w'))
 case atStart=>exact ⟨(y101),(0),(0),rs,rs,H',⟨Nat.le_refl _⟩,⟨aR (HO103.z)⟩,⟨bl⟩⟩
 case round =>
  clear H'
  obtain ⟨x5_1,x6_1,x7_1,rfl,rfl,HA,HK1,HO_5,HB⟩:=hrel
  cases gk with
  | zero=>exact absurd HA.z (by simp [F122.l0])
  | succ k1 =>
   have H:=HA.z
   clear HA
   simp only [F122.l0] at H
   replace H:=iC H;obtain ⟨c5b0,H⟩|⟨c5b0,H⟩:=H
   case inl =>
    replace H:=iS H;obtain ⟨c14,H⟩:=H
    have c14b0:=eq_true c14
    have c14b1:=decide_eq_true c14
    clear c14
    replace H:=iS H;obtain ⟨c15,H⟩:=H
    have c15b0:=eq_true c15
    have c15b1:=decide_eq_true c15
    clear c15
    replace H:=iS H;obtain ⟨c16,H⟩:=H
    have LMc16:=k0 c16
    clear c16
    obtain ⟨y107,Ny107⟩:=nY (x5_1 ++ [a0.extract (x6_1:Int).toNat a0.size]:List ByteArray)
    replace H:(some y107)=some r:=rH Ny107.z H
    obtain rfl:=Option.some.inj H
    go_wp2_with (first|((with_reducible refine gate_builtin (b:=.append) (xs:=#[.tmp 29,.tmp 33]) rfl ?_);at_builtin;refine Kd.R_append Kd.string (w0:=w) w.heap.size rfl (.tmp 29) (.tmp 33) 104 9 (.string ⟨#[]⟩) 16 rfl Try.underlying104 info9 rfl (by decide) (by omega) u5 x5_1 (a0.extract (x6_1:Int).toNat a0.size) [.string (a0.extract (x6_1:Int).toNat a0.size)] (fun _=>True) (fun _=>False) rfl rfl ?aP (fun _ hk=>hk.elim) ?aF ?aO ?aB ?aS ?aL ?_;(case aP=>exact rfl);(case aB=>exact bl);(case aF=>exact (fun _ _=>trivial));(case aO=>exact (aR HO_5.z));(case aS=>exact (below_size bl));(case aL=>have:=LMc16.out;omega);intro v108 w17 ho hb hg hat;rw [← Ny107.z] at ho;replace HB:=k0 hb;have HO109:=k0 ho;clear HO_5;clear ho hb hg hat))
    go_ret
    exact ⟨_,eR,aR HO109.z,bl⟩
   replace H:=iS H;obtain ⟨c6,H⟩:=H
   have c6b0:=decide_eq_true c6
   clear c6
   replace H:=iE H;obtain ⟨c8,c8b0,c8b1,H⟩|⟨c8b0,c8b1,H⟩:=H
   case inl =>
    have H':=k0 H
    clear H
    obtain ⟨p7,q7⟩:=iN x7_1 (a0.size:Int)
    have hx7:=bt_at a0 x7_1
    replace p7:=eT p7
    replace q7:=eT q7
    go_wp2
    go_roundg k1
    case measure=>have:=HK1.z;omega
    case rel=>exact ⟨(x5_1),(x6_1),(wrap64 (x7_1+1)),rs,rs,H',⟨by have:=HK1.z;omega⟩,⟨aR (HO_5.z)⟩,⟨bl⟩⟩
   replace H:=iS H;obtain ⟨c9,H⟩:=H
   have c9b0:=eq_true c9
   have c9b1:=decide_eq_true c9
   clear c9
   replace H:=iS H;obtain ⟨c10,H⟩:=H
   have c10b0:=eq_true c10
   have c10b1:=decide_eq_true c10
   clear c10
   replace H:=iS H;obtain ⟨c11,H⟩:=H
   have c11b0:=eq_true c11
   have c11b1:=decide_eq_true c11
   clear c11
   replace H:=iS H;obtain ⟨c12,H⟩:=H
   have LMc12:=k0 c12
   clear c12
   obtain ⟨y104,Ny104⟩:=nY (x5_1 ++ [a0.extract (x6_1:Int).toNat (x7_1:Int).toNat]:List ByteArray)
   replace H:(F122.l0 k1 a0 a1 y104 (wrap64 (x7_1+1)) (wrap64 (x7_1+1)))=some r:=rH Ny104.z H
   have H':=k0 H
   clear H
   obtain ⟨p7,q7⟩:=iN x7_1 (a0.size:Int)
   have hx7:=bt_at a0 x7_1
   replace p7:=eT p7
   replace q7:=eT q7
   go_wp2_with (first|((with_reducible refine gate_builtin (b:=.append) (xs:=#[.tmp 20,.tmp 25]) rfl ?_);at_builtin;refine Kd.R_append Kd.string (w0:=w) w.heap.size rfl (.tmp 20) (.tmp 25) 104 9 (.string ⟨#[]⟩) 16 rfl Try.underlying104 info9 rfl (by decide) (by omega) u5 x5_1 (a0.extract (x6_1:Int).toNat (x7_1:Int).toNat) [.string (a0.extract (x6_1:Int).toNat (x7_1:Int).toNat)] (fun _=>True) (fun _=>False) rfl rfl ?aP (fun _ hk=>hk.elim) ?aF ?aO ?aB ?aS ?aL ?_;(case aP=>exact rfl);(case aB=>exact bl);(case aF=>exact (fun _ _=>trivial));(case aO=>exact (aR HO_5.z));(case aS=>exact (below_size bl));(case aL=>have:=LMc12.out;omega);intro v105 w13 ho hb hg hat;rw [← Ny104.z] at ho;replace HB:=k0 hb;have HO106:=k0 ho;clear HO_5;clear ho hb hg hat))
   go_roundg k1
   case measure=>have:=HK1.z;omega
   case rel=>exact ⟨(y104),(wrap64 (x7_1+1)),(wrap64 (x7_1+1)),rs,rs,H',⟨by have:=HK1.z;omega⟩,⟨aR (HO106.z)⟩,⟨bl⟩⟩
/-! ### F123: function 123 -/
mutual
def F123.j0 : Nat → ByteArray → Bool → Option (Int)
 | 0,_,_=>none
 | k+1,x0,x22=>if x22=true then (some (-1)) else (F123.l0 k x0 0 0)
def F123.l0 : Nat → ByteArray → Int → Int → Option (Int)
 | 0,_,_,_=>none
 | k+1,x0,x3,x4=>if x4 < (x0.size:Int) then (if 0≤x4 then (if (bt x0 x4) < 48 then (some (-1)) else (if (bt x0 x4) > 57 then (some (-1)) else (F123.l0 k x0 (wrap64 ((wrap64 (x3 * 10))+(((bt x0 x4) - 48) % 256))) (wrap64 (x4+1))))) else (none)) else (some x3)
end
def F123.f (k:Nat) (a0:ByteArray):Option (Int):=if (a0.size:Int)=0 then (F123.j0 k a0 true) else (if (a0.size:Int) > 9 then (F123.j0 k a0 true) else (if (a0.size:Int) > 1 then (if 0 < (a0.size:Int) then (F123.j0 k a0 ((bt a0 0) == 48)) else (none)) else (F123.j0 k a0 false)))
theorem F123.calls (k : Nat) (a0 : ByteArray) (r : Int) (w : World) (h : F123.f k a0 = some r) :
  Calls Try.prog 123 #[.string a0] w fun e w'=>e=.returned (.int .i64 r)∧Drawn0 w w':=by
 unfold F123.f at h
 have H:=h
 clear h
 have HC2:=k0 H
 clear H
 go_enter Try.func123,Try.ntmps123
 go_upto_region 1 with (fail)
 go_cut [22] (fun v22 wc=>∃ (kq:Nat) (x22_1:Bool),v22=.bool x22_1∧Aside0 (F123.j0 kq a0 x22_1=some r)∧Aside0 (kq≤k)∧Drawn0 w wc)
 case first =>
  have H:=HC2.z
  clear HC2
  replace H:=iE H;obtain ⟨c3,c3b0,c3b1,H⟩|⟨c3b0,c3b1,H⟩:=H
  case inl =>
   (first|rw [c3b0]|(simp only [i64_w,i32_w];rw [c3b0])|skip)
   by_cases c4:(a0.size:Int) > 9
   case neg =>
    rw [if_neg c4] at H
    have c4b0:=decide_eq_false c4
    have c4b1:decide (9 < a0.size)=false:=decide_eq_false (by omega)
    clear c4
    by_cases c5:(a0.size:Int) > 1
    case neg =>
     rw [if_neg c5] at H
     have c5b0:=decide_eq_false c5
     have c5b1:decide (1 < a0.size)=false:=decide_eq_false (by omega)
     clear c5
     have H':=k0 H
     clear H
     go_wp2
     go_meet
     case rel=>exact ⟨_,(false),rs,H',⟨oL⟩,dW⟩
    rw [if_pos c5] at H
    have c5b0:=decide_eq_true c5
    have c5b1:decide (1 < a0.size)=true:=decide_eq_true (by omega)
    clear c5
    replace H:=iS H;obtain ⟨c6,H⟩:=H
    have c6b0:=decide_eq_true c6
    have c6b1:decide (0 < a0.size)=true:=decide_eq_true (by omega)
    clear c6
    have H':=k0 H
    clear H
    have p7:0≤(0:Int):=(by omega)
    have q7:0 < a0.size:=(by have:(0:Int) < (a0.size:Int):=oD;omega)
    have hx7:∀ h:0 < a0.size,((a0[0]'h).toNat:Int)=bt a0 0:=bt_at a0 0
    clear p7
    have qi7:(0 < (a0.size:Int))=True:=eq_true oD
    replace q7:=eT q7
    go_wp2
    go_meet
    case rel=>exact ⟨_,(((bt a0 0) == 48)),rs,H',⟨oL⟩,dW⟩
   rw [if_pos c4] at H
   have c4b0:=decide_eq_true c4
   have c4b1:decide (9 < a0.size)=true:=decide_eq_true (by omega)
   clear c4
   have H':=k0 H
   clear H
   go_wp2
   go_meet
   case rel=>exact ⟨_,(true),rs,H',⟨oL⟩,dW⟩
  (first|rw [c3b0]|(simp only [i64_w,i32_w];rw [c3b0])|skip)
  have H':=k0 H
  clear H
  go_wp2
  go_meet
  case rel=>exact ⟨_,(true),rs,H',⟨oL⟩,dW⟩
 case rest =>
  clear HC2
  obtain ⟨kq,x22_1,rfl,HA,HJ1,⟨mc1,rfl⟩⟩:=hcut
  cases kq with
  | zero=>exact absurd HA.z (by simp [F123.j0])
  | succ kj1 =>
   have H:=HA.z
   clear HA
   simp only [F123.j0] at H
   cases x22_1
   case false =>
    replace H:=iF H
    have H':=k0 H
    clear H
    go_wp2
    go_loopg [3,4] kj1 (fun kq v3 v4 w'=>∃ (x3_2:Int) (x4_2:Int),v3=.int .i64 x3_2∧v4=.int .i64 x4_2∧Aside0 (F123.l0 kq a0 x3_2 x4_2=some r)∧Aside0 (kq≤kj1)∧Drawn0 w w')
    case atStart=>exact ⟨(0),(0),rs,rs,H',⟨Nat.le_refl _⟩,dW⟩
    case round =>
     clear H'
     obtain ⟨x3_2,x4_2,rfl,rfl,HA,HK2,⟨m2,rfl⟩⟩:=hrel
     cases gk with
     | zero=>exact absurd HA.z (by simp [F123.l0])
     | succ k2 =>
      have H:=HA.z
      clear HA
      simp only [F123.l0] at H
      replace H:=iC H;obtain ⟨c9b0,H⟩|⟨c9b0,H⟩:=H
      case inl =>
       obtain rfl:=Option.some.inj H
       go_wp2
       go_ret
       exact ⟨rs,dW⟩
      replace H:=iS H;obtain ⟨c10,H⟩:=H
      have c10b0:=decide_eq_true c10
      clear c10
      replace H:=iC H;obtain ⟨c12b0,H⟩|⟨c12b0,H⟩:=H
      case inl =>
       replace H:=iC H;obtain ⟨c14b0,H⟩|⟨c14b0,H⟩:=H
       case inl =>
        have H':=k0 H
        clear H
        obtain ⟨p11,q11⟩:=iN x4_2 (a0.size:Int)
        have hx11:=bt_at a0 x4_2
        replace p11:=eT p11
        replace q11:=eT q11
        obtain ⟨p13,q13⟩:=iN x4_2 (a0.size:Int)
        have hx13:=bt_at a0 x4_2
        replace p13:=eT p13
        replace q13:=eT q13
        obtain ⟨p15,q15⟩:=iN x4_2 (a0.size:Int)
        have hx15:=bt_at a0 x4_2
        replace p15:=eT p15
        replace q15:=eT q15
        go_wp2
        go_roundg k2
        case measure=>have:=HJ1.out;have:=HK2.z;omega
        case rel=>exact ⟨(wrap64 ((wrap64 (x3_2 * 10))+(((bt a0 x4_2) - 48) % 256))),(wrap64 (x4_2+1)),rs,rs,H',⟨by have:=HJ1.out;have:=HK2.z;omega⟩,dW⟩
       obtain rfl:=Option.some.inj H
       obtain ⟨p11,q11⟩:=iN x4_2 (a0.size:Int)
       have hx11:=bt_at a0 x4_2
       replace p11:=eT p11
       replace q11:=eT q11
       obtain ⟨p13,q13⟩:=iN x4_2 (a0.size:Int)
       have hx13:=bt_at a0 x4_2
       replace p13:=eT p13
       replace q13:=eT q13
       go_wp2
       go_ret
       exact ⟨rs,dW⟩
      obtain rfl:=Option.some.inj H
      obtain ⟨p11,q11⟩:=iN x4_2 (a0.size:Int)
      have hx11:=bt_at a0 x4_2
      replace p11:=eT p11
      replace q11:=eT q11
      go_wp2
      go_ret
      exact ⟨rs,dW⟩
   replace H:=iT H
   obtain rfl:=Option.some.inj H
   go_wp2
   go_ret
   exact ⟨rs,dW⟩
end Go.Proofs.Ytgjdbnipcpmhiaa.P
/- Set with little white space, by a program. -/
