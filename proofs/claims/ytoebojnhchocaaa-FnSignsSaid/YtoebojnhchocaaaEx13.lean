/- The functions that one law reaches, each as a Lean function, and that Go's call comes to what it says. Condition of each: that the Lean function answers (is not none). -/
import Derived.Test.YtoebojnhchocaaaEx0
import Derived.Test.YtoebojnhchocaaaEx12
namespace Go.Proofs.Ytoebojnhchocaaa.E
open Go.RowKit Go.Proofs.bY.apf Go.Proofs.bY.ko Go.Proofs.bY.kN
attribute [local go_sem] max2_int min2_int max_two min_two max_three min_three max_four min_four   -- for this text's walks alone
set_option linter.unusedVariables false
set_option linter.unusedSimpArgs false
set_option maxHeartbeats 8000000
set_option maxRecDepth 100000
/-! ### F100: function 100 -/
mutual
def eO.j0 : Nat → Bool → Int → List (List Int) → Option (Bool)
 | 0,_,_,_=>none
 | k+1,jP,fG,eH=>if jP=true then (some false) else (eO.l0 k 0 fG eH)
def eO.l0 : Nat → Int → Int → List (List Int) → Option (Bool)
 | 0,_,_,_=>none
 | k+1,x3,fG,eH=>if x3 < (eH.length:Int) then (if 0≤x3 then (if ((av eH x3).length:Int)=2 then (if 0 < ((av eH x3).length:Int) then ((jm.f (rd (av eH x3) 0) 0 (wrap64 (fG - 1))).bind fun t106=>(if t106=true then (if 1 < ((av eH x3).length:Int) then ((jm.f (rd (av eH x3) 1) 0 (wrap64 (fG - 1))).bind fun t109=>(if t109=true then (eO.l0 k (wrap64 (x3+1)) fG eH) else (some false))) else (none)) else (some false))) else (none)) else (some false)) else (none)) else (some true)
end
def eO.f (k:Nat) (ah:Int) (af:List (List Int)):Option (Bool):=(jm.f ah 1 8).bind fun t102=>(if t102=true then (eO.j0 k (decide ((af.length:Int) > 10)) ah af) else (eO.j0 k true ah af))
theorem eO.uY : ∀ k, (∀ y0 y1 y2, cz (eO.j0 k y0 y1 y2) (eO.j0 (k + 1) y0 y1 y2)) ∧ (∀ y0 y1 y2, cz (eO.l0 k y0 y1 y2) (eO.l0 (k + 1) y0 y1 y2))
 | 0=>⟨fun _ _ _ r h=>by simp [eO.j0] at h,fun _ _ _ r h=>by simp [eO.l0] at h⟩
 | k+1=>by
  obtain ⟨mC,ih1⟩:=eO.uY k
  refine ⟨?_, ?_⟩ <;> intros <;> (first | unfold eO.j0 | unfold eO.l0) <;> repeat' first
   | (with_reducible first|exact mC _ _ _|exact ih1 _ _ _|exact cz.refl _|exact cz.none _|refine cz.ite ?_ ?_|refine cz.bind ?_ (fun _=>?_))
   | exact mC _ _ _|exact ih1 _ _ _|exact cz.none _|refine cz.ite ?_ ?_|refine cz.bind ?_ (fun _=>?_)
theorem eO.mono:∀ a0 a1 k,cz (eO.f k a0 a1) (eO.f (k+1) a0 a1):=by
 intro a0 a1 k
 obtain ⟨mC,ih1⟩:=eO.uY k
 unfold eO.f
 repeat' first
  | (with_reducible first|exact mC _ _ _|exact ih1 _ _ _|exact cz.refl _|exact cz.none _|refine cz.ite ?_ ?_|refine cz.bind ?_ (fun _=>?_))
  | exact mC _ _ _|exact ih1 _ _ _|exact cz.none _|refine cz.ite ?_ ?_|refine cz.bind ?_ (fun _=>?_)
theorem eO.calls (k : Nat) (ah : Int) (aT : Option Addr) (aoW : Nat) (af : List (List Int)) (r : Bool) (w : World) (cR : Kd.C (Kd.slice 2 (Kd.int .i64)) w aT af.length af) (cX : af.length ≤ aoW) (h : eO.f k ah af = some r) :
  Calls Try.prog 100 #[.agg #[.int .i64 ah,.slice aT af.length aoW]] w fun e w'=>e=.returned (.bool r)∧Below w.heap.size w w':=by
 have iX:=Try.underlying31
 have ao6:=k0 cR
 have cV:=k0 cX
 clear cR cX
 have HB:=k0 (Below.refl w.heap.size w)
 have H:((jm.f ah 1 8).bind fun t102=>(if t102=true then (eO.j0 k (decide ((af.length:Int) > 10)) ah af) else (eO.j0 k true ah af)))=some r:=h
 clear h
 have wU:=k0 H
 clear H
 go_enter Try.func100,Try.ntmps100
 go_upto_region 1 with (first|((with_reducible refine bp (N:=1) rfl ?_);(try (refine jC (by rfl) ?_;dsimp only));refine bR 1 #[.int .i64 ah,.slice aT af.length aoW] 31 ?_;intro aoV hg w3 aE hb;have aa:=k0 (aE);have bB:=gW hg (aoS bl);have aX:=bB;replace HB:=k0 (aH bl hb);clear hb aE hg))
 repeat (go_quiet (first|((with_reducible refine bp (N:=1) rfl ?_);(try (refine jC (by rfl) ?_;dsimp only));refine bR 1 #[.int .i64 ah,.slice aT af.length aoW] 31 ?_;intro aoV hg w3 aE hb;have aa:=k0 (aE);have bB:=gW hg (aoS bl);have aX:=bB;replace HB:=k0 (aH bl hb);clear hb aE hg));go_upto_region 1 with (first|((with_reducible refine bp (N:=1) rfl ?_);(try (refine jC (by rfl) ?_;dsimp only));refine bR 1 #[.int .i64 ah,.slice aT af.length aoW] 31 ?_;intro aoV hg w3 aE hb;have aa:=k0 (aE);have bB:=gW hg (aoS bl);have aX:=bB;replace HB:=k0 (aH bl hb);clear hb aE hg)))
 (try simp only [Act.put,zI,zZ,zS])
 go_cut [13] (fun xC wc=>∃ (kq:Nat) (c_:Bool),xC=.bool c_∧aj (eO.j0 kq c_ ah af=some r)∧aj (kq≤k)∧aj (wc.heap[aoV]?=some (sO ah aT af aoW 31))∧aj (Below w.heap.size w wc))
 case first =>
  have H:=wU.z
  clear wU
  replace H:=Option.bind_eq_some_iff.mp H
  obtain ⟨t102,fu,H⟩:=H
  replace H:(if t102=true then (eO.j0 k (decide ((af.length:Int) > 10)) ah af) else (eO.j0 k true ah af))=some r:=H
  have A4:=k0 fu
  clear fu
  by_cases c5:t102=true
  case neg =>
   replace c5:=Bool.eq_false_iff.mpr c5
   subst c5
   have H1:(eO.j0 k true ah af)=some r:=by rw [if_neg (show ¬ (false=true) by decide)] at H;exact H
   clear H
   have H:=H1
   clear H1
   have H':=k0 H
   clear H
   have Rk:=aQ aa
   have Rl:=aoT aa
   have abQ:=bF aa 0
   have RF:=bF aa 1
   go_wp2_with (first|(go_at_call 172;(with_reducible refine (jm.calls ah 1 8 false _ A4.z).mono ?_);rintro e w' ⟨rfl,⟨nd,rfl⟩⟩;(try exact dN)))
   repeat (go_quiet (first|(go_at_call 172;(with_reducible refine (jm.calls ah 1 8 false _ A4.z).mono ?_);rintro e w' ⟨rfl,⟨nd,rfl⟩⟩;(try exact dN)));try go_wp2_with (first|(go_at_call 172;(with_reducible refine (jm.calls ah 1 8 false _ A4.z).mono ?_);rintro e w' ⟨rfl,⟨nd,rfl⟩⟩;(try exact dN))))
   go_meet
   case rel=>exact ⟨_,(true),rs,H',⟨by first|omega|exact Nat.le_refl _⟩,⟨bk⟩,⟨bl⟩⟩
  subst c5
  have H1:(eO.j0 k (decide ((af.length:Int) > 10)) ah af)=some r:=by rw [if_pos rfl] at H;exact H
  clear H
  have H:=H1
  clear H1
  have H':=k0 H
  clear H
  have Ri:=aQ aa
  have Rj:=aoT aa
  have RD:=bF aa 0
  have RE:=bF aa 1
  go_wp2_with (first|(go_at_call 172;(with_reducible refine (jm.calls ah 1 8 true _ A4.z).mono ?_);rintro e w' ⟨rfl,⟨nd,rfl⟩⟩;(try exact dN)))
  repeat (go_quiet (first|(go_at_call 172;(with_reducible refine (jm.calls ah 1 8 true _ A4.z).mono ?_);rintro e w' ⟨rfl,⟨nd,rfl⟩⟩;(try exact dN)));try go_wp2_with (first|(go_at_call 172;(with_reducible refine (jm.calls ah 1 8 true _ A4.z).mono ?_);rintro e w' ⟨rfl,⟨nd,rfl⟩⟩;(try exact dN))))
  go_meet
  case rel=>exact ⟨_,(decide ((af.length:Int) > 10)),rs,H',⟨by first|omega|exact Nat.le_refl _⟩,⟨bk⟩,⟨bl⟩⟩
 case rest =>
  clear wU
  obtain ⟨kq,c_,rfl,HA,Dg,aa,HB⟩:=hcut
  cases kq with
  | zero=>exact absurd HA.z (by simp [eO.j0])
  | succ AD =>
   have H:=HA.z
   clear HA
   simp only [eO.j0] at H
   by_cases c8:c_=true
   case neg =>
    replace c8:=Bool.eq_false_iff.mpr c8
    subst c8
    have H1:(eO.l0 AD 0 ah af)=some r:=by rw [if_neg (show ¬ (false=true) by decide)] at H;exact H
    clear H
    have H:=H1
    clear H1
    have H':=k0 H
    clear H
    go_wp2
    repeat (go_quiet (fail);try go_wp2)
    go_loopg [3] AD (fun kq v3 w'=>∃ (bS:Int),v3=.int .i64 bS∧aj (eO.l0 kq bS ah af=some r)∧aj (kq≤AD)∧aj (w'.heap[aoV]?=some (sO ah aT af aoW 31))∧aj (Below w.heap.size w w'))
    case atStart=>exact ⟨(0),rs,H',⟨Nat.le_refl _⟩,⟨bk⟩,⟨bl⟩⟩
    case round =>
     clear H'
     obtain ⟨bS,rfl,HA,cD,aa,HB⟩:=hrel
     cases gk with
     | zero=>exact absurd HA.z (by simp [eO.l0])
     | succ k2 =>
      have H:=HA.z
      clear HA
      simp only [eO.l0] at H
      by_cases c9:bS < (af.length:Int)
      case neg =>
       rw [if_neg c9] at H
       have ap8:decide (bS < (af.length:Int))=false:=decide_eq_false c9
       clear c9
       obtain rfl:=Option.some.inj H
       have KJ:=aQ aa
       have KK:=aoT aa
       have K5:=bF aa 0
       have K6:=bF aa 1
       go_wp2
       repeat (go_quiet (fail);try go_wp2)
       go_ret
       exact ⟨eR,bl⟩
      rw [if_pos c9] at H
      have ap8:=decide_eq_true c9
      clear c9
      replace H:=iS H;obtain ⟨c10,H⟩:=H
      have qI:=decide_eq_true c10
      clear c10
      by_cases c11:((av af bS).length:Int)=2
      case neg =>
       rw [if_neg c11] at H
       have ku:(((av af bS).length:Int) == 2)=false:=beq_eq_false_iff_ne.mpr c11
       have yh:(((av af bS).length:Int) != 2)=true:=bne_iff_ne.mpr c11
       obtain rfl:=Option.some.inj H
       have GC:=aQ aa
       have GD:=aoT aa
       have GO:=bF aa 0
       have GP:=bF aa 1
       have eU:0≤(bS:Int):=oD
       have eV:bS < (af.length:Int):=oD
       obtain ⟨lJ,ze,zO,e103,fF,mz,mq⟩:=fW ao6.z bS eU eV
       cases e103
       replace fF:=hbc HB fF
       have sW:=k0 mq
       have zl:=k0 mz
       clear mq mz
       replace eU:=eq_true eU
       replace eV:=eq_true eV
       go_wp2
       repeat (go_quiet (fail);try go_wp2)
       go_ret
       exact ⟨eR,bl⟩
      rw [if_pos c11] at H
      have ku:(((av af bS).length:Int) == 2)=true:=beq_iff_eq.mpr c11
      have yh:(((av af bS).length:Int) != 2)=false:=bne_eq_false_iff_eq.mpr c11
      clear c11
      replace H:=iS H;obtain ⟨c12,H⟩:=H
      have qJ:=decide_eq_true c12
      have Gf:decide (0 < (av af bS).length)=true:=decide_eq_true (by omega)
      clear c12
      replace H:=Option.bind_eq_some_iff.mp H
      obtain ⟨t106,tV,H⟩:=H
      replace H:(if t106=true then (if 1 < ((av af bS).length:Int) then ((jm.f (rd (av af bS) 1) 0 (wrap64 (ah - 1))).bind fun t109=>(if t109=true then (eO.l0 k2 (wrap64 (bS+1)) ah af) else (some false))) else (none)) else (some false))=some r:=H
      have qw:=k0 tV
      clear tV
      by_cases c14:t106=true
      case neg =>
       replace c14:=Bool.eq_false_iff.mpr c14
       subst c14
       have H1:(some false)=some r:=by rw [if_neg (show ¬ (false=true) by decide)] at H;exact H
       clear H
       have H:=H1
       clear H1
       obtain rfl:=Option.some.inj H
       have GA:=aQ aa
       have GB:=aoT aa
       have GM:=bF aa 0
       have GN:=bF aa 1
       have eU:0≤(bS:Int):=oD
       have eV:bS < (af.length:Int):=oD
       obtain ⟨lJ,ze,zO,e103,fF,mz,mq⟩:=fW ao6.z bS eU eV
       cases e103
       replace fF:=hbc HB fF
       have sW:=k0 mq
       have zl:=k0 mz
       clear mq mz
       replace eU:=eq_true eU
       replace eV:=eq_true eV
       have dR:0≤(bS:Int):=oD
       have dS:bS < (af.length:Int):=oD
       obtain ⟨jY,A_,Bz,e104,dY,pO,pN⟩:=fW ao6.z bS dR dS
       obtain rfl:lJ=jY:=(by injection e104)
       replace dY:=hbc HB dY
       have rU:=k0 pN
       have Bj:=k0 pO
       clear pN pO
       replace dR:=eq_true dR
       replace dS:=eq_true dS
       have er:=Option.some.inj (fF.symm.trans dY)
       injection er with er apw apv
       subst er
       subst apv
       clear apw
       have gD:0≤(0:Int):=(by omega)
       have gl:0 < ((av af bS).length:Int):=oD
       obtain ⟨lg,e105,gj⟩:=Kd.cN rU.z 0 gD gl
       cases e105
       have AU:(0 < (av af bS).length)=True:=eq_true (by omega)
       (try rw [show ((0:Int)).toNat=0 from rfl] at gj)
       (try rw [Addr.add_zero'] at gj)
       replace gj:=hbc HB gj
       replace gD:=eq_true gD
       replace gl:=eq_true gl
       go_wp2_with (first|(go_at_call 172;(with_reducible refine (jm.calls (rd (av af bS) 0) 0 (wrap64 (ah - 1)) false _ qw.z).mono ?_);rintro e w' ⟨rfl,⟨nd,rfl⟩⟩;(try exact dN)))
       repeat (go_quiet (first|(go_at_call 172;(with_reducible refine (jm.calls (rd (av af bS) 0) 0 (wrap64 (ah - 1)) false _ qw.z).mono ?_);rintro e w' ⟨rfl,⟨nd,rfl⟩⟩;(try exact dN)));try go_wp2_with (first|(go_at_call 172;(with_reducible refine (jm.calls (rd (av af bS) 0) 0 (wrap64 (ah - 1)) false _ qw.z).mono ?_);rintro e w' ⟨rfl,⟨nd,rfl⟩⟩;(try exact dN))))
       go_ret
       exact ⟨eR,bl⟩
      subst c14
      have H1:(if 1 < ((av af bS).length:Int) then ((jm.f (rd (av af bS) 1) 0 (wrap64 (ah - 1))).bind fun t109=>(if t109=true then (eO.l0 k2 (wrap64 (bS+1)) ah af) else (some false))) else (none))=some r:=by rw [if_pos rfl] at H;exact H
      clear H
      have H:=H1
      clear H1
      replace H:=iS H;obtain ⟨c15,H⟩:=H
      have oN:=decide_eq_true c15
      have JS:decide (1 < (av af bS).length)=true:=decide_eq_true (by omega)
      clear c15
      replace H:=Option.bind_eq_some_iff.mp H
      obtain ⟨t109,xS,H⟩:=H
      replace H:(if t109=true then (eO.l0 k2 (wrap64 (bS+1)) ah af) else (some false))=some r:=H
      have qx:=k0 xS
      clear xS
      by_cases c17:t109=true
      case neg =>
       replace c17:=Bool.eq_false_iff.mpr c17
       subst c17
       have H1:(some false)=some r:=by rw [if_neg (show ¬ (false=true) by decide)] at H;exact H
       clear H
       have H:=H1
       clear H1
       obtain rfl:=Option.some.inj H
       have BV:=aQ aa
       have BW:=aoT aa
       have aqQ:=bF aa 0
       have B6:=bF aa 1
       have eU:0≤(bS:Int):=oD
       have eV:bS < (af.length:Int):=oD
       obtain ⟨lJ,ze,zO,e103,fF,mz,mq⟩:=fW ao6.z bS eU eV
       cases e103
       replace fF:=hbc HB fF
       have sW:=k0 mq
       have zl:=k0 mz
       clear mq mz
       replace eU:=eq_true eU
       replace eV:=eq_true eV
       have dR:0≤(bS:Int):=oD
       have dS:bS < (af.length:Int):=oD
       obtain ⟨jY,A_,Bz,e104,dY,pO,pN⟩:=fW ao6.z bS dR dS
       obtain rfl:lJ=jY:=(by injection e104)
       replace dY:=hbc HB dY
       have rU:=k0 pN
       have Bj:=k0 pO
       clear pN pO
       replace dR:=eq_true dR
       replace dS:=eq_true dS
       have er:=Option.some.inj (fF.symm.trans dY)
       injection er with er apw apv
       subst er
       subst apv
       clear apw
       have gD:0≤(0:Int):=(by omega)
       have gl:0 < ((av af bS).length:Int):=oD
       obtain ⟨lg,e105,gj⟩:=Kd.cN rU.z 0 gD gl
       cases e105
       have AU:(0 < (av af bS).length)=True:=eq_true (by omega)
       (try rw [show ((0:Int)).toNat=0 from rfl] at gj)
       (try rw [Addr.add_zero'] at gj)
       replace gj:=hbc HB gj
       replace gD:=eq_true gD
       replace gl:=eq_true gl
       have ji:0≤(bS:Int):=oD
       have jk:bS < (af.length:Int):=oD
       obtain ⟨ni,Ba,zP,e107,iN,rE,rC⟩:=fW ao6.z bS ji jk
       obtain rfl:lJ=ni:=(by injection e107)
       replace iN:=hbc HB iN
       have t_:=k0 rC
       have Dd:=k0 rE
       clear rC rE
       replace ji:=eq_true ji
       replace jk:=eq_true jk
       have er:=Option.some.inj (fF.symm.trans iN)
       injection er with er apw apv
       subst er
       subst apv
       clear apw
       have iw:0≤(1:Int):=(by omega)
       have iy:1 < ((av af bS).length:Int):=oD
       obtain ⟨qG,e108,ij⟩:=Kd.cN t_.z 1 iw iy
       cases e108
       (try simp only [show (1:Int).toNat=1 from rfl,Nat.reduceMul,Nat.reduceEqDiff,Go.Addr.add,↓reduceIte] at ij)
       have aeL:(1 < (av af bS).length)=True:=eq_true (by omega)
       (try rw [show ((1:Int)).toNat=1 from rfl] at ij)
       replace ij:=hbc HB ij
       replace iw:=eq_true iw
       replace iy:=eq_true iy
       go_wp2_with (first|(go_at_call 172;(with_reducible refine (jm.calls (rd (av af bS) 0) 0 (wrap64 (ah - 1)) true _ qw.z).mono ?_);rintro e w' ⟨rfl,⟨nd,rfl⟩⟩;(try exact dN))|(go_at_call 172;(with_reducible refine (jm.calls (rd (av af bS) 1) 0 (wrap64 (ah - 1)) false _ qx.z).mono ?_);rintro e w' ⟨rfl,⟨nd,rfl⟩⟩;(try exact dN)))
       repeat (go_quiet (first|(go_at_call 172;(with_reducible refine (jm.calls (rd (av af bS) 0) 0 (wrap64 (ah - 1)) true _ qw.z).mono ?_);rintro e w' ⟨rfl,⟨nd,rfl⟩⟩;(try exact dN))|(go_at_call 172;(with_reducible refine (jm.calls (rd (av af bS) 1) 0 (wrap64 (ah - 1)) false _ qx.z).mono ?_);rintro e w' ⟨rfl,⟨nd,rfl⟩⟩;(try exact dN)));try go_wp2_with (first|(go_at_call 172;(with_reducible refine (jm.calls (rd (av af bS) 0) 0 (wrap64 (ah - 1)) true _ qw.z).mono ?_);rintro e w' ⟨rfl,⟨nd,rfl⟩⟩;(try exact dN))|(go_at_call 172;(with_reducible refine (jm.calls (rd (av af bS) 1) 0 (wrap64 (ah - 1)) false _ qx.z).mono ?_);rintro e w' ⟨rfl,⟨nd,rfl⟩⟩;(try exact dN))))
       go_ret
       exact ⟨eR,bl⟩
      subst c17
      have H1:(eO.l0 k2 (wrap64 (bS+1)) ah af)=some r:=by rw [if_pos rfl] at H;exact H
      clear H
      have H:=H1
      clear H1
      have H':=k0 H
      clear H
      have Er:=aQ aa
      have Es:=aoT aa
      have Ex:=bF aa 0
      have Ey:=bF aa 1
      have eU:0≤(bS:Int):=oD
      have eV:bS < (af.length:Int):=oD
      obtain ⟨lJ,ze,zO,e103,fF,mz,mq⟩:=fW ao6.z bS eU eV
      cases e103
      replace fF:=hbc HB fF
      have sW:=k0 mq
      have zl:=k0 mz
      clear mq mz
      replace eU:=eq_true eU
      replace eV:=eq_true eV
      have dR:0≤(bS:Int):=oD
      have dS:bS < (af.length:Int):=oD
      obtain ⟨jY,A_,Bz,e104,dY,pO,pN⟩:=fW ao6.z bS dR dS
      obtain rfl:lJ=jY:=(by injection e104)
      replace dY:=hbc HB dY
      have rU:=k0 pN
      have Bj:=k0 pO
      clear pN pO
      replace dR:=eq_true dR
      replace dS:=eq_true dS
      have er:=Option.some.inj (fF.symm.trans dY)
      injection er with er apw apv
      subst er
      subst apv
      clear apw
      have gD:0≤(0:Int):=(by omega)
      have gl:0 < ((av af bS).length:Int):=oD
      obtain ⟨lg,e105,gj⟩:=Kd.cN rU.z 0 gD gl
      cases e105
      have AU:(0 < (av af bS).length)=True:=eq_true (by omega)
      (try rw [show ((0:Int)).toNat=0 from rfl] at gj)
      (try rw [Addr.add_zero'] at gj)
      replace gj:=hbc HB gj
      replace gD:=eq_true gD
      replace gl:=eq_true gl
      have ji:0≤(bS:Int):=oD
      have jk:bS < (af.length:Int):=oD
      obtain ⟨ni,Ba,zP,e107,iN,rE,rC⟩:=fW ao6.z bS ji jk
      obtain rfl:lJ=ni:=(by injection e107)
      replace iN:=hbc HB iN
      have t_:=k0 rC
      have Dd:=k0 rE
      clear rC rE
      replace ji:=eq_true ji
      replace jk:=eq_true jk
      have er:=Option.some.inj (fF.symm.trans iN)
      injection er with er apw apv
      subst er
      subst apv
      clear apw
      have iw:0≤(1:Int):=(by omega)
      have iy:1 < ((av af bS).length:Int):=oD
      obtain ⟨qG,e108,ij⟩:=Kd.cN t_.z 1 iw iy
      cases e108
      (try simp only [show (1:Int).toNat=1 from rfl,Nat.reduceMul,Nat.reduceEqDiff,Go.Addr.add,↓reduceIte] at ij)
      have aeL:(1 < (av af bS).length)=True:=eq_true (by omega)
      (try rw [show ((1:Int)).toNat=1 from rfl] at ij)
      replace ij:=hbc HB ij
      replace iw:=eq_true iw
      replace iy:=eq_true iy
      go_wp2_with (first|(go_at_call 172;(with_reducible refine (jm.calls (rd (av af bS) 0) 0 (wrap64 (ah - 1)) true _ qw.z).mono ?_);rintro e w' ⟨rfl,⟨nd,rfl⟩⟩;(try exact dN))|(go_at_call 172;(with_reducible refine (jm.calls (rd (av af bS) 1) 0 (wrap64 (ah - 1)) true _ qx.z).mono ?_);rintro e w' ⟨rfl,⟨nd,rfl⟩⟩;(try exact dN)))
      repeat (go_quiet (first|(go_at_call 172;(with_reducible refine (jm.calls (rd (av af bS) 0) 0 (wrap64 (ah - 1)) true _ qw.z).mono ?_);rintro e w' ⟨rfl,⟨nd,rfl⟩⟩;(try exact dN))|(go_at_call 172;(with_reducible refine (jm.calls (rd (av af bS) 1) 0 (wrap64 (ah - 1)) true _ qx.z).mono ?_);rintro e w' ⟨rfl,⟨nd,rfl⟩⟩;(try exact dN)));try go_wp2_with (first|(go_at_call 172;(with_reducible refine (jm.calls (rd (av af bS) 0) 0 (wrap64 (ah - 1)) true _ qw.z).mono ?_);rintro e w' ⟨rfl,⟨nd,rfl⟩⟩;(try exact dN))|(go_at_call 172;(with_reducible refine (jm.calls (rd (av af bS) 1) 0 (wrap64 (ah - 1)) true _ qx.z).mono ?_);rintro e w' ⟨rfl,⟨nd,rfl⟩⟩;(try exact dN))))
      go_roundg k2
      case measure=>have:=Dg.out;have:=cD.z;omega
      case rel=>exact ⟨(wrap64 (bS+1)),rs,H',⟨by have:=Dg.out;have:=cD.z;omega⟩,⟨bk⟩,⟨bl⟩⟩
   subst c8
   have H1:(some false)=some r:=by rw [if_pos rfl] at H;exact H
   clear H
   have H:=H1
   clear H1
   obtain rfl:=Option.some.inj H
   go_wp2
   repeat (go_quiet (fail);try go_wp2)
   go_ret
   exact ⟨eR,bl⟩
/-! ### F248: function 248 -/
def iu.l0 : Nat → ByteArray → Int → List ByteArray → Int → Int → Option (List ByteArray)
 | 0,_,_,_,_,_=>none
 | k+1,x0,x1,x5,x6,x7=>if x7 < (x0.size:Int) then (if 0≤x7 then (if (bt x0 x7)=x1 then (if 0≤x6 then (if x6≤x7 then (if x7≤(x0.size:Int) then (if x5.length < 8796093022208 then (iu.l0 k x0 x1 (x5 ++ [x0.extract (x6:Int).toNat (x7:Int).toNat]) (wrap64 (x7+1)) (wrap64 (x7+1))) else (none)) else (none)) else (none)) else (none)) else (iu.l0 k x0 x1 x5 x6 (wrap64 (x7+1)))) else (none)) else (if 0≤x6 then (if x6≤(x0.size:Int) then (if x5.length < 8796093022208 then (some (x5 ++ [x0.extract (x6:Int).toNat x0.size])) else (none)) else (none)) else (none))
def iu.f (k:Nat) (a0:ByteArray) (a1:Int):Option (List ByteArray):=iu.l0 k a0 a1 (([]:List ByteArray)) 0 0
theorem iu.uY : ∀ k, (∀ y0 y1 y2 y3 y4, cz (iu.l0 k y0 y1 y2 y3 y4) (iu.l0 (k + 1) y0 y1 y2 y3 y4))
 | 0=>fun _ _ _ _ _ r h=>by simp [iu.l0] at h
 | k+1=>by
  have mC:=iu.uY k
  ·intro y0 y1 y2 y3 y4
   unfold iu.l0
   repeat' first
    | (with_reducible first|exact mC _ _ _ _ _|exact cz.refl _|exact cz.none _|refine cz.ite ?_ ?_|refine cz.bind ?_ (fun _=>?_))
    | exact mC _ _ _ _ _|exact cz.none _|refine cz.ite ?_ ?_|refine cz.bind ?_ (fun _=>?_)
theorem iu.mono:∀ a0 a1 k,cz (iu.f k a0 a1) (iu.f (k+1) a0 a1):=by
 intro a0 a1 k
 have mC:=iu.uY k
 unfold iu.f
 repeat' first
  | (with_reducible first|exact mC _ _ _ _ _|exact cz.refl _|exact cz.none _|refine cz.ite ?_ ?_|refine cz.bind ?_ (fun _=>?_))
  | exact mC _ _ _ _ _|exact cz.none _|refine cz.ite ?_ ?_|refine cz.bind ?_ (fun _=>?_)
theorem iu.calls (k : Nat) (a0 : ByteArray) (a1 : Int) (r : List ByteArray) (w : World) (h : iu.f k a0 a1 = some r) :
  Calls Try.prog 248 #[.string a0,.int .u8 a1] w fun e w'=>∃ eE:Value,e=.returned (eE)∧Kd.R Kd.string 9 w' w.heap.size (fun _=>True) eE r∧Below w.heap.size w w':=by
 have HB:=k0 (Below.refl w.heap.size w)
 have H:(iu.l0 k a0 a1 (([]:List ByteArray)) 0 0)=some r:=h
 clear h
 obtain ⟨iJ,j7⟩:∃ y_:List ByteArray,y_=(([]:List ByteArray)):=⟨_,rfl⟩
 replace H:(iu.l0 k a0 a1 iJ 0 0)=some r:=rH j7 H
 have jX:=k0 j7
 clear j7
 have H':=k0 H
 clear H
 go_enter Try.func248,Try.ntmps248
 go_wp2_with (first|((with_reducible refine bp (N:=8) rfl ?_);refine Kd.jr Kd.string _ 9 ?hg (N:=8) ?hd (xs:=([]:List ByteArray)) (inner:=[]) (ok:=fun _=>True) (b_:=fun _=>True) ?hr ?hp (fun _ hk=>hk) trivial (Below.refl _ _) (Nat.le_refl _) (by simp) ?_;(case hd=>rfl);(case hg=>rfl);(case hr=>first|(go_simp;done)|(go_simp;rfl));(case hp=>exact (bh.none _ _));intro o5 w3 nM hb cJ cK;clear cJ cK;(first|rw [← jX.z] at nM|(simp only [Int.reduceToNat] at nM;rw [← jX.z] at nM));have eJ:=k0 (Kd.cU nM (aoS bl));replace HB:=k0 (aH bl hb);clear hb nM))
 go_loopg [5,6,7] k (fun kq v5 v6 v7 w'=>∃ (aY:List ByteArray) (gY:Int) (cy:Int),v6=.int .i64 gY∧v7=.int .i64 cy∧aj (iu.l0 kq a0 a1 aY gY cy=some r)∧aj (kq≤k)∧aj (Kd.R Kd.string 9 w' w.heap.size (fun _=>True) v5 aY)∧aj (Below w.heap.size w w'))
 case atStart=>exact ⟨(iJ),(0),(0),rs,rs,H',⟨Nat.le_refl _⟩,⟨aR (eJ.z)⟩,⟨bl⟩⟩
 case round =>
  clear H'
  obtain ⟨aY,gY,cy,rfl,rfl,HA,bx,aoX,HB⟩:=hrel
  cases gk with
  | zero=>exact absurd HA.z (by simp [iu.l0])
  | succ k1 =>
   have H:=HA.z
   clear HA
   simp only [iu.l0] at H
   by_cases c5:cy < (a0.size:Int)
   case neg =>
    rw [if_neg c5] at H
    have jt:decide (cy < (a0.size:Int))=false:=decide_eq_false c5
    clear c5
    replace H:=iS H;obtain ⟨c14,H⟩:=H
    have pJ:=eq_true c14
    have Gg:=decide_eq_true c14
    clear c14
    replace H:=iS H;obtain ⟨c15,H⟩:=H
    have oN:=eq_true c15
    have JS:=decide_eq_true c15
    clear c15
    replace H:=iS H;obtain ⟨c16,H⟩:=H
    have Dq:=k0 c16
    clear c16
    obtain ⟨gF,mB⟩:∃ y_:List ByteArray,y_=(aY ++ [a0.extract (gY:Int).toNat a0.size]):=⟨_,rfl⟩
    replace H:(some gF)=some r:=rH mB H
    have ri:=k0 mB
    clear mB
    obtain rfl:=Option.some.inj H
    go_wp2_with (first|((with_reducible refine kQ (b:=.append) (xs:=#[.tmp 29,.tmp 33]) rfl ?_);at_builtin;refine Kd.p9 Kd.string (w0:=w) w.heap.size rfl (.tmp 29) (.tmp 33) 171 9 (.string ⟨#[]⟩) 16 rfl Try.underlying171 SQ rfl (by decide) (by omega) u5 aY (a0.extract (gY:Int).toNat a0.size) [.string (a0.extract (gY:Int).toNat a0.size)] (fun _=>True) (fun _=>False) rfl rfl ?aP (fun _ hk=>hk.elim) ?aF ?aO ?aB ?aS ?aL ?_;(case aP=>exact rfl);(case aB=>exact bl);(case aF=>exact (fun _ _=>trivial));(case aO=>exact (aR aoX.z));(case aS=>exact (aoS bl));(case aL=>have:=Dq.out;omega);intro vo xF ho hb hg ao1;rw [← ri.z] at ho;have aq:=k0 (hb);have au:=k0 (ho);clear HB;clear aoX;have HB:=aq;have eB:=au;clear aq au;clear ho hb hg ao1))
    go_ret
    exact ⟨_,eR,by (with_reducible repeat (first|apply Kd.dK|apply Kd.dD|apply Kd.cB));exact eB.z,bl⟩
   rw [if_pos c5] at H
   have jt:=decide_eq_true c5
   clear c5
   replace H:=iS H;obtain ⟨c6,H⟩:=H
   have kG:=decide_eq_true c6
   clear c6
   by_cases c8:(bt a0 cy)=a1
   case neg =>
    rw [if_neg c8] at H
    have kH:((bt a0 cy) == a1)=false:=beq_eq_false_iff_ne.mpr c8
    have qL:((bt a0 cy) != a1)=true:=bne_iff_ne.mpr c8
    have H':=k0 H
    clear H
    have p7:0≤(cy:Int):=oD
    have q7:cy < (a0.size:Int):=oD
    have SK:=aqo a0 cy
    replace p7:=eq_true p7
    replace q7:=eq_true q7
    go_wp2
    go_roundg k1
    case measure=>have:=bx.z;omega
    case rel=>exact ⟨(aY),(gY),(wrap64 (cy+1)),rs,rs,H',⟨by have:=bx.z;omega⟩,⟨aR (aoX.z)⟩,⟨bl⟩⟩
   rw [if_pos c8] at H
   have kH:((bt a0 cy) == a1)=true:=beq_iff_eq.mpr c8
   have qL:((bt a0 cy) != a1)=false:=bne_eq_false_iff_eq.mpr c8
   clear c8
   replace H:=iS H;obtain ⟨c9,H⟩:=H
   have ap8:=eq_true c9
   have BD:=decide_eq_true c9
   clear c9
   replace H:=iS H;obtain ⟨c10,H⟩:=H
   have qI:=eq_true c10
   have Ge:=decide_eq_true c10
   clear c10
   replace H:=iS H;obtain ⟨c11,H⟩:=H
   have ku:=eq_true c11
   have yh:=decide_eq_true c11
   clear c11
   replace H:=iS H;obtain ⟨c12,H⟩:=H
   have V7:=k0 c12
   clear c12
   obtain ⟨sK,qV⟩:∃ y_:List ByteArray,y_=(aY ++ [a0.extract (gY:Int).toNat (cy:Int).toNat]):=⟨_,rfl⟩
   replace H:(iu.l0 k1 a0 a1 sK (wrap64 (cy+1)) (wrap64 (cy+1)))=some r:=rH qV H
   have aqj:=k0 qV
   clear qV
   have H':=k0 H
   clear H
   have p7:0≤(cy:Int):=oD
   have q7:cy < (a0.size:Int):=oD
   have SK:=aqo a0 cy
   replace p7:=eq_true p7
   replace q7:=eq_true q7
   go_wp2_with (first|((with_reducible refine kQ (b:=.append) (xs:=#[.tmp 20,.tmp 25]) rfl ?_);at_builtin;refine Kd.p9 Kd.string (w0:=w) w.heap.size rfl (.tmp 20) (.tmp 25) 171 9 (.string ⟨#[]⟩) 16 rfl Try.underlying171 SQ rfl (by decide) (by omega) u5 aY (a0.extract (gY:Int).toNat (cy:Int).toNat) [.string (a0.extract (gY:Int).toNat (cy:Int).toNat)] (fun _=>True) (fun _=>False) rfl rfl ?aP (fun _ hk=>hk.elim) ?aF ?aO ?aB ?aS ?aL ?_;(case aP=>exact rfl);(case aB=>exact bl);(case aF=>exact (fun _ _=>trivial));(case aO=>exact (aR aoX.z));(case aS=>exact (aoS bl));(case aL=>have:=V7.out;omega);intro v105 tK ho hb hg ao1;rw [← aqj.z] at ho;have aq:=k0 (hb);have au:=k0 (ho);clear HB;clear aoX;have HB:=aq;have gp:=au;clear aq au;clear ho hb hg ao1))
   go_roundg k1
   case measure=>have:=bx.z;omega
   case rel=>exact ⟨(sK),(wrap64 (cy+1)),(wrap64 (cy+1)),rs,rs,H',⟨by have:=bx.z;omega⟩,⟨aR (gp.z)⟩,⟨bl⟩⟩
/-! ### F249: function 249 -/
mutual
def fP.j0 : Nat → ByteArray → Bool → Option (Int)
 | 0,_,_=>none
 | k+1,x0,mV=>if mV=true then (some (-1)) else (fP.l0 k x0 0 0)
def fP.l0 : Nat → ByteArray → Int → Int → Option (Int)
 | 0,_,_,_=>none
 | k+1,x0,x3,x4=>if x4 < (x0.size:Int) then (if 0≤x4 then (if (bt x0 x4) < 48 then (some (-1)) else (if (bt x0 x4) > 57 then (some (-1)) else (fP.l0 k x0 (wrap64 ((wrap64 (x3 * 10))+(((bt x0 x4) - 48) % 256))) (wrap64 (x4+1))))) else (none)) else (some x3)
end
def fP.f (k:Nat) (a0:ByteArray):Option (Int):=if (a0.size:Int)=0 then (fP.j0 k a0 true) else (if (a0.size:Int) > 9 then (fP.j0 k a0 true) else (if (a0.size:Int) > 1 then (if 0 < (a0.size:Int) then (fP.j0 k a0 ((bt a0 0) == 48)) else (none)) else (fP.j0 k a0 false)))
theorem fP.uY : ∀ k, (∀ y0 y1, cz (fP.j0 k y0 y1) (fP.j0 (k + 1) y0 y1)) ∧ (∀ y0 y1 y2, cz (fP.l0 k y0 y1 y2) (fP.l0 (k + 1) y0 y1 y2))
 | 0=>⟨fun _ _ r h=>by simp [fP.j0] at h,fun _ _ _ r h=>by simp [fP.l0] at h⟩
 | k+1=>by
  obtain ⟨mC,ih1⟩:=fP.uY k
  refine ⟨?_, ?_⟩ <;> intros <;> (first | unfold fP.j0 | unfold fP.l0) <;> repeat' first
   | (with_reducible first|exact mC _ _|exact ih1 _ _ _|exact cz.refl _|exact cz.none _|refine cz.ite ?_ ?_|refine cz.bind ?_ (fun _=>?_))
   | exact mC _ _|exact ih1 _ _ _|exact cz.none _|refine cz.ite ?_ ?_|refine cz.bind ?_ (fun _=>?_)
theorem fP.mono:∀ a0 k,cz (fP.f k a0) (fP.f (k+1) a0):=by
 intro a0 k
 obtain ⟨mC,ih1⟩:=fP.uY k
 unfold fP.f
 repeat' first
  | (with_reducible first|exact mC _ _|exact ih1 _ _ _|exact cz.refl _|exact cz.none _|refine cz.ite ?_ ?_|refine cz.bind ?_ (fun _=>?_))
  | exact mC _ _|exact ih1 _ _ _|exact cz.none _|refine cz.ite ?_ ?_|refine cz.bind ?_ (fun _=>?_)
theorem fP.calls (k : Nat) (a0 : ByteArray) (r : Int) (w : World) (h : fP.f k a0 = some r) :
  Calls Try.prog 249 #[.string a0] w fun e w'=>e=.returned (.int .i64 r)∧iR w w':=by
 have H:(if (a0.size:Int)=0 then (fP.j0 k a0 true) else (if (a0.size:Int) > 9 then (fP.j0 k a0 true) else (if (a0.size:Int) > 1 then (if 0 < (a0.size:Int) then (fP.j0 k a0 ((bt a0 0) == 48)) else (none)) else (fP.j0 k a0 false))))=some r:=h
 clear h
 have wU:=k0 H
 clear H
 go_enter Try.func249,Try.ntmps249
 go_upto_region 1 with (fail)
 go_cut [22] (fun v22 wc=>∃ (kq:Nat) (Ir:Bool),v22=.bool Ir∧aj (fP.j0 kq a0 Ir=some r)∧aj (kq≤k)∧iR w wc)
 case first =>
  have H:=wU.z
  clear wU
  by_cases c3:(a0.size:Int)=0
  case neg =>
   rw [if_neg c3] at H
   have jd:((a0.size:Int) == 0)=false:=beq_eq_false_iff_ne.mpr c3
   have oc:((a0.size:Int) != 0)=true:=bne_iff_ne.mpr c3
   (first|rw [jd]|(simp only [cm,cO];rw [jd])|skip)
   by_cases c4:(a0.size:Int) > 9
   case neg =>
    rw [if_neg c4] at H
    have fX:decide (9 < (a0.size:Int))=false:=decide_eq_false c4
    have qa:decide (9 < a0.size)=false:=decide_eq_false (by omega)
    clear c4
    by_cases c5:(a0.size:Int) > 1
    case neg =>
     rw [if_neg c5] at H
     have jt:decide (1 < (a0.size:Int))=false:=decide_eq_false c5
     have ym:decide (1 < a0.size)=false:=decide_eq_false (by omega)
     clear c5
     have H':=k0 H
     clear H
     go_wp2
     go_meet
     case rel=>exact ⟨_,(false),rs,H',⟨by first|omega|exact Nat.le_refl _⟩,dW⟩
    rw [if_pos c5] at H
    have jt:=decide_eq_true c5
    have ym:decide (1 < a0.size)=true:=decide_eq_true (by omega)
    clear c5
    replace H:=iS H;obtain ⟨c6,H⟩:=H
    have kG:=decide_eq_true c6
    have apZ:decide (0 < a0.size)=true:=decide_eq_true (by omega)
    clear c6
    have H':=k0 H
    clear H
    have p7:0≤(0:Int):=(by omega)
    have q7:0 < a0.size:=(by have:(0:Int) < (a0.size:Int):=oD;omega)
    have SK:∀ h:0 < a0.size,((a0[0]'h).toNat:Int)=bt a0 0:=aqo a0 0
    clear p7
    have qi7:(0 < (a0.size:Int))=True:=eq_true oD
    replace q7:=eq_true q7
    go_wp2
    go_meet
    case rel=>exact ⟨_,(((bt a0 0) == 48)),rs,H',⟨by first|omega|exact Nat.le_refl _⟩,dW⟩
   rw [if_pos c4] at H
   have fX:=decide_eq_true c4
   have qa:decide (9 < a0.size)=true:=decide_eq_true (by omega)
   clear c4
   have H':=k0 H
   clear H
   go_wp2
   go_meet
   case rel=>exact ⟨_,(true),rs,H',⟨by first|omega|exact Nat.le_refl _⟩,dW⟩
  rw [if_pos c3] at H
  have jd:((a0.size:Int) == 0)=true:=beq_iff_eq.mpr c3
  have oc:((a0.size:Int) != 0)=false:=bne_eq_false_iff_eq.mpr c3
  clear c3
  (first|rw [jd]|(simp only [cm,cO];rw [jd])|skip)
  have H':=k0 H
  clear H
  go_wp2
  go_meet
  case rel=>exact ⟨_,(true),rs,H',⟨by first|omega|exact Nat.le_refl _⟩,dW⟩
 case rest =>
  clear wU
  obtain ⟨kq,Ir,rfl,HA,Dg,⟨mc1,rfl⟩⟩:=hcut
  cases kq with
  | zero=>exact absurd HA.z (by simp [fP.j0])
  | succ AD =>
   have H:=HA.z
   clear HA
   simp only [fP.j0] at H
   by_cases c8:Ir=true
   case neg =>
    replace c8:=Bool.eq_false_iff.mpr c8
    subst c8
    have H1:(fP.l0 AD a0 0 0)=some r:=by rw [if_neg (show ¬ (false=true) by decide)] at H;exact H
    clear H
    have H:=H1
    clear H1
    have H':=k0 H
    clear H
    go_wp2
    go_loopg [3,4] AD (fun kq v3 v4 w'=>∃ (bS:Int) (eY:Int),v3=.int .i64 bS∧v4=.int .i64 eY∧aj (fP.l0 kq a0 bS eY=some r)∧aj (kq≤AD)∧iR w w')
    case atStart=>exact ⟨(0),(0),rs,rs,H',⟨Nat.le_refl _⟩,dW⟩
    case round =>
     clear H'
     obtain ⟨bS,eY,rfl,rfl,HA,cD,⟨m2,rfl⟩⟩:=hrel
     cases gk with
     | zero=>exact absurd HA.z (by simp [fP.l0])
     | succ k2 =>
      have H:=HA.z
      clear HA
      simp only [fP.l0] at H
      by_cases c9:eY < (a0.size:Int)
      case neg =>
       rw [if_neg c9] at H
       have ap8:decide (eY < (a0.size:Int))=false:=decide_eq_false c9
       clear c9
       obtain rfl:=Option.some.inj H
       go_wp2
       go_ret
       exact ⟨rs,dW⟩
      rw [if_pos c9] at H
      have ap8:=decide_eq_true c9
      clear c9
      replace H:=iS H;obtain ⟨c10,H⟩:=H
      have qI:=decide_eq_true c10
      clear c10
      by_cases c12:(bt a0 eY) < 48
      case neg =>
       rw [if_neg c12] at H
       have qJ:decide ((bt a0 eY) < 48)=false:=decide_eq_false c12
       clear c12
       by_cases c14:(bt a0 eY) > 57
       case neg =>
        rw [if_neg c14] at H
        have pJ:decide (57 < (bt a0 eY))=false:=decide_eq_false c14
        clear c14
        have H':=k0 H
        clear H
        have yT:0≤(eY:Int):=oD
        have yV:eY < (a0.size:Int):=oD
        have SB:=aqo a0 eY
        replace yT:=eq_true yT
        replace yV:=eq_true yV
        have Fa:0≤(eY:Int):=oD
        have Fc:eY < (a0.size:Int):=oD
        have ac1:=aqo a0 eY
        replace Fa:=eq_true Fa
        replace Fc:=eq_true Fc
        have Tx:0≤(eY:Int):=oD
        have TD:eY < (a0.size:Int):=oD
        have an2:=aqo a0 eY
        replace Tx:=eq_true Tx
        replace TD:=eq_true TD
        go_wp2
        go_roundg k2
        case measure=>have:=Dg.out;have:=cD.z;omega
        case rel=>exact ⟨(wrap64 ((wrap64 (bS * 10))+(((bt a0 eY) - 48) % 256))),(wrap64 (eY+1)),rs,rs,H',⟨by have:=Dg.out;have:=cD.z;omega⟩,dW⟩
       rw [if_pos c14] at H
       have pJ:=decide_eq_true c14
       clear c14
       obtain rfl:=Option.some.inj H
       have yT:0≤(eY:Int):=oD
       have yV:eY < (a0.size:Int):=oD
       have SB:=aqo a0 eY
       replace yT:=eq_true yT
       replace yV:=eq_true yV
       have Fa:0≤(eY:Int):=oD
       have Fc:eY < (a0.size:Int):=oD
       have ac1:=aqo a0 eY
       replace Fa:=eq_true Fa
       replace Fc:=eq_true Fc
       go_wp2
       go_ret
       exact ⟨rs,dW⟩
      rw [if_pos c12] at H
      have qJ:=decide_eq_true c12
      clear c12
      obtain rfl:=Option.some.inj H
      have yT:0≤(eY:Int):=oD
      have yV:eY < (a0.size:Int):=oD
      have SB:=aqo a0 eY
      replace yT:=eq_true yT
      replace yV:=eq_true yV
      go_wp2
      go_ret
      exact ⟨rs,dW⟩
   subst c8
   have H1:(some (-1))=some r:=by rw [if_pos rfl] at H;exact H
   clear H
   have H:=H1
   clear H1
   obtain rfl:=Option.some.inj H
   go_wp2
   go_ret
   exact ⟨rs,dW⟩
end Go.Proofs.Ytoebojnhchocaaa.E
/- Set with little white space, by a program. -/
