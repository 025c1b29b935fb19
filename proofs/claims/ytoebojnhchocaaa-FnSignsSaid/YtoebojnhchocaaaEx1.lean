/- The functions that one law reaches, each as a Lean function, and that Go's call comes to what it says. Condition of each: that the Lean function answers (is not none). -/
import Derived.Test.YtoebojnhchocaaaEx0
namespace Go.Proofs.Ytoebojnhchocaaa.E
open Go.RowKit Go.Proofs.bY.apf Go.Proofs.bY.ko Go.Proofs.bY.kN
attribute [local go_sem] max2_int min2_int max_two min_two max_three min_three max_four min_four   -- for this text's walks alone
set_option linter.unusedVariables false
set_option linter.unusedSimpArgs false
set_option maxHeartbeats 8000000
set_option maxRecDepth 100000
/-! ### F194: function 194 -/
def ir.f (a0:Int) (a1:Int) (a2:Int):Option (Bool):=if a0 ≥ a1 then (some (decide (a0≤a2))) else (some false)
theorem ir.calls (a0 : Int) (a1 : Int) (a2 : Int) (r : Bool) (w : World) (h : ir.f a0 a1 a2 = some r) :
  Calls Try.prog 194 #[.int .i64 a0,.int .i64 a1,.int .i64 a2] w fun e w'=>e=.returned (.bool r)∧iR w w':=by
 have H:(if a0 ≥ a1 then (some (decide (a0≤a2))) else (some false))=some r:=h
 clear h
 by_cases c4:a0 ≥ a1
 case neg =>
  rw [if_neg c4] at H
  have fX:decide (a1≤a0)=false:=decide_eq_false c4
  clear c4
  obtain rfl:=Option.some.inj H
  go_enter Try.func194,Try.ntmps194
  go_wp2
  go_ret
  exact ⟨rs,dW⟩
 rw [if_pos c4] at H
 have fX:=decide_eq_true c4
 clear c4
 obtain rfl:=Option.some.inj H
 go_enter Try.func194,Try.ntmps194
 go_wp2
 go_ret
 exact ⟨rs,dW⟩
/-! ### F106: function 106 -/
def jG.l0 : Nat → List (List Int) → Int → Int → Int → List (List Int) → Option (Bool)
 | 0,_,_,_,_,_=>none
 | k+1,x6,x7,x8,fG,eH=>if x8 < x7 then (if 0≤x8 then (if x8 < (x6.length:Int) then (if ((av x6 x8).length:Int)=2 then (if 0 < ((av x6 x8).length:Int) then ((ir.f (rd (av x6 x8) 0) 0 (wrap64 (fG - 1))).bind fun t105=>(if t105=true then (if 1 < ((av x6 x8).length:Int) then ((ir.f (rd (av x6 x8) 1) 0 (wrap64 (fG - 1))).bind fun t107=>(if t107=true then (jG.l0 k x6 x7 (wrap64 (x8+1)) fG eH) else (some false))) else (none)) else (some false))) else (none)) else (some false)) else (none)) else (none)) else ((ir.f fG 1 8).bind fun t102=>(if t102=true then (some (decide ((eH.length:Int)≤10))) else (some false)))
def jG.f (k:Nat) (ah:Int) (af:List (List Int)):Option (Bool):=jG.l0 k af (af.length:Int) 0 ah af
theorem jG.calls (k : Nat) (ah : Int) (aT : Option Addr) (aoW : Nat) (af : List (List Int)) (r : Bool) (w : World) (cR : Kd.C (Kd.slice 2 (Kd.int .i64)) w aT af.length af) (cX : af.length ≤ aoW) (h : jG.f k ah af = some r) :
  Calls Try.prog 106 #[.agg #[.int .i64 ah,.slice aT af.length aoW]] w fun e w'=>e=.returned (.bool r)∧Below w.heap.size w w':=by
 have iX:=Try.underlying31
 have ao6:=k0 cR
 have cV:=k0 cX
 clear cR cX
 have HB:=k0 (Below.refl w.heap.size w)
 have H:(jG.l0 k af (af.length:Int) 0 ah af)=some r:=h
 clear h
 have H':=k0 H
 clear H
 go_enter Try.func106,Try.ntmps106
 go_wp2_with (first|((with_reducible refine bp (N:=1) rfl ?_);(try (refine jC (by rfl) ?_;dsimp only));refine bR 1 #[.int .i64 ah,.slice aT af.length aoW] 31 ?_;intro aoV hg w2 aE hb;have aa:=k0 (aE);have bB:=gW hg (aoS bl);have aX:=bB;replace HB:=k0 (aH bl hb);clear hb aE hg;have KV:=aQ aa;have KW:=aoT aa;have Lg:=bF aa 0;have Lh:=bF aa 1))
 repeat (go_quiet (first|((with_reducible refine bp (N:=1) rfl ?_);(try (refine jC (by rfl) ?_;dsimp only));refine bR 1 #[.int .i64 ah,.slice aT af.length aoW] 31 ?_;intro aoV hg w2 aE hb;have aa:=k0 (aE);have bB:=gW hg (aoS bl);have aX:=bB;replace HB:=k0 (aH bl hb);clear hb aE hg;have KV:=aQ aa;have KW:=aoT aa;have Lg:=bF aa 0;have Lh:=bF aa 1));try go_wp2_with (first|((with_reducible refine bp (N:=1) rfl ?_);(try (refine jC (by rfl) ?_;dsimp only));refine bR 1 #[.int .i64 ah,.slice aT af.length aoW] 31 ?_;intro aoV hg w2 aE hb;have aa:=k0 (aE);have bB:=gW hg (aoS bl);have aX:=bB;replace HB:=k0 (aH bl hb);clear hb aE hg;have KV:=aQ aa;have KW:=aoT aa;have Lg:=bF aa 0;have Lh:=bF aa 1)))
 go_loopg [8] k (fun kq v8 w'=>∃ (bw:Int),v8=.int .i64 bw∧aj (jG.l0 kq af (af.length:Int) bw ah af=some r)∧aj (kq≤k)∧aj (w'.heap[aoV]?=some (sO ah aT af aoW 31))∧aj (Below w.heap.size w w'))
 case atStart=>exact ⟨(0),rs,H',⟨Nat.le_refl _⟩,⟨bk⟩,⟨bl⟩⟩
 case round =>
  clear H'
  obtain ⟨bw,rfl,HA,bx,aa,HB⟩:=hrel
  cases gk with
  | zero=>exact absurd HA.z (by simp [jG.l0])
  | succ k1 =>
   have H:=HA.z
   clear HA
   simp only [jG.l0] at H
   by_cases c4:bw < (af.length:Int)
   case neg =>
    rw [if_neg c4] at H
    have fX:decide (bw < (af.length:Int))=false:=decide_eq_false c4
    clear c4
    replace H:=Option.bind_eq_some_iff.mp H
    obtain ⟨t102,CY,H⟩:=H
    replace H:(if t102=true then (some (decide ((af.length:Int)≤10))) else (some false))=some r:=H
    have xT:=k0 CY
    clear CY
    by_cases c18:t102=true
    case neg =>
     replace c18:=Bool.eq_false_iff.mpr c18
     subst c18
     have H1:(some false)=some r:=by rw [if_neg (show ¬ (false=true) by decide)] at H;exact H
     clear H
     have H:=H1
     clear H1
     obtain rfl:=Option.some.inj H
     have GA:=aQ aa
     have GB:=aoT aa
     have GM:=bF aa 0
     have GN:=bF aa 1
     go_wp2_with (first|(go_at_call 194;(with_reducible refine (ir.calls ah 1 8 false _ xT.z).mono ?_);rintro e w' ⟨rfl,⟨nd,rfl⟩⟩;(try exact dN)))
     repeat (go_quiet (first|(go_at_call 194;(with_reducible refine (ir.calls ah 1 8 false _ xT.z).mono ?_);rintro e w' ⟨rfl,⟨nd,rfl⟩⟩;(try exact dN)));try go_wp2_with (first|(go_at_call 194;(with_reducible refine (ir.calls ah 1 8 false _ xT.z).mono ?_);rintro e w' ⟨rfl,⟨nd,rfl⟩⟩;(try exact dN))))
     go_ret
     exact ⟨eR,bl⟩
    subst c18
    have H1:(some (decide ((af.length:Int)≤10)))=some r:=by rw [if_pos rfl] at H;exact H
    clear H
    have H:=H1
    clear H1
    obtain rfl:=Option.some.inj H
    have BV:=aQ aa
    have BW:=aoT aa
    have aqQ:=bF aa 0
    have B6:=bF aa 1
    go_wp2_with (first|(go_at_call 194;(with_reducible refine (ir.calls ah 1 8 true _ xT.z).mono ?_);rintro e w' ⟨rfl,⟨nd,rfl⟩⟩;(try exact dN)))
    repeat (go_quiet (first|(go_at_call 194;(with_reducible refine (ir.calls ah 1 8 true _ xT.z).mono ?_);rintro e w' ⟨rfl,⟨nd,rfl⟩⟩;(try exact dN)));try go_wp2_with (first|(go_at_call 194;(with_reducible refine (ir.calls ah 1 8 true _ xT.z).mono ?_);rintro e w' ⟨rfl,⟨nd,rfl⟩⟩;(try exact dN))))
    go_ret
    exact ⟨eR,bl⟩
   rw [if_pos c4] at H
   have fX:=decide_eq_true c4
   clear c4
   replace H:=iS H;obtain ⟨c5,H⟩:=H
   have jt:=decide_eq_true c5
   clear c5
   replace H:=iS H;obtain ⟨c6,H⟩:=H
   have kG:=decide_eq_true c6
   clear c6
   by_cases c7:((av af bw).length:Int)=2
   case neg =>
    rw [if_neg c7] at H
    have oO:(((av af bw).length:Int) == 2)=false:=beq_eq_false_iff_ne.mpr c7
    have uv:(((av af bw).length:Int) != 2)=true:=bne_iff_ne.mpr c7
    obtain rfl:=Option.some.inj H
    have eU:0≤(bw:Int):=oD
    have eV:bw < (af.length:Int):=oD
    obtain ⟨lJ,ze,zO,e103,fF,mz,mq⟩:=fW ao6.z bw eU eV
    cases e103
    replace fF:=hbc HB fF
    have sW:=k0 mq
    have zl:=k0 mz
    clear mq mz
    replace eU:=eq_true eU
    replace eV:=eq_true eV
    go_wp2
    repeat (go_quiet (fail);try go_wp2)
    go_ret
    exact ⟨eR,bl⟩
   rw [if_pos c7] at H
   have oO:(((av af bw).length:Int) == 2)=true:=beq_iff_eq.mpr c7
   have uv:(((av af bw).length:Int) != 2)=false:=bne_eq_false_iff_eq.mpr c7
   clear c7
   replace H:=iS H;obtain ⟨c8,H⟩:=H
   have kH:=decide_eq_true c8
   have qL:decide (0 < (av af bw).length)=true:=decide_eq_true (by omega)
   clear c8
   replace H:=Option.bind_eq_some_iff.mp H
   obtain ⟨t105,C5,H⟩:=H
   replace H:(if t105=true then (if 1 < ((av af bw).length:Int) then ((ir.f (rd (av af bw) 1) 0 (wrap64 (ah - 1))).bind fun t107=>(if t107=true then (jG.l0 k1 af (af.length:Int) (wrap64 (bw+1)) ah af) else (some false))) else (none)) else (some false))=some r:=H
   have A9:=k0 C5
   clear C5
   by_cases c10:t105=true
   case neg =>
    replace c10:=Bool.eq_false_iff.mpr c10
    subst c10
    have H1:(some false)=some r:=by rw [if_neg (show ¬ (false=true) by decide)] at H;exact H
    clear H
    have H:=H1
    clear H1
    obtain rfl:=Option.some.inj H
    have eU:0≤(bw:Int):=oD
    have eV:bw < (af.length:Int):=oD
    obtain ⟨lJ,ze,zO,e103,fF,mz,mq⟩:=fW ao6.z bw eU eV
    cases e103
    replace fF:=hbc HB fF
    have sW:=k0 mq
    have zl:=k0 mz
    clear mq mz
    replace eU:=eq_true eU
    replace eV:=eq_true eV
    have dR:0≤(0:Int):=(by omega)
    have dS:0 < ((av af bw).length:Int):=oD
    obtain ⟨jY,e104,dY⟩:=Kd.cN sW.z 0 dR dS
    cases e104
    have Fe:(0 < (av af bw).length)=True:=eq_true (by omega)
    (try rw [show ((0:Int)).toNat=0 from rfl] at dY)
    (try rw [Addr.add_zero'] at dY)
    replace dY:=hbc HB dY
    replace dR:=eq_true dR
    replace dS:=eq_true dS
    have BS:=aQ aa
    have BU:=aoT aa
    have B3:=bF aa 0
    have aqP:=bF aa 1
    go_wp2_with (first|(go_at_call 194;(with_reducible refine (ir.calls (rd (av af bw) 0) 0 (wrap64 (ah - 1)) false _ A9.z).mono ?_);rintro e w' ⟨rfl,⟨nd,rfl⟩⟩;(try exact dN)))
    repeat (go_quiet (first|(go_at_call 194;(with_reducible refine (ir.calls (rd (av af bw) 0) 0 (wrap64 (ah - 1)) false _ A9.z).mono ?_);rintro e w' ⟨rfl,⟨nd,rfl⟩⟩;(try exact dN)));try go_wp2_with (first|(go_at_call 194;(with_reducible refine (ir.calls (rd (av af bw) 0) 0 (wrap64 (ah - 1)) false _ A9.z).mono ?_);rintro e w' ⟨rfl,⟨nd,rfl⟩⟩;(try exact dN))))
    go_ret
    exact ⟨eR,bl⟩
   subst c10
   have H1:(if 1 < ((av af bw).length:Int) then ((ir.f (rd (av af bw) 1) 0 (wrap64 (ah - 1))).bind fun t107=>(if t107=true then (jG.l0 k1 af (af.length:Int) (wrap64 (bw+1)) ah af) else (some false))) else (none))=some r:=by rw [if_pos rfl] at H;exact H
   clear H
   have H:=H1
   clear H1
   replace H:=iS H;obtain ⟨c11,H⟩:=H
   have ku:=decide_eq_true c11
   have yh:decide (1 < (av af bw).length)=true:=decide_eq_true (by omega)
   clear c11
   replace H:=Option.bind_eq_some_iff.mp H
   obtain ⟨t107,xQ,H⟩:=H
   replace H:(if t107=true then (jG.l0 k1 af (af.length:Int) (wrap64 (bw+1)) ah af) else (some false))=some r:=H
   have vB:=k0 xQ
   clear xQ
   by_cases c13:t107=true
   case neg =>
    replace c13:=Bool.eq_false_iff.mpr c13
    subst c13
    have H1:(some false)=some r:=by rw [if_neg (show ¬ (false=true) by decide)] at H;exact H
    clear H
    have H:=H1
    clear H1
    obtain rfl:=Option.some.inj H
    have eU:0≤(bw:Int):=oD
    have eV:bw < (af.length:Int):=oD
    obtain ⟨lJ,ze,zO,e103,fF,mz,mq⟩:=fW ao6.z bw eU eV
    cases e103
    replace fF:=hbc HB fF
    have sW:=k0 mq
    have zl:=k0 mz
    clear mq mz
    replace eU:=eq_true eU
    replace eV:=eq_true eV
    have dR:0≤(0:Int):=(by omega)
    have dS:0 < ((av af bw).length:Int):=oD
    obtain ⟨jY,e104,dY⟩:=Kd.cN sW.z 0 dR dS
    cases e104
    have Fe:(0 < (av af bw).length)=True:=eq_true (by omega)
    (try rw [show ((0:Int)).toNat=0 from rfl] at dY)
    (try rw [Addr.add_zero'] at dY)
    replace dY:=hbc HB dY
    replace dR:=eq_true dR
    replace dS:=eq_true dS
    have aaB:=aQ aa
    have aih:=aoT aa
    have abm:=bF aa 0
    have akr:=bF aa 1
    have apk:0≤(1:Int):=(by omega)
    have gL:1 < ((av af bw).length:Int):=oD
    obtain ⟨pH,e106,gV⟩:=Kd.cN sW.z 1 apk gL
    obtain rfl:jY=pH:=(by injection e106)
    (try simp only [show (1:Int).toNat=1 from rfl,Nat.reduceMul,Nat.reduceEqDiff,Go.Addr.add,↓reduceIte] at gV)
    have Ff:(1 < (av af bw).length)=True:=eq_true (by omega)
    (try rw [show ((1:Int)).toNat=1 from rfl] at gV)
    replace gV:=hbc HB gV
    replace apk:=eq_true apk
    replace gL:=eq_true gL
    go_wp2_with (first|(go_at_call 194;(with_reducible refine (ir.calls (rd (av af bw) 0) 0 (wrap64 (ah - 1)) true _ A9.z).mono ?_);rintro e w' ⟨rfl,⟨nd,rfl⟩⟩;(try exact dN))|(go_at_call 194;(with_reducible refine (ir.calls (rd (av af bw) 1) 0 (wrap64 (ah - 1)) false _ vB.z).mono ?_);rintro e w' ⟨rfl,⟨nd,rfl⟩⟩;(try exact dN)))
    repeat (go_quiet (first|(go_at_call 194;(with_reducible refine (ir.calls (rd (av af bw) 0) 0 (wrap64 (ah - 1)) true _ A9.z).mono ?_);rintro e w' ⟨rfl,⟨nd,rfl⟩⟩;(try exact dN))|(go_at_call 194;(with_reducible refine (ir.calls (rd (av af bw) 1) 0 (wrap64 (ah - 1)) false _ vB.z).mono ?_);rintro e w' ⟨rfl,⟨nd,rfl⟩⟩;(try exact dN)));try go_wp2_with (first|(go_at_call 194;(with_reducible refine (ir.calls (rd (av af bw) 0) 0 (wrap64 (ah - 1)) true _ A9.z).mono ?_);rintro e w' ⟨rfl,⟨nd,rfl⟩⟩;(try exact dN))|(go_at_call 194;(with_reducible refine (ir.calls (rd (av af bw) 1) 0 (wrap64 (ah - 1)) false _ vB.z).mono ?_);rintro e w' ⟨rfl,⟨nd,rfl⟩⟩;(try exact dN))))
    go_ret
    exact ⟨eR,bl⟩
   subst c13
   have H1:(jG.l0 k1 af (af.length:Int) (wrap64 (bw+1)) ah af)=some r:=by rw [if_pos rfl] at H;exact H
   clear H
   have H:=H1
   clear H1
   have H':=k0 H
   clear H
   have eU:0≤(bw:Int):=oD
   have eV:bw < (af.length:Int):=oD
   obtain ⟨lJ,ze,zO,e103,fF,mz,mq⟩:=fW ao6.z bw eU eV
   cases e103
   replace fF:=hbc HB fF
   have sW:=k0 mq
   have zl:=k0 mz
   clear mq mz
   replace eU:=eq_true eU
   replace eV:=eq_true eV
   have dR:0≤(0:Int):=(by omega)
   have dS:0 < ((av af bw).length:Int):=oD
   obtain ⟨jY,e104,dY⟩:=Kd.cN sW.z 0 dR dS
   cases e104
   have Fe:(0 < (av af bw).length)=True:=eq_true (by omega)
   (try rw [show ((0:Int)).toNat=0 from rfl] at dY)
   (try rw [Addr.add_zero'] at dY)
   replace dY:=hbc HB dY
   replace dR:=eq_true dR
   replace dS:=eq_true dS
   have yB:=aQ aa
   have yC:=aoT aa
   have yE:=bF aa 0
   have yF:=bF aa 1
   have apk:0≤(1:Int):=(by omega)
   have gL:1 < ((av af bw).length:Int):=oD
   obtain ⟨pH,e106,gV⟩:=Kd.cN sW.z 1 apk gL
   obtain rfl:jY=pH:=(by injection e106)
   (try simp only [show (1:Int).toNat=1 from rfl,Nat.reduceMul,Nat.reduceEqDiff,Go.Addr.add,↓reduceIte] at gV)
   have Ff:(1 < (av af bw).length)=True:=eq_true (by omega)
   (try rw [show ((1:Int)).toNat=1 from rfl] at gV)
   replace gV:=hbc HB gV
   replace apk:=eq_true apk
   replace gL:=eq_true gL
   go_wp2_with (first|(go_at_call 194;(with_reducible refine (ir.calls (rd (av af bw) 0) 0 (wrap64 (ah - 1)) true _ A9.z).mono ?_);rintro e w' ⟨rfl,⟨nd,rfl⟩⟩;(try exact dN))|(go_at_call 194;(with_reducible refine (ir.calls (rd (av af bw) 1) 0 (wrap64 (ah - 1)) true _ vB.z).mono ?_);rintro e w' ⟨rfl,⟨nd,rfl⟩⟩;(try exact dN)))
   repeat (go_quiet (first|(go_at_call 194;(with_reducible refine (ir.calls (rd (av af bw) 0) 0 (wrap64 (ah - 1)) true _ A9.z).mono ?_);rintro e w' ⟨rfl,⟨nd,rfl⟩⟩;(try exact dN))|(go_at_call 194;(with_reducible refine (ir.calls (rd (av af bw) 1) 0 (wrap64 (ah - 1)) true _ vB.z).mono ?_);rintro e w' ⟨rfl,⟨nd,rfl⟩⟩;(try exact dN)));try go_wp2_with (first|(go_at_call 194;(with_reducible refine (ir.calls (rd (av af bw) 0) 0 (wrap64 (ah - 1)) true _ A9.z).mono ?_);rintro e w' ⟨rfl,⟨nd,rfl⟩⟩;(try exact dN))|(go_at_call 194;(with_reducible refine (ir.calls (rd (av af bw) 1) 0 (wrap64 (ah - 1)) true _ vB.z).mono ?_);rintro e w' ⟨rfl,⟨nd,rfl⟩⟩;(try exact dN))))
   go_roundg k1
   case measure=>have:=bx.z;omega
   case rel=>exact ⟨(wrap64 (bw+1)),rs,H',⟨by have:=bx.z;omega⟩,⟨bk⟩,⟨bl⟩⟩
/-! ### F163: function 163 -/
def jU.f (ah:Int) (af:List (List Int)):Option (Int):=some (af.length:Int)
theorem jU.calls (ah : Int) (aT : Option Addr) (aoW : Nat) (af : List (List Int)) (r : Int) (w : World) (cR : Kd.C (Kd.slice 2 (Kd.int .i64)) w aT af.length af) (cX : af.length ≤ aoW) (h : jU.f ah af = some r) :
  Calls Try.prog 163 #[.agg #[.int .i64 ah,.slice aT af.length aoW]] w fun e w'=>e=.returned (.int .i64 r)∧Below w.heap.size w w':=by
 have iX:=Try.underlying31
 have ao6:=k0 cR
 have cV:=k0 cX
 clear cR cX
 have HB:=k0 (Below.refl w.heap.size w)
 have H:(some (af.length:Int))=some r:=h
 clear h
 obtain rfl:=Option.some.inj H
 go_enter Try.func163,Try.ntmps163
 go_wp2_with (first|((with_reducible refine bp (N:=1) rfl ?_);refine bR 1 #[.int .i64 ah,.slice aT af.length aoW] 31 ?_;intro aoV hg w2 aE hb;have aa:=k0 (aE);have bB:=gW hg (aoS bl);have aX:=bB;replace HB:=k0 (aH bl hb);clear hb aE hg;have KV:=aQ aa;have KW:=aoT aa;have Lg:=bF aa 0;have Lh:=bF aa 1))
 go_ret
 exact ⟨eR,bl⟩
-- NOT PRINTED: function 220 (slices_IndexFunc_int64_int64)
-- NOT PRINTED: function 180 (slices_ContainsFunc_int64_int64)
/-! ### F200: function 200 -/
def pY.l0 : Nat → List Int → Int → Int → Int → Option (Int)
 | 0,_,_,_,_=>none
 | k+1,x0,x1,x7,x8=>if x8 < x7 then (if 0≤x8 then (if x8 < (x0.length:Int) then (if x1=(rd x0 x8) then (some x8) else (pY.l0 k x0 x1 x7 (wrap64 (x8+1)))) else (none)) else (none)) else (some (-1))
def pY.f (k:Nat) (l0:List Int) (a1:Int):Option (Int):=pY.l0 k l0 a1 (l0.length:Int) 0
theorem pY.calls (k : Nat) (A0 : Option Addr) (c0 : Nat) (l0 : List Int) (a1 : Int) (r : Int) (w : World) (cY : Kd.C (Kd.int .i64) w A0 l0.length l0) (hc0 : l0.length ≤ c0) (h : pY.f k l0 a1 = some r) :
  Calls Try.prog 200 #[.slice A0 l0.length c0,.int .i64 a1] w fun e w'=>e=.returned (.int .i64 r)∧iR w w':=by
 have ek:=k0 cY
 have jx:=k0 hc0
 clear cY hc0
 have H:(pY.l0 k l0 a1 (l0.length:Int) 0)=some r:=h
 clear h
 have H':=k0 H
 clear H
 go_enter Try.func200,Try.ntmps200
 go_wp2
 go_loopg [8] k (fun kq v8 w'=>∃ (bw:Int),v8=.int .i64 bw∧aj (pY.l0 kq l0 a1 (l0.length:Int) bw=some r)∧aj (kq≤k)∧iR w w')
 case atStart=>exact ⟨(0),rs,H',⟨Nat.le_refl _⟩,dW⟩
 case round =>
  clear H'
  obtain ⟨bw,rfl,HA,bx,⟨m1,rfl⟩⟩:=hrel
  cases gk with
  | zero=>exact absurd HA.z (by simp [pY.l0])
  | succ k1 =>
   have H:=HA.z
   clear HA
   simp only [pY.l0] at H
   by_cases c3:bw < (l0.length:Int)
   case neg =>
    rw [if_neg c3] at H
    have jd:decide (bw < (l0.length:Int))=false:=decide_eq_false c3
    clear c3
    obtain rfl:=Option.some.inj H
    go_wp2
    go_ret
    exact ⟨rs,dW⟩
   rw [if_pos c3] at H
   have jd:=decide_eq_true c3
   clear c3
   replace H:=iS H;obtain ⟨c4,H⟩:=H
   have fX:=decide_eq_true c4
   clear c4
   replace H:=iS H;obtain ⟨c5,H⟩:=H
   have jt:=decide_eq_true c5
   clear c5
   by_cases c6:a1=(rd l0 bw)
   case neg =>
    rw [if_neg c6] at H
    have kG:(a1 == (rd l0 bw))=false:=beq_eq_false_iff_ne.mpr c6
    have apZ:(a1 != (rd l0 bw))=true:=bne_iff_ne.mpr c6
    have H':=k0 H
    clear H
    have apa:0≤(bw:Int):=oD
    have apb:bw < (l0.length:Int):=oD
    obtain ⟨mj,e101,lp⟩:=Kd.cN ek.z bw apa apb
    cases e101
    replace apa:=eq_true apa
    replace apb:=eq_true apb
    go_wp2
    go_roundg k1
    case measure=>have:=bx.z;omega
    case rel=>exact ⟨(wrap64 (bw+1)),rs,H',⟨by have:=bx.z;omega⟩,dW⟩
   rw [if_pos c6] at H
   have kG:(a1 == (rd l0 bw))=true:=beq_iff_eq.mpr c6
   have apZ:(a1 != (rd l0 bw))=false:=bne_eq_false_iff_eq.mpr c6
   clear c6
   obtain rfl:=Option.some.inj H
   have apa:0≤(bw:Int):=oD
   have apb:bw < (l0.length:Int):=oD
   obtain ⟨mj,e101,lp⟩:=Kd.cN ek.z bw apa apb
   cases e101
   replace apa:=eq_true apa
   replace apb:=eq_true apb
   go_wp2
   go_ret
   exact ⟨rs,dW⟩
/-! ### F118: function 118 -/
def zi.f (k:Nat) (l0:List Int) (a1:Int):Option (Bool):=(pY.f k l0 a1).bind fun t101=>(some (decide (t101 ≥ 0)))
theorem zi.calls (k : Nat) (A0 : Option Addr) (c0 : Nat) (l0 : List Int) (a1 : Int) (r : Bool) (w : World) (cY : Kd.C (Kd.int .i64) w A0 l0.length l0) (hc0 : l0.length ≤ c0) (h : zi.f k l0 a1 = some r) :
  Calls Try.prog 118 #[.slice A0 l0.length c0,.int .i64 a1] w fun e w'=>e=.returned (.bool r)∧iR w w':=by
 have ek:=k0 cY
 have jx:=k0 hc0
 clear cY hc0
 have H:((pY.f k l0 a1).bind fun t101=>(some (decide (t101 ≥ 0))))=some r:=h
 clear h
 replace H:=Option.bind_eq_some_iff.mp H
 obtain ⟨t101,fJ,H⟩:=H
 replace H:(some (decide (t101 ≥ 0)))=some r:=H
 have A3:=k0 fJ
 clear fJ
 obtain rfl:=Option.some.inj H
 go_enter Try.func118,Try.ntmps118
 go_wp2_with (first|((with_reducible refine bg (f:=200) rfl ?_);refine gC (some 7) Try.func200 #[.slice A0 l0.length c0,.int .i64 a1] ?_;(with_reducible refine (pY.calls k _ _ l0 a1 t101 _ ?aoN ?aoP A3.z).mono ?_);(case aoN=>exact aC ek.z);(case aoP=>exact jx.z);rintro e w' ⟨rfl,⟨nd,rfl⟩⟩;refine ⟨_,rfl,?_⟩))
 go_ret
 exact ⟨rs,dW⟩
/-! ### F127: function 127 -/
def nF.l0 : Nat → List Int → Int → Int → Int → Option (Bool)
 | 0,_,_,_,_=>none
 | k+1,x0,x1,x6,x7=>if x7 < x6 then ((zi.f k x0 x7).bind fun t101=>(if t101=true then (nF.l0 k x0 x1 x6 (wrap64 (x7+1))) else (some false))) else (some ((x0.length:Int) == x1))
def nF.f (k:Nat) (l0:List Int) (a1:Int):Option (Bool):=nF.l0 k l0 a1 a1 0
theorem nF.calls (k : Nat) (A0 : Option Addr) (c0 : Nat) (l0 : List Int) (a1 : Int) (r : Bool) (w : World) (cY : Kd.C (Kd.int .i64) w A0 l0.length l0) (hc0 : l0.length ≤ c0) (h : nF.f k l0 a1 = some r) :
  Calls Try.prog 127 #[.slice A0 l0.length c0,.int .i64 a1] w fun e w'=>e=.returned (.bool r)∧iR w w':=by
 have ek:=k0 cY
 have jx:=k0 hc0
 clear cY hc0
 have H:(nF.l0 k l0 a1 a1 0)=some r:=h
 clear h
 have H':=k0 H
 clear H
 go_enter Try.func127,Try.ntmps127
 go_wp2
 go_loopg [7] k (fun kq v7 w'=>∃ (cy:Int),v7=.int .i64 cy∧aj (nF.l0 kq l0 a1 a1 cy=some r)∧aj (kq≤k)∧iR w w')
 case atStart=>exact ⟨(0),rs,H',⟨Nat.le_refl _⟩,dW⟩
 case round =>
  clear H'
  obtain ⟨cy,rfl,HA,bx,⟨m1,rfl⟩⟩:=hrel
  cases gk with
  | zero=>exact absurd HA.z (by simp [nF.l0])
  | succ k1 =>
   have H:=HA.z
   clear HA
   simp only [nF.l0] at H
   by_cases c3:cy < a1
   case neg =>
    rw [if_neg c3] at H
    have jd:decide (cy < a1)=false:=decide_eq_false c3
    clear c3
    obtain rfl:=Option.some.inj H
    go_wp2
    go_ret
    exact ⟨rs,dW⟩
   rw [if_pos c3] at H
   have jd:=decide_eq_true c3
   clear c3
   replace H:=Option.bind_eq_some_iff.mp H
   obtain ⟨t101,fu,H⟩:=H
   replace H:(if t101=true then (nF.l0 k1 l0 a1 a1 (wrap64 (cy+1))) else (some false))=some r:=H
   have A4:=k0 fu
   clear fu
   by_cases c5:t101=true
   case neg =>
    replace c5:=Bool.eq_false_iff.mpr c5
    subst c5
    have H1:(some false)=some r:=by rw [if_neg (show ¬ (false=true) by decide)] at H;exact H
    clear H
    have H:=H1
    clear H1
    obtain rfl:=Option.some.inj H
    go_wp2_with (first|((with_reducible refine bg (f:=118) rfl ?_);refine gC (some 12) Try.func118 #[.slice A0 l0.length c0,.int .i64 cy] ?_;(with_reducible refine (zi.calls k1 _ _ l0 cy false _ ?aoN ?aoP A4.z).mono ?_);(case aoN=>exact aC ek.z);(case aoP=>exact jx.z);rintro e w' ⟨rfl,⟨nd,rfl⟩⟩;refine ⟨_,rfl,?_⟩))
    go_ret
    exact ⟨rs,dW⟩
   subst c5
   have H1:(nF.l0 k1 l0 a1 a1 (wrap64 (cy+1)))=some r:=by rw [if_pos rfl] at H;exact H
   clear H
   have H:=H1
   clear H1
   have H':=k0 H
   clear H
   go_wp2_with (first|((with_reducible refine bg (f:=118) rfl ?_);refine gC (some 12) Try.func118 #[.slice A0 l0.length c0,.int .i64 cy] ?_;(with_reducible refine (zi.calls k1 _ _ l0 cy true _ ?aoN ?aoP A4.z).mono ?_);(case aoN=>exact aC ek.z);(case aoP=>exact jx.z);rintro e w' ⟨rfl,⟨nd,rfl⟩⟩;refine ⟨_,rfl,?_⟩))
   go_roundg k1
   case measure=>have:=bx.z;omega
   case rel=>exact ⟨(wrap64 (cy+1)),rs,H',⟨by have:=bx.z;omega⟩,dW⟩
/-! ### F215: function 215 -/
theorem ac_ {b1 : Nat} (k : Nat) (A : Option Addr) (c : Nat) (l : List Int) (a0 : Int) (v1 : Value) (a2 : Int) (v3 : Value) (r : Bool) (w : World) (hr : Kd.C (Kd.int .i64) w A l.length l) (hc : l.length ≤ c) (hb : w.heap[b1]? = some (.cells #[.int .i64 a0, v1, .int .i64 a2, v3] 33 (0, 0))) (h : nF.f k l a2 = some r) :
  Calls Try.prog 215 #[.slice A l.length c,.pointer (some ⟨b1,0,none⟩)] w fun e w'=>e=.returned (.bool (!r))∧iR w w':=by
 have HR:=k0 hr
 have H:=k0 h
 have LG:w.cell? ⟨b1,2,none⟩=some (.int .i64 a2):=(fq hb 2).trans rfl
 have hf2:=iV hb 2
 clear hr hb h
 go_enter Try.func215,Try.ntmps215
 go_wp2_with (go_at_call 127;refine (nF.calls k A c l a2 r _ (by repeat (first|exact HR.z|(with_reducible refine Kd.wL ?_ _)|(with_reducible refine Kd.zh ?_ _)|(with_reducible refine Kd.vG ?_))) hc H.out).mono ?_;rintro e w_ ⟨rfl,⟨nd_,rfl⟩⟩)
 go_ret
 exact ⟨by first|rfl|(simp;done),dW⟩
theorem ac9 (p : List Int → Option Bool) (b1 : Nat) (A : Option Addr) (c : Nat) (l : List (List Int)) (R : Int) (w : World) (hr : Kd.C (Kd.slice 2 (Kd.int .i64)) w A l.length l)
 (hp:∀ (A':Option Addr) (c':Nat) (x:List Int) (b:Bool) w1,Below w.heap.size w w1→Kd.C (Kd.int .i64) w1 A' x.length x→x.length≤c'→p x=some b→Calls Try.prog 215 #[.slice A' x.length c',.pointer (some ⟨b1,0,none⟩)] w1 fun e w'=>e=.returned (.bool b)∧Below w1.heap.size w1 w') (h:tj p l 0=some R) :
 Calls Try.prog 220 #[.slice A l.length c,.func (.func 215) #[] #[.pointer (some ⟨b1,0,none⟩)]] w fun e w'=>e=.returned (.int .i64 R)∧Below w.heap.size w w':=by
 have HR:=k0 hr
 have HP:=k0 hp
 have H':=k0 h
 have hlen:l.length≤9223372036854775807:=hr.2.1
 clear hr hp h
 go_enter Try.func220,Try.ntmps220
 go_wp2_with fail
 go_loopw [8] (fun i wr=>∃ k:Nat,k≤l.length∧i=.int .i64 k∧aj (tj p (l.drop k) k=some R)∧aj (Below w.heap.size w wr)) (fun i _=>l.length - (intOf i).toNat)
 case atStart=>exact ⟨0,Nat.zero_le _,rfl,⟨by simpa using H'.out⟩,⟨Below.refl _ _⟩⟩
 case round =>
  clear H'
  obtain ⟨k,hk,rfl,HI,HB⟩:=hrel
  by_cases hlt:k < l.length
  case neg =>
   have hI:=HI.z
   rw [List.drop_of_length_le (by omega)] at hI
   simp only [tj,Option.some.injEq] at hI
   subst hI
   have hb:decide (k < l.length)=false:=by simp;omega
   go_wp2
   go_ret
   exact ⟨rfl,HB.z⟩
  have hI:=HI.z
  rw [List.drop_eq_getElem_cons hlt] at hI
  simp only [tj] at hI
  obtain ⟨b,hb,hI⟩:=Option.bind_eq_some_iff.mp hI
  obtain ⟨ad,A',c',e,hcell,hlc,hC⟩:=fW (Kd.ao4 HR.z HB.z) (k:Int) (by omega) (by omega)
  cases e
  rw [Int.toNat_natCast] at hcell
  have hx:av l (k:Int)=l[k]:=by simp [av,List.getD_eq_getElem?_getD,hlt]
  rw [hx] at hcell hlc hC
  have De:=k0 hC
  have Di:=k0 hlc
  have Dc:=k0 hb
  clear hC hlc hb hx
  cases b with
  | true =>
   simp only [if_true,Option.some.injEq] at hI
   subst hI
   go_wp2_with (go_at_call 215;refine (HP.out _ _ _ true _ HB.z De.z Di.z Dc.z).mono ?_;rintro e w' ⟨rfl,gN⟩;have fB:=k0 (aH HB.z gN);clear gN)
   go_ret
   exact ⟨rfl,fB.z⟩
  | false =>
   simp only [Bool.false_eq_true,if_false] at hI
   have HD:=k0 hI
   clear hI
   go_wp2_with (go_at_call 215;refine (HP.out _ _ _ false _ HB.z De.z Di.z Dc.z).mono ?_;rintro e w' ⟨rfl,gN⟩;have fB:=k0 (aH HB.z gN);clear gN)
   go_roundw
   case rel=>exact ⟨k+1,by omega,by go_num,HD,fB⟩
   case measure=>simp [intOf];omega
def rQ.f (k:Nat) (l0:List (List Int)) (cg:Int) (bN:List (List Int)) (mO:Int) (nu:List (List Int)):Option Bool:=(tj (fun x=>(nF.f k x mO).map not) l0 0).bind fun i=>some (decide (0≤i))
theorem rQ.calls {b1 : Nat} (k : Nat) (A0 : Option Addr) (c0 : Nat) (l0 : List (List Int)) (cg : Int) (eu : Option Addr) (ey : Nat) (bN : List (List Int)) (mO : Int) (xU : Option Addr) (yj : Nat) (nu : List (List Int)) (r : Bool) (w : World) (cY : Kd.C (Kd.slice 2 (Kd.int .i64)) w A0 l0.length l0) (hc0 : l0.length ≤ c0) (qg : Kd.C (Kd.slice 2 (Kd.int .i64)) w eu bN.length bN) (ap0 : bN.length ≤ ey) (Hj : Kd.C (Kd.slice 2 (Kd.int .i64)) w xU nu.length nu) (KC : nu.length ≤ yj) (hb1 : w.heap[b1]? = some (.cells #[.int .i64 cg, .slice eu bN.length ey, .int .i64 mO, .slice xU nu.length yj] 33 (0, 0))) (h : rQ.f k l0 cg bN mO nu = some r) :
  Calls Try.prog 180 #[.slice A0 l0.length c0,.func (.func 215) #[] #[.pointer (some ⟨b1,0,none⟩)]] w fun e w'=>e=.returned (.bool r)∧Below w.heap.size w w':=by
 unfold rQ.f at h
 obtain ⟨i,hi,h⟩:=Option.bind_eq_some_iff.mp h
 obtain rfl:=Option.some.inj h
 have HC:=fun W (hw:Below w.heap.size w W)=>ac9 (fun x=>(nF.f k x mO).map not) b1 A0 c0 l0 i W (Kd.ao4 cY hw) (fun A' c' x b w1 hw1 hC hc hx=>by
  obtain ⟨b',hb',rfl⟩:=Option.map_eq_some_iff.1 hx
  exact (ac_ k A' c' x cg _ mO _ b' w1 hC hc (cZ hb1 (aH hw hw1)) hb').mono fun e w' ⟨h1,h2⟩=>⟨h1,h2.below⟩) hi
 have wT:=k0 HC
 clear HC cY qg Hj hb1 hi h
 go_enter Try.func180,Try.ntmps180
 go_wp2_with (go_at_call 220;refine (wT.z _ (Below.refl _ _)).mono ?_;rintro e w' ⟨rfl,gN⟩;have fB:=k0 gN;clear gN)
 go_ret
 exact ⟨by first|rfl|(simp;done),fB.z⟩
end Go.Proofs.Ytoebojnhchocaaa.E
/- Set with little white space, by a program. -/
