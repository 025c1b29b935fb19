/- The functions that one law reaches, each as a Lean function, and that Go's call comes to what it says. Condition of each: that the Lean function answers (is not none). -/
import Derived.Test.YtoebojnhchocaaaGx0
import Derived.Test.YtoebojnhchocaaaGx3
namespace Go.Proofs.Ytoebojnhchocaaa.G
open Go.RowKit Go.Proofs.cx.fq Go.Proofs.cx.jX Go.Proofs.cx.lu
attribute [local go_sem] max2_int min2_int max_two min_two max_three min_three max_four min_four   -- for this text's walks alone
set_option linter.unusedVariables false
set_option linter.unusedSimpArgs false
set_option maxHeartbeats 8000000
set_option maxRecDepth 100000
/-! ### F100: function 100 -/
mutual
def cY.j0 : Nat → Bool → Int → List (List Int) → Option (Bool)
 | 0,_,_,_=>none
 | k+1,vo,iN,iy=>if vo=true then (some false) else (cY.l0 k 0 iN iy)
def cY.l0 : Nat → Int → Int → List (List Int) → Option (Bool)
 | 0,_,_,_=>none
 | k+1,x3,iN,iy=>if x3 < (iy.length:Int) then (if 0≤x3 then (if ((ai iy x3).length:Int)=2 then (if 0 < ((ai iy x3).length:Int) then ((jc.f (rd (ai iy x3) 0) 0 (wrap64 (iN - 1))).bind fun t106=>(if t106=true then (if 1 < ((ai iy x3).length:Int) then ((jc.f (rd (ai iy x3) 1) 0 (wrap64 (iN - 1))).bind fun t109=>(if t109=true then (cY.l0 k (wrap64 (x3+1)) iN iy) else (some false))) else (none)) else (some false))) else (none)) else (some false)) else (none)) else (some true)
end
def cY.f (k:Nat) (au:Int) (ah:List (List Int)):Option (Bool):=(jc.f au 1 8).bind fun t102=>(if t102=true then (cY.j0 k (decide ((ah.length:Int) > 10)) au ah) else (cY.j0 k true au ah))
theorem cY.cC : ∀ k, (∀ y0 y1 y2, ag (cY.j0 k y0 y1 y2) (cY.j0 (k + 1) y0 y1 y2)) ∧ (∀ y0 y1 y2, ag (cY.l0 k y0 y1 y2) (cY.l0 (k + 1) y0 y1 y2))
 | 0=>⟨fun _ _ _ r h=>by simp [cY.j0] at h,fun _ _ _ r h=>by simp [cY.l0] at h⟩
 | k+1=>by
  obtain ⟨a_,ih1⟩:=cY.cC k
  refine ⟨?_, ?_⟩ <;> intros <;> (first | unfold cY.j0 | unfold cY.l0) <;> repeat' first
   | (with_reducible first|exact a_ _ _ _|exact ih1 _ _ _|exact ag.refl _|exact ag.none _|refine ag.ite ?_ ?_|refine ag.bind ?_ (fun _=>?_))
   | exact a_ _ _ _|exact ih1 _ _ _|exact ag.none _|refine ag.ite ?_ ?_|refine ag.bind ?_ (fun _=>?_)
theorem cY.mono:∀ a0 a1 k,ag (cY.f k a0 a1) (cY.f (k+1) a0 a1):=by
 intro a0 a1 k
 obtain ⟨a_,ih1⟩:=cY.cC k
 unfold cY.f
 repeat' first
  | (with_reducible first|exact a_ _ _ _|exact ih1 _ _ _|exact ag.refl _|exact ag.none _|refine ag.ite ?_ ?_|refine ag.bind ?_ (fun _=>?_))
  | exact a_ _ _ _|exact ih1 _ _ _|exact ag.none _|refine ag.ite ?_ ?_|refine ag.bind ?_ (fun _=>?_)
theorem cY.calls (k : Nat) (au : Int) (bJ : Option Addr) (bI : Nat) (ah : List (List Int)) (r : Bool) (w : World) (eS : Kd.C (Kd.slice 2 (Kd.int .i64)) w bJ ah.length ah) (eY : ah.length ≤ bI) (h : cY.f k au ah = some r) :
  Calls Try.prog 100 #[.agg #[.int .i64 au,.slice bJ ah.length bI]] w fun e w'=>e=.returned (.bool r)∧Below w.heap.size w w':=by
 have jS:=Try.underlying31
 have dP:=k0 eS
 have f_:=k0 eY
 clear eS eY
 have HB:=k0 (Below.refl w.heap.size w)
 have H:((jc.f au 1 8).bind fun t102=>(if t102=true then (cY.j0 k (decide ((ah.length:Int) > 10)) au ah) else (cY.j0 k true au ah)))=some r:=h
 clear h
 have ua:=k0 H
 clear H
 go_enter Try.func100,Try.ntmps100
 go_upto_region 1 with (first|((with_reducible refine bN (N:=1) rfl ?_);(try (refine fV (by rfl) ?_;dsimp only));refine cE 1 #[.int .i64 au,.slice bJ ah.length bI] 31 ?_;intro aW hg w3 aG hb;have aa:=k0 (aG);have cu:=gW hg (anG bl);have anQ:=cu;replace HB:=k0 (anH bl hb);clear hb aG hg))
 repeat (go_quiet (first|((with_reducible refine bN (N:=1) rfl ?_);(try (refine fV (by rfl) ?_;dsimp only));refine cE 1 #[.int .i64 au,.slice bJ ah.length bI] 31 ?_;intro aW hg w3 aG hb;have aa:=k0 (aG);have cu:=gW hg (anG bl);have anQ:=cu;replace HB:=k0 (anH bl hb);clear hb aG hg));go_upto_region 1 with (first|((with_reducible refine bN (N:=1) rfl ?_);(try (refine fV (by rfl) ?_;dsimp only));refine cE 1 #[.int .i64 au,.slice bJ ah.length bI] 31 ?_;intro aW hg w3 aG hb;have aa:=k0 (aG);have cu:=gW hg (anG bl);have anQ:=cu;replace HB:=k0 (anH bl hb);clear hb aG hg)))
 (try simp only [Act.put,zI,zZ,zS])
 go_cut [13] (fun LL wc=>∃ (kq:Nat) (Gw:Bool),LL=.bool Gw∧ak (cY.j0 kq Gw au ah=some r)∧ak (kq≤k)∧ak (wc.heap[aW]?=some (sO au bJ ah bI 31))∧ak (Below w.heap.size w wc))
 case first =>
  have H:=ua.z
  clear ua
  replace H:=Option.bind_eq_some_iff.mp H
  obtain ⟨t102,jt,H⟩:=H
  replace H:(if t102=true then (cY.j0 k (decide ((ah.length:Int) > 10)) au ah) else (cY.j0 k true au ah))=some r:=H
  have A4:=k0 jt
  clear jt
  by_cases c5:t102=true
  case neg =>
   replace c5:=Bool.eq_false_iff.mpr c5
   subst c5
   have H1:(cY.j0 k true au ah)=some r:=by rw [if_neg (show ¬ (false=true) by decide)] at H;exact H
   clear H
   have H:=H1
   clear H1
   have H':=k0 H
   clear H
   have Qq:=aX aa
   have Qr:=aY aa
   have abI:=bF aa 0
   have QO:=bF aa 1
   go_wp2_with (first|(go_at_call 172;(with_reducible refine (jc.calls au 1 8 false _ A4.z).mono ?_);rintro e w' ⟨rfl,⟨nd,rfl⟩⟩;(try exact dN)))
   repeat (go_quiet (first|(go_at_call 172;(with_reducible refine (jc.calls au 1 8 false _ A4.z).mono ?_);rintro e w' ⟨rfl,⟨nd,rfl⟩⟩;(try exact dN)));try go_wp2_with (first|(go_at_call 172;(with_reducible refine (jc.calls au 1 8 false _ A4.z).mono ?_);rintro e w' ⟨rfl,⟨nd,rfl⟩⟩;(try exact dN))))
   go_meet
   case rel=>exact ⟨_,(true),rs,H',⟨by first|omega|exact Nat.le_refl _⟩,⟨bk⟩,⟨bl⟩⟩
  subst c5
  have H1:(cY.j0 k (decide ((ah.length:Int) > 10)) au ah)=some r:=by rw [if_pos rfl] at H;exact H
  clear H
  have H:=H1
  clear H1
  have H':=k0 H
  clear H
  have Ff:=aX aa
  have Fg:=aY aa
  have Fk:=bF aa 0
  have Fl:=bF aa 1
  go_wp2_with (first|(go_at_call 172;(with_reducible refine (jc.calls au 1 8 true _ A4.z).mono ?_);rintro e w' ⟨rfl,⟨nd,rfl⟩⟩;(try exact dN)))
  repeat (go_quiet (first|(go_at_call 172;(with_reducible refine (jc.calls au 1 8 true _ A4.z).mono ?_);rintro e w' ⟨rfl,⟨nd,rfl⟩⟩;(try exact dN)));try go_wp2_with (first|(go_at_call 172;(with_reducible refine (jc.calls au 1 8 true _ A4.z).mono ?_);rintro e w' ⟨rfl,⟨nd,rfl⟩⟩;(try exact dN))))
  go_meet
  case rel=>exact ⟨_,(decide ((ah.length:Int) > 10)),rs,H',⟨by first|omega|exact Nat.le_refl _⟩,⟨bk⟩,⟨bl⟩⟩
 case rest =>
  clear ua
  obtain ⟨kq,Gw,rfl,HA,BA,aa,HB⟩:=hcut
  cases kq with
  | zero=>exact absurd HA.z (by simp [cY.j0])
  | succ yB =>
   have H:=HA.z
   clear HA
   simp only [cY.j0] at H
   by_cases c8:Gw=true
   case neg =>
    replace c8:=Bool.eq_false_iff.mpr c8
    subst c8
    have H1:(cY.l0 yB 0 au ah)=some r:=by rw [if_neg (show ¬ (false=true) by decide)] at H;exact H
    clear H
    have H:=H1
    clear H1
    have H':=k0 H
    clear H
    go_wp2
    repeat (go_quiet (fail);try go_wp2)
    go_loopg [3] yB (fun kq v3 w'=>∃ (bU:Int),v3=.int .i64 bU∧ak (cY.l0 kq bU au ah=some r)∧ak (kq≤yB)∧ak (w'.heap[aW]?=some (sO au bJ ah bI 31))∧ak (Below w.heap.size w w'))
    case atStart=>exact ⟨(0),rs,H',⟨Nat.le_refl _⟩,⟨bk⟩,⟨bl⟩⟩
    case round =>
     clear H'
     obtain ⟨bU,rfl,HA,eo,aa,HB⟩:=hrel
     cases gk with
     | zero=>exact absurd HA.z (by simp [cY.l0])
     | succ k2 =>
      have H:=HA.z
      clear HA
      simp only [cY.l0] at H
      by_cases c9:bU < (ah.length:Int)
      case neg =>
       rw [if_neg c9] at H
       have nY:decide (bU < (ah.length:Int))=false:=decide_eq_false c9
       clear c9
       obtain rfl:=Option.some.inj H
       have aaN:=aX aa
       have aaO:=aY aa
       have abp:=bF aa 0
       have abq:=bF aa 1
       go_wp2
       repeat (go_quiet (fail);try go_wp2)
       go_ret
       exact ⟨eR,bl⟩
      rw [if_pos c9] at H
      have nY:=decide_eq_true c9
      clear c9
      replace H:=iS H;obtain ⟨c10,H⟩:=H
      have r9:=decide_eq_true c10
      clear c10
      by_cases c11:((ai ah bU).length:Int)=2
      case neg =>
       rw [if_neg c11] at H
       have lS:(((ai ah bU).length:Int) == 2)=false:=beq_eq_false_iff_ne.mpr c11
       have uv:(((ai ah bU).length:Int) != 2)=true:=bne_iff_ne.mpr c11
       obtain rfl:=Option.some.inj H
       have Qm:=aX aa
       have Qn:=aY aa
       have QK:=bF aa 0
       have QL:=bF aa 1
       have fF:0≤(bU:Int):=oD
       have fG:bU < (ah.length:Int):=oD
       obtain ⟨l_,wX,xC,e103,fR,aot,k6⟩:=fu dP.z bU fF fG
       cases e103
       replace fR:=hbc HB fR
       have aoQ:=k0 k6
       have ao':=k0 aot
       clear k6 aot
       replace fF:=eq_true fF
       replace fG:=eq_true fG
       go_wp2
       repeat (go_quiet (fail);try go_wp2)
       go_ret
       exact ⟨eR,bl⟩
      rw [if_pos c11] at H
      have lS:(((ai ah bU).length:Int) == 2)=true:=beq_iff_eq.mpr c11
      have uv:(((ai ah bU).length:Int) != 2)=false:=bne_eq_false_iff_eq.mpr c11
      clear c11
      replace H:=iS H;obtain ⟨c12,H⟩:=H
      have p6:=decide_eq_true c12
      have EU:decide (0 < (ai ah bU).length)=true:=decide_eq_true (by omega)
      clear c12
      replace H:=Option.bind_eq_some_iff.mp H
      obtain ⟨t106,Bh,H⟩:=H
      replace H:(if t106=true then (if 1 < ((ai ah bU).length:Int) then ((jc.f (rd (ai ah bU) 1) 0 (wrap64 (au - 1))).bind fun t109=>(if t109=true then (cY.l0 k2 (wrap64 (bU+1)) au ah) else (some false))) else (none)) else (some false))=some r:=H
      have rM:=k0 Bh
      clear Bh
      by_cases c14:t106=true
      case neg =>
       replace c14:=Bool.eq_false_iff.mpr c14
       subst c14
       have H1:(some false)=some r:=by rw [if_neg (show ¬ (false=true) by decide)] at H;exact H
       clear H
       have H:=H1
       clear H1
       obtain rfl:=Option.some.inj H
       have aaL:=aX aa
       have aaM:=aY aa
       have abn:=bF aa 0
       have abo:=bF aa 1
       have fF:0≤(bU:Int):=oD
       have fG:bU < (ah.length:Int):=oD
       obtain ⟨l_,wX,xC,e103,fR,aot,k6⟩:=fu dP.z bU fF fG
       cases e103
       replace fR:=hbc HB fR
       have aoQ:=k0 k6
       have ao':=k0 aot
       clear k6 aot
       replace fF:=eq_true fF
       replace fG:=eq_true fG
       have eJ:0≤(bU:Int):=oD
       have eL:bU < (ah.length:Int):=oD
       obtain ⟨jY,Bd,B0,e104,eF,qg,qd⟩:=fu dP.z bU eJ eL
       obtain rfl:l_=jY:=(by injection e104)
       replace eF:=hbc HB eF
       have tr:=k0 qd
       have Bw:=k0 qg
       clear qd qg
       replace eJ:=eq_true eJ
       replace eL:=eq_true eL
       have dH:=Option.some.inj (fR.symm.trans eF)
       injection dH with dH jB jA
       subst dH
       subst jA
       clear jB
       have fW:0≤(0:Int):=(by omega)
       have fX:0 < ((ai ah bU).length:Int):=oD
       obtain ⟨mb,e105,fL⟩:=Kd.cm tr.z 0 fW fX
       cases e105
       have apz:(0 < (ai ah bU).length)=True:=eq_true (by omega)
       (try rw [show ((0:Int)).toNat=0 from rfl] at fL)
       (try rw [Addr.add_zero'] at fL)
       replace fL:=hbc HB fL
       replace fW:=eq_true fW
       replace fX:=eq_true fX
       go_wp2_with (first|(go_at_call 172;(with_reducible refine (jc.calls (rd (ai ah bU) 0) 0 (wrap64 (au - 1)) false _ rM.z).mono ?_);rintro e w' ⟨rfl,⟨nd,rfl⟩⟩;(try exact dN)))
       repeat (go_quiet (first|(go_at_call 172;(with_reducible refine (jc.calls (rd (ai ah bU) 0) 0 (wrap64 (au - 1)) false _ rM.z).mono ?_);rintro e w' ⟨rfl,⟨nd,rfl⟩⟩;(try exact dN)));try go_wp2_with (first|(go_at_call 172;(with_reducible refine (jc.calls (rd (ai ah bU) 0) 0 (wrap64 (au - 1)) false _ rM.z).mono ?_);rintro e w' ⟨rfl,⟨nd,rfl⟩⟩;(try exact dN))))
       go_ret
       exact ⟨eR,bl⟩
      subst c14
      have H1:(if 1 < ((ai ah bU).length:Int) then ((jc.f (rd (ai ah bU) 1) 0 (wrap64 (au - 1))).bind fun t109=>(if t109=true then (cY.l0 k2 (wrap64 (bU+1)) au ah) else (some false))) else (none))=some r:=by rw [if_pos rfl] at H;exact H
      clear H
      have H:=H1
      clear H1
      replace H:=iS H;obtain ⟨c15,H⟩:=H
      have lD:=decide_eq_true c15
      have xF:decide (1 < (ai ah bU).length)=true:=decide_eq_true (by omega)
      clear c15
      replace H:=Option.bind_eq_some_iff.mp H
      obtain ⟨t109,vt,H⟩:=H
      replace H:(if t109=true then (cY.l0 k2 (wrap64 (bU+1)) au ah) else (some false))=some r:=H
      have qW:=k0 vt
      clear vt
      by_cases c17:t109=true
      case neg =>
       replace c17:=Bool.eq_false_iff.mpr c17
       subst c17
       have H1:(some false)=some r:=by rw [if_neg (show ¬ (false=true) by decide)] at H;exact H
       clear H
       have H:=H1
       clear H1
       obtain rfl:=Option.some.inj H
       have CL:=aX aa
       have CM:=aY aa
       have CT:=bF aa 0
       have CU:=bF aa 1
       have fF:0≤(bU:Int):=oD
       have fG:bU < (ah.length:Int):=oD
       obtain ⟨l_,wX,xC,e103,fR,aot,k6⟩:=fu dP.z bU fF fG
       cases e103
       replace fR:=hbc HB fR
       have aoQ:=k0 k6
       have ao':=k0 aot
       clear k6 aot
       replace fF:=eq_true fF
       replace fG:=eq_true fG
       have eJ:0≤(bU:Int):=oD
       have eL:bU < (ah.length:Int):=oD
       obtain ⟨jY,Bd,B0,e104,eF,qg,qd⟩:=fu dP.z bU eJ eL
       obtain rfl:l_=jY:=(by injection e104)
       replace eF:=hbc HB eF
       have tr:=k0 qd
       have Bw:=k0 qg
       clear qd qg
       replace eJ:=eq_true eJ
       replace eL:=eq_true eL
       have dH:=Option.some.inj (fR.symm.trans eF)
       injection dH with dH jB jA
       subst dH
       subst jA
       clear jB
       have fW:0≤(0:Int):=(by omega)
       have fX:0 < ((ai ah bU).length:Int):=oD
       obtain ⟨mb,e105,fL⟩:=Kd.cm tr.z 0 fW fX
       cases e105
       have apz:(0 < (ai ah bU).length)=True:=eq_true (by omega)
       (try rw [show ((0:Int)).toNat=0 from rfl] at fL)
       (try rw [Addr.add_zero'] at fL)
       replace fL:=hbc HB fL
       replace fW:=eq_true fW
       replace fX:=eq_true fX
       have jM:0≤(bU:Int):=oD
       have jN:bU < (ah.length:Int):=oD
       obtain ⟨lR,zo,xD,e107,jL,qh,qf⟩:=fu dP.z bU jM jN
       obtain rfl:l_=lR:=(by injection e107)
       replace jL:=hbc HB jL
       have q8:=k0 qf
       have Bx:=k0 qh
       clear qf qh
       replace jM:=eq_true jM
       replace jN:=eq_true jN
       have dH:=Option.some.inj (fR.symm.trans jL)
       injection dH with dH jB jA
       subst dH
       subst jA
       clear jB
       have kJ:0≤(1:Int):=(by omega)
       have kK:1 < ((ai ah bU).length:Int):=oD
       obtain ⟨uo,e108,ku⟩:=Kd.cm q8.z 1 kJ kK
       cases e108
       (try simp only [show (1:Int).toNat=1 from rfl,Nat.reduceMul,Nat.reduceEqDiff,Go.Addr.add,↓reduceIte] at ku)
       have Td:(1 < (ai ah bU).length)=True:=eq_true (by omega)
       (try rw [show ((1:Int)).toNat=1 from rfl] at ku)
       replace ku:=hbc HB ku
       replace kJ:=eq_true kJ
       replace kK:=eq_true kK
       go_wp2_with (first|(go_at_call 172;(with_reducible refine (jc.calls (rd (ai ah bU) 0) 0 (wrap64 (au - 1)) true _ rM.z).mono ?_);rintro e w' ⟨rfl,⟨nd,rfl⟩⟩;(try exact dN))|(go_at_call 172;(with_reducible refine (jc.calls (rd (ai ah bU) 1) 0 (wrap64 (au - 1)) false _ qW.z).mono ?_);rintro e w' ⟨rfl,⟨nd,rfl⟩⟩;(try exact dN)))
       repeat (go_quiet (first|(go_at_call 172;(with_reducible refine (jc.calls (rd (ai ah bU) 0) 0 (wrap64 (au - 1)) true _ rM.z).mono ?_);rintro e w' ⟨rfl,⟨nd,rfl⟩⟩;(try exact dN))|(go_at_call 172;(with_reducible refine (jc.calls (rd (ai ah bU) 1) 0 (wrap64 (au - 1)) false _ qW.z).mono ?_);rintro e w' ⟨rfl,⟨nd,rfl⟩⟩;(try exact dN)));try go_wp2_with (first|(go_at_call 172;(with_reducible refine (jc.calls (rd (ai ah bU) 0) 0 (wrap64 (au - 1)) true _ rM.z).mono ?_);rintro e w' ⟨rfl,⟨nd,rfl⟩⟩;(try exact dN))|(go_at_call 172;(with_reducible refine (jc.calls (rd (ai ah bU) 1) 0 (wrap64 (au - 1)) false _ qW.z).mono ?_);rintro e w' ⟨rfl,⟨nd,rfl⟩⟩;(try exact dN))))
       go_ret
       exact ⟨eR,bl⟩
      subst c17
      have H1:(cY.l0 k2 (wrap64 (bU+1)) au ah)=some r:=by rw [if_pos rfl] at H;exact H
      clear H
      have H:=H1
      clear H1
      have H':=k0 H
      clear H
      have Qk:=aX aa
      have Ql:=aY aa
      have QI:=bF aa 0
      have QJ:=bF aa 1
      have fF:0≤(bU:Int):=oD
      have fG:bU < (ah.length:Int):=oD
      obtain ⟨l_,wX,xC,e103,fR,aot,k6⟩:=fu dP.z bU fF fG
      cases e103
      replace fR:=hbc HB fR
      have aoQ:=k0 k6
      have ao':=k0 aot
      clear k6 aot
      replace fF:=eq_true fF
      replace fG:=eq_true fG
      have eJ:0≤(bU:Int):=oD
      have eL:bU < (ah.length:Int):=oD
      obtain ⟨jY,Bd,B0,e104,eF,qg,qd⟩:=fu dP.z bU eJ eL
      obtain rfl:l_=jY:=(by injection e104)
      replace eF:=hbc HB eF
      have tr:=k0 qd
      have Bw:=k0 qg
      clear qd qg
      replace eJ:=eq_true eJ
      replace eL:=eq_true eL
      have dH:=Option.some.inj (fR.symm.trans eF)
      injection dH with dH jB jA
      subst dH
      subst jA
      clear jB
      have fW:0≤(0:Int):=(by omega)
      have fX:0 < ((ai ah bU).length:Int):=oD
      obtain ⟨mb,e105,fL⟩:=Kd.cm tr.z 0 fW fX
      cases e105
      have apz:(0 < (ai ah bU).length)=True:=eq_true (by omega)
      (try rw [show ((0:Int)).toNat=0 from rfl] at fL)
      (try rw [Addr.add_zero'] at fL)
      replace fL:=hbc HB fL
      replace fW:=eq_true fW
      replace fX:=eq_true fX
      have jM:0≤(bU:Int):=oD
      have jN:bU < (ah.length:Int):=oD
      obtain ⟨lR,zo,xD,e107,jL,qh,qf⟩:=fu dP.z bU jM jN
      obtain rfl:l_=lR:=(by injection e107)
      replace jL:=hbc HB jL
      have q8:=k0 qf
      have Bx:=k0 qh
      clear qf qh
      replace jM:=eq_true jM
      replace jN:=eq_true jN
      have dH:=Option.some.inj (fR.symm.trans jL)
      injection dH with dH jB jA
      subst dH
      subst jA
      clear jB
      have kJ:0≤(1:Int):=(by omega)
      have kK:1 < ((ai ah bU).length:Int):=oD
      obtain ⟨uo,e108,ku⟩:=Kd.cm q8.z 1 kJ kK
      cases e108
      (try simp only [show (1:Int).toNat=1 from rfl,Nat.reduceMul,Nat.reduceEqDiff,Go.Addr.add,↓reduceIte] at ku)
      have Td:(1 < (ai ah bU).length)=True:=eq_true (by omega)
      (try rw [show ((1:Int)).toNat=1 from rfl] at ku)
      replace ku:=hbc HB ku
      replace kJ:=eq_true kJ
      replace kK:=eq_true kK
      go_wp2_with (first|(go_at_call 172;(with_reducible refine (jc.calls (rd (ai ah bU) 0) 0 (wrap64 (au - 1)) true _ rM.z).mono ?_);rintro e w' ⟨rfl,⟨nd,rfl⟩⟩;(try exact dN))|(go_at_call 172;(with_reducible refine (jc.calls (rd (ai ah bU) 1) 0 (wrap64 (au - 1)) true _ qW.z).mono ?_);rintro e w' ⟨rfl,⟨nd,rfl⟩⟩;(try exact dN)))
      repeat (go_quiet (first|(go_at_call 172;(with_reducible refine (jc.calls (rd (ai ah bU) 0) 0 (wrap64 (au - 1)) true _ rM.z).mono ?_);rintro e w' ⟨rfl,⟨nd,rfl⟩⟩;(try exact dN))|(go_at_call 172;(with_reducible refine (jc.calls (rd (ai ah bU) 1) 0 (wrap64 (au - 1)) true _ qW.z).mono ?_);rintro e w' ⟨rfl,⟨nd,rfl⟩⟩;(try exact dN)));try go_wp2_with (first|(go_at_call 172;(with_reducible refine (jc.calls (rd (ai ah bU) 0) 0 (wrap64 (au - 1)) true _ rM.z).mono ?_);rintro e w' ⟨rfl,⟨nd,rfl⟩⟩;(try exact dN))|(go_at_call 172;(with_reducible refine (jc.calls (rd (ai ah bU) 1) 0 (wrap64 (au - 1)) true _ qW.z).mono ?_);rintro e w' ⟨rfl,⟨nd,rfl⟩⟩;(try exact dN))))
      go_roundg k2
      case measure=>have:=BA.out;have:=eo.z;omega
      case rel=>exact ⟨(wrap64 (bU+1)),rs,H',⟨by have:=BA.out;have:=eo.z;omega⟩,⟨bk⟩,⟨bl⟩⟩
   subst c8
   have H1:(some false)=some r:=by rw [if_pos rfl] at H;exact H
   clear H
   have H:=H1
   clear H1
   obtain rfl:=Option.some.inj H
   go_wp2
   repeat (go_quiet (fail);try go_wp2)
   go_ret
   exact ⟨eR,bl⟩
/-! ### F248: function 248 -/
def gv.l0 : Nat → ByteArray → Int → List ByteArray → Int → Int → Option (List ByteArray)
 | 0,_,_,_,_,_=>none
 | k+1,x0,x1,x5,x6,x7=>if x7 < (x0.size:Int) then (if 0≤x7 then (if (bt x0 x7)=x1 then (if 0≤x6 then (if x6≤x7 then (if x7≤(x0.size:Int) then (if x5.length < 8796093022208 then (gv.l0 k x0 x1 (x5 ++ [x0.extract (x6:Int).toNat (x7:Int).toNat]) (wrap64 (x7+1)) (wrap64 (x7+1))) else (none)) else (none)) else (none)) else (none)) else (gv.l0 k x0 x1 x5 x6 (wrap64 (x7+1)))) else (none)) else (if 0≤x6 then (if x6≤(x0.size:Int) then (if x5.length < 8796093022208 then (some (x5 ++ [x0.extract (x6:Int).toNat x0.size])) else (none)) else (none)) else (none))
def gv.f (k:Nat) (a0:ByteArray) (a1:Int):Option (List ByteArray):=gv.l0 k a0 a1 (([]:List ByteArray)) 0 0
theorem gv.cC : ∀ k, (∀ y0 y1 y2 y3 y4, ag (gv.l0 k y0 y1 y2 y3 y4) (gv.l0 (k + 1) y0 y1 y2 y3 y4))
 | 0=>fun _ _ _ _ _ r h=>by simp [gv.l0] at h
 | k+1=>by
  have a_:=gv.cC k
  ·intro y0 y1 y2 y3 y4
   unfold gv.l0
   repeat' first
    | (with_reducible first|exact a_ _ _ _ _ _|exact ag.refl _|exact ag.none _|refine ag.ite ?_ ?_|refine ag.bind ?_ (fun _=>?_))
    | exact a_ _ _ _ _ _|exact ag.none _|refine ag.ite ?_ ?_|refine ag.bind ?_ (fun _=>?_)
theorem gv.mono:∀ a0 a1 k,ag (gv.f k a0 a1) (gv.f (k+1) a0 a1):=by
 intro a0 a1 k
 have a_:=gv.cC k
 unfold gv.f
 repeat' first
  | (with_reducible first|exact a_ _ _ _ _ _|exact ag.refl _|exact ag.none _|refine ag.ite ?_ ?_|refine ag.bind ?_ (fun _=>?_))
  | exact a_ _ _ _ _ _|exact ag.none _|refine ag.ite ?_ ?_|refine ag.bind ?_ (fun _=>?_)
theorem gv.calls (k : Nat) (a0 : ByteArray) (a1 : Int) (r : List ByteArray) (w : World) (h : gv.f k a0 a1 = some r) :
  Calls Try.prog 248 #[.string a0,.int .u8 a1] w fun e w'=>∃ dw:Value,e=.returned (dw)∧Kd.R Kd.string 9 w' w.heap.size (fun _=>True) dw r∧Below w.heap.size w w':=by
 have HB:=k0 (Below.refl w.heap.size w)
 have H:(gv.l0 k a0 a1 (([]:List ByteArray)) 0 0)=some r:=h
 clear h
 obtain ⟨iH,jh⟩:∃ y_:List ByteArray,y_=(([]:List ByteArray)):=⟨_,rfl⟩
 replace H:(gv.l0 k a0 a1 iH 0 0)=some r:=rH jh H
 have kW:=k0 jh
 clear jh
 have H':=k0 H
 clear H
 go_enter Try.func248,Try.ntmps248
 go_wp2_with (first|((with_reducible refine bN (N:=8) rfl ?_);refine Kd.jd Kd.string _ 9 ?hg (N:=8) ?hd (xs:=([]:List ByteArray)) (inner:=[]) (ok:=fun _=>True) (anX:=fun _=>True) ?hr ?hp (fun _ hk=>hk) trivial (Below.refl _ _) (Nat.le_refl _) (by simp) ?_;(case hd=>rfl);(case hg=>rfl);(case hr=>first|(go_simp;done)|(go_simp;rfl));(case hp=>exact (bu.none _ _));intro aoK w3 gG hb c_ dc;clear c_ dc;(first|rw [← kW.z] at gG|(simp only [Int.reduceToNat] at gG;rw [← kW.z] at gG));have jQ:=k0 (Kd.cH gG (anG bl));replace HB:=k0 (anH bl hb);clear hb gG))
 go_loopg [5,6,7] k (fun kq v5 v6 v7 w'=>∃ (bR:List ByteArray) (eA:Int) (anZ:Int),v6=.int .i64 eA∧v7=.int .i64 anZ∧ak (gv.l0 kq a0 a1 bR eA anZ=some r)∧ak (kq≤k)∧ak (Kd.R Kd.string 9 w' w.heap.size (fun _=>True) v5 bR)∧ak (Below w.heap.size w w'))
 case atStart=>exact ⟨(iH),(0),(0),rs,rs,H',⟨Nat.le_refl _⟩,⟨aR (jQ.z)⟩,⟨bl⟩⟩
 case round =>
  clear H'
  obtain ⟨bR,eA,anZ,rfl,rfl,HA,bH,bY,HB⟩:=hrel
  cases gk with
  | zero=>exact absurd HA.z (by simp [gv.l0])
  | succ k1 =>
   have H:=HA.z
   clear HA
   simp only [gv.l0] at H
   by_cases c5:anZ < (a0.size:Int)
   case neg =>
    rw [if_neg c5] at H
    have aoo:decide (anZ < (a0.size:Int))=false:=decide_eq_false c5
    clear c5
    replace H:=iS H;obtain ⟨c14,H⟩:=H
    have qC:=eq_true c14
    have B7:=decide_eq_true c14
    clear c14
    replace H:=iS H;obtain ⟨c15,H⟩:=H
    have lD:=eq_true c15
    have xF:=decide_eq_true c15
    clear c15
    replace H:=iS H;obtain ⟨c16,H⟩:=H
    have xd:=k0 c16
    clear c16
    obtain ⟨gX,pI⟩:∃ y_:List ByteArray,y_=(bR ++ [a0.extract (eA:Int).toNat a0.size]):=⟨_,rfl⟩
    replace H:(some gX)=some r:=rH pI H
    have uj:=k0 pI
    clear pI
    obtain rfl:=Option.some.inj H
    go_wp2_with (first|((with_reducible refine aoi (b:=.append) (xs:=#[.tmp 29,.tmp 33]) rfl ?_);at_builtin;refine Kd.qB Kd.string (w0:=w) w.heap.size rfl (.tmp 29) (.tmp 33) 171 9 (.string ⟨#[]⟩) 16 rfl Try.underlying171 Ss rfl (by decide) (by omega) u5 bR (a0.extract (eA:Int).toNat a0.size) [.string (a0.extract (eA:Int).toNat a0.size)] (fun _=>True) (fun _=>False) rfl rfl ?aP (fun _ hk=>hk.elim) ?aF ?aO ?aB ?aS ?aL ?_;(case aP=>exact rfl);(case aB=>exact bl);(case aF=>exact (fun _ _=>trivial));(case aO=>exact (aR bY.z));(case aS=>exact (anG bl));(case aL=>have:=xd.out;omega);intro cw DY ho hb hg bz;rw [← uj.z] at ho;have av:=k0 (hb);have ax:=k0 (ho);clear HB;clear bY;have HB:=av;have dy:=ax;clear av ax;clear ho hb hg bz))
    go_ret
    exact ⟨_,eR,by (with_reducible repeat (first|apply Kd.b_|apply Kd.bZ|apply Kd.bP));exact dy.z,bl⟩
   rw [if_pos c5] at H
   have aoo:=decide_eq_true c5
   clear c5
   replace H:=iS H;obtain ⟨c6,H⟩:=H
   have iD:=decide_eq_true c6
   clear c6
   by_cases c8:(bt a0 anZ)=a1
   case neg =>
    rw [if_neg c8] at H
    have p8:((bt a0 anZ) == a1)=false:=beq_eq_false_iff_ne.mpr c8
    have ao5:((bt a0 anZ) != a1)=true:=bne_iff_ne.mpr c8
    have H':=k0 H
    clear H
    have p7:0≤(anZ:Int):=oD
    have q7:anZ < (a0.size:Int):=oD
    have Sn:=ur a0 anZ
    replace p7:=eq_true p7
    replace q7:=eq_true q7
    go_wp2
    go_roundg k1
    case measure=>have:=bH.z;omega
    case rel=>exact ⟨(bR),(eA),(wrap64 (anZ+1)),rs,rs,H',⟨by have:=bH.z;omega⟩,⟨aR (bY.z)⟩,⟨bl⟩⟩
   rw [if_pos c8] at H
   have p8:((bt a0 anZ) == a1)=true:=beq_iff_eq.mpr c8
   have ao5:((bt a0 anZ) != a1)=false:=bne_eq_false_iff_eq.mpr c8
   clear c8
   replace H:=iS H;obtain ⟨c9,H⟩:=H
   have nY:=eq_true c9
   have EY:=decide_eq_true c9
   clear c9
   replace H:=iS H;obtain ⟨c10,H⟩:=H
   have r9:=eq_true c10
   have apK:=decide_eq_true c10
   clear c10
   replace H:=iS H;obtain ⟨c11,H⟩:=H
   have lS:=eq_true c11
   have uv:=decide_eq_true c11
   clear c11
   replace H:=iS H;obtain ⟨c12,H⟩:=H
   have VS:=k0 c12
   clear c12
   obtain ⟨qT,pH⟩:∃ y_:List ByteArray,y_=(bR ++ [a0.extract (eA:Int).toNat (anZ:Int).toNat]):=⟨_,rfl⟩
   replace H:(gv.l0 k1 a0 a1 qT (wrap64 (anZ+1)) (wrap64 (anZ+1)))=some r:=rH pH H
   have vN:=k0 pH
   clear pH
   have H':=k0 H
   clear H
   have p7:0≤(anZ:Int):=oD
   have q7:anZ < (a0.size:Int):=oD
   have Sn:=ur a0 anZ
   replace p7:=eq_true p7
   replace q7:=eq_true q7
   go_wp2_with (first|((with_reducible refine aoi (b:=.append) (xs:=#[.tmp 20,.tmp 25]) rfl ?_);at_builtin;refine Kd.qB Kd.string (w0:=w) w.heap.size rfl (.tmp 20) (.tmp 25) 171 9 (.string ⟨#[]⟩) 16 rfl Try.underlying171 Ss rfl (by decide) (by omega) u5 bR (a0.extract (eA:Int).toNat (anZ:Int).toNat) [.string (a0.extract (eA:Int).toNat (anZ:Int).toNat)] (fun _=>True) (fun _=>False) rfl rfl ?aP (fun _ hk=>hk.elim) ?aF ?aO ?aB ?aS ?aL ?_;(case aP=>exact rfl);(case aB=>exact bl);(case aF=>exact (fun _ _=>trivial));(case aO=>exact (aR bY.z));(case aS=>exact (anG bl));(case aL=>have:=VS.out;omega);intro v105 wP ho hb hg bz;rw [← vN.z] at ho;have av:=k0 (hb);have ax:=k0 (ho);clear HB;clear bY;have HB:=av;have kS:=ax;clear av ax;clear ho hb hg bz))
   go_roundg k1
   case measure=>have:=bH.z;omega
   case rel=>exact ⟨(qT),(wrap64 (anZ+1)),(wrap64 (anZ+1)),rs,rs,H',⟨by have:=bH.z;omega⟩,⟨aR (kS.z)⟩,⟨bl⟩⟩
/-! ### F249: function 249 -/
mutual
def an4.j0 : Nat → ByteArray → Bool → Option (Int)
 | 0,_,_=>none
 | k+1,x0,gH=>if gH=true then (some (-1)) else (an4.l0 k x0 0 0)
def an4.l0 : Nat → ByteArray → Int → Int → Option (Int)
 | 0,_,_,_=>none
 | k+1,x0,x3,x4=>if x4 < (x0.size:Int) then (if 0≤x4 then (if (bt x0 x4) < 48 then (some (-1)) else (if (bt x0 x4) > 57 then (some (-1)) else (an4.l0 k x0 (wrap64 ((wrap64 (x3 * 10))+(((bt x0 x4) - 48) % 256))) (wrap64 (x4+1))))) else (none)) else (some x3)
end
def an4.f (k:Nat) (a0:ByteArray):Option (Int):=if (a0.size:Int)=0 then (an4.j0 k a0 true) else (if (a0.size:Int) > 9 then (an4.j0 k a0 true) else (if (a0.size:Int) > 1 then (if 0 < (a0.size:Int) then (an4.j0 k a0 ((bt a0 0) == 48)) else (none)) else (an4.j0 k a0 false)))
theorem an4.cC : ∀ k, (∀ y0 y1, ag (an4.j0 k y0 y1) (an4.j0 (k + 1) y0 y1)) ∧ (∀ y0 y1 y2, ag (an4.l0 k y0 y1 y2) (an4.l0 (k + 1) y0 y1 y2))
 | 0=>⟨fun _ _ r h=>by simp [an4.j0] at h,fun _ _ _ r h=>by simp [an4.l0] at h⟩
 | k+1=>by
  obtain ⟨a_,ih1⟩:=an4.cC k
  refine ⟨?_, ?_⟩ <;> intros <;> (first | unfold an4.j0 | unfold an4.l0) <;> repeat' first
   | (with_reducible first|exact a_ _ _|exact ih1 _ _ _|exact ag.refl _|exact ag.none _|refine ag.ite ?_ ?_|refine ag.bind ?_ (fun _=>?_))
   | exact a_ _ _|exact ih1 _ _ _|exact ag.none _|refine ag.ite ?_ ?_|refine ag.bind ?_ (fun _=>?_)
theorem an4.mono:∀ a0 k,ag (an4.f k a0) (an4.f (k+1) a0):=by
 intro a0 k
 obtain ⟨a_,ih1⟩:=an4.cC k
 unfold an4.f
 repeat' first
  | (with_reducible first|exact a_ _ _|exact ih1 _ _ _|exact ag.refl _|exact ag.none _|refine ag.ite ?_ ?_|refine ag.bind ?_ (fun _=>?_))
  | exact a_ _ _|exact ih1 _ _ _|exact ag.none _|refine ag.ite ?_ ?_|refine ag.bind ?_ (fun _=>?_)
theorem an4.calls (k : Nat) (a0 : ByteArray) (r : Int) (w : World) (h : an4.f k a0 = some r) :
  Calls Try.prog 249 #[.string a0] w fun e w'=>e=.returned (.int .i64 r)∧aod w w':=by
 have H:(if (a0.size:Int)=0 then (an4.j0 k a0 true) else (if (a0.size:Int) > 9 then (an4.j0 k a0 true) else (if (a0.size:Int) > 1 then (if 0 < (a0.size:Int) then (an4.j0 k a0 ((bt a0 0) == 48)) else (none)) else (an4.j0 k a0 false))))=some r:=h
 clear h
 have ua:=k0 H
 clear H
 go_enter Try.func249,Try.ntmps249
 go_upto_region 1 with (fail)
 go_cut [22] (fun ze wc=>∃ (kq:Nat) (dR:Bool),ze=.bool dR∧ak (an4.j0 kq a0 dR=some r)∧ak (kq≤k)∧aod w wc)
 case first =>
  have H:=ua.z
  clear ua
  by_cases c3:(a0.size:Int)=0
  case neg =>
   rw [if_neg c3] at H
   have jZ:((a0.size:Int) == 0)=false:=beq_eq_false_iff_ne.mpr c3
   have uy:((a0.size:Int) != 0)=true:=bne_iff_ne.mpr c3
   (first|rw [jZ]|(simp only [dX,eZ];rw [jZ])|skip)
   by_cases c4:(a0.size:Int) > 9
   case neg =>
    rw [if_neg c4] at H
    have gT:decide (9 < (a0.size:Int))=false:=decide_eq_false c4
    have tE:decide (9 < a0.size)=false:=decide_eq_false (by omega)
    clear c4
    by_cases c5:(a0.size:Int) > 1
    case neg =>
     rw [if_neg c5] at H
     have aoo:decide (1 < (a0.size:Int))=false:=decide_eq_false c5
     have EX:decide (1 < a0.size)=false:=decide_eq_false (by omega)
     clear c5
     have H':=k0 H
     clear H
     go_wp2
     go_meet
     case rel=>exact ⟨_,(false),rs,H',⟨by first|omega|exact Nat.le_refl _⟩,dW⟩
    rw [if_pos c5] at H
    have aoo:=decide_eq_true c5
    have EX:decide (1 < a0.size)=true:=decide_eq_true (by omega)
    clear c5
    replace H:=iS H;obtain ⟨c6,H⟩:=H
    have iD:=decide_eq_true c6
    have oF:decide (0 < a0.size)=true:=decide_eq_true (by omega)
    clear c6
    have H':=k0 H
    clear H
    have p7:0≤(0:Int):=(by omega)
    have q7:0 < a0.size:=(by have:(0:Int) < (a0.size:Int):=oD;omega)
    have Sn:∀ h:0 < a0.size,((a0[0]'h).toNat:Int)=bt a0 0:=ur a0 0
    clear p7
    have qi7:(0 < (a0.size:Int))=True:=eq_true oD
    replace q7:=eq_true q7
    go_wp2
    go_meet
    case rel=>exact ⟨_,(((bt a0 0) == 48)),rs,H',⟨by first|omega|exact Nat.le_refl _⟩,dW⟩
   rw [if_pos c4] at H
   have gT:=decide_eq_true c4
   have tE:decide (9 < a0.size)=true:=decide_eq_true (by omega)
   clear c4
   have H':=k0 H
   clear H
   go_wp2
   go_meet
   case rel=>exact ⟨_,(true),rs,H',⟨by first|omega|exact Nat.le_refl _⟩,dW⟩
  rw [if_pos c3] at H
  have jZ:((a0.size:Int) == 0)=true:=beq_iff_eq.mpr c3
  have uy:((a0.size:Int) != 0)=false:=bne_eq_false_iff_eq.mpr c3
  clear c3
  (first|rw [jZ]|(simp only [dX,eZ];rw [jZ])|skip)
  have H':=k0 H
  clear H
  go_wp2
  go_meet
  case rel=>exact ⟨_,(true),rs,H',⟨by first|omega|exact Nat.le_refl _⟩,dW⟩
 case rest =>
  clear ua
  obtain ⟨kq,dR,rfl,HA,BA,⟨mc1,rfl⟩⟩:=hcut
  cases kq with
  | zero=>exact absurd HA.z (by simp [an4.j0])
  | succ yB =>
   have H:=HA.z
   clear HA
   simp only [an4.j0] at H
   by_cases c8:dR=true
   case neg =>
    replace c8:=Bool.eq_false_iff.mpr c8
    subst c8
    have H1:(an4.l0 yB a0 0 0)=some r:=by rw [if_neg (show ¬ (false=true) by decide)] at H;exact H
    clear H
    have H:=H1
    clear H1
    have H':=k0 H
    clear H
    go_wp2
    go_loopg [3,4] yB (fun kq v3 v4 w'=>∃ (bU:Int) (ez:Int),v3=.int .i64 bU∧v4=.int .i64 ez∧ak (an4.l0 kq a0 bU ez=some r)∧ak (kq≤yB)∧aod w w')
    case atStart=>exact ⟨(0),(0),rs,rs,H',⟨Nat.le_refl _⟩,dW⟩
    case round =>
     clear H'
     obtain ⟨bU,ez,rfl,rfl,HA,eo,⟨m2,rfl⟩⟩:=hrel
     cases gk with
     | zero=>exact absurd HA.z (by simp [an4.l0])
     | succ k2 =>
      have H:=HA.z
      clear HA
      simp only [an4.l0] at H
      by_cases c9:ez < (a0.size:Int)
      case neg =>
       rw [if_neg c9] at H
       have nY:decide (ez < (a0.size:Int))=false:=decide_eq_false c9
       clear c9
       obtain rfl:=Option.some.inj H
       go_wp2
       go_ret
       exact ⟨rs,dW⟩
      rw [if_pos c9] at H
      have nY:=decide_eq_true c9
      clear c9
      replace H:=iS H;obtain ⟨c10,H⟩:=H
      have r9:=decide_eq_true c10
      clear c10
      by_cases c12:(bt a0 ez) < 48
      case neg =>
       rw [if_neg c12] at H
       have p6:decide ((bt a0 ez) < 48)=false:=decide_eq_false c12
       clear c12
       by_cases c14:(bt a0 ez) > 57
       case neg =>
        rw [if_neg c14] at H
        have qC:decide (57 < (bt a0 ez))=false:=decide_eq_false c14
        clear c14
        have H':=k0 H
        clear H
        have ao6:0≤(ez:Int):=oD
        have wK:ez < (a0.size:Int):=oD
        have Se:=ur a0 ez
        replace ao6:=eq_true ao6
        replace wK:=eq_true wK
        have DL:0≤(ez:Int):=oD
        have DO:ez < (a0.size:Int):=oD
        have acC:=ur a0 ez
        replace DL:=eq_true DL
        replace DO:=eq_true DO
        have S5:0≤(ez:Int):=oD
        have Ta:ez < (a0.size:Int):=oD
        have amR:=ur a0 ez
        replace S5:=eq_true S5
        replace Ta:=eq_true Ta
        go_wp2
        go_roundg k2
        case measure=>have:=BA.out;have:=eo.z;omega
        case rel=>exact ⟨(wrap64 ((wrap64 (bU * 10))+(((bt a0 ez) - 48) % 256))),(wrap64 (ez+1)),rs,rs,H',⟨by have:=BA.out;have:=eo.z;omega⟩,dW⟩
       rw [if_pos c14] at H
       have qC:=decide_eq_true c14
       clear c14
       obtain rfl:=Option.some.inj H
       have ao6:0≤(ez:Int):=oD
       have wK:ez < (a0.size:Int):=oD
       have Se:=ur a0 ez
       replace ao6:=eq_true ao6
       replace wK:=eq_true wK
       have DL:0≤(ez:Int):=oD
       have DO:ez < (a0.size:Int):=oD
       have acC:=ur a0 ez
       replace DL:=eq_true DL
       replace DO:=eq_true DO
       go_wp2
       go_ret
       exact ⟨rs,dW⟩
      rw [if_pos c12] at H
      have p6:=decide_eq_true c12
      clear c12
      obtain rfl:=Option.some.inj H
      have ao6:0≤(ez:Int):=oD
      have wK:ez < (a0.size:Int):=oD
      have Se:=ur a0 ez
      replace ao6:=eq_true ao6
      replace wK:=eq_true wK
      go_wp2
      go_ret
      exact ⟨rs,dW⟩
   subst c8
   have H1:(some (-1))=some r:=by rw [if_pos rfl] at H;exact H
   clear H
   have H:=H1
   clear H1
   obtain rfl:=Option.some.inj H
   go_wp2
   go_ret
   exact ⟨rs,dW⟩
end Go.Proofs.Ytoebojnhchocaaa.G
/- Set with little white space, by a program. -/
