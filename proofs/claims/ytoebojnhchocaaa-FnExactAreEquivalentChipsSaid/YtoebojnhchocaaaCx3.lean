/- The functions that one law reaches, each as a Lean function, and that Go's call comes to what it says. Condition of each: that the Lean function answers (is not none). -/
import Derived.Test.YtoebojnhchocaaaCx0
import Derived.Test.YtoebojnhchocaaaCx2
namespace Go.Proofs.Ytoebojnhchocaaa.C
open Go.RowKit Go.Proofs.bI.en Go.Proofs.bI.je Go.Proofs.bI.jC
attribute [local go_sem] max2_int min2_int max_two min_two max_three min_three max_four min_four   -- for this text's walks alone
set_option linter.unusedVariables false
set_option linter.unusedSimpArgs false
/-! ### F100: function 100 -/
mutual
def ey.j0 : Nat → Bool → Int → List (List Int) → Option (Bool)
 | 0,_,_,_=>none
 | k+1,gH,bR,bJ=>if gH=true then (some false) else (ey.l0 k 0 bR bJ)
def ey.l0 : Nat → Int → Int → List (List Int) → Option (Bool)
 | 0,_,_,_=>none
 | k+1,x3,bR,bJ=>if x3 < (bJ.length:Int) then (if 0≤x3 then (if ((ah bJ x3).length:Int)=2 then (if 0 < ((ah bJ x3).length:Int) then ((gy.f (rd (ah bJ x3) 0) 0 (wrap64 (bR - 1))).bind fun t106=>(if t106=true then (if 1 < ((ah bJ x3).length:Int) then ((gy.f (rd (ah bJ x3) 1) 0 (wrap64 (bR - 1))).bind fun t109=>(if t109=true then (ey.l0 k (wrap64 (x3+1)) bR bJ) else (some false))) else (none)) else (some false))) else (none)) else (some false)) else (none)) else (some true)
end
def ey.f (k:Nat) (af:Int) (aa:List (List Int)):Option (Bool):=(gy.f af 1 8).bind fun t102=>(if t102=true then (ey.j0 k (decide ((aa.length:Int) > 10)) af aa) else (ey.j0 k true af aa))
theorem ey.b8 : ∀ k, (∀ y0 y1 y2, aj (ey.j0 k y0 y1 y2) (ey.j0 (k + 1) y0 y1 y2)) ∧ (∀ y0 y1 y2, aj (ey.l0 k y0 y1 y2) (ey.l0 (k + 1) y0 y1 y2))
 | 0=>⟨fun _ _ _ r h=>by simp [ey.j0] at h,fun _ _ _ r h=>by simp [ey.l0] at h⟩
 | k+1=>by
  obtain ⟨akk,ih1⟩:=ey.b8 k
  refine ⟨?_, ?_⟩ <;> intros <;> (first | unfold ey.j0 | unfold ey.l0) <;> repeat' first
   | (with_reducible first|exact akk _ _ _|exact ih1 _ _ _|exact aj.refl _|exact aj.none _|refine aj.ite ?_ ?_|refine aj.bind ?_ (fun _=>?_))
   | exact akk _ _ _|exact ih1 _ _ _|exact aj.none _|refine aj.ite ?_ ?_|refine aj.bind ?_ (fun _=>?_)
theorem ey.mono:∀ a0 a1 k,aj (ey.f k a0 a1) (ey.f (k+1) a0 a1):=by
 intro a0 a1 k
 obtain ⟨akk,ih1⟩:=ey.b8 k
 unfold ey.f
 repeat' first
  | (with_reducible first|exact akk _ _ _|exact ih1 _ _ _|exact aj.refl _|exact aj.none _|refine aj.ite ?_ ?_|refine aj.bind ?_ (fun _=>?_))
  | exact akk _ _ _|exact ih1 _ _ _|exact aj.none _|refine aj.ite ?_ ?_|refine aj.bind ?_ (fun _=>?_)
set_option maxHeartbeats 8000000 in
set_option maxRecDepth 100000 in
theorem ey.calls (k : Nat) (af : Int) (aq : Option Addr) (ak : Nat) (aa : List (List Int)) (r : Bool) (w : World) (akv : Kd.C (Kd.slice 2 (Kd.int .i64)) w aq aa.length aa) (akw : aa.length ≤ ak) (h : ey.f k af aa = some r) :
  Calls Try.prog 100 #[.agg #[.int .i64 af,.slice aq aa.length ak]] w fun e w'=>e=.returned (.bool r)∧Below w.heap.size w w':=by
 have j8:=Try.underlying31
 have bU:=k0 akv
 have cG:=k0 akw
 clear akv akw
 have HB:=k0 (Below.refl w.heap.size w)
 have H:((gy.f af 1 8).bind fun t102=>(if t102=true then (ey.j0 k (decide ((aa.length:Int) > 10)) af aa) else (ey.j0 k true af aa)))=some r:=h
 clear h
 have qE:=k0 H
 clear H
 go_enter Try.func100,Try.ntmps100
 go_upto_region 1 with (first|((with_reducible refine cj (N:=1) rfl ?_);(try (refine al5 (by rfl) ?_;dsimp only));refine dJ ?hg (N:=1) ?hd (cs:=#[.int .i64 af,.slice aq aa.length ak]) (t:=31) ?hr ?_;(case hd=>rfl);(case hg=>rfl);(case hr=>first|(go_simp;done)|(go_simp;rfl));intro ai hg w3 aK hb;have ag:=k0 (aK);have aks:=k0 ((by rw [hg];exact (aU bl):w.heap.size≤ai));have ej:=aks;replace HB:=k0 (aI bl hb);clear hb aK hg))
 repeat (go_quiet (first|((with_reducible refine cj (N:=1) rfl ?_);(try (refine al5 (by rfl) ?_;dsimp only));refine dJ ?hg (N:=1) ?hd (cs:=#[.int .i64 af,.slice aq aa.length ak]) (t:=31) ?hr ?_;(case hd=>rfl);(case hg=>rfl);(case hr=>first|(go_simp;done)|(go_simp;rfl));intro ai hg w3 aK hb;have ag:=k0 (aK);have aks:=k0 ((by rw [hg];exact (aU bl):w.heap.size≤ai));have ej:=aks;replace HB:=k0 (aI bl hb);clear hb aK hg));go_upto_region 1 with (first|((with_reducible refine cj (N:=1) rfl ?_);(try (refine al5 (by rfl) ?_;dsimp only));refine dJ ?hg (N:=1) ?hd (cs:=#[.int .i64 af,.slice aq aa.length ak]) (t:=31) ?hr ?_;(case hd=>rfl);(case hg=>rfl);(case hr=>first|(go_simp;done)|(go_simp;rfl));intro ai hg w3 aK hb;have ag:=k0 (aK);have aks:=k0 ((by rw [hg];exact (aU bl):w.heap.size≤ai));have ej:=aks;replace HB:=k0 (aI bl hb);clear hb aK hg)))
 (try simp only [Act.put,zI,zZ,zS])
 go_cut [13] (fun zo wc=>∃ (kq:Nat) (aki:Bool),zo=.bool aki∧au (ey.j0 kq aki af aa=some r)∧au (kq≤k)∧au (wc.heap[ai]?=some (sO af aq aa ak 31))∧au (Below w.heap.size w wc))
 case first =>
  have H:=qE.out
  clear qE
  replace H:=Option.bind_eq_some_iff.mp H
  obtain ⟨t102,jA,H⟩:=H
  replace H:(if t102=true then (ey.j0 k (decide ((aa.length:Int) > 10)) af aa) else (ey.j0 k true af aa))=some r:=H
  have A4:=k0 jA
  clear jA
  by_cases c5:t102=true
  case neg =>
   replace c5:=Bool.eq_false_iff.mpr c5
   subst c5
   have H1:(ey.j0 k true af aa)=some r:=by rw [if_neg (show ¬ (false=true) by decide)] at H;exact H
   clear H
   have H:=H1
   clear H1
   have H':=k0 H
   clear H
   have rN:w3.cell? ⟨ai,0,none⟩=some (.int .i64 af):=(av ag.out 0).trans rfl
   have rO:w3.cell? ⟨ai,1,none⟩=some (.slice aq aa.length ak):=(av ag.out 1).trans rfl
   have rQ:=aH ag.out 0
   have rR:=aH ag.out 1
   go_wp2_with (first|(go_at_call 172;(with_reducible refine (gy.calls af 1 8 false _ A4.out).mono ?_);rintro e w' ⟨rfl,⟨nd,rfl⟩⟩;(try first|exact ⟨rfl,_,World.drewN_drewN _ _ _⟩|exact ⟨rfl,_,Eq.trans (World.drewN_drewN _ _ _) (congrArg (World.drewN _) (Nat.add_assoc _ _ _))⟩)))
   repeat (go_quiet (first|(go_at_call 172;(with_reducible refine (gy.calls af 1 8 false _ A4.out).mono ?_);rintro e w' ⟨rfl,⟨nd,rfl⟩⟩;(try first|exact ⟨rfl,_,World.drewN_drewN _ _ _⟩|exact ⟨rfl,_,Eq.trans (World.drewN_drewN _ _ _) (congrArg (World.drewN _) (Nat.add_assoc _ _ _))⟩)));try go_wp2_with (first|(go_at_call 172;(with_reducible refine (gy.calls af 1 8 false _ A4.out).mono ?_);rintro e w' ⟨rfl,⟨nd,rfl⟩⟩;(try first|exact ⟨rfl,_,World.drewN_drewN _ _ _⟩|exact ⟨rfl,_,Eq.trans (World.drewN_drewN _ _ _) (congrArg (World.drewN _) (Nat.add_assoc _ _ _))⟩))))
   go_meet
   case rel=>exact ⟨_,(true),rs,H',⟨by first|omega|exact Nat.le_refl _⟩,⟨bk⟩,⟨bl⟩⟩
  subst c5
  have H1:(ey.j0 k (decide ((aa.length:Int) > 10)) af aa)=some r:=by rw [if_pos rfl] at H;exact H
  clear H
  have H:=H1
  clear H1
  have H':=k0 H
  clear H
  have vz:w3.cell? ⟨ai,0,none⟩=some (.int .i64 af):=(av ag.out 0).trans rfl
  have vA:w3.cell? ⟨ai,1,none⟩=some (.slice aq aa.length ak):=(av ag.out 1).trans rfl
  have vE:=aH ag.out 0
  have vF:=aH ag.out 1
  go_wp2_with (first|(go_at_call 172;(with_reducible refine (gy.calls af 1 8 true _ A4.out).mono ?_);rintro e w' ⟨rfl,⟨nd,rfl⟩⟩;(try first|exact ⟨rfl,_,World.drewN_drewN _ _ _⟩|exact ⟨rfl,_,Eq.trans (World.drewN_drewN _ _ _) (congrArg (World.drewN _) (Nat.add_assoc _ _ _))⟩)))
  repeat (go_quiet (first|(go_at_call 172;(with_reducible refine (gy.calls af 1 8 true _ A4.out).mono ?_);rintro e w' ⟨rfl,⟨nd,rfl⟩⟩;(try first|exact ⟨rfl,_,World.drewN_drewN _ _ _⟩|exact ⟨rfl,_,Eq.trans (World.drewN_drewN _ _ _) (congrArg (World.drewN _) (Nat.add_assoc _ _ _))⟩)));try go_wp2_with (first|(go_at_call 172;(with_reducible refine (gy.calls af 1 8 true _ A4.out).mono ?_);rintro e w' ⟨rfl,⟨nd,rfl⟩⟩;(try first|exact ⟨rfl,_,World.drewN_drewN _ _ _⟩|exact ⟨rfl,_,Eq.trans (World.drewN_drewN _ _ _) (congrArg (World.drewN _) (Nat.add_assoc _ _ _))⟩))))
  go_meet
  case rel=>exact ⟨_,(decide ((aa.length:Int) > 10)),rs,H',⟨by first|omega|exact Nat.le_refl _⟩,⟨bk⟩,⟨bl⟩⟩
 case rest =>
  clear qE
  (try clear c5);(try clear vz);(try clear vA);(try clear rN);(try clear rO);(try clear vE);(try clear vF);(try clear rQ);(try clear rR)
  obtain ⟨kq,aki,rfl,HA,Mv,ag,HB⟩:=hcut
  cases kq with
  | zero=>exact absurd HA.out (by simp [ey.j0])
  | succ J9 =>
   have H:=HA.out
   clear HA
   simp only [ey.j0] at H
   by_cases c8:aki=true
   case neg =>
    replace c8:=Bool.eq_false_iff.mpr c8
    subst c8
    have H1:(ey.l0 J9 0 af aa)=some r:=by rw [if_neg (show ¬ (false=true) by decide)] at H;exact H
    clear H
    have H:=H1
    clear H1
    have H':=k0 H
    clear H
    go_wp2
    repeat (go_quiet (fail);try go_wp2)
    go_loopg [3] J9 (fun kq v3 w'=>∃ (aE:Int),v3=.int .i64 aE∧au (ey.l0 kq aE af aa=some r)∧au (kq≤J9)∧au (w'.heap[ai]?=some (sO af aq aa ak 31))∧au (Below w.heap.size w w'))
    case atStart=>exact ⟨(0),rs,H',⟨Nat.le_refl _⟩,⟨bk⟩,⟨bl⟩⟩
    case round =>
     clear H'
     (try clear c5);(try clear c8);(try clear vz);(try clear vA);(try clear rN);(try clear rO);(try clear vE);(try clear vF);(try clear rQ);(try clear rR)
     obtain ⟨aE,rfl,HA,bz,ag,HB⟩:=hrel
     cases gk with
     | zero=>exact absurd HA.out (by simp [ey.l0])
     | succ k2 =>
      have H:=HA.out
      clear HA
      simp only [ey.l0] at H
      by_cases c9:aE < (aa.length:Int)
      case neg =>
       rw [if_neg c9] at H
       have k8:decide (aE < (aa.length:Int))=false:=decide_eq_false c9
       clear c9
       obtain rfl:=Option.some.inj H
       have Pz:wr.cell? ⟨ai,0,none⟩=some (.int .i64 af):=(av ag.out 0).trans rfl
       have PA:wr.cell? ⟨ai,1,none⟩=some (.slice aq aa.length ak):=(av ag.out 1).trans rfl
       have PV:=aH ag.out 0
       have PW:=aH ag.out 1
       go_wp2
       repeat (go_quiet (fail);try go_wp2)
       go_ret
       exact ⟨by first|rfl|(simp [bq,bt]<;>rfl)|(simp [*,bq,bt]<;>rfl),bl⟩
      rw [if_pos c9] at H
      have k8:=decide_eq_true c9
      clear c9
      replace H:=iS H;obtain ⟨c10,H⟩:=H
      have lB:=decide_eq_true c10
      clear c10
      by_cases c11:((ah aa aE).length:Int)=2
      case neg =>
       rw [if_neg c11] at H
       have mz:(((ah aa aE).length:Int) == 2)=false:=beq_eq_false_iff_ne.mpr c11
       have sq:(((ah aa aE).length:Int) != 2)=true:=bne_iff_ne.mpr c11
       obtain rfl:=Option.some.inj H
       have Cj:wr.cell? ⟨ai,0,none⟩=some (.int .i64 af):=(av ag.out 0).trans rfl
       have aac:wr.cell? ⟨ai,1,none⟩=some (.slice aq aa.length ak):=(av ag.out 1).trans rfl
       have Cr:=aH ag.out 0
       have aaJ:=aH ag.out 1
       have dQ:0≤(aE:Int):=oD
       have dR:aE < (aa.length:Int):=oD
       obtain ⟨jf,uF,uY,e103,er,js,jq⟩:=cW bU.out aE dQ dR
       cases e103
       replace er:=hbc HB er
       have ak2:=k0 jq
       have uL:=k0 js
       clear jq js
       replace dQ:=eq_true dQ
       replace dR:=eq_true dR
       go_wp2
       repeat (go_quiet (fail);try go_wp2)
       go_ret
       exact ⟨by first|rfl|(simp [bq,bt]<;>rfl)|(simp [*,bq,bt]<;>rfl),bl⟩
      rw [if_pos c11] at H
      have mz:(((ah aa aE).length:Int) == 2)=true:=beq_iff_eq.mpr c11
      have sq:(((ah aa aE).length:Int) != 2)=false:=bne_eq_false_iff_eq.mpr c11
      clear c11
      replace H:=iS H;obtain ⟨c12,H⟩:=H
      have rG:=decide_eq_true c12
      have z1:decide (0 < (ah aa aE).length)=true:=decide_eq_true (by omega)
      clear c12
      replace H:=Option.bind_eq_some_iff.mp H
      obtain ⟨t106,vY,H⟩:=H
      replace H:(if t106=true then (if 1 < ((ah aa aE).length:Int) then ((gy.f (rd (ah aa aE) 1) 0 (wrap64 (af - 1))).bind fun t109=>(if t109=true then (ey.l0 k2 (wrap64 (aE+1)) af aa) else (some false))) else (none)) else (some false))=some r:=H
      have nB:=k0 vY
      clear vY
      by_cases c14:t106=true
      case neg =>
       replace c14:=Bool.eq_false_iff.mpr c14
       subst c14
       have H1:(some false)=some r:=by rw [if_neg (show ¬ (false=true) by decide)] at H;exact H
       clear H
       have H:=H1
       clear H1
       obtain rfl:=Option.some.inj H
       have Jo:wr.cell? ⟨ai,0,none⟩=some (.int .i64 af):=(av ag.out 0).trans rfl
       have Jp:wr.cell? ⟨ai,1,none⟩=some (.slice aq aa.length ak):=(av ag.out 1).trans rfl
       have JD:=aH ag.out 0
       have JE:=aH ag.out 1
       have dQ:0≤(aE:Int):=oD
       have dR:aE < (aa.length:Int):=oD
       obtain ⟨jf,uF,uY,e103,er,js,jq⟩:=cW bU.out aE dQ dR
       cases e103
       replace er:=hbc HB er
       have ak2:=k0 jq
       have uL:=k0 js
       clear jq js
       replace dQ:=eq_true dQ
       replace dR:=eq_true dR
       have cS:0≤(aE:Int):=oD
       have cT:aE < (aa.length:Int):=oD
       obtain ⟨ko,uG,uZ,e104,cM,lp,lg⟩:=cW bU.out aE cS cT
       obtain rfl:jf=ko:=(by injection e104)
       replace cM:=hbc HB cM
       have rm:=k0 lg
       have uM:=k0 lp
       clear lg lp
       replace cS:=eq_true cS
       replace cT:=eq_true cT
       have bf:=Option.some.inj (er.symm.trans cM)
       injection bf with bf dn dm
       subst bf
       subst dm
       clear dn
       have cX:0≤(0:Int):=(by omega)
       have cU:0 < ((ah aa aE).length:Int):=oD
       obtain ⟨kr,e105,dY⟩:=Kd.bH rm.out 0 cX cU
       cases e105
       have DC:(0 < (ah aa aE).length)=True:=eq_true (by omega)
       (try rw [show ((0:Int)).toNat=0 from rfl] at dY)
       (try rw [Addr.add_zero'] at dY)
       replace dY:=hbc HB dY
       replace cX:=eq_true cX
       replace cU:=eq_true cU
       go_wp2_with (first|(go_at_call 172;(with_reducible refine (gy.calls (rd (ah aa aE) 0) 0 (wrap64 (af - 1)) false _ nB.out).mono ?_);rintro e w' ⟨rfl,⟨nd,rfl⟩⟩;(try first|exact ⟨rfl,_,World.drewN_drewN _ _ _⟩|exact ⟨rfl,_,Eq.trans (World.drewN_drewN _ _ _) (congrArg (World.drewN _) (Nat.add_assoc _ _ _))⟩)))
       repeat (go_quiet (first|(go_at_call 172;(with_reducible refine (gy.calls (rd (ah aa aE) 0) 0 (wrap64 (af - 1)) false _ nB.out).mono ?_);rintro e w' ⟨rfl,⟨nd,rfl⟩⟩;(try first|exact ⟨rfl,_,World.drewN_drewN _ _ _⟩|exact ⟨rfl,_,Eq.trans (World.drewN_drewN _ _ _) (congrArg (World.drewN _) (Nat.add_assoc _ _ _))⟩)));try go_wp2_with (first|(go_at_call 172;(with_reducible refine (gy.calls (rd (ah aa aE) 0) 0 (wrap64 (af - 1)) false _ nB.out).mono ?_);rintro e w' ⟨rfl,⟨nd,rfl⟩⟩;(try first|exact ⟨rfl,_,World.drewN_drewN _ _ _⟩|exact ⟨rfl,_,Eq.trans (World.drewN_drewN _ _ _) (congrArg (World.drewN _) (Nat.add_assoc _ _ _))⟩))))
       go_ret
       exact ⟨by first|rfl|(simp [bq,bt]<;>rfl)|(simp [*,bq,bt]<;>rfl),bl⟩
      subst c14
      have H1:(if 1 < ((ah aa aE).length:Int) then ((gy.f (rd (ah aa aE) 1) 0 (wrap64 (af - 1))).bind fun t109=>(if t109=true then (ey.l0 k2 (wrap64 (aE+1)) af aa) else (some false))) else (none))=some r:=by rw [if_pos rfl] at H;exact H
      clear H
      have H:=H1
      clear H1
      replace H:=iS H;obtain ⟨c15,H⟩:=H
      have kR:=decide_eq_true c15
      have rH:decide (1 < (ah aa aE).length)=true:=decide_eq_true (by omega)
      clear c15
      replace H:=Option.bind_eq_some_iff.mp H
      obtain ⟨t109,pU,H⟩:=H
      replace H:(if t109=true then (ey.l0 k2 (wrap64 (aE+1)) af aa) else (some false))=some r:=H
      have oF:=k0 pU
      clear pU
      by_cases c17:t109=true
      case neg =>
       replace c17:=Bool.eq_false_iff.mpr c17
       subst c17
       have H1:(some false)=some r:=by rw [if_neg (show ¬ (false=true) by decide)] at H;exact H
       clear H
       have H:=H1
       clear H1
       obtain rfl:=Option.some.inj H
       have sI:wr.cell? ⟨ai,0,none⟩=some (.int .i64 af):=(av ag.out 0).trans rfl
       have yy:wr.cell? ⟨ai,1,none⟩=some (.slice aq aa.length ak):=(av ag.out 1).trans rfl
       have alg:=aH ag.out 0
       have yD:=aH ag.out 1
       have dQ:0≤(aE:Int):=oD
       have dR:aE < (aa.length:Int):=oD
       obtain ⟨jf,uF,uY,e103,er,js,jq⟩:=cW bU.out aE dQ dR
       cases e103
       replace er:=hbc HB er
       have ak2:=k0 jq
       have uL:=k0 js
       clear jq js
       replace dQ:=eq_true dQ
       replace dR:=eq_true dR
       have cS:0≤(aE:Int):=oD
       have cT:aE < (aa.length:Int):=oD
       obtain ⟨ko,uG,uZ,e104,cM,lp,lg⟩:=cW bU.out aE cS cT
       obtain rfl:jf=ko:=(by injection e104)
       replace cM:=hbc HB cM
       have rm:=k0 lg
       have uM:=k0 lp
       clear lg lp
       replace cS:=eq_true cS
       replace cT:=eq_true cT
       have bf:=Option.some.inj (er.symm.trans cM)
       injection bf with bf dn dm
       subst bf
       subst dm
       clear dn
       have cX:0≤(0:Int):=(by omega)
       have cU:0 < ((ah aa aE).length:Int):=oD
       obtain ⟨kr,e105,dY⟩:=Kd.bH rm.out 0 cX cU
       cases e105
       have DC:(0 < (ah aa aE).length)=True:=eq_true (by omega)
       (try rw [show ((0:Int)).toNat=0 from rfl] at dY)
       (try rw [Addr.add_zero'] at dY)
       replace dY:=hbc HB dY
       replace cX:=eq_true cX
       replace cU:=eq_true cU
       have gh:0≤(aE:Int):=oD
       have gj:aE < (aa.length:Int):=oD
       obtain ⟨o9,DW,Ey,e107,fR,qh,qf⟩:=cW bU.out aE gh gj
       obtain rfl:jf=o9:=(by injection e107)
       replace fR:=hbc HB fR
       have uQ:=k0 qf
       have D8:=k0 qh
       clear qf qh
       replace gh:=eq_true gh
       replace gj:=eq_true gj
       have bf:=Option.some.inj (er.symm.trans fR)
       injection bf with bf dn dm
       subst bf
       subst dm
       clear dn
       have ec:0≤(1:Int):=(by omega)
       have dS:1 < ((ah aa aE).length:Int):=oD
       obtain ⟨akU,e108,fu⟩:=Kd.bH uQ.out 1 ec dS
       cases e108
       (try simp only [show (1:Int).toNat=1 from rfl,Nat.reduceMul,Nat.reduceEqDiff,Go.Addr.add,↓reduceIte] at fu)
       have adw:(1 < (ah aa aE).length)=True:=eq_true (by omega)
       (try rw [show ((1:Int)).toNat=1 from rfl] at fu)
       replace fu:=hbc HB fu
       replace ec:=eq_true ec
       replace dS:=eq_true dS
       go_wp2_with (first|(go_at_call 172;(with_reducible refine (gy.calls (rd (ah aa aE) 0) 0 (wrap64 (af - 1)) true _ nB.out).mono ?_);rintro e w' ⟨rfl,⟨nd,rfl⟩⟩;(try first|exact ⟨rfl,_,World.drewN_drewN _ _ _⟩|exact ⟨rfl,_,Eq.trans (World.drewN_drewN _ _ _) (congrArg (World.drewN _) (Nat.add_assoc _ _ _))⟩))|(go_at_call 172;(with_reducible refine (gy.calls (rd (ah aa aE) 1) 0 (wrap64 (af - 1)) false _ oF.out).mono ?_);rintro e w' ⟨rfl,⟨nd,rfl⟩⟩;(try first|exact ⟨rfl,_,World.drewN_drewN _ _ _⟩|exact ⟨rfl,_,Eq.trans (World.drewN_drewN _ _ _) (congrArg (World.drewN _) (Nat.add_assoc _ _ _))⟩)))
       repeat (go_quiet (first|(go_at_call 172;(with_reducible refine (gy.calls (rd (ah aa aE) 0) 0 (wrap64 (af - 1)) true _ nB.out).mono ?_);rintro e w' ⟨rfl,⟨nd,rfl⟩⟩;(try first|exact ⟨rfl,_,World.drewN_drewN _ _ _⟩|exact ⟨rfl,_,Eq.trans (World.drewN_drewN _ _ _) (congrArg (World.drewN _) (Nat.add_assoc _ _ _))⟩))|(go_at_call 172;(with_reducible refine (gy.calls (rd (ah aa aE) 1) 0 (wrap64 (af - 1)) false _ oF.out).mono ?_);rintro e w' ⟨rfl,⟨nd,rfl⟩⟩;(try first|exact ⟨rfl,_,World.drewN_drewN _ _ _⟩|exact ⟨rfl,_,Eq.trans (World.drewN_drewN _ _ _) (congrArg (World.drewN _) (Nat.add_assoc _ _ _))⟩)));try go_wp2_with (first|(go_at_call 172;(with_reducible refine (gy.calls (rd (ah aa aE) 0) 0 (wrap64 (af - 1)) true _ nB.out).mono ?_);rintro e w' ⟨rfl,⟨nd,rfl⟩⟩;(try first|exact ⟨rfl,_,World.drewN_drewN _ _ _⟩|exact ⟨rfl,_,Eq.trans (World.drewN_drewN _ _ _) (congrArg (World.drewN _) (Nat.add_assoc _ _ _))⟩))|(go_at_call 172;(with_reducible refine (gy.calls (rd (ah aa aE) 1) 0 (wrap64 (af - 1)) false _ oF.out).mono ?_);rintro e w' ⟨rfl,⟨nd,rfl⟩⟩;(try first|exact ⟨rfl,_,World.drewN_drewN _ _ _⟩|exact ⟨rfl,_,Eq.trans (World.drewN_drewN _ _ _) (congrArg (World.drewN _) (Nat.add_assoc _ _ _))⟩))))
       go_ret
       exact ⟨by first|rfl|(simp [bq,bt]<;>rfl)|(simp [*,bq,bt]<;>rfl),bl⟩
      subst c17
      have H1:(ey.l0 k2 (wrap64 (aE+1)) af aa)=some r:=by rw [if_pos rfl] at H;exact H
      clear H
      have H:=H1
      clear H1
      have H':=k0 H
      clear H
      have Ch:wr.cell? ⟨ai,0,none⟩=some (.int .i64 af):=(av ag.out 0).trans rfl
      have Ci:wr.cell? ⟨ai,1,none⟩=some (.slice aq aa.length ak):=(av ag.out 1).trans rfl
      have Co:=aH ag.out 0
      have Cq:=aH ag.out 1
      have dQ:0≤(aE:Int):=oD
      have dR:aE < (aa.length:Int):=oD
      obtain ⟨jf,uF,uY,e103,er,js,jq⟩:=cW bU.out aE dQ dR
      cases e103
      replace er:=hbc HB er
      have ak2:=k0 jq
      have uL:=k0 js
      clear jq js
      replace dQ:=eq_true dQ
      replace dR:=eq_true dR
      have cS:0≤(aE:Int):=oD
      have cT:aE < (aa.length:Int):=oD
      obtain ⟨ko,uG,uZ,e104,cM,lp,lg⟩:=cW bU.out aE cS cT
      obtain rfl:jf=ko:=(by injection e104)
      replace cM:=hbc HB cM
      have rm:=k0 lg
      have uM:=k0 lp
      clear lg lp
      replace cS:=eq_true cS
      replace cT:=eq_true cT
      have bf:=Option.some.inj (er.symm.trans cM)
      injection bf with bf dn dm
      subst bf
      subst dm
      clear dn
      have cX:0≤(0:Int):=(by omega)
      have cU:0 < ((ah aa aE).length:Int):=oD
      obtain ⟨kr,e105,dY⟩:=Kd.bH rm.out 0 cX cU
      cases e105
      have DC:(0 < (ah aa aE).length)=True:=eq_true (by omega)
      (try rw [show ((0:Int)).toNat=0 from rfl] at dY)
      (try rw [Addr.add_zero'] at dY)
      replace dY:=hbc HB dY
      replace cX:=eq_true cX
      replace cU:=eq_true cU
      have gh:0≤(aE:Int):=oD
      have gj:aE < (aa.length:Int):=oD
      obtain ⟨o9,DW,Ey,e107,fR,qh,qf⟩:=cW bU.out aE gh gj
      obtain rfl:jf=o9:=(by injection e107)
      replace fR:=hbc HB fR
      have uQ:=k0 qf
      have D8:=k0 qh
      clear qf qh
      replace gh:=eq_true gh
      replace gj:=eq_true gj
      have bf:=Option.some.inj (er.symm.trans fR)
      injection bf with bf dn dm
      subst bf
      subst dm
      clear dn
      have ec:0≤(1:Int):=(by omega)
      have dS:1 < ((ah aa aE).length:Int):=oD
      obtain ⟨akU,e108,fu⟩:=Kd.bH uQ.out 1 ec dS
      cases e108
      (try simp only [show (1:Int).toNat=1 from rfl,Nat.reduceMul,Nat.reduceEqDiff,Go.Addr.add,↓reduceIte] at fu)
      have adw:(1 < (ah aa aE).length)=True:=eq_true (by omega)
      (try rw [show ((1:Int)).toNat=1 from rfl] at fu)
      replace fu:=hbc HB fu
      replace ec:=eq_true ec
      replace dS:=eq_true dS
      go_wp2_with (first|(go_at_call 172;(with_reducible refine (gy.calls (rd (ah aa aE) 0) 0 (wrap64 (af - 1)) true _ nB.out).mono ?_);rintro e w' ⟨rfl,⟨nd,rfl⟩⟩;(try first|exact ⟨rfl,_,World.drewN_drewN _ _ _⟩|exact ⟨rfl,_,Eq.trans (World.drewN_drewN _ _ _) (congrArg (World.drewN _) (Nat.add_assoc _ _ _))⟩))|(go_at_call 172;(with_reducible refine (gy.calls (rd (ah aa aE) 1) 0 (wrap64 (af - 1)) true _ oF.out).mono ?_);rintro e w' ⟨rfl,⟨nd,rfl⟩⟩;(try first|exact ⟨rfl,_,World.drewN_drewN _ _ _⟩|exact ⟨rfl,_,Eq.trans (World.drewN_drewN _ _ _) (congrArg (World.drewN _) (Nat.add_assoc _ _ _))⟩)))
      repeat (go_quiet (first|(go_at_call 172;(with_reducible refine (gy.calls (rd (ah aa aE) 0) 0 (wrap64 (af - 1)) true _ nB.out).mono ?_);rintro e w' ⟨rfl,⟨nd,rfl⟩⟩;(try first|exact ⟨rfl,_,World.drewN_drewN _ _ _⟩|exact ⟨rfl,_,Eq.trans (World.drewN_drewN _ _ _) (congrArg (World.drewN _) (Nat.add_assoc _ _ _))⟩))|(go_at_call 172;(with_reducible refine (gy.calls (rd (ah aa aE) 1) 0 (wrap64 (af - 1)) true _ oF.out).mono ?_);rintro e w' ⟨rfl,⟨nd,rfl⟩⟩;(try first|exact ⟨rfl,_,World.drewN_drewN _ _ _⟩|exact ⟨rfl,_,Eq.trans (World.drewN_drewN _ _ _) (congrArg (World.drewN _) (Nat.add_assoc _ _ _))⟩)));try go_wp2_with (first|(go_at_call 172;(with_reducible refine (gy.calls (rd (ah aa aE) 0) 0 (wrap64 (af - 1)) true _ nB.out).mono ?_);rintro e w' ⟨rfl,⟨nd,rfl⟩⟩;(try first|exact ⟨rfl,_,World.drewN_drewN _ _ _⟩|exact ⟨rfl,_,Eq.trans (World.drewN_drewN _ _ _) (congrArg (World.drewN _) (Nat.add_assoc _ _ _))⟩))|(go_at_call 172;(with_reducible refine (gy.calls (rd (ah aa aE) 1) 0 (wrap64 (af - 1)) true _ oF.out).mono ?_);rintro e w' ⟨rfl,⟨nd,rfl⟩⟩;(try first|exact ⟨rfl,_,World.drewN_drewN _ _ _⟩|exact ⟨rfl,_,Eq.trans (World.drewN_drewN _ _ _) (congrArg (World.drewN _) (Nat.add_assoc _ _ _))⟩))))
      go_roundg k2
      case measure=>have:=Mv.out;have:=bz.out;omega
      case rel=>exact ⟨(wrap64 (aE+1)),rs,H',⟨by have:=Mv.out;have:=bz.out;omega⟩,⟨bk⟩,⟨bl⟩⟩
   subst c8
   have H1:(some false)=some r:=by rw [if_pos rfl] at H;exact H
   clear H
   have H:=H1
   clear H1
   obtain rfl:=Option.some.inj H
   go_wp2
   repeat (go_quiet (fail);try go_wp2)
   go_ret
   exact ⟨by first|rfl|(simp [bq,bt]<;>rfl)|(simp [*,bq,bt]<;>rfl),bl⟩
/-! ### F171: function 171 -/
mutual
def eO.l0 : Nat → List (List Int) → Int → Int → List (List Int) → Option (Int)
 | 0,_,_,_,_=>none
 | k+1,x1,x5,bR,bJ=>if x5 < (x1.length:Int) then (if 0≤x5 then (if ((ah x1 x5).length:Int)=bR then (eO.l1 k x1 x5 0 bR bJ) else (some 2)) else (none)) else (some 0)
def eO.l1 : Nat → List (List Int) → Int → Int → Int → List (List Int) → Option (Int)
 | 0,_,_,_,_,_=>none
 | k+1,x1,x5,x6,bR,bJ=>if 0≤x5 then (if x5 < (x1.length:Int) then (if x6 < ((ah x1 x5).length:Int) then (if 0≤x6 then ((gy.f (rd (ah x1 x5) x6) (-200) 200).bind fun t107=>(if t107=true then (eO.l1 k x1 x5 (wrap64 (x6+1)) bR bJ) else (some 2))) else (none)) else (eO.l0 k x1 (wrap64 (x5+1)) bR bJ)) else (none)) else (none)
end
def eO.f (k:Nat) (af:Int) (aa:List (List Int)) (l1:List (List Int)):Option (Int):=(ey.f k af aa).bind fun t102=>(if t102=true then (eO.l0 k l1 0 af aa) else (some 1))
theorem eO.b8 : ∀ k, (∀ y0 y1 y2 y3, aj (eO.l0 k y0 y1 y2 y3) (eO.l0 (k + 1) y0 y1 y2 y3)) ∧ (∀ y0 y1 y2 y3 y4, aj (eO.l1 k y0 y1 y2 y3 y4) (eO.l1 (k + 1) y0 y1 y2 y3 y4))
 | 0=>⟨fun _ _ _ _ r h=>by simp [eO.l0] at h,fun _ _ _ _ _ r h=>by simp [eO.l1] at h⟩
 | k+1=>by
  obtain ⟨akk,ih1⟩:=eO.b8 k
  refine ⟨?_, ?_⟩ <;> intros <;> (first | unfold eO.l0 | unfold eO.l1) <;> repeat' first
   | (with_reducible first|exact akk _ _ _ _|exact ih1 _ _ _ _ _|exact ey.mono _ _ _|exact aj.refl _|exact aj.none _|refine aj.ite ?_ ?_|refine aj.bind ?_ (fun _=>?_))
   | exact akk _ _ _ _|exact ih1 _ _ _ _ _|exact ey.mono _ _ _|exact aj.none _|refine aj.ite ?_ ?_|refine aj.bind ?_ (fun _=>?_)
theorem eO.mono:∀ a0 a1 a2 k,aj (eO.f k a0 a1 a2) (eO.f (k+1) a0 a1 a2):=by
 intro a0 a1 a2 k
 obtain ⟨akk,ih1⟩:=eO.b8 k
 unfold eO.f
 repeat' first
  | (with_reducible first|exact akk _ _ _ _|exact ih1 _ _ _ _ _|exact ey.mono _ _ _|exact aj.refl _|exact aj.none _|refine aj.ite ?_ ?_|refine aj.bind ?_ (fun _=>?_))
  | exact akk _ _ _ _|exact ih1 _ _ _ _ _|exact ey.mono _ _ _|exact aj.none _|refine aj.ite ?_ ?_|refine aj.bind ?_ (fun _=>?_)
set_option maxHeartbeats 8000000 in
set_option maxRecDepth 100000 in
theorem eO.calls (k : Nat) (af : Int) (aq : Option Addr) (ak : Nat) (aa : List (List Int)) (A1 : Option Addr) (c1 : Nat) (l1 : List (List Int)) (r : Int) (w : World) (akv : Kd.C (Kd.slice 2 (Kd.int .i64)) w aq aa.length aa) (akw : aa.length ≤ ak) (cQ : Kd.C (Kd.slice 2 (Kd.int .i64)) w A1 l1.length l1) (ef : l1.length ≤ c1) (h : eO.f k af aa l1 = some r) :
  Calls Try.prog 171 #[.agg #[.int .i64 af,.slice aq aa.length ak],.slice A1 l1.length c1] w fun e w'=>e=.returned (.int .i64 r)∧Below w.heap.size w w':=by
 have j8:=Try.underlying31
 have bU:=k0 akv
 have cG:=k0 akw
 clear akv akw
 have ek:=k0 cQ
 have jZ:=k0 ef
 clear cQ ef
 have HB:=k0 (Below.refl w.heap.size w)
 have H:((ey.f k af aa).bind fun t102=>(if t102=true then (eO.l0 k l1 0 af aa) else (some 1)))=some r:=h
 clear h
 replace H:=Option.bind_eq_some_iff.mp H
 obtain ⟨t102,pV,H⟩:=H
 replace H:(if t102=true then (eO.l0 k l1 0 af aa) else (some 1))=some r:=H
 have A3:=k0 pV
 clear pV
 by_cases c4:t102=true
 case neg =>
  replace c4:=Bool.eq_false_iff.mpr c4
  subst c4
  have H1:(some 1)=some r:=by rw [if_neg (show ¬ (false=true) by decide)] at H;exact H
  clear H
  have H:=H1
  clear H1
  obtain rfl:=Option.some.inj H
  go_enter Try.func171,Try.ntmps171
  go_wp2_with (first|((with_reducible refine cj (N:=2) rfl ?_);refine dJ ?hg (N:=2) ?hd (cs:=#[.int .i64 af,.slice aq aa.length ak]) (t:=31) ?hr ?_;(case hd=>rfl);(case hg=>rfl);(case hr=>first|(go_simp;done)|(go_simp;rfl));intro ai hg Li aK hb;have ag:=k0 (aK);have aks:=k0 ((by rw [hg];exact (aU bl):w.heap.size≤ai));have ej:=aks;replace HB:=k0 (aI bl hb);clear hb aK hg;have Jo:Li.cell? ⟨ai,0,none⟩=some (.int .i64 af):=(av ag.out 0).trans rfl;have Jp:Li.cell? ⟨ai,1,none⟩=some (.slice aq aa.length ak):=(av ag.out 1).trans rfl;have JD:=aH ag.out 0;have JE:=aH ag.out 1)|(go_at_call 100;(with_reducible refine (ey.calls k af _ _ aa false _ ?akn ?aT A3.out).mono ?_);(case akn=>exact aC (Kd.bA bU.out HB.out));(case aT=>exact cG.out);rintro e w21 ⟨rfl,hb⟩;replace ag:=k0 (akj (g:=ai) (o:=sO af aq aa ak 31) bk hb);replace HB:=k0 (aI bl hb);(try clear hb)))
  go_ret
  exact ⟨by first|rfl|(simp [bq,bt]<;>rfl)|(simp [*,bq,bt]<;>rfl),bl⟩
 subst c4
 have H1:(eO.l0 k l1 0 af aa)=some r:=by rw [if_pos rfl] at H;exact H
 clear H
 have H:=H1
 clear H1
 have H':=k0 H
 clear H
 go_enter Try.func171,Try.ntmps171
 go_wp2_with (first|((with_reducible refine cj (N:=2) rfl ?_);refine dJ ?hg (N:=2) ?hd (cs:=#[.int .i64 af,.slice aq aa.length ak]) (t:=31) ?hr ?_;(case hd=>rfl);(case hg=>rfl);(case hr=>first|(go_simp;done)|(go_simp;rfl));intro ai hg w5 aK hb;have ag:=k0 (aK);have aks:=k0 ((by rw [hg];exact (aU bl):w.heap.size≤ai));have ej:=aks;replace HB:=k0 (aI bl hb);clear hb aK hg;have vz:w5.cell? ⟨ai,0,none⟩=some (.int .i64 af):=(av ag.out 0).trans rfl;have vA:w5.cell? ⟨ai,1,none⟩=some (.slice aq aa.length ak):=(av ag.out 1).trans rfl;have vE:=aH ag.out 0;have vF:=aH ag.out 1)|(go_at_call 100;(with_reducible refine (ey.calls k af _ _ aa true _ ?akn ?aT A3.out).mono ?_);(case akn=>exact aC (Kd.bA bU.out HB.out));(case aT=>exact cG.out);rintro e w7 ⟨rfl,hb⟩;replace ag:=k0 (akj (g:=ai) (o:=sO af aq aa ak 31) bk hb);replace HB:=k0 (aI bl hb);(try clear hb)))
 go_loopg [5] k (fun kq v5 w'=>∃ (aM:Int),v5=.int .i64 aM∧au (eO.l0 kq l1 aM af aa=some r)∧au (kq≤k)∧au (w'.heap[ai]?=some (sO af aq aa ak 31))∧au (Below w.heap.size w w'))
 case atStart=>exact ⟨(0),rs,H',⟨Nat.le_refl _⟩,⟨bk⟩,⟨bl⟩⟩
 case round =>
  clear H'
  (try clear c4);(try clear vz);(try clear vA);(try clear vE);(try clear vF)
  obtain ⟨aM,rfl,HA,akl,ag,HB⟩:=hrel
  cases gk with
  | zero=>exact absurd HA.out (by simp [eO.l0])
  | succ k1 =>
   have H:=HA.out
   clear HA
   simp only [eO.l0] at H
   by_cases c8:aM < (l1.length:Int)
   case neg =>
    rw [if_neg c8] at H
    have iX:decide (aM < (l1.length:Int))=false:=decide_eq_false c8
    clear c8
    obtain rfl:=Option.some.inj H
    go_wp2
    go_ret
    exact ⟨by first|rfl|(simp [bq,bt]<;>rfl)|(simp [*,bq,bt]<;>rfl),bl⟩
   rw [if_pos c8] at H
   have iX:=decide_eq_true c8
   clear c8
   replace H:=iS H;obtain ⟨c9,H⟩:=H
   have k8:=decide_eq_true c9
   clear c9
   by_cases c10:((ah l1 aM).length:Int)=af
   case neg =>
    rw [if_neg c10] at H
    have lB:(((ah l1 aM).length:Int) == af)=false:=beq_eq_false_iff_ne.mpr c10
    have u_:(((ah l1 aM).length:Int) != af)=true:=bne_iff_ne.mpr c10
    obtain rfl:=Option.some.inj H
    have dQ:0≤(aM:Int):=oD
    have dR:aM < (l1.length:Int):=oD
    obtain ⟨jf,uF,uY,e103,er,js,jq⟩:=cW ek.out aM dQ dR
    cases e103
    replace er:=hbc HB er
    have ak2:=k0 jq
    have uL:=k0 js
    clear jq js
    replace dQ:=eq_true dQ
    replace dR:=eq_true dR
    have Ch:wr.cell? ⟨ai,0,none⟩=some (.int .i64 af):=(av ag.out 0).trans rfl
    have Ci:wr.cell? ⟨ai,1,none⟩=some (.slice aq aa.length ak):=(av ag.out 1).trans rfl
    have Co:=aH ag.out 0
    have Cq:=aH ag.out 1
    go_wp2
    repeat (go_quiet (fail);try go_wp2)
    go_ret
    exact ⟨by first|rfl|(simp [bq,bt]<;>rfl)|(simp [*,bq,bt]<;>rfl),bl⟩
   rw [if_pos c10] at H
   have lB:(((ah l1 aM).length:Int) == af)=true:=beq_iff_eq.mpr c10
   have u_:(((ah l1 aM).length:Int) != af)=false:=bne_eq_false_iff_eq.mpr c10
   clear c10
   have H':=k0 H
   clear H
   have dQ:0≤(aM:Int):=oD
   have dR:aM < (l1.length:Int):=oD
   obtain ⟨jf,uF,uY,e103,er,js,jq⟩:=cW ek.out aM dQ dR
   cases e103
   replace er:=hbc HB er
   have ak2:=k0 jq
   have uL:=k0 js
   clear jq js
   replace dQ:=eq_true dQ
   replace dR:=eq_true dR
   have vv:wr.cell? ⟨ai,0,none⟩=some (.int .i64 af):=(av ag.out 0).trans rfl
   have vw:wr.cell? ⟨ai,1,none⟩=some (.slice aq aa.length ak):=(av ag.out 1).trans rfl
   have vC:=aH ag.out 0
   have vD:=aH ag.out 1
   go_wp2
   repeat (go_quiet (fail);try go_wp2)
   go_loopg [6] k1 (fun kq v6 w'=>∃ (gN:Int),v6=.int .i64 gN∧au (eO.l1 kq l1 aM gN af aa=some r)∧au (kq≤k1)∧au (w'.heap[ai]?=some (sO af aq aa ak 31))∧au (Below w.heap.size w w'))
   case atStart=>exact ⟨(0),rs,H',⟨Nat.le_refl _⟩,⟨bk⟩,⟨bl⟩⟩
   case round =>
    clear H'
    (try clear c4);(try clear c8);(try clear iX);(try clear c9);(try clear k8);(try clear c10);(try clear lB);(try clear u_);(try clear vv);(try clear vw);(try clear vz);(try clear vA);(try clear vC);(try clear vD);(try clear vE);(try clear vF);(try clear er);(try clear dQ);(try clear dR)
    obtain ⟨gN,rfl,HA,bz,ag,HB⟩:=hrel
    cases gk with
    | zero=>exact absurd HA.out (by simp [eO.l1])
    | succ k2 =>
     have H:=HA.out
     clear HA
     simp only [eO.l1] at H
     replace H:=iS H;obtain ⟨c12,H⟩:=H
     have rG:=decide_eq_true c12
     clear c12
     replace H:=iS H;obtain ⟨c13,H⟩:=H
     have kQ:=decide_eq_true c13
     clear c13
     by_cases c14:gN < ((ah l1 aM).length:Int)
     case neg =>
      rw [if_neg c14] at H
      have ku:decide (gN < ((ah l1 aM).length:Int))=false:=decide_eq_false c14
      clear c14
      have H':=k0 H
      clear H
      have cS:0≤(aM:Int):=oD
      have cT:aM < (l1.length:Int):=oD
      obtain ⟨ko,uG,uZ,e104,cM,lp,lg⟩:=cW ek.out aM cS cT
      obtain rfl:jf=ko:=(by injection e104)
      replace cM:=hbc HB cM
      have rm:=k0 lg
      have uM:=k0 lp
      clear lg lp
      replace cS:=eq_true cS
      replace cT:=eq_true cT
      go_wp2
      go_roundg k2
      case measure=>have:=akl.out;have:=bz.out;omega
      case rel=>exact ⟨(wrap64 (aM+1)),rs,H',⟨by have:=akl.out;have:=bz.out;omega⟩,⟨bk⟩,⟨bl⟩⟩
     rw [if_pos c14] at H
     have ku:=decide_eq_true c14
     clear c14
     replace H:=iS H;obtain ⟨c15,H⟩:=H
     have kR:=decide_eq_true c15
     clear c15
     replace H:=Option.bind_eq_some_iff.mp H
     obtain ⟨t107,pU,H⟩:=H
     replace H:(if t107=true then (eO.l1 k2 l1 aM (wrap64 (gN+1)) af aa) else (some 2))=some r:=H
     have oF:=k0 pU
     clear pU
     by_cases c17:t107=true
     case neg =>
      replace c17:=Bool.eq_false_iff.mpr c17
      subst c17
      have H1:(some 2)=some r:=by rw [if_neg (show ¬ (false=true) by decide)] at H;exact H
      clear H
      have H:=H1
      clear H1
      obtain rfl:=Option.some.inj H
      have cS:0≤(aM:Int):=oD
      have cT:aM < (l1.length:Int):=oD
      obtain ⟨ko,uG,uZ,e104,cM,lp,lg⟩:=cW ek.out aM cS cT
      obtain rfl:jf=ko:=(by injection e104)
      replace cM:=hbc HB cM
      have rm:=k0 lg
      have uM:=k0 lp
      clear lg lp
      replace cS:=eq_true cS
      replace cT:=eq_true cT
      have cX:0≤(aM:Int):=oD
      have cU:aM < (l1.length:Int):=oD
      obtain ⟨kr,ama,BA,e105,dY,qg,qd⟩:=cW ek.out aM cX cU
      obtain rfl:jf=kr:=(by injection e105)
      replace dY:=hbc HB dY
      have p4:=k0 qd
      have D7:=k0 qg
      clear qd qg
      replace cX:=eq_true cX
      replace cU:=eq_true cU
      have bf:=Option.some.inj (cM.symm.trans dY)
      injection bf with bf dn dm
      subst bf
      subst dm
      clear dn
      have dN:0≤(gN:Int):=oD
      have dH:gN < ((ah l1 aM).length:Int):=oD
      obtain ⟨gB,e106,dF⟩:=Kd.bH p4.out gN dN dH
      cases e106
      replace dF:=hbc HB dF
      replace dN:=eq_true dN
      replace dH:=eq_true dH
      go_wp2_with (first|(go_at_call 172;(with_reducible refine (gy.calls (rd (ah l1 aM) gN) (-200) 200 false _ oF.out).mono ?_);rintro e w' ⟨rfl,⟨nd,rfl⟩⟩;(try first|exact ⟨rfl,_,World.drewN_drewN _ _ _⟩|exact ⟨rfl,_,Eq.trans (World.drewN_drewN _ _ _) (congrArg (World.drewN _) (Nat.add_assoc _ _ _))⟩)))
      go_ret
      exact ⟨by first|rfl|(simp [bq,bt]<;>rfl)|(simp [*,bq,bt]<;>rfl),bl⟩
     subst c17
     have H1:(eO.l1 k2 l1 aM (wrap64 (gN+1)) af aa)=some r:=by rw [if_pos rfl] at H;exact H
     clear H
     have H:=H1
     clear H1
     have H':=k0 H
     clear H
     have cS:0≤(aM:Int):=oD
     have cT:aM < (l1.length:Int):=oD
     obtain ⟨ko,uG,uZ,e104,cM,lp,lg⟩:=cW ek.out aM cS cT
     obtain rfl:jf=ko:=(by injection e104)
     replace cM:=hbc HB cM
     have rm:=k0 lg
     have uM:=k0 lp
     clear lg lp
     replace cS:=eq_true cS
     replace cT:=eq_true cT
     have cX:0≤(aM:Int):=oD
     have cU:aM < (l1.length:Int):=oD
     obtain ⟨kr,ama,BA,e105,dY,qg,qd⟩:=cW ek.out aM cX cU
     obtain rfl:jf=kr:=(by injection e105)
     replace dY:=hbc HB dY
     have p4:=k0 qd
     have D7:=k0 qg
     clear qd qg
     replace cX:=eq_true cX
     replace cU:=eq_true cU
     have bf:=Option.some.inj (cM.symm.trans dY)
     injection bf with bf dn dm
     subst bf
     subst dm
     clear dn
     have dN:0≤(gN:Int):=oD
     have dH:gN < ((ah l1 aM).length:Int):=oD
     obtain ⟨gB,e106,dF⟩:=Kd.bH p4.out gN dN dH
     cases e106
     replace dF:=hbc HB dF
     replace dN:=eq_true dN
     replace dH:=eq_true dH
     go_wp2_with (first|(go_at_call 172;(with_reducible refine (gy.calls (rd (ah l1 aM) gN) (-200) 200 true _ oF.out).mono ?_);rintro e w' ⟨rfl,⟨nd,rfl⟩⟩;(try first|exact ⟨rfl,_,World.drewN_drewN _ _ _⟩|exact ⟨rfl,_,Eq.trans (World.drewN_drewN _ _ _) (congrArg (World.drewN _) (Nat.add_assoc _ _ _))⟩)))
     go_roundg k2
     case measure=>have:=akl.out;have:=bz.out;omega
     case rel=>exact ⟨(wrap64 (gN+1)),rs,H',⟨by have:=akl.out;have:=bz.out;omega⟩,⟨bk⟩,⟨bl⟩⟩
end Go.Proofs.Ytoebojnhchocaaa.C
/- Set with little white space, by a program. -/
