/- The functions that one law reaches, each as a Lean function, and that Go's call comes to what it says. Condition of each: that the Lean function answers (is not none). -/
import Derived.Test.YtoebojnhchocaaaDx0
import Derived.Test.YtoebojnhchocaaaDx2
namespace Go.Proofs.Ytoebojnhchocaaa.D
open Go.RowKit Go.Proofs.bR.eC Go.Proofs.bR.je Go.Proofs.bR.jO
attribute [local go_sem] max2_int min2_int max_two min_two max_three min_three max_four min_four   -- for this text's walks alone
set_option linter.unusedVariables false
set_option linter.unusedSimpArgs false
/-! ### F100: function 100 -/
mutual
def eA.j0 : Nat → Bool → Int → List (List Int) → Option (Bool)
 | 0,_,_,_=>none
 | k+1,gO,bF,bE=>if gO=true then (some false) else (eA.l0 k 0 bF bE)
def eA.l0 : Nat → Int → Int → List (List Int) → Option (Bool)
 | 0,_,_,_=>none
 | k+1,x3,bF,bE=>if x3 < (bE.length:Int) then (if 0≤x3 then (if ((ah bE x3).length:Int)=2 then (if 0 < ((ah bE x3).length:Int) then ((gy.f (rd (ah bE x3) 0) 0 (wrap64 (bF - 1))).bind fun t106=>(if t106=true then (if 1 < ((ah bE x3).length:Int) then ((gy.f (rd (ah bE x3) 1) 0 (wrap64 (bF - 1))).bind fun t109=>(if t109=true then (eA.l0 k (wrap64 (x3+1)) bF bE) else (some false))) else (none)) else (some false))) else (none)) else (some false)) else (none)) else (some true)
end
def eA.f (k:Nat) (af:Int) (aa:List (List Int)):Option (Bool):=(gy.f af 1 8).bind fun t102=>(if t102=true then (eA.j0 k (decide ((aa.length:Int) > 10)) af aa) else (eA.j0 k true af aa))
theorem eA.bU : ∀ k, (∀ y0 y1 y2, aj (eA.j0 k y0 y1 y2) (eA.j0 (k + 1) y0 y1 y2)) ∧ (∀ y0 y1 y2, aj (eA.l0 k y0 y1 y2) (eA.l0 (k + 1) y0 y1 y2))
 | 0=>⟨fun _ _ _ r h=>by simp [eA.j0] at h,fun _ _ _ r h=>by simp [eA.l0] at h⟩
 | k+1=>by
  obtain ⟨alg,ih1⟩:=eA.bU k
  refine ⟨?_, ?_⟩ <;> intros <;> (first | unfold eA.j0 | unfold eA.l0) <;> repeat' first
   | (with_reducible first|exact alg _ _ _|exact ih1 _ _ _|exact aj.refl _|exact aj.none _|refine aj.ite ?_ ?_|refine aj.bind ?_ (fun _=>?_))
   | exact alg _ _ _|exact ih1 _ _ _|exact aj.none _|refine aj.ite ?_ ?_|refine aj.bind ?_ (fun _=>?_)
theorem eA.mono:∀ a0 a1 k,aj (eA.f k a0 a1) (eA.f (k+1) a0 a1):=by
 intro a0 a1 k
 obtain ⟨alg,ih1⟩:=eA.bU k
 unfold eA.f
 repeat' first
  | (with_reducible first|exact alg _ _ _|exact ih1 _ _ _|exact aj.refl _|exact aj.none _|refine aj.ite ?_ ?_|refine aj.bind ?_ (fun _=>?_))
  | exact alg _ _ _|exact ih1 _ _ _|exact aj.none _|refine aj.ite ?_ ?_|refine aj.bind ?_ (fun _=>?_)
set_option maxHeartbeats 8000000 in
set_option maxRecDepth 100000 in
theorem eA.calls (k : Nat) (af : Int) (aq : Option Addr) (ak : Nat) (aa : List (List Int)) (r : Bool) (w : World) (aly : Kd.C (Kd.slice 2 (Kd.int .i64)) w aq aa.length aa) (ck : aa.length ≤ ak) (h : eA.f k af aa = some r) :
  Calls Try.prog 100 #[.agg #[.int .i64 af,.slice aq aa.length ak]] w fun e w'=>e=.returned (.bool r)∧Below w.heap.size w w':=by
 have j9:=Try.underlying31
 have bZ:=k0 aly
 have cD:=k0 ck
 clear aly ck
 have HB:=k0 (Below.refl w.heap.size w)
 have H:((gy.f af 1 8).bind fun t102=>(if t102=true then (eA.j0 k (decide ((aa.length:Int) > 10)) af aa) else (eA.j0 k true af aa)))=some r:=h
 clear h
 have wE:=k0 H
 clear H
 go_enter Try.func100,Try.ntmps100
 go_upto_region 1 with (first|((with_reducible refine cj (N:=1) rfl ?_);(try (refine AP (by rfl) ?_;dsimp only));refine dK ?hg (N:=1) ?hd (cs:=#[.int .i64 af,.slice aq aa.length ak]) (t:=31) ?hr ?_;(case hd=>rfl);(case hg=>rfl);(case hr=>first|(go_simp;done)|(go_simp;rfl));intro ai hg w3 aJ hb;have ag:=k0 (aJ);have b8:=k0 ((by rw [hg];exact (alk bl):w.heap.size≤ai));have eB:=b8;replace HB:=k0 (aI bl hb);clear hb aJ hg))
 repeat (go_quiet (first|((with_reducible refine cj (N:=1) rfl ?_);(try (refine AP (by rfl) ?_;dsimp only));refine dK ?hg (N:=1) ?hd (cs:=#[.int .i64 af,.slice aq aa.length ak]) (t:=31) ?hr ?_;(case hd=>rfl);(case hg=>rfl);(case hr=>first|(go_simp;done)|(go_simp;rfl));intro ai hg w3 aJ hb;have ag:=k0 (aJ);have b8:=k0 ((by rw [hg];exact (alk bl):w.heap.size≤ai));have eB:=b8;replace HB:=k0 (aI bl hb);clear hb aJ hg));go_upto_region 1 with (first|((with_reducible refine cj (N:=1) rfl ?_);(try (refine AP (by rfl) ?_;dsimp only));refine dK ?hg (N:=1) ?hd (cs:=#[.int .i64 af,.slice aq aa.length ak]) (t:=31) ?hr ?_;(case hd=>rfl);(case hg=>rfl);(case hr=>first|(go_simp;done)|(go_simp;rfl));intro ai hg w3 aJ hb;have ag:=k0 (aJ);have b8:=k0 ((by rw [hg];exact (alk bl):w.heap.size≤ai));have eB:=b8;replace HB:=k0 (aI bl hb);clear hb aJ hg)))
 (try simp only [Act.put,zI,zZ,zS])
 go_cut [13] (fun zE wc=>∃ (kq:Nat) (aW:Bool),zE=.bool aW∧au (eA.j0 kq aW af aa=some r)∧au (kq≤k)∧au (wc.heap[ai]?=some (sO af aq aa ak 31))∧au (Below w.heap.size w wc))
 case first =>
  have H:=wE.out
  clear wE
  replace H:=Option.bind_eq_some_iff.mp H
  obtain ⟨t102,lM,H⟩:=H
  replace H:(if t102=true then (eA.j0 k (decide ((aa.length:Int) > 10)) af aa) else (eA.j0 k true af aa))=some r:=H
  have A4:=k0 lM
  clear lM
  by_cases c5:t102=true
  case neg =>
   replace c5:=Bool.eq_false_iff.mpr c5
   subst c5
   have H1:(eA.j0 k true af aa)=some r:=by rw [if_neg (show ¬ (false=true) by decide)] at H;exact H
   clear H
   have H:=H1
   clear H1
   have H':=k0 H
   clear H
   have rY:w3.cell? ⟨ai,0,none⟩=some (.int .i64 af):=(av ag.out 0).trans rfl
   have rZ:w3.cell? ⟨ai,1,none⟩=some (.slice aq aa.length ak):=(av ag.out 1).trans rfl
   have r5:=aD ag.out 0
   have r6:=aD ag.out 1
   go_wp2_with (first|(go_at_call 172;(with_reducible refine (gy.calls af 1 8 false _ A4.out).mono ?_);rintro e w' ⟨rfl,⟨nd,rfl⟩⟩;(try first|exact ⟨rfl,_,World.drewN_drewN _ _ _⟩|exact ⟨rfl,_,Eq.trans (World.drewN_drewN _ _ _) (congrArg (World.drewN _) (Nat.add_assoc _ _ _))⟩)))
   repeat (go_quiet (first|(go_at_call 172;(with_reducible refine (gy.calls af 1 8 false _ A4.out).mono ?_);rintro e w' ⟨rfl,⟨nd,rfl⟩⟩;(try first|exact ⟨rfl,_,World.drewN_drewN _ _ _⟩|exact ⟨rfl,_,Eq.trans (World.drewN_drewN _ _ _) (congrArg (World.drewN _) (Nat.add_assoc _ _ _))⟩)));try go_wp2_with (first|(go_at_call 172;(with_reducible refine (gy.calls af 1 8 false _ A4.out).mono ?_);rintro e w' ⟨rfl,⟨nd,rfl⟩⟩;(try first|exact ⟨rfl,_,World.drewN_drewN _ _ _⟩|exact ⟨rfl,_,Eq.trans (World.drewN_drewN _ _ _) (congrArg (World.drewN _) (Nat.add_assoc _ _ _))⟩))))
   go_meet
   case rel=>exact ⟨_,(true),rs,H',⟨by first|omega|exact Nat.le_refl _⟩,⟨bk⟩,⟨bl⟩⟩
  subst c5
  have H1:(eA.j0 k (decide ((aa.length:Int) > 10)) af aa)=some r:=by rw [if_pos rfl] at H;exact H
  clear H
  have H:=H1
  clear H1
  have H':=k0 H
  clear H
  have qp:w3.cell? ⟨ai,0,none⟩=some (.int .i64 af):=(av ag.out 0).trans rfl
  have qq:w3.cell? ⟨ai,1,none⟩=some (.slice aq aa.length ak):=(av ag.out 1).trans rfl
  have al8:=aD ag.out 0
  have qt:=aD ag.out 1
  go_wp2_with (first|(go_at_call 172;(with_reducible refine (gy.calls af 1 8 true _ A4.out).mono ?_);rintro e w' ⟨rfl,⟨nd,rfl⟩⟩;(try first|exact ⟨rfl,_,World.drewN_drewN _ _ _⟩|exact ⟨rfl,_,Eq.trans (World.drewN_drewN _ _ _) (congrArg (World.drewN _) (Nat.add_assoc _ _ _))⟩)))
  repeat (go_quiet (first|(go_at_call 172;(with_reducible refine (gy.calls af 1 8 true _ A4.out).mono ?_);rintro e w' ⟨rfl,⟨nd,rfl⟩⟩;(try first|exact ⟨rfl,_,World.drewN_drewN _ _ _⟩|exact ⟨rfl,_,Eq.trans (World.drewN_drewN _ _ _) (congrArg (World.drewN _) (Nat.add_assoc _ _ _))⟩)));try go_wp2_with (first|(go_at_call 172;(with_reducible refine (gy.calls af 1 8 true _ A4.out).mono ?_);rintro e w' ⟨rfl,⟨nd,rfl⟩⟩;(try first|exact ⟨rfl,_,World.drewN_drewN _ _ _⟩|exact ⟨rfl,_,Eq.trans (World.drewN_drewN _ _ _) (congrArg (World.drewN _) (Nat.add_assoc _ _ _))⟩))))
  go_meet
  case rel=>exact ⟨_,(decide ((aa.length:Int) > 10)),rs,H',⟨by first|omega|exact Nat.le_refl _⟩,⟨bk⟩,⟨bl⟩⟩
 case rest =>
  clear wE
  (try clear c5);(try clear qp);(try clear qq);(try clear rY);(try clear rZ);(try clear al8);(try clear qt);(try clear r5);(try clear r6)
  obtain ⟨kq,aW,rfl,HA,Nv,ag,HB⟩:=hcut
  cases kq with
  | zero=>exact absurd HA.out (by simp [eA.j0])
  | succ K8 =>
   have H:=HA.out
   clear HA
   simp only [eA.j0] at H
   by_cases c8:aW=true
   case neg =>
    replace c8:=Bool.eq_false_iff.mpr c8
    subst c8
    have H1:(eA.l0 K8 0 af aa)=some r:=by rw [if_neg (show ¬ (false=true) by decide)] at H;exact H
    clear H
    have H:=H1
    clear H1
    have H':=k0 H
    clear H
    go_wp2
    repeat (go_quiet (fail);try go_wp2)
    go_loopg [3] K8 (fun kq v3 w'=>∃ (ale:Int),v3=.int .i64 ale∧au (eA.l0 kq ale af aa=some r)∧au (kq≤K8)∧au (w'.heap[ai]?=some (sO af aq aa ak 31))∧au (Below w.heap.size w w'))
    case atStart=>exact ⟨(0),rs,H',⟨Nat.le_refl _⟩,⟨bk⟩,⟨bl⟩⟩
    case round =>
     clear H'
     (try clear c5);(try clear c8);(try clear qp);(try clear qq);(try clear rY);(try clear rZ);(try clear al8);(try clear qt);(try clear r5);(try clear r6)
     obtain ⟨ale,rfl,HA,bB,ag,HB⟩:=hrel
     cases gk with
     | zero=>exact absurd HA.out (by simp [eA.l0])
     | succ k2 =>
      have H:=HA.out
      clear HA
      simp only [eA.l0] at H
      by_cases c9:ale < (aa.length:Int)
      case neg =>
       rw [if_neg c9] at H
       have mD:decide (ale < (aa.length:Int))=false:=decide_eq_false c9
       clear c9
       obtain rfl:=Option.some.inj H
       have QH:wr.cell? ⟨ai,0,none⟩=some (.int .i64 af):=(av ag.out 0).trans rfl
       have QI:wr.cell? ⟨ai,1,none⟩=some (.slice aq aa.length ak):=(av ag.out 1).trans rfl
       have QX:=aD ag.out 0
       have QY:=aD ag.out 1
       go_wp2
       repeat (go_quiet (fail);try go_wp2)
       go_ret
       exact ⟨by first|rfl|(simp [bz,bA]<;>rfl)|(simp [*,bz,bA]<;>rfl),bl⟩
      rw [if_pos c9] at H
      have mD:=decide_eq_true c9
      clear c9
      replace H:=iS H;obtain ⟨c10,H⟩:=H
      have lO:=decide_eq_true c10
      clear c10
      by_cases c11:((ah aa ale).length:Int)=2
      case neg =>
       rw [if_neg c11] at H
       have i_:(((ah aa ale).length:Int) == 2)=false:=beq_eq_false_iff_ne.mpr c11
       have oc:(((ah aa ale).length:Int) != 2)=true:=bne_iff_ne.mpr c11
       obtain rfl:=Option.some.inj H
       have yQ:wr.cell? ⟨ai,0,none⟩=some (.int .i64 af):=(av ag.out 0).trans rfl
       have Kq:wr.cell? ⟨ai,1,none⟩=some (.slice aq aa.length ak):=(av ag.out 1).trans rfl
       have yU:=aD ag.out 0
       have KF:=aD ag.out 1
       have dP:0≤(ale:Int):=oD
       have dQ:ale < (aa.length:Int):=oD
       obtain ⟨iZ,uU,vv,e103,alC,jn,jl⟩:=cX bZ.out ale dP dQ
       cases e103
       replace alC:=hbc HB alC
       have al7:=k0 jl
       have u_:=k0 jn
       clear jl jn
       replace dP:=eq_true dP
       replace dQ:=eq_true dQ
       go_wp2
       repeat (go_quiet (fail);try go_wp2)
       go_ret
       exact ⟨by first|rfl|(simp [bz,bA]<;>rfl)|(simp [*,bz,bA]<;>rfl),bl⟩
      rw [if_pos c11] at H
      have i_:(((ah aa ale).length:Int) == 2)=true:=beq_iff_eq.mpr c11
      have oc:(((ah aa ale).length:Int) != 2)=false:=bne_eq_false_iff_eq.mpr c11
      clear c11
      replace H:=iS H;obtain ⟨c12,H⟩:=H
      have rN:=decide_eq_true c12
      have Av:decide (0 < (ah aa ale).length)=true:=decide_eq_true (by omega)
      clear c12
      replace H:=Option.bind_eq_some_iff.mp H
      obtain ⟨t106,wo,H⟩:=H
      replace H:(if t106=true then (if 1 < ((ah aa ale).length:Int) then ((gy.f (rd (ah aa ale) 1) 0 (wrap64 (af - 1))).bind fun t109=>(if t109=true then (eA.l0 k2 (wrap64 (ale+1)) af aa) else (some false))) else (none)) else (some false))=some r:=H
      have nA:=k0 wo
      clear wo
      by_cases c14:t106=true
      case neg =>
       replace c14:=Bool.eq_false_iff.mpr c14
       subst c14
       have H1:(some false)=some r:=by rw [if_neg (show ¬ (false=true) by decide)] at H;exact H
       clear H
       have H:=H1
       clear H1
       obtain rfl:=Option.some.inj H
       have C6:wr.cell? ⟨ai,0,none⟩=some (.int .i64 af):=(av ag.out 0).trans rfl
       have C7:wr.cell? ⟨ai,1,none⟩=some (.slice aq aa.length ak):=(av ag.out 1).trans rfl
       have Dd:=aD ag.out 0
       have De:=aD ag.out 1
       have dP:0≤(ale:Int):=oD
       have dQ:ale < (aa.length:Int):=oD
       obtain ⟨iZ,uU,vv,e103,alC,jn,jl⟩:=cX bZ.out ale dP dQ
       cases e103
       replace alC:=hbc HB alC
       have al7:=k0 jl
       have u_:=k0 jn
       clear jl jn
       replace dP:=eq_true dP
       replace dQ:=eq_true dQ
       have cT:0≤(ale:Int):=oD
       have cU:ale < (aa.length:Int):=oD
       obtain ⟨kF,uV,vw,e104,cM,al0,lH⟩:=cX bZ.out ale cT cU
       obtain rfl:iZ=kF:=(by injection e104)
       replace cM:=hbc HB cM
       have rG:=k0 lH
       have amv:=k0 al0
       clear lH al0
       replace cT:=eq_true cT
       replace cU:=eq_true cU
       have bh:=Option.some.inj (alC.symm.trans cM)
       injection bh with bh dm di
       subst bh
       subst di
       clear dm
       have alz:0≤(0:Int):=(by omega)
       have cV:0 < ((ah aa ale).length:Int):=oD
       obtain ⟨kG,e105,dW⟩:=Kd.bJ rG.out 0 alz cV
       cases e105
       have Ep:(0 < (ah aa ale).length)=True:=eq_true (by omega)
       (try rw [show ((0:Int)).toNat=0 from rfl] at dW)
       (try rw [Addr.add_zero'] at dW)
       replace dW:=hbc HB dW
       replace alz:=eq_true alz
       replace cV:=eq_true cV
       go_wp2_with (first|(go_at_call 172;(with_reducible refine (gy.calls (rd (ah aa ale) 0) 0 (wrap64 (af - 1)) false _ nA.out).mono ?_);rintro e w' ⟨rfl,⟨nd,rfl⟩⟩;(try first|exact ⟨rfl,_,World.drewN_drewN _ _ _⟩|exact ⟨rfl,_,Eq.trans (World.drewN_drewN _ _ _) (congrArg (World.drewN _) (Nat.add_assoc _ _ _))⟩)))
       repeat (go_quiet (first|(go_at_call 172;(with_reducible refine (gy.calls (rd (ah aa ale) 0) 0 (wrap64 (af - 1)) false _ nA.out).mono ?_);rintro e w' ⟨rfl,⟨nd,rfl⟩⟩;(try first|exact ⟨rfl,_,World.drewN_drewN _ _ _⟩|exact ⟨rfl,_,Eq.trans (World.drewN_drewN _ _ _) (congrArg (World.drewN _) (Nat.add_assoc _ _ _))⟩)));try go_wp2_with (first|(go_at_call 172;(with_reducible refine (gy.calls (rd (ah aa ale) 0) 0 (wrap64 (af - 1)) false _ nA.out).mono ?_);rintro e w' ⟨rfl,⟨nd,rfl⟩⟩;(try first|exact ⟨rfl,_,World.drewN_drewN _ _ _⟩|exact ⟨rfl,_,Eq.trans (World.drewN_drewN _ _ _) (congrArg (World.drewN _) (Nat.add_assoc _ _ _))⟩))))
       go_ret
       exact ⟨by first|rfl|(simp [bz,bA]<;>rfl)|(simp [*,bz,bA]<;>rfl),bl⟩
      subst c14
      have H1:(if 1 < ((ah aa ale).length:Int) then ((gy.f (rd (ah aa ale) 1) 0 (wrap64 (af - 1))).bind fun t109=>(if t109=true then (eA.l0 k2 (wrap64 (ale+1)) af aa) else (some false))) else (none))=some r:=by rw [if_pos rfl] at H;exact H
      clear H
      have H:=H1
      clear H1
      replace H:=iS H;obtain ⟨c15,H⟩:=H
      have jD:=decide_eq_true c15
      have oV:decide (1 < (ah aa ale).length)=true:=decide_eq_true (by omega)
      clear c15
      replace H:=Option.bind_eq_some_iff.mp H
      obtain ⟨t109,al4,H⟩:=H
      replace H:(if t109=true then (eA.l0 k2 (wrap64 (ale+1)) af aa) else (some false))=some r:=H
      have oL:=k0 al4
      clear al4
      by_cases c17:t109=true
      case neg =>
       replace c17:=Bool.eq_false_iff.mpr c17
       subst c17
       have H1:(some false)=some r:=by rw [if_neg (show ¬ (false=true) by decide)] at H;exact H
       clear H
       have H:=H1
       clear H1
       obtain rfl:=Option.some.inj H
       have sS:wr.cell? ⟨ai,0,none⟩=some (.int .i64 af):=(av ag.out 0).trans rfl
       have yP:wr.cell? ⟨ai,1,none⟩=some (.slice aq aa.length ak):=(av ag.out 1).trans rfl
       have amk:=aD ag.out 0
       have yT:=aD ag.out 1
       have dP:0≤(ale:Int):=oD
       have dQ:ale < (aa.length:Int):=oD
       obtain ⟨iZ,uU,vv,e103,alC,jn,jl⟩:=cX bZ.out ale dP dQ
       cases e103
       replace alC:=hbc HB alC
       have al7:=k0 jl
       have u_:=k0 jn
       clear jl jn
       replace dP:=eq_true dP
       replace dQ:=eq_true dQ
       have cT:0≤(ale:Int):=oD
       have cU:ale < (aa.length:Int):=oD
       obtain ⟨kF,uV,vw,e104,cM,al0,lH⟩:=cX bZ.out ale cT cU
       obtain rfl:iZ=kF:=(by injection e104)
       replace cM:=hbc HB cM
       have rG:=k0 lH
       have amv:=k0 al0
       clear lH al0
       replace cT:=eq_true cT
       replace cU:=eq_true cU
       have bh:=Option.some.inj (alC.symm.trans cM)
       injection bh with bh dm di
       subst bh
       subst di
       clear dm
       have alz:0≤(0:Int):=(by omega)
       have cV:0 < ((ah aa ale).length:Int):=oD
       obtain ⟨kG,e105,dW⟩:=Kd.bJ rG.out 0 alz cV
       cases e105
       have Ep:(0 < (ah aa ale).length)=True:=eq_true (by omega)
       (try rw [show ((0:Int)).toNat=0 from rfl] at dW)
       (try rw [Addr.add_zero'] at dW)
       replace dW:=hbc HB dW
       replace alz:=eq_true alz
       replace cV:=eq_true cV
       have gi:0≤(ale:Int):=oD
       have gl:ale < (aa.length:Int):=oD
       obtain ⟨pH,EJ,Fs,e107,fN,qx,qv⟩:=cX bZ.out ale gi gl
       obtain rfl:iZ=pH:=(by injection e107)
       replace fN:=hbc HB fN
       have amx:=k0 qv
       have EX:=k0 qx
       clear qv qx
       replace gi:=eq_true gi
       replace gl:=eq_true gl
       have bh:=Option.some.inj (alC.symm.trans fN)
       injection bh with bh dm di
       subst bh
       subst di
       clear dm
       have ef:0≤(1:Int):=(by omega)
       have dR:1 < ((ah aa ale).length:Int):=oD
       obtain ⟨lu,e108,fu⟩:=Kd.bJ amx.out 1 ef dR
       cases e108
       (try simp only [show (1:Int).toNat=1 from rfl,Nat.reduceMul,Nat.reduceEqDiff,Go.Addr.add,↓reduceIte] at fu)
       have aed:(1 < (ah aa ale).length)=True:=eq_true (by omega)
       (try rw [show ((1:Int)).toNat=1 from rfl] at fu)
       replace fu:=hbc HB fu
       replace ef:=eq_true ef
       replace dR:=eq_true dR
       go_wp2_with (first|(go_at_call 172;(with_reducible refine (gy.calls (rd (ah aa ale) 0) 0 (wrap64 (af - 1)) true _ nA.out).mono ?_);rintro e w' ⟨rfl,⟨nd,rfl⟩⟩;(try first|exact ⟨rfl,_,World.drewN_drewN _ _ _⟩|exact ⟨rfl,_,Eq.trans (World.drewN_drewN _ _ _) (congrArg (World.drewN _) (Nat.add_assoc _ _ _))⟩))|(go_at_call 172;(with_reducible refine (gy.calls (rd (ah aa ale) 1) 0 (wrap64 (af - 1)) false _ oL.out).mono ?_);rintro e w' ⟨rfl,⟨nd,rfl⟩⟩;(try first|exact ⟨rfl,_,World.drewN_drewN _ _ _⟩|exact ⟨rfl,_,Eq.trans (World.drewN_drewN _ _ _) (congrArg (World.drewN _) (Nat.add_assoc _ _ _))⟩)))
       repeat (go_quiet (first|(go_at_call 172;(with_reducible refine (gy.calls (rd (ah aa ale) 0) 0 (wrap64 (af - 1)) true _ nA.out).mono ?_);rintro e w' ⟨rfl,⟨nd,rfl⟩⟩;(try first|exact ⟨rfl,_,World.drewN_drewN _ _ _⟩|exact ⟨rfl,_,Eq.trans (World.drewN_drewN _ _ _) (congrArg (World.drewN _) (Nat.add_assoc _ _ _))⟩))|(go_at_call 172;(with_reducible refine (gy.calls (rd (ah aa ale) 1) 0 (wrap64 (af - 1)) false _ oL.out).mono ?_);rintro e w' ⟨rfl,⟨nd,rfl⟩⟩;(try first|exact ⟨rfl,_,World.drewN_drewN _ _ _⟩|exact ⟨rfl,_,Eq.trans (World.drewN_drewN _ _ _) (congrArg (World.drewN _) (Nat.add_assoc _ _ _))⟩)));try go_wp2_with (first|(go_at_call 172;(with_reducible refine (gy.calls (rd (ah aa ale) 0) 0 (wrap64 (af - 1)) true _ nA.out).mono ?_);rintro e w' ⟨rfl,⟨nd,rfl⟩⟩;(try first|exact ⟨rfl,_,World.drewN_drewN _ _ _⟩|exact ⟨rfl,_,Eq.trans (World.drewN_drewN _ _ _) (congrArg (World.drewN _) (Nat.add_assoc _ _ _))⟩))|(go_at_call 172;(with_reducible refine (gy.calls (rd (ah aa ale) 1) 0 (wrap64 (af - 1)) false _ oL.out).mono ?_);rintro e w' ⟨rfl,⟨nd,rfl⟩⟩;(try first|exact ⟨rfl,_,World.drewN_drewN _ _ _⟩|exact ⟨rfl,_,Eq.trans (World.drewN_drewN _ _ _) (congrArg (World.drewN _) (Nat.add_assoc _ _ _))⟩))))
       go_ret
       exact ⟨by first|rfl|(simp [bz,bA]<;>rfl)|(simp [*,bz,bA]<;>rfl),bl⟩
      subst c17
      have H1:(eA.l0 k2 (wrap64 (ale+1)) af aa)=some r:=by rw [if_pos rfl] at H;exact H
      clear H
      have H:=H1
      clear H1
      have H':=k0 H
      clear H
      have yN:wr.cell? ⟨ai,0,none⟩=some (.int .i64 af):=(av ag.out 0).trans rfl
      have yO:wr.cell? ⟨ai,1,none⟩=some (.slice aq aa.length ak):=(av ag.out 1).trans rfl
      have yR:=aD ag.out 0
      have yS:=aD ag.out 1
      have dP:0≤(ale:Int):=oD
      have dQ:ale < (aa.length:Int):=oD
      obtain ⟨iZ,uU,vv,e103,alC,jn,jl⟩:=cX bZ.out ale dP dQ
      cases e103
      replace alC:=hbc HB alC
      have al7:=k0 jl
      have u_:=k0 jn
      clear jl jn
      replace dP:=eq_true dP
      replace dQ:=eq_true dQ
      have cT:0≤(ale:Int):=oD
      have cU:ale < (aa.length:Int):=oD
      obtain ⟨kF,uV,vw,e104,cM,al0,lH⟩:=cX bZ.out ale cT cU
      obtain rfl:iZ=kF:=(by injection e104)
      replace cM:=hbc HB cM
      have rG:=k0 lH
      have amv:=k0 al0
      clear lH al0
      replace cT:=eq_true cT
      replace cU:=eq_true cU
      have bh:=Option.some.inj (alC.symm.trans cM)
      injection bh with bh dm di
      subst bh
      subst di
      clear dm
      have alz:0≤(0:Int):=(by omega)
      have cV:0 < ((ah aa ale).length:Int):=oD
      obtain ⟨kG,e105,dW⟩:=Kd.bJ rG.out 0 alz cV
      cases e105
      have Ep:(0 < (ah aa ale).length)=True:=eq_true (by omega)
      (try rw [show ((0:Int)).toNat=0 from rfl] at dW)
      (try rw [Addr.add_zero'] at dW)
      replace dW:=hbc HB dW
      replace alz:=eq_true alz
      replace cV:=eq_true cV
      have gi:0≤(ale:Int):=oD
      have gl:ale < (aa.length:Int):=oD
      obtain ⟨pH,EJ,Fs,e107,fN,qx,qv⟩:=cX bZ.out ale gi gl
      obtain rfl:iZ=pH:=(by injection e107)
      replace fN:=hbc HB fN
      have amx:=k0 qv
      have EX:=k0 qx
      clear qv qx
      replace gi:=eq_true gi
      replace gl:=eq_true gl
      have bh:=Option.some.inj (alC.symm.trans fN)
      injection bh with bh dm di
      subst bh
      subst di
      clear dm
      have ef:0≤(1:Int):=(by omega)
      have dR:1 < ((ah aa ale).length:Int):=oD
      obtain ⟨lu,e108,fu⟩:=Kd.bJ amx.out 1 ef dR
      cases e108
      (try simp only [show (1:Int).toNat=1 from rfl,Nat.reduceMul,Nat.reduceEqDiff,Go.Addr.add,↓reduceIte] at fu)
      have aed:(1 < (ah aa ale).length)=True:=eq_true (by omega)
      (try rw [show ((1:Int)).toNat=1 from rfl] at fu)
      replace fu:=hbc HB fu
      replace ef:=eq_true ef
      replace dR:=eq_true dR
      go_wp2_with (first|(go_at_call 172;(with_reducible refine (gy.calls (rd (ah aa ale) 0) 0 (wrap64 (af - 1)) true _ nA.out).mono ?_);rintro e w' ⟨rfl,⟨nd,rfl⟩⟩;(try first|exact ⟨rfl,_,World.drewN_drewN _ _ _⟩|exact ⟨rfl,_,Eq.trans (World.drewN_drewN _ _ _) (congrArg (World.drewN _) (Nat.add_assoc _ _ _))⟩))|(go_at_call 172;(with_reducible refine (gy.calls (rd (ah aa ale) 1) 0 (wrap64 (af - 1)) true _ oL.out).mono ?_);rintro e w' ⟨rfl,⟨nd,rfl⟩⟩;(try first|exact ⟨rfl,_,World.drewN_drewN _ _ _⟩|exact ⟨rfl,_,Eq.trans (World.drewN_drewN _ _ _) (congrArg (World.drewN _) (Nat.add_assoc _ _ _))⟩)))
      repeat (go_quiet (first|(go_at_call 172;(with_reducible refine (gy.calls (rd (ah aa ale) 0) 0 (wrap64 (af - 1)) true _ nA.out).mono ?_);rintro e w' ⟨rfl,⟨nd,rfl⟩⟩;(try first|exact ⟨rfl,_,World.drewN_drewN _ _ _⟩|exact ⟨rfl,_,Eq.trans (World.drewN_drewN _ _ _) (congrArg (World.drewN _) (Nat.add_assoc _ _ _))⟩))|(go_at_call 172;(with_reducible refine (gy.calls (rd (ah aa ale) 1) 0 (wrap64 (af - 1)) true _ oL.out).mono ?_);rintro e w' ⟨rfl,⟨nd,rfl⟩⟩;(try first|exact ⟨rfl,_,World.drewN_drewN _ _ _⟩|exact ⟨rfl,_,Eq.trans (World.drewN_drewN _ _ _) (congrArg (World.drewN _) (Nat.add_assoc _ _ _))⟩)));try go_wp2_with (first|(go_at_call 172;(with_reducible refine (gy.calls (rd (ah aa ale) 0) 0 (wrap64 (af - 1)) true _ nA.out).mono ?_);rintro e w' ⟨rfl,⟨nd,rfl⟩⟩;(try first|exact ⟨rfl,_,World.drewN_drewN _ _ _⟩|exact ⟨rfl,_,Eq.trans (World.drewN_drewN _ _ _) (congrArg (World.drewN _) (Nat.add_assoc _ _ _))⟩))|(go_at_call 172;(with_reducible refine (gy.calls (rd (ah aa ale) 1) 0 (wrap64 (af - 1)) true _ oL.out).mono ?_);rintro e w' ⟨rfl,⟨nd,rfl⟩⟩;(try first|exact ⟨rfl,_,World.drewN_drewN _ _ _⟩|exact ⟨rfl,_,Eq.trans (World.drewN_drewN _ _ _) (congrArg (World.drewN _) (Nat.add_assoc _ _ _))⟩))))
      go_roundg k2
      case measure=>have:=Nv.out;have:=bB.out;omega
      case rel=>exact ⟨(wrap64 (ale+1)),rs,H',⟨by have:=Nv.out;have:=bB.out;omega⟩,⟨bk⟩,⟨bl⟩⟩
   subst c8
   have H1:(some false)=some r:=by rw [if_pos rfl] at H;exact H
   clear H
   have H:=H1
   clear H1
   obtain rfl:=Option.some.inj H
   go_wp2
   repeat (go_quiet (fail);try go_wp2)
   go_ret
   exact ⟨by first|rfl|(simp [bz,bA]<;>rfl)|(simp [*,bz,bA]<;>rfl),bl⟩
/-! ### F171: function 171 -/
mutual
def fh.l0 : Nat → List (List Int) → Int → Int → List (List Int) → Option (Int)
 | 0,_,_,_,_=>none
 | k+1,x1,x5,bF,bE=>if x5 < (x1.length:Int) then (if 0≤x5 then (if ((ah x1 x5).length:Int)=bF then (fh.l1 k x1 x5 0 bF bE) else (some 2)) else (none)) else (some 0)
def fh.l1 : Nat → List (List Int) → Int → Int → Int → List (List Int) → Option (Int)
 | 0,_,_,_,_,_=>none
 | k+1,x1,x5,x6,bF,bE=>if 0≤x5 then (if x5 < (x1.length:Int) then (if x6 < ((ah x1 x5).length:Int) then (if 0≤x6 then ((gy.f (rd (ah x1 x5) x6) (-200) 200).bind fun t107=>(if t107=true then (fh.l1 k x1 x5 (wrap64 (x6+1)) bF bE) else (some 2))) else (none)) else (fh.l0 k x1 (wrap64 (x5+1)) bF bE)) else (none)) else (none)
end
def fh.f (k:Nat) (af:Int) (aa:List (List Int)) (l1:List (List Int)):Option (Int):=(eA.f k af aa).bind fun t102=>(if t102=true then (fh.l0 k l1 0 af aa) else (some 1))
theorem fh.bU : ∀ k, (∀ y0 y1 y2 y3, aj (fh.l0 k y0 y1 y2 y3) (fh.l0 (k + 1) y0 y1 y2 y3)) ∧ (∀ y0 y1 y2 y3 y4, aj (fh.l1 k y0 y1 y2 y3 y4) (fh.l1 (k + 1) y0 y1 y2 y3 y4))
 | 0=>⟨fun _ _ _ _ r h=>by simp [fh.l0] at h,fun _ _ _ _ _ r h=>by simp [fh.l1] at h⟩
 | k+1=>by
  obtain ⟨alg,ih1⟩:=fh.bU k
  refine ⟨?_, ?_⟩ <;> intros <;> (first | unfold fh.l0 | unfold fh.l1) <;> repeat' first
   | (with_reducible first|exact alg _ _ _ _|exact ih1 _ _ _ _ _|exact eA.mono _ _ _|exact aj.refl _|exact aj.none _|refine aj.ite ?_ ?_|refine aj.bind ?_ (fun _=>?_))
   | exact alg _ _ _ _|exact ih1 _ _ _ _ _|exact eA.mono _ _ _|exact aj.none _|refine aj.ite ?_ ?_|refine aj.bind ?_ (fun _=>?_)
theorem fh.mono:∀ a0 a1 a2 k,aj (fh.f k a0 a1 a2) (fh.f (k+1) a0 a1 a2):=by
 intro a0 a1 a2 k
 obtain ⟨alg,ih1⟩:=fh.bU k
 unfold fh.f
 repeat' first
  | (with_reducible first|exact alg _ _ _ _|exact ih1 _ _ _ _ _|exact eA.mono _ _ _|exact aj.refl _|exact aj.none _|refine aj.ite ?_ ?_|refine aj.bind ?_ (fun _=>?_))
  | exact alg _ _ _ _|exact ih1 _ _ _ _ _|exact eA.mono _ _ _|exact aj.none _|refine aj.ite ?_ ?_|refine aj.bind ?_ (fun _=>?_)
set_option maxHeartbeats 8000000 in
set_option maxRecDepth 100000 in
theorem fh.calls (k : Nat) (af : Int) (aq : Option Addr) (ak : Nat) (aa : List (List Int)) (A1 : Option Addr) (c1 : Nat) (l1 : List (List Int)) (r : Int) (w : World) (aly : Kd.C (Kd.slice 2 (Kd.int .i64)) w aq aa.length aa) (ck : aa.length ≤ ak) (c_ : Kd.C (Kd.slice 2 (Kd.int .i64)) w A1 l1.length l1) (eY : l1.length ≤ c1) (h : fh.f k af aa l1 = some r) :
  Calls Try.prog 171 #[.agg #[.int .i64 af,.slice aq aa.length ak],.slice A1 l1.length c1] w fun e w'=>e=.returned (.int .i64 r)∧Below w.heap.size w w':=by
 have j9:=Try.underlying31
 have bZ:=k0 aly
 have cD:=k0 ck
 clear aly ck
 have eP:=k0 c_
 have kT:=k0 eY
 clear c_ eY
 have HB:=k0 (Below.refl w.heap.size w)
 have H:((eA.f k af aa).bind fun t102=>(if t102=true then (fh.l0 k l1 0 af aa) else (some 1)))=some r:=h
 clear h
 replace H:=Option.bind_eq_some_iff.mp H
 obtain ⟨t102,mj,H⟩:=H
 replace H:(if t102=true then (fh.l0 k l1 0 af aa) else (some 1))=some r:=H
 have A3:=k0 mj
 clear mj
 by_cases c4:t102=true
 case neg =>
  replace c4:=Bool.eq_false_iff.mpr c4
  subst c4
  have H1:(some 1)=some r:=by rw [if_neg (show ¬ (false=true) by decide)] at H;exact H
  clear H
  have H:=H1
  clear H1
  obtain rfl:=Option.some.inj H
  go_enter Try.func171,Try.ntmps171
  go_wp2_with (first|((with_reducible refine cj (N:=2) rfl ?_);refine dK ?hg (N:=2) ?hd (cs:=#[.int .i64 af,.slice aq aa.length ak]) (t:=31) ?hr ?_;(case hd=>rfl);(case hg=>rfl);(case hr=>first|(go_simp;done)|(go_simp;rfl));intro ai hg EC aJ hb;have ag:=k0 (aJ);have b8:=k0 ((by rw [hg];exact (alk bl):w.heap.size≤ai));have eB:=b8;replace HB:=k0 (aI bl hb);clear hb aJ hg;have C6:EC.cell? ⟨ai,0,none⟩=some (.int .i64 af):=(av ag.out 0).trans rfl;have C7:EC.cell? ⟨ai,1,none⟩=some (.slice aq aa.length ak):=(av ag.out 1).trans rfl;have Dd:=aD ag.out 0;have De:=aD ag.out 1)|(go_at_call 100;(with_reducible refine (eA.calls k af _ _ aa false _ ?aT ?aU A3.out).mono ?_);(case aT=>exact aC (Kd.bK bZ.out HB.out));(case aU=>exact cD.out);rintro e TA ⟨rfl,hb⟩;replace ag:=k0 (alm (g:=ai) (o:=sO af aq aa ak 31) bk hb);replace HB:=k0 (aI bl hb);(try clear hb)))
  go_ret
  exact ⟨by first|rfl|(simp [bz,bA]<;>rfl)|(simp [*,bz,bA]<;>rfl),bl⟩
 subst c4
 have H1:(fh.l0 k l1 0 af aa)=some r:=by rw [if_pos rfl] at H;exact H
 clear H
 have H:=H1
 clear H1
 have H':=k0 H
 clear H
 go_enter Try.func171,Try.ntmps171
 go_wp2_with (first|((with_reducible refine cj (N:=2) rfl ?_);refine dK ?hg (N:=2) ?hd (cs:=#[.int .i64 af,.slice aq aa.length ak]) (t:=31) ?hr ?_;(case hd=>rfl);(case hg=>rfl);(case hr=>first|(go_simp;done)|(go_simp;rfl));intro ai hg w5 aJ hb;have ag:=k0 (aJ);have b8:=k0 ((by rw [hg];exact (alk bl):w.heap.size≤ai));have eB:=b8;replace HB:=k0 (aI bl hb);clear hb aJ hg;have qp:w5.cell? ⟨ai,0,none⟩=some (.int .i64 af):=(av ag.out 0).trans rfl;have qq:w5.cell? ⟨ai,1,none⟩=some (.slice aq aa.length ak):=(av ag.out 1).trans rfl;have al8:=aD ag.out 0;have qt:=aD ag.out 1)|(go_at_call 100;(with_reducible refine (eA.calls k af _ _ aa true _ ?aT ?aU A3.out).mono ?_);(case aT=>exact aC (Kd.bK bZ.out HB.out));(case aU=>exact cD.out);rintro e w7 ⟨rfl,hb⟩;replace ag:=k0 (alm (g:=ai) (o:=sO af aq aa ak 31) bk hb);replace HB:=k0 (aI bl hb);(try clear hb)))
 go_loopg [5] k (fun kq v5 w'=>∃ (ali:Int),v5=.int .i64 ali∧au (fh.l0 kq l1 ali af aa=some r)∧au (kq≤k)∧au (w'.heap[ai]?=some (sO af aq aa ak 31))∧au (Below w.heap.size w w'))
 case atStart=>exact ⟨(0),rs,H',⟨Nat.le_refl _⟩,⟨bk⟩,⟨bl⟩⟩
 case round =>
  clear H'
  (try clear c4);(try clear qp);(try clear qq);(try clear al8);(try clear qt)
  obtain ⟨ali,rfl,HA,alj,ag,HB⟩:=hrel
  cases gk with
  | zero=>exact absurd HA.out (by simp [fh.l0])
  | succ k1 =>
   have H:=HA.out
   clear HA
   simp only [fh.l0] at H
   by_cases c8:ali < (l1.length:Int)
   case neg =>
    rw [if_neg c8] at H
    have jg:decide (ali < (l1.length:Int))=false:=decide_eq_false c8
    clear c8
    obtain rfl:=Option.some.inj H
    go_wp2
    go_ret
    exact ⟨by first|rfl|(simp [bz,bA]<;>rfl)|(simp [*,bz,bA]<;>rfl),bl⟩
   rw [if_pos c8] at H
   have jg:=decide_eq_true c8
   clear c8
   replace H:=iS H;obtain ⟨c9,H⟩:=H
   have mD:=decide_eq_true c9
   clear c9
   by_cases c10:((ah l1 ali).length:Int)=af
   case neg =>
    rw [if_neg c10] at H
    have lO:(((ah l1 ali).length:Int) == af)=false:=beq_eq_false_iff_ne.mpr c10
    have vz:(((ah l1 ali).length:Int) != af)=true:=bne_iff_ne.mpr c10
    obtain rfl:=Option.some.inj H
    have dP:0≤(ali:Int):=oD
    have dQ:ali < (l1.length:Int):=oD
    obtain ⟨iZ,uU,vv,e103,alC,jn,jl⟩:=cX eP.out ali dP dQ
    cases e103
    replace alC:=hbc HB alC
    have al7:=k0 jl
    have u_:=k0 jn
    clear jl jn
    replace dP:=eq_true dP
    replace dQ:=eq_true dQ
    have yN:wr.cell? ⟨ai,0,none⟩=some (.int .i64 af):=(av ag.out 0).trans rfl
    have yO:wr.cell? ⟨ai,1,none⟩=some (.slice aq aa.length ak):=(av ag.out 1).trans rfl
    have yR:=aD ag.out 0
    have yS:=aD ag.out 1
    go_wp2
    repeat (go_quiet (fail);try go_wp2)
    go_ret
    exact ⟨by first|rfl|(simp [bz,bA]<;>rfl)|(simp [*,bz,bA]<;>rfl),bl⟩
   rw [if_pos c10] at H
   have lO:(((ah l1 ali).length:Int) == af)=true:=beq_iff_eq.mpr c10
   have vz:(((ah l1 ali).length:Int) != af)=false:=bne_eq_false_iff_eq.mpr c10
   clear c10
   have H':=k0 H
   clear H
   have dP:0≤(ali:Int):=oD
   have dQ:ali < (l1.length:Int):=oD
   obtain ⟨iZ,uU,vv,e103,alC,jn,jl⟩:=cX eP.out ali dP dQ
   cases e103
   replace alC:=hbc HB alC
   have al7:=k0 jl
   have u_:=k0 jn
   clear jl jn
   replace dP:=eq_true dP
   replace dQ:=eq_true dQ
   have AX:wr.cell? ⟨ai,0,none⟩=some (.int .i64 af):=(av ag.out 0).trans rfl
   have AY:wr.cell? ⟨ai,1,none⟩=some (.slice aq aa.length ak):=(av ag.out 1).trans rfl
   have anc:=aD ag.out 0
   have ane:=aD ag.out 1
   go_wp2
   repeat (go_quiet (fail);try go_wp2)
   go_loopg [6] k1 (fun kq v6 w'=>∃ (gP:Int),v6=.int .i64 gP∧au (fh.l1 kq l1 ali gP af aa=some r)∧au (kq≤k1)∧au (w'.heap[ai]?=some (sO af aq aa ak 31))∧au (Below w.heap.size w w'))
   case atStart=>exact ⟨(0),rs,H',⟨Nat.le_refl _⟩,⟨bk⟩,⟨bl⟩⟩
   case round =>
    clear H'
    (try clear c4);(try clear c8);(try clear jg);(try clear c9);(try clear mD);(try clear c10);(try clear lO);(try clear vz);(try clear AX);(try clear AY);(try clear qp);(try clear qq);(try clear anc);(try clear ane);(try clear al8);(try clear qt);(try clear alC);(try clear dP);(try clear dQ)
    obtain ⟨gP,rfl,HA,bB,ag,HB⟩:=hrel
    cases gk with
    | zero=>exact absurd HA.out (by simp [fh.l1])
    | succ k2 =>
     have H:=HA.out
     clear HA
     simp only [fh.l1] at H
     replace H:=iS H;obtain ⟨c12,H⟩:=H
     have rN:=decide_eq_true c12
     clear c12
     replace H:=iS H;obtain ⟨c13,H⟩:=H
     have alV:=decide_eq_true c13
     clear c13
     by_cases c14:gP < ((ah l1 ali).length:Int)
     case neg =>
      rw [if_neg c14] at H
      have kH:decide (gP < ((ah l1 ali).length:Int))=false:=decide_eq_false c14
      clear c14
      have H':=k0 H
      clear H
      have cT:0≤(ali:Int):=oD
      have cU:ali < (l1.length:Int):=oD
      obtain ⟨kF,uV,vw,e104,cM,al0,lH⟩:=cX eP.out ali cT cU
      obtain rfl:iZ=kF:=(by injection e104)
      replace cM:=hbc HB cM
      have rG:=k0 lH
      have amv:=k0 al0
      clear lH al0
      replace cT:=eq_true cT
      replace cU:=eq_true cU
      go_wp2
      go_roundg k2
      case measure=>have:=alj.out;have:=bB.out;omega
      case rel=>exact ⟨(wrap64 (ali+1)),rs,H',⟨by have:=alj.out;have:=bB.out;omega⟩,⟨bk⟩,⟨bl⟩⟩
     rw [if_pos c14] at H
     have kH:=decide_eq_true c14
     clear c14
     replace H:=iS H;obtain ⟨c15,H⟩:=H
     have jD:=decide_eq_true c15
     clear c15
     replace H:=Option.bind_eq_some_iff.mp H
     obtain ⟨t107,al4,H⟩:=H
     replace H:(if t107=true then (fh.l1 k2 l1 ali (wrap64 (gP+1)) af aa) else (some 2))=some r:=H
     have oL:=k0 al4
     clear al4
     by_cases c17:t107=true
     case neg =>
      replace c17:=Bool.eq_false_iff.mpr c17
      subst c17
      have H1:(some 2)=some r:=by rw [if_neg (show ¬ (false=true) by decide)] at H;exact H
      clear H
      have H:=H1
      clear H1
      obtain rfl:=Option.some.inj H
      have cT:0≤(ali:Int):=oD
      have cU:ali < (l1.length:Int):=oD
      obtain ⟨kF,uV,vw,e104,cM,al0,lH⟩:=cX eP.out ali cT cU
      obtain rfl:iZ=kF:=(by injection e104)
      replace cM:=hbc HB cM
      have rG:=k0 lH
      have amv:=k0 al0
      clear lH al0
      replace cT:=eq_true cT
      replace cU:=eq_true cU
      have alz:0≤(ali:Int):=oD
      have cV:ali < (l1.length:Int):=oD
      obtain ⟨kG,BL,Ck,e105,dW,qw,qu⟩:=cX eP.out ali alz cV
      obtain rfl:iZ=kG:=(by injection e105)
      replace dW:=hbc HB dW
      have p_:=k0 qu
      have EW:=k0 qw
      clear qu qw
      replace alz:=eq_true alz
      replace cV:=eq_true cV
      have bh:=Option.some.inj (cM.symm.trans dW)
      injection bh with bh dm di
      subst bh
      subst di
      clear dm
      have dM:0≤(gP:Int):=oD
      have dD:gP < ((ah l1 ali).length:Int):=oD
      obtain ⟨gA,e106,dA⟩:=Kd.bJ p_.out gP dM dD
      cases e106
      replace dA:=hbc HB dA
      replace dM:=eq_true dM
      replace dD:=eq_true dD
      go_wp2_with (first|(go_at_call 172;(with_reducible refine (gy.calls (rd (ah l1 ali) gP) (-200) 200 false _ oL.out).mono ?_);rintro e w' ⟨rfl,⟨nd,rfl⟩⟩;(try first|exact ⟨rfl,_,World.drewN_drewN _ _ _⟩|exact ⟨rfl,_,Eq.trans (World.drewN_drewN _ _ _) (congrArg (World.drewN _) (Nat.add_assoc _ _ _))⟩)))
      go_ret
      exact ⟨by first|rfl|(simp [bz,bA]<;>rfl)|(simp [*,bz,bA]<;>rfl),bl⟩
     subst c17
     have H1:(fh.l1 k2 l1 ali (wrap64 (gP+1)) af aa)=some r:=by rw [if_pos rfl] at H;exact H
     clear H
     have H:=H1
     clear H1
     have H':=k0 H
     clear H
     have cT:0≤(ali:Int):=oD
     have cU:ali < (l1.length:Int):=oD
     obtain ⟨kF,uV,vw,e104,cM,al0,lH⟩:=cX eP.out ali cT cU
     obtain rfl:iZ=kF:=(by injection e104)
     replace cM:=hbc HB cM
     have rG:=k0 lH
     have amv:=k0 al0
     clear lH al0
     replace cT:=eq_true cT
     replace cU:=eq_true cU
     have alz:0≤(ali:Int):=oD
     have cV:ali < (l1.length:Int):=oD
     obtain ⟨kG,BL,Ck,e105,dW,qw,qu⟩:=cX eP.out ali alz cV
     obtain rfl:iZ=kG:=(by injection e105)
     replace dW:=hbc HB dW
     have p_:=k0 qu
     have EW:=k0 qw
     clear qu qw
     replace alz:=eq_true alz
     replace cV:=eq_true cV
     have bh:=Option.some.inj (cM.symm.trans dW)
     injection bh with bh dm di
     subst bh
     subst di
     clear dm
     have dM:0≤(gP:Int):=oD
     have dD:gP < ((ah l1 ali).length:Int):=oD
     obtain ⟨gA,e106,dA⟩:=Kd.bJ p_.out gP dM dD
     cases e106
     replace dA:=hbc HB dA
     replace dM:=eq_true dM
     replace dD:=eq_true dD
     go_wp2_with (first|(go_at_call 172;(with_reducible refine (gy.calls (rd (ah l1 ali) gP) (-200) 200 true _ oL.out).mono ?_);rintro e w' ⟨rfl,⟨nd,rfl⟩⟩;(try first|exact ⟨rfl,_,World.drewN_drewN _ _ _⟩|exact ⟨rfl,_,Eq.trans (World.drewN_drewN _ _ _) (congrArg (World.drewN _) (Nat.add_assoc _ _ _))⟩)))
     go_roundg k2
     case measure=>have:=alj.out;have:=bB.out;omega
     case rel=>exact ⟨(wrap64 (gP+1)),rs,H',⟨by have:=alj.out;have:=bB.out;omega⟩,⟨bk⟩,⟨bl⟩⟩
end Go.Proofs.Ytoebojnhchocaaa.D
/- Set with little white space, by a program. -/
