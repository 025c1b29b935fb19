/- The functions that one law reaches, each as a Lean function, and that Go's call comes to what it says. Condition of each: that the Lean function answers (is not none). -/
import Derived.Test.YtoebojnhchocaaaCx0
import Derived.Test.YtoebojnhchocaaaCx9
namespace Go.Proofs.Ytoebojnhchocaaa.C
open Go.RowKit Go.Proofs.bI.en Go.Proofs.bI.je Go.Proofs.bI.jC
attribute [local go_sem] max2_int min2_int max_two min_two max_three min_three max_four min_four   -- for this text's walks alone
set_option linter.unusedVariables false
set_option linter.unusedSimpArgs false
/-! ### F106: function 106 -/
def ie.l0 : Nat → List (List Int) → Int → Int → Int → List (List Int) → Option (Bool)
 | 0,_,_,_,_,_=>none
 | k+1,x6,x7,x8,bR,bJ=>if x8 < x7 then (if 0≤x8 then (if x8 < (x6.length:Int) then (if ((ah x6 x8).length:Int)=2 then (if 0 < ((ah x6 x8).length:Int) then ((gO.f (rd (ah x6 x8) 0) 0 (wrap64 (bR - 1))).bind fun t105=>(if t105=true then (if 1 < ((ah x6 x8).length:Int) then ((gO.f (rd (ah x6 x8) 1) 0 (wrap64 (bR - 1))).bind fun t107=>(if t107=true then (ie.l0 k x6 x7 (wrap64 (x8+1)) bR bJ) else (some false))) else (none)) else (some false))) else (none)) else (some false)) else (none)) else (none)) else ((gO.f bR 1 8).bind fun t102=>(if t102=true then (some (decide ((bJ.length:Int)≤10))) else (some false)))
def ie.f (k:Nat) (af:Int) (aa:List (List Int)):Option (Bool):=ie.l0 k aa (aa.length:Int) 0 af aa
theorem ie.b8 : ∀ k, (∀ y0 y1 y2 y3 y4, aj (ie.l0 k y0 y1 y2 y3 y4) (ie.l0 (k + 1) y0 y1 y2 y3 y4))
 | 0=>fun _ _ _ _ _ r h=>by simp [ie.l0] at h
 | k+1=>by
  have akk:=ie.b8 k
  ·intro y0 y1 y2 y3 y4
   unfold ie.l0
   repeat' first
    | (with_reducible first|exact akk _ _ _ _ _|exact aj.refl _|exact aj.none _|refine aj.ite ?_ ?_|refine aj.bind ?_ (fun _=>?_))
    | exact akk _ _ _ _ _|exact aj.none _|refine aj.ite ?_ ?_|refine aj.bind ?_ (fun _=>?_)
theorem ie.mono:∀ a0 a1 k,aj (ie.f k a0 a1) (ie.f (k+1) a0 a1):=by
 intro a0 a1 k
 have akk:=ie.b8 k
 unfold ie.f
 repeat' first
  | (with_reducible first|exact akk _ _ _ _ _|exact aj.refl _|exact aj.none _|refine aj.ite ?_ ?_|refine aj.bind ?_ (fun _=>?_))
  | exact akk _ _ _ _ _|exact aj.none _|refine aj.ite ?_ ?_|refine aj.bind ?_ (fun _=>?_)
set_option maxHeartbeats 8000000 in
set_option maxRecDepth 100000 in
theorem ie.calls (k : Nat) (af : Int) (aq : Option Addr) (ak : Nat) (aa : List (List Int)) (r : Bool) (w : World) (akv : Kd.C (Kd.slice 2 (Kd.int .i64)) w aq aa.length aa) (akw : aa.length ≤ ak) (h : ie.f k af aa = some r) :
  Calls Try.prog 106 #[.agg #[.int .i64 af,.slice aq aa.length ak]] w fun e w'=>e=.returned (.bool r)∧Below w.heap.size w w':=by
 have j8:=Try.underlying31
 have bU:=k0 akv
 have cG:=k0 akw
 clear akv akw
 have HB:=k0 (Below.refl w.heap.size w)
 have H:(ie.l0 k aa (aa.length:Int) 0 af aa)=some r:=h
 clear h
 have H':=k0 H
 clear H
 go_enter Try.func106,Try.ntmps106
 go_wp2_with (first|((with_reducible refine cj (N:=1) rfl ?_);(try (refine al5 (by rfl) ?_;dsimp only));refine dJ ?hg (N:=1) ?hd (cs:=#[.int .i64 af,.slice aq aa.length ak]) (t:=31) ?hr ?_;(case hd=>rfl);(case hg=>rfl);(case hr=>first|(go_simp;done)|(go_simp;rfl));intro ai hg w2 aK hb;have ag:=k0 (aK);have aks:=k0 ((by rw [hg];exact (aU bl):w.heap.size≤ai));have ej:=aks;replace HB:=k0 (aI bl hb);clear hb aK hg;have Ju:w2.cell? ⟨ai,0,none⟩=some (.int .i64 af):=(av ag.out 0).trans rfl;have Jv:w2.cell? ⟨ai,1,none⟩=some (.slice aq aa.length ak):=(av ag.out 1).trans rfl;have JJ:=aH ag.out 0;have JK:=aH ag.out 1))
 repeat (go_quiet (first|((with_reducible refine cj (N:=1) rfl ?_);(try (refine al5 (by rfl) ?_;dsimp only));refine dJ ?hg (N:=1) ?hd (cs:=#[.int .i64 af,.slice aq aa.length ak]) (t:=31) ?hr ?_;(case hd=>rfl);(case hg=>rfl);(case hr=>first|(go_simp;done)|(go_simp;rfl));intro ai hg w2 aK hb;have ag:=k0 (aK);have aks:=k0 ((by rw [hg];exact (aU bl):w.heap.size≤ai));have ej:=aks;replace HB:=k0 (aI bl hb);clear hb aK hg;have Ju:w2.cell? ⟨ai,0,none⟩=some (.int .i64 af):=(av ag.out 0).trans rfl;have Jv:w2.cell? ⟨ai,1,none⟩=some (.slice aq aa.length ak):=(av ag.out 1).trans rfl;have JJ:=aH ag.out 0;have JK:=aH ag.out 1));try go_wp2_with (first|((with_reducible refine cj (N:=1) rfl ?_);(try (refine al5 (by rfl) ?_;dsimp only));refine dJ ?hg (N:=1) ?hd (cs:=#[.int .i64 af,.slice aq aa.length ak]) (t:=31) ?hr ?_;(case hd=>rfl);(case hg=>rfl);(case hr=>first|(go_simp;done)|(go_simp;rfl));intro ai hg w2 aK hb;have ag:=k0 (aK);have aks:=k0 ((by rw [hg];exact (aU bl):w.heap.size≤ai));have ej:=aks;replace HB:=k0 (aI bl hb);clear hb aK hg;have Ju:w2.cell? ⟨ai,0,none⟩=some (.int .i64 af):=(av ag.out 0).trans rfl;have Jv:w2.cell? ⟨ai,1,none⟩=some (.slice aq aa.length ak):=(av ag.out 1).trans rfl;have JJ:=aH ag.out 0;have JK:=aH ag.out 1)))
 go_loopg [8] k (fun kq v8 w'=>∃ (bE:Int),v8=.int .i64 bE∧au (ie.l0 kq aa (aa.length:Int) bE af aa=some r)∧au (kq≤k)∧au (w'.heap[ai]?=some (sO af aq aa ak 31))∧au (Below w.heap.size w w'))
 case atStart=>exact ⟨(0),rs,H',⟨Nat.le_refl _⟩,⟨bk⟩,⟨bl⟩⟩
 case round =>
  clear H'
  (try clear Ju);(try clear Jv);(try clear JJ);(try clear JK)
  obtain ⟨bE,rfl,HA,akl,ag,HB⟩:=hrel
  cases gk with
  | zero=>exact absurd HA.out (by simp [ie.l0])
  | succ k1 =>
   have H:=HA.out
   clear HA
   simp only [ie.l0] at H
   by_cases c4:bE < (aa.length:Int)
   case neg =>
    rw [if_neg c4] at H
    have eA:decide (bE < (aa.length:Int))=false:=decide_eq_false c4
    clear c4
    replace H:=Option.bind_eq_some_iff.mp H
    obtain ⟨t102,vZ,H⟩:=H
    replace H:(if t102=true then (some (decide ((aa.length:Int)≤10))) else (some false))=some r:=H
    have tN:=k0 vZ
    clear vZ
    by_cases c18:t102=true
    case neg =>
     replace c18:=Bool.eq_false_iff.mpr c18
     subst c18
     have H1:(some false)=some r:=by rw [if_neg (show ¬ (false=true) by decide)] at H;exact H
     clear H
     have H:=H1
     clear H1
     obtain rfl:=Option.some.inj H
     have Jo:wr.cell? ⟨ai,0,none⟩=some (.int .i64 af):=(av ag.out 0).trans rfl
     have Jp:wr.cell? ⟨ai,1,none⟩=some (.slice aq aa.length ak):=(av ag.out 1).trans rfl
     have JD:=aH ag.out 0
     have JE:=aH ag.out 1
     go_wp2_with (first|(go_at_call 194;(with_reducible refine (gO.calls af 1 8 false _ tN.out).mono ?_);rintro e w' ⟨rfl,⟨nd,rfl⟩⟩;(try first|exact ⟨rfl,_,World.drewN_drewN _ _ _⟩|exact ⟨rfl,_,Eq.trans (World.drewN_drewN _ _ _) (congrArg (World.drewN _) (Nat.add_assoc _ _ _))⟩)))
     repeat (go_quiet (first|(go_at_call 194;(with_reducible refine (gO.calls af 1 8 false _ tN.out).mono ?_);rintro e w' ⟨rfl,⟨nd,rfl⟩⟩;(try first|exact ⟨rfl,_,World.drewN_drewN _ _ _⟩|exact ⟨rfl,_,Eq.trans (World.drewN_drewN _ _ _) (congrArg (World.drewN _) (Nat.add_assoc _ _ _))⟩)));try go_wp2_with (first|(go_at_call 194;(with_reducible refine (gO.calls af 1 8 false _ tN.out).mono ?_);rintro e w' ⟨rfl,⟨nd,rfl⟩⟩;(try first|exact ⟨rfl,_,World.drewN_drewN _ _ _⟩|exact ⟨rfl,_,Eq.trans (World.drewN_drewN _ _ _) (congrArg (World.drewN _) (Nat.add_assoc _ _ _))⟩))))
     go_ret
     exact ⟨by first|rfl|(simp [bq,bt]<;>rfl)|(simp [*,bq,bt]<;>rfl),bl⟩
    subst c18
    have H1:(some (decide ((aa.length:Int)≤10)))=some r:=by rw [if_pos rfl] at H;exact H
    clear H
    have H:=H1
    clear H1
    obtain rfl:=Option.some.inj H
    have sI:wr.cell? ⟨ai,0,none⟩=some (.int .i64 af):=(av ag.out 0).trans rfl
    have yy:wr.cell? ⟨ai,1,none⟩=some (.slice aq aa.length ak):=(av ag.out 1).trans rfl
    have alg:=aH ag.out 0
    have yD:=aH ag.out 1
    go_wp2_with (first|(go_at_call 194;(with_reducible refine (gO.calls af 1 8 true _ tN.out).mono ?_);rintro e w' ⟨rfl,⟨nd,rfl⟩⟩;(try first|exact ⟨rfl,_,World.drewN_drewN _ _ _⟩|exact ⟨rfl,_,Eq.trans (World.drewN_drewN _ _ _) (congrArg (World.drewN _) (Nat.add_assoc _ _ _))⟩)))
    repeat (go_quiet (first|(go_at_call 194;(with_reducible refine (gO.calls af 1 8 true _ tN.out).mono ?_);rintro e w' ⟨rfl,⟨nd,rfl⟩⟩;(try first|exact ⟨rfl,_,World.drewN_drewN _ _ _⟩|exact ⟨rfl,_,Eq.trans (World.drewN_drewN _ _ _) (congrArg (World.drewN _) (Nat.add_assoc _ _ _))⟩)));try go_wp2_with (first|(go_at_call 194;(with_reducible refine (gO.calls af 1 8 true _ tN.out).mono ?_);rintro e w' ⟨rfl,⟨nd,rfl⟩⟩;(try first|exact ⟨rfl,_,World.drewN_drewN _ _ _⟩|exact ⟨rfl,_,Eq.trans (World.drewN_drewN _ _ _) (congrArg (World.drewN _) (Nat.add_assoc _ _ _))⟩))))
    go_ret
    exact ⟨by first|rfl|(simp [bq,bt]<;>rfl)|(simp [*,bq,bt]<;>rfl),bl⟩
   rw [if_pos c4] at H
   have eA:=decide_eq_true c4
   clear c4
   replace H:=iS H;obtain ⟨c5,H⟩:=H
   have iW:=decide_eq_true c5
   clear c5
   replace H:=iS H;obtain ⟨c6,H⟩:=H
   have akJ:=decide_eq_true c6
   clear c6
   by_cases c7:((ah aa bE).length:Int)=2
   case neg =>
    rw [if_neg c7] at H
    have gK:(((ah aa bE).length:Int) == 2)=false:=beq_eq_false_iff_ne.mpr c7
    have wJ:(((ah aa bE).length:Int) != 2)=true:=bne_iff_ne.mpr c7
    obtain rfl:=Option.some.inj H
    have dQ:0≤(bE:Int):=oD
    have dR:bE < (aa.length:Int):=oD
    obtain ⟨jf,uF,uY,e103,er,js,jq⟩:=cW bU.out bE dQ dR
    cases e103
    replace er:=hbc HB er
    have ak2:=k0 jq
    have uL:=k0 js
    clear jq js
    replace dQ:=eq_true dQ
    replace dR:=eq_true dR
    go_wp2
    repeat (go_quiet (fail);try go_wp2)
    go_ret
    exact ⟨by first|rfl|(simp [bq,bt]<;>rfl)|(simp [*,bq,bt]<;>rfl),bl⟩
   rw [if_pos c7] at H
   have gK:(((ah aa bE).length:Int) == 2)=true:=beq_iff_eq.mpr c7
   have wJ:(((ah aa bE).length:Int) != 2)=false:=bne_eq_false_iff_eq.mpr c7
   clear c7
   replace H:=iS H;obtain ⟨c8,H⟩:=H
   have iX:=decide_eq_true c8
   have BG:decide (0 < (ah aa bE).length)=true:=decide_eq_true (by omega)
   clear c8
   replace H:=Option.bind_eq_some_iff.mp H
   obtain ⟨t105,amd,H⟩:=H
   replace H:(if t105=true then (if 1 < ((ah aa bE).length:Int) then ((gO.f (rd (ah aa bE) 1) 0 (wrap64 (af - 1))).bind fun t107=>(if t107=true then (ie.l0 k1 aa (aa.length:Int) (wrap64 (bE+1)) af aa) else (some false))) else (none)) else (some false))=some r:=H
   have A9:=k0 amd
   clear amd
   by_cases c10:t105=true
   case neg =>
    replace c10:=Bool.eq_false_iff.mpr c10
    subst c10
    have H1:(some false)=some r:=by rw [if_neg (show ¬ (false=true) by decide)] at H;exact H
    clear H
    have H:=H1
    clear H1
    obtain rfl:=Option.some.inj H
    have dQ:0≤(bE:Int):=oD
    have dR:bE < (aa.length:Int):=oD
    obtain ⟨jf,uF,uY,e103,er,js,jq⟩:=cW bU.out bE dQ dR
    cases e103
    replace er:=hbc HB er
    have ak2:=k0 jq
    have uL:=k0 js
    clear jq js
    replace dQ:=eq_true dQ
    replace dR:=eq_true dR
    have cS:0≤(0:Int):=(by omega)
    have cT:0 < ((ah aa bE).length:Int):=oD
    obtain ⟨ko,e104,cM⟩:=Kd.bH ak2.out 0 cS cT
    cases e104
    have DB:(0 < (ah aa bE).length)=True:=eq_true (by omega)
    (try rw [show ((0:Int)).toNat=0 from rfl] at cM)
    (try rw [Addr.add_zero'] at cM)
    replace cM:=hbc HB cM
    replace cS:=eq_true cS
    replace cT:=eq_true cT
    have yw:wr.cell? ⟨ai,0,none⟩=some (.int .i64 af):=(av ag.out 0).trans rfl
    have yx:wr.cell? ⟨ai,1,none⟩=some (.slice (some jf) aa.length ak):=(av ag.out 1).trans rfl
    have yB:=aH ag.out 0
    have yC:=aH ag.out 1
    go_wp2_with (first|(go_at_call 194;(with_reducible refine (gO.calls (rd (ah aa bE) 0) 0 (wrap64 (af - 1)) false _ A9.out).mono ?_);rintro e w' ⟨rfl,⟨nd,rfl⟩⟩;(try first|exact ⟨rfl,_,World.drewN_drewN _ _ _⟩|exact ⟨rfl,_,Eq.trans (World.drewN_drewN _ _ _) (congrArg (World.drewN _) (Nat.add_assoc _ _ _))⟩)))
    repeat (go_quiet (first|(go_at_call 194;(with_reducible refine (gO.calls (rd (ah aa bE) 0) 0 (wrap64 (af - 1)) false _ A9.out).mono ?_);rintro e w' ⟨rfl,⟨nd,rfl⟩⟩;(try first|exact ⟨rfl,_,World.drewN_drewN _ _ _⟩|exact ⟨rfl,_,Eq.trans (World.drewN_drewN _ _ _) (congrArg (World.drewN _) (Nat.add_assoc _ _ _))⟩)));try go_wp2_with (first|(go_at_call 194;(with_reducible refine (gO.calls (rd (ah aa bE) 0) 0 (wrap64 (af - 1)) false _ A9.out).mono ?_);rintro e w' ⟨rfl,⟨nd,rfl⟩⟩;(try first|exact ⟨rfl,_,World.drewN_drewN _ _ _⟩|exact ⟨rfl,_,Eq.trans (World.drewN_drewN _ _ _) (congrArg (World.drewN _) (Nat.add_assoc _ _ _))⟩))))
    go_ret
    exact ⟨by first|rfl|(simp [bq,bt]<;>rfl)|(simp [*,bq,bt]<;>rfl),bl⟩
   subst c10
   have H1:(if 1 < ((ah aa bE).length:Int) then ((gO.f (rd (ah aa bE) 1) 0 (wrap64 (af - 1))).bind fun t107=>(if t107=true then (ie.l0 k1 aa (aa.length:Int) (wrap64 (bE+1)) af aa) else (some false))) else (none))=some r:=by rw [if_pos rfl] at H;exact H
   clear H
   have H:=H1
   clear H1
   replace H:=iS H;obtain ⟨c11,H⟩:=H
   have mz:=decide_eq_true c11
   have sq:decide (1 < (ah aa bE).length)=true:=decide_eq_true (by omega)
   clear c11
   replace H:=Option.bind_eq_some_iff.mp H
   obtain ⟨t107,Lu,H⟩:=H
   replace H:(if t107=true then (ie.l0 k1 aa (aa.length:Int) (wrap64 (bE+1)) af aa) else (some false))=some r:=H
   have zy:=k0 Lu
   clear Lu
   by_cases c13:t107=true
   case neg =>
    replace c13:=Bool.eq_false_iff.mpr c13
    subst c13
    have H1:(some false)=some r:=by rw [if_neg (show ¬ (false=true) by decide)] at H;exact H
    clear H
    have H:=H1
    clear H1
    obtain rfl:=Option.some.inj H
    have dQ:0≤(bE:Int):=oD
    have dR:bE < (aa.length:Int):=oD
    obtain ⟨jf,uF,uY,e103,er,js,jq⟩:=cW bU.out bE dQ dR
    cases e103
    replace er:=hbc HB er
    have ak2:=k0 jq
    have uL:=k0 js
    clear jq js
    replace dQ:=eq_true dQ
    replace dR:=eq_true dR
    have cS:0≤(0:Int):=(by omega)
    have cT:0 < ((ah aa bE).length:Int):=oD
    obtain ⟨ko,e104,cM⟩:=Kd.bH ak2.out 0 cS cT
    cases e104
    have DB:(0 < (ah aa bE).length)=True:=eq_true (by omega)
    (try rw [show ((0:Int)).toNat=0 from rfl] at cM)
    (try rw [Addr.add_zero'] at cM)
    replace cM:=hbc HB cM
    replace cS:=eq_true cS
    replace cT:=eq_true cT
    have Px:wr.cell? ⟨ai,0,none⟩=some (.int .i64 af):=(av ag.out 0).trans rfl
    have Py:wr.cell? ⟨ai,1,none⟩=some (.slice (some jf) aa.length ak):=(av ag.out 1).trans rfl
    have PT:=aH ag.out 0
    have PU:=aH ag.out 1
    have dN:0≤(1:Int):=(by omega)
    have dH:1 < ((ah aa bE).length:Int):=oD
    obtain ⟨gB,e106,dF⟩:=Kd.bH ak2.out 1 dN dH
    obtain rfl:ko=gB:=(by injection e106)
    (try simp only [show (1:Int).toNat=1 from rfl,Nat.reduceMul,Nat.reduceEqDiff,Go.Addr.add,↓reduceIte] at dF)
    have AP:(1 < (ah aa bE).length)=True:=eq_true (by omega)
    (try rw [show ((1:Int)).toNat=1 from rfl] at dF)
    replace dF:=hbc HB dF
    replace dN:=eq_true dN
    replace dH:=eq_true dH
    go_wp2_with (first|(go_at_call 194;(with_reducible refine (gO.calls (rd (ah aa bE) 0) 0 (wrap64 (af - 1)) true _ A9.out).mono ?_);rintro e w' ⟨rfl,⟨nd,rfl⟩⟩;(try first|exact ⟨rfl,_,World.drewN_drewN _ _ _⟩|exact ⟨rfl,_,Eq.trans (World.drewN_drewN _ _ _) (congrArg (World.drewN _) (Nat.add_assoc _ _ _))⟩))|(go_at_call 194;(with_reducible refine (gO.calls (rd (ah aa bE) 1) 0 (wrap64 (af - 1)) false _ zy.out).mono ?_);rintro e w' ⟨rfl,⟨nd,rfl⟩⟩;(try first|exact ⟨rfl,_,World.drewN_drewN _ _ _⟩|exact ⟨rfl,_,Eq.trans (World.drewN_drewN _ _ _) (congrArg (World.drewN _) (Nat.add_assoc _ _ _))⟩)))
    repeat (go_quiet (first|(go_at_call 194;(with_reducible refine (gO.calls (rd (ah aa bE) 0) 0 (wrap64 (af - 1)) true _ A9.out).mono ?_);rintro e w' ⟨rfl,⟨nd,rfl⟩⟩;(try first|exact ⟨rfl,_,World.drewN_drewN _ _ _⟩|exact ⟨rfl,_,Eq.trans (World.drewN_drewN _ _ _) (congrArg (World.drewN _) (Nat.add_assoc _ _ _))⟩))|(go_at_call 194;(with_reducible refine (gO.calls (rd (ah aa bE) 1) 0 (wrap64 (af - 1)) false _ zy.out).mono ?_);rintro e w' ⟨rfl,⟨nd,rfl⟩⟩;(try first|exact ⟨rfl,_,World.drewN_drewN _ _ _⟩|exact ⟨rfl,_,Eq.trans (World.drewN_drewN _ _ _) (congrArg (World.drewN _) (Nat.add_assoc _ _ _))⟩)));try go_wp2_with (first|(go_at_call 194;(with_reducible refine (gO.calls (rd (ah aa bE) 0) 0 (wrap64 (af - 1)) true _ A9.out).mono ?_);rintro e w' ⟨rfl,⟨nd,rfl⟩⟩;(try first|exact ⟨rfl,_,World.drewN_drewN _ _ _⟩|exact ⟨rfl,_,Eq.trans (World.drewN_drewN _ _ _) (congrArg (World.drewN _) (Nat.add_assoc _ _ _))⟩))|(go_at_call 194;(with_reducible refine (gO.calls (rd (ah aa bE) 1) 0 (wrap64 (af - 1)) false _ zy.out).mono ?_);rintro e w' ⟨rfl,⟨nd,rfl⟩⟩;(try first|exact ⟨rfl,_,World.drewN_drewN _ _ _⟩|exact ⟨rfl,_,Eq.trans (World.drewN_drewN _ _ _) (congrArg (World.drewN _) (Nat.add_assoc _ _ _))⟩))))
    go_ret
    exact ⟨by first|rfl|(simp [bq,bt]<;>rfl)|(simp [*,bq,bt]<;>rfl),bl⟩
   subst c13
   have H1:(ie.l0 k1 aa (aa.length:Int) (wrap64 (bE+1)) af aa)=some r:=by rw [if_pos rfl] at H;exact H
   clear H
   have H:=H1
   clear H1
   have H':=k0 H
   clear H
   have dQ:0≤(bE:Int):=oD
   have dR:bE < (aa.length:Int):=oD
   obtain ⟨jf,uF,uY,e103,er,js,jq⟩:=cW bU.out bE dQ dR
   cases e103
   replace er:=hbc HB er
   have ak2:=k0 jq
   have uL:=k0 js
   clear jq js
   replace dQ:=eq_true dQ
   replace dR:=eq_true dR
   have cS:0≤(0:Int):=(by omega)
   have cT:0 < ((ah aa bE).length:Int):=oD
   obtain ⟨ko,e104,cM⟩:=Kd.bH ak2.out 0 cS cT
   cases e104
   have DB:(0 < (ah aa bE).length)=True:=eq_true (by omega)
   (try rw [show ((0:Int)).toNat=0 from rfl] at cM)
   (try rw [Addr.add_zero'] at cM)
   replace cM:=hbc HB cM
   replace cS:=eq_true cS
   replace cT:=eq_true cT
   have wX:wr.cell? ⟨ai,0,none⟩=some (.int .i64 af):=(av ag.out 0).trans rfl
   have wY:wr.cell? ⟨ai,1,none⟩=some (.slice (some jf) aa.length ak):=(av ag.out 1).trans rfl
   have alH:=aH ag.out 0
   have alI:=aH ag.out 1
   have dN:0≤(1:Int):=(by omega)
   have dH:1 < ((ah aa bE).length:Int):=oD
   obtain ⟨gB,e106,dF⟩:=Kd.bH ak2.out 1 dN dH
   obtain rfl:ko=gB:=(by injection e106)
   (try simp only [show (1:Int).toNat=1 from rfl,Nat.reduceMul,Nat.reduceEqDiff,Go.Addr.add,↓reduceIte] at dF)
   have AP:(1 < (ah aa bE).length)=True:=eq_true (by omega)
   (try rw [show ((1:Int)).toNat=1 from rfl] at dF)
   replace dF:=hbc HB dF
   replace dN:=eq_true dN
   replace dH:=eq_true dH
   go_wp2_with (first|(go_at_call 194;(with_reducible refine (gO.calls (rd (ah aa bE) 0) 0 (wrap64 (af - 1)) true _ A9.out).mono ?_);rintro e w' ⟨rfl,⟨nd,rfl⟩⟩;(try first|exact ⟨rfl,_,World.drewN_drewN _ _ _⟩|exact ⟨rfl,_,Eq.trans (World.drewN_drewN _ _ _) (congrArg (World.drewN _) (Nat.add_assoc _ _ _))⟩))|(go_at_call 194;(with_reducible refine (gO.calls (rd (ah aa bE) 1) 0 (wrap64 (af - 1)) true _ zy.out).mono ?_);rintro e w' ⟨rfl,⟨nd,rfl⟩⟩;(try first|exact ⟨rfl,_,World.drewN_drewN _ _ _⟩|exact ⟨rfl,_,Eq.trans (World.drewN_drewN _ _ _) (congrArg (World.drewN _) (Nat.add_assoc _ _ _))⟩)))
   repeat (go_quiet (first|(go_at_call 194;(with_reducible refine (gO.calls (rd (ah aa bE) 0) 0 (wrap64 (af - 1)) true _ A9.out).mono ?_);rintro e w' ⟨rfl,⟨nd,rfl⟩⟩;(try first|exact ⟨rfl,_,World.drewN_drewN _ _ _⟩|exact ⟨rfl,_,Eq.trans (World.drewN_drewN _ _ _) (congrArg (World.drewN _) (Nat.add_assoc _ _ _))⟩))|(go_at_call 194;(with_reducible refine (gO.calls (rd (ah aa bE) 1) 0 (wrap64 (af - 1)) true _ zy.out).mono ?_);rintro e w' ⟨rfl,⟨nd,rfl⟩⟩;(try first|exact ⟨rfl,_,World.drewN_drewN _ _ _⟩|exact ⟨rfl,_,Eq.trans (World.drewN_drewN _ _ _) (congrArg (World.drewN _) (Nat.add_assoc _ _ _))⟩)));try go_wp2_with (first|(go_at_call 194;(with_reducible refine (gO.calls (rd (ah aa bE) 0) 0 (wrap64 (af - 1)) true _ A9.out).mono ?_);rintro e w' ⟨rfl,⟨nd,rfl⟩⟩;(try first|exact ⟨rfl,_,World.drewN_drewN _ _ _⟩|exact ⟨rfl,_,Eq.trans (World.drewN_drewN _ _ _) (congrArg (World.drewN _) (Nat.add_assoc _ _ _))⟩))|(go_at_call 194;(with_reducible refine (gO.calls (rd (ah aa bE) 1) 0 (wrap64 (af - 1)) true _ zy.out).mono ?_);rintro e w' ⟨rfl,⟨nd,rfl⟩⟩;(try first|exact ⟨rfl,_,World.drewN_drewN _ _ _⟩|exact ⟨rfl,_,Eq.trans (World.drewN_drewN _ _ _) (congrArg (World.drewN _) (Nat.add_assoc _ _ _))⟩))))
   go_roundg k1
   case measure=>have:=akl.out;omega
   case rel=>exact ⟨(wrap64 (bE+1)),rs,H',⟨by have:=akl.out;omega⟩,⟨bk⟩,⟨bl⟩⟩
-- NOT PRINTED: function 125 (impl_graphCode)
/-! ### F228: function 228 -/
def iR.l0 : Nat → Int → List Int → Int → Int → Option (Int)
 | 0,_,_,_,_=>none
 | k+1,x3,x6,x7,x8=>if x8 < x7 then (if 0≤x8 then (if x8 < (x6.length:Int) then (if x8=(rd x6 x8) then (iR.l0 k (wrap64 (x3+1)) x6 x7 (wrap64 (x8+1))) else (iR.l0 k x3 x6 x7 (wrap64 (x8+1)))) else (none)) else (none)) else (some x3)
def iR.f (k:Nat) (l0:List Int):Option (Int):=iR.l0 k 0 l0 (l0.length:Int) 0
theorem iR.b8 : ∀ k, (∀ y0 y1 y2 y3, aj (iR.l0 k y0 y1 y2 y3) (iR.l0 (k + 1) y0 y1 y2 y3))
 | 0=>fun _ _ _ _ r h=>by simp [iR.l0] at h
 | k+1=>by
  have akk:=iR.b8 k
  ·intro y0 y1 y2 y3
   unfold iR.l0
   repeat' first
    | (with_reducible first|exact akk _ _ _ _|exact aj.refl _|exact aj.none _|refine aj.ite ?_ ?_|refine aj.bind ?_ (fun _=>?_))
    | exact akk _ _ _ _|exact aj.none _|refine aj.ite ?_ ?_|refine aj.bind ?_ (fun _=>?_)
theorem iR.mono:∀ a0 k,aj (iR.f k a0) (iR.f (k+1) a0):=by
 intro a0 k
 have akk:=iR.b8 k
 unfold iR.f
 repeat' first
  | (with_reducible first|exact akk _ _ _ _|exact aj.refl _|exact aj.none _|refine aj.ite ?_ ?_|refine aj.bind ?_ (fun _=>?_))
  | exact akk _ _ _ _|exact aj.none _|refine aj.ite ?_ ?_|refine aj.bind ?_ (fun _=>?_)
set_option maxHeartbeats 8000000 in
set_option maxRecDepth 100000 in
theorem iR.calls (k : Nat) (A0 : Option Addr) (c0 : Nat) (l0 : List Int) (r : Int) (w : World) (dB : Kd.C (Kd.int .i64) w A0 l0.length l0) (hc0 : l0.length ≤ c0) (h : iR.f k l0 = some r) :
  Calls Try.prog 228 #[.slice A0 l0.length c0] w fun e w'=>e=.returned (.int .i64 r)∧bP w w':=by
 have fj:=k0 dB
 have ki:=k0 hc0
 clear dB hc0
 have H:(iR.l0 k 0 l0 (l0.length:Int) 0)=some r:=h
 clear h
 have H':=k0 H
 clear H
 go_enter Try.func228,Try.ntmps228
 go_wp2
 go_loopg [3,8] k (fun kq v3 v8 w'=>∃ (bD:Int) (bE:Int),v3=.int .i64 bD∧v8=.int .i64 bE∧au (iR.l0 kq bD l0 (l0.length:Int) bE=some r)∧au (kq≤k)∧bP w w')
 case atStart=>exact ⟨(0),(0),rs,rs,H',⟨Nat.le_refl _⟩,by repeat (first|exact bP.refl _|apply bP.step)⟩
 case round =>
  clear H'
  obtain ⟨bD,bE,rfl,rfl,HA,akl,⟨m1,rfl⟩⟩:=hrel
  cases gk with
  | zero=>exact absurd HA.out (by simp [iR.l0])
  | succ k1 =>
   have H:=HA.out
   clear HA
   simp only [iR.l0] at H
   by_cases c2:bE < (l0.length:Int)
   case neg =>
    rw [if_neg c2] at H
    have BD:decide (bE < (l0.length:Int))=false:=decide_eq_false c2
    clear c2
    obtain rfl:=Option.some.inj H
    go_wp2
    go_ret
    exact ⟨by first|rfl|(simp;done)|(simp [*];done),by repeat (first|exact bP.refl _|apply bP.step)⟩
   rw [if_pos c2] at H
   have BD:=decide_eq_true c2
   clear c2
   replace H:=iS H;obtain ⟨c3,H⟩:=H
   have iE:=decide_eq_true c3
   clear c3
   replace H:=iS H;obtain ⟨c4,H⟩:=H
   have eA:=decide_eq_true c4
   clear c4
   by_cases c5:bE=(rd l0 bE)
   case neg =>
    rw [if_neg c5] at H
    have iW:(bE == (rd l0 bE))=false:=beq_eq_false_iff_ne.mpr c5
    have alO:(bE != (rd l0 bE))=true:=bne_iff_ne.mpr c5
    have H':=k0 H
    clear H
    have eU:0≤(bE:Int):=oD
    have eV:bE < (l0.length:Int):=oD
    obtain ⟨qM,e101,pH⟩:=Kd.bH fj.out bE eU eV
    cases e101
    replace eU:=eq_true eU
    replace eV:=eq_true eV
    go_wp2
    go_roundg k1
    case measure=>have:=akl.out;omega
    case rel=>exact ⟨(bD),(wrap64 (bE+1)),rs,rs,H',⟨by have:=akl.out;omega⟩,by repeat (first|exact bP.refl _|apply bP.step)⟩
   rw [if_pos c5] at H
   have iW:(bE == (rd l0 bE))=true:=beq_iff_eq.mpr c5
   have alO:(bE != (rd l0 bE))=false:=bne_eq_false_iff_eq.mpr c5
   clear c5
   have H':=k0 H
   clear H
   have eU:0≤(bE:Int):=oD
   have eV:bE < (l0.length:Int):=oD
   obtain ⟨qM,e101,pH⟩:=Kd.bH fj.out bE eU eV
   cases e101
   replace eU:=eq_true eU
   replace eV:=eq_true eV
   go_wp2
   go_roundg k1
   case measure=>have:=akl.out;omega
   case rel=>exact ⟨(wrap64 (bD+1)),(wrap64 (bE+1)),rs,rs,H',⟨by have:=akl.out;omega⟩,by repeat (first|exact bP.refl _|apply bP.step)⟩
/-! ### F230: function 230 -/
def tO.f (a0:Int):Option (Bool):=some true
set_option maxHeartbeats 8000000 in
set_option maxRecDepth 100000 in
theorem tO.calls (a0 : Int) (r : Bool) (w : World) (h : tO.f a0 = some r) :
  Calls Try.prog 230 #[.int .i64 a0] w fun e w'=>e=.returned (.bool r)∧bP w w':=by
 have H:(some true)=some r:=h
 clear h
 obtain rfl:=Option.some.inj H
 go_enter Try.func230,Try.ntmps230
 go_wp2
 go_ret
 exact ⟨by first|rfl|(simp;done)|(simp [*];done),by repeat (first|exact bP.refl _|apply bP.step)⟩
/-! ### F229: function 229 -/
mutual
def cY.l0 : Nat → List Int → Int → Int → Int → List (List Int) → Option (List Int)
 | 0,_,_,_,_,_=>none
 | k+1,x5,gx,jJ,bR,bJ=>if jJ < gx then (if x5.length < 17592186044416 then (cY.l0 k (x5 ++ [jJ]) gx (wrap64 (jJ+1)) bR bJ) else (none)) else (cY.l1 k x5 bJ (bJ.length:Int) 0)
def cY.l1 : Nat → List Int → List (List Int) → Int → Int → Option (List Int)
 | 0,_,_,_,_=>none
 | k+1,x5,nU,fS,fT=>if fT < fS then (if 0≤fT then (if fT < (nU.length:Int) then ((tO.f fT).bind fun t109=>(if t109=true then (if 0 < ((ah nU fT).length:Int) then (if 0≤(rd (ah nU fT) 0) then (if (rd (ah nU fT) 0) < (x5.length:Int) then (if 1 < ((ah nU fT).length:Int) then (if 0≤(rd (ah nU fT) 1) then (if (rd (ah nU fT) 1) < (x5.length:Int) then (cY.l2 k x5 (rd x5 (rd (ah nU fT) 0)) (rd x5 (rd (ah nU fT) 1)) nU fS fT (x5.length:Int) 0) else (none)) else (none)) else (none)) else (none)) else (none)) else (none)) else (cY.l1 k x5 nU fS (wrap64 (fT+1))))) else (none)) else (none)) else (some x5)
def cY.l2 : Nat → List Int → Int → Int → List (List Int) → Int → Int → Int → Int → Option (List Int)
 | 0,_,_,_,_,_,_,_,_=>none
 | k+1,x5,x9,fc,nU,fS,fT,ala,zw=>if zw < ala then (if 0≤zw then (if zw < (x5.length:Int) then (if (rd x5 zw)=(mx x9 fc) then (cY.l2 k (x5.set (zw:Int).toNat (mn x9 fc)) x9 fc nU fS fT ala (wrap64 (zw+1))) else (cY.l2 k x5 x9 fc nU fS fT ala (wrap64 (zw+1)))) else (none)) else (none)) else (cY.l1 k x5 nU fS (wrap64 (fT+1)))
end
def cY.f (k:Nat) (af:Int) (aa:List (List Int)):Option (List Int):=cY.l0 k (([]:List Int)) af 0 af aa
theorem cY.b8 : ∀ k, (∀ y0 y1 y2 y3 y4, aj (cY.l0 k y0 y1 y2 y3 y4) (cY.l0 (k + 1) y0 y1 y2 y3 y4)) ∧ (∀ y0 y1 y2 y3, aj (cY.l1 k y0 y1 y2 y3) (cY.l1 (k + 1) y0 y1 y2 y3)) ∧ (∀ y0 y1 y2 y3 y4 y5 y6 y7, aj (cY.l2 k y0 y1 y2 y3 y4 y5 y6 y7) (cY.l2 (k + 1) y0 y1 y2 y3 y4 y5 y6 y7))
 | 0=>⟨fun _ _ _ _ _ r h=>by simp [cY.l0] at h,fun _ _ _ _ r h=>by simp [cY.l1] at h,fun _ _ _ _ _ _ _ _ r h=>by simp [cY.l2] at h⟩
 | k+1=>by
  obtain ⟨akk,ih1,ih2⟩:=cY.b8 k
  refine ⟨?_, ?_, ?_⟩ <;> intros <;> (first | unfold cY.l0 | unfold cY.l1 | unfold cY.l2) <;> repeat' first
   | (with_reducible first|exact akk _ _ _ _ _|exact ih1 _ _ _ _|exact ih2 _ _ _ _ _ _ _ _|exact aj.refl _|exact aj.none _|refine aj.ite ?_ ?_|refine aj.bind ?_ (fun _=>?_))
   | exact akk _ _ _ _ _|exact ih1 _ _ _ _|exact ih2 _ _ _ _ _ _ _ _|exact aj.none _|refine aj.ite ?_ ?_|refine aj.bind ?_ (fun _=>?_)
theorem cY.mono:∀ a0 a1 k,aj (cY.f k a0 a1) (cY.f (k+1) a0 a1):=by
 intro a0 a1 k
 obtain ⟨akk,ih1,ih2⟩:=cY.b8 k
 unfold cY.f
 repeat' first
  | (with_reducible first|exact akk _ _ _ _ _|exact ih1 _ _ _ _|exact ih2 _ _ _ _ _ _ _ _|exact aj.refl _|exact aj.none _|refine aj.ite ?_ ?_|refine aj.bind ?_ (fun _=>?_))
  | exact akk _ _ _ _ _|exact ih1 _ _ _ _|exact ih2 _ _ _ _ _ _ _ _|exact aj.none _|refine aj.ite ?_ ?_|refine aj.bind ?_ (fun _=>?_)
set_option maxHeartbeats 8000000 in
set_option maxRecDepth 100000 in
theorem cY.calls (k : Nat) (af : Int) (aq : Option Addr) (ak : Nat) (aa : List (List Int)) (r : List Int) (w : World) (akv : Kd.C (Kd.slice 2 (Kd.int .i64)) w aq aa.length aa) (akw : aa.length ≤ ak) (h : cY.f k af aa = some r) :
  Calls Try.prog 229 #[.agg #[.int .i64 af,.slice aq aa.length ak],.func (.func 230) #[] #[]] w fun e w'=>∃ dK:Value,e=.returned (dK)∧Kd.R (Kd.int .i64) 2 w' w.heap.size (fun _=>True) dK r∧Below w.heap.size w w':=by
 have j8:=Try.underlying31
 have bU:=k0 akv
 have cG:=k0 akw
 clear akv akw
 have HB:=k0 (Below.refl w.heap.size w)
 have H:(cY.l0 k (([]:List Int)) af 0 af aa)=some r:=h
 clear h
 obtain ⟨eW,eL⟩:∃ y_:List Int,y_=(([]:List Int)):=⟨_,rfl⟩
 replace H:(cY.l0 k eW af 0 af aa)=some r:=by first|(rw [eL];with_reducible exact H)|(have ay:=(Option.bind_some _ _).symm.trans H;rw [eL];with_reducible exact ay)|(have ay:=(Option.bind_some _ _).symm.trans H;with_reducible exact ay)|with_reducible exact H|(rw [eL];exact H)|exact H
 have gA:=k0 eL
 clear eL
 have H':=k0 H
 clear H
 go_enter Try.func229,Try.ntmps229
 go_wp2_with (first|((with_reducible refine cj (N:=2) rfl ?_);refine dJ ?hg (N:=2) ?hd (cs:=#[.int .i64 af,.slice aq aa.length ak]) (t:=31) ?hr ?_;(case hd=>rfl);(case hg=>rfl);(case hr=>first|(go_simp;done)|(go_simp;rfl));intro ai hg w2 aK hb;have ag:=k0 (aK);have aks:=k0 ((by rw [hg];exact (aU bl):w.heap.size≤ai));have ej:=aks;replace HB:=k0 (aI bl hb);clear hb aK hg)|((with_reducible refine cj (N:=13) rfl ?_);refine Kd.o8 (Kd.int .i64) _ 2 ?hg (N:=13) ?hd (xs:=([]:List Int)) (inner:=[]) (ok:=fun _=>True) (cA:=fun _=>True) ?hr ?hp (fun _ hk=>hk) trivial (Below.refl _ _) (Nat.le_refl _) (by simp) ?_;(case hd=>rfl);(case hg=>rfl);(case hr=>first|(go_simp;done)|(go_simp;rfl));(case hp=>exact (bS.none _ _));intro dx w3 ep hb eB eC;clear eB eC;(first|rw [← gA.out] at ep|(simp only [Int.reduceToNat] at ep;rw [← gA.out] at ep));have bh:=k0 (Kd.dL ep (aU bl));replace ag:=k0 (akj (g:=ai) (o:=sO af aq aa ak 31) bk hb);replace HB:=k0 (aI bl hb);clear hb ep;have sJ:w3.cell? ⟨ai,0,none⟩=some (.int .i64 af):=(av ag.out 0).trans rfl;have sK:w3.cell? ⟨ai,1,none⟩=some (.slice aq aa.length ak):=(av ag.out 1).trans rfl;have sM:=aH ag.out 0;have sN:=aH ag.out 1))
 repeat (go_quiet (first|((with_reducible refine cj (N:=2) rfl ?_);refine dJ ?hg (N:=2) ?hd (cs:=#[.int .i64 af,.slice aq aa.length ak]) (t:=31) ?hr ?_;(case hd=>rfl);(case hg=>rfl);(case hr=>first|(go_simp;done)|(go_simp;rfl));intro ai hg w2 aK hb;have ag:=k0 (aK);have aks:=k0 ((by rw [hg];exact (aU bl):w.heap.size≤ai));have ej:=aks;replace HB:=k0 (aI bl hb);clear hb aK hg)|((with_reducible refine cj (N:=13) rfl ?_);refine Kd.o8 (Kd.int .i64) _ 2 ?hg (N:=13) ?hd (xs:=([]:List Int)) (inner:=[]) (ok:=fun _=>True) (cA:=fun _=>True) ?hr ?hp (fun _ hk=>hk) trivial (Below.refl _ _) (Nat.le_refl _) (by simp) ?_;(case hd=>rfl);(case hg=>rfl);(case hr=>first|(go_simp;done)|(go_simp;rfl));(case hp=>exact (bS.none _ _));intro dx w3 ep hb eB eC;clear eB eC;(first|rw [← gA.out] at ep|(simp only [Int.reduceToNat] at ep;rw [← gA.out] at ep));have bh:=k0 (Kd.dL ep (aU bl));replace ag:=k0 (akj (g:=ai) (o:=sO af aq aa ak 31) bk hb);replace HB:=k0 (aI bl hb);clear hb ep;have sJ:w3.cell? ⟨ai,0,none⟩=some (.int .i64 af):=(av ag.out 0).trans rfl;have sK:w3.cell? ⟨ai,1,none⟩=some (.slice aq aa.length ak):=(av ag.out 1).trans rfl;have sM:=aH ag.out 0;have sN:=aH ag.out 1));try go_wp2_with (first|((with_reducible refine cj (N:=2) rfl ?_);refine dJ ?hg (N:=2) ?hd (cs:=#[.int .i64 af,.slice aq aa.length ak]) (t:=31) ?hr ?_;(case hd=>rfl);(case hg=>rfl);(case hr=>first|(go_simp;done)|(go_simp;rfl));intro ai hg w2 aK hb;have ag:=k0 (aK);have aks:=k0 ((by rw [hg];exact (aU bl):w.heap.size≤ai));have ej:=aks;replace HB:=k0 (aI bl hb);clear hb aK hg)|((with_reducible refine cj (N:=13) rfl ?_);refine Kd.o8 (Kd.int .i64) _ 2 ?hg (N:=13) ?hd (xs:=([]:List Int)) (inner:=[]) (ok:=fun _=>True) (cA:=fun _=>True) ?hr ?hp (fun _ hk=>hk) trivial (Below.refl _ _) (Nat.le_refl _) (by simp) ?_;(case hd=>rfl);(case hg=>rfl);(case hr=>first|(go_simp;done)|(go_simp;rfl));(case hp=>exact (bS.none _ _));intro dx w3 ep hb eB eC;clear eB eC;(first|rw [← gA.out] at ep|(simp only [Int.reduceToNat] at ep;rw [← gA.out] at ep));have bh:=k0 (Kd.dL ep (aU bl));replace ag:=k0 (akj (g:=ai) (o:=sO af aq aa ak 31) bk hb);replace HB:=k0 (aI bl hb);clear hb ep;have sJ:w3.cell? ⟨ai,0,none⟩=some (.int .i64 af):=(av ag.out 0).trans rfl;have sK:w3.cell? ⟨ai,1,none⟩=some (.slice aq aa.length ak):=(av ag.out 1).trans rfl;have sM:=aH ag.out 0;have sN:=aH ag.out 1)))
 go_loopg [5,16] k (fun kq v5 Le w'=>∃ (aM:List Int) (eJ:Int),Le=.int .i64 eJ∧au (cY.l0 kq aM af eJ af aa=some r)∧au (kq≤k)∧au (Kd.R (Kd.int .i64) 2 w' w.heap.size (fun _=>True) v5 aM)∧au (w'.heap[ai]?=some (sO af aq aa ak 31))∧au (Below w.heap.size w w'))
 case atStart=>exact ⟨(eW),(0),rs,H',⟨Nat.le_refl _⟩,⟨aR (bh.out)⟩,⟨bk⟩,⟨bl⟩⟩
 case round =>
  clear H'
  (try clear sJ);(try clear sK);(try clear sM);(try clear sN)
  obtain ⟨aM,eJ,rfl,HA,akl,bM,ag,HB⟩:=hrel
  cases gk with
  | zero=>exact absurd HA.out (by simp [cY.l0])
  | succ k1 =>
   have H:=HA.out
   clear HA
   simp only [cY.l0] at H
   by_cases c6:eJ < af
   case neg =>
    rw [if_neg c6] at H
    have akJ:decide (eJ < af)=false:=decide_eq_false c6
    clear c6
    have H':=k0 H
    clear H
    have uf:wr.cell? ⟨ai,0,none⟩=some (.int .i64 af):=(av ag.out 0).trans rfl
    have ug:wr.cell? ⟨ai,1,none⟩=some (.slice aq aa.length ak):=(av ag.out 1).trans rfl
    have um:=aH ag.out 0
    have uo:=aH ag.out 1
    go_wp2
    repeat (go_quiet (fail);try go_wp2)
    go_loopg [27] k1 (fun kq DN w'=>∃ (ako:List Int) (akg:Int),DN=.int .i64 akg∧au (cY.l1 kq ako aa (aa.length:Int) akg=some r)∧au (kq≤k1)∧au (Kd.R (Kd.int .i64) 2 w' w.heap.size (fun _=>True) u5 ako)∧au (w'.heap[ai]?=some (sO af aq aa ak 31))∧au (Below w.heap.size w w'))
    case atStart=>exact ⟨(aM),(0),rs,H',⟨Nat.le_refl _⟩,⟨aR (bM.out)⟩,⟨bk⟩,⟨bl⟩⟩
    case round =>
     clear H'
     (try clear c6);(try clear akJ);(try clear c7);(try clear sJ);(try clear sK);(try clear uf);(try clear ug);(try clear sM);(try clear sN);(try clear um);(try clear uo)
     obtain ⟨ako,akg,rfl,HA,bz,bM,ag,HB⟩:=hrel
     cases gk with
     | zero=>exact absurd HA.out (by simp [cY.l1])
     | succ k2 =>
      have H:=HA.out
      clear HA
      simp only [cY.l1] at H
      by_cases c10:akg < (aa.length:Int)
      case neg =>
       rw [if_neg c10] at H
       have lB:decide (akg < (aa.length:Int))=false:=decide_eq_false c10
       clear c10
       obtain rfl:=Option.some.inj H
       go_wp2
       repeat (go_quiet (fail);try go_wp2)
       go_ret
       exact ⟨_,by first|rfl|(simp [bq,bt]<;>rfl)|(simp [*,bq,bt]<;>rfl),by (with_reducible repeat (first|apply Kd.bN|apply Kd.bQ|apply Kd.bn));exact bM.out,bl⟩
      rw [if_pos c10] at H
      have lB:=decide_eq_true c10
      clear c10
      replace H:=iS H;obtain ⟨c11,H⟩:=H
      have mz:=decide_eq_true c11
      clear c11
      replace H:=iS H;obtain ⟨c12,H⟩:=H
      have rG:=decide_eq_true c12
      clear c12
      replace H:=Option.bind_eq_some_iff.mp H
      obtain ⟨t109,vY,H⟩:=H
      replace H:(if t109=true then (if 0 < ((ah aa akg).length:Int) then (if 0≤(rd (ah aa akg) 0) then (if (rd (ah aa akg) 0) < (ako.length:Int) then (if 1 < ((ah aa akg).length:Int) then (if 0≤(rd (ah aa akg) 1) then (if (rd (ah aa akg) 1) < (ako.length:Int) then (cY.l2 k2 ako (rd ako (rd (ah aa akg) 0)) (rd ako (rd (ah aa akg) 1)) aa (aa.length:Int) akg (ako.length:Int) 0) else (none)) else (none)) else (none)) else (none)) else (none)) else (none)) else (cY.l1 k2 ako aa (aa.length:Int) (wrap64 (akg+1))))=some r:=H
      have nB:=k0 vY
      clear vY
      by_cases c14:t109=true
      case neg =>
       replace c14:=Bool.eq_false_iff.mpr c14
       subst c14
       have H1:(cY.l1 k2 ako aa (aa.length:Int) (wrap64 (akg+1)))=some r:=by rw [if_neg (show ¬ (false=true) by decide)] at H;exact H
       clear H
       have H:=H1
       clear H1
       have H':=k0 H
       clear H
       have ec:0≤(akg:Int):=oD
       have dS:akg < (aa.length:Int):=oD
       obtain ⟨akU,DX,Ez,e108,fu,sX,sQ⟩:=cW bU.out akg ec dS
       cases e108
       replace fu:=hbc HB fu
       have zK:=k0 sQ
       have GO:=k0 sX
       clear sQ sX
       replace ec:=eq_true ec
       replace dS:=eq_true dS
       go_wp2_with (first|(go_at_call 230;(with_reducible refine (tO.calls akg false _ nB.out).mono ?_);rintro e w' ⟨rfl,⟨nd,rfl⟩⟩;(try first|exact ⟨rfl,_,World.drewN_drewN _ _ _⟩|exact ⟨rfl,_,Eq.trans (World.drewN_drewN _ _ _) (congrArg (World.drewN _) (Nat.add_assoc _ _ _))⟩)))
       repeat (go_quiet (first|(go_at_call 230;(with_reducible refine (tO.calls akg false _ nB.out).mono ?_);rintro e w' ⟨rfl,⟨nd,rfl⟩⟩;(try first|exact ⟨rfl,_,World.drewN_drewN _ _ _⟩|exact ⟨rfl,_,Eq.trans (World.drewN_drewN _ _ _) (congrArg (World.drewN _) (Nat.add_assoc _ _ _))⟩)));try go_wp2_with (first|(go_at_call 230;(with_reducible refine (tO.calls akg false _ nB.out).mono ?_);rintro e w' ⟨rfl,⟨nd,rfl⟩⟩;(try first|exact ⟨rfl,_,World.drewN_drewN _ _ _⟩|exact ⟨rfl,_,Eq.trans (World.drewN_drewN _ _ _) (congrArg (World.drewN _) (Nat.add_assoc _ _ _))⟩))))
       first|go_roundg k2|(simp only [← qV];go_roundg k2)|(simp only [← lW];go_roundg k2)
       case measure=>have:=akl.out;have:=bz.out;omega
       case rel=>exact ⟨(ako),(wrap64 (akg+1)),rs,(by first|exact H'|(rw [qV];exact H')|(rw [lW];exact H')),⟨by have:=akl.out;have:=bz.out;omega⟩,⟨aR (bM.out)⟩,⟨bk⟩,⟨bl⟩⟩
      subst c14
      have H1:(if 0 < ((ah aa akg).length:Int) then (if 0≤(rd (ah aa akg) 0) then (if (rd (ah aa akg) 0) < (ako.length:Int) then (if 1 < ((ah aa akg).length:Int) then (if 0≤(rd (ah aa akg) 1) then (if (rd (ah aa akg) 1) < (ako.length:Int) then (cY.l2 k2 ako (rd ako (rd (ah aa akg) 0)) (rd ako (rd (ah aa akg) 1)) aa (aa.length:Int) akg (ako.length:Int) 0) else (none)) else (none)) else (none)) else (none)) else (none)) else (none))=some r:=by rw [if_pos rfl] at H;exact H
      clear H
      have H:=H1
      clear H1
      replace H:=iS H;obtain ⟨c15,H⟩:=H
      have kR:=decide_eq_true c15
      have rH:decide (0 < (ah aa akg).length)=true:=decide_eq_true (by omega)
      clear c15
      replace H:=iS H;obtain ⟨c16,H⟩:=H
      have qN:=decide_eq_true c16
      clear c16
      replace H:=iS H;obtain ⟨c17,H⟩:=H
      have oN:=decide_eq_true c17
      clear c17
      replace H:=iS H;obtain ⟨c18,H⟩:=H
      have tY:=decide_eq_true c18
      have Wr:decide (1 < (ah aa akg).length)=true:=decide_eq_true (by omega)
      clear c18
      replace H:=iS H;obtain ⟨c19,H⟩:=H
      have mA:=decide_eq_true c19
      clear c19
      replace H:=iS H;obtain ⟨c20,H⟩:=H
      have og:=decide_eq_true c20
      clear c20
      have H':=k0 H
      clear H
      have ec:0≤(akg:Int):=oD
      have dS:akg < (aa.length:Int):=oD
      obtain ⟨akU,DX,Ez,e108,fu,sX,sQ⟩:=cW bU.out akg ec dS
      cases e108
      replace fu:=hbc HB fu
      have zK:=k0 sQ
      have GO:=k0 sX
      clear sQ sX
      replace ec:=eq_true ec
      replace dS:=eq_true dS
      have jw:0≤(0:Int):=(by omega)
      have jx:0 < ((ah aa akg).length:Int):=oD
      obtain ⟨akV,e110,kD⟩:=Kd.bH zK.out 0 jw jx
      cases e110
      have adx:(0 < (ah aa akg).length)=True:=eq_true (by omega)
      (try rw [show ((0:Int)).toNat=0 from rfl] at kD)
      (try rw [Addr.add_zero'] at kD)
      replace kD:=hbc HB kD
      replace jw:=eq_true jw
      replace jx:=eq_true jx
      obtain ⟨LW,vk,rK⟩:=Kd.eK bM.out
      subst rK
      obtain ⟨qb,Ii,yd,On,YN,ags,Mk⟩:=Kd.akT bM.out (by have dZ:0≤((rd (ah aa akg) 0):Int):=oD;have iY:((rd (ah aa akg) 0):Int) < ((ako.length:Int):Int):=oD;omega)
      (first|cases yd|(injection yd with bf dn dm;(first|subst bf|(injection bf with bf;subst bf));subst dm;clear dn))
      have GF:=k0 On
      have afc:=k0 Mk
      clear On YN Mk
      have gi:0≤((rd (ah aa akg) 0):Int):=oD
      have gl:(rd (ah aa akg) 0) < (ako.length:Int):=oD
      obtain ⟨mX,e111,gM⟩:=Kd.bH (Kd.bu bM.out).2.2 (rd (ah aa akg) 0) gi gl
      obtain rfl:(⟨qb,0,none⟩:Addr)=mX:=(by injection e111)
      (first|simp only [add_plain] at gM|simp only [lS] at gM|simp only [Addr.add,Nat.zero_add] at gM|skip)
      replace gi:=eq_true gi
      replace gl:=eq_true gl
      have oy:0≤(1:Int):=(by omega)
      have oz:1 < ((ah aa akg).length:Int):=oD
      obtain ⟨xY,e112,lG⟩:=Kd.bH zK.out 1 oy oz
      obtain rfl:akV=xY:=(by injection e112)
      (try simp only [show (1:Int).toNat=1 from rfl,Nat.reduceMul,Nat.reduceEqDiff,Go.Addr.add,↓reduceIte] at lG)
      have ady:(1 < (ah aa akg).length)=True:=eq_true (by omega)
      (try rw [show ((1:Int)).toNat=1 from rfl] at lG)
      replace lG:=hbc HB lG
      replace oy:=eq_true oy
      replace oz:=eq_true oz
      have nN:0≤((rd (ah aa akg) 1):Int):=oD
      have nO:(rd (ah aa akg) 1) < (ako.length:Int):=oD
      obtain ⟨xZ,e113,nk⟩:=Kd.bH (Kd.bu bM.out).2.2 (rd (ah aa akg) 1) nN nO
      obtain rfl:(⟨qb,0,none⟩:Addr)=xZ:=(by injection e113)
      (first|simp only [add_plain] at nk|simp only [lS] at nk|simp only [Addr.add,Nat.zero_add] at nk|skip)
      replace nN:=eq_true nN
      replace nO:=eq_true nO
      go_wp2_with (first|(go_at_call 230;(with_reducible refine (tO.calls akg true _ nB.out).mono ?_);rintro e w' ⟨rfl,⟨nd,rfl⟩⟩;(try first|exact ⟨rfl,_,World.drewN_drewN _ _ _⟩|exact ⟨rfl,_,Eq.trans (World.drewN_drewN _ _ _) (congrArg (World.drewN _) (Nat.add_assoc _ _ _))⟩)))
      repeat (go_quiet (first|(go_at_call 230;(with_reducible refine (tO.calls akg true _ nB.out).mono ?_);rintro e w' ⟨rfl,⟨nd,rfl⟩⟩;(try first|exact ⟨rfl,_,World.drewN_drewN _ _ _⟩|exact ⟨rfl,_,Eq.trans (World.drewN_drewN _ _ _) (congrArg (World.drewN _) (Nat.add_assoc _ _ _))⟩)));try go_wp2_with (first|(go_at_call 230;(with_reducible refine (tO.calls akg true _ nB.out).mono ?_);rintro e w' ⟨rfl,⟨nd,rfl⟩⟩;(try first|exact ⟨rfl,_,World.drewN_drewN _ _ _⟩|exact ⟨rfl,_,Eq.trans (World.drewN_drewN _ _ _) (congrArg (World.drewN _) (Nat.add_assoc _ _ _))⟩))))
      go_loopg [50] k2 (fun kq v50 w'=>∃ (jK:List Int) (gX:Int),v50=.int .i64 gX∧au (cY.l2 kq jK (rd ako (rd (ah aa akg) 0)) (rd ako (rd (ah aa akg) 1)) aa (aa.length:Int) akg (ako.length:Int) gX=some r)∧au (kq≤k2)∧au (Kd.R (Kd.int .i64) 2 w' w.heap.size (fun _=>True) (.slice (some ⟨qb,0,none⟩) ako.length vk) jK)∧au (w'.heap[ai]?=some (sO af (some akU) aa ak 31))∧au (Below w.heap.size w w'))
      case atStart=>exact ⟨(ako),(0),rs,H',⟨Nat.le_refl _⟩,⟨aR (bM.out)⟩,⟨bk⟩,⟨bl⟩⟩
      case round =>
       clear H'
       (try clear c6);(try clear akJ);(try clear c7);(try clear c10);(try clear lB);(try clear c11);(try clear mz);(try clear c12);(try clear rG);(try clear c14);(try clear c15);(try clear kR);(try clear rH);(try clear c16);(try clear qN);(try clear c17);(try clear oN);(try clear c18);(try clear tY);(try clear Wr);(try clear c19);(try clear mA);(try clear c20);(try clear og);(try clear sJ);(try clear sK);(try clear uf);(try clear ug);(try clear sM);(try clear sN);(try clear um);(try clear uo);(try clear fu);(try clear kD);(try clear gM);(try clear lG);(try clear nk);(try clear ec);(try clear jw);(try clear gi);(try clear oy);(try clear nN);(try clear dS);(try clear jx);(try clear gl);(try clear oz);(try clear nO)
       obtain ⟨jK,gX,rfl,HA,dg,bM,ag,HB⟩:=hrel
       have gV:=(Kd.bu bM.out).1
       rw [gV] at bM
       (try simp only [gV])
       (try simp only [gV] at ag)
       cases gk with
       | zero=>exact absurd HA.out (by simp [cY.l2])
       | succ k3 =>
        have H:=HA.out
        clear HA
        simp only [cY.l2] at H
        by_cases c23:gX < (ako.length:Int)
        case neg =>
         rw [if_neg c23] at H
         have rI:decide (gX < (ako.length:Int))=false:=decide_eq_false c23
         (try simp only [gV] at rI)
         clear c23
         have H':=k0 H
         clear H
         go_wp2
         repeat (go_quiet (fail);try go_wp2)
         (try simp only [← gV])
         first|go_roundg k3|(simp only [← qV];go_roundg k3)|(simp only [← lW];go_roundg k3)
         case measure=>have:=akl.out;have:=bz.out;have:=dg.out;omega
         case rel=>exact ⟨(jK),(wrap64 (akg+1)),rs,(by first|exact H'|(rw [qV];exact H')|(rw [lW];exact H')),⟨by have:=akl.out;have:=bz.out;have:=dg.out;omega⟩,⟨by (try simp only [gV]);(with_reducible repeat (first|apply Kd.bN|apply Kd.bQ|apply Kd.bn));exact bM.out⟩,⟨by (try simp only [gV]);exact bk⟩,⟨bl⟩⟩
        rw [if_pos c23] at H
        have rI:=decide_eq_true c23
        (try simp only [gV] at rI)
        clear c23
        replace H:=iS H;obtain ⟨c24,H⟩:=H
        have t_:=decide_eq_true c24
        clear c24
        replace H:=iS H;obtain ⟨c25,H⟩:=H
        have alv:=decide_eq_true c25
        (try simp only [gV] at alv)
        clear c25
        obtain ⟨alZ,qV⟩:∃ j_:Int,(mx (rd ako (rd (ah aa akg) 0)) (rd ako (rd (ah aa akg) 1)))=j_:=⟨_,rfl⟩
        replace H:(if (rd jK gX)=(alZ) then (cY.l2 k3 (jK.set (gX:Int).toNat (mn (rd ako (rd (ah aa akg) 0)) (rd ako (rd (ah aa akg) 1)))) (rd ako (rd (ah aa akg) 0)) (rd ako (rd (ah aa akg) 1)) aa (aa.length:Int) akg (ako.length:Int) (wrap64 (gX+1))) else (cY.l2 k3 jK (rd ako (rd (ah aa akg) 0)) (rd ako (rd (ah aa akg) 1)) aa (aa.length:Int) akg (ako.length:Int) (wrap64 (gX+1))))=some r:=by first|(rw [qV] at H;exact H)|(simp only [qV] at H ⊢;exact H)
        have ahI:(if (rd ako (rd (ah aa akg) 0)) < (rd ako (rd (ah aa akg) 1)) then (rd ako (rd (ah aa akg) 1)) else (rd ako (rd (ah aa akg) 0)))=alZ:=qV
        by_cases c27:(rd jK gX)=(alZ)
        case neg =>
         rw [if_neg c27] at H
         have sr:((rd jK gX) == (alZ))=false:=beq_eq_false_iff_ne.mpr c27
         have BC:((rd jK gX) != (alZ))=true:=bne_iff_ne.mpr c27
         have H':=k0 H
         clear H
         have iF:0≤(gX:Int):=oD
         have iG:gX < (jK.length:Int):=oD
         obtain ⟨lR,e114,iZ⟩:=Kd.bH (Kd.bu bM.out).2.2 gX iF iG
         obtain rfl:(⟨qb,0,none⟩:Addr)=lR:=(by injection e114)
         (first|simp only [add_plain] at iZ|simp only [lS] at iZ|simp only [Addr.add,Nat.zero_add] at iZ|skip)
         replace iF:=eq_true iF
         replace iG:=eq_true iG
         go_wp2
         repeat (go_quiet (fail);try go_wp2)
         (try simp only [← gV])
         first|go_roundg k3|(simp only [← qV];go_roundg k3)|(simp only [← lW];go_roundg k3)
         case measure=>have:=akl.out;have:=bz.out;have:=dg.out;omega
         case rel=>exact ⟨(jK),(wrap64 (gX+1)),rs,(by first|exact H'|(rw [qV];exact H')|(rw [lW];exact H')),⟨by have:=akl.out;have:=bz.out;have:=dg.out;omega⟩,⟨by (try simp only [gV]);(with_reducible repeat (first|apply Kd.bN|apply Kd.bQ|apply Kd.bn));exact bM.out⟩,⟨by (try simp only [gV]);exact bk⟩,⟨bl⟩⟩
        rw [if_pos c27] at H
        have sr:((rd jK gX) == (alZ))=true:=beq_iff_eq.mpr c27
        have BC:((rd jK gX) != (alZ))=false:=bne_eq_false_iff_eq.mpr c27
        clear c27
        obtain ⟨nt,lW⟩:∃ j_:Int,(mn (rd ako (rd (ah aa akg) 0)) (rd ako (rd (ah aa akg) 1)))=j_:=⟨_,rfl⟩
        replace H:(cY.l2 k3 (jK.set (gX:Int).toNat (nt)) (rd ako (rd (ah aa akg) 0)) (rd ako (rd (ah aa akg) 1)) aa (aa.length:Int) akg (ako.length:Int) (wrap64 (gX+1)))=some r:=by first|(rw [lW] at H;exact H)|(simp only [lW] at H ⊢;exact H)
        have aa6:(if (rd ako (rd (ah aa akg) 1)) < (rd ako (rd (ah aa akg) 0)) then (rd ako (rd (ah aa akg) 1)) else (rd ako (rd (ah aa akg) 0)))=nt:=lW
        obtain ⟨dU,gf⟩:∃ y_:List Int,y_=(jK.set (gX:Int).toNat (nt)):=⟨_,rfl⟩
        replace H:(cY.l2 k3 dU (rd ako (rd (ah aa akg) 0)) (rd ako (rd (ah aa akg) 1)) aa (aa.length:Int) akg (ako.length:Int) (wrap64 (gX+1)))=some r:=by first|(rw [gf];with_reducible exact H)|(have ay:=(Option.bind_some _ _).symm.trans H;rw [gf];with_reducible exact ay)|(have ay:=(Option.bind_some _ _).symm.trans H;with_reducible exact ay)|with_reducible exact H|(rw [gf];exact H)|exact H
        have mV:=k0 gf
        clear gf
        have H':=k0 H
        clear H
        have iF:0≤(gX:Int):=oD
        have iG:gX < (jK.length:Int):=oD
        obtain ⟨lR,e114,iZ⟩:=Kd.bH (Kd.bu bM.out).2.2 gX iF iG
        obtain rfl:(⟨qb,0,none⟩:Addr)=lR:=(by injection e114)
        (first|simp only [add_plain] at iZ|simp only [lS] at iZ|simp only [Addr.add,Nat.zero_add] at iZ|skip)
        replace iF:=eq_true iF
        replace iG:=eq_true iG
        have zi:0≤(gX:Int):=oD
        have oA:(gX:Int) < ((jK.length:Int):Int):=oD
        obtain ⟨Q1,PJ⟩:=Kd.jD 0 bM.out (gX:Int) zi oA
        replace zi:=eq_true zi
        replace oA:=eq_true oA
        have mU:=Kd.kP bM.out (gX:Int) nt
        go_wp2_with (first|((with_reducible refine lf (t:=2) (p:=65) rfl ?_);(try (rw [Ai wr];generalize iY:World.drewN wr _=wr;have akf:=k0 (Kd.zO iY bM.out);have aD:=k0 (al3 iY ag.out);have aJ:=k0 (zY iY HB.out);clear iY bM ag HB;have bM:=akf;have ag:=aD;have HB:=aJ;clear akf aD aJ;(try (have mU:=Kd.kP bM.out (gX:Int) nt))));refine lq (t:=2) (p:=65) (v:=?Sv) (w1:=(wr.setCell ⟨qb,(gX:Int).toNat,none⟩ (.int .i64 nt))) ?hg ?ho ?hn ?hr ?_;(case ho=>rfl);(case hg=>rfl);(case hn=>rfl);(case hr=>first|(go_simp;done)|(go_simp;rfl));intro rY hw;have hg:wr.grownBy rY (some qb):=(by rw [hw];exact mU.2);have dZ:Kd.R (Kd.int .i64) 2 rY w.heap.size (fun _=>True) (.slice (some ⟨qb,0,none⟩) jK.length vk) dU:=(by rw [hw,mV.out];exact mU.1);clear mU;replace ag:=k0 (jl (g:=ai) (o:=sO af (some akU) aa ak 31) bk hg (Kd.iD bM.out ag.out (by decide)));replace bM:=k0 (dZ);replace HB:=k0 ((by rw [hw];exact dM (HB.out) GF.out:Below w.heap.size w rY));clear hg hw dZ))
        repeat (go_quiet (first|((with_reducible refine lf (t:=2) (p:=65) rfl ?_);(try (rw [Ai wr];generalize iY:World.drewN wr _=wr;have akf:=k0 (Kd.zO iY bM.out);have aD:=k0 (al3 iY ag.out);have aJ:=k0 (zY iY HB.out);clear iY bM ag HB;have bM:=akf;have ag:=aD;have HB:=aJ;clear akf aD aJ;(try (have mU:=Kd.kP bM.out (gX:Int) nt))));refine lq (t:=2) (p:=65) (v:=?Sv) (w1:=(wr.setCell ⟨qb,(gX:Int).toNat,none⟩ (.int .i64 nt))) ?hg ?ho ?hn ?hr ?_;(case ho=>rfl);(case hg=>rfl);(case hn=>rfl);(case hr=>first|(go_simp;done)|(go_simp;rfl));intro rY hw;have hg:wr.grownBy rY (some qb):=(by rw [hw];exact mU.2);have dZ:Kd.R (Kd.int .i64) 2 rY w.heap.size (fun _=>True) (.slice (some ⟨qb,0,none⟩) jK.length vk) dU:=(by rw [hw,mV.out];exact mU.1);clear mU;replace ag:=k0 (jl (g:=ai) (o:=sO af (some akU) aa ak 31) bk hg (Kd.iD bM.out ag.out (by decide)));replace bM:=k0 (dZ);replace HB:=k0 ((by rw [hw];exact dM (HB.out) GF.out:Below w.heap.size w rY));clear hg hw dZ));try go_wp2_with (first|((with_reducible refine lf (t:=2) (p:=65) rfl ?_);(try (rw [Ai wr];generalize iY:World.drewN wr _=wr;have akf:=k0 (Kd.zO iY bM.out);have aD:=k0 (al3 iY ag.out);have aJ:=k0 (zY iY HB.out);clear iY bM ag HB;have bM:=akf;have ag:=aD;have HB:=aJ;clear akf aD aJ;(try (have mU:=Kd.kP bM.out (gX:Int) nt))));refine lq (t:=2) (p:=65) (v:=?Sv) (w1:=(wr.setCell ⟨qb,(gX:Int).toNat,none⟩ (.int .i64 nt))) ?hg ?ho ?hn ?hr ?_;(case ho=>rfl);(case hg=>rfl);(case hn=>rfl);(case hr=>first|(go_simp;done)|(go_simp;rfl));intro rY hw;have hg:wr.grownBy rY (some qb):=(by rw [hw];exact mU.2);have dZ:Kd.R (Kd.int .i64) 2 rY w.heap.size (fun _=>True) (.slice (some ⟨qb,0,none⟩) jK.length vk) dU:=(by rw [hw,mV.out];exact mU.1);clear mU;replace ag:=k0 (jl (g:=ai) (o:=sO af (some akU) aa ak 31) bk hg (Kd.iD bM.out ag.out (by decide)));replace bM:=k0 (dZ);replace HB:=k0 ((by rw [hw];exact dM (HB.out) GF.out:Below w.heap.size w rY));clear hg hw dZ)))
        (try simp only [← gV])
        first|go_roundg k3|(simp only [← qV];go_roundg k3)|(simp only [← lW];go_roundg k3)
        case measure=>have:=akl.out;have:=bz.out;have:=dg.out;omega
        case rel=>exact ⟨(dU),(wrap64 (gX+1)),rs,(by first|exact H'|(rw [qV];exact H')|(rw [lW];exact H')),⟨by have:=akl.out;have:=bz.out;have:=dg.out;omega⟩,⟨by (try simp only [gV]);(with_reducible repeat (first|apply Kd.bN|apply Kd.bQ|apply Kd.bn));exact bM.out⟩,⟨by (try simp only [gV]);exact bk⟩,⟨bl⟩⟩
   rw [if_pos c6] at H
   have akJ:=decide_eq_true c6
   clear c6
   replace H:=iS H;obtain ⟨c7,H⟩:=H
   have xQ:=k0 c7
   clear c7
   obtain ⟨jg,fy⟩:∃ y_:List Int,y_=(aM ++ [eJ]):=⟨_,rfl⟩
   replace H:(cY.l0 k1 jg af (wrap64 (eJ+1)) af aa)=some r:=by first|(rw [fy];with_reducible exact H)|(have ay:=(Option.bind_some _ _).symm.trans H;rw [fy];with_reducible exact ay)|(have ay:=(Option.bind_some _ _).symm.trans H;with_reducible exact ay)|with_reducible exact H|(rw [fy];exact H)|exact H
   have lN:=k0 fy
   clear fy
   have H':=k0 H
   clear H
   go_wp2_with (first|((with_reducible refine oQ (b:=.append) (xs:=#[.tmp 19,.tmp 21]) rfl ?_);at_builtin;refine Kd.tV (Kd.int .i64) (w0:=w) w.heap.size rfl (.tmp 19) (.tmp 21) 28 2 (.int .i64 0) 8 rfl Try.underlying28 lH rfl (by decide) (by omega) u5 aM eJ [.int .i64 eJ] (fun _=>True) (fun _=>False) rfl rfl ?aP (fun _ hk=>hk.elim) ?aF ?aO ?aB ?aS ?aL ?_;(case aP=>exact rfl);(case aB=>exact bl);(case aF=>exact (fun _ _=>trivial));(case aO=>exact (aR bM.out));(case aS=>exact (aU bl));(case aL=>have:=xQ.out;omega);intro fY w8 ho hb hg cy;rw [← lN.out] at ho;have akf:=k0 (jl (g:=ai) (o:=sO af aq aa ak 31) bk hg (Kd.iD bM.out ag.out (by decide)));have aD:=k0 (hb);have aJ:=k0 (ho);clear ag;clear HB;clear bM;have ag:=akf;have HB:=aD;have cN:=aJ;clear akf aD aJ;clear ho hb hg cy))
   repeat (go_quiet (first|((with_reducible refine oQ (b:=.append) (xs:=#[.tmp 19,.tmp 21]) rfl ?_);at_builtin;refine Kd.tV (Kd.int .i64) (w0:=w) w.heap.size rfl (.tmp 19) (.tmp 21) 28 2 (.int .i64 0) 8 rfl Try.underlying28 lH rfl (by decide) (by omega) u5 aM eJ [.int .i64 eJ] (fun _=>True) (fun _=>False) rfl rfl ?aP (fun _ hk=>hk.elim) ?aF ?aO ?aB ?aS ?aL ?_;(case aP=>exact rfl);(case aB=>exact bl);(case aF=>exact (fun _ _=>trivial));(case aO=>exact (aR bM.out));(case aS=>exact (aU bl));(case aL=>have:=xQ.out;omega);intro fY w8 ho hb hg cy;rw [← lN.out] at ho;have akf:=k0 (jl (g:=ai) (o:=sO af aq aa ak 31) bk hg (Kd.iD bM.out ag.out (by decide)));have aD:=k0 (hb);have aJ:=k0 (ho);clear ag;clear HB;clear bM;have ag:=akf;have HB:=aD;have cN:=aJ;clear akf aD aJ;clear ho hb hg cy));try go_wp2_with (first|((with_reducible refine oQ (b:=.append) (xs:=#[.tmp 19,.tmp 21]) rfl ?_);at_builtin;refine Kd.tV (Kd.int .i64) (w0:=w) w.heap.size rfl (.tmp 19) (.tmp 21) 28 2 (.int .i64 0) 8 rfl Try.underlying28 lH rfl (by decide) (by omega) u5 aM eJ [.int .i64 eJ] (fun _=>True) (fun _=>False) rfl rfl ?aP (fun _ hk=>hk.elim) ?aF ?aO ?aB ?aS ?aL ?_;(case aP=>exact rfl);(case aB=>exact bl);(case aF=>exact (fun _ _=>trivial));(case aO=>exact (aR bM.out));(case aS=>exact (aU bl));(case aL=>have:=xQ.out;omega);intro fY w8 ho hb hg cy;rw [← lN.out] at ho;have akf:=k0 (jl (g:=ai) (o:=sO af aq aa ak 31) bk hg (Kd.iD bM.out ag.out (by decide)));have aD:=k0 (hb);have aJ:=k0 (ho);clear ag;clear HB;clear bM;have ag:=akf;have HB:=aD;have cN:=aJ;clear akf aD aJ;clear ho hb hg cy)))
   first|go_roundg k1|(simp only [← qV];go_roundg k1)|(simp only [← lW];go_roundg k1)
   case measure=>have:=akl.out;omega
   case rel=>exact ⟨(jg),(wrap64 (eJ+1)),rs,(by first|exact H'|(rw [qV];exact H')|(rw [lW];exact H')),⟨by have:=akl.out;omega⟩,⟨aR (cN.out)⟩,⟨bk⟩,⟨bl⟩⟩
end Go.Proofs.Ytoebojnhchocaaa.C
/- Set with little white space, by a program. -/
