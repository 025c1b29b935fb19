/- The functions that one law reaches, each as a Lean function, and that Go's call comes to what it says. Condition of each: that the Lean function answers (is not none). -/
import Derived.Test.YtoebojnhchocaaaDx0
import Derived.Test.YtoebojnhchocaaaDx9
namespace Go.Proofs.Ytoebojnhchocaaa.D
open Go.RowKit Go.Proofs.bR.eC Go.Proofs.bR.je Go.Proofs.bR.jO
attribute [local go_sem] max2_int min2_int max_two min_two max_three min_three max_four min_four   -- for this text's walks alone
set_option linter.unusedVariables false
set_option linter.unusedSimpArgs false
/-! ### F106: function 106 -/
def alP.l0 : Nat → List (List Int) → Int → Int → Int → List (List Int) → Option (Bool)
 | 0,_,_,_,_,_=>none
 | k+1,x6,x7,x8,bF,bE=>if x8 < x7 then (if 0≤x8 then (if x8 < (x6.length:Int) then (if ((ah x6 x8).length:Int)=2 then (if 0 < ((ah x6 x8).length:Int) then ((gQ.f (rd (ah x6 x8) 0) 0 (wrap64 (bF - 1))).bind fun t105=>(if t105=true then (if 1 < ((ah x6 x8).length:Int) then ((gQ.f (rd (ah x6 x8) 1) 0 (wrap64 (bF - 1))).bind fun t107=>(if t107=true then (alP.l0 k x6 x7 (wrap64 (x8+1)) bF bE) else (some false))) else (none)) else (some false))) else (none)) else (some false)) else (none)) else (none)) else ((gQ.f bF 1 8).bind fun t102=>(if t102=true then (some (decide ((bE.length:Int)≤10))) else (some false)))
def alP.f (k:Nat) (af:Int) (aa:List (List Int)):Option (Bool):=alP.l0 k aa (aa.length:Int) 0 af aa
theorem alP.bU : ∀ k, (∀ y0 y1 y2 y3 y4, aj (alP.l0 k y0 y1 y2 y3 y4) (alP.l0 (k + 1) y0 y1 y2 y3 y4))
 | 0=>fun _ _ _ _ _ r h=>by simp [alP.l0] at h
 | k+1=>by
  have alg:=alP.bU k
  ·intro y0 y1 y2 y3 y4
   unfold alP.l0
   repeat' first
    | (with_reducible first|exact alg _ _ _ _ _|exact aj.refl _|exact aj.none _|refine aj.ite ?_ ?_|refine aj.bind ?_ (fun _=>?_))
    | exact alg _ _ _ _ _|exact aj.none _|refine aj.ite ?_ ?_|refine aj.bind ?_ (fun _=>?_)
theorem alP.mono:∀ a0 a1 k,aj (alP.f k a0 a1) (alP.f (k+1) a0 a1):=by
 intro a0 a1 k
 have alg:=alP.bU k
 unfold alP.f
 repeat' first
  | (with_reducible first|exact alg _ _ _ _ _|exact aj.refl _|exact aj.none _|refine aj.ite ?_ ?_|refine aj.bind ?_ (fun _=>?_))
  | exact alg _ _ _ _ _|exact aj.none _|refine aj.ite ?_ ?_|refine aj.bind ?_ (fun _=>?_)
set_option maxHeartbeats 8000000 in
set_option maxRecDepth 100000 in
theorem alP.calls (k : Nat) (af : Int) (aq : Option Addr) (ak : Nat) (aa : List (List Int)) (r : Bool) (w : World) (aly : Kd.C (Kd.slice 2 (Kd.int .i64)) w aq aa.length aa) (ck : aa.length ≤ ak) (h : alP.f k af aa = some r) :
  Calls Try.prog 106 #[.agg #[.int .i64 af,.slice aq aa.length ak]] w fun e w'=>e=.returned (.bool r)∧Below w.heap.size w w':=by
 have j9:=Try.underlying31
 have bZ:=k0 aly
 have cD:=k0 ck
 clear aly ck
 have HB:=k0 (Below.refl w.heap.size w)
 have H:(alP.l0 k aa (aa.length:Int) 0 af aa)=some r:=h
 clear h
 have H':=k0 H
 clear H
 go_enter Try.func106,Try.ntmps106
 go_wp2_with (first|((with_reducible refine cj (N:=1) rfl ?_);(try (refine AP (by rfl) ?_;dsimp only));refine dK ?hg (N:=1) ?hd (cs:=#[.int .i64 af,.slice aq aa.length ak]) (t:=31) ?hr ?_;(case hd=>rfl);(case hg=>rfl);(case hr=>first|(go_simp;done)|(go_simp;rfl));intro ai hg w2 aJ hb;have ag:=k0 (aJ);have b8:=k0 ((by rw [hg];exact (alk bl):w.heap.size≤ai));have eB:=b8;replace HB:=k0 (aI bl hb);clear hb aJ hg;have Ku:w2.cell? ⟨ai,0,none⟩=some (.int .i64 af):=(av ag.out 0).trans rfl;have Kv:w2.cell? ⟨ai,1,none⟩=some (.slice aq aa.length ak):=(av ag.out 1).trans rfl;have KJ:=aD ag.out 0;have KK:=aD ag.out 1))
 repeat (go_quiet (first|((with_reducible refine cj (N:=1) rfl ?_);(try (refine AP (by rfl) ?_;dsimp only));refine dK ?hg (N:=1) ?hd (cs:=#[.int .i64 af,.slice aq aa.length ak]) (t:=31) ?hr ?_;(case hd=>rfl);(case hg=>rfl);(case hr=>first|(go_simp;done)|(go_simp;rfl));intro ai hg w2 aJ hb;have ag:=k0 (aJ);have b8:=k0 ((by rw [hg];exact (alk bl):w.heap.size≤ai));have eB:=b8;replace HB:=k0 (aI bl hb);clear hb aJ hg;have Ku:w2.cell? ⟨ai,0,none⟩=some (.int .i64 af):=(av ag.out 0).trans rfl;have Kv:w2.cell? ⟨ai,1,none⟩=some (.slice aq aa.length ak):=(av ag.out 1).trans rfl;have KJ:=aD ag.out 0;have KK:=aD ag.out 1));try go_wp2_with (first|((with_reducible refine cj (N:=1) rfl ?_);(try (refine AP (by rfl) ?_;dsimp only));refine dK ?hg (N:=1) ?hd (cs:=#[.int .i64 af,.slice aq aa.length ak]) (t:=31) ?hr ?_;(case hd=>rfl);(case hg=>rfl);(case hr=>first|(go_simp;done)|(go_simp;rfl));intro ai hg w2 aJ hb;have ag:=k0 (aJ);have b8:=k0 ((by rw [hg];exact (alk bl):w.heap.size≤ai));have eB:=b8;replace HB:=k0 (aI bl hb);clear hb aJ hg;have Ku:w2.cell? ⟨ai,0,none⟩=some (.int .i64 af):=(av ag.out 0).trans rfl;have Kv:w2.cell? ⟨ai,1,none⟩=some (.slice aq aa.length ak):=(av ag.out 1).trans rfl;have KJ:=aD ag.out 0;have KK:=aD ag.out 1)))
 go_loopg [8] k (fun kq v8 w'=>∃ (bg:Int),v8=.int .i64 bg∧au (alP.l0 kq aa (aa.length:Int) bg af aa=some r)∧au (kq≤k)∧au (w'.heap[ai]?=some (sO af aq aa ak 31))∧au (Below w.heap.size w w'))
 case atStart=>exact ⟨(0),rs,H',⟨Nat.le_refl _⟩,⟨bk⟩,⟨bl⟩⟩
 case round =>
  clear H'
  (try clear Ku);(try clear Kv);(try clear KJ);(try clear KK)
  obtain ⟨bg,rfl,HA,alj,ag,HB⟩:=hrel
  cases gk with
  | zero=>exact absurd HA.out (by simp [alP.l0])
  | succ k1 =>
   have H:=HA.out
   clear HA
   simp only [alP.l0] at H
   by_cases c4:bg < (aa.length:Int)
   case neg =>
    rw [if_neg c4] at H
    have eD:decide (bg < (aa.length:Int))=false:=decide_eq_false c4
    clear c4
    replace H:=Option.bind_eq_some_iff.mp H
    obtain ⟨t102,amB,H⟩:=H
    replace H:(if t102=true then (some (decide ((aa.length:Int)≤10))) else (some false))=some r:=H
    have sk:=k0 amB
    clear amB
    by_cases c18:t102=true
    case neg =>
     replace c18:=Bool.eq_false_iff.mpr c18
     subst c18
     have H1:(some false)=some r:=by rw [if_neg (show ¬ (false=true) by decide)] at H;exact H
     clear H
     have H:=H1
     clear H1
     obtain rfl:=Option.some.inj H
     have C6:wr.cell? ⟨ai,0,none⟩=some (.int .i64 af):=(av ag.out 0).trans rfl
     have C7:wr.cell? ⟨ai,1,none⟩=some (.slice aq aa.length ak):=(av ag.out 1).trans rfl
     have Dd:=aD ag.out 0
     have De:=aD ag.out 1
     go_wp2_with (first|(go_at_call 194;(with_reducible refine (gQ.calls af 1 8 false _ sk.out).mono ?_);rintro e w' ⟨rfl,⟨nd,rfl⟩⟩;(try first|exact ⟨rfl,_,World.drewN_drewN _ _ _⟩|exact ⟨rfl,_,Eq.trans (World.drewN_drewN _ _ _) (congrArg (World.drewN _) (Nat.add_assoc _ _ _))⟩)))
     repeat (go_quiet (first|(go_at_call 194;(with_reducible refine (gQ.calls af 1 8 false _ sk.out).mono ?_);rintro e w' ⟨rfl,⟨nd,rfl⟩⟩;(try first|exact ⟨rfl,_,World.drewN_drewN _ _ _⟩|exact ⟨rfl,_,Eq.trans (World.drewN_drewN _ _ _) (congrArg (World.drewN _) (Nat.add_assoc _ _ _))⟩)));try go_wp2_with (first|(go_at_call 194;(with_reducible refine (gQ.calls af 1 8 false _ sk.out).mono ?_);rintro e w' ⟨rfl,⟨nd,rfl⟩⟩;(try first|exact ⟨rfl,_,World.drewN_drewN _ _ _⟩|exact ⟨rfl,_,Eq.trans (World.drewN_drewN _ _ _) (congrArg (World.drewN _) (Nat.add_assoc _ _ _))⟩))))
     go_ret
     exact ⟨by first|rfl|(simp [bz,bA]<;>rfl)|(simp [*,bz,bA]<;>rfl),bl⟩
    subst c18
    have H1:(some (decide ((aa.length:Int)≤10)))=some r:=by rw [if_pos rfl] at H;exact H
    clear H
    have H:=H1
    clear H1
    obtain rfl:=Option.some.inj H
    have sS:wr.cell? ⟨ai,0,none⟩=some (.int .i64 af):=(av ag.out 0).trans rfl
    have yP:wr.cell? ⟨ai,1,none⟩=some (.slice aq aa.length ak):=(av ag.out 1).trans rfl
    have amk:=aD ag.out 0
    have yT:=aD ag.out 1
    go_wp2_with (first|(go_at_call 194;(with_reducible refine (gQ.calls af 1 8 true _ sk.out).mono ?_);rintro e w' ⟨rfl,⟨nd,rfl⟩⟩;(try first|exact ⟨rfl,_,World.drewN_drewN _ _ _⟩|exact ⟨rfl,_,Eq.trans (World.drewN_drewN _ _ _) (congrArg (World.drewN _) (Nat.add_assoc _ _ _))⟩)))
    repeat (go_quiet (first|(go_at_call 194;(with_reducible refine (gQ.calls af 1 8 true _ sk.out).mono ?_);rintro e w' ⟨rfl,⟨nd,rfl⟩⟩;(try first|exact ⟨rfl,_,World.drewN_drewN _ _ _⟩|exact ⟨rfl,_,Eq.trans (World.drewN_drewN _ _ _) (congrArg (World.drewN _) (Nat.add_assoc _ _ _))⟩)));try go_wp2_with (first|(go_at_call 194;(with_reducible refine (gQ.calls af 1 8 true _ sk.out).mono ?_);rintro e w' ⟨rfl,⟨nd,rfl⟩⟩;(try first|exact ⟨rfl,_,World.drewN_drewN _ _ _⟩|exact ⟨rfl,_,Eq.trans (World.drewN_drewN _ _ _) (congrArg (World.drewN _) (Nat.add_assoc _ _ _))⟩))))
    go_ret
    exact ⟨by first|rfl|(simp [bz,bA]<;>rfl)|(simp [*,bz,bA]<;>rfl),bl⟩
   rw [if_pos c4] at H
   have eD:=decide_eq_true c4
   clear c4
   replace H:=iS H;obtain ⟨c5,H⟩:=H
   have alS:=decide_eq_true c5
   clear c5
   replace H:=iS H;obtain ⟨c6,H⟩:=H
   have gB:=decide_eq_true c6
   clear c6
   by_cases c7:((ah aa bg).length:Int)=2
   case neg =>
    rw [if_neg c7] at H
    have alJ:(((ah aa bg).length:Int) == 2)=false:=beq_eq_false_iff_ne.mpr c7
    have wZ:(((ah aa bg).length:Int) != 2)=true:=bne_iff_ne.mpr c7
    obtain rfl:=Option.some.inj H
    have dP:0≤(bg:Int):=oD
    have dQ:bg < (aa.length:Int):=oD
    obtain ⟨iZ,uU,vv,e103,alC,jn,jl⟩:=cX bZ.out bg dP dQ
    cases e103
    replace alC:=hbc HB alC
    have al7:=k0 jl
    have u_:=k0 jn
    clear jl jn
    replace dP:=eq_true dP
    replace dQ:=eq_true dQ
    go_wp2
    repeat (go_quiet (fail);try go_wp2)
    go_ret
    exact ⟨by first|rfl|(simp [bz,bA]<;>rfl)|(simp [*,bz,bA]<;>rfl),bl⟩
   rw [if_pos c7] at H
   have alJ:(((ah aa bg).length:Int) == 2)=true:=beq_iff_eq.mpr c7
   have wZ:(((ah aa bg).length:Int) != 2)=false:=bne_eq_false_iff_eq.mpr c7
   clear c7
   replace H:=iS H;obtain ⟨c8,H⟩:=H
   have jg:=decide_eq_true c8
   have Ji:decide (0 < (ah aa bg).length)=true:=decide_eq_true (by omega)
   clear c8
   replace H:=Option.bind_eq_some_iff.mp H
   obtain ⟨t105,MS,H⟩:=H
   replace H:(if t105=true then (if 1 < ((ah aa bg).length:Int) then ((gQ.f (rd (ah aa bg) 1) 0 (wrap64 (af - 1))).bind fun t107=>(if t107=true then (alP.l0 k1 aa (aa.length:Int) (wrap64 (bg+1)) af aa) else (some false))) else (none)) else (some false))=some r:=H
   have A9:=k0 MS
   clear MS
   by_cases c10:t105=true
   case neg =>
    replace c10:=Bool.eq_false_iff.mpr c10
    subst c10
    have H1:(some false)=some r:=by rw [if_neg (show ¬ (false=true) by decide)] at H;exact H
    clear H
    have H:=H1
    clear H1
    obtain rfl:=Option.some.inj H
    have dP:0≤(bg:Int):=oD
    have dQ:bg < (aa.length:Int):=oD
    obtain ⟨iZ,uU,vv,e103,alC,jn,jl⟩:=cX bZ.out bg dP dQ
    cases e103
    replace alC:=hbc HB alC
    have al7:=k0 jl
    have u_:=k0 jn
    clear jl jn
    replace dP:=eq_true dP
    replace dQ:=eq_true dQ
    have cT:0≤(0:Int):=(by omega)
    have cU:0 < ((ah aa bg).length:Int):=oD
    obtain ⟨kF,e104,cM⟩:=Kd.bJ al7.out 0 cT cU
    cases e104
    have Eo:(0 < (ah aa bg).length)=True:=eq_true (by omega)
    (try rw [show ((0:Int)).toNat=0 from rfl] at cM)
    (try rw [Addr.add_zero'] at cM)
    replace cM:=hbc HB cM
    replace cT:=eq_true cT
    replace cU:=eq_true cU
    have AZ:wr.cell? ⟨ai,0,none⟩=some (.int .i64 af):=(av ag.out 0).trans rfl
    have am9:wr.cell? ⟨ai,1,none⟩=some (.slice (some iZ) aa.length ak):=(av ag.out 1).trans rfl
    have anf:=aD ag.out 0
    have ang:=aD ag.out 1
    go_wp2_with (first|(go_at_call 194;(with_reducible refine (gQ.calls (rd (ah aa bg) 0) 0 (wrap64 (af - 1)) false _ A9.out).mono ?_);rintro e w' ⟨rfl,⟨nd,rfl⟩⟩;(try first|exact ⟨rfl,_,World.drewN_drewN _ _ _⟩|exact ⟨rfl,_,Eq.trans (World.drewN_drewN _ _ _) (congrArg (World.drewN _) (Nat.add_assoc _ _ _))⟩)))
    repeat (go_quiet (first|(go_at_call 194;(with_reducible refine (gQ.calls (rd (ah aa bg) 0) 0 (wrap64 (af - 1)) false _ A9.out).mono ?_);rintro e w' ⟨rfl,⟨nd,rfl⟩⟩;(try first|exact ⟨rfl,_,World.drewN_drewN _ _ _⟩|exact ⟨rfl,_,Eq.trans (World.drewN_drewN _ _ _) (congrArg (World.drewN _) (Nat.add_assoc _ _ _))⟩)));try go_wp2_with (first|(go_at_call 194;(with_reducible refine (gQ.calls (rd (ah aa bg) 0) 0 (wrap64 (af - 1)) false _ A9.out).mono ?_);rintro e w' ⟨rfl,⟨nd,rfl⟩⟩;(try first|exact ⟨rfl,_,World.drewN_drewN _ _ _⟩|exact ⟨rfl,_,Eq.trans (World.drewN_drewN _ _ _) (congrArg (World.drewN _) (Nat.add_assoc _ _ _))⟩))))
    go_ret
    exact ⟨by first|rfl|(simp [bz,bA]<;>rfl)|(simp [*,bz,bA]<;>rfl),bl⟩
   subst c10
   have H1:(if 1 < ((ah aa bg).length:Int) then ((gQ.f (rd (ah aa bg) 1) 0 (wrap64 (af - 1))).bind fun t107=>(if t107=true then (alP.l0 k1 aa (aa.length:Int) (wrap64 (bg+1)) af aa) else (some false))) else (none))=some r:=by rw [if_pos rfl] at H;exact H
   clear H
   have H:=H1
   clear H1
   replace H:=iS H;obtain ⟨c11,H⟩:=H
   have i_:=decide_eq_true c11
   have oc:decide (1 < (ah aa bg).length)=true:=decide_eq_true (by omega)
   clear c11
   replace H:=Option.bind_eq_some_iff.mp H
   obtain ⟨t107,wm,H⟩:=H
   replace H:(if t107=true then (alP.l0 k1 aa (aa.length:Int) (wrap64 (bg+1)) af aa) else (some false))=some r:=H
   have t_:=k0 wm
   clear wm
   by_cases c13:t107=true
   case neg =>
    replace c13:=Bool.eq_false_iff.mpr c13
    subst c13
    have H1:(some false)=some r:=by rw [if_neg (show ¬ (false=true) by decide)] at H;exact H
    clear H
    have H:=H1
    clear H1
    obtain rfl:=Option.some.inj H
    have dP:0≤(bg:Int):=oD
    have dQ:bg < (aa.length:Int):=oD
    obtain ⟨iZ,uU,vv,e103,alC,jn,jl⟩:=cX bZ.out bg dP dQ
    cases e103
    replace alC:=hbc HB alC
    have al7:=k0 jl
    have u_:=k0 jn
    clear jl jn
    replace dP:=eq_true dP
    replace dQ:=eq_true dQ
    have cT:0≤(0:Int):=(by omega)
    have cU:0 < ((ah aa bg).length:Int):=oD
    obtain ⟨kF,e104,cM⟩:=Kd.bJ al7.out 0 cT cU
    cases e104
    have Eo:(0 < (ah aa bg).length)=True:=eq_true (by omega)
    (try rw [show ((0:Int)).toNat=0 from rfl] at cM)
    (try rw [Addr.add_zero'] at cM)
    replace cM:=hbc HB cM
    replace cT:=eq_true cT
    replace cU:=eq_true cU
    have C4:wr.cell? ⟨ai,0,none⟩=some (.int .i64 af):=(av ag.out 0).trans rfl
    have C5:wr.cell? ⟨ai,1,none⟩=some (.slice (some iZ) aa.length ak):=(av ag.out 1).trans rfl
    have Db:=aD ag.out 0
    have Dc:=aD ag.out 1
    have dM:0≤(1:Int):=(by omega)
    have dD:1 < ((ah aa bg).length:Int):=oD
    obtain ⟨gA,e106,dA⟩:=Kd.bJ al7.out 1 dM dD
    obtain rfl:kF=gA:=(by injection e106)
    (try simp only [show (1:Int).toNat=1 from rfl,Nat.reduceMul,Nat.reduceEqDiff,Go.Addr.add,↓reduceIte] at dA)
    have Bu:(1 < (ah aa bg).length)=True:=eq_true (by omega)
    (try rw [show ((1:Int)).toNat=1 from rfl] at dA)
    replace dA:=hbc HB dA
    replace dM:=eq_true dM
    replace dD:=eq_true dD
    go_wp2_with (first|(go_at_call 194;(with_reducible refine (gQ.calls (rd (ah aa bg) 0) 0 (wrap64 (af - 1)) true _ A9.out).mono ?_);rintro e w' ⟨rfl,⟨nd,rfl⟩⟩;(try first|exact ⟨rfl,_,World.drewN_drewN _ _ _⟩|exact ⟨rfl,_,Eq.trans (World.drewN_drewN _ _ _) (congrArg (World.drewN _) (Nat.add_assoc _ _ _))⟩))|(go_at_call 194;(with_reducible refine (gQ.calls (rd (ah aa bg) 1) 0 (wrap64 (af - 1)) false _ t_.out).mono ?_);rintro e w' ⟨rfl,⟨nd,rfl⟩⟩;(try first|exact ⟨rfl,_,World.drewN_drewN _ _ _⟩|exact ⟨rfl,_,Eq.trans (World.drewN_drewN _ _ _) (congrArg (World.drewN _) (Nat.add_assoc _ _ _))⟩)))
    repeat (go_quiet (first|(go_at_call 194;(with_reducible refine (gQ.calls (rd (ah aa bg) 0) 0 (wrap64 (af - 1)) true _ A9.out).mono ?_);rintro e w' ⟨rfl,⟨nd,rfl⟩⟩;(try first|exact ⟨rfl,_,World.drewN_drewN _ _ _⟩|exact ⟨rfl,_,Eq.trans (World.drewN_drewN _ _ _) (congrArg (World.drewN _) (Nat.add_assoc _ _ _))⟩))|(go_at_call 194;(with_reducible refine (gQ.calls (rd (ah aa bg) 1) 0 (wrap64 (af - 1)) false _ t_.out).mono ?_);rintro e w' ⟨rfl,⟨nd,rfl⟩⟩;(try first|exact ⟨rfl,_,World.drewN_drewN _ _ _⟩|exact ⟨rfl,_,Eq.trans (World.drewN_drewN _ _ _) (congrArg (World.drewN _) (Nat.add_assoc _ _ _))⟩)));try go_wp2_with (first|(go_at_call 194;(with_reducible refine (gQ.calls (rd (ah aa bg) 0) 0 (wrap64 (af - 1)) true _ A9.out).mono ?_);rintro e w' ⟨rfl,⟨nd,rfl⟩⟩;(try first|exact ⟨rfl,_,World.drewN_drewN _ _ _⟩|exact ⟨rfl,_,Eq.trans (World.drewN_drewN _ _ _) (congrArg (World.drewN _) (Nat.add_assoc _ _ _))⟩))|(go_at_call 194;(with_reducible refine (gQ.calls (rd (ah aa bg) 1) 0 (wrap64 (af - 1)) false _ t_.out).mono ?_);rintro e w' ⟨rfl,⟨nd,rfl⟩⟩;(try first|exact ⟨rfl,_,World.drewN_drewN _ _ _⟩|exact ⟨rfl,_,Eq.trans (World.drewN_drewN _ _ _) (congrArg (World.drewN _) (Nat.add_assoc _ _ _))⟩))))
    go_ret
    exact ⟨by first|rfl|(simp [bz,bA]<;>rfl)|(simp [*,bz,bA]<;>rfl),bl⟩
   subst c13
   have H1:(alP.l0 k1 aa (aa.length:Int) (wrap64 (bg+1)) af aa)=some r:=by rw [if_pos rfl] at H;exact H
   clear H
   have H:=H1
   clear H1
   have H':=k0 H
   clear H
   have dP:0≤(bg:Int):=oD
   have dQ:bg < (aa.length:Int):=oD
   obtain ⟨iZ,uU,vv,e103,alC,jn,jl⟩:=cX bZ.out bg dP dQ
   cases e103
   replace alC:=hbc HB alC
   have al7:=k0 jl
   have u_:=k0 jn
   clear jl jn
   replace dP:=eq_true dP
   replace dQ:=eq_true dQ
   have cT:0≤(0:Int):=(by omega)
   have cU:0 < ((ah aa bg).length:Int):=oD
   obtain ⟨kF,e104,cM⟩:=Kd.bJ al7.out 0 cT cU
   cases e104
   have Eo:(0 < (ah aa bg).length)=True:=eq_true (by omega)
   (try rw [show ((0:Int)).toNat=0 from rfl] at cM)
   (try rw [Addr.add_zero'] at cM)
   replace cM:=hbc HB cM
   replace cT:=eq_true cT
   replace cU:=eq_true cU
   have xj:wr.cell? ⟨ai,0,none⟩=some (.int .i64 af):=(av ag.out 0).trans rfl
   have xk:wr.cell? ⟨ai,1,none⟩=some (.slice (some iZ) aa.length ak):=(av ag.out 1).trans rfl
   have xq:=aD ag.out 0
   have xu:=aD ag.out 1
   have dM:0≤(1:Int):=(by omega)
   have dD:1 < ((ah aa bg).length:Int):=oD
   obtain ⟨gA,e106,dA⟩:=Kd.bJ al7.out 1 dM dD
   obtain rfl:kF=gA:=(by injection e106)
   (try simp only [show (1:Int).toNat=1 from rfl,Nat.reduceMul,Nat.reduceEqDiff,Go.Addr.add,↓reduceIte] at dA)
   have Bu:(1 < (ah aa bg).length)=True:=eq_true (by omega)
   (try rw [show ((1:Int)).toNat=1 from rfl] at dA)
   replace dA:=hbc HB dA
   replace dM:=eq_true dM
   replace dD:=eq_true dD
   go_wp2_with (first|(go_at_call 194;(with_reducible refine (gQ.calls (rd (ah aa bg) 0) 0 (wrap64 (af - 1)) true _ A9.out).mono ?_);rintro e w' ⟨rfl,⟨nd,rfl⟩⟩;(try first|exact ⟨rfl,_,World.drewN_drewN _ _ _⟩|exact ⟨rfl,_,Eq.trans (World.drewN_drewN _ _ _) (congrArg (World.drewN _) (Nat.add_assoc _ _ _))⟩))|(go_at_call 194;(with_reducible refine (gQ.calls (rd (ah aa bg) 1) 0 (wrap64 (af - 1)) true _ t_.out).mono ?_);rintro e w' ⟨rfl,⟨nd,rfl⟩⟩;(try first|exact ⟨rfl,_,World.drewN_drewN _ _ _⟩|exact ⟨rfl,_,Eq.trans (World.drewN_drewN _ _ _) (congrArg (World.drewN _) (Nat.add_assoc _ _ _))⟩)))
   repeat (go_quiet (first|(go_at_call 194;(with_reducible refine (gQ.calls (rd (ah aa bg) 0) 0 (wrap64 (af - 1)) true _ A9.out).mono ?_);rintro e w' ⟨rfl,⟨nd,rfl⟩⟩;(try first|exact ⟨rfl,_,World.drewN_drewN _ _ _⟩|exact ⟨rfl,_,Eq.trans (World.drewN_drewN _ _ _) (congrArg (World.drewN _) (Nat.add_assoc _ _ _))⟩))|(go_at_call 194;(with_reducible refine (gQ.calls (rd (ah aa bg) 1) 0 (wrap64 (af - 1)) true _ t_.out).mono ?_);rintro e w' ⟨rfl,⟨nd,rfl⟩⟩;(try first|exact ⟨rfl,_,World.drewN_drewN _ _ _⟩|exact ⟨rfl,_,Eq.trans (World.drewN_drewN _ _ _) (congrArg (World.drewN _) (Nat.add_assoc _ _ _))⟩)));try go_wp2_with (first|(go_at_call 194;(with_reducible refine (gQ.calls (rd (ah aa bg) 0) 0 (wrap64 (af - 1)) true _ A9.out).mono ?_);rintro e w' ⟨rfl,⟨nd,rfl⟩⟩;(try first|exact ⟨rfl,_,World.drewN_drewN _ _ _⟩|exact ⟨rfl,_,Eq.trans (World.drewN_drewN _ _ _) (congrArg (World.drewN _) (Nat.add_assoc _ _ _))⟩))|(go_at_call 194;(with_reducible refine (gQ.calls (rd (ah aa bg) 1) 0 (wrap64 (af - 1)) true _ t_.out).mono ?_);rintro e w' ⟨rfl,⟨nd,rfl⟩⟩;(try first|exact ⟨rfl,_,World.drewN_drewN _ _ _⟩|exact ⟨rfl,_,Eq.trans (World.drewN_drewN _ _ _) (congrArg (World.drewN _) (Nat.add_assoc _ _ _))⟩))))
   go_roundg k1
   case measure=>have:=alj.out;omega
   case rel=>exact ⟨(wrap64 (bg+1)),rs,H',⟨by have:=alj.out;omega⟩,⟨bk⟩,⟨bl⟩⟩
-- NOT PRINTED: function 125 (impl_graphCode)
/-! ### F228: function 228 -/
def iM.l0 : Nat → Int → List Int → Int → Int → Option (Int)
 | 0,_,_,_,_=>none
 | k+1,x3,x6,x7,x8=>if x8 < x7 then (if 0≤x8 then (if x8 < (x6.length:Int) then (if x8=(rd x6 x8) then (iM.l0 k (wrap64 (x3+1)) x6 x7 (wrap64 (x8+1))) else (iM.l0 k x3 x6 x7 (wrap64 (x8+1)))) else (none)) else (none)) else (some x3)
def iM.f (k:Nat) (l0:List Int):Option (Int):=iM.l0 k 0 l0 (l0.length:Int) 0
theorem iM.bU : ∀ k, (∀ y0 y1 y2 y3, aj (iM.l0 k y0 y1 y2 y3) (iM.l0 (k + 1) y0 y1 y2 y3))
 | 0=>fun _ _ _ _ r h=>by simp [iM.l0] at h
 | k+1=>by
  have alg:=iM.bU k
  ·intro y0 y1 y2 y3
   unfold iM.l0
   repeat' first
    | (with_reducible first|exact alg _ _ _ _|exact aj.refl _|exact aj.none _|refine aj.ite ?_ ?_|refine aj.bind ?_ (fun _=>?_))
    | exact alg _ _ _ _|exact aj.none _|refine aj.ite ?_ ?_|refine aj.bind ?_ (fun _=>?_)
theorem iM.mono:∀ a0 k,aj (iM.f k a0) (iM.f (k+1) a0):=by
 intro a0 k
 have alg:=iM.bU k
 unfold iM.f
 repeat' first
  | (with_reducible first|exact alg _ _ _ _|exact aj.refl _|exact aj.none _|refine aj.ite ?_ ?_|refine aj.bind ?_ (fun _=>?_))
  | exact alg _ _ _ _|exact aj.none _|refine aj.ite ?_ ?_|refine aj.bind ?_ (fun _=>?_)
set_option maxHeartbeats 8000000 in
set_option maxRecDepth 100000 in
theorem iM.calls (k : Nat) (A0 : Option Addr) (c0 : Nat) (l0 : List Int) (r : Int) (w : World) (cS : Kd.C (Kd.int .i64) w A0 l0.length l0) (hc0 : l0.length ≤ c0) (h : iM.f k l0 = some r) :
  Calls Try.prog 228 #[.slice A0 l0.length c0] w fun e w'=>e=.returned (.int .i64 r)∧bI w w':=by
 have fe:=k0 cS
 have alR:=k0 hc0
 clear cS hc0
 have H:(iM.l0 k 0 l0 (l0.length:Int) 0)=some r:=h
 clear h
 have H':=k0 H
 clear H
 go_enter Try.func228,Try.ntmps228
 go_wp2
 go_loopg [3,8] k (fun kq v3 v8 w'=>∃ (bC:Int) (bg:Int),v3=.int .i64 bC∧v8=.int .i64 bg∧au (iM.l0 kq bC l0 (l0.length:Int) bg=some r)∧au (kq≤k)∧bI w w')
 case atStart=>exact ⟨(0),(0),rs,rs,H',⟨Nat.le_refl _⟩,by repeat (first|exact bI.refl _|apply bI.step)⟩
 case round =>
  clear H'
  obtain ⟨bC,bg,rfl,rfl,HA,alj,⟨m1,rfl⟩⟩:=hrel
  cases gk with
  | zero=>exact absurd HA.out (by simp [iM.l0])
  | succ k1 =>
   have H:=HA.out
   clear HA
   simp only [iM.l0] at H
   by_cases c2:bg < (l0.length:Int)
   case neg =>
    rw [if_neg c2] at H
    have vB:decide (bg < (l0.length:Int))=false:=decide_eq_false c2
    clear c2
    obtain rfl:=Option.some.inj H
    go_wp2
    go_ret
    exact ⟨by first|rfl|(simp;done)|(simp [*];done),by repeat (first|exact bI.refl _|apply bI.step)⟩
   rw [if_pos c2] at H
   have vB:=decide_eq_true c2
   clear c2
   replace H:=iS H;obtain ⟨c3,H⟩:=H
   have gZ:=decide_eq_true c3
   clear c3
   replace H:=iS H;obtain ⟨c4,H⟩:=H
   have eD:=decide_eq_true c4
   clear c4
   by_cases c5:bg=(rd l0 bg)
   case neg =>
    rw [if_neg c5] at H
    have alS:(bg == (rd l0 bg))=false:=beq_eq_false_iff_ne.mpr c5
    have Jh:(bg != (rd l0 bg))=true:=bne_iff_ne.mpr c5
    have H':=k0 H
    clear H
    have eT:0≤(bg:Int):=oD
    have eU:bg < (l0.length:Int):=oD
    obtain ⟨qV,e101,pR⟩:=Kd.bJ fe.out bg eT eU
    cases e101
    replace eT:=eq_true eT
    replace eU:=eq_true eU
    go_wp2
    go_roundg k1
    case measure=>have:=alj.out;omega
    case rel=>exact ⟨(bC),(wrap64 (bg+1)),rs,rs,H',⟨by have:=alj.out;omega⟩,by repeat (first|exact bI.refl _|apply bI.step)⟩
   rw [if_pos c5] at H
   have alS:(bg == (rd l0 bg))=true:=beq_iff_eq.mpr c5
   have Jh:(bg != (rd l0 bg))=false:=bne_eq_false_iff_eq.mpr c5
   clear c5
   have H':=k0 H
   clear H
   have eT:0≤(bg:Int):=oD
   have eU:bg < (l0.length:Int):=oD
   obtain ⟨qV,e101,pR⟩:=Kd.bJ fe.out bg eT eU
   cases e101
   replace eT:=eq_true eT
   replace eU:=eq_true eU
   go_wp2
   go_roundg k1
   case measure=>have:=alj.out;omega
   case rel=>exact ⟨(wrap64 (bC+1)),(wrap64 (bg+1)),rs,rs,H',⟨by have:=alj.out;omega⟩,by repeat (first|exact bI.refl _|apply bI.step)⟩
/-! ### F230: function 230 -/
def ud.f (a0:Int):Option (Bool):=some true
set_option maxHeartbeats 8000000 in
set_option maxRecDepth 100000 in
theorem ud.calls (a0 : Int) (r : Bool) (w : World) (h : ud.f a0 = some r) :
  Calls Try.prog 230 #[.int .i64 a0] w fun e w'=>e=.returned (.bool r)∧bI w w':=by
 have H:(some true)=some r:=h
 clear h
 obtain rfl:=Option.some.inj H
 go_enter Try.func230,Try.ntmps230
 go_wp2
 go_ret
 exact ⟨by first|rfl|(simp;done)|(simp [*];done),by repeat (first|exact bI.refl _|apply bI.step)⟩
/-! ### F229: function 229 -/
mutual
def dg.l0 : Nat → List Int → Int → Int → Int → List (List Int) → Option (List Int)
 | 0,_,_,_,_,_=>none
 | k+1,x5,gx,jJ,bF,bE=>if jJ < gx then (if x5.length < 17592186044416 then (dg.l0 k (x5 ++ [jJ]) gx (wrap64 (jJ+1)) bF bE) else (none)) else (dg.l1 k x5 bE (bE.length:Int) 0)
def dg.l1 : Nat → List Int → List (List Int) → Int → Int → Option (List Int)
 | 0,_,_,_,_=>none
 | k+1,x5,nV,fQ,fR=>if fR < fQ then (if 0≤fR then (if fR < (nV.length:Int) then ((ud.f fR).bind fun t109=>(if t109=true then (if 0 < ((ah nV fR).length:Int) then (if 0≤(rd (ah nV fR) 0) then (if (rd (ah nV fR) 0) < (x5.length:Int) then (if 1 < ((ah nV fR).length:Int) then (if 0≤(rd (ah nV fR) 1) then (if (rd (ah nV fR) 1) < (x5.length:Int) then (dg.l2 k x5 (rd x5 (rd (ah nV fR) 0)) (rd x5 (rd (ah nV fR) 1)) nV fQ fR (x5.length:Int) 0) else (none)) else (none)) else (none)) else (none)) else (none)) else (none)) else (dg.l1 k x5 nV fQ (wrap64 (fR+1))))) else (none)) else (none)) else (some x5)
def dg.l2 : Nat → List Int → Int → Int → List (List Int) → Int → Int → Int → Int → Option (List Int)
 | 0,_,_,_,_,_,_,_,_=>none
 | k+1,x5,x9,dS,nV,fQ,fR,rB,zM=>if zM < rB then (if 0≤zM then (if zM < (x5.length:Int) then (if (rd x5 zM)=(mx x9 dS) then (dg.l2 k (x5.set (zM:Int).toNat (mn x9 dS)) x9 dS nV fQ fR rB (wrap64 (zM+1))) else (dg.l2 k x5 x9 dS nV fQ fR rB (wrap64 (zM+1)))) else (none)) else (none)) else (dg.l1 k x5 nV fQ (wrap64 (fR+1)))
end
def dg.f (k:Nat) (af:Int) (aa:List (List Int)):Option (List Int):=dg.l0 k (([]:List Int)) af 0 af aa
theorem dg.bU : ∀ k, (∀ y0 y1 y2 y3 y4, aj (dg.l0 k y0 y1 y2 y3 y4) (dg.l0 (k + 1) y0 y1 y2 y3 y4)) ∧ (∀ y0 y1 y2 y3, aj (dg.l1 k y0 y1 y2 y3) (dg.l1 (k + 1) y0 y1 y2 y3)) ∧ (∀ y0 y1 y2 y3 y4 y5 y6 y7, aj (dg.l2 k y0 y1 y2 y3 y4 y5 y6 y7) (dg.l2 (k + 1) y0 y1 y2 y3 y4 y5 y6 y7))
 | 0=>⟨fun _ _ _ _ _ r h=>by simp [dg.l0] at h,fun _ _ _ _ r h=>by simp [dg.l1] at h,fun _ _ _ _ _ _ _ _ r h=>by simp [dg.l2] at h⟩
 | k+1=>by
  obtain ⟨alg,ih1,ih2⟩:=dg.bU k
  refine ⟨?_, ?_, ?_⟩ <;> intros <;> (first | unfold dg.l0 | unfold dg.l1 | unfold dg.l2) <;> repeat' first
   | (with_reducible first|exact alg _ _ _ _ _|exact ih1 _ _ _ _|exact ih2 _ _ _ _ _ _ _ _|exact aj.refl _|exact aj.none _|refine aj.ite ?_ ?_|refine aj.bind ?_ (fun _=>?_))
   | exact alg _ _ _ _ _|exact ih1 _ _ _ _|exact ih2 _ _ _ _ _ _ _ _|exact aj.none _|refine aj.ite ?_ ?_|refine aj.bind ?_ (fun _=>?_)
theorem dg.mono:∀ a0 a1 k,aj (dg.f k a0 a1) (dg.f (k+1) a0 a1):=by
 intro a0 a1 k
 obtain ⟨alg,ih1,ih2⟩:=dg.bU k
 unfold dg.f
 repeat' first
  | (with_reducible first|exact alg _ _ _ _ _|exact ih1 _ _ _ _|exact ih2 _ _ _ _ _ _ _ _|exact aj.refl _|exact aj.none _|refine aj.ite ?_ ?_|refine aj.bind ?_ (fun _=>?_))
  | exact alg _ _ _ _ _|exact ih1 _ _ _ _|exact ih2 _ _ _ _ _ _ _ _|exact aj.none _|refine aj.ite ?_ ?_|refine aj.bind ?_ (fun _=>?_)
set_option maxHeartbeats 8000000 in
set_option maxRecDepth 100000 in
theorem dg.calls (k : Nat) (af : Int) (aq : Option Addr) (ak : Nat) (aa : List (List Int)) (r : List Int) (w : World) (aly : Kd.C (Kd.slice 2 (Kd.int .i64)) w aq aa.length aa) (ck : aa.length ≤ ak) (h : dg.f k af aa = some r) :
  Calls Try.prog 229 #[.agg #[.int .i64 af,.slice aq aa.length ak],.func (.func 230) #[] #[]] w fun e w'=>∃ dH:Value,e=.returned (dH)∧Kd.R (Kd.int .i64) 2 w' w.heap.size (fun _=>True) dH r∧Below w.heap.size w w':=by
 have j9:=Try.underlying31
 have bZ:=k0 aly
 have cD:=k0 ck
 clear aly ck
 have HB:=k0 (Below.refl w.heap.size w)
 have H:(dg.l0 k (([]:List Int)) af 0 af aa)=some r:=h
 clear h
 obtain ⟨alD,eM⟩:∃ y_:List Int,y_=(([]:List Int)):=⟨_,rfl⟩
 replace H:(dg.l0 k alD af 0 af aa)=some r:=by first|(rw [eM];with_reducible exact H)|(have ax:=(Option.bind_some _ _).symm.trans H;rw [eM];with_reducible exact ax)|(have ax:=(Option.bind_some _ _).symm.trans H;with_reducible exact ax)|with_reducible exact H|(rw [eM];exact H)|exact H
 have gz:=k0 eM
 clear eM
 have H':=k0 H
 clear H
 go_enter Try.func229,Try.ntmps229
 go_wp2_with (first|((with_reducible refine cj (N:=2) rfl ?_);refine dK ?hg (N:=2) ?hd (cs:=#[.int .i64 af,.slice aq aa.length ak]) (t:=31) ?hr ?_;(case hd=>rfl);(case hg=>rfl);(case hr=>first|(go_simp;done)|(go_simp;rfl));intro ai hg w2 aJ hb;have ag:=k0 (aJ);have b8:=k0 ((by rw [hg];exact (alk bl):w.heap.size≤ai));have eB:=b8;replace HB:=k0 (aI bl hb);clear hb aJ hg)|((with_reducible refine cj (N:=13) rfl ?_);refine Kd.al2 (Kd.int .i64) _ 2 ?hg (N:=13) ?hd (xs:=([]:List Int)) (inner:=[]) (ok:=fun _=>True) (b9:=fun _=>True) ?hr ?hp (fun _ hk=>hk) trivial (Below.refl _ _) (Nat.le_refl _) (by simp) ?_;(case hd=>rfl);(case hg=>rfl);(case hr=>first|(go_simp;done)|(go_simp;rfl));(case hp=>exact (bW.none _ _));intro dn w3 eu hb dF dG;clear dF dG;(first|rw [← gz.out] at eu|(simp only [Int.reduceToNat] at eu;rw [← gz.out] at eu));have bq:=k0 (Kd.dI eu (alk bl));replace ag:=k0 (alm (g:=ai) (o:=sO af aq aa ak 31) bk hb);replace HB:=k0 (aI bl hb);clear hb eu;have sU:w3.cell? ⟨ai,0,none⟩=some (.int .i64 af):=(av ag.out 0).trans rfl;have sV:w3.cell? ⟨ai,1,none⟩=some (.slice aq aa.length ak):=(av ag.out 1).trans rfl;have sX:=aD ag.out 0;have sY:=aD ag.out 1))
 repeat (go_quiet (first|((with_reducible refine cj (N:=2) rfl ?_);refine dK ?hg (N:=2) ?hd (cs:=#[.int .i64 af,.slice aq aa.length ak]) (t:=31) ?hr ?_;(case hd=>rfl);(case hg=>rfl);(case hr=>first|(go_simp;done)|(go_simp;rfl));intro ai hg w2 aJ hb;have ag:=k0 (aJ);have b8:=k0 ((by rw [hg];exact (alk bl):w.heap.size≤ai));have eB:=b8;replace HB:=k0 (aI bl hb);clear hb aJ hg)|((with_reducible refine cj (N:=13) rfl ?_);refine Kd.al2 (Kd.int .i64) _ 2 ?hg (N:=13) ?hd (xs:=([]:List Int)) (inner:=[]) (ok:=fun _=>True) (b9:=fun _=>True) ?hr ?hp (fun _ hk=>hk) trivial (Below.refl _ _) (Nat.le_refl _) (by simp) ?_;(case hd=>rfl);(case hg=>rfl);(case hr=>first|(go_simp;done)|(go_simp;rfl));(case hp=>exact (bW.none _ _));intro dn w3 eu hb dF dG;clear dF dG;(first|rw [← gz.out] at eu|(simp only [Int.reduceToNat] at eu;rw [← gz.out] at eu));have bq:=k0 (Kd.dI eu (alk bl));replace ag:=k0 (alm (g:=ai) (o:=sO af aq aa ak 31) bk hb);replace HB:=k0 (aI bl hb);clear hb eu;have sU:w3.cell? ⟨ai,0,none⟩=some (.int .i64 af):=(av ag.out 0).trans rfl;have sV:w3.cell? ⟨ai,1,none⟩=some (.slice aq aa.length ak):=(av ag.out 1).trans rfl;have sX:=aD ag.out 0;have sY:=aD ag.out 1));try go_wp2_with (first|((with_reducible refine cj (N:=2) rfl ?_);refine dK ?hg (N:=2) ?hd (cs:=#[.int .i64 af,.slice aq aa.length ak]) (t:=31) ?hr ?_;(case hd=>rfl);(case hg=>rfl);(case hr=>first|(go_simp;done)|(go_simp;rfl));intro ai hg w2 aJ hb;have ag:=k0 (aJ);have b8:=k0 ((by rw [hg];exact (alk bl):w.heap.size≤ai));have eB:=b8;replace HB:=k0 (aI bl hb);clear hb aJ hg)|((with_reducible refine cj (N:=13) rfl ?_);refine Kd.al2 (Kd.int .i64) _ 2 ?hg (N:=13) ?hd (xs:=([]:List Int)) (inner:=[]) (ok:=fun _=>True) (b9:=fun _=>True) ?hr ?hp (fun _ hk=>hk) trivial (Below.refl _ _) (Nat.le_refl _) (by simp) ?_;(case hd=>rfl);(case hg=>rfl);(case hr=>first|(go_simp;done)|(go_simp;rfl));(case hp=>exact (bW.none _ _));intro dn w3 eu hb dF dG;clear dF dG;(first|rw [← gz.out] at eu|(simp only [Int.reduceToNat] at eu;rw [← gz.out] at eu));have bq:=k0 (Kd.dI eu (alk bl));replace ag:=k0 (alm (g:=ai) (o:=sO af aq aa ak 31) bk hb);replace HB:=k0 (aI bl hb);clear hb eu;have sU:w3.cell? ⟨ai,0,none⟩=some (.int .i64 af):=(av ag.out 0).trans rfl;have sV:w3.cell? ⟨ai,1,none⟩=some (.slice aq aa.length ak):=(av ag.out 1).trans rfl;have sX:=aD ag.out 0;have sY:=aD ag.out 1)))
 go_loopg [5,16] k (fun kq v5 Mg w'=>∃ (ali:List Int) (eK:Int),Mg=.int .i64 eK∧au (dg.l0 kq ali af eK af aa=some r)∧au (kq≤k)∧au (Kd.R (Kd.int .i64) 2 w' w.heap.size (fun _=>True) v5 ali)∧au (w'.heap[ai]?=some (sO af aq aa ak 31))∧au (Below w.heap.size w w'))
 case atStart=>exact ⟨(alD),(0),rs,H',⟨Nat.le_refl _⟩,⟨aR (bq.out)⟩,⟨bk⟩,⟨bl⟩⟩
 case round =>
  clear H'
  (try clear sU);(try clear sV);(try clear sX);(try clear sY)
  obtain ⟨ali,eK,rfl,HA,alj,bQ,ag,HB⟩:=hrel
  cases gk with
  | zero=>exact absurd HA.out (by simp [dg.l0])
  | succ k1 =>
   have H:=HA.out
   clear HA
   simp only [dg.l0] at H
   by_cases c6:eK < af
   case neg =>
    rw [if_neg c6] at H
    have gB:decide (eK < af)=false:=decide_eq_false c6
    clear c6
    have H':=k0 H
    clear H
    have uA:wr.cell? ⟨ai,0,none⟩=some (.int .i64 af):=(av ag.out 0).trans rfl
    have uB:wr.cell? ⟨ai,1,none⟩=some (.slice aq aa.length ak):=(av ag.out 1).trans rfl
    have uD:=aD ag.out 0
    have uE:=aD ag.out 1
    go_wp2
    repeat (go_quiet (fail);try go_wp2)
    go_loopg [27] k1 (fun kq Ez w'=>∃ (alo:List Int) (alf:Int),Ez=.int .i64 alf∧au (dg.l1 kq alo aa (aa.length:Int) alf=some r)∧au (kq≤k1)∧au (Kd.R (Kd.int .i64) 2 w' w.heap.size (fun _=>True) u5 alo)∧au (w'.heap[ai]?=some (sO af aq aa ak 31))∧au (Below w.heap.size w w'))
    case atStart=>exact ⟨(ali),(0),rs,H',⟨Nat.le_refl _⟩,⟨aR (bQ.out)⟩,⟨bk⟩,⟨bl⟩⟩
    case round =>
     clear H'
     (try clear c6);(try clear gB);(try clear c7);(try clear sU);(try clear sV);(try clear uA);(try clear uB);(try clear sX);(try clear sY);(try clear uD);(try clear uE)
     obtain ⟨alo,alf,rfl,HA,bB,bQ,ag,HB⟩:=hrel
     cases gk with
     | zero=>exact absurd HA.out (by simp [dg.l1])
     | succ k2 =>
      have H:=HA.out
      clear HA
      simp only [dg.l1] at H
      by_cases c10:alf < (aa.length:Int)
      case neg =>
       rw [if_neg c10] at H
       have lO:decide (alf < (aa.length:Int))=false:=decide_eq_false c10
       clear c10
       obtain rfl:=Option.some.inj H
       go_wp2
       repeat (go_quiet (fail);try go_wp2)
       go_ret
       exact ⟨_,by first|rfl|(simp [bz,bA]<;>rfl)|(simp [*,bz,bA]<;>rfl),by (with_reducible repeat (first|apply Kd.bH|apply Kd.bL|apply Kd.bn));exact bQ.out,bl⟩
      rw [if_pos c10] at H
      have lO:=decide_eq_true c10
      clear c10
      replace H:=iS H;obtain ⟨c11,H⟩:=H
      have i_:=decide_eq_true c11
      clear c11
      replace H:=iS H;obtain ⟨c12,H⟩:=H
      have rN:=decide_eq_true c12
      clear c12
      replace H:=Option.bind_eq_some_iff.mp H
      obtain ⟨t109,wo,H⟩:=H
      replace H:(if t109=true then (if 0 < ((ah aa alf).length:Int) then (if 0≤(rd (ah aa alf) 0) then (if (rd (ah aa alf) 0) < (alo.length:Int) then (if 1 < ((ah aa alf).length:Int) then (if 0≤(rd (ah aa alf) 1) then (if (rd (ah aa alf) 1) < (alo.length:Int) then (dg.l2 k2 alo (rd alo (rd (ah aa alf) 0)) (rd alo (rd (ah aa alf) 1)) aa (aa.length:Int) alf (alo.length:Int) 0) else (none)) else (none)) else (none)) else (none)) else (none)) else (none)) else (dg.l1 k2 alo aa (aa.length:Int) (wrap64 (alf+1))))=some r:=H
      have nA:=k0 wo
      clear wo
      by_cases c14:t109=true
      case neg =>
       replace c14:=Bool.eq_false_iff.mpr c14
       subst c14
       have H1:(dg.l1 k2 alo aa (aa.length:Int) (wrap64 (alf+1)))=some r:=by rw [if_neg (show ¬ (false=true) by decide)] at H;exact H
       clear H
       have H:=H1
       clear H1
       have H':=k0 H
       clear H
       have ef:0≤(alf:Int):=oD
       have dR:alf < (aa.length:Int):=oD
       obtain ⟨lu,EK,Ft,e108,fu,ams,amm⟩:=cX bZ.out alf ef dR
       cases e108
       replace fu:=hbc HB fu
       have z6:=k0 amm
       have anM:=k0 ams
       clear amm ams
       replace ef:=eq_true ef
       replace dR:=eq_true dR
       go_wp2_with (first|(go_at_call 230;(with_reducible refine (ud.calls alf false _ nA.out).mono ?_);rintro e w' ⟨rfl,⟨nd,rfl⟩⟩;(try first|exact ⟨rfl,_,World.drewN_drewN _ _ _⟩|exact ⟨rfl,_,Eq.trans (World.drewN_drewN _ _ _) (congrArg (World.drewN _) (Nat.add_assoc _ _ _))⟩)))
       repeat (go_quiet (first|(go_at_call 230;(with_reducible refine (ud.calls alf false _ nA.out).mono ?_);rintro e w' ⟨rfl,⟨nd,rfl⟩⟩;(try first|exact ⟨rfl,_,World.drewN_drewN _ _ _⟩|exact ⟨rfl,_,Eq.trans (World.drewN_drewN _ _ _) (congrArg (World.drewN _) (Nat.add_assoc _ _ _))⟩)));try go_wp2_with (first|(go_at_call 230;(with_reducible refine (ud.calls alf false _ nA.out).mono ?_);rintro e w' ⟨rfl,⟨nd,rfl⟩⟩;(try first|exact ⟨rfl,_,World.drewN_drewN _ _ _⟩|exact ⟨rfl,_,Eq.trans (World.drewN_drewN _ _ _) (congrArg (World.drewN _) (Nat.add_assoc _ _ _))⟩))))
       first|go_roundg k2|(simp only [← amd];go_roundg k2)|(simp only [← l9];go_roundg k2)
       case measure=>have:=alj.out;have:=bB.out;omega
       case rel=>exact ⟨(alo),(wrap64 (alf+1)),rs,(by first|exact H'|(rw [amd];exact H')|(rw [l9];exact H')),⟨by have:=alj.out;have:=bB.out;omega⟩,⟨aR (bQ.out)⟩,⟨bk⟩,⟨bl⟩⟩
      subst c14
      have H1:(if 0 < ((ah aa alf).length:Int) then (if 0≤(rd (ah aa alf) 0) then (if (rd (ah aa alf) 0) < (alo.length:Int) then (if 1 < ((ah aa alf).length:Int) then (if 0≤(rd (ah aa alf) 1) then (if (rd (ah aa alf) 1) < (alo.length:Int) then (dg.l2 k2 alo (rd alo (rd (ah aa alf) 0)) (rd alo (rd (ah aa alf) 1)) aa (aa.length:Int) alf (alo.length:Int) 0) else (none)) else (none)) else (none)) else (none)) else (none)) else (none))=some r:=by rw [if_pos rfl] at H;exact H
      clear H
      have H:=H1
      clear H1
      replace H:=iS H;obtain ⟨c15,H⟩:=H
      have jD:=decide_eq_true c15
      have oV:decide (0 < (ah aa alf).length)=true:=decide_eq_true (by omega)
      clear c15
      replace H:=iS H;obtain ⟨c16,H⟩:=H
      have qY:=decide_eq_true c16
      clear c16
      replace H:=iS H;obtain ⟨c17,H⟩:=H
      have oW:=decide_eq_true c17
      clear c17
      replace H:=iS H;obtain ⟨c18,H⟩:=H
      have qZ:=decide_eq_true c18
      have Fw:decide (1 < (ah aa alf).length)=true:=decide_eq_true (by omega)
      clear c18
      replace H:=iS H;obtain ⟨c19,H⟩:=H
      have lC:=decide_eq_true c19
      clear c19
      replace H:=iS H;obtain ⟨c20,H⟩:=H
      have og:=decide_eq_true c20
      clear c20
      have H':=k0 H
      clear H
      have ef:0≤(alf:Int):=oD
      have dR:alf < (aa.length:Int):=oD
      obtain ⟨lu,EK,Ft,e108,fu,ams,amm⟩:=cX bZ.out alf ef dR
      cases e108
      replace fu:=hbc HB fu
      have z6:=k0 amm
      have anM:=k0 ams
      clear amm ams
      replace ef:=eq_true ef
      replace dR:=eq_true dR
      have jr:0≤(0:Int):=(by omega)
      have js:0 < ((ah aa alf).length:Int):=oD
      obtain ⟨lz,e110,kL⟩:=Kd.bJ z6.out 0 jr js
      cases e110
      have aee:(0 < (ah aa alf).length)=True:=eq_true (by omega)
      (try rw [show ((0:Int)).toNat=0 from rfl] at kL)
      (try rw [Addr.add_zero'] at kL)
      replace kL:=hbc HB kL
      replace jr:=eq_true jr
      replace js:=eq_true js
      obtain ⟨EP,rQ,rT⟩:=Kd.eF bQ.out
      subst rT
      obtain ⟨qm,Yf,CA,PC,Zw,ag',anX⟩:=Kd.lp bQ.out (by have ec:0≤((rd (ah aa alf) 0):Int):=oD;have iT:((rd (ah aa alf) 0):Int) < ((alo.length:Int):Int):=oD;omega)
      (first|cases CA|(injection CA with bh dm di;(first|subst bh|(injection bh with bh;subst bh));subst di;clear dm))
      have anG:=k0 PC
      have afV:=k0 anX
      clear PC Zw anX
      have gj:0≤((rd (ah aa alf) 0):Int):=oD
      have alG:(rd (ah aa alf) 0) < (alo.length:Int):=oD
      obtain ⟨mW,e111,gN⟩:=Kd.bJ (Kd.bx bQ.out).2.2 (rd (ah aa alf) 0) gj alG
      obtain rfl:(⟨qm,0,none⟩:Addr)=mW:=(by injection e111)
      (first|simp only [add_plain] at gN|simp only [l6] at gN|simp only [Addr.add,Nat.zero_add] at gN|skip)
      replace gj:=eq_true gj
      replace alG:=eq_true alG
      have al3:0≤(1:Int):=(by omega)
      have oF:1 < ((ah aa alf).length:Int):=oD
      obtain ⟨yl,e112,lS⟩:=Kd.bJ z6.out 1 al3 oF
      obtain rfl:lz=yl:=(by injection e112)
      (try simp only [show (1:Int).toNat=1 from rfl,Nat.reduceMul,Nat.reduceEqDiff,Go.Addr.add,↓reduceIte] at lS)
      have aef:(1 < (ah aa alf).length)=True:=eq_true (by omega)
      (try rw [show ((1:Int)).toNat=1 from rfl] at lS)
      replace lS:=hbc HB lS
      replace al3:=eq_true al3
      replace oF:=eq_true oF
      have nO:0≤((rd (ah aa alf) 1):Int):=oD
      have nP:(rd (ah aa alf) 1) < (alo.length:Int):=oD
      obtain ⟨ym,e113,nc⟩:=Kd.bJ (Kd.bx bQ.out).2.2 (rd (ah aa alf) 1) nO nP
      obtain rfl:(⟨qm,0,none⟩:Addr)=ym:=(by injection e113)
      (first|simp only [add_plain] at nc|simp only [l6] at nc|simp only [Addr.add,Nat.zero_add] at nc|skip)
      replace nO:=eq_true nO
      replace nP:=eq_true nP
      go_wp2_with (first|(go_at_call 230;(with_reducible refine (ud.calls alf true _ nA.out).mono ?_);rintro e w' ⟨rfl,⟨nd,rfl⟩⟩;(try first|exact ⟨rfl,_,World.drewN_drewN _ _ _⟩|exact ⟨rfl,_,Eq.trans (World.drewN_drewN _ _ _) (congrArg (World.drewN _) (Nat.add_assoc _ _ _))⟩)))
      repeat (go_quiet (first|(go_at_call 230;(with_reducible refine (ud.calls alf true _ nA.out).mono ?_);rintro e w' ⟨rfl,⟨nd,rfl⟩⟩;(try first|exact ⟨rfl,_,World.drewN_drewN _ _ _⟩|exact ⟨rfl,_,Eq.trans (World.drewN_drewN _ _ _) (congrArg (World.drewN _) (Nat.add_assoc _ _ _))⟩)));try go_wp2_with (first|(go_at_call 230;(with_reducible refine (ud.calls alf true _ nA.out).mono ?_);rintro e w' ⟨rfl,⟨nd,rfl⟩⟩;(try first|exact ⟨rfl,_,World.drewN_drewN _ _ _⟩|exact ⟨rfl,_,Eq.trans (World.drewN_drewN _ _ _) (congrArg (World.drewN _) (Nat.add_assoc _ _ _))⟩))))
      go_loopg [50] k2 (fun kq v50 w'=>∃ (jK:List Int) (alK:Int),v50=.int .i64 alK∧au (dg.l2 kq jK (rd alo (rd (ah aa alf) 0)) (rd alo (rd (ah aa alf) 1)) aa (aa.length:Int) alf (alo.length:Int) alK=some r)∧au (kq≤k2)∧au (Kd.R (Kd.int .i64) 2 w' w.heap.size (fun _=>True) (.slice (some ⟨qm,0,none⟩) alo.length rQ) jK)∧au (w'.heap[ai]?=some (sO af (some lu) aa ak 31))∧au (Below w.heap.size w w'))
      case atStart=>exact ⟨(alo),(0),rs,H',⟨Nat.le_refl _⟩,⟨aR (bQ.out)⟩,⟨bk⟩,⟨bl⟩⟩
      case round =>
       clear H'
       (try clear c6);(try clear gB);(try clear c7);(try clear c10);(try clear lO);(try clear c11);(try clear i_);(try clear c12);(try clear rN);(try clear c14);(try clear c15);(try clear jD);(try clear oV);(try clear c16);(try clear qY);(try clear c17);(try clear oW);(try clear c18);(try clear qZ);(try clear Fw);(try clear c19);(try clear lC);(try clear c20);(try clear og);(try clear sU);(try clear sV);(try clear uA);(try clear uB);(try clear sX);(try clear sY);(try clear uD);(try clear uE);(try clear fu);(try clear kL);(try clear gN);(try clear lS);(try clear nc);(try clear ef);(try clear jr);(try clear gj);(try clear al3);(try clear nO);(try clear dR);(try clear js);(try clear alG);(try clear oF);(try clear nP)
       obtain ⟨jK,alK,rfl,HA,cN,bQ,ag,HB⟩:=hrel
       have gT:=(Kd.bx bQ.out).1
       rw [gT] at bQ
       (try simp only [gT])
       (try simp only [gT] at ag)
       cases gk with
       | zero=>exact absurd HA.out (by simp [dg.l2])
       | succ k3 =>
        have H:=HA.out
        clear HA
        simp only [dg.l2] at H
        by_cases c23:alK < (alo.length:Int)
        case neg =>
         rw [if_neg c23] at H
         have rO:decide (alK < (alo.length:Int))=false:=decide_eq_false c23
         (try simp only [gT] at rO)
         clear c23
         have H':=k0 H
         clear H
         go_wp2
         repeat (go_quiet (fail);try go_wp2)
         (try simp only [← gT])
         first|go_roundg k3|(simp only [← amd];go_roundg k3)|(simp only [← l9];go_roundg k3)
         case measure=>have:=alj.out;have:=bB.out;have:=cN.out;omega
         case rel=>exact ⟨(jK),(wrap64 (alf+1)),rs,(by first|exact H'|(rw [amd];exact H')|(rw [l9];exact H')),⟨by have:=alj.out;have:=bB.out;have:=cN.out;omega⟩,⟨by (try simp only [gT]);(with_reducible repeat (first|apply Kd.bH|apply Kd.bL|apply Kd.bn));exact bQ.out⟩,⟨by (try simp only [gT]);exact bk⟩,⟨bl⟩⟩
        rw [if_pos c23] at H
        have rO:=decide_eq_true c23
        (try simp only [gT] at rO)
        clear c23
        replace H:=iS H;obtain ⟨c24,H⟩:=H
        have ur:=decide_eq_true c24
        clear c24
        replace H:=iS H;obtain ⟨c25,H⟩:=H
        have sF:=decide_eq_true c25
        (try simp only [gT] at sF)
        clear c25
        obtain ⟨zl,amd⟩:∃ j_:Int,(mx (rd alo (rd (ah aa alf) 0)) (rd alo (rd (ah aa alf) 1)))=j_:=⟨_,rfl⟩
        replace H:(if (rd jK alK)=(zl) then (dg.l2 k3 (jK.set (alK:Int).toNat (mn (rd alo (rd (ah aa alf) 0)) (rd alo (rd (ah aa alf) 1)))) (rd alo (rd (ah aa alf) 0)) (rd alo (rd (ah aa alf) 1)) aa (aa.length:Int) alf (alo.length:Int) (wrap64 (alK+1))) else (dg.l2 k3 jK (rd alo (rd (ah aa alf) 0)) (rd alo (rd (ah aa alf) 1)) aa (aa.length:Int) alf (alo.length:Int) (wrap64 (alK+1))))=some r:=by first|(rw [amd] at H;exact H)|(simp only [amd] at H ⊢;exact H)
        have aiJ:(if (rd alo (rd (ah aa alf) 0)) < (rd alo (rd (ah aa alf) 1)) then (rd alo (rd (ah aa alf) 1)) else (rd alo (rd (ah aa alf) 0)))=zl:=amd
        by_cases c27:(rd jK alK)=(zl)
        case neg =>
         rw [if_neg c27] at H
         have rP:((rd jK alK) == (zl))=false:=beq_eq_false_iff_ne.mpr c27
         have Cm:((rd jK alK) != (zl))=true:=bne_iff_ne.mpr c27
         have H':=k0 H
         clear H
         have iy:0≤(alK:Int):=oD
         have iz:alK < (jK.length:Int):=oD
         obtain ⟨l5,e114,iU⟩:=Kd.bJ (Kd.bx bQ.out).2.2 alK iy iz
         obtain rfl:(⟨qm,0,none⟩:Addr)=l5:=(by injection e114)
         (first|simp only [add_plain] at iU|simp only [l6] at iU|simp only [Addr.add,Nat.zero_add] at iU|skip)
         replace iy:=eq_true iy
         replace iz:=eq_true iz
         go_wp2
         repeat (go_quiet (fail);try go_wp2)
         (try simp only [← gT])
         first|go_roundg k3|(simp only [← amd];go_roundg k3)|(simp only [← l9];go_roundg k3)
         case measure=>have:=alj.out;have:=bB.out;have:=cN.out;omega
         case rel=>exact ⟨(jK),(wrap64 (alK+1)),rs,(by first|exact H'|(rw [amd];exact H')|(rw [l9];exact H')),⟨by have:=alj.out;have:=bB.out;have:=cN.out;omega⟩,⟨by (try simp only [gT]);(with_reducible repeat (first|apply Kd.bH|apply Kd.bL|apply Kd.bn));exact bQ.out⟩,⟨by (try simp only [gT]);exact bk⟩,⟨bl⟩⟩
        rw [if_pos c27] at H
        have rP:((rd jK alK) == (zl))=true:=beq_iff_eq.mpr c27
        have Cm:((rd jK alK) != (zl))=false:=bne_eq_false_iff_eq.mpr c27
        clear c27
        obtain ⟨ng,l9⟩:∃ j_:Int,(mn (rd alo (rd (ah aa alf) 0)) (rd alo (rd (ah aa alf) 1)))=j_:=⟨_,rfl⟩
        replace H:(dg.l2 k3 (jK.set (alK:Int).toNat (ng)) (rd alo (rd (ah aa alf) 0)) (rd alo (rd (ah aa alf) 1)) aa (aa.length:Int) alf (alo.length:Int) (wrap64 (alK+1)))=some r:=by first|(rw [l9] at H;exact H)|(simp only [l9] at H ⊢;exact H)
        have abA:(if (rd alo (rd (ah aa alf) 1)) < (rd alo (rd (ah aa alf) 0)) then (rd alo (rd (ah aa alf) 1)) else (rd alo (rd (ah aa alf) 0)))=ng:=l9
        obtain ⟨dU,gh⟩:∃ y_:List Int,y_=(jK.set (alK:Int).toNat (ng)):=⟨_,rfl⟩
        replace H:(dg.l2 k3 dU (rd alo (rd (ah aa alf) 0)) (rd alo (rd (ah aa alf) 1)) aa (aa.length:Int) alf (alo.length:Int) (wrap64 (alK+1)))=some r:=by first|(rw [gh];with_reducible exact H)|(have ax:=(Option.bind_some _ _).symm.trans H;rw [gh];with_reducible exact ax)|(have ax:=(Option.bind_some _ _).symm.trans H;with_reducible exact ax)|with_reducible exact H|(rw [gh];exact H)|exact H
        have mT:=k0 gh
        clear gh
        have H':=k0 H
        clear H
        have iy:0≤(alK:Int):=oD
        have iz:alK < (jK.length:Int):=oD
        obtain ⟨l5,e114,iU⟩:=Kd.bJ (Kd.bx bQ.out).2.2 alK iy iz
        obtain rfl:(⟨qm,0,none⟩:Addr)=l5:=(by injection e114)
        (first|simp only [add_plain] at iU|simp only [l6] at iU|simp only [Addr.add,Nat.zero_add] at iU|skip)
        replace iy:=eq_true iy
        replace iz:=eq_true iz
        have zw:0≤(alK:Int):=oD
        have oG:(alK:Int) < ((jK.length:Int):Int):=oD
        obtain ⟨RY,QM⟩:=Kd.jB 0 bQ.out (alK:Int) zw oG
        replace zw:=eq_true zw
        replace oG:=eq_true oG
        have mS:=Kd.kW bQ.out (alK:Int) ng
        go_wp2_with (first|((with_reducible refine lF (t:=2) (p:=65) rfl ?_);(try (rw [AJ wr];generalize iT:World.drewN wr _=wr;have aE:=k0 (Kd.Ac iT bQ.out);have aH:=k0 (At iT ag.out);have aK:=k0 (Ar iT HB.out);clear iT bQ ag HB;have bQ:=aE;have ag:=aH;have HB:=aK;clear aE aH aK;(try (have mS:=Kd.kW bQ.out (alK:Int) ng))));refine lJ (t:=2) (p:=65) (v:=?Ty) (w1:=(wr.setCell ⟨qm,(alK:Int).toNat,none⟩ (.int .i64 ng))) ?hg ?ho ?hn ?hr ?_;(case ho=>rfl);(case hg=>rfl);(case hn=>rfl);(case hr=>first|(go_simp;done)|(go_simp;rfl));intro si hw;have hg:wr.grownBy si (some qm):=(by rw [hw];exact mS.2);have ec:Kd.R (Kd.int .i64) 2 si w.heap.size (fun _=>True) (.slice (some ⟨qm,0,none⟩) jK.length rQ) dU:=(by rw [hw,mT.out];exact mS.1);clear mS;replace ag:=k0 (iQ (g:=ai) (o:=sO af (some lu) aa ak 31) bk hg (Kd.gY bQ.out ag.out (by decide)));replace bQ:=k0 (ec);replace HB:=k0 ((by rw [hw];exact dJ (HB.out) anG.out:Below w.heap.size w si));clear hg hw ec))
        repeat (go_quiet (first|((with_reducible refine lF (t:=2) (p:=65) rfl ?_);(try (rw [AJ wr];generalize iT:World.drewN wr _=wr;have aE:=k0 (Kd.Ac iT bQ.out);have aH:=k0 (At iT ag.out);have aK:=k0 (Ar iT HB.out);clear iT bQ ag HB;have bQ:=aE;have ag:=aH;have HB:=aK;clear aE aH aK;(try (have mS:=Kd.kW bQ.out (alK:Int) ng))));refine lJ (t:=2) (p:=65) (v:=?Ty) (w1:=(wr.setCell ⟨qm,(alK:Int).toNat,none⟩ (.int .i64 ng))) ?hg ?ho ?hn ?hr ?_;(case ho=>rfl);(case hg=>rfl);(case hn=>rfl);(case hr=>first|(go_simp;done)|(go_simp;rfl));intro si hw;have hg:wr.grownBy si (some qm):=(by rw [hw];exact mS.2);have ec:Kd.R (Kd.int .i64) 2 si w.heap.size (fun _=>True) (.slice (some ⟨qm,0,none⟩) jK.length rQ) dU:=(by rw [hw,mT.out];exact mS.1);clear mS;replace ag:=k0 (iQ (g:=ai) (o:=sO af (some lu) aa ak 31) bk hg (Kd.gY bQ.out ag.out (by decide)));replace bQ:=k0 (ec);replace HB:=k0 ((by rw [hw];exact dJ (HB.out) anG.out:Below w.heap.size w si));clear hg hw ec));try go_wp2_with (first|((with_reducible refine lF (t:=2) (p:=65) rfl ?_);(try (rw [AJ wr];generalize iT:World.drewN wr _=wr;have aE:=k0 (Kd.Ac iT bQ.out);have aH:=k0 (At iT ag.out);have aK:=k0 (Ar iT HB.out);clear iT bQ ag HB;have bQ:=aE;have ag:=aH;have HB:=aK;clear aE aH aK;(try (have mS:=Kd.kW bQ.out (alK:Int) ng))));refine lJ (t:=2) (p:=65) (v:=?Ty) (w1:=(wr.setCell ⟨qm,(alK:Int).toNat,none⟩ (.int .i64 ng))) ?hg ?ho ?hn ?hr ?_;(case ho=>rfl);(case hg=>rfl);(case hn=>rfl);(case hr=>first|(go_simp;done)|(go_simp;rfl));intro si hw;have hg:wr.grownBy si (some qm):=(by rw [hw];exact mS.2);have ec:Kd.R (Kd.int .i64) 2 si w.heap.size (fun _=>True) (.slice (some ⟨qm,0,none⟩) jK.length rQ) dU:=(by rw [hw,mT.out];exact mS.1);clear mS;replace ag:=k0 (iQ (g:=ai) (o:=sO af (some lu) aa ak 31) bk hg (Kd.gY bQ.out ag.out (by decide)));replace bQ:=k0 (ec);replace HB:=k0 ((by rw [hw];exact dJ (HB.out) anG.out:Below w.heap.size w si));clear hg hw ec)))
        (try simp only [← gT])
        first|go_roundg k3|(simp only [← amd];go_roundg k3)|(simp only [← l9];go_roundg k3)
        case measure=>have:=alj.out;have:=bB.out;have:=cN.out;omega
        case rel=>exact ⟨(dU),(wrap64 (alK+1)),rs,(by first|exact H'|(rw [amd];exact H')|(rw [l9];exact H')),⟨by have:=alj.out;have:=bB.out;have:=cN.out;omega⟩,⟨by (try simp only [gT]);(with_reducible repeat (first|apply Kd.bH|apply Kd.bL|apply Kd.bn));exact bQ.out⟩,⟨by (try simp only [gT]);exact bk⟩,⟨bl⟩⟩
   rw [if_pos c6] at H
   have gB:=decide_eq_true c6
   clear c6
   replace H:=iS H;obtain ⟨c7,H⟩:=H
   have yc:=k0 c7
   clear c7
   obtain ⟨jb,fy⟩:∃ y_:List Int,y_=(ali ++ [eK]):=⟨_,rfl⟩
   replace H:(dg.l0 k1 jb af (wrap64 (eK+1)) af aa)=some r:=by first|(rw [fy];with_reducible exact H)|(have ax:=(Option.bind_some _ _).symm.trans H;rw [fy];with_reducible exact ax)|(have ax:=(Option.bind_some _ _).symm.trans H;with_reducible exact ax)|with_reducible exact H|(rw [fy];exact H)|exact H
   have lY:=k0 fy
   clear fy
   have H':=k0 H
   clear H
   go_wp2_with (first|((with_reducible refine ot (b:=.append) (xs:=#[.tmp 19,.tmp 21]) rfl ?_);at_builtin;refine Kd.sB (Kd.int .i64) (w0:=w) w.heap.size rfl (.tmp 19) (.tmp 21) 28 2 (.int .i64 0) 8 rfl Try.underlying28 alU rfl (by decide) (by omega) u5 ali eK [.int .i64 eK] (fun _=>True) (fun _=>False) rfl rfl ?aP (fun _ hk=>hk.elim) ?aF ?aO ?aB ?aS ?aL ?_;(case aP=>exact rfl);(case aB=>exact bl);(case aF=>exact (fun _ _=>trivial));(case aO=>exact (aR bQ.out));(case aS=>exact (alk bl));(case aL=>have:=yc.out;omega);intro fY w8 ho hb hg bX;rw [← lY.out] at ho;have aE:=k0 (iQ (g:=ai) (o:=sO af aq aa ak 31) bk hg (Kd.gY bQ.out ag.out (by decide)));have aH:=k0 (hb);have aK:=k0 (ho);clear ag;clear HB;clear bQ;have ag:=aE;have HB:=aH;have cO:=aK;clear aE aH aK;clear ho hb hg bX))
   repeat (go_quiet (first|((with_reducible refine ot (b:=.append) (xs:=#[.tmp 19,.tmp 21]) rfl ?_);at_builtin;refine Kd.sB (Kd.int .i64) (w0:=w) w.heap.size rfl (.tmp 19) (.tmp 21) 28 2 (.int .i64 0) 8 rfl Try.underlying28 alU rfl (by decide) (by omega) u5 ali eK [.int .i64 eK] (fun _=>True) (fun _=>False) rfl rfl ?aP (fun _ hk=>hk.elim) ?aF ?aO ?aB ?aS ?aL ?_;(case aP=>exact rfl);(case aB=>exact bl);(case aF=>exact (fun _ _=>trivial));(case aO=>exact (aR bQ.out));(case aS=>exact (alk bl));(case aL=>have:=yc.out;omega);intro fY w8 ho hb hg bX;rw [← lY.out] at ho;have aE:=k0 (iQ (g:=ai) (o:=sO af aq aa ak 31) bk hg (Kd.gY bQ.out ag.out (by decide)));have aH:=k0 (hb);have aK:=k0 (ho);clear ag;clear HB;clear bQ;have ag:=aE;have HB:=aH;have cO:=aK;clear aE aH aK;clear ho hb hg bX));try go_wp2_with (first|((with_reducible refine ot (b:=.append) (xs:=#[.tmp 19,.tmp 21]) rfl ?_);at_builtin;refine Kd.sB (Kd.int .i64) (w0:=w) w.heap.size rfl (.tmp 19) (.tmp 21) 28 2 (.int .i64 0) 8 rfl Try.underlying28 alU rfl (by decide) (by omega) u5 ali eK [.int .i64 eK] (fun _=>True) (fun _=>False) rfl rfl ?aP (fun _ hk=>hk.elim) ?aF ?aO ?aB ?aS ?aL ?_;(case aP=>exact rfl);(case aB=>exact bl);(case aF=>exact (fun _ _=>trivial));(case aO=>exact (aR bQ.out));(case aS=>exact (alk bl));(case aL=>have:=yc.out;omega);intro fY w8 ho hb hg bX;rw [← lY.out] at ho;have aE:=k0 (iQ (g:=ai) (o:=sO af aq aa ak 31) bk hg (Kd.gY bQ.out ag.out (by decide)));have aH:=k0 (hb);have aK:=k0 (ho);clear ag;clear HB;clear bQ;have ag:=aE;have HB:=aH;have cO:=aK;clear aE aH aK;clear ho hb hg bX)))
   first|go_roundg k1|(simp only [← amd];go_roundg k1)|(simp only [← l9];go_roundg k1)
   case measure=>have:=alj.out;omega
   case rel=>exact ⟨(jb),(wrap64 (eK+1)),rs,(by first|exact H'|(rw [amd];exact H')|(rw [l9];exact H')),⟨by have:=alj.out;omega⟩,⟨aR (cO.out)⟩,⟨bk⟩,⟨bl⟩⟩
end Go.Proofs.Ytoebojnhchocaaa.D
/- Set with little white space, by a program. -/
