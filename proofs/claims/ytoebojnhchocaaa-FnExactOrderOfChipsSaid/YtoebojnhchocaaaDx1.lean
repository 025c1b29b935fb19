/- The functions that one law reaches, each as a Lean function, and that Go's call comes to what it says. Condition of each: that the Lean function answers (is not none). -/
import Derived.Test.YtoebojnhchocaaaDx0
namespace Go.Proofs.Ytoebojnhchocaaa.D
open Go.RowKit Go.Proofs.bR.eC Go.Proofs.bR.je Go.Proofs.bR.jO
attribute [local go_sem] max2_int min2_int max_two min_two max_three min_three max_four min_four   -- for this text's walks alone
set_option linter.unusedVariables false
set_option linter.unusedSimpArgs false
/-! ### F18: function 18 -/
def fj.l0 : Nat → List Int → List Int → Int → Option (Bool)
 | 0,_,_,_=>none
 | k+1,x0,x1,x5=>if x5 < (x0.length:Int) then (if 0≤x5 then (if x5 < (x1.length:Int) then (if (rd x0 x5)=(rd x1 x5) then (fj.l0 k x0 x1 (wrap64 (x5+1))) else (some false)) else (none)) else (none)) else (some true)
def fj.f (k:Nat) (l0:List Int) (l1:List Int):Option (Bool):=if (l0.length:Int)=(l1.length:Int) then (fj.l0 k l0 l1 0) else (some false)
theorem fj.bU : ∀ k, (∀ y0 y1 y2, aj (fj.l0 k y0 y1 y2) (fj.l0 (k + 1) y0 y1 y2))
 | 0=>fun _ _ _ r h=>by simp [fj.l0] at h
 | k+1=>by
  have alg:=fj.bU k
  ·intro y0 y1 y2
   unfold fj.l0
   repeat' first
    | (with_reducible first|exact alg _ _ _|exact aj.refl _|exact aj.none _|refine aj.ite ?_ ?_|refine aj.bind ?_ (fun _=>?_))
    | exact alg _ _ _|exact aj.none _|refine aj.ite ?_ ?_|refine aj.bind ?_ (fun _=>?_)
theorem fj.mono:∀ a0 a1 k,aj (fj.f k a0 a1) (fj.f (k+1) a0 a1):=by
 intro a0 a1 k
 have alg:=fj.bU k
 unfold fj.f
 repeat' first
  | (with_reducible first|exact alg _ _ _|exact aj.refl _|exact aj.none _|refine aj.ite ?_ ?_|refine aj.bind ?_ (fun _=>?_))
  | exact alg _ _ _|exact aj.none _|refine aj.ite ?_ ?_|refine aj.bind ?_ (fun _=>?_)
set_option maxHeartbeats 8000000 in
set_option maxRecDepth 100000 in
theorem fj.calls (k : Nat) (A0 : Option Addr) (c0 : Nat) (l0 : List Int) (A1 : Option Addr) (c1 : Nat) (l1 : List Int) (r : Bool) (w : World) (cS : Kd.C (Kd.int .i64) w A0 l0.length l0) (hc0 : l0.length ≤ c0) (c_ : Kd.C (Kd.int .i64) w A1 l1.length l1) (eY : l1.length ≤ c1) (h : fj.f k l0 l1 = some r) :
  Calls Try.prog 18 #[.slice A0 l0.length c0,.slice A1 l1.length c1] w fun e w'=>e=.returned (.bool r)∧bI w w':=by
 have fe:=k0 cS
 have alR:=k0 hc0
 clear cS hc0
 have eP:=k0 c_
 have kT:=k0 eY
 clear c_ eY
 have H:(if (l0.length:Int)=(l1.length:Int) then (fj.l0 k l0 l1 0) else (some false))=some r:=h
 clear h
 by_cases c3:(l0.length:Int)=(l1.length:Int)
 case neg =>
  rw [if_neg c3] at H
  have gZ:((l0.length:Int) == (l1.length:Int))=false:=beq_eq_false_iff_ne.mpr c3
  have lD:((l0.length:Int) != (l1.length:Int))=true:=bne_iff_ne.mpr c3
  have wW:(l0.length == l1.length)=false:=by first|simpa using c3|(simp at c3 ⊢;omega)
  obtain rfl:=Option.some.inj H
  go_enter Try.func18,Try.ntmps18
  go_wp2
  repeat (go_quiet (fail);try go_wp2)
  go_ret
  exact ⟨by first|rfl|(simp;done)|(simp [*];done),by repeat (first|exact bI.refl _|apply bI.step)⟩
 rw [if_pos c3] at H
 have gZ:((l0.length:Int) == (l1.length:Int))=true:=beq_iff_eq.mpr c3
 have lD:((l0.length:Int) != (l1.length:Int))=false:=bne_eq_false_iff_eq.mpr c3
 have wW:(l0.length == l1.length)=true:=by first|simpa using c3|(simp at c3 ⊢;omega)
 clear c3
 have H':=k0 H
 clear H
 go_enter Try.func18,Try.ntmps18
 go_wp2
 repeat (go_quiet (fail);try go_wp2)
 go_loopg [5] k (fun kq v5 w'=>∃ (ali:Int),v5=.int .i64 ali∧au (fj.l0 kq l0 l1 ali=some r)∧au (kq≤k)∧bI w w')
 case atStart=>exact ⟨(0),rs,H',⟨Nat.le_refl _⟩,by repeat (first|exact bI.refl _|apply bI.step)⟩
 case round =>
  clear H'
  (try clear c3);(try clear gZ);(try clear lD);(try clear wW)
  obtain ⟨ali,rfl,HA,alj,⟨m1,rfl⟩⟩:=hrel
  cases gk with
  | zero=>exact absurd HA.out (by simp [fj.l0])
  | succ k1 =>
   have H:=HA.out
   clear HA
   simp only [fj.l0] at H
   by_cases c4:ali < (l0.length:Int)
   case neg =>
    rw [if_neg c4] at H
    have eD:decide (ali < (l0.length:Int))=false:=decide_eq_false c4
    clear c4
    obtain rfl:=Option.some.inj H
    go_wp2
    repeat (go_quiet (fail);try go_wp2)
    go_ret
    exact ⟨by first|rfl|(simp;done)|(simp [*];done),by repeat (first|exact bI.refl _|apply bI.step)⟩
   rw [if_pos c4] at H
   have eD:=decide_eq_true c4
   clear c4
   replace H:=iS H;obtain ⟨c5,H⟩:=H
   have alS:=decide_eq_true c5
   clear c5
   replace H:=iS H;obtain ⟨c6,H⟩:=H
   have gB:=decide_eq_true c6
   clear c6
   by_cases c7:(rd l0 ali)=(rd l1 ali)
   case neg =>
    rw [if_neg c7] at H
    have alJ:((rd l0 ali) == (rd l1 ali))=false:=beq_eq_false_iff_ne.mpr c7
    have wZ:((rd l0 ali) != (rd l1 ali))=true:=bne_iff_ne.mpr c7
    obtain rfl:=Option.some.inj H
    have eT:0≤(ali:Int):=oD
    have eU:ali < (l0.length:Int):=oD
    obtain ⟨qV,e101,pR⟩:=Kd.bJ fe.out ali eT eU
    cases e101
    replace eT:=eq_true eT
    replace eU:=eq_true eU
    have dX:0≤(ali:Int):=oD
    have dY:ali < (l1.length:Int):=oD
    obtain ⟨pG,e102,iw⟩:=Kd.bJ eP.out ali dX dY
    cases e102
    replace dX:=eq_true dX
    replace dY:=eq_true dY
    go_wp2
    repeat (go_quiet (fail);try go_wp2)
    go_ret
    exact ⟨by first|rfl|(simp;done)|(simp [*];done),by repeat (first|exact bI.refl _|apply bI.step)⟩
   rw [if_pos c7] at H
   have alJ:((rd l0 ali) == (rd l1 ali))=true:=beq_iff_eq.mpr c7
   have wZ:((rd l0 ali) != (rd l1 ali))=false:=bne_eq_false_iff_eq.mpr c7
   clear c7
   have H':=k0 H
   clear H
   have eT:0≤(ali:Int):=oD
   have eU:ali < (l0.length:Int):=oD
   obtain ⟨qV,e101,pR⟩:=Kd.bJ fe.out ali eT eU
   cases e101
   replace eT:=eq_true eT
   replace eU:=eq_true eU
   have dX:0≤(ali:Int):=oD
   have dY:ali < (l1.length:Int):=oD
   obtain ⟨pG,e102,iw⟩:=Kd.bJ eP.out ali dX dY
   cases e102
   replace dX:=eq_true dX
   replace dY:=eq_true dY
   go_wp2
   repeat (go_quiet (fail);try go_wp2)
   go_roundg k1
   case measure=>have:=alj.out;omega
   case rel=>exact ⟨(wrap64 (ali+1)),rs,H',⟨by have:=alj.out;omega⟩,by repeat (first|exact bI.refl _|apply bI.step)⟩
/-! ### F156: function 156 -/
def amR.f (l0:List Int) (a1:Int):Option (Int):=if (wrap64 (a1 - (l0.length:Int))) < 0 then (some (-1)) else (some (wrap64 (a1 - (l0.length:Int))))
set_option maxHeartbeats 8000000 in
set_option maxRecDepth 100000 in
theorem amR.calls (A0 : Option Addr) (c0 : Nat) (l0 : List Int) (a1 : Int) (r : Int) (w : World) (cS : Kd.C (Kd.int .i64) w A0 l0.length l0) (hc0 : l0.length ≤ c0) (h : amR.f l0 a1 = some r) :
  Calls Try.prog 156 #[.slice A0 l0.length c0,.int .i64 a1] w fun e w'=>e=.returned (.int .i64 r)∧bI w w':=by
 have fe:=k0 cS
 have alR:=k0 hc0
 clear cS hc0
 have H:(if (wrap64 (a1 - (l0.length:Int))) < 0 then (some (-1)) else (some (wrap64 (a1 - (l0.length:Int)))))=some r:=h
 clear h
 by_cases c3:(wrap64 (a1 - (l0.length:Int))) < 0
 case neg =>
  rw [if_neg c3] at H
  have gZ:decide ((wrap64 (a1 - (l0.length:Int))) < 0)=false:=decide_eq_false c3
  clear c3
  obtain rfl:=Option.some.inj H
  go_enter Try.func156,Try.ntmps156
  go_wp2
  go_ret
  exact ⟨by first|rfl|(simp;done)|(simp [*];done),by repeat (first|exact bI.refl _|apply bI.step)⟩
 rw [if_pos c3] at H
 have gZ:=decide_eq_true c3
 clear c3
 obtain rfl:=Option.some.inj H
 go_enter Try.func156,Try.ntmps156
 go_wp2
 go_ret
 exact ⟨by first|rfl|(simp;done)|(simp [*];done),by repeat (first|exact bI.refl _|apply bI.step)⟩
/-! ### F79: function 79 -/
def ig.l0 : Nat → List (List Int) → Int → Int → Option (Int)
 | 0,_,_,_=>none
 | k+1,x0,x1,x5=>if x5 < (x0.length:Int) then (if 0≤x5 then ((amR.f (ah x0 x5) x1).bind fun t102=>(if t102 < 0 then (some (-1)) else (ig.l0 k x0 t102 (wrap64 (x5+1))))) else (none)) else (some x1)
def ig.f (k:Nat) (l0:List (List Int)) (a1:Int):Option (Int):=if (wrap64 (a1 - (l0.length:Int))) < 0 then (some (-1)) else (ig.l0 k l0 (wrap64 (a1 - (l0.length:Int))) 0)
theorem ig.bU : ∀ k, (∀ y0 y1 y2, aj (ig.l0 k y0 y1 y2) (ig.l0 (k + 1) y0 y1 y2))
 | 0=>fun _ _ _ r h=>by simp [ig.l0] at h
 | k+1=>by
  have alg:=ig.bU k
  ·intro y0 y1 y2
   unfold ig.l0
   repeat' first
    | (with_reducible first|exact alg _ _ _|exact aj.refl _|exact aj.none _|refine aj.ite ?_ ?_|refine aj.bind ?_ (fun _=>?_))
    | exact alg _ _ _|exact aj.none _|refine aj.ite ?_ ?_|refine aj.bind ?_ (fun _=>?_)
theorem ig.mono:∀ a0 a1 k,aj (ig.f k a0 a1) (ig.f (k+1) a0 a1):=by
 intro a0 a1 k
 have alg:=ig.bU k
 unfold ig.f
 repeat' first
  | (with_reducible first|exact alg _ _ _|exact aj.refl _|exact aj.none _|refine aj.ite ?_ ?_|refine aj.bind ?_ (fun _=>?_))
  | exact alg _ _ _|exact aj.none _|refine aj.ite ?_ ?_|refine aj.bind ?_ (fun _=>?_)
set_option maxHeartbeats 8000000 in
set_option maxRecDepth 100000 in
theorem ig.calls (k : Nat) (A0 : Option Addr) (c0 : Nat) (l0 : List (List Int)) (a1 : Int) (r : Int) (w : World) (cS : Kd.C (Kd.slice 2 (Kd.int .i64)) w A0 l0.length l0) (hc0 : l0.length ≤ c0) (h : ig.f k l0 a1 = some r) :
  Calls Try.prog 79 #[.slice A0 l0.length c0,.int .i64 a1] w fun e w'=>e=.returned (.int .i64 r)∧bI w w':=by
 have fe:=k0 cS
 have alR:=k0 hc0
 clear cS hc0
 have H:(if (wrap64 (a1 - (l0.length:Int))) < 0 then (some (-1)) else (ig.l0 k l0 (wrap64 (a1 - (l0.length:Int))) 0))=some r:=h
 clear h
 by_cases c3:(wrap64 (a1 - (l0.length:Int))) < 0
 case neg =>
  rw [if_neg c3] at H
  have gZ:decide ((wrap64 (a1 - (l0.length:Int))) < 0)=false:=decide_eq_false c3
  clear c3
  have H':=k0 H
  clear H
  go_enter Try.func79,Try.ntmps79
  go_wp2
  go_loopg [1,5] k (fun kq v1 v5 w'=>∃ (zK:Int) (ali:Int),v1=.int .i64 zK∧v5=.int .i64 ali∧au (ig.l0 kq l0 zK ali=some r)∧au (kq≤k)∧bI w w')
  case atStart=>exact ⟨(wrap64 (a1 - (l0.length:Int))),(0),rs,rs,H',⟨Nat.le_refl _⟩,by repeat (first|exact bI.refl _|apply bI.step)⟩
  case round =>
   clear H'
   (try clear c3);(try clear gZ)
   obtain ⟨zK,ali,rfl,rfl,HA,alj,⟨m1,rfl⟩⟩:=hrel
   cases gk with
   | zero=>exact absurd HA.out (by simp [ig.l0])
   | succ k1 =>
    have H:=HA.out
    clear HA
    simp only [ig.l0] at H
    by_cases c4:ali < (l0.length:Int)
    case neg =>
     rw [if_neg c4] at H
     have eD:decide (ali < (l0.length:Int))=false:=decide_eq_false c4
     clear c4
     obtain rfl:=Option.some.inj H
     go_wp2
     go_ret
     exact ⟨by first|rfl|(simp;done)|(simp [*];done),by repeat (first|exact bI.refl _|apply bI.step)⟩
    rw [if_pos c4] at H
    have eD:=decide_eq_true c4
    clear c4
    replace H:=iS H;obtain ⟨c5,H⟩:=H
    have alS:=decide_eq_true c5
    clear c5
    replace H:=Option.bind_eq_some_iff.mp H
    obtain ⟨t102,MQ,H⟩:=H
    replace H:(if t102 < 0 then (some (-1)) else (ig.l0 k1 l0 t102 (wrap64 (ali+1))))=some r:=H
    have A6:=k0 MQ
    clear MQ
    by_cases c7:t102 < 0
    case neg =>
     rw [if_neg c7] at H
     have alJ:decide (t102 < 0)=false:=decide_eq_false c7
     clear c7
     have H':=k0 H
     clear H
     have eT:0≤(ali:Int):=oD
     have eU:ali < (l0.length:Int):=oD
     obtain ⟨qV,anm,Cj,e101,pR,amq,sZ⟩:=cX fe.out ali eT eU
     cases e101
     have sy:=k0 sZ
     have su:=k0 amq
     clear sZ amq
     replace eT:=eq_true eT
     replace eU:=eq_true eU
     go_wp2_with (first|((with_reducible refine dx (f:=156) rfl ?_);refine dy (some 23) rfl rfl Try.func156 (by kernel_rfl) rfl #[.slice anm (ah l0 ali).length Cj,.int .i64 zK] rfl gm ?_;(with_reducible refine (amR.calls _ _ (ah l0 ali) zK t102 _ ?aT ?aU A6.out).mono ?_);(case aT=>exact aC sy.out);(case aU=>exact su.out);rintro e w' ⟨rfl,⟨nd,rfl⟩⟩;refine ⟨_,rfl,?_⟩))
     go_roundg k1
     case measure=>have:=alj.out;omega
     case rel=>exact ⟨(t102),(wrap64 (ali+1)),rs,rs,H',⟨by have:=alj.out;omega⟩,by repeat (first|exact bI.refl _|apply bI.step)⟩
    rw [if_pos c7] at H
    have alJ:=decide_eq_true c7
    clear c7
    obtain rfl:=Option.some.inj H
    have eT:0≤(ali:Int):=oD
    have eU:ali < (l0.length:Int):=oD
    obtain ⟨qV,anm,Cj,e101,pR,amq,sZ⟩:=cX fe.out ali eT eU
    cases e101
    have sy:=k0 sZ
    have su:=k0 amq
    clear sZ amq
    replace eT:=eq_true eT
    replace eU:=eq_true eU
    go_wp2_with (first|((with_reducible refine dx (f:=156) rfl ?_);refine dy (some 23) rfl rfl Try.func156 (by kernel_rfl) rfl #[.slice anm (ah l0 ali).length Cj,.int .i64 zK] rfl gm ?_;(with_reducible refine (amR.calls _ _ (ah l0 ali) zK t102 _ ?aT ?aU A6.out).mono ?_);(case aT=>exact aC sy.out);(case aU=>exact su.out);rintro e w' ⟨rfl,⟨nd,rfl⟩⟩;refine ⟨_,rfl,?_⟩))
    go_ret
    exact ⟨by first|rfl|(simp;done)|(simp [*];done),by repeat (first|exact bI.refl _|apply bI.step)⟩
 rw [if_pos c3] at H
 have gZ:=decide_eq_true c3
 clear c3
 obtain rfl:=Option.some.inj H
 go_enter Try.func79,Try.ntmps79
 go_wp2
 go_ret
 exact ⟨by first|rfl|(simp;done)|(simp [*];done),by repeat (first|exact bI.refl _|apply bI.step)⟩
/-! ### F23: function 23 -/
def oM.f (k:Nat) (af:Int) (aa:List (List Int)) (a1:Int):Option (Int):=(ig.f k aa a1).bind fun t102=>(if t102 < 0 then (some (-1)) else (some t102))
theorem oM.mono:∀ a0 a1 a2 k,aj (oM.f k a0 a1 a2) (oM.f (k+1) a0 a1 a2):=by
 intro a0 a1 a2 k
 unfold oM.f
 repeat' first
  | (with_reducible first|exact ig.mono _ _ _|exact aj.refl _|exact aj.none _|refine aj.ite ?_ ?_|refine aj.bind ?_ (fun _=>?_))
  | exact ig.mono _ _ _|exact aj.none _|refine aj.ite ?_ ?_|refine aj.bind ?_ (fun _=>?_)
set_option maxHeartbeats 8000000 in
set_option maxRecDepth 100000 in
theorem oM.calls (k : Nat) (af : Int) (aq : Option Addr) (ak : Nat) (aa : List (List Int)) (a1 : Int) (r : Int) (w : World) (aly : Kd.C (Kd.slice 2 (Kd.int .i64)) w aq aa.length aa) (ck : aa.length ≤ ak) (h : oM.f k af aa a1 = some r) :
  Calls Try.prog 23 #[.agg #[.int .i64 af,.slice aq aa.length ak],.int .i64 a1] w fun e w'=>e=.returned (.int .i64 r)∧Below w.heap.size w w':=by
 have RQ:=Try.underlying24
 have bZ:=k0 aly
 have cD:=k0 ck
 clear aly ck
 have HB:=k0 (Below.refl w.heap.size w)
 have H:((ig.f k aa a1).bind fun t102=>(if t102 < 0 then (some (-1)) else (some t102)))=some r:=h
 clear h
 replace H:=Option.bind_eq_some_iff.mp H
 obtain ⟨t102,mj,H⟩:=H
 replace H:(if t102 < 0 then (some (-1)) else (some t102))=some r:=H
 have A3:=k0 mj
 clear mj
 by_cases c4:t102 < 0
 case neg =>
  rw [if_neg c4] at H
  have eD:decide (t102 < 0)=false:=decide_eq_false c4
  clear c4
  obtain rfl:=Option.some.inj H
  go_enter Try.func23,Try.ntmps23
  go_wp2_with (first|((with_reducible refine cj (N:=2) rfl ?_);refine dK ?hg (N:=2) ?hd (cs:=#[.int .i64 af,.slice aq aa.length ak]) (t:=24) ?hr ?_;(case hd=>rfl);(case hg=>rfl);(case hr=>first|(go_simp;done)|(go_simp;rfl));intro ai hg w7 aJ hb;have ag:=k0 (aJ);have b8:=k0 ((by rw [hg];exact (alk bl):w.heap.size≤ai));have eB:=b8;replace HB:=k0 (aI bl hb);clear hb aJ hg;have vK:w7.cell? ⟨ai,0,none⟩=some (.int .i64 af):=(av ag.out 0).trans rfl;have vL:w7.cell? ⟨ai,1,none⟩=some (.slice aq aa.length ak):=(av ag.out 1).trans rfl;have vN:=aD ag.out 0;have vO:=aD ag.out 1)|((with_reducible refine dx (f:=79) rfl ?_);refine dy (some 8) rfl rfl Try.func79 (by kernel_rfl) rfl #[.slice aq aa.length ak,.int .i64 a1] rfl gm ?_;(with_reducible refine (ig.calls k _ _ aa a1 t102 _ ?aT ?aU A3.out).mono ?_);(case aT=>exact aC (Kd.bK bZ.out HB.out));(case aU=>exact cD.out);rintro e w' ⟨rfl,⟨nd,rfl⟩⟩;refine ⟨_,rfl,?_⟩))
  go_ret
  exact ⟨by first|rfl|(simp [bz,bA]<;>rfl)|(simp [*,bz,bA]<;>rfl),bl⟩
 rw [if_pos c4] at H
 have eD:=decide_eq_true c4
 clear c4
 obtain rfl:=Option.some.inj H
 go_enter Try.func23,Try.ntmps23
 go_wp2_with (first|((with_reducible refine cj (N:=2) rfl ?_);refine dK ?hg (N:=2) ?hd (cs:=#[.int .i64 af,.slice aq aa.length ak]) (t:=24) ?hr ?_;(case hd=>rfl);(case hg=>rfl);(case hr=>first|(go_simp;done)|(go_simp;rfl));intro ai hg w5 aJ hb;have ag:=k0 (aJ);have b8:=k0 ((by rw [hg];exact (alk bl):w.heap.size≤ai));have eB:=b8;replace HB:=k0 (aI bl hb);clear hb aJ hg;have qp:w5.cell? ⟨ai,0,none⟩=some (.int .i64 af):=(av ag.out 0).trans rfl;have qq:w5.cell? ⟨ai,1,none⟩=some (.slice aq aa.length ak):=(av ag.out 1).trans rfl;have al8:=aD ag.out 0;have qt:=aD ag.out 1)|((with_reducible refine dx (f:=79) rfl ?_);refine dy (some 8) rfl rfl Try.func79 (by kernel_rfl) rfl #[.slice aq aa.length ak,.int .i64 a1] rfl gm ?_;(with_reducible refine (ig.calls k _ _ aa a1 t102 _ ?aT ?aU A3.out).mono ?_);(case aT=>exact aC (Kd.bK bZ.out HB.out));(case aU=>exact cD.out);rintro e w' ⟨rfl,⟨nd,rfl⟩⟩;refine ⟨_,rfl,?_⟩))
 go_ret
 exact ⟨by first|rfl|(simp [bz,bA]<;>rfl)|(simp [*,bz,bA]<;>rfl),bl⟩
/-! ### F26: function 26 -/
def dZ.l0 : Nat → List Int → List Int → Int → Option (List Int)
 | 0,_,_,_=>none
 | k+1,x0,x3,x4=>if x4 < (x0.length:Int) then (if 0≤x4 then (if x4 < (x3.length:Int) then (dZ.l0 k x0 (x3.set (x4:Int).toNat (rd x0 x4)) (wrap64 (x4+1))) else (none)) else (none)) else (some x3)
def dZ.f (k:Nat) (l0:List Int):Option (List Int):=if 0≤(l0.length:Int) then (if ((l0.length:Int):Int).toNat≤35184372088832 then (dZ.l0 k l0 (List.replicate ((l0.length:Int):Int).toNat 0) 0) else (none)) else (none)
theorem dZ.bU : ∀ k, (∀ y0 y1 y2, aj (dZ.l0 k y0 y1 y2) (dZ.l0 (k + 1) y0 y1 y2))
 | 0=>fun _ _ _ r h=>by simp [dZ.l0] at h
 | k+1=>by
  have alg:=dZ.bU k
  ·intro y0 y1 y2
   unfold dZ.l0
   repeat' first
    | (with_reducible first|exact alg _ _ _|exact aj.refl _|exact aj.none _|refine aj.ite ?_ ?_|refine aj.bind ?_ (fun _=>?_))
    | exact alg _ _ _|exact aj.none _|refine aj.ite ?_ ?_|refine aj.bind ?_ (fun _=>?_)
theorem dZ.mono:∀ a0 k,aj (dZ.f k a0) (dZ.f (k+1) a0):=by
 intro a0 k
 have alg:=dZ.bU k
 unfold dZ.f
 repeat' first
  | (with_reducible first|exact alg _ _ _|exact aj.refl _|exact aj.none _|refine aj.ite ?_ ?_|refine aj.bind ?_ (fun _=>?_))
  | exact alg _ _ _|exact aj.none _|refine aj.ite ?_ ?_|refine aj.bind ?_ (fun _=>?_)
set_option maxHeartbeats 8000000 in
set_option maxRecDepth 100000 in
theorem dZ.calls (k : Nat) (A0 : Option Addr) (c0 : Nat) (l0 : List Int) (r : List Int) (w : World) (cS : Kd.C (Kd.int .i64) w A0 l0.length l0) (hc0 : l0.length ≤ c0) (h : dZ.f k l0 = some r) :
  Calls Try.prog 26 #[.slice A0 l0.length c0] w fun e w'=>∃ dH:Value,e=.returned (dH)∧Kd.R (Kd.int .i64) 2 w' w.heap.size (fun _=>True) dH r∧Below w.heap.size w w':=by
 have fe:=k0 cS
 have alR:=k0 hc0
 clear cS hc0
 have HB:=k0 (Below.refl w.heap.size w)
 have H:(if 0≤(l0.length:Int) then (if ((l0.length:Int):Int).toNat≤35184372088832 then (dZ.l0 k l0 (List.replicate ((l0.length:Int):Int).toNat 0) 0) else (none)) else (none))=some r:=h
 clear h
 replace H:=iS H;obtain ⟨c2,H⟩:=H
 have vB:=eq_true c2
 have Je:=decide_eq_true c2
 clear c2
 replace H:=iS H;obtain ⟨c3,H⟩:=H
 have gZ:=eq_true c3
 have lD:=decide_eq_true c3
 clear c3
 obtain ⟨jx,gf⟩:∃ y_:List Int,y_=(List.replicate ((l0.length:Int):Int).toNat 0):=⟨_,rfl⟩
 replace H:(dZ.l0 k l0 jx 0)=some r:=by first|(rw [gf];with_reducible exact H)|(have ax:=(Option.bind_some _ _).symm.trans H;rw [gf];with_reducible exact ax)|(have ax:=(Option.bind_some _ _).symm.trans H;with_reducible exact ax)|with_reducible exact H|(rw [gf];exact H)|exact H
 have mq:=k0 gf
 clear gf
 have H':=k0 H
 clear H
 go_enter Try.func26,Try.ntmps26
 go_wp2_with (first|((with_reducible refine cj (N:=7) rfl ?_);refine Kd.yg (Kd.int .i64) _ 2 rfl (N:=7) rfl 28 _ _ rfl (l0.length:Int) rfl rfl Try.underlying28 (.int .i64 0) 8 alU rfl (by decide) (by omega) 0 (ok:=fun _=>True) (b9:=fun _=>True) rfl (fun _ hk=>hk) trivial oD (Nat.le_trans (Nat.mul_le_mul_right _ (oD:(l0.length:Int).toNat≤35184372088832)) (by omega)) (Below.refl _ _) (Nat.le_refl _) ?_;intro mg w4 tj hb dF dG;clear dF dG;(first|rw [← mq.out] at tj|(simp only [Int.reduceToNat] at tj;rw [← mq.out] at tj));have kU:=k0 (Kd.dI tj (alk bl));replace HB:=k0 (aI bl hb);clear hb tj))
 go_loopg [4] k (fun kq v4 w'=>∃ (bC:List Int) (aY:Int),v4=.int .i64 aY∧au (dZ.l0 kq l0 bC aY=some r)∧au (kq≤k)∧au (Kd.R (Kd.int .i64) 2 w' w.heap.size (fun _=>True) mg bC)∧au (Below w.heap.size w w'))
 case atStart=>exact ⟨(jx),(0),rs,H',⟨Nat.le_refl _⟩,⟨aR (kU.out)⟩,⟨bl⟩⟩
 case round =>
  clear H'
  (try clear c2);(try clear vB);(try clear Je);(try clear c3);(try clear gZ);(try clear lD)
  obtain ⟨bC,aY,rfl,HA,alj,ald,HB⟩:=hrel
  cases gk with
  | zero=>exact absurd HA.out (by simp [dZ.l0])
  | succ k1 =>
   have H:=HA.out
   clear HA
   simp only [dZ.l0] at H
   by_cases c6:aY < (l0.length:Int)
   case neg =>
    rw [if_neg c6] at H
    have gB:decide (aY < (l0.length:Int))=false:=decide_eq_false c6
    clear c6
    obtain rfl:=Option.some.inj H
    go_wp2
    go_ret
    exact ⟨_,by first|rfl|(simp [bz,bA]<;>rfl)|(simp [*,bz,bA]<;>rfl),by (with_reducible repeat (first|apply Kd.bH|apply Kd.bL|apply Kd.bn));exact ald.out,bl⟩
   rw [if_pos c6] at H
   have gB:=decide_eq_true c6
   clear c6
   replace H:=iS H;obtain ⟨c7,H⟩:=H
   have alJ:=decide_eq_true c7
   clear c7
   replace H:=iS H;obtain ⟨c8,H⟩:=H
   have jg:=decide_eq_true c8
   clear c8
   obtain ⟨jb,fy⟩:∃ y_:List Int,y_=(bC.set (aY:Int).toNat (rd l0 aY)):=⟨_,rfl⟩
   replace H:(dZ.l0 k1 l0 jb (wrap64 (aY+1)))=some r:=by first|(rw [fy];with_reducible exact H)|(have ax:=(Option.bind_some _ _).symm.trans H;rw [fy];with_reducible exact ax)|(have ax:=(Option.bind_some _ _).symm.trans H;with_reducible exact ax)|with_reducible exact H|(rw [fy];exact H)|exact H
   have lY:=k0 fy
   clear fy
   have H':=k0 H
   clear H
   have cT:0≤(aY:Int):=oD
   have cU:aY < (l0.length:Int):=oD
   obtain ⟨kF,e104,cM⟩:=Kd.bJ fe.out aY cT cU
   cases e104
   replace cM:=hbc HB cM
   replace cT:=eq_true cT
   replace cU:=eq_true cU
   have p9:0≤(aY:Int):=oD
   have q9:(aY:Int) < ((bC.length:Int):Int):=oD
   obtain ⟨yF,Cv,vG,CI,JZ,X1,BZ⟩:=Kd.lp ald.out (by omega)
   (first|cases vG|(injection vG with bh dm di;(first|subst bh|(injection bh with bh;subst bh));subst di;clear dm))
   have anH:=k0 CI
   have U0:=k0 BZ
   clear CI JZ BZ
   obtain ⟨zi,KD⟩:=Kd.jB 0 ald.out (aY:Int) p9 q9
   replace p9:=eq_true p9
   replace q9:=eq_true q9
   have Ia:=Kd.kW ald.out (aY:Int) (rd l0 aY)
   go_wp2_with (first|((with_reducible refine lF (t:=2) (p:=20) rfl ?_);refine lJ (t:=2) (p:=20) (v:=?ak3) (w1:=(wr.setCell ⟨yF,(aY:Int).toNat,none⟩ (.int .i64 (rd l0 aY)))) ?hg ?ho ?hn ?hr ?_;(case ho=>rfl);(case hg=>rfl);(case hn=>rfl);(case hr=>first|(go_simp;done)|(go_simp;rfl));intro alE hw;have hg:wr.grownBy alE (some yF):=(by rw [hw];exact Ia.2);have ec:Kd.R (Kd.int .i64) 2 alE w.heap.size (fun _=>True) (.slice (some ⟨yF,0,none⟩) bC.length Cv) jb:=(by rw [hw,lY.out];exact Ia.1);clear Ia;replace ald:=k0 (ec);replace HB:=k0 ((by rw [hw];exact dJ (HB.out) anH.out:Below w.heap.size w alE));clear hg hw ec))
   go_roundg k1
   case measure=>have:=alj.out;omega
   case rel=>exact ⟨(jb),(wrap64 (aY+1)),rs,H',⟨by have:=alj.out;omega⟩,⟨aR (ald.out)⟩,⟨bl⟩⟩
/-! ### F83: function 83 -/
def ij.l0 : Nat → List (List Int) → List (List Int) → Int → Option ((List (List Int)))
 | 0,_,_,_=>none
 | k+1,x0,x3,x4=>if x4 < (x0.length:Int) then (if 0≤x4 then ((dZ.f k (ah x0 x4)).bind fun t105=>(if x4 < (x3.length:Int) then (ij.l0 k x0 (x3.set (x4:Int).toNat t105) (wrap64 (x4+1))) else (none))) else (none)) else (some x3)
def ij.f (k:Nat) (l0:List (List Int)):Option ((List (List Int))):=if 0≤(l0.length:Int) then (if ((l0.length:Int):Int).toNat≤11728124029610 then (ij.l0 k l0 (List.replicate ((l0.length:Int):Int).toNat []) 0) else (none)) else (none)
theorem ij.bU : ∀ k, (∀ y0 y1 y2, aj (ij.l0 k y0 y1 y2) (ij.l0 (k + 1) y0 y1 y2))
 | 0=>fun _ _ _ r h=>by simp [ij.l0] at h
 | k+1=>by
  have alg:=ij.bU k
  ·intro y0 y1 y2
   unfold ij.l0
   repeat' first
    | (with_reducible first|exact alg _ _ _|exact dZ.mono _ _|exact aj.refl _|exact aj.none _|refine aj.ite ?_ ?_|refine aj.bind ?_ (fun _=>?_))
    | exact alg _ _ _|exact dZ.mono _ _|exact aj.none _|refine aj.ite ?_ ?_|refine aj.bind ?_ (fun _=>?_)
theorem ij.mono:∀ a0 k,aj (ij.f k a0) (ij.f (k+1) a0):=by
 intro a0 k
 have alg:=ij.bU k
 unfold ij.f
 repeat' first
  | (with_reducible first|exact alg _ _ _|exact dZ.mono _ _|exact aj.refl _|exact aj.none _|refine aj.ite ?_ ?_|refine aj.bind ?_ (fun _=>?_))
  | exact alg _ _ _|exact dZ.mono _ _|exact aj.none _|refine aj.ite ?_ ?_|refine aj.bind ?_ (fun _=>?_)
set_option maxHeartbeats 8000000 in
set_option maxRecDepth 100000 in
theorem ij.calls (k : Nat) (A0 : Option Addr) (c0 : Nat) (l0 : List (List Int)) (r : List (List Int)) (w : World) (cS : Kd.C (Kd.slice 2 (Kd.int .i64)) w A0 l0.length l0) (hc0 : l0.length ≤ c0) (h : ij.f k l0 = some r) :
  Calls Try.prog 83 #[.slice A0 l0.length c0] w fun e w'=>∃ dH:Value,e=.returned (dH)∧Kd.S (Kd.slice 2 (Kd.int .i64)) 28 w' w.heap.size (fun _=>True) dH r∧Below w.heap.size w w':=by
 have fe:=k0 cS
 have alR:=k0 hc0
 clear cS hc0
 have HB:=k0 (Below.refl w.heap.size w)
 have H:(if 0≤(l0.length:Int) then (if ((l0.length:Int):Int).toNat≤11728124029610 then (ij.l0 k l0 (List.replicate ((l0.length:Int):Int).toNat []) 0) else (none)) else (none))=some r:=h
 clear h
 replace H:=iS H;obtain ⟨c2,H⟩:=H
 have vB:=eq_true c2
 have Je:=decide_eq_true c2
 clear c2
 replace H:=iS H;obtain ⟨c3,H⟩:=H
 have gZ:=eq_true c3
 have lD:=decide_eq_true c3
 clear c3
 obtain ⟨jx,gf⟩:∃ y_:List (List Int),y_=(List.replicate ((l0.length:Int):Int).toNat []):=⟨_,rfl⟩
 replace H:(ij.l0 k l0 jx 0)=some r:=by first|(rw [gf];with_reducible exact H)|(have ax:=(Option.bind_some _ _).symm.trans H;rw [gf];with_reducible exact ax)|(have ax:=(Option.bind_some _ _).symm.trans H;with_reducible exact ax)|with_reducible exact H|(rw [gf];exact H)|exact H
 have mq:=k0 gf
 clear gf
 have H':=k0 H
 clear H
 go_enter Try.func83,Try.ntmps83
 go_wp2_with (first|((with_reducible refine cj (N:=7) rfl ?_);refine Kd.Wv (Kd.slice 2 (Kd.int .i64)) _ 28 rfl (N:=7) rfl 22 _ _ rfl (l0.length:Int) rfl rfl Try.underlying22 (.slice none 0 0) 24 xI rfl (by decide) (by omega) [] (ok:=fun _=>True) (b9:=fun _=>True) ⟨_,rfl,Kd.Ae _ _ _ _ _⟩ (fun _ hk=>hk) trivial oD (Nat.le_trans (Nat.mul_le_mul_right _ (oD:(l0.length:Int).toNat≤11728124029610)) (by omega)) (Below.refl _ _) (Nat.le_refl _) ?_;intro mg w4 tj hb dF dG;clear dF dG;(first|rw [← mq.out] at tj|(simp only [Int.reduceToNat] at tj;rw [← mq.out] at tj));have kU:=k0 (Kd.oR tj (alk bl));replace HB:=k0 (aI bl hb);clear hb tj))
 go_loopg [4] k (fun kq v4 w'=>∃ (bC:List (List Int)) (aY:Int),v4=.int .i64 aY∧au (ij.l0 kq l0 bC aY=some r)∧au (kq≤k)∧au (Kd.S (Kd.slice 2 (Kd.int .i64)) 28 w' w.heap.size (fun _=>True) mg bC)∧au (Below w.heap.size w w'))
 case atStart=>exact ⟨(jx),(0),rs,H',⟨Nat.le_refl _⟩,⟨aS (kU.out)⟩,⟨bl⟩⟩
 case round =>
  clear H'
  (try clear c2);(try clear vB);(try clear Je);(try clear c3);(try clear gZ);(try clear lD)
  obtain ⟨bC,aY,rfl,HA,alj,ald,HB⟩:=hrel
  cases gk with
  | zero=>exact absurd HA.out (by simp [ij.l0])
  | succ k1 =>
   have H:=HA.out
   clear HA
   simp only [ij.l0] at H
   by_cases c6:aY < (l0.length:Int)
   case neg =>
    rw [if_neg c6] at H
    have gB:decide (aY < (l0.length:Int))=false:=decide_eq_false c6
    clear c6
    obtain rfl:=Option.some.inj H
    go_wp2
    go_ret
    exact ⟨_,by first|rfl|(simp [bz,bA]<;>rfl)|(simp [*,bz,bA]<;>rfl),by (with_reducible repeat (first|apply Kd.gK|apply Kd.alH|apply Kd.eW));exact ald.out,bl⟩
   rw [if_pos c6] at H
   have gB:=decide_eq_true c6
   clear c6
   replace H:=iS H;obtain ⟨c7,H⟩:=H
   have alJ:=decide_eq_true c7
   clear c7
   replace H:=Option.bind_eq_some_iff.mp H
   obtain ⟨t105,BP,H⟩:=H
   replace H:(if aY < (bC.length:Int) then (ij.l0 k1 l0 (bC.set (aY:Int).toNat t105) (wrap64 (aY+1))) else (none))=some r:=H
   have A8:=k0 BP
   clear BP
   replace H:=iS H;obtain ⟨c9,H⟩:=H
   have mD:=decide_eq_true c9
   clear c9
   obtain ⟨mQ,alM⟩:∃ y_:List (List Int),y_=(bC.set (aY:Int).toNat t105):=⟨_,rfl⟩
   replace H:(ij.l0 k1 l0 mQ (wrap64 (aY+1)))=some r:=by first|(rw [alM];with_reducible exact H)|(have ax:=(Option.bind_some _ _).symm.trans H;rw [alM];with_reducible exact ax)|(have ax:=(Option.bind_some _ _).symm.trans H;with_reducible exact ax)|with_reducible exact H|(rw [alM];exact H)|exact H
   have sA:=k0 alM
   clear alM
   have H':=k0 H
   clear H
   have cT:0≤(aY:Int):=oD
   have cU:aY < (l0.length:Int):=oD
   obtain ⟨kF,uV,vw,e104,cM,al0,lH⟩:=cX fe.out aY cT cU
   cases e104
   replace cM:=hbc HB cM
   have rG:=k0 lH
   have amv:=k0 al0
   clear lH al0
   replace cT:=eq_true cT
   replace cU:=eq_true cU
   go_wp2_with (first|((with_reducible refine dx (f:=26) rfl ?_);refine dy (some 20) rfl rfl Try.func26 (by kernel_rfl) rfl #[.slice uV (ah l0 aY).length vw] rfl gm ?_;(with_reducible refine (dZ.calls k1 _ _ (ah l0 aY) t105 _ ?aT ?aU A8.out).mono ?_);(case aT=>exact aC (Kd.bK rG.out HB.out));(case aU=>exact amv.out);rintro e alE ⟨fY,rfl,aM,hb⟩;refine ⟨_,rfl,?_⟩;replace ald:=k0 (Kd.kE (aS ald.out) (Kd.cn aM) hb);have cO:=k0 (Kd.dI aM (alk bl));replace HB:=k0 (aI bl hb);(try clear hb);(try clear aM);have pS:0≤(aY:Int):=oD;have pT:(aY:Int) < ((bC.length:Int):Int):=oD;obtain ⟨sQ,pK,ql,CG,JX,XZ,BW⟩:=Kd.Od ald.out (by omega);(first|cases ql|(injection ql with bh dm di;(first|subst bh|(injection bh with bh;subst bh));subst di;clear dm));have HF:=k0 CG;have UT:=k0 BW;clear CG JX BW;obtain ⟨_,agN,aat,P6,Qj,QU,_,_⟩:=Kd.I1 ald.out [] (aY:Int) pS pT;obtain ⟨akL,rfl,ahm⟩:=P6;have Bk:=Qj 0 _ rfl;have QL:=QU 0;(try simp only [show ((Kd.slice 2 (Kd.int .i64))).sz=1 from rfl,Nat.mul_one,Nat.add_zero] at Bk);(try simp only [show ((Kd.slice 2 (Kd.int .i64))).sz=1 from rfl,Nat.mul_one,Nat.add_zero] at QL);(try clear P6);clear aat Qj QU ;replace pS:=eq_true pS;replace pT:=eq_true pT;have n_:=k0 (Kd.iF (ok':=(fun k_=>some k_ ≠ (fY:Value).ownBlock)) ald.out (fun k_ hk=>hk.2));clear ald;have ald:=n_;clear n_;have Vx:=k0 (show Kd.S (Kd.slice 2 (Kd.int .i64)) 28 alE w.heap.size (fun k_=>((fun _=>True)) k_∧¬ ((fun k_=>some k_=(fY:Value).ownBlock)) k_) (.slice (some ⟨sQ,0,none⟩) bC.length pK) bC from (by (with_reducible repeat (first|apply Kd.gK|apply Kd.alH|apply Kd.eW));exact Kd.iF ald.out (fun k_ hk=>⟨trivial,fun e_=>hk e_⟩)));obtain ⟨akl,agU,aau,P7,Qq,QV,abP,PX⟩:=Kd.I1 Vx.out [] (aY:Int) oD (by have h_:(aY:Int) < ((bC.length:Int):Int):=oD;first|exact h_|(have e_:=(Kd.alw ald.out).1;omega)|simpa using h_);obtain ⟨akW,rfl,ahn⟩:=P7;have wJ:=Kd.Wz PX oD (by have h_:(aY:Int) < ((bC.length:Int):Int):=oD;first|exact h_|(have e_:=(Kd.alw ald.out).1;omega)|simpa using h_) (seg:=[fY]) (j:=0) (show 1≤1 from by decide) (x':=t105) (Kd.rJ (Kd.alq (Kd.vq rfl (Kd.alq (ok':=fun k_=>((fun _=>True)) k_∧k_ ≠ sQ) (Kd.mV (cO.out) (Kd.lq ald.out) (by decide)) (fun k_ hk=>⟨trivial,fun e_=>(hk.2) (by rw [e_];rfl)⟩))) (fun _ h_=>Or.inr (h_)))) (fun _ hk=>hk) (fun k_ j7=>((Kd.alq (ok':=fun k_=>((fun _=>True)) k_∧k_ ≠ sQ) (Kd.mV (cO.out) (Kd.lq ald.out) (by decide)) (fun k_ hk=>⟨trivial,fun e_=>(hk.2) (by rw [e_];rfl)⟩))).1 k_ j7.symm);have ab6:=Qq 0 _ rfl;(try simp only [show ((Kd.slice 2 (Kd.int .i64))).sz=1 from rfl,Nat.mul_one,Nat.add_zero] at ab6);have aa4:=QV 0;(try simp only [show ((Kd.slice 2 (Kd.int .i64))).sz=1 from rfl,Nat.mul_one,Nat.add_zero] at aa4);(try clear P7);clear aau Qq QV abP PX;(try simp only [show ((Kd.slice 2 (Kd.int .i64))).sz=1 from rfl,Nat.mul_one,Nat.add_zero] at wJ))|((with_reducible refine lF (t:=28) (p:=21) rfl ?_);refine lJ (t:=28) (p:=21) (v:=?ak4) (w1:=(alE.setCell ⟨sQ,(aY:Int).toNat,none⟩ (fY))) ?hg ?ho ?hn ?hr ?_;(case ho=>rfl);(case hg=>rfl);(case hn=>rfl);(case hr=>first|(go_simp;done)|(go_simp;rfl)|(obtain ⟨_,_,zf⟩:=Kd.eF (v:=fY) (au.out (by assumption));subst zf;(first|(go_simp;done)|(go_simp;rfl)))|(obtain ⟨_,_,zf⟩:=Kd.pF (v:=fY) (au.out (by assumption));subst zf;(first|(go_simp;done)|(go_simp;rfl))));intro pq hw;have hg:alE.grownBy pq (some sQ):=(by rw [hw];exact wJ.2);have ec:Kd.S (Kd.slice 2 (Kd.int .i64)) 28 pq w.heap.size (fun _=>True) (.slice (some ⟨sQ,0,none⟩) bC.length pK) mQ:=(by rw [hw,sA.out];exact wJ.1);clear wJ;have aE:=k0 (ec);have aH:=k0 ((by rw [hw];exact dJ (HB.out) HF.out:Below w.heap.size w pq));clear ald;clear HB;clear cO;have ald:=aE;have HB:=aH;clear aE aH;clear hg hw ec))
   go_roundg k1
   case measure=>have:=alj.out;omega
   case rel=>exact ⟨(mQ),(wrap64 (aY+1)),rs,H',⟨by have:=alj.out;omega⟩,⟨aS (ald.out)⟩,⟨bl⟩⟩
/-! ### F25: function 25 -/
def jz.f (k:Nat) (af:Int) (aa:List (List Int)):Option (Int × (List (List Int))):=(ij.f k aa).bind fun t104=>(some (af,t104))
theorem jz.mono:∀ a0 a1 k,aj (jz.f k a0 a1) (jz.f (k+1) a0 a1):=by
 intro a0 a1 k
 unfold jz.f
 repeat' first
  | (with_reducible first|exact ij.mono _ _|exact aj.refl _|exact aj.none _|refine aj.ite ?_ ?_|refine aj.bind ?_ (fun _=>?_))
  | exact ij.mono _ _|exact aj.none _|refine aj.ite ?_ ?_|refine aj.bind ?_ (fun _=>?_)
set_option maxHeartbeats 8000000 in
set_option maxRecDepth 100000 in
theorem jz.calls (k : Nat) (af : Int) (aq : Option Addr) (ak : Nat) (aa : List (List Int)) (r1 : Int) (r2 : List (List Int)) (w : World) (aly : Kd.C (Kd.slice 2 (Kd.int .i64)) w aq aa.length aa) (ck : aa.length ≤ ak) (h : jz.f k af aa = some (r1, r2)) :
  Calls Try.prog 25 #[.agg #[.int .i64 af,.slice aq aa.length ak]] w fun e w'=>∃ Tq:Value,e=.returned (.agg #[.int .i64 r1,Tq])∧Kd.S (Kd.slice 2 (Kd.int .i64)) 28 w' w.heap.size (fun _=>True) Tq r2∧Below w.heap.size w w':=by
 have RQ:=Try.underlying24
 have j9:=Try.underlying31
 have bZ:=k0 aly
 have cD:=k0 ck
 clear aly ck
 have HB:=k0 (Below.refl w.heap.size w)
 have H:((ij.f k aa).bind fun t104=>(some (af,t104)))=some (r1,r2):=h
 clear h
 replace H:=Option.bind_eq_some_iff.mp H
 obtain ⟨t104,lW,H⟩:=H
 replace H:(some (af,t104))=some (r1,r2):=H
 have A2:=k0 lW
 clear lW
 simp only [Option.some.injEq,Prod.mk.injEq] at H
 obtain ⟨rfl,rfl⟩:=H
 go_enter Try.func25,Try.ntmps25
 go_wp2_with (first|((with_reducible refine cj (N:=1) rfl ?_);refine dK ?hg (N:=1) ?hd (cs:=#[.int .i64 af,.slice aq aa.length ak]) (t:=24) ?hr ?_;(case hd=>rfl);(case hg=>rfl);(case hr=>first|(go_simp;done)|(go_simp;rfl));intro ai hg w3 aJ hb;have ag:=k0 (aJ);have b8:=k0 ((by rw [hg];exact (alk bl):w.heap.size≤ai));have eB:=b8;replace HB:=k0 (aI bl hb);clear hb aJ hg)|((with_reducible refine cj (N:=2) rfl ?_);refine dK ?hg (N:=2) ?hd (cs:=#[.int .i64 0,.slice none 0 0]) (t:=31) ?hr ?_;(case hd=>rfl);(case hg=>rfl);(case hr=>first|(go_simp;done)|(go_simp;rfl));intro fM hg w4 aJ hb;have jy:=k0 (aJ);have uZ:=k0 ((by rw [hg];exact (alk bl):w.heap.size≤fM));have EU:=uZ;replace HB:=k0 (aI bl hb);have vk:=k0 ((by rw [hg];exact Nat.ne_of_lt (cJ (g:=ai) (o:=sO af aq aa ak 24) bk):ai ≠ fM));have vo:=k0 ((by rw [hg];exact Nat.ne_of_gt (cJ (g:=ai) (o:=sO af aq aa ak 24) bk):fM ≠ ai));replace ag:=k0 (alm (g:=ai) (o:=sO af aq aa ak 24) bk hb);clear hb aJ hg)|((with_reducible refine cj (N:=3) rfl ?_);refine dK ?hg (N:=3) ?hd (cs:=#[.int .i64 0,.slice none 0 0]) (t:=31) ?hr ?_;(case hd=>rfl);(case hg=>rfl);(case hr=>first|(go_simp;done)|(go_simp;rfl));intro l8 hg w5 aJ hb;have aE:=k0 (alm (g:=ai) (o:=sO af aq aa ak 24) bk hb);have aH:=k0 (alm (g:=fM) (o:=.cells #[.int .i64 0,.slice none 0 0] 31 (0,0)) bk hb);have aK:=k0 (aI bl hb);have a_:=k0 (aJ);have alp:=k0 ((by rw [hg];exact (alk bl):w.heap.size≤l8));have bw:=k0 ((by rw [hg];exact (alk bl):w.heap.size≤l8));have alx:=k0 ((by rw [hg];exact Nat.ne_of_lt (cJ (g:=ai) (o:=sO af aq aa ak 24) bk):ai ≠ l8));have cL:=k0 ((by rw [hg];exact Nat.ne_of_gt (cJ (g:=ai) (o:=sO af aq aa ak 24) bk):l8 ≠ ai));have dL:=k0 ((by rw [hg];exact Nat.ne_of_lt (cJ (g:=fM) (o:=.cells #[.int .i64 0,.slice none 0 0] 31 (0,0)) bk):fM ≠ l8));have eZ:=k0 ((by rw [hg];exact Nat.ne_of_gt (cJ (g:=fM) (o:=.cells #[.int .i64 0,.slice none 0 0] 31 (0,0)) bk):l8 ≠ fM));clear ag;clear jy;clear HB;have ag:=aE;have jy:=aH;have HB:=aK;have qL:=a_;have U1:=alp;have US:=bw;have E_:=alx;have IP:=cL;have Fa:=dL;have NV:=eZ;clear aE aH aK a_ alp bw alx cL dL eZ;clear hb aJ hg;have ajb:=vk.out;have ajK:=vo.out;have ajh:=E_.out;have ajQ:=IP.out;have vK:w5.cell? ⟨ai,0,none⟩=some (.int .i64 af):=(av ag.out 0).trans rfl;have vL:w5.cell? ⟨ai,1,none⟩=some (.slice aq aa.length ak):=(av ag.out 1).trans rfl;have vN:=aD ag.out 0;have vO:=aD ag.out 1;have abJ:=NV.out;have abN:=Fa.out;have rW:w5.cell? ⟨l8,0,none⟩=some (.int .i64 0):=(av qL.out 0).trans rfl;have rX:w5.cell? ⟨l8,1,none⟩=some (.slice none 0 0):=(av qL.out 1).trans rfl;have r3:=aD qL.out 0;have r4:=aD qL.out 1)|((with_reducible refine dx (f:=83) rfl ?_);refine dy (some 9) rfl rfl Try.func83 (by kernel_rfl) rfl #[.slice aq aa.length ak] rfl gm ?_;(with_reducible refine (ij.calls k _ _ aa t104 _ ?aT ?aU A2.out).mono ?_);(case aT=>exact Kd.bK bZ.out bl);(case aU=>exact cD.out);rintro e alE ⟨v105,rfl,aM,hb⟩;refine ⟨_,rfl,?_⟩;have iO:=k0 (Kd.oR aM (alk bl));replace ag:=k0 (alm (g:=ai) (o:=sO af aq aa ak 24) (by (with_reducible repeat (first|refine eg ?_ _|refine cw ?_|refine dV ?_ _));refine fW ?_ E_.out _;exact bk) hb);replace jy:=k0 (alm (g:=fM) (o:=.cells #[.int .i64 0,.slice none 0 0] 31 (0,0)) (by (with_reducible repeat (first|refine eg ?_ _|refine cw ?_|refine dV ?_ _));refine fW ?_ Fa.out _;exact bk) hb);replace qL:=k0 (alm (g:=l8) (o:=.cells #[.int .i64 af,.slice none 0 0] 31 (0,0)) (by (with_reducible repeat (first|refine eg ?_ _|refine cw ?_|refine dV ?_ _));refine nH (cs:=#[.int .i64 0,.slice none 0 0]) ?_ 0 _ rfl;exact bk) hb);replace HB:=k0 (aI bl hb);(try clear hb);(try clear aM);obtain ⟨ko,g_,yC⟩:=Kd.pF iO.out;subst yC;have aaF:alE.cell? ⟨l8,0,none⟩=some (.int .i64 af):=(av qL.out 0).trans rfl;have aaG:alE.cell? ⟨l8,1,none⟩=some (.slice none 0 0):=(av qL.out 1).trans rfl;have aba:=aD qL.out 0;have abb:=aD qL.out 1;have xj:alE.cell? ⟨fM,0,none⟩=some (.int .i64 0):=(av jy.out 0).trans rfl;have xk:alE.cell? ⟨fM,1,none⟩=some (.slice none 0 0):=(av jy.out 1).trans rfl;have xq:=aD jy.out 0;have xu:=aD jy.out 1))
 refine bodyPost_ret (results_cell_row rfl _ _ fM 31 #[.int .i64 af,.slice ko t104.length g_] (0,0) _ rfl (by (with_reducible repeat (first|refine eg ?_ _|refine cw ?_|refine dV ?_ _));refine nH (cs:=#[.int .i64 af,.slice none 0 0]) ?_ 1 _ rfl;(with_reducible repeat (first|refine eg ?_ _|refine cw ?_|refine dV ?_ _));refine nH (cs:=#[.int .i64 0,.slice none 0 0]) ?_ 0 _ rfl;(with_reducible repeat (first|refine eg ?_ _|refine cw ?_|refine dV ?_ _));refine fW ?_ Fa.out _;exact bk) Try.underlying31 rfl (by kernel_rfl)) rfl ?_
 exact ⟨_,by first|rfl|(simp [bz,bA]<;>rfl)|(simp [*,bz,bA]<;>rfl),by (with_reducible repeat (first|apply Kd.gK|apply Kd.alH|apply Kd.eW));exact Kd.iF (Kd.uk (p:=⟨fM,1,none⟩) (Kd.uk (p:=⟨fM,0,none⟩) (Kd.uk (p:=⟨l8,1,none⟩) (Kd.Ak (Kd.Ak iO.out qL.out (by decide)) jy.out (by decide)) (fun _ hk=>hk.1.2) (.slice ko t104.length g_)) (fun _ hk=>hk.2) (.int .i64 af)) (fun _ hk=>hk.2) (.slice ko t104.length g_)) (fun _ hk=>trivial),bl⟩
/-! ### F87: function 87 -/
def iq.l0 : Nat → List (List Int) → List (List Int) → Int → Option (Bool)
 | 0,_,_,_=>none
 | k+1,x0,x1,x5=>if x5 < (x0.length:Int) then (if 0≤x5 then (if x5 < (x1.length:Int) then ((fj.f k (ah x0 x5) (ah x1 x5)).bind fun t103=>(if t103=true then (iq.l0 k x0 x1 (wrap64 (x5+1))) else (some false))) else (none)) else (none)) else (some true)
def iq.f (k:Nat) (l0:List (List Int)) (l1:List (List Int)):Option (Bool):=if (l0.length:Int)=(l1.length:Int) then (iq.l0 k l0 l1 0) else (some false)
theorem iq.bU : ∀ k, (∀ y0 y1 y2, aj (iq.l0 k y0 y1 y2) (iq.l0 (k + 1) y0 y1 y2))
 | 0=>fun _ _ _ r h=>by simp [iq.l0] at h
 | k+1=>by
  have alg:=iq.bU k
  ·intro y0 y1 y2
   unfold iq.l0
   repeat' first
    | (with_reducible first|exact alg _ _ _|exact fj.mono _ _ _|exact aj.refl _|exact aj.none _|refine aj.ite ?_ ?_|refine aj.bind ?_ (fun _=>?_))
    | exact alg _ _ _|exact fj.mono _ _ _|exact aj.none _|refine aj.ite ?_ ?_|refine aj.bind ?_ (fun _=>?_)
theorem iq.mono:∀ a0 a1 k,aj (iq.f k a0 a1) (iq.f (k+1) a0 a1):=by
 intro a0 a1 k
 have alg:=iq.bU k
 unfold iq.f
 repeat' first
  | (with_reducible first|exact alg _ _ _|exact fj.mono _ _ _|exact aj.refl _|exact aj.none _|refine aj.ite ?_ ?_|refine aj.bind ?_ (fun _=>?_))
  | exact alg _ _ _|exact fj.mono _ _ _|exact aj.none _|refine aj.ite ?_ ?_|refine aj.bind ?_ (fun _=>?_)
set_option maxHeartbeats 8000000 in
set_option maxRecDepth 100000 in
theorem iq.calls (k : Nat) (A0 : Option Addr) (c0 : Nat) (l0 : List (List Int)) (A1 : Option Addr) (c1 : Nat) (l1 : List (List Int)) (r : Bool) (w : World) (cS : Kd.C (Kd.slice 2 (Kd.int .i64)) w A0 l0.length l0) (hc0 : l0.length ≤ c0) (c_ : Kd.C (Kd.slice 2 (Kd.int .i64)) w A1 l1.length l1) (eY : l1.length ≤ c1) (h : iq.f k l0 l1 = some r) :
  Calls Try.prog 87 #[.slice A0 l0.length c0,.slice A1 l1.length c1] w fun e w'=>e=.returned (.bool r)∧bI w w':=by
 have fe:=k0 cS
 have alR:=k0 hc0
 clear cS hc0
 have eP:=k0 c_
 have kT:=k0 eY
 clear c_ eY
 have H:(if (l0.length:Int)=(l1.length:Int) then (iq.l0 k l0 l1 0) else (some false))=some r:=h
 clear h
 by_cases c3:(l0.length:Int)=(l1.length:Int)
 case neg =>
  rw [if_neg c3] at H
  have gZ:((l0.length:Int) == (l1.length:Int))=false:=beq_eq_false_iff_ne.mpr c3
  have lD:((l0.length:Int) != (l1.length:Int))=true:=bne_iff_ne.mpr c3
  have wW:(l0.length == l1.length)=false:=by first|simpa using c3|(simp at c3 ⊢;omega)
  obtain rfl:=Option.some.inj H
  go_enter Try.func87,Try.ntmps87
  go_wp2
  repeat (go_quiet (fail);try go_wp2)
  go_ret
  exact ⟨by first|rfl|(simp;done)|(simp [*];done),by repeat (first|exact bI.refl _|apply bI.step)⟩
 rw [if_pos c3] at H
 have gZ:((l0.length:Int) == (l1.length:Int))=true:=beq_iff_eq.mpr c3
 have lD:((l0.length:Int) != (l1.length:Int))=false:=bne_eq_false_iff_eq.mpr c3
 have wW:(l0.length == l1.length)=true:=by first|simpa using c3|(simp at c3 ⊢;omega)
 clear c3
 have H':=k0 H
 clear H
 go_enter Try.func87,Try.ntmps87
 go_wp2
 repeat (go_quiet (fail);try go_wp2)
 go_loopg [5] k (fun kq v5 w'=>∃ (ali:Int),v5=.int .i64 ali∧au (iq.l0 kq l0 l1 ali=some r)∧au (kq≤k)∧bI w w')
 case atStart=>exact ⟨(0),rs,H',⟨Nat.le_refl _⟩,by repeat (first|exact bI.refl _|apply bI.step)⟩
 case round =>
  clear H'
  (try clear c3);(try clear gZ);(try clear lD);(try clear wW)
  obtain ⟨ali,rfl,HA,alj,⟨m1,rfl⟩⟩:=hrel
  cases gk with
  | zero=>exact absurd HA.out (by simp [iq.l0])
  | succ k1 =>
   have H:=HA.out
   clear HA
   simp only [iq.l0] at H
   by_cases c4:ali < (l0.length:Int)
   case neg =>
    rw [if_neg c4] at H
    have eD:decide (ali < (l0.length:Int))=false:=decide_eq_false c4
    clear c4
    obtain rfl:=Option.some.inj H
    go_wp2
    repeat (go_quiet (fail);try go_wp2)
    go_ret
    exact ⟨by first|rfl|(simp;done)|(simp [*];done),by repeat (first|exact bI.refl _|apply bI.step)⟩
   rw [if_pos c4] at H
   have eD:=decide_eq_true c4
   clear c4
   replace H:=iS H;obtain ⟨c5,H⟩:=H
   have alS:=decide_eq_true c5
   clear c5
   replace H:=iS H;obtain ⟨c6,H⟩:=H
   have gB:=decide_eq_true c6
   clear c6
   replace H:=Option.bind_eq_some_iff.mp H
   obtain ⟨t103,wu,H⟩:=H
   replace H:(if t103=true then (iq.l0 k1 l0 l1 (wrap64 (ali+1))) else (some false))=some r:=H
   have A7:=k0 wu
   clear wu
   by_cases c8:t103=true
   case neg =>
    replace c8:=Bool.eq_false_iff.mpr c8
    subst c8
    have H1:(some false)=some r:=by rw [if_neg (show ¬ (false=true) by decide)] at H;exact H
    clear H
    have H:=H1
    clear H1
    obtain rfl:=Option.some.inj H
    have eT:0≤(ali:Int):=oD
    have eU:ali < (l0.length:Int):=oD
    obtain ⟨qV,anm,Cj,e101,pR,amq,sZ⟩:=cX fe.out ali eT eU
    cases e101
    have sy:=k0 sZ
    have su:=k0 amq
    clear sZ amq
    replace eT:=eq_true eT
    replace eU:=eq_true eU
    have dX:0≤(ali:Int):=oD
    have dY:ali < (l1.length:Int):=oD
    obtain ⟨pG,uT,vu,e102,iw,jm,jk⟩:=cX eP.out ali dX dY
    cases e102
    have jc:=k0 jk
    have pE:=k0 jm
    clear jk jm
    replace dX:=eq_true dX
    replace dY:=eq_true dY
    go_wp2_with (first|(go_at_call 18;(with_reducible refine (fj.calls k1 _ _ (ah l0 ali) _ _ (ah l1 ali) false _ ?aT ?aU ?cy ?cI A7.out).mono ?_);(case aT=>exact aC sy.out);(case aU=>exact su.out);(case cy=>exact aC jc.out);(case cI=>exact pE.out);rintro e w' ⟨rfl,⟨nd,rfl⟩⟩;(try first|exact ⟨rfl,_,World.drewN_drewN _ _ _⟩|exact ⟨rfl,_,Eq.trans (World.drewN_drewN _ _ _) (congrArg (World.drewN _) (Nat.add_assoc _ _ _))⟩)))
    repeat (go_quiet (first|(go_at_call 18;(with_reducible refine (fj.calls k1 _ _ (ah l0 ali) _ _ (ah l1 ali) false _ ?aT ?aU ?cy ?cI A7.out).mono ?_);(case aT=>exact aC sy.out);(case aU=>exact su.out);(case cy=>exact aC jc.out);(case cI=>exact pE.out);rintro e w' ⟨rfl,⟨nd,rfl⟩⟩;(try first|exact ⟨rfl,_,World.drewN_drewN _ _ _⟩|exact ⟨rfl,_,Eq.trans (World.drewN_drewN _ _ _) (congrArg (World.drewN _) (Nat.add_assoc _ _ _))⟩)));try go_wp2_with (first|(go_at_call 18;(with_reducible refine (fj.calls k1 _ _ (ah l0 ali) _ _ (ah l1 ali) false _ ?aT ?aU ?cy ?cI A7.out).mono ?_);(case aT=>exact aC sy.out);(case aU=>exact su.out);(case cy=>exact aC jc.out);(case cI=>exact pE.out);rintro e w' ⟨rfl,⟨nd,rfl⟩⟩;(try first|exact ⟨rfl,_,World.drewN_drewN _ _ _⟩|exact ⟨rfl,_,Eq.trans (World.drewN_drewN _ _ _) (congrArg (World.drewN _) (Nat.add_assoc _ _ _))⟩))))
    go_ret
    exact ⟨by first|rfl|(simp;done)|(simp [*];done),by repeat (first|exact bI.refl _|apply bI.step)⟩
   subst c8
   have H1:(iq.l0 k1 l0 l1 (wrap64 (ali+1)))=some r:=by rw [if_pos rfl] at H;exact H
   clear H
   have H:=H1
   clear H1
   have H':=k0 H
   clear H
   have eT:0≤(ali:Int):=oD
   have eU:ali < (l0.length:Int):=oD
   obtain ⟨qV,anm,Cj,e101,pR,amq,sZ⟩:=cX fe.out ali eT eU
   cases e101
   have sy:=k0 sZ
   have su:=k0 amq
   clear sZ amq
   replace eT:=eq_true eT
   replace eU:=eq_true eU
   have dX:0≤(ali:Int):=oD
   have dY:ali < (l1.length:Int):=oD
   obtain ⟨pG,uT,vu,e102,iw,jm,jk⟩:=cX eP.out ali dX dY
   cases e102
   have jc:=k0 jk
   have pE:=k0 jm
   clear jk jm
   replace dX:=eq_true dX
   replace dY:=eq_true dY
   go_wp2_with (first|(go_at_call 18;(with_reducible refine (fj.calls k1 _ _ (ah l0 ali) _ _ (ah l1 ali) true _ ?aT ?aU ?cy ?cI A7.out).mono ?_);(case aT=>exact aC sy.out);(case aU=>exact su.out);(case cy=>exact aC jc.out);(case cI=>exact pE.out);rintro e w' ⟨rfl,⟨nd,rfl⟩⟩;(try first|exact ⟨rfl,_,World.drewN_drewN _ _ _⟩|exact ⟨rfl,_,Eq.trans (World.drewN_drewN _ _ _) (congrArg (World.drewN _) (Nat.add_assoc _ _ _))⟩)))
   repeat (go_quiet (first|(go_at_call 18;(with_reducible refine (fj.calls k1 _ _ (ah l0 ali) _ _ (ah l1 ali) true _ ?aT ?aU ?cy ?cI A7.out).mono ?_);(case aT=>exact aC sy.out);(case aU=>exact su.out);(case cy=>exact aC jc.out);(case cI=>exact pE.out);rintro e w' ⟨rfl,⟨nd,rfl⟩⟩;(try first|exact ⟨rfl,_,World.drewN_drewN _ _ _⟩|exact ⟨rfl,_,Eq.trans (World.drewN_drewN _ _ _) (congrArg (World.drewN _) (Nat.add_assoc _ _ _))⟩)));try go_wp2_with (first|(go_at_call 18;(with_reducible refine (fj.calls k1 _ _ (ah l0 ali) _ _ (ah l1 ali) true _ ?aT ?aU ?cy ?cI A7.out).mono ?_);(case aT=>exact aC sy.out);(case aU=>exact su.out);(case cy=>exact aC jc.out);(case cI=>exact pE.out);rintro e w' ⟨rfl,⟨nd,rfl⟩⟩;(try first|exact ⟨rfl,_,World.drewN_drewN _ _ _⟩|exact ⟨rfl,_,Eq.trans (World.drewN_drewN _ _ _) (congrArg (World.drewN _) (Nat.add_assoc _ _ _))⟩))))
   go_roundg k1
   case measure=>have:=alj.out;omega
   case rel=>exact ⟨(wrap64 (ali+1)),rs,H',⟨by have:=alj.out;omega⟩,by repeat (first|exact bI.refl _|apply bI.step)⟩
end Go.Proofs.Ytoebojnhchocaaa.D
/- Set with little white space, by a program. -/
