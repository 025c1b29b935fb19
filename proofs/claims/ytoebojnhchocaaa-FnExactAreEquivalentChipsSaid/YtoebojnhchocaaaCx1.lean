/- The functions that one law reaches, each as a Lean function, and that Go's call comes to what it says. Condition of each: that the Lean function answers (is not none). -/
import Derived.Test.YtoebojnhchocaaaCx0
namespace Go.Proofs.Ytoebojnhchocaaa.C
open Go.RowKit Go.Proofs.bI.en Go.Proofs.bI.je Go.Proofs.bI.jC
attribute [local go_sem] max2_int min2_int max_two min_two max_three min_three max_four min_four   -- for this text's walks alone
set_option linter.unusedVariables false
set_option linter.unusedSimpArgs false
/-! ### F18: function 18 -/
def dP.l0 : Nat → List Int → List Int → Int → Option (Bool)
 | 0,_,_,_=>none
 | k+1,x0,x1,x5=>if x5 < (x0.length:Int) then (if 0≤x5 then (if x5 < (x1.length:Int) then (if (rd x0 x5)=(rd x1 x5) then (dP.l0 k x0 x1 (wrap64 (x5+1))) else (some false)) else (none)) else (none)) else (some true)
def dP.f (k:Nat) (l0:List Int) (l1:List Int):Option (Bool):=if (l0.length:Int)=(l1.length:Int) then (dP.l0 k l0 l1 0) else (some false)
theorem dP.b8 : ∀ k, (∀ y0 y1 y2, aj (dP.l0 k y0 y1 y2) (dP.l0 (k + 1) y0 y1 y2))
 | 0=>fun _ _ _ r h=>by simp [dP.l0] at h
 | k+1=>by
  have akk:=dP.b8 k
  ·intro y0 y1 y2
   unfold dP.l0
   repeat' first
    | (with_reducible first|exact akk _ _ _|exact aj.refl _|exact aj.none _|refine aj.ite ?_ ?_|refine aj.bind ?_ (fun _=>?_))
    | exact akk _ _ _|exact aj.none _|refine aj.ite ?_ ?_|refine aj.bind ?_ (fun _=>?_)
theorem dP.mono:∀ a0 a1 k,aj (dP.f k a0 a1) (dP.f (k+1) a0 a1):=by
 intro a0 a1 k
 have akk:=dP.b8 k
 unfold dP.f
 repeat' first
  | (with_reducible first|exact akk _ _ _|exact aj.refl _|exact aj.none _|refine aj.ite ?_ ?_|refine aj.bind ?_ (fun _=>?_))
  | exact akk _ _ _|exact aj.none _|refine aj.ite ?_ ?_|refine aj.bind ?_ (fun _=>?_)
set_option maxHeartbeats 8000000 in
set_option maxRecDepth 100000 in
theorem dP.calls (k : Nat) (A0 : Option Addr) (c0 : Nat) (l0 : List Int) (A1 : Option Addr) (c1 : Nat) (l1 : List Int) (r : Bool) (w : World) (dB : Kd.C (Kd.int .i64) w A0 l0.length l0) (hc0 : l0.length ≤ c0) (cQ : Kd.C (Kd.int .i64) w A1 l1.length l1) (ef : l1.length ≤ c1) (h : dP.f k l0 l1 = some r) :
  Calls Try.prog 18 #[.slice A0 l0.length c0,.slice A1 l1.length c1] w fun e w'=>e=.returned (.bool r)∧bP w w':=by
 have fj:=k0 dB
 have ki:=k0 hc0
 clear dB hc0
 have ek:=k0 cQ
 have jZ:=k0 ef
 clear cQ ef
 have H:(if (l0.length:Int)=(l1.length:Int) then (dP.l0 k l0 l1 0) else (some false))=some r:=h
 clear h
 by_cases c3:(l0.length:Int)=(l1.length:Int)
 case neg =>
  rw [if_neg c3] at H
  have iE:((l0.length:Int) == (l1.length:Int))=false:=beq_eq_false_iff_ne.mpr c3
  have k7:((l0.length:Int) != (l1.length:Int))=true:=bne_iff_ne.mpr c3
  have su:(l0.length == l1.length)=false:=by first|simpa using c3|(simp at c3 ⊢;omega)
  obtain rfl:=Option.some.inj H
  go_enter Try.func18,Try.ntmps18
  go_wp2
  repeat (go_quiet (fail);try go_wp2)
  go_ret
  exact ⟨by first|rfl|(simp;done)|(simp [*];done),by repeat (first|exact bP.refl _|apply bP.step)⟩
 rw [if_pos c3] at H
 have iE:((l0.length:Int) == (l1.length:Int))=true:=beq_iff_eq.mpr c3
 have k7:((l0.length:Int) != (l1.length:Int))=false:=bne_eq_false_iff_eq.mpr c3
 have su:(l0.length == l1.length)=true:=by first|simpa using c3|(simp at c3 ⊢;omega)
 clear c3
 have H':=k0 H
 clear H
 go_enter Try.func18,Try.ntmps18
 go_wp2
 repeat (go_quiet (fail);try go_wp2)
 go_loopg [5] k (fun kq v5 w'=>∃ (aM:Int),v5=.int .i64 aM∧au (dP.l0 kq l0 l1 aM=some r)∧au (kq≤k)∧bP w w')
 case atStart=>exact ⟨(0),rs,H',⟨Nat.le_refl _⟩,by repeat (first|exact bP.refl _|apply bP.step)⟩
 case round =>
  clear H'
  (try clear c3);(try clear iE);(try clear k7);(try clear su)
  obtain ⟨aM,rfl,HA,akl,⟨m1,rfl⟩⟩:=hrel
  cases gk with
  | zero=>exact absurd HA.out (by simp [dP.l0])
  | succ k1 =>
   have H:=HA.out
   clear HA
   simp only [dP.l0] at H
   by_cases c4:aM < (l0.length:Int)
   case neg =>
    rw [if_neg c4] at H
    have eA:decide (aM < (l0.length:Int))=false:=decide_eq_false c4
    clear c4
    obtain rfl:=Option.some.inj H
    go_wp2
    repeat (go_quiet (fail);try go_wp2)
    go_ret
    exact ⟨by first|rfl|(simp;done)|(simp [*];done),by repeat (first|exact bP.refl _|apply bP.step)⟩
   rw [if_pos c4] at H
   have eA:=decide_eq_true c4
   clear c4
   replace H:=iS H;obtain ⟨c5,H⟩:=H
   have iW:=decide_eq_true c5
   clear c5
   replace H:=iS H;obtain ⟨c6,H⟩:=H
   have akJ:=decide_eq_true c6
   clear c6
   by_cases c7:(rd l0 aM)=(rd l1 aM)
   case neg =>
    rw [if_neg c7] at H
    have gK:((rd l0 aM) == (rd l1 aM))=false:=beq_eq_false_iff_ne.mpr c7
    have wJ:((rd l0 aM) != (rd l1 aM))=true:=bne_iff_ne.mpr c7
    obtain rfl:=Option.some.inj H
    have eU:0≤(aM:Int):=oD
    have eV:aM < (l0.length:Int):=oD
    obtain ⟨qM,e101,pH⟩:=Kd.bH fj.out aM eU eV
    cases e101
    replace eU:=eq_true eU
    replace eV:=eq_true eV
    have dr:0≤(aM:Int):=oD
    have dw:aM < (l1.length:Int):=oD
    obtain ⟨oa,e102,akN⟩:=Kd.bH ek.out aM dr dw
    cases e102
    replace dr:=eq_true dr
    replace dw:=eq_true dw
    go_wp2
    repeat (go_quiet (fail);try go_wp2)
    go_ret
    exact ⟨by first|rfl|(simp;done)|(simp [*];done),by repeat (first|exact bP.refl _|apply bP.step)⟩
   rw [if_pos c7] at H
   have gK:((rd l0 aM) == (rd l1 aM))=true:=beq_iff_eq.mpr c7
   have wJ:((rd l0 aM) != (rd l1 aM))=false:=bne_eq_false_iff_eq.mpr c7
   clear c7
   have H':=k0 H
   clear H
   have eU:0≤(aM:Int):=oD
   have eV:aM < (l0.length:Int):=oD
   obtain ⟨qM,e101,pH⟩:=Kd.bH fj.out aM eU eV
   cases e101
   replace eU:=eq_true eU
   replace eV:=eq_true eV
   have dr:0≤(aM:Int):=oD
   have dw:aM < (l1.length:Int):=oD
   obtain ⟨oa,e102,akN⟩:=Kd.bH ek.out aM dr dw
   cases e102
   replace dr:=eq_true dr
   replace dw:=eq_true dw
   go_wp2
   repeat (go_quiet (fail);try go_wp2)
   go_roundg k1
   case measure=>have:=akl.out;omega
   case rel=>exact ⟨(wrap64 (aM+1)),rs,H',⟨by have:=akl.out;omega⟩,by repeat (first|exact bP.refl _|apply bP.step)⟩
/-! ### F156: function 156 -/
def xL.f (l0:List Int) (a1:Int):Option (Int):=if (wrap64 (a1 - (l0.length:Int))) < 0 then (some (-1)) else (some (wrap64 (a1 - (l0.length:Int))))
set_option maxHeartbeats 8000000 in
set_option maxRecDepth 100000 in
theorem xL.calls (A0 : Option Addr) (c0 : Nat) (l0 : List Int) (a1 : Int) (r : Int) (w : World) (dB : Kd.C (Kd.int .i64) w A0 l0.length l0) (hc0 : l0.length ≤ c0) (h : xL.f l0 a1 = some r) :
  Calls Try.prog 156 #[.slice A0 l0.length c0,.int .i64 a1] w fun e w'=>e=.returned (.int .i64 r)∧bP w w':=by
 have fj:=k0 dB
 have ki:=k0 hc0
 clear dB hc0
 have H:(if (wrap64 (a1 - (l0.length:Int))) < 0 then (some (-1)) else (some (wrap64 (a1 - (l0.length:Int)))))=some r:=h
 clear h
 by_cases c3:(wrap64 (a1 - (l0.length:Int))) < 0
 case neg =>
  rw [if_neg c3] at H
  have iE:decide ((wrap64 (a1 - (l0.length:Int))) < 0)=false:=decide_eq_false c3
  clear c3
  obtain rfl:=Option.some.inj H
  go_enter Try.func156,Try.ntmps156
  go_wp2
  go_ret
  exact ⟨by first|rfl|(simp;done)|(simp [*];done),by repeat (first|exact bP.refl _|apply bP.step)⟩
 rw [if_pos c3] at H
 have iE:=decide_eq_true c3
 clear c3
 obtain rfl:=Option.some.inj H
 go_enter Try.func156,Try.ntmps156
 go_wp2
 go_ret
 exact ⟨by first|rfl|(simp;done)|(simp [*];done),by repeat (first|exact bP.refl _|apply bP.step)⟩
/-! ### F79: function 79 -/
def iz.l0 : Nat → List (List Int) → Int → Int → Option (Int)
 | 0,_,_,_=>none
 | k+1,x0,x1,x5=>if x5 < (x0.length:Int) then (if 0≤x5 then ((xL.f (ah x0 x5) x1).bind fun t102=>(if t102 < 0 then (some (-1)) else (iz.l0 k x0 t102 (wrap64 (x5+1))))) else (none)) else (some x1)
def iz.f (k:Nat) (l0:List (List Int)) (a1:Int):Option (Int):=if (wrap64 (a1 - (l0.length:Int))) < 0 then (some (-1)) else (iz.l0 k l0 (wrap64 (a1 - (l0.length:Int))) 0)
theorem iz.b8 : ∀ k, (∀ y0 y1 y2, aj (iz.l0 k y0 y1 y2) (iz.l0 (k + 1) y0 y1 y2))
 | 0=>fun _ _ _ r h=>by simp [iz.l0] at h
 | k+1=>by
  have akk:=iz.b8 k
  ·intro y0 y1 y2
   unfold iz.l0
   repeat' first
    | (with_reducible first|exact akk _ _ _|exact aj.refl _|exact aj.none _|refine aj.ite ?_ ?_|refine aj.bind ?_ (fun _=>?_))
    | exact akk _ _ _|exact aj.none _|refine aj.ite ?_ ?_|refine aj.bind ?_ (fun _=>?_)
theorem iz.mono:∀ a0 a1 k,aj (iz.f k a0 a1) (iz.f (k+1) a0 a1):=by
 intro a0 a1 k
 have akk:=iz.b8 k
 unfold iz.f
 repeat' first
  | (with_reducible first|exact akk _ _ _|exact aj.refl _|exact aj.none _|refine aj.ite ?_ ?_|refine aj.bind ?_ (fun _=>?_))
  | exact akk _ _ _|exact aj.none _|refine aj.ite ?_ ?_|refine aj.bind ?_ (fun _=>?_)
set_option maxHeartbeats 8000000 in
set_option maxRecDepth 100000 in
theorem iz.calls (k : Nat) (A0 : Option Addr) (c0 : Nat) (l0 : List (List Int)) (a1 : Int) (r : Int) (w : World) (dB : Kd.C (Kd.slice 2 (Kd.int .i64)) w A0 l0.length l0) (hc0 : l0.length ≤ c0) (h : iz.f k l0 a1 = some r) :
  Calls Try.prog 79 #[.slice A0 l0.length c0,.int .i64 a1] w fun e w'=>e=.returned (.int .i64 r)∧bP w w':=by
 have fj:=k0 dB
 have ki:=k0 hc0
 clear dB hc0
 have H:(if (wrap64 (a1 - (l0.length:Int))) < 0 then (some (-1)) else (iz.l0 k l0 (wrap64 (a1 - (l0.length:Int))) 0))=some r:=h
 clear h
 by_cases c3:(wrap64 (a1 - (l0.length:Int))) < 0
 case neg =>
  rw [if_neg c3] at H
  have iE:decide ((wrap64 (a1 - (l0.length:Int))) < 0)=false:=decide_eq_false c3
  clear c3
  have H':=k0 H
  clear H
  go_enter Try.func79,Try.ntmps79
  go_wp2
  go_loopg [1,5] k (fun kq v1 v5 w'=>∃ (zv:Int) (aM:Int),v1=.int .i64 zv∧v5=.int .i64 aM∧au (iz.l0 kq l0 zv aM=some r)∧au (kq≤k)∧bP w w')
  case atStart=>exact ⟨(wrap64 (a1 - (l0.length:Int))),(0),rs,rs,H',⟨Nat.le_refl _⟩,by repeat (first|exact bP.refl _|apply bP.step)⟩
  case round =>
   clear H'
   (try clear c3);(try clear iE)
   obtain ⟨zv,aM,rfl,rfl,HA,akl,⟨m1,rfl⟩⟩:=hrel
   cases gk with
   | zero=>exact absurd HA.out (by simp [iz.l0])
   | succ k1 =>
    have H:=HA.out
    clear HA
    simp only [iz.l0] at H
    by_cases c4:aM < (l0.length:Int)
    case neg =>
     rw [if_neg c4] at H
     have eA:decide (aM < (l0.length:Int))=false:=decide_eq_false c4
     clear c4
     obtain rfl:=Option.some.inj H
     go_wp2
     go_ret
     exact ⟨by first|rfl|(simp;done)|(simp [*];done),by repeat (first|exact bP.refl _|apply bP.step)⟩
    rw [if_pos c4] at H
    have eA:=decide_eq_true c4
    clear c4
    replace H:=iS H;obtain ⟨c5,H⟩:=H
    have iW:=decide_eq_true c5
    clear c5
    replace H:=Option.bind_eq_some_iff.mp H
    obtain ⟨t102,alz,H⟩:=H
    replace H:(if t102 < 0 then (some (-1)) else (iz.l0 k1 l0 t102 (wrap64 (aM+1))))=some r:=H
    have A6:=k0 alz
    clear alz
    by_cases c7:t102 < 0
    case neg =>
     rw [if_neg c7] at H
     have gK:decide (t102 < 0)=false:=decide_eq_false c7
     clear c7
     have H':=k0 H
     clear H
     have eU:0≤(aM:Int):=oD
     have eV:aM < (l0.length:Int):=oD
     obtain ⟨qM,al_,Bz,e101,pH,sV,alh⟩:=cW fj.out aM eU eV
     cases e101
     have r9:=k0 alh
     have r7:=k0 sV
     clear alh sV
     replace eU:=eq_true eU
     replace eV:=eq_true eV
     go_wp2_with (first|((with_reducible refine cZ (f:=156) rfl ?_);refine c_ (some 23) rfl rfl Try.func156 (by kernel_rfl) rfl #[.slice al_ (ah l0 aM).length Bz,.int .i64 zv] rfl gm ?_;(with_reducible refine (xL.calls _ _ (ah l0 aM) zv t102 _ ?akn ?aT A6.out).mono ?_);(case akn=>exact aC r9.out);(case aT=>exact r7.out);rintro e w' ⟨rfl,⟨nd,rfl⟩⟩;refine ⟨_,rfl,?_⟩))
     go_roundg k1
     case measure=>have:=akl.out;omega
     case rel=>exact ⟨(t102),(wrap64 (aM+1)),rs,rs,H',⟨by have:=akl.out;omega⟩,by repeat (first|exact bP.refl _|apply bP.step)⟩
    rw [if_pos c7] at H
    have gK:=decide_eq_true c7
    clear c7
    obtain rfl:=Option.some.inj H
    have eU:0≤(aM:Int):=oD
    have eV:aM < (l0.length:Int):=oD
    obtain ⟨qM,al_,Bz,e101,pH,sV,alh⟩:=cW fj.out aM eU eV
    cases e101
    have r9:=k0 alh
    have r7:=k0 sV
    clear alh sV
    replace eU:=eq_true eU
    replace eV:=eq_true eV
    go_wp2_with (first|((with_reducible refine cZ (f:=156) rfl ?_);refine c_ (some 23) rfl rfl Try.func156 (by kernel_rfl) rfl #[.slice al_ (ah l0 aM).length Bz,.int .i64 zv] rfl gm ?_;(with_reducible refine (xL.calls _ _ (ah l0 aM) zv t102 _ ?akn ?aT A6.out).mono ?_);(case akn=>exact aC r9.out);(case aT=>exact r7.out);rintro e w' ⟨rfl,⟨nd,rfl⟩⟩;refine ⟨_,rfl,?_⟩))
    go_ret
    exact ⟨by first|rfl|(simp;done)|(simp [*];done),by repeat (first|exact bP.refl _|apply bP.step)⟩
 rw [if_pos c3] at H
 have iE:=decide_eq_true c3
 clear c3
 obtain rfl:=Option.some.inj H
 go_enter Try.func79,Try.ntmps79
 go_wp2
 go_ret
 exact ⟨by first|rfl|(simp;done)|(simp [*];done),by repeat (first|exact bP.refl _|apply bP.step)⟩
/-! ### F23: function 23 -/
def oG.f (k:Nat) (af:Int) (aa:List (List Int)) (a1:Int):Option (Int):=(iz.f k aa a1).bind fun t102=>(if t102 < 0 then (some (-1)) else (some t102))
theorem oG.mono:∀ a0 a1 a2 k,aj (oG.f k a0 a1 a2) (oG.f (k+1) a0 a1 a2):=by
 intro a0 a1 a2 k
 unfold oG.f
 repeat' first
  | (with_reducible first|exact iz.mono _ _ _|exact aj.refl _|exact aj.none _|refine aj.ite ?_ ?_|refine aj.bind ?_ (fun _=>?_))
  | exact iz.mono _ _ _|exact aj.none _|refine aj.ite ?_ ?_|refine aj.bind ?_ (fun _=>?_)
set_option maxHeartbeats 8000000 in
set_option maxRecDepth 100000 in
theorem oG.calls (k : Nat) (af : Int) (aq : Option Addr) (ak : Nat) (aa : List (List Int)) (a1 : Int) (r : Int) (w : World) (akv : Kd.C (Kd.slice 2 (Kd.int .i64)) w aq aa.length aa) (akw : aa.length ≤ ak) (h : oG.f k af aa a1 = some r) :
  Calls Try.prog 23 #[.agg #[.int .i64 af,.slice aq aa.length ak],.int .i64 a1] w fun e w'=>e=.returned (.int .i64 r)∧Below w.heap.size w w':=by
 have QT:=Try.underlying24
 have bU:=k0 akv
 have cG:=k0 akw
 clear akv akw
 have HB:=k0 (Below.refl w.heap.size w)
 have H:((iz.f k aa a1).bind fun t102=>(if t102 < 0 then (some (-1)) else (some t102)))=some r:=h
 clear h
 replace H:=Option.bind_eq_some_iff.mp H
 obtain ⟨t102,pV,H⟩:=H
 replace H:(if t102 < 0 then (some (-1)) else (some t102))=some r:=H
 have A3:=k0 pV
 clear pV
 by_cases c4:t102 < 0
 case neg =>
  rw [if_neg c4] at H
  have eA:decide (t102 < 0)=false:=decide_eq_false c4
  clear c4
  obtain rfl:=Option.some.inj H
  go_enter Try.func23,Try.ntmps23
  go_wp2_with (first|((with_reducible refine cj (N:=2) rfl ?_);refine dJ ?hg (N:=2) ?hd (cs:=#[.int .i64 af,.slice aq aa.length ak]) (t:=24) ?hr ?_;(case hd=>rfl);(case hg=>rfl);(case hr=>first|(go_simp;done)|(go_simp;rfl));intro ai hg w7 aK hb;have ag:=k0 (aK);have aks:=k0 ((by rw [hg];exact (aU bl):w.heap.size≤ai));have ej:=aks;replace HB:=k0 (aI bl hb);clear hb aK hg;have yz:w7.cell? ⟨ai,0,none⟩=some (.int .i64 af):=(av ag.out 0).trans rfl;have yA:w7.cell? ⟨ai,1,none⟩=some (.slice aq aa.length ak):=(av ag.out 1).trans rfl;have yE:=aH ag.out 0;have yF:=aH ag.out 1)|((with_reducible refine cZ (f:=79) rfl ?_);refine c_ (some 8) rfl rfl Try.func79 (by kernel_rfl) rfl #[.slice aq aa.length ak,.int .i64 a1] rfl gm ?_;(with_reducible refine (iz.calls k _ _ aa a1 t102 _ ?akn ?aT A3.out).mono ?_);(case akn=>exact aC (Kd.bA bU.out HB.out));(case aT=>exact cG.out);rintro e w' ⟨rfl,⟨nd,rfl⟩⟩;refine ⟨_,rfl,?_⟩))
  go_ret
  exact ⟨by first|rfl|(simp [bq,bt]<;>rfl)|(simp [*,bq,bt]<;>rfl),bl⟩
 rw [if_pos c4] at H
 have eA:=decide_eq_true c4
 clear c4
 obtain rfl:=Option.some.inj H
 go_enter Try.func23,Try.ntmps23
 go_wp2_with (first|((with_reducible refine cj (N:=2) rfl ?_);refine dJ ?hg (N:=2) ?hd (cs:=#[.int .i64 af,.slice aq aa.length ak]) (t:=24) ?hr ?_;(case hd=>rfl);(case hg=>rfl);(case hr=>first|(go_simp;done)|(go_simp;rfl));intro ai hg w5 aK hb;have ag:=k0 (aK);have aks:=k0 ((by rw [hg];exact (aU bl):w.heap.size≤ai));have ej:=aks;replace HB:=k0 (aI bl hb);clear hb aK hg;have vz:w5.cell? ⟨ai,0,none⟩=some (.int .i64 af):=(av ag.out 0).trans rfl;have vA:w5.cell? ⟨ai,1,none⟩=some (.slice aq aa.length ak):=(av ag.out 1).trans rfl;have vE:=aH ag.out 0;have vF:=aH ag.out 1)|((with_reducible refine cZ (f:=79) rfl ?_);refine c_ (some 8) rfl rfl Try.func79 (by kernel_rfl) rfl #[.slice aq aa.length ak,.int .i64 a1] rfl gm ?_;(with_reducible refine (iz.calls k _ _ aa a1 t102 _ ?akn ?aT A3.out).mono ?_);(case akn=>exact aC (Kd.bA bU.out HB.out));(case aT=>exact cG.out);rintro e w' ⟨rfl,⟨nd,rfl⟩⟩;refine ⟨_,rfl,?_⟩))
 go_ret
 exact ⟨by first|rfl|(simp [bq,bt]<;>rfl)|(simp [*,bq,bt]<;>rfl),bl⟩
/-! ### F26: function 26 -/
def cv.l0 : Nat → List Int → List Int → Int → Option (List Int)
 | 0,_,_,_=>none
 | k+1,x0,x3,x4=>if x4 < (x0.length:Int) then (if 0≤x4 then (if x4 < (x3.length:Int) then (cv.l0 k x0 (x3.set (x4:Int).toNat (rd x0 x4)) (wrap64 (x4+1))) else (none)) else (none)) else (some x3)
def cv.f (k:Nat) (l0:List Int):Option (List Int):=if 0≤(l0.length:Int) then (if ((l0.length:Int):Int).toNat≤35184372088832 then (cv.l0 k l0 (List.replicate ((l0.length:Int):Int).toNat 0) 0) else (none)) else (none)
theorem cv.b8 : ∀ k, (∀ y0 y1 y2, aj (cv.l0 k y0 y1 y2) (cv.l0 (k + 1) y0 y1 y2))
 | 0=>fun _ _ _ r h=>by simp [cv.l0] at h
 | k+1=>by
  have akk:=cv.b8 k
  ·intro y0 y1 y2
   unfold cv.l0
   repeat' first
    | (with_reducible first|exact akk _ _ _|exact aj.refl _|exact aj.none _|refine aj.ite ?_ ?_|refine aj.bind ?_ (fun _=>?_))
    | exact akk _ _ _|exact aj.none _|refine aj.ite ?_ ?_|refine aj.bind ?_ (fun _=>?_)
theorem cv.mono:∀ a0 k,aj (cv.f k a0) (cv.f (k+1) a0):=by
 intro a0 k
 have akk:=cv.b8 k
 unfold cv.f
 repeat' first
  | (with_reducible first|exact akk _ _ _|exact aj.refl _|exact aj.none _|refine aj.ite ?_ ?_|refine aj.bind ?_ (fun _=>?_))
  | exact akk _ _ _|exact aj.none _|refine aj.ite ?_ ?_|refine aj.bind ?_ (fun _=>?_)
set_option maxHeartbeats 8000000 in
set_option maxRecDepth 100000 in
theorem cv.calls (k : Nat) (A0 : Option Addr) (c0 : Nat) (l0 : List Int) (r : List Int) (w : World) (dB : Kd.C (Kd.int .i64) w A0 l0.length l0) (hc0 : l0.length ≤ c0) (h : cv.f k l0 = some r) :
  Calls Try.prog 26 #[.slice A0 l0.length c0] w fun e w'=>∃ dK:Value,e=.returned (dK)∧Kd.R (Kd.int .i64) 2 w' w.heap.size (fun _=>True) dK r∧Below w.heap.size w w':=by
 have fj:=k0 dB
 have ki:=k0 hc0
 clear dB hc0
 have HB:=k0 (Below.refl w.heap.size w)
 have H:(if 0≤(l0.length:Int) then (if ((l0.length:Int):Int).toNat≤35184372088832 then (cv.l0 k l0 (List.replicate ((l0.length:Int):Int).toNat 0) 0) else (none)) else (none))=some r:=h
 clear h
 replace H:=iS H;obtain ⟨c2,H⟩:=H
 have BD:=eq_true c2
 have H8:=decide_eq_true c2
 clear c2
 replace H:=iS H;obtain ⟨c3,H⟩:=H
 have iE:=eq_true c3
 have k7:=decide_eq_true c3
 clear c3
 obtain ⟨jz,akD⟩:∃ y_:List Int,y_=(List.replicate ((l0.length:Int):Int).toNat 0):=⟨_,rfl⟩
 replace H:(cv.l0 k l0 jz 0)=some r:=by first|(rw [akD];with_reducible exact H)|(have ay:=(Option.bind_some _ _).symm.trans H;rw [akD];with_reducible exact ay)|(have ay:=(Option.bind_some _ _).symm.trans H;with_reducible exact ay)|with_reducible exact H|(rw [akD];exact H)|exact H
 have mg:=k0 akD
 clear akD
 have H':=k0 H
 clear H
 go_enter Try.func26,Try.ntmps26
 go_wp2_with (first|((with_reducible refine cj (N:=7) rfl ?_);refine Kd.xU (Kd.int .i64) _ 2 rfl (N:=7) rfl 28 _ _ rfl (l0.length:Int) rfl rfl Try.underlying28 (.int .i64 0) 8 lH rfl (by decide) (by omega) 0 (ok:=fun _=>True) (cA:=fun _=>True) rfl (fun _ hk=>hk) trivial oD (Nat.le_trans (Nat.mul_le_mul_right _ (oD:(l0.length:Int).toNat≤35184372088832)) (by omega)) (Below.refl _ _) (Nat.le_refl _) ?_;intro l6 w4 alj hb eB eC;clear eB eC;(first|rw [← mg.out] at alj|(simp only [Int.reduceToNat] at alj;rw [← mg.out] at alj));have kN:=k0 (Kd.dL alj (aU bl));replace HB:=k0 (aI bl hb);clear hb alj))
 go_loopg [4] k (fun kq v4 w'=>∃ (bD:List Int) (bg:Int),v4=.int .i64 bg∧au (cv.l0 kq l0 bD bg=some r)∧au (kq≤k)∧au (Kd.R (Kd.int .i64) 2 w' w.heap.size (fun _=>True) l6 bD)∧au (Below w.heap.size w w'))
 case atStart=>exact ⟨(jz),(0),rs,H',⟨Nat.le_refl _⟩,⟨aR (kN.out)⟩,⟨bl⟩⟩
 case round =>
  clear H'
  (try clear c2);(try clear BD);(try clear H8);(try clear c3);(try clear iE);(try clear k7)
  obtain ⟨bD,bg,rfl,HA,akl,az,HB⟩:=hrel
  cases gk with
  | zero=>exact absurd HA.out (by simp [cv.l0])
  | succ k1 =>
   have H:=HA.out
   clear HA
   simp only [cv.l0] at H
   by_cases c6:bg < (l0.length:Int)
   case neg =>
    rw [if_neg c6] at H
    have akJ:decide (bg < (l0.length:Int))=false:=decide_eq_false c6
    clear c6
    obtain rfl:=Option.some.inj H
    go_wp2
    go_ret
    exact ⟨_,by first|rfl|(simp [bq,bt]<;>rfl)|(simp [*,bq,bt]<;>rfl),by (with_reducible repeat (first|apply Kd.bN|apply Kd.bQ|apply Kd.bn));exact az.out,bl⟩
   rw [if_pos c6] at H
   have akJ:=decide_eq_true c6
   clear c6
   replace H:=iS H;obtain ⟨c7,H⟩:=H
   have gK:=decide_eq_true c7
   clear c7
   replace H:=iS H;obtain ⟨c8,H⟩:=H
   have iX:=decide_eq_true c8
   clear c8
   obtain ⟨jg,fy⟩:∃ y_:List Int,y_=(bD.set (bg:Int).toNat (rd l0 bg)):=⟨_,rfl⟩
   replace H:(cv.l0 k1 l0 jg (wrap64 (bg+1)))=some r:=by first|(rw [fy];with_reducible exact H)|(have ay:=(Option.bind_some _ _).symm.trans H;rw [fy];with_reducible exact ay)|(have ay:=(Option.bind_some _ _).symm.trans H;with_reducible exact ay)|with_reducible exact H|(rw [fy];exact H)|exact H
   have lN:=k0 fy
   clear fy
   have H':=k0 H
   clear H
   have cS:0≤(bg:Int):=oD
   have cT:bg < (l0.length:Int):=oD
   obtain ⟨ko,e104,cM⟩:=Kd.bH fj.out bg cS cT
   cases e104
   replace cM:=hbc HB cM
   replace cS:=eq_true cS
   replace cT:=eq_true cT
   have p9:0≤(bg:Int):=oD
   have q9:(bg:Int) < ((bD.length:Int):Int):=oD
   obtain ⟨yh,Im,ye,BW,IW,W4,Bd⟩:=Kd.akT az.out (by omega)
   (first|cases ye|(injection ye with bf dn dm;(first|subst bf|(injection bf with bf;subst bf));subst dm;clear dn))
   have GH:=k0 BW
   have TZ:=k0 Bd
   clear BW IW Bd
   obtain ⟨alU,JB⟩:=Kd.jD 0 az.out (bg:Int) p9 q9
   replace p9:=eq_true p9
   replace q9:=eq_true q9
   have G0:=Kd.kP az.out (bg:Int) (rd l0 bg)
   go_wp2_with (first|((with_reducible refine lf (t:=2) (p:=20) rfl ?_);refine lq (t:=2) (p:=20) (v:=?aj4) (w1:=(wr.setCell ⟨yh,(bg:Int).toNat,none⟩ (.int .i64 (rd l0 bg)))) ?hg ?ho ?hn ?hr ?_;(case ho=>rfl);(case hg=>rfl);(case hn=>rfl);(case hr=>first|(go_simp;done)|(go_simp;rfl));intro akC hw;have hg:wr.grownBy akC (some yh):=(by rw [hw];exact G0.2);have dZ:Kd.R (Kd.int .i64) 2 akC w.heap.size (fun _=>True) (.slice (some ⟨yh,0,none⟩) bD.length Im) jg:=(by rw [hw,lN.out];exact G0.1);clear G0;replace az:=k0 (dZ);replace HB:=k0 ((by rw [hw];exact dM (HB.out) GH.out:Below w.heap.size w akC));clear hg hw dZ))
   go_roundg k1
   case measure=>have:=akl.out;omega
   case rel=>exact ⟨(jg),(wrap64 (bg+1)),rs,H',⟨by have:=akl.out;omega⟩,⟨aR (az.out)⟩,⟨bl⟩⟩
/-! ### F83: function 83 -/
def iA.l0 : Nat → List (List Int) → List (List Int) → Int → Option ((List (List Int)))
 | 0,_,_,_=>none
 | k+1,x0,x3,x4=>if x4 < (x0.length:Int) then (if 0≤x4 then ((cv.f k (ah x0 x4)).bind fun t105=>(if x4 < (x3.length:Int) then (iA.l0 k x0 (x3.set (x4:Int).toNat t105) (wrap64 (x4+1))) else (none))) else (none)) else (some x3)
def iA.f (k:Nat) (l0:List (List Int)):Option ((List (List Int))):=if 0≤(l0.length:Int) then (if ((l0.length:Int):Int).toNat≤11728124029610 then (iA.l0 k l0 (List.replicate ((l0.length:Int):Int).toNat []) 0) else (none)) else (none)
theorem iA.b8 : ∀ k, (∀ y0 y1 y2, aj (iA.l0 k y0 y1 y2) (iA.l0 (k + 1) y0 y1 y2))
 | 0=>fun _ _ _ r h=>by simp [iA.l0] at h
 | k+1=>by
  have akk:=iA.b8 k
  ·intro y0 y1 y2
   unfold iA.l0
   repeat' first
    | (with_reducible first|exact akk _ _ _|exact cv.mono _ _|exact aj.refl _|exact aj.none _|refine aj.ite ?_ ?_|refine aj.bind ?_ (fun _=>?_))
    | exact akk _ _ _|exact cv.mono _ _|exact aj.none _|refine aj.ite ?_ ?_|refine aj.bind ?_ (fun _=>?_)
theorem iA.mono:∀ a0 k,aj (iA.f k a0) (iA.f (k+1) a0):=by
 intro a0 k
 have akk:=iA.b8 k
 unfold iA.f
 repeat' first
  | (with_reducible first|exact akk _ _ _|exact cv.mono _ _|exact aj.refl _|exact aj.none _|refine aj.ite ?_ ?_|refine aj.bind ?_ (fun _=>?_))
  | exact akk _ _ _|exact cv.mono _ _|exact aj.none _|refine aj.ite ?_ ?_|refine aj.bind ?_ (fun _=>?_)
set_option maxHeartbeats 8000000 in
set_option maxRecDepth 100000 in
theorem iA.calls (k : Nat) (A0 : Option Addr) (c0 : Nat) (l0 : List (List Int)) (r : List (List Int)) (w : World) (dB : Kd.C (Kd.slice 2 (Kd.int .i64)) w A0 l0.length l0) (hc0 : l0.length ≤ c0) (h : iA.f k l0 = some r) :
  Calls Try.prog 83 #[.slice A0 l0.length c0] w fun e w'=>∃ dK:Value,e=.returned (dK)∧Kd.S (Kd.slice 2 (Kd.int .i64)) 28 w' w.heap.size (fun _=>True) dK r∧Below w.heap.size w w':=by
 have fj:=k0 dB
 have ki:=k0 hc0
 clear dB hc0
 have HB:=k0 (Below.refl w.heap.size w)
 have H:(if 0≤(l0.length:Int) then (if ((l0.length:Int):Int).toNat≤11728124029610 then (iA.l0 k l0 (List.replicate ((l0.length:Int):Int).toNat []) 0) else (none)) else (none))=some r:=h
 clear h
 replace H:=iS H;obtain ⟨c2,H⟩:=H
 have BD:=eq_true c2
 have H8:=decide_eq_true c2
 clear c2
 replace H:=iS H;obtain ⟨c3,H⟩:=H
 have iE:=eq_true c3
 have k7:=decide_eq_true c3
 clear c3
 obtain ⟨jz,akD⟩:∃ y_:List (List Int),y_=(List.replicate ((l0.length:Int):Int).toNat []):=⟨_,rfl⟩
 replace H:(iA.l0 k l0 jz 0)=some r:=by first|(rw [akD];with_reducible exact H)|(have ay:=(Option.bind_some _ _).symm.trans H;rw [akD];with_reducible exact ay)|(have ay:=(Option.bind_some _ _).symm.trans H;with_reducible exact ay)|with_reducible exact H|(rw [akD];exact H)|exact H
 have mg:=k0 akD
 clear akD
 have H':=k0 H
 clear H
 go_enter Try.func83,Try.ntmps83
 go_wp2_with (first|((with_reducible refine cj (N:=7) rfl ?_);refine Kd.Vq (Kd.slice 2 (Kd.int .i64)) _ 28 rfl (N:=7) rfl 22 _ _ rfl (l0.length:Int) rfl rfl Try.underlying22 (.slice none 0 0) 24 xo rfl (by decide) (by omega) [] (ok:=fun _=>True) (cA:=fun _=>True) ⟨_,rfl,Kd.zQ _ _ _ _ _⟩ (fun _ hk=>hk) trivial oD (Nat.le_trans (Nat.mul_le_mul_right _ (oD:(l0.length:Int).toNat≤11728124029610)) (by omega)) (Below.refl _ _) (Nat.le_refl _) ?_;intro l6 w4 alj hb eB eC;clear eB eC;(first|rw [← mg.out] at alj|(simp only [Int.reduceToNat] at alj;rw [← mg.out] at alj));have kN:=k0 (Kd.ak0 alj (aU bl));replace HB:=k0 (aI bl hb);clear hb alj))
 go_loopg [4] k (fun kq v4 w'=>∃ (bD:List (List Int)) (bg:Int),v4=.int .i64 bg∧au (iA.l0 kq l0 bD bg=some r)∧au (kq≤k)∧au (Kd.S (Kd.slice 2 (Kd.int .i64)) 28 w' w.heap.size (fun _=>True) l6 bD)∧au (Below w.heap.size w w'))
 case atStart=>exact ⟨(jz),(0),rs,H',⟨Nat.le_refl _⟩,⟨aS (kN.out)⟩,⟨bl⟩⟩
 case round =>
  clear H'
  (try clear c2);(try clear BD);(try clear H8);(try clear c3);(try clear iE);(try clear k7)
  obtain ⟨bD,bg,rfl,HA,akl,az,HB⟩:=hrel
  cases gk with
  | zero=>exact absurd HA.out (by simp [iA.l0])
  | succ k1 =>
   have H:=HA.out
   clear HA
   simp only [iA.l0] at H
   by_cases c6:bg < (l0.length:Int)
   case neg =>
    rw [if_neg c6] at H
    have akJ:decide (bg < (l0.length:Int))=false:=decide_eq_false c6
    clear c6
    obtain rfl:=Option.some.inj H
    go_wp2
    go_ret
    exact ⟨_,by first|rfl|(simp [bq,bt]<;>rfl)|(simp [*,bq,bt]<;>rfl),by (with_reducible repeat (first|apply Kd.gI|apply Kd.gJ|apply Kd.eT));exact az.out,bl⟩
   rw [if_pos c6] at H
   have akJ:=decide_eq_true c6
   clear c6
   replace H:=iS H;obtain ⟨c7,H⟩:=H
   have gK:=decide_eq_true c7
   clear c7
   replace H:=Option.bind_eq_some_iff.mp H
   obtain ⟨t105,r3,H⟩:=H
   replace H:(if bg < (bD.length:Int) then (iA.l0 k1 l0 (bD.set (bg:Int).toNat t105) (wrap64 (bg+1))) else (none))=some r:=H
   have A8:=k0 r3
   clear r3
   replace H:=iS H;obtain ⟨c9,H⟩:=H
   have k8:=decide_eq_true c9
   clear c9
   obtain ⟨mO,akO⟩:∃ y_:List (List Int),y_=(bD.set (bg:Int).toNat t105):=⟨_,rfl⟩
   replace H:(iA.l0 k1 l0 mO (wrap64 (bg+1)))=some r:=by first|(rw [akO];with_reducible exact H)|(have ay:=(Option.bind_some _ _).symm.trans H;rw [akO];with_reducible exact ay)|(have ay:=(Option.bind_some _ _).symm.trans H;with_reducible exact ay)|with_reducible exact H|(rw [akO];exact H)|exact H
   have alf:=k0 akO
   clear akO
   have H':=k0 H
   clear H
   have cS:0≤(bg:Int):=oD
   have cT:bg < (l0.length:Int):=oD
   obtain ⟨ko,uG,uZ,e104,cM,lp,lg⟩:=cW fj.out bg cS cT
   cases e104
   replace cM:=hbc HB cM
   have rm:=k0 lg
   have uM:=k0 lp
   clear lg lp
   replace cS:=eq_true cS
   replace cT:=eq_true cT
   go_wp2_with (first|((with_reducible refine cZ (f:=26) rfl ?_);refine c_ (some 20) rfl rfl Try.func26 (by kernel_rfl) rfl #[.slice uG (ah l0 bg).length uZ] rfl gm ?_;(with_reducible refine (cv.calls k1 _ _ (ah l0 bg) t105 _ ?akn ?aT A8.out).mono ?_);(case akn=>exact aC (Kd.bA rm.out HB.out));(case aT=>exact uM.out);rintro e akC ⟨fY,rfl,ake,hb⟩;refine ⟨_,rfl,?_⟩;replace az:=k0 (Kd.g_ (aS az.out) (Kd.bW ake) hb);have cN:=k0 (Kd.dL ake (aU bl));replace HB:=k0 (aI bl hb);(try clear hb);(try clear ake);have pI:0≤(bg:Int):=oD;have pL:(bg:Int) < ((bD.length:Int):Int):=oD;obtain ⟨sG,pn,qa,BU,IU,am5,Bb⟩:=Kd.M7 az.out (by omega);(first|cases qa|(injection qa with bf dn dm;(first|subst bf|(injection bf with bf;subst bf));subst dm;clear dn));have GD:=k0 BU;have TT:=k0 Bb;clear BU IU Bb;obtain ⟨_,af6,ZZ,OS,O6,PO,_,_⟩:=Kd.HQ az.out [] (bg:Int) pI pL;obtain ⟨ajM,rfl,agF⟩:=OS;have AG:=O6 0 _ rfl;have PI:=PO 0;(try simp only [show ((Kd.slice 2 (Kd.int .i64))).sz=1 from rfl,Nat.mul_one,Nat.add_zero] at AG);(try simp only [show ((Kd.slice 2 (Kd.int .i64))).sz=1 from rfl,Nat.mul_one,Nat.add_zero] at PI);(try clear OS);clear ZZ O6 PO ;replace pI:=eq_true pI;replace pL:=eq_true pL;have n_:=k0 (Kd.iK (ok':=(fun k_=>some k_ ≠ (fY:Value).ownBlock)) az.out (fun k_ hk=>hk.2));clear az;have az:=n_;clear n_;have Uv:=k0 (show Kd.S (Kd.slice 2 (Kd.int .i64)) 28 akC w.heap.size (fun k_=>((fun _=>True)) k_∧¬ ((fun k_=>some k_=(fY:Value).ownBlock)) k_) (.slice (some ⟨sG,0,none⟩) bD.length pn) bD from (by (with_reducible repeat (first|apply Kd.gI|apply Kd.gJ|apply Kd.eT));exact Kd.iK az.out (fun k_ hk=>⟨trivial,fun e_=>hk e_⟩)));obtain ⟨ajq,agb,Z0,OT,Pd,PR,abh,OI⟩:=Kd.HQ Uv.out [] (bg:Int) oD (by have h_:(bg:Int) < ((bD.length:Int):Int):=oD;first|exact h_|(have e_:=(Kd.bY az.out).1;omega)|simpa using h_);obtain ⟨ajX,rfl,agG⟩:=OT;have wo:=Kd.Vu OI oD (by have h_:(bg:Int) < ((bD.length:Int):Int):=oD;first|exact h_|(have e_:=(Kd.bY az.out).1;omega)|simpa using h_) (seg:=[fY]) (j:=0) (show 1≤1 from by decide) (x':=t105) (Kd.rz (Kd.bG (Kd.si rfl (Kd.bG (ok':=fun k_=>((fun _=>True)) k_∧k_ ≠ sG) (Kd.lA (cN.out) (Kd.akQ az.out) (by decide)) (fun k_ hk=>⟨trivial,fun e_=>(hk.2) (by rw [e_];rfl)⟩))) (fun _ h_=>Or.inr (h_)))) (fun _ hk=>hk) (fun k_ jQ=>((Kd.bG (ok':=fun k_=>((fun _=>True)) k_∧k_ ≠ sG) (Kd.lA (cN.out) (Kd.akQ az.out) (by decide)) (fun k_ hk=>⟨trivial,fun e_=>(hk.2) (by rw [e_];rfl)⟩))).1 k_ jQ.symm);have abx:=Pd 0 _ rfl;(try simp only [show ((Kd.slice 2 (Kd.int .i64))).sz=1 from rfl,Nat.mul_one,Nat.add_zero] at abx);have aaz:=PR 0;(try simp only [show ((Kd.slice 2 (Kd.int .i64))).sz=1 from rfl,Nat.mul_one,Nat.add_zero] at aaz);(try clear OT);clear Z0 Pd PR abh OI;(try simp only [show ((Kd.slice 2 (Kd.int .i64))).sz=1 from rfl,Nat.mul_one,Nat.add_zero] at wo))|((with_reducible refine lf (t:=28) (p:=21) rfl ?_);refine lq (t:=28) (p:=21) (v:=?aj5) (w1:=(akC.setCell ⟨sG,(bg:Int).toNat,none⟩ (fY))) ?hg ?ho ?hn ?hr ?_;(case ho=>rfl);(case hg=>rfl);(case hn=>rfl);(case hr=>first|(go_simp;done)|(go_simp;rfl)|(obtain ⟨_,_,yX⟩:=Kd.eK (v:=fY) (au.out (by assumption));subst yX;(first|(go_simp;done)|(go_simp;rfl)))|(obtain ⟨_,_,yX⟩:=Kd.oK (v:=fY) (au.out (by assumption));subst yX;(first|(go_simp;done)|(go_simp;rfl))));intro oY hw;have hg:akC.grownBy oY (some sG):=(by rw [hw];exact wo.2);have dZ:Kd.S (Kd.slice 2 (Kd.int .i64)) 28 oY w.heap.size (fun _=>True) (.slice (some ⟨sG,0,none⟩) bD.length pn) mO:=(by rw [hw,alf.out];exact wo.1);clear wo;have akf:=k0 (dZ);have aD:=k0 ((by rw [hw];exact dM (HB.out) GD.out:Below w.heap.size w oY));clear az;clear HB;clear cN;have az:=akf;have HB:=aD;clear akf aD;clear hg hw dZ))
   go_roundg k1
   case measure=>have:=akl.out;omega
   case rel=>exact ⟨(mO),(wrap64 (bg+1)),rs,H',⟨by have:=akl.out;omega⟩,⟨aS (az.out)⟩,⟨bl⟩⟩
/-! ### F25: function 25 -/
def jd.f (k:Nat) (af:Int) (aa:List (List Int)):Option (Int × (List (List Int))):=(iA.f k aa).bind fun t104=>(some (af,t104))
theorem jd.mono:∀ a0 a1 k,aj (jd.f k a0 a1) (jd.f (k+1) a0 a1):=by
 intro a0 a1 k
 unfold jd.f
 repeat' first
  | (with_reducible first|exact iA.mono _ _|exact aj.refl _|exact aj.none _|refine aj.ite ?_ ?_|refine aj.bind ?_ (fun _=>?_))
  | exact iA.mono _ _|exact aj.none _|refine aj.ite ?_ ?_|refine aj.bind ?_ (fun _=>?_)
set_option maxHeartbeats 8000000 in
set_option maxRecDepth 100000 in
theorem jd.calls (k : Nat) (af : Int) (aq : Option Addr) (ak : Nat) (aa : List (List Int)) (r1 : Int) (r2 : List (List Int)) (w : World) (akv : Kd.C (Kd.slice 2 (Kd.int .i64)) w aq aa.length aa) (akw : aa.length ≤ ak) (h : jd.f k af aa = some (r1, r2)) :
  Calls Try.prog 25 #[.agg #[.int .i64 af,.slice aq aa.length ak]] w fun e w'=>∃ So:Value,e=.returned (.agg #[.int .i64 r1,So])∧Kd.S (Kd.slice 2 (Kd.int .i64)) 28 w' w.heap.size (fun _=>True) So r2∧Below w.heap.size w w':=by
 have QT:=Try.underlying24
 have j8:=Try.underlying31
 have bU:=k0 akv
 have cG:=k0 akw
 clear akv akw
 have HB:=k0 (Below.refl w.heap.size w)
 have H:((iA.f k aa).bind fun t104=>(some (af,t104)))=some (r1,r2):=h
 clear h
 replace H:=Option.bind_eq_some_iff.mp H
 obtain ⟨t104,lM,H⟩:=H
 replace H:(some (af,t104))=some (r1,r2):=H
 have A2:=k0 lM
 clear lM
 simp only [Option.some.injEq,Prod.mk.injEq] at H
 obtain ⟨rfl,rfl⟩:=H
 go_enter Try.func25,Try.ntmps25
 go_wp2_with (first|((with_reducible refine cj (N:=1) rfl ?_);refine dJ ?hg (N:=1) ?hd (cs:=#[.int .i64 af,.slice aq aa.length ak]) (t:=24) ?hr ?_;(case hd=>rfl);(case hg=>rfl);(case hr=>first|(go_simp;done)|(go_simp;rfl));intro ai hg w3 aK hb;have ag:=k0 (aK);have aks:=k0 ((by rw [hg];exact (aU bl):w.heap.size≤ai));have ej:=aks;replace HB:=k0 (aI bl hb);clear hb aK hg)|((with_reducible refine cj (N:=2) rfl ?_);refine dJ ?hg (N:=2) ?hd (cs:=#[.int .i64 0,.slice none 0 0]) (t:=31) ?hr ?_;(case hd=>rfl);(case hg=>rfl);(case hr=>first|(go_simp;done)|(go_simp;rfl));intro fQ hg w4 aK hb;have jB:=k0 (aK);have uK:=k0 ((by rw [hg];exact (aU bl):w.heap.size≤fQ));have D5:=uK;replace HB:=k0 (aI bl hb);have uR:=k0 ((by rw [hg];exact Nat.ne_of_lt (cJ (g:=ai) (o:=sO af aq aa ak 24) bk):ai ≠ fQ));have uT:=k0 ((by rw [hg];exact Nat.ne_of_gt (cJ (g:=ai) (o:=sO af aq aa ak 24) bk):fQ ≠ ai));replace ag:=k0 (akj (g:=ai) (o:=sO af aq aa ak 24) bk hb);clear hb aK hg)|((with_reducible refine cj (N:=3) rfl ?_);refine dJ ?hg (N:=3) ?hd (cs:=#[.int .i64 0,.slice none 0 0]) (t:=31) ?hr ?_;(case hd=>rfl);(case hg=>rfl);(case hr=>first|(go_simp;done)|(go_simp;rfl));intro lU hg w5 aK hb;have akf:=k0 (akj (g:=ai) (o:=sO af aq aa ak 24) bk hb);have aD:=k0 (akj (g:=fQ) (o:=.cells #[.int .i64 0,.slice none 0 0] 31 (0,0)) bk hb);have aJ:=k0 (aI bl hb);have aX:=k0 (aK);have a_:=k0 ((by rw [hg];exact (aU bl):w.heap.size≤lU));have akp:=k0 ((by rw [hg];exact (aU bl):w.heap.size≤lU));have bx:=k0 ((by rw [hg];exact Nat.ne_of_lt (cJ (g:=ai) (o:=sO af aq aa ak 24) bk):ai ≠ lU));have b9:=k0 ((by rw [hg];exact Nat.ne_of_gt (cJ (g:=ai) (o:=sO af aq aa ak 24) bk):lU ≠ ai));have cL:=k0 ((by rw [hg];exact Nat.ne_of_lt (cJ (g:=fQ) (o:=.cells #[.int .i64 0,.slice none 0 0] 31 (0,0)) bk):fQ ≠ lU));have akB:=k0 ((by rw [hg];exact Nat.ne_of_gt (cJ (g:=fQ) (o:=.cells #[.int .i64 0,.slice none 0 0] 31 (0,0)) bk):lU ≠ fQ));clear ag;clear jB;clear HB;have ag:=akf;have jB:=aD;have HB:=aJ;have qB:=aX;have amY:=a_;have TS:=akp;have Eh:=bx;have HE:=b9;have Ei:=cL;have MR:=akB;clear akf aD aJ aX a_ akp bx b9 cL akB;clear hb aK hg;have aic:=uR.out;have aiO:=uT.out;have aij:=Eh.out;have aiU:=HE.out;have yz:w5.cell? ⟨ai,0,none⟩=some (.int .i64 af):=(av ag.out 0).trans rfl;have yA:w5.cell? ⟨ai,1,none⟩=some (.slice aq aa.length ak):=(av ag.out 1).trans rfl;have yE:=aH ag.out 0;have yF:=aH ag.out 1;have abc:=MR.out;have abf:=Ei.out;have ud:w5.cell? ⟨lU,0,none⟩=some (.int .i64 0):=(av qB.out 0).trans rfl;have ue:w5.cell? ⟨lU,1,none⟩=some (.slice none 0 0):=(av qB.out 1).trans rfl;have uj:=aH qB.out 0;have uk:=aH qB.out 1)|((with_reducible refine cZ (f:=83) rfl ?_);refine c_ (some 9) rfl rfl Try.func83 (by kernel_rfl) rfl #[.slice aq aa.length ak] rfl gm ?_;(with_reducible refine (iA.calls k _ _ aa t104 _ ?akn ?aT A2.out).mono ?_);(case akn=>exact Kd.bA bU.out bl);(case aT=>exact cG.out);rintro e akC ⟨v105,rfl,ake,hb⟩;refine ⟨_,rfl,?_⟩;have gz:=k0 (Kd.ak0 ake (aU bl));replace ag:=k0 (akj (g:=ai) (o:=sO af aq aa ak 24) (by (with_reducible repeat (first|refine ee ?_ _|refine ct ?_|refine dX ?_ _));refine fX ?_ Eh.out _;exact bk) hb);replace jB:=k0 (akj (g:=fQ) (o:=.cells #[.int .i64 0,.slice none 0 0] 31 (0,0)) (by (with_reducible repeat (first|refine ee ?_ _|refine ct ?_|refine dX ?_ _));refine fX ?_ Ei.out _;exact bk) hb);replace qB:=k0 (akj (g:=lU) (o:=.cells #[.int .i64 af,.slice none 0 0] 31 (0,0)) (by (with_reducible repeat (first|refine ee ?_ _|refine ct ?_|refine dX ?_ _));refine nG (cs:=#[.int .i64 0,.slice none 0 0]) ?_ 0 _ rfl;exact bk) hb);replace HB:=k0 (aI bl hb);(try clear hb);(try clear ake);obtain ⟨ke,akK,yc⟩:=Kd.oK gz.out;subst yc;have aaa:akC.cell? ⟨lU,0,none⟩=some (.int .i64 af):=(av qB.out 0).trans rfl;have aab:akC.cell? ⟨lU,1,none⟩=some (.slice none 0 0):=(av qB.out 1).trans rfl;have aaH:=aH qB.out 0;have aaI:=aH qB.out 1;have wX:akC.cell? ⟨fQ,0,none⟩=some (.int .i64 0):=(av jB.out 0).trans rfl;have wY:akC.cell? ⟨fQ,1,none⟩=some (.slice none 0 0):=(av jB.out 1).trans rfl;have alH:=aH jB.out 0;have alI:=aH jB.out 1))
 refine bodyPost_ret (results_cell_row rfl _ _ fQ 31 #[.int .i64 af,.slice ke t104.length akK] (0,0) _ rfl (by (with_reducible repeat (first|refine ee ?_ _|refine ct ?_|refine dX ?_ _));refine nG (cs:=#[.int .i64 af,.slice none 0 0]) ?_ 1 _ rfl;(with_reducible repeat (first|refine ee ?_ _|refine ct ?_|refine dX ?_ _));refine nG (cs:=#[.int .i64 0,.slice none 0 0]) ?_ 0 _ rfl;(with_reducible repeat (first|refine ee ?_ _|refine ct ?_|refine dX ?_ _));refine fX ?_ Ei.out _;exact bk) Try.underlying31 rfl (by kernel_rfl)) rfl ?_
 exact ⟨_,by first|rfl|(simp [bq,bt]<;>rfl)|(simp [*,bq,bt]<;>rfl),by (with_reducible repeat (first|apply Kd.gI|apply Kd.gJ|apply Kd.eT));exact Kd.iK (Kd.tW (p:=⟨fQ,1,none⟩) (Kd.tW (p:=⟨fQ,0,none⟩) (Kd.tW (p:=⟨lU,1,none⟩) (Kd.zV (Kd.zV gz.out qB.out (by decide)) jB.out (by decide)) (fun _ hk=>hk.1.2) (.slice ke t104.length akK)) (fun _ hk=>hk.2) (.int .i64 af)) (fun _ hk=>hk.2) (.slice ke t104.length akK)) (fun _ hk=>trivial),bl⟩
/-! ### F87: function 87 -/
def iB.l0 : Nat → List (List Int) → List (List Int) → Int → Option (Bool)
 | 0,_,_,_=>none
 | k+1,x0,x1,x5=>if x5 < (x0.length:Int) then (if 0≤x5 then (if x5 < (x1.length:Int) then ((dP.f k (ah x0 x5) (ah x1 x5)).bind fun t103=>(if t103=true then (iB.l0 k x0 x1 (wrap64 (x5+1))) else (some false))) else (none)) else (none)) else (some true)
def iB.f (k:Nat) (l0:List (List Int)) (l1:List (List Int)):Option (Bool):=if (l0.length:Int)=(l1.length:Int) then (iB.l0 k l0 l1 0) else (some false)
theorem iB.b8 : ∀ k, (∀ y0 y1 y2, aj (iB.l0 k y0 y1 y2) (iB.l0 (k + 1) y0 y1 y2))
 | 0=>fun _ _ _ r h=>by simp [iB.l0] at h
 | k+1=>by
  have akk:=iB.b8 k
  ·intro y0 y1 y2
   unfold iB.l0
   repeat' first
    | (with_reducible first|exact akk _ _ _|exact dP.mono _ _ _|exact aj.refl _|exact aj.none _|refine aj.ite ?_ ?_|refine aj.bind ?_ (fun _=>?_))
    | exact akk _ _ _|exact dP.mono _ _ _|exact aj.none _|refine aj.ite ?_ ?_|refine aj.bind ?_ (fun _=>?_)
theorem iB.mono:∀ a0 a1 k,aj (iB.f k a0 a1) (iB.f (k+1) a0 a1):=by
 intro a0 a1 k
 have akk:=iB.b8 k
 unfold iB.f
 repeat' first
  | (with_reducible first|exact akk _ _ _|exact dP.mono _ _ _|exact aj.refl _|exact aj.none _|refine aj.ite ?_ ?_|refine aj.bind ?_ (fun _=>?_))
  | exact akk _ _ _|exact dP.mono _ _ _|exact aj.none _|refine aj.ite ?_ ?_|refine aj.bind ?_ (fun _=>?_)
set_option maxHeartbeats 8000000 in
set_option maxRecDepth 100000 in
theorem iB.calls (k : Nat) (A0 : Option Addr) (c0 : Nat) (l0 : List (List Int)) (A1 : Option Addr) (c1 : Nat) (l1 : List (List Int)) (r : Bool) (w : World) (dB : Kd.C (Kd.slice 2 (Kd.int .i64)) w A0 l0.length l0) (hc0 : l0.length ≤ c0) (cQ : Kd.C (Kd.slice 2 (Kd.int .i64)) w A1 l1.length l1) (ef : l1.length ≤ c1) (h : iB.f k l0 l1 = some r) :
  Calls Try.prog 87 #[.slice A0 l0.length c0,.slice A1 l1.length c1] w fun e w'=>e=.returned (.bool r)∧bP w w':=by
 have fj:=k0 dB
 have ki:=k0 hc0
 clear dB hc0
 have ek:=k0 cQ
 have jZ:=k0 ef
 clear cQ ef
 have H:(if (l0.length:Int)=(l1.length:Int) then (iB.l0 k l0 l1 0) else (some false))=some r:=h
 clear h
 by_cases c3:(l0.length:Int)=(l1.length:Int)
 case neg =>
  rw [if_neg c3] at H
  have iE:((l0.length:Int) == (l1.length:Int))=false:=beq_eq_false_iff_ne.mpr c3
  have k7:((l0.length:Int) != (l1.length:Int))=true:=bne_iff_ne.mpr c3
  have su:(l0.length == l1.length)=false:=by first|simpa using c3|(simp at c3 ⊢;omega)
  obtain rfl:=Option.some.inj H
  go_enter Try.func87,Try.ntmps87
  go_wp2
  repeat (go_quiet (fail);try go_wp2)
  go_ret
  exact ⟨by first|rfl|(simp;done)|(simp [*];done),by repeat (first|exact bP.refl _|apply bP.step)⟩
 rw [if_pos c3] at H
 have iE:((l0.length:Int) == (l1.length:Int))=true:=beq_iff_eq.mpr c3
 have k7:((l0.length:Int) != (l1.length:Int))=false:=bne_eq_false_iff_eq.mpr c3
 have su:(l0.length == l1.length)=true:=by first|simpa using c3|(simp at c3 ⊢;omega)
 clear c3
 have H':=k0 H
 clear H
 go_enter Try.func87,Try.ntmps87
 go_wp2
 repeat (go_quiet (fail);try go_wp2)
 go_loopg [5] k (fun kq v5 w'=>∃ (aM:Int),v5=.int .i64 aM∧au (iB.l0 kq l0 l1 aM=some r)∧au (kq≤k)∧bP w w')
 case atStart=>exact ⟨(0),rs,H',⟨Nat.le_refl _⟩,by repeat (first|exact bP.refl _|apply bP.step)⟩
 case round =>
  clear H'
  (try clear c3);(try clear iE);(try clear k7);(try clear su)
  obtain ⟨aM,rfl,HA,akl,⟨m1,rfl⟩⟩:=hrel
  cases gk with
  | zero=>exact absurd HA.out (by simp [iB.l0])
  | succ k1 =>
   have H:=HA.out
   clear HA
   simp only [iB.l0] at H
   by_cases c4:aM < (l0.length:Int)
   case neg =>
    rw [if_neg c4] at H
    have eA:decide (aM < (l0.length:Int))=false:=decide_eq_false c4
    clear c4
    obtain rfl:=Option.some.inj H
    go_wp2
    repeat (go_quiet (fail);try go_wp2)
    go_ret
    exact ⟨by first|rfl|(simp;done)|(simp [*];done),by repeat (first|exact bP.refl _|apply bP.step)⟩
   rw [if_pos c4] at H
   have eA:=decide_eq_true c4
   clear c4
   replace H:=iS H;obtain ⟨c5,H⟩:=H
   have iW:=decide_eq_true c5
   clear c5
   replace H:=iS H;obtain ⟨c6,H⟩:=H
   have akJ:=decide_eq_true c6
   clear c6
   replace H:=Option.bind_eq_some_iff.mp H
   obtain ⟨t103,ale,H⟩:=H
   replace H:(if t103=true then (iB.l0 k1 l0 l1 (wrap64 (aM+1))) else (some false))=some r:=H
   have A7:=k0 ale
   clear ale
   by_cases c8:t103=true
   case neg =>
    replace c8:=Bool.eq_false_iff.mpr c8
    subst c8
    have H1:(some false)=some r:=by rw [if_neg (show ¬ (false=true) by decide)] at H;exact H
    clear H
    have H:=H1
    clear H1
    obtain rfl:=Option.some.inj H
    have eU:0≤(aM:Int):=oD
    have eV:aM < (l0.length:Int):=oD
    obtain ⟨qM,al_,Bz,e101,pH,sV,alh⟩:=cW fj.out aM eU eV
    cases e101
    have r9:=k0 alh
    have r7:=k0 sV
    clear alh sV
    replace eU:=eq_true eU
    replace eV:=eq_true eV
    have dr:0≤(aM:Int):=oD
    have dw:aM < (l1.length:Int):=oD
    obtain ⟨oa,uE,uX,e102,akN,jr,jo⟩:=cW ek.out aM dr dw
    cases e102
    have jh:=k0 jo
    have o5:=k0 jr
    clear jo jr
    replace dr:=eq_true dr
    replace dw:=eq_true dw
    go_wp2_with (first|(go_at_call 18;(with_reducible refine (dP.calls k1 _ _ (ah l0 aM) _ _ (ah l1 aM) false _ ?akn ?aT ?cn ?cw A7.out).mono ?_);(case akn=>exact aC r9.out);(case aT=>exact r7.out);(case cn=>exact aC jh.out);(case cw=>exact o5.out);rintro e w' ⟨rfl,⟨nd,rfl⟩⟩;(try first|exact ⟨rfl,_,World.drewN_drewN _ _ _⟩|exact ⟨rfl,_,Eq.trans (World.drewN_drewN _ _ _) (congrArg (World.drewN _) (Nat.add_assoc _ _ _))⟩)))
    repeat (go_quiet (first|(go_at_call 18;(with_reducible refine (dP.calls k1 _ _ (ah l0 aM) _ _ (ah l1 aM) false _ ?akn ?aT ?cn ?cw A7.out).mono ?_);(case akn=>exact aC r9.out);(case aT=>exact r7.out);(case cn=>exact aC jh.out);(case cw=>exact o5.out);rintro e w' ⟨rfl,⟨nd,rfl⟩⟩;(try first|exact ⟨rfl,_,World.drewN_drewN _ _ _⟩|exact ⟨rfl,_,Eq.trans (World.drewN_drewN _ _ _) (congrArg (World.drewN _) (Nat.add_assoc _ _ _))⟩)));try go_wp2_with (first|(go_at_call 18;(with_reducible refine (dP.calls k1 _ _ (ah l0 aM) _ _ (ah l1 aM) false _ ?akn ?aT ?cn ?cw A7.out).mono ?_);(case akn=>exact aC r9.out);(case aT=>exact r7.out);(case cn=>exact aC jh.out);(case cw=>exact o5.out);rintro e w' ⟨rfl,⟨nd,rfl⟩⟩;(try first|exact ⟨rfl,_,World.drewN_drewN _ _ _⟩|exact ⟨rfl,_,Eq.trans (World.drewN_drewN _ _ _) (congrArg (World.drewN _) (Nat.add_assoc _ _ _))⟩))))
    go_ret
    exact ⟨by first|rfl|(simp;done)|(simp [*];done),by repeat (first|exact bP.refl _|apply bP.step)⟩
   subst c8
   have H1:(iB.l0 k1 l0 l1 (wrap64 (aM+1)))=some r:=by rw [if_pos rfl] at H;exact H
   clear H
   have H:=H1
   clear H1
   have H':=k0 H
   clear H
   have eU:0≤(aM:Int):=oD
   have eV:aM < (l0.length:Int):=oD
   obtain ⟨qM,al_,Bz,e101,pH,sV,alh⟩:=cW fj.out aM eU eV
   cases e101
   have r9:=k0 alh
   have r7:=k0 sV
   clear alh sV
   replace eU:=eq_true eU
   replace eV:=eq_true eV
   have dr:0≤(aM:Int):=oD
   have dw:aM < (l1.length:Int):=oD
   obtain ⟨oa,uE,uX,e102,akN,jr,jo⟩:=cW ek.out aM dr dw
   cases e102
   have jh:=k0 jo
   have o5:=k0 jr
   clear jo jr
   replace dr:=eq_true dr
   replace dw:=eq_true dw
   go_wp2_with (first|(go_at_call 18;(with_reducible refine (dP.calls k1 _ _ (ah l0 aM) _ _ (ah l1 aM) true _ ?akn ?aT ?cn ?cw A7.out).mono ?_);(case akn=>exact aC r9.out);(case aT=>exact r7.out);(case cn=>exact aC jh.out);(case cw=>exact o5.out);rintro e w' ⟨rfl,⟨nd,rfl⟩⟩;(try first|exact ⟨rfl,_,World.drewN_drewN _ _ _⟩|exact ⟨rfl,_,Eq.trans (World.drewN_drewN _ _ _) (congrArg (World.drewN _) (Nat.add_assoc _ _ _))⟩)))
   repeat (go_quiet (first|(go_at_call 18;(with_reducible refine (dP.calls k1 _ _ (ah l0 aM) _ _ (ah l1 aM) true _ ?akn ?aT ?cn ?cw A7.out).mono ?_);(case akn=>exact aC r9.out);(case aT=>exact r7.out);(case cn=>exact aC jh.out);(case cw=>exact o5.out);rintro e w' ⟨rfl,⟨nd,rfl⟩⟩;(try first|exact ⟨rfl,_,World.drewN_drewN _ _ _⟩|exact ⟨rfl,_,Eq.trans (World.drewN_drewN _ _ _) (congrArg (World.drewN _) (Nat.add_assoc _ _ _))⟩)));try go_wp2_with (first|(go_at_call 18;(with_reducible refine (dP.calls k1 _ _ (ah l0 aM) _ _ (ah l1 aM) true _ ?akn ?aT ?cn ?cw A7.out).mono ?_);(case akn=>exact aC r9.out);(case aT=>exact r7.out);(case cn=>exact aC jh.out);(case cw=>exact o5.out);rintro e w' ⟨rfl,⟨nd,rfl⟩⟩;(try first|exact ⟨rfl,_,World.drewN_drewN _ _ _⟩|exact ⟨rfl,_,Eq.trans (World.drewN_drewN _ _ _) (congrArg (World.drewN _) (Nat.add_assoc _ _ _))⟩))))
   go_roundg k1
   case measure=>have:=akl.out;omega
   case rel=>exact ⟨(wrap64 (aM+1)),rs,H',⟨by have:=akl.out;omega⟩,by repeat (first|exact bP.refl _|apply bP.step)⟩
end Go.Proofs.Ytoebojnhchocaaa.C
/- Set with little white space, by a program. -/
