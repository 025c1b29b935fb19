/- The functions that one law reaches, each as a Lean function, and that Go's call comes to what it says. Condition of each: that the Lean function answers (is not none). -/
import Derived.Test.YtoebojnhchocaaaGx0
import Derived.Test.YtoebojnhchocaaaGx4
import Derived.Test.YtoebojnhchocaaaGx6
import Derived.Test.YtoebojnhchocaaaGx9
import Derived.Test.YtoebojnhchocaaaGx10
import Derived.Test.YtoebojnhchocaaaGx12
import Derived.Test.YtoebojnhchocaaaGx14
namespace Go.Proofs.Ytoebojnhchocaaa.G
open Go.RowKit Go.Proofs.cx.fq Go.Proofs.cx.jX Go.Proofs.cx.lu
attribute [local go_sem] max2_int min2_int max_two min_two max_three min_three max_four min_four   -- for this text's walks alone
set_option linter.unusedVariables false
set_option linter.unusedSimpArgs false
set_option maxHeartbeats 8000000
set_option maxRecDepth 100000
/-! ### F124: function 124 -/
def oT.f (k:Nat) (au:Int) (ah:List (List Int)):Option (List Int):=(dO.f k au ah).bind fun t102=>((bx.f k t102).bind fun t105=>(some t105))
theorem oT.mono:∀ a0 a1 k,ag (oT.f k a0 a1) (oT.f (k+1) a0 a1):=by
 intro a0 a1 k
 unfold oT.f
 repeat' first
  | (with_reducible first|exact dO.mono _ _ _|exact bx.mono _ _|exact ag.refl _|exact ag.none _|refine ag.ite ?_ ?_|refine ag.bind ?_ (fun _=>?_))
  | exact dO.mono _ _ _|exact bx.mono _ _|exact ag.none _|refine ag.ite ?_ ?_|refine ag.bind ?_ (fun _=>?_)
theorem oT.calls (k : Nat) (au : Int) (bJ : Option Addr) (bI : Nat) (ah : List (List Int)) (r : List Int) (w : World) (eS : Kd.C (Kd.slice 2 (Kd.int .i64)) w bJ ah.length ah) (eY : ah.length ≤ bI) (h : oT.f k au ah = some r) :
  Calls Try.prog 124 #[.agg #[.int .i64 au,.slice bJ ah.length bI]] w fun e w'=>∃ dw:Value,e=.returned (dw)∧Kd.R (Kd.int .i64) 2 w' w.heap.size (fun _=>True) dw r∧Below w.heap.size w w':=by
 have jS:=Try.underlying31
 have dP:=k0 eS
 have f_:=k0 eY
 clear eS eY
 have HB:=k0 (Below.refl w.heap.size w)
 have H:((dO.f k au ah).bind fun t102=>((bx.f k t102).bind fun t105=>(some t105)))=some r:=h
 clear h
 replace H:=Option.bind_eq_some_iff.mp H
 obtain ⟨t102,eD,H⟩:=H
 replace H:((bx.f k t102).bind fun t105=>(some t105))=some r:=H
 have A2:=k0 eD
 clear eD
 replace H:=Option.bind_eq_some_iff.mp H
 obtain ⟨t105,fS,H⟩:=H
 replace H:(some t105)=some r:=H
 have A3:=k0 fS
 clear fS
 obtain rfl:=Option.some.inj H
 go_enter Try.func124,Try.ntmps124
 go_wp2_with (first|((with_reducible refine bN (N:=1) rfl ?_);refine cE 1 #[.int .i64 au,.slice bJ ah.length bI] 31 ?_;intro aW hg w4 aG hb;have aa:=k0 (aG);have cu:=gW hg (anG bl);have anQ:=cu;replace HB:=k0 (anH bl hb);clear hb aG hg;have uG:=aX aa;have uH:=aY aa;have uI:=bF aa 0;have uJ:=bF aa 1)|((with_reducible refine bS (f:=120) rfl ?_);refine gC (some 4) Try.func120 #[.agg #[.int .i64 au,.slice bJ ah.length bI]] ?_;(with_reducible refine (dO.calls k au _ _ ah t102 _ ?aA ?anD A2.z).mono ?_);(case aA=>exact aC (Kd.dU dP.z HB.z));(case anD=>exact f_.z);rintro e w6 ⟨iF,rfl,aq,hb⟩;refine ⟨_,rfl,?_⟩;have eP:=k0 (Kd.gD aq (anG bl));replace aa:=kB aa hb;replace HB:=k0 (anH bl hb);obtain ⟨apR,IQ,I5⟩:=Kd.eH eP.z;subst I5)|((with_reducible refine bS (f:=136) rfl ?_);refine gC (some 5) Try.func136 #[.slice apR t102.length IQ] ?_;(with_reducible refine (bx.calls k _ _ t102 t105 _ ?aA ?anD A3.z).mono ?_);(case aA=>exact aC ((Kd.anY eP.z).2.2));(case anD=>exact (Kd.anY eP.z).2.1);rintro e w8 ⟨jm,rfl,aq,hb⟩;refine ⟨_,rfl,?_⟩;replace eP:=k0 (Kd.an6 (aS eP.z) (Kd.aU aq) hb);have jv:=k0 (Kd.cH aq (anG bl));replace aa:=kB aa hb;replace HB:=k0 (anH bl hb);))
 go_ret
 exact ⟨_,eR,by (with_reducible repeat (first|apply Kd.b_|apply Kd.bZ|apply Kd.bP));exact jv.z,bl⟩
/-! ### F50: function 50 -/
def mH.f (k:Nat) (au:Int) (ah:List (List Int)):Option (List Int × Int):=(cY.f k au ah).bind fun t102=>(if t102=true then ((oT.f k au ah).bind fun t103=>(some (t103,0))) else (some (([]:List Int),1)))
theorem mH.mono:∀ a0 a1 k,ag (mH.f k a0 a1) (mH.f (k+1) a0 a1):=by
 intro a0 a1 k
 unfold mH.f
 repeat' first
  | (with_reducible first|exact cY.mono _ _ _|exact oT.mono _ _ _|exact ag.refl _|exact ag.none _|refine ag.ite ?_ ?_|refine ag.bind ?_ (fun _=>?_))
  | exact cY.mono _ _ _|exact oT.mono _ _ _|exact ag.none _|refine ag.ite ?_ ?_|refine ag.bind ?_ (fun _=>?_)
theorem mH.calls (k : Nat) (au : Int) (bJ : Option Addr) (bI : Nat) (ah : List (List Int)) (r1 : List Int) (r2 : Int) (w : World) (eS : Kd.C (Kd.slice 2 (Kd.int .i64)) w bJ ah.length ah) (eY : ah.length ≤ bI) (h : mH.f k au ah = some (r1, r2)) :
  Calls Try.prog 50 #[.agg #[.int .i64 au,.slice bJ ah.length bI]] w fun e w'=>∃ dw:Value,e=.returned (.tuple #[dw,.int .i64 r2])∧Kd.R (Kd.int .i64) 2 w' w.heap.size (fun _=>True) dw r1∧Below w.heap.size w w':=by
 have jS:=Try.underlying31
 have dP:=k0 eS
 have f_:=k0 eY
 clear eS eY
 have HB:=k0 (Below.refl w.heap.size w)
 have H:((cY.f k au ah).bind fun t102=>(if t102=true then ((oT.f k au ah).bind fun t103=>(some (t103,0))) else (some (([]:List Int),1))))=some (r1,r2):=h
 clear h
 replace H:=Option.bind_eq_some_iff.mp H
 obtain ⟨t102,eD,H⟩:=H
 replace H:(if t102=true then ((oT.f k au ah).bind fun t103=>(some (t103,0))) else (some (([]:List Int),1)))=some (r1,r2):=H
 have A2:=k0 eD
 clear eD
 by_cases c3:t102=true
 case neg =>
  replace c3:=Bool.eq_false_iff.mpr c3
  subst c3
  have H1:(some (([]:List Int),1))=some (r1,r2):=by rw [if_neg (show ¬ (false=true) by decide)] at H;exact H
  clear H
  have H:=H1
  clear H1
  simp only [Option.some.injEq,Prod.mk.injEq] at H
  obtain ⟨rfl,rfl⟩:=H
  go_enter Try.func50,Try.ntmps50
  go_wp2_with (first|((with_reducible refine bN (N:=1) rfl ?_);refine cE 1 #[.int .i64 au,.slice bJ ah.length bI] 31 ?_;intro aW hg qN aG hb;have aa:=k0 (aG);have cu:=gW hg (anG bl);have anQ:=cu;replace HB:=k0 (anH bl hb);clear hb aG hg;have Fc:=aX aa;have Fe:=aY aa;have Fi:=bF aa 0;have Fj:=bF aa 1)|((with_reducible refine bS (f:=100) rfl ?_);refine gC (some 5) Try.func100 #[.agg #[.int .i64 au,.slice bJ ah.length bI]] ?_;(with_reducible refine (cY.calls k au _ _ ah false _ ?aA ?anD A2.z).mono ?_);(case aA=>exact aC (Kd.dU dP.z HB.z));(case anD=>exact f_.z);rintro e ao0 ⟨rfl,hb⟩;refine ⟨_,rfl,?_⟩;replace aa:=kB aa hb;replace HB:=k0 (anH bl hb);))
  go_ret2
  exact ⟨_,eR,by first|exact Kd.ny _ _ _ _ _|exact Kd.rV _ _ _ _ _|exact Kd.rY _ _ _ _ _|exact Kd.rW _ _ _ _ _|exact Kd.rX _ _ _ _ _,bl⟩
 subst c3
 have H1:((oT.f k au ah).bind fun t103=>(some (t103,0)))=some (r1,r2):=by rw [if_pos rfl] at H;exact H
 clear H
 have H:=H1
 clear H1
 replace H:=Option.bind_eq_some_iff.mp H
 obtain ⟨t103,jt,H⟩:=H
 replace H:(some (t103,0))=some (r1,r2):=H
 have A4:=k0 jt
 clear jt
 simp only [Option.some.injEq,Prod.mk.injEq] at H
 obtain ⟨rfl,rfl⟩:=H
 go_enter Try.func50,Try.ntmps50
 go_wp2_with (first|((with_reducible refine bN (N:=1) rfl ?_);refine cE 1 #[.int .i64 au,.slice bJ ah.length bI] 31 ?_;intro aW hg w5 aG hb;have aa:=k0 (aG);have cu:=gW hg (anG bl);have anQ:=cu;replace HB:=k0 (anH bl hb);clear hb aG hg;have Ff:=aX aa;have Fg:=aY aa;have Fk:=bF aa 0;have Fl:=bF aa 1)|((with_reducible refine bS (f:=100) rfl ?_);refine gC (some 5) Try.func100 #[.agg #[.int .i64 au,.slice bJ ah.length bI]] ?_;(with_reducible refine (cY.calls k au _ _ ah true _ ?aA ?anD A2.z).mono ?_);(case aA=>exact aC (Kd.dU dP.z HB.z));(case anD=>exact f_.z);rintro e w7 ⟨rfl,hb⟩;refine ⟨_,rfl,?_⟩;replace aa:=kB aa hb;replace HB:=k0 (anH bl hb);have CR:=aX aa;have CS:=aY aa;have CZ:=bF aa 0;have C0:=bF aa 1)|((with_reducible refine bS (f:=124) rfl ?_);refine gC (some 8) Try.func124 #[.agg #[.int .i64 au,.slice bJ ah.length bI]] ?_;(with_reducible refine (oT.calls k au _ _ ah t103 _ ?aA ?anD A4.z).mono ?_);(case aA=>exact aC (Kd.dU dP.z HB.z));(case anD=>exact f_.z);rintro e w9 ⟨aoZ,rfl,aq,hb⟩;refine ⟨_,rfl,?_⟩;have cZ:=k0 (Kd.cH aq (anG bl));replace aa:=kB aa hb;replace HB:=k0 (anH bl hb);))
 go_ret2
 exact ⟨_,eR,by (with_reducible repeat (first|apply Kd.b_|apply Kd.bZ|apply Kd.bP));exact cZ.z,bl⟩
-- NOT PRINTED: function 125 (impl_graphCode)
/-! ### F127: function 127 -/
def jq.l0 : Nat → List Int → Int → Int → Int → Option (Bool)
 | 0,_,_,_,_=>none
 | k+1,x0,x1,x6,x7=>if x7 < x6 then ((mF.f k x0 x7).bind fun t101=>(if t101=true then (jq.l0 k x0 x1 x6 (wrap64 (x7+1))) else (some false))) else (some ((x0.length:Int) == x1))
def jq.f (k:Nat) (l0:List Int) (a1:Int):Option (Bool):=jq.l0 k l0 a1 a1 0
theorem jq.cC : ∀ k, (∀ y0 y1 y2 y3, ag (jq.l0 k y0 y1 y2 y3) (jq.l0 (k + 1) y0 y1 y2 y3))
 | 0=>fun _ _ _ _ r h=>by simp [jq.l0] at h
 | k+1=>by
  have a_:=jq.cC k
  ·intro y0 y1 y2 y3
   unfold jq.l0
   repeat' first
    | (with_reducible first|exact a_ _ _ _ _|exact mF.mono _ _ _|exact ag.refl _|exact ag.none _|refine ag.ite ?_ ?_|refine ag.bind ?_ (fun _=>?_))
    | exact a_ _ _ _ _|exact mF.mono _ _ _|exact ag.none _|refine ag.ite ?_ ?_|refine ag.bind ?_ (fun _=>?_)
theorem jq.mono:∀ a0 a1 k,ag (jq.f k a0 a1) (jq.f (k+1) a0 a1):=by
 intro a0 a1 k
 have a_:=jq.cC k
 unfold jq.f
 repeat' first
  | (with_reducible first|exact a_ _ _ _ _|exact mF.mono _ _ _|exact ag.refl _|exact ag.none _|refine ag.ite ?_ ?_|refine ag.bind ?_ (fun _=>?_))
  | exact a_ _ _ _ _|exact mF.mono _ _ _|exact ag.none _|refine ag.ite ?_ ?_|refine ag.bind ?_ (fun _=>?_)
theorem jq.calls (k : Nat) (A0 : Option Addr) (c0 : Nat) (l0 : List Int) (a1 : Int) (r : Bool) (w : World) (cL : Kd.C (Kd.int .i64) w A0 l0.length l0) (hc0 : l0.length ≤ c0) (h : jq.f k l0 a1 = some r) :
  Calls Try.prog 127 #[.slice A0 l0.length c0,.int .i64 a1] w fun e w'=>e=.returned (.bool r)∧aod w w':=by
 have dh:=k0 cL
 have fI:=k0 hc0
 clear cL hc0
 have H:(jq.l0 k l0 a1 a1 0)=some r:=h
 clear h
 have H':=k0 H
 clear H
 go_enter Try.func127,Try.ntmps127
 go_wp2
 go_loopg [7] k (fun kq v7 w'=>∃ (anZ:Int),v7=.int .i64 anZ∧ak (jq.l0 kq l0 a1 a1 anZ=some r)∧ak (kq≤k)∧aod w w')
 case atStart=>exact ⟨(0),rs,H',⟨Nat.le_refl _⟩,dW⟩
 case round =>
  clear H'
  obtain ⟨anZ,rfl,HA,bH,⟨m1,rfl⟩⟩:=hrel
  cases gk with
  | zero=>exact absurd HA.z (by simp [jq.l0])
  | succ k1 =>
   have H:=HA.z
   clear HA
   simp only [jq.l0] at H
   by_cases c3:anZ < a1
   case neg =>
    rw [if_neg c3] at H
    have jZ:decide (anZ < a1)=false:=decide_eq_false c3
    clear c3
    obtain rfl:=Option.some.inj H
    go_wp2
    go_ret
    exact ⟨rs,dW⟩
   rw [if_pos c3] at H
   have jZ:=decide_eq_true c3
   clear c3
   replace H:=Option.bind_eq_some_iff.mp H
   obtain ⟨t101,jt,H⟩:=H
   replace H:(if t101=true then (jq.l0 k1 l0 a1 a1 (wrap64 (anZ+1))) else (some false))=some r:=H
   have A4:=k0 jt
   clear jt
   by_cases c5:t101=true
   case neg =>
    replace c5:=Bool.eq_false_iff.mpr c5
    subst c5
    have H1:(some false)=some r:=by rw [if_neg (show ¬ (false=true) by decide)] at H;exact H
    clear H
    have H:=H1
    clear H1
    obtain rfl:=Option.some.inj H
    go_wp2_with (first|((with_reducible refine bS (f:=118) rfl ?_);refine gC (some 12) Try.func118 #[.slice A0 l0.length c0,.int .i64 anZ] ?_;(with_reducible refine (mF.calls k1 _ _ l0 anZ false _ ?aA ?anD A4.z).mono ?_);(case aA=>exact aC dh.z);(case anD=>exact fI.z);rintro e w' ⟨rfl,⟨nd,rfl⟩⟩;refine ⟨_,rfl,?_⟩))
    go_ret
    exact ⟨rs,dW⟩
   subst c5
   have H1:(jq.l0 k1 l0 a1 a1 (wrap64 (anZ+1)))=some r:=by rw [if_pos rfl] at H;exact H
   clear H
   have H:=H1
   clear H1
   have H':=k0 H
   clear H
   go_wp2_with (first|((with_reducible refine bS (f:=118) rfl ?_);refine gC (some 12) Try.func118 #[.slice A0 l0.length c0,.int .i64 anZ] ?_;(with_reducible refine (mF.calls k1 _ _ l0 anZ true _ ?aA ?anD A4.z).mono ?_);(case aA=>exact aC dh.z);(case anD=>exact fI.z);rintro e w' ⟨rfl,⟨nd,rfl⟩⟩;refine ⟨_,rfl,?_⟩))
   go_roundg k1
   case measure=>have:=bH.z;omega
   case rel=>exact ⟨(wrap64 (anZ+1)),rs,H',⟨by have:=bH.z;omega⟩,dW⟩
/-! ### F126: function 126 -/
def aoB.f (k:Nat) (au:Int) (ah:List (List Int)) (l1:List Int) (vV:Int) (uS:List (List Int)):Option Int :=
 (fj.f k au ah).bind fun b=>if b=true then ((jq.f k l1 vV).bind fun q0=>if q0=true then some 0 else some 2) else some 1
theorem aoB.mono:∀ a0 a1 a2 a3 a4 k,ag (aoB.f k a0 a1 a2 a3 a4) (aoB.f (k+1) a0 a1 a2 a3 a4):=by
 intro a0 a1 a2 a3 a4 k
 unfold aoB.f
 repeat' first
  | (with_reducible first|exact fj.mono _ _ _|exact jq.mono _ _ _|exact ag.refl _|exact ag.none _|refine ag.ite ?_ ?_|refine ag.bind ?_ (fun _=>?_))
  | exact fj.mono _ _ _|exact jq.mono _ _ _|exact ag.none _|refine ag.ite ?_ ?_|refine ag.bind ?_ (fun _=>?_)
theorem aoB.calls {b1 : Nat} {b2 : Nat} (k : Nat) (au : Int) (bJ : Option Addr) (bI : Nat) (ah : List (List Int)) (A1 : Option Addr) (c1 : Nat) (l1 : List Int) (vV : Int) (Bk : Option Addr) (apO : Nat) (uS : List (List Int)) (r : Int) (w : World) (eS : Kd.C (Kd.slice 2 (Kd.int .i64)) w bJ ah.length ah) (eY : ah.length ≤ bI) (jK : Kd.C (Kd.int .i64) w A1 l1.length l1) (jJ : l1.length ≤ c1) (R6 : Kd.C (Kd.slice 2 (Kd.int .i64)) w Bk uS.length uS) (ahV : uS.length ≤ apO) (mm : w.heap[b1]? = some (.cells #[.slice A1 l1.length c1] 28 (0, 0))) (iU : w.heap[b2]? = some (sO vV Bk uS apO 31)) (h : aoB.f k au ah l1 vV uS = some r) :
  Calls Try.prog 125 #[.agg #[.int .i64 au,.slice bJ ah.length bI],.func (.func 126) #[] #[.pointer (some ⟨b1,0,none⟩),.pointer (some ⟨b2,0,none⟩)]] w fun e w'=>e=.returned (.int .i64 r)∧Below w.heap.size w w':=by
 have dh:=k0 eS
 clear eS
 have iQ:=k0 jK
 clear jK
 have HR2:=k0 R6
 clear R6
 have zE:=k0 mm
 have BZ1:=nX mm
 clear mm
 have qY:=k0 iU
 have BZ2:=nX iU
 clear iU
 unfold aoB.f at h
 obtain ⟨b,hb,h⟩:=Option.bind_eq_some_iff.mp h
 have HG:=fun W (hw:Below w.heap.size w W)=>fj.calls k au bJ bI ah b W (Kd.dU dh.z hw) eY hb
 have Hg:=k0 HG
 clear HG hb
 cases b with
 | false =>
  simp only [Bool.false_eq_true,if_false,Option.some.injEq] at h
  subst h
  go_enter Try.func125,Try.ntmps125
  go_wp2_with (first|(go_at_call 106;refine (Hg.out _ (by repeat (first|exact Below.refl _ _|apply bn|apply bq))).mono ?_;rintro e w1 ⟨rfl,mm⟩;have kg:=k0 (anH (by repeat (first|exact Below.refl _ _|apply bn|apply bq)) mm:Below w.heap.size w w1);clear mm;have Qs:w1.cell? ⟨b1,0,none⟩=some (.slice A1 l1.length c1):=(eX (cB zE.z kg.z) 0).trans rfl;have QT:=lC (cB zE.z kg.z) 0;have Qt:w1.cell? ⟨b2,0,none⟩=some (.int .i64 vV):=(eX (cB qY.z kg.z) 0).trans rfl;have QU:=lC (cB qY.z kg.z) 0;have Qu:w1.cell? ⟨b2,1,none⟩=some (.slice Bk uS.length apO):=(eX (cB qY.z kg.z) 1).trans rfl;have QV:=lC (cB qY.z kg.z) 1)|go_in)
  go_ret
  exact ⟨rs,by repeat (first|exact kg.z|apply bn|apply bq|apply anS)⟩
 | true =>
  simp only [if_true] at h
  obtain ⟨q0,R3,h⟩:=Option.bind_eq_some_iff.mp h
  have Nx:=fun W (hw:Below w.heap.size w W)=>jq.calls k A1 c1 l1 (vV) q0 W (Kd.dU iQ.z hw) jJ R3
  have Ny:=k0 Nx
  clear Nx R3
  cases q0 with
  | false =>
   simp only [Bool.false_eq_true,if_false,Option.some.injEq] at h
   subst h
   go_enter Try.func125,Try.ntmps125
   go_wp2_with (first|(go_at_call 106;refine (Hg.out _ (by repeat (first|exact Below.refl _ _|apply bn|apply bq))).mono ?_;rintro e w1 ⟨rfl,mm⟩;have kg:=k0 (anH (by repeat (first|exact Below.refl _ _|apply bn|apply bq)) mm:Below w.heap.size w w1);clear mm;have Qs:w1.cell? ⟨b1,0,none⟩=some (.slice A1 l1.length c1):=(eX (cB zE.z kg.z) 0).trans rfl;have QT:=lC (cB zE.z kg.z) 0;have Qt:w1.cell? ⟨b2,0,none⟩=some (.int .i64 vV):=(eX (cB qY.z kg.z) 0).trans rfl;have QU:=lC (cB qY.z kg.z) 0;have Qu:w1.cell? ⟨b2,1,none⟩=some (.slice Bk uS.length apO):=(eX (cB qY.z kg.z) 1).trans rfl;have QV:=lC (cB qY.z kg.z) 1)|(go_at_call 127;refine (Ny.out _ (by repeat (first|exact kg.z|apply bn|apply bq))).mono ?_;rintro e w_ ⟨rfl,⟨nd_,rfl⟩⟩)|go_in)
   go_ret
   exact ⟨rs,by repeat (first|exact kg.z|apply bn|apply bq|apply anS)⟩
  | true =>
   simp only [if_true] at h
   simp only [Option.some.injEq] at h
   subst h
   go_enter Try.func125,Try.ntmps125
   go_wp2_with (first|(go_at_call 106;refine (Hg.out _ (by repeat (first|exact Below.refl _ _|apply bn|apply bq))).mono ?_;rintro e w1 ⟨rfl,mm⟩;have kg:=k0 (anH (by repeat (first|exact Below.refl _ _|apply bn|apply bq)) mm:Below w.heap.size w w1);clear mm;have Qs:w1.cell? ⟨b1,0,none⟩=some (.slice A1 l1.length c1):=(eX (cB zE.z kg.z) 0).trans rfl;have QT:=lC (cB zE.z kg.z) 0;have Qt:w1.cell? ⟨b2,0,none⟩=some (.int .i64 vV):=(eX (cB qY.z kg.z) 0).trans rfl;have QU:=lC (cB qY.z kg.z) 0;have Qu:w1.cell? ⟨b2,1,none⟩=some (.slice Bk uS.length apO):=(eX (cB qY.z kg.z) 1).trans rfl;have QV:=lC (cB qY.z kg.z) 1)|(go_at_call 127;refine (Ny.out _ (by repeat (first|exact kg.z|apply bn|apply bq))).mono ?_;rintro e w_ ⟨rfl,⟨nd_,rfl⟩⟩)|go_in)
   go_ret
   exact ⟨rs,by repeat (first|exact kg.z|apply bn|apply bq|apply anS)⟩
/-! ### F128: function 128 -/
def fT.l0 : Nat → List (List Int) → Int → Int → Int → List (List Int) → Option (Int × (List (List Int)))
 | 0,_,_,_,_,_=>none
 | k+1,fP,gM,iO,T7,L0=>if iO < gM then (if 0≤iO then (if iO < (fP.length:Int) then ((qZ.f (ai fP iO)).bind fun t105=>(if L0.length < 5864062014805 then (fT.l0 k fP gM (wrap64 (iO+1)) T7 (L0 ++ [t105])) else (none))) else (none)) else (none)) else (some (T7,L0))
def fT.f (k:Nat) (au:Int) (ah:List (List Int)):Option (Int × (List (List Int))):=fT.l0 k ah (ah.length:Int) 0 au ([]:List (List Int))
theorem fT.cC : ∀ k, (∀ y0 y1 y2 y3 y4, ag (fT.l0 k y0 y1 y2 y3 y4) (fT.l0 (k + 1) y0 y1 y2 y3 y4))
 | 0=>fun _ _ _ _ _ r h=>by simp [fT.l0] at h
 | k+1=>by
  have a_:=fT.cC k
  ·intro y0 y1 y2 y3 y4
   unfold fT.l0
   repeat' first
    | (with_reducible first|exact a_ _ _ _ _ _|exact ag.refl _|exact ag.none _|refine ag.ite ?_ ?_|refine ag.bind ?_ (fun _=>?_))
    | exact a_ _ _ _ _ _|exact ag.none _|refine ag.ite ?_ ?_|refine ag.bind ?_ (fun _=>?_)
theorem fT.mono:∀ a0 a1 k,ag (fT.f k a0 a1) (fT.f (k+1) a0 a1):=by
 intro a0 a1 k
 have a_:=fT.cC k
 unfold fT.f
 repeat' first
  | (with_reducible first|exact a_ _ _ _ _ _|exact ag.refl _|exact ag.none _|refine ag.ite ?_ ?_|refine ag.bind ?_ (fun _=>?_))
  | exact a_ _ _ _ _ _|exact ag.none _|refine ag.ite ?_ ?_|refine ag.bind ?_ (fun _=>?_)
def fT.T5:Bool × List (List Nat × List Nat):=(true,[([],[]),([0],[0]),([],[]),([2],[2]),([3],[3]),([1,4,3],[1,4]),([0,1,2,3,4,5],[]),([6,5,5,0,1,2,3,4,5],[5,6])])
def fT.B5:List Nat:=[0,1,0,4,12,31,63,127]
theorem fT.apn:fh .any (opsOf Try.f128 5)=fT.T5:=by kernel_rfl
theorem fT.xz:kN fT.T5.2 fT.B5=true:=by kernel_rfl
theorem fT.calls (k : Nat) (au : Int) (bJ : Option Addr) (bI : Nat) (ah : List (List Int)) (r1 : Int) (r2 : List (List Int)) (w : World) (eS : Kd.C (Kd.slice 2 (Kd.int .i64)) w bJ ah.length ah) (eY : ah.length ≤ bI) (h : fT.f k au ah = some (r1, r2)) :
  Calls Try.prog 128 #[.agg #[.int .i64 au,.slice bJ ah.length bI]] w fun e w'=>∃ iw:Value,e=.returned (.agg #[.int .i64 r1,iw])∧Kd.S (Kd.slice 2 (Kd.int .i64)) 28 w' w.heap.size (fun _=>True) iw r2∧Below w.heap.size w w':=by
 have jS:=Try.underlying31
 have dP:=k0 eS
 have f_:=k0 eY
 clear eS eY
 have HB:=k0 (Below.refl w.heap.size w)
 have H:(fT.l0 k ah (ah.length:Int) 0 au ([]:List (List Int)))=some (r1,r2):=h
 clear h
 have H':=k0 H
 clear H
 go_enter Try.func128,Try.ntmps128
 go_wp2_with (first|((with_reducible refine bN (N:=1) rfl ?_);refine cE 1 #[.int .i64 au,.slice bJ ah.length bI] 31 ?_;intro aW hg w2 aG hb;have aa:=k0 (aG);have cu:=gW hg (anG bl);have anQ:=cu;replace HB:=k0 (anH bl hb);clear hb aG hg)|((with_reducible refine bN (N:=2) rfl ?_);refine cE 2 #[.int .i64 0,.slice none 0 0] 31 ?_;intro dJ hg w3 aG hb;have bp:=k0 (aG);have mI:=gW hg (anG bl);have gQ:=mI;replace HB:=k0 (anH bl hb);have iB:=nL hg aa;have aof:=nG iB;replace aa:=kB aa hb;clear hb aG hg;have abW:=iB.z;have ab9:=aof.z;have uG:=aX aa;have uH:=aY aa;have uI:=bF aa 0;have uJ:=bF aa 1)|((with_reducible refine bN (N:=3) rfl ?_);refine cE 3 #[.int .i64 0,.slice none 0 0] 31 ?_;intro qc hg w6 aG hb;have av:=kB aa hb;have ax:=kB bp hb;have ay:=k0 (anH bl hb);have anC:=k0 (aG);have aD:=k0 ((by rw [hg];exact (anG bl):w.heap.size≤qc));have anE:=k0 ((by rw [hg];exact (anG bl):w.heap.size≤qc));have anP:=nL hg aa;have bL:=nG anP;have b6:=nL hg bp;have cM:=nG b6;clear aa;clear bp;clear HB;have aa:=av;have bp:=ax;have HB:=ay;have an1:=anC;have M6:=aD;have M1:=anE;have rT:=anP;have vK:=bL;have tu:=b6;have xh:=cM;clear av ax ay anC aD anE anP bL b6 cM;clear hb aG hg;have J2:=vK.z;have J6:=rT.z;have ab0:=xh.z;have ace:=tu.z;have JG:=aX an1;have JH:=aY an1;have QS:=bF an1 0;have JV:=bF an1 1;have xW:=aX aa;have xX:=aY aa;have apc:=bF aa 0;have apd:=bF aa 1))
 go_loopg [12] k (fun kq v12 w'=>∃ (bO:Int) (ao3:List (List Int)) (u104001:Value),v12=.int .i64 bO∧ak (fT.l0 kq ah (ah.length:Int) bO au ao3=some (r1,r2))∧ak (kq≤k)∧ak (Kd.S (Kd.slice 2 (Kd.int .i64)) 28 w' w.heap.size (fun _=>True) u104001 ao3)∧ak (w'.heap[aW]?=some (sO au bJ ah bI 31))∧ak (w'.heap[dJ]?=some (.cells #[.int .i64 0,(.slice none 0 0)] 31 (0,0)))∧ak (w'.heap[qc]?=some (.cells #[.int .i64 au,u104001] 31 (0,0)))∧ak (Below w.heap.size w w'))
 case atStart=>exact ⟨(0),(([]:List (List Int))),(.slice none 0 0),rs,H',⟨Nat.le_refl _⟩,⟨by first|exact Kd.rX _ _ _ _ _|exact Kd.rV _ _ _ _ _|exact Kd.rY _ _ _ _ _|exact Kd.rW _ _ _ _ _|exact Kd.ny _ _ _ _ _⟩,⟨by (with_reducible repeat (first|refine anF ?_ _|refine aH ?_|refine aI ?_ _));refine anU ?_ rT.z _;(with_reducible repeat (first|refine anF ?_ _|refine aH ?_|refine aI ?_ _));refine anU ?_ rT.z _;exact bk⟩,⟨by (with_reducible repeat (first|refine anF ?_ _|refine aH ?_|refine aI ?_ _));refine anU ?_ tu.z _;(with_reducible repeat (first|refine anF ?_ _|refine aH ?_|refine aI ?_ _));refine anU ?_ tu.z _;exact bk⟩,⟨by (with_reducible repeat (first|refine anF ?_ _|refine aH ?_|refine aI ?_ _));refine anV (cs:=#[.int .i64 au,.slice none 0 0]) ?_ 1 _ rfl;(with_reducible repeat (first|refine anF ?_ _|refine aH ?_|refine aI ?_ _));refine anV (cs:=#[.int .i64 0,.slice none 0 0]) ?_ 0 _ rfl;exact bk⟩,⟨bl⟩⟩
 case round =>
  clear H'
  obtain ⟨bO,ao3,u104001,rfl,HA,bH,oY,aa,bp,an1,HB⟩:=hrel
  cases gk with
  | zero=>exact absurd HA.z (by simp [fT.l0])
  | succ k1 =>
   have H:=HA.z
   clear HA
   simp only [fT.l0] at H
   by_cases c11:bO < (ah.length:Int)
   case neg =>
    rw [if_neg c11] at H
    have lS:decide (bO < (ah.length:Int))=false:=decide_eq_false c11
    clear c11
    simp only [Option.some.injEq,Prod.mk.injEq] at H
    obtain ⟨rfl,rfl⟩:=H
    have alb:=vK.z
    have al8:=rT.z
    have alc:=xh.z
    have al9:=tu.z
    have aip:=aX an1
    have aiq:=aY an1
    have ajQ:=bF an1 0
    have ajR:=bF an1 1
    have RB:=aof.z
    have RT:=iB.z
    have air:=aX bp
    have ais:=aY bp
    have ajS:=bF bp 0
    have ajT:=bF bp 1
    obtain ⟨MJ,OW,Zr⟩:=Kd.eH oY.z
    subst Zr
    go_wp2
    refine bodyPost_ret (results_cell_row rfl _ _ dJ 31 #[.int .i64 au,.slice MJ ao3.length OW] (0,0) _ rfl (by (with_reducible repeat (first|refine anF ?_ _|refine aH ?_|refine aI ?_ _));refine anV (cs:=#[.int .i64 au,.slice none 0 0]) ?_ 1 _ rfl;(with_reducible repeat (first|refine anF ?_ _|refine aH ?_|refine aI ?_ _));refine anV (cs:=#[.int .i64 0,.slice none 0 0]) ?_ 0 _ rfl;exact bk) Try.underlying31 rfl (by kernel_rfl)) rfl ?_
    exact ⟨_,eR,by (with_reducible repeat (first|apply Kd.di|apply Kd.dm|apply Kd.cS));exact Kd.anW (gS 1 (.slice MJ ao3.length OW) (gS 0 (.int .i64 au) (tS oY bp))) (fun _ hk=>trivial),bl⟩
   rw [if_pos c11] at H
   have lS:=decide_eq_true c11
   clear c11
   replace H:=iS H;obtain ⟨c12,H⟩:=H
   have p6:=decide_eq_true c12
   clear c12
   replace H:=iS H;obtain ⟨c13,H⟩:=H
   have aoJ:=decide_eq_true c13
   clear c13
   replace H:=Option.bind_eq_some_iff.mp H
   obtain ⟨t105,rN,H⟩:=H
   replace H:(if ao3.length < 5864062014805 then (fT.l0 k1 ah (ah.length:Int) (wrap64 (bO+1)) au (ao3 ++ [t105])) else (none))=some (r1,r2):=H
   have wY:=k0 rN
   clear rN
   replace H:=iS H;obtain ⟨c15,H⟩:=H
   have apZ:=k0 c15
   clear c15
   obtain ⟨tV,sH⟩:∃ y_:List (List Int),y_=(ao3 ++ [t105]):=⟨_,rfl⟩
   replace H:(fT.l0 k1 ah (ah.length:Int) (wrap64 (bO+1)) au tV)=some (r1,r2):=rH sH H
   have apJ:=k0 sH
   clear sH
   have H':=k0 H
   clear H
   have eJ:0≤(bO:Int):=oD
   have eL:bO < (ah.length:Int):=oD
   obtain ⟨jY,Bd,B0,e104,eF,qg,qd⟩:=fu dP.z bO eJ eL
   cases e104
   replace eF:=hbc HB eF
   have tr:=k0 qd
   have Bw:=k0 qg
   clear qd qg
   replace eJ:=eq_true eJ
   replace eL:=eq_true eL
   try go_wp2
   replace oY:=k0 (Kd.cS oY.z);replace aa:=k0 (aH aa.z);replace bp:=k0 (aH bp.z);replace an1:=k0 (aH an1.z);replace HB:=k0 (anS HB.z)
   refine oO (n:=8) (S:=fun w'=>w'.cell? ⟨qc,0,none⟩=some (.int .i64 au)∧w'.cell? ⟨qc,1,none⟩=some (u104001)) (ds:=[7]) (ba 8 0) (by kernel_rfl) rfl rfl ⟨aX an1,aY an1⟩ (fun hHeld=>?_);refine qt fT.apn fT.xz (fun anM eE=>?_)
   generalize wr.drew=DX at oY aa bp an1 HB hHeld ⊢
   refine pu 0 (some 16) (ba 8 1) anM (h:=?_)
   refine pu 2 (some 18) (ba 8 5) anM (h:=?_)
   refine ta 1 (some 17) (ba 8 7) anM eE hHeld (hy:=Or.inl ⟨by rfl,by rintro w' ⟨s0,s1⟩;go_simp;with_reducible rfl⟩) (h:=?_)
   refine nF (i:=3) (N:=some 19) (ba 8 15) rfl rfl (j7 anM.out (by kernel_rfl)) (by decide) (fun K hK=>?_)
   refine uE Try.func151 (by kernel_rfl) rfl #[.slice Bd (ai ah bO).length B0] (by rfl) rfl rfl gm ?_
   with_reducible refine (qZ.calls _ _ (ai ah bO) t105 _ ?aA ?anD wY.z).mono ?_
   (case aA=>exact aC (Kd.dU tr.z HB.z))
   (case anD=>exact Bw.z)
   rintro e DY ⟨jm,rfl,aq,hb⟩
   refine ⟨_,rfl,?_⟩
   have av:=k0 (Kd.an6 (aS oY.z) (Kd.aU aq) hb)
   have ax:=k0 (Kd.cH aq (anG bl))
   have ay:=kB aa hb
   have anC:=kB bp hb
   have aD:=kB an1 hb
   have anE:=k0 (anH bl hb)
   clear oY
   clear aa
   clear bp
   clear an1
   clear HB
   have oY:=av
   have jv:=ax
   have aa:=ay
   have bp:=anC
   have an1:=aD
   have HB:=anE
   clear av ax ay anC aD anE
   obtain ⟨zz,we,tG⟩:=Kd.cK jv.z
   (first|subst tG|(injection tG with ig aoq ij;have aor:=ig.symm;have aos:=ij.symm;clear ig aoq ij;subst aor;subst aos))
   refine hK.out _ _ ⟨aX an1,aY an1⟩ (fun hHeld=>?_)
   clear hK K
   refine mY (a':=?_) ?_ ?_
   rotate_left;· show Act.put _ (some 19) _=_;simp only [Act.put,zI,zZ,zS,dX,eZ];rfl
   refine nF (i:=4) (N:=some 20) (ba 8 31) rfl rfl (j7 anM.out (by kernel_rfl)) (by decide) (fun K hK=>?_)
   refine ao2 (w1:=?_) (v:=?_) (by rfl) rfl ?_ ?_
   rotate_left 2
   ·go_simp
    constructor
    ·rfl
    ·rfl
   refine hK.out _ _ ⟨(eX (aI an1.z _) 0).trans rfl,(eX (aI an1.z _) 1).trans rfl⟩ (fun hHeld=>?_)
   clear hK K
   refine mY (a':=?_) ?_ ?_
   rotate_left;· show Act.put _ (some 20) _=_;simp only [Act.put,zI,zZ,zS,dX,eZ];rfl
   refine nF (i:=5) (N:=some 21) (ba 8 63) rfl rfl (j7 anM.out (by kernel_rfl)) (by decide) (fun K hK=>?_)
   refine Kd.Ic (Kd.slice 2 (Kd.int .i64)) (w0:=w) w.heap.size (by rfl) (.tmp 17) (.tmp 20) 22 28 (.slice none 0 0) 24 rfl Try.underlying22 qI rfl (by decide) (by omega) u104001 ao3 t105 [.slice zz t105.length we] (fun _=>True) (fun k_=>some k_=(.slice zz t105.length we:Value).ownBlock) rfl rfl ?aP (fun k_ b9=>((Kd.aT (ok':=fun k_=>((fun _=>True)) k_∧some k_ ≠ (u104001:Value).ownBlock) (Kd.jx (jv.z) (Kd.iR oY.z) (by decide)) (fun k_ hk=>⟨trivial,hk.2⟩))).1 k_ b9.symm) ?aF ?aO ?aB ?aS ?aL ?_
   (case aP=>exact Kd.lg (Kd.aT (Kd.oB rfl (Kd.aT (ok':=fun k_=>((fun _=>True)) k_∧some k_ ≠ (u104001:Value).ownBlock) (Kd.jx (jv.z) (Kd.iR oY.z) (by decide)) (fun k_ hk=>⟨trivial,hk.2⟩))) (fun _ h_=>h_)))
   (case aB=>exact bl)
   (case aF=>exact (fun _ _=>trivial))
   (case aO=>exact (by (with_reducible repeat (first|apply Kd.di|apply Kd.dm|apply Kd.cS));exact Kd.anW oY.z (fun k_ hk=>⟨trivial,fun e_=>hk.2 e_⟩)))
   (case aS=>exact (anG bl))
   (case aL=>have:=apZ.out;omega)
   intro v109 TR ho hb hg bz
   rw [← apJ.z] at ho
   have av:=k0 (gh (aB aa.z) hg (Kd.kD oY.z aa.z (by decide)))
   have ax:=k0 (gh (aB bp.z) hg (Kd.kD oY.z bp.z (by decide)))
   have ay:=k0 (gh (aB an1.z) hg (Kd.kD oY.z an1.z (by decide)))
   have anC:=k0 (hb)
   have aD:=k0 (ho)
   clear aa
   clear bp
   clear an1
   clear HB
   clear oY
   clear jv
   have aa:=av
   have bp:=ax
   have an1:=ay
   have HB:=anC
   have rQ:=aD
   clear av ax ay anC aD
   clear ho hb hg bz
   obtain ⟨oP,nC,pg⟩:=Kd.eH rQ.z
   (first|subst pg|(injection pg with ig aoq ij;have aor:=ig.symm;have aos:=ij.symm;clear ig aoq ij;subst aor;subst aos))
   refine hK.out _ _ ⟨aX an1,aY an1⟩ (fun hHeld=>?_)
   clear hK K
   refine mY (a':=?_) ?_ ?_
   rotate_left;· show Act.put _ (some 21) _=_;simp only [Act.put,zI,zZ,zS,dX,eZ];rfl
   refine pu 6 (some 22) (ba 8 127) anM (h:=?_)
   refine rC (i:=7) (N:=none) (ba 8 255) rfl rfl (j7 anM.out (by kernel_rfl)) (by decide) (fun K hK=>?_)
   have amN:=aY an1
   have ajk:=bF an1 1
   have amI:=rT.z
   have amJ:=tu.z
   have akP:=vK.z
   have akQ:=xh.z
   refine sZ (w1:=?_) (by rfl) rfl ?_ ?_
   rotate_left;· go_simp;rfl
   refine hK.out _ _ ?_
   clear hK K
   refine o_ (qF anM.out (by kernel_rfl)) ?_
   try go_wp2
   go_roundg k1
   case measure=>have:=bH.z;omega
   case rel=>exact ⟨(wrap64 (bO+1)),(tV),(.slice oP tV.length nC),rs,H',⟨by have:=bH.z;omega⟩,⟨aS (Kd.anW (gS 1 (.slice oP tV.length nC) (tS rQ an1)) (fun _ hk=>trivial))⟩,⟨by (with_reducible repeat (first|refine anF ?_ _|refine aH ?_|refine aI ?_ _));refine anU ?_ rT.z _;exact bk⟩,⟨by (with_reducible repeat (first|refine anF ?_ _|refine aH ?_|refine aI ?_ _));refine anU ?_ tu.z _;exact bk⟩,⟨by (with_reducible repeat (first|refine anF ?_ _|refine aH ?_|refine aI ?_ _));refine anV (cs:=#[.int .i64 au,u104001]) ?_ 1 _ rfl;exact bk⟩,⟨bl⟩⟩
end Go.Proofs.Ytoebojnhchocaaa.G
/- Set with little white space, by a program. -/
