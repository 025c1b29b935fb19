/- The functions that one law reaches, each as a Lean function, and that Go's call comes to what it says. Condition of each: that the Lean function answers (is not none). -/
import Derived.Test.YtoebojnhchocaaaBx0
import Derived.Test.YtoebojnhchocaaaBx1
namespace Go.Proofs.Ytoebojnhchocaaa.B
open Go.RowKit Go.Proofs.bC.eg Go.Proofs.bC.iZ Go.Proofs.bC.jr
attribute [local go_sem] max2_int min2_int max_two min_two max_three min_three max_four min_four   -- for this text's walks alone
set_option linter.unusedVariables false
set_option linter.unusedSimpArgs false
/-! ### F87: function 87 -/
def iE.l0 : Nat → List (List Int) → List (List Int) → Int → Option (Bool)
 | 0,_,_,_=>none
 | k+1,x0,x1,x5=>if x5 < (x0.length:Int) then (if 0≤x5 then (if x5 < (x1.length:Int) then ((fN.f k (ag x0 x5) (ag x1 x5)).bind fun t103=>(if t103=true then (iE.l0 k x0 x1 (wrap64 (x5+1))) else (some false))) else (none)) else (none)) else (some true)
def iE.f (k:Nat) (l0:List (List Int)) (l1:List (List Int)):Option (Bool):=if (l0.length:Int)=(l1.length:Int) then (iE.l0 k l0 l1 0) else (some false)
theorem iE.cj : ∀ k, (∀ y0 y1 y2, aj (iE.l0 k y0 y1 y2) (iE.l0 (k + 1) y0 y1 y2))
 | 0=>fun _ _ _ r h=>by simp [iE.l0] at h
 | k+1=>by
  have ali:=iE.cj k
  ·intro y0 y1 y2
   unfold iE.l0
   repeat' first
    | (with_reducible first|exact ali _ _ _|exact fN.mono _ _ _|exact aj.refl _|exact aj.none _|refine aj.ite ?_ ?_|refine aj.bind ?_ (fun _=>?_))
    | exact ali _ _ _|exact fN.mono _ _ _|exact aj.none _|refine aj.ite ?_ ?_|refine aj.bind ?_ (fun _=>?_)
theorem iE.mono:∀ a0 a1 k,aj (iE.f k a0 a1) (iE.f (k+1) a0 a1):=by
 intro a0 a1 k
 have ali:=iE.cj k
 unfold iE.f
 repeat' first
  | (with_reducible first|exact ali _ _ _|exact fN.mono _ _ _|exact aj.refl _|exact aj.none _|refine aj.ite ?_ ?_|refine aj.bind ?_ (fun _=>?_))
  | exact ali _ _ _|exact fN.mono _ _ _|exact aj.none _|refine aj.ite ?_ ?_|refine aj.bind ?_ (fun _=>?_)
set_option maxHeartbeats 8000000 in
set_option maxRecDepth 100000 in
theorem iE.calls (k : Nat) (A0 : Option Addr) (c0 : Nat) (l0 : List (List Int)) (A1 : Option Addr) (c1 : Nat) (l1 : List (List Int)) (r : Bool) (w : World) (cI : Kd.C (Kd.slice 2 (Kd.int .i64)) w A0 l0.length l0) (hc0 : l0.length ≤ c0) (cE : Kd.C (Kd.slice 2 (Kd.int .i64)) w A1 l1.length l1) (dW : l1.length ≤ c1) (h : iE.f k l0 l1 = some r) :
  Calls Try.prog 87 #[.slice A0 l0.length c0,.slice A1 l1.length c1] w fun e w'=>e=.returned (.bool r)∧als w w':=by
 have eA:=k0 cI
 have kP:=k0 hc0
 clear cI hc0
 have eP:=k0 cE
 have nk:=k0 dW
 clear cE dW
 have H:(if (l0.length:Int)=(l1.length:Int) then (iE.l0 k l0 l1 0) else (some false))=some r:=h
 clear h
 by_cases c3:(l0.length:Int)=(l1.length:Int)
 case neg =>
  rw [if_neg c3] at H
  have ja:((l0.length:Int) == (l1.length:Int))=false:=beq_eq_false_iff_ne.mpr c3
  have ov:((l0.length:Int) != (l1.length:Int))=true:=bne_iff_ne.mpr c3
  have Cn:(l0.length == l1.length)=false:=by first|simpa using c3|(simp at c3 ⊢;omega)
  obtain rfl:=Option.some.inj H
  go_enter Try.func87,Try.ntmps87
  go_wp2
  repeat (go_quiet (fail);try go_wp2)
  go_ret
  exact ⟨by first|rfl|(simp;done)|(simp [*];done),by repeat (first|exact als.refl _|apply als.step)⟩
 rw [if_pos c3] at H
 have ja:((l0.length:Int) == (l1.length:Int))=true:=beq_iff_eq.mpr c3
 have ov:((l0.length:Int) != (l1.length:Int))=false:=bne_eq_false_iff_eq.mpr c3
 have Cn:(l0.length == l1.length)=true:=by first|simpa using c3|(simp at c3 ⊢;omega)
 clear c3
 have H':=k0 H
 clear H
 go_enter Try.func87,Try.ntmps87
 go_wp2
 repeat (go_quiet (fail);try go_wp2)
 go_loopg [5] k (fun kq v5 w'=>∃ (aI:Int),v5=.int .i64 aI∧ak (iE.l0 kq l0 l1 aI=some r)∧ak (kq≤k)∧als w w')
 case atStart=>exact ⟨(0),rs,H',⟨Nat.le_refl _⟩,by repeat (first|exact als.refl _|apply als.step)⟩
 case round =>
  clear H'
  (try clear c3);(try clear ja);(try clear ov);(try clear Cn)
  obtain ⟨aI,rfl,HA,aM,⟨m1,rfl⟩⟩:=hrel
  cases gk with
  | zero=>exact absurd HA.out (by simp [iE.l0])
  | succ k1 =>
   have H:=HA.out
   clear HA
   simp only [iE.l0] at H
   by_cases c4:aI < (l0.length:Int)
   case neg =>
    rw [if_neg c4] at H
    have eV:decide (aI < (l0.length:Int))=false:=decide_eq_false c4
    clear c4
    obtain rfl:=Option.some.inj H
    go_wp2
    repeat (go_quiet (fail);try go_wp2)
    go_ret
    exact ⟨by first|rfl|(simp;done)|(simp [*];done),by repeat (first|exact als.refl _|apply als.step)⟩
   rw [if_pos c4] at H
   have eV:=decide_eq_true c4
   clear c4
   replace H:=iS H;obtain ⟨c5,H⟩:=H
   have jb:=decide_eq_true c5
   clear c5
   replace H:=iS H;obtain ⟨c6,H⟩:=H
   have jk:=decide_eq_true c6
   clear c6
   replace H:=Option.bind_eq_some_iff.mp H
   obtain ⟨t103,amI,H⟩:=H
   replace H:(if t103=true then (iE.l0 k1 l0 l1 (wrap64 (aI+1))) else (some false))=some r:=H
   have A7:=k0 amI
   clear amI
   by_cases c8:t103=true
   case neg =>
    replace c8:=Bool.eq_false_iff.mpr c8
    subst c8
    have H1:(some false)=some r:=by rw [if_neg (show ¬ (false=true) by decide)] at H;exact H
    clear H
    have H:=H1
    clear H1
    obtain rfl:=Option.some.inj H
    have fY:0≤(aI:Int):=oD
    have fZ:aI < (l0.length:Int):=oD
    obtain ⟨sY,BH,Ch,e101,rK,tO,tI⟩:=cZ eA.out aI fY fZ
    cases e101
    have sV:=k0 tI
    have sQ:=k0 tO
    clear tI tO
    replace fY:=eq_true fY
    replace fZ:=eq_true fZ
    have eR:0≤(aI:Int):=oD
    have eS:aI < (l1.length:Int):=oD
    obtain ⟨rj,vt,vN,e102,jd,jz,jx⟩:=cZ eP.out aI eR eS
    cases e102
    have jq:=k0 jx
    have pR:=k0 jz
    clear jx jz
    replace eR:=eq_true eR
    replace eS:=eq_true eS
    go_wp2_with (first|(go_at_call 18;(with_reducible refine (fN.calls k1 _ _ (ag l0 aI) _ _ (ag l1 aI) false _ ?bt ?bu ?dZ ?ez A7.out).mono ?_);(case bt=>exact aC sV.out);(case bu=>exact sQ.out);(case dZ=>exact aC jq.out);(case ez=>exact pR.out);rintro e w' ⟨rfl,⟨nd,rfl⟩⟩;(try first|exact ⟨rfl,_,World.drewN_drewN _ _ _⟩|exact ⟨rfl,_,Eq.trans (World.drewN_drewN _ _ _) (congrArg (World.drewN _) (Nat.add_assoc _ _ _))⟩)))
    repeat (go_quiet (first|(go_at_call 18;(with_reducible refine (fN.calls k1 _ _ (ag l0 aI) _ _ (ag l1 aI) false _ ?bt ?bu ?dZ ?ez A7.out).mono ?_);(case bt=>exact aC sV.out);(case bu=>exact sQ.out);(case dZ=>exact aC jq.out);(case ez=>exact pR.out);rintro e w' ⟨rfl,⟨nd,rfl⟩⟩;(try first|exact ⟨rfl,_,World.drewN_drewN _ _ _⟩|exact ⟨rfl,_,Eq.trans (World.drewN_drewN _ _ _) (congrArg (World.drewN _) (Nat.add_assoc _ _ _))⟩)));try go_wp2_with (first|(go_at_call 18;(with_reducible refine (fN.calls k1 _ _ (ag l0 aI) _ _ (ag l1 aI) false _ ?bt ?bu ?dZ ?ez A7.out).mono ?_);(case bt=>exact aC sV.out);(case bu=>exact sQ.out);(case dZ=>exact aC jq.out);(case ez=>exact pR.out);rintro e w' ⟨rfl,⟨nd,rfl⟩⟩;(try first|exact ⟨rfl,_,World.drewN_drewN _ _ _⟩|exact ⟨rfl,_,Eq.trans (World.drewN_drewN _ _ _) (congrArg (World.drewN _) (Nat.add_assoc _ _ _))⟩))))
    go_ret
    exact ⟨by first|rfl|(simp;done)|(simp [*];done),by repeat (first|exact als.refl _|apply als.step)⟩
   subst c8
   have H1:(iE.l0 k1 l0 l1 (wrap64 (aI+1)))=some r:=by rw [if_pos rfl] at H;exact H
   clear H
   have H:=H1
   clear H1
   have H':=k0 H
   clear H
   have fY:0≤(aI:Int):=oD
   have fZ:aI < (l0.length:Int):=oD
   obtain ⟨sY,BH,Ch,e101,rK,tO,tI⟩:=cZ eA.out aI fY fZ
   cases e101
   have sV:=k0 tI
   have sQ:=k0 tO
   clear tI tO
   replace fY:=eq_true fY
   replace fZ:=eq_true fZ
   have eR:0≤(aI:Int):=oD
   have eS:aI < (l1.length:Int):=oD
   obtain ⟨rj,vt,vN,e102,jd,jz,jx⟩:=cZ eP.out aI eR eS
   cases e102
   have jq:=k0 jx
   have pR:=k0 jz
   clear jx jz
   replace eR:=eq_true eR
   replace eS:=eq_true eS
   go_wp2_with (first|(go_at_call 18;(with_reducible refine (fN.calls k1 _ _ (ag l0 aI) _ _ (ag l1 aI) true _ ?bt ?bu ?dZ ?ez A7.out).mono ?_);(case bt=>exact aC sV.out);(case bu=>exact sQ.out);(case dZ=>exact aC jq.out);(case ez=>exact pR.out);rintro e w' ⟨rfl,⟨nd,rfl⟩⟩;(try first|exact ⟨rfl,_,World.drewN_drewN _ _ _⟩|exact ⟨rfl,_,Eq.trans (World.drewN_drewN _ _ _) (congrArg (World.drewN _) (Nat.add_assoc _ _ _))⟩)))
   repeat (go_quiet (first|(go_at_call 18;(with_reducible refine (fN.calls k1 _ _ (ag l0 aI) _ _ (ag l1 aI) true _ ?bt ?bu ?dZ ?ez A7.out).mono ?_);(case bt=>exact aC sV.out);(case bu=>exact sQ.out);(case dZ=>exact aC jq.out);(case ez=>exact pR.out);rintro e w' ⟨rfl,⟨nd,rfl⟩⟩;(try first|exact ⟨rfl,_,World.drewN_drewN _ _ _⟩|exact ⟨rfl,_,Eq.trans (World.drewN_drewN _ _ _) (congrArg (World.drewN _) (Nat.add_assoc _ _ _))⟩)));try go_wp2_with (first|(go_at_call 18;(with_reducible refine (fN.calls k1 _ _ (ag l0 aI) _ _ (ag l1 aI) true _ ?bt ?bu ?dZ ?ez A7.out).mono ?_);(case bt=>exact aC sV.out);(case bu=>exact sQ.out);(case dZ=>exact aC jq.out);(case ez=>exact pR.out);rintro e w' ⟨rfl,⟨nd,rfl⟩⟩;(try first|exact ⟨rfl,_,World.drewN_drewN _ _ _⟩|exact ⟨rfl,_,Eq.trans (World.drewN_drewN _ _ _) (congrArg (World.drewN _) (Nat.add_assoc _ _ _))⟩))))
   go_roundg k1
   case measure=>have:=aM.out;omega
   case rel=>exact ⟨(wrap64 (aI+1)),rs,H',⟨by have:=aM.out;omega⟩,by repeat (first|exact als.refl _|apply als.step)⟩
/-! ### F28: function 28 -/
def sP.f (k:Nat) (af:Int) (aa:List (List Int)) (gi:Int) (alA:List (List Int)):Option (Bool):=if af=gi then ((iE.f k aa alA).bind fun t103=>(if t103=true then (some true) else (some false))) else (some false)
theorem sP.mono:∀ a0 a1 a2 a3 k,aj (sP.f k a0 a1 a2 a3) (sP.f (k+1) a0 a1 a2 a3):=by
 intro a0 a1 a2 a3 k
 unfold sP.f
 repeat' first
  | (with_reducible first|exact iE.mono _ _ _|exact aj.refl _|exact aj.none _|refine aj.ite ?_ ?_|refine aj.bind ?_ (fun _=>?_))
  | exact iE.mono _ _ _|exact aj.none _|refine aj.ite ?_ ?_|refine aj.bind ?_ (fun _=>?_)
set_option maxHeartbeats 8000000 in
set_option maxRecDepth 100000 in
theorem sP.calls (k : Nat) (af : Int) (au : Option Addr) (aq : Nat) (aa : List (List Int)) (gi : Int) (iU : Option Addr) (i_ : Nat) (alA : List (List Int)) (r : Bool) (w : World) (cl : Kd.C (Kd.slice 2 (Kd.int .i64)) w au aa.length aa) (cn : aa.length ≤ aq) (amW : Kd.C (Kd.slice 2 (Kd.int .i64)) w iU alA.length alA) (ank : alA.length ≤ i_) (h : sP.f k af aa gi alA = some r) :
  Calls Try.prog 28 #[.agg #[.int .i64 af,.slice au aa.length aq],.agg #[.int .i64 gi,.slice iU alA.length i_]] w fun e w'=>e=.returned (.bool r)∧Below w.heap.size w w':=by
 have kF:=Try.underlying31
 have alx:=k0 cl
 have di:=k0 cn
 clear cl cn
 have NM:=k0 amW
 have Nd:=k0 ank
 clear amW ank
 have HB:=k0 (Below.refl w.heap.size w)
 have H:(if af=gi then ((iE.f k aa alA).bind fun t103=>(if t103=true then (some true) else (some false))) else (some false))=some r:=h
 clear h
 by_cases c3:af=gi
 case neg =>
  rw [if_neg c3] at H
  have ja:(af == gi)=false:=beq_eq_false_iff_ne.mpr c3
  have ov:(af != gi)=true:=bne_iff_ne.mpr c3
  obtain rfl:=Option.some.inj H
  go_enter Try.func28,Try.ntmps28
  go_wp2_with (first|((with_reducible refine cy (N:=2) rfl ?_);refine ec ?hg (N:=2) ?hd (cs:=#[.int .i64 af,.slice au aa.length aq]) (t:=31) ?hr ?_;(case hd=>rfl);(case hg=>rfl);(case hr=>first|(go_simp;done)|(go_simp;rfl));intro ai hg Em aJ hb;have ah:=k0 (aJ);have cr:=k0 ((by rw [hg];exact (aU bl):w.heap.size≤ai));have eL:=cr;replace HB:=k0 (aG bl hb);clear hb aJ hg)|((with_reducible refine cy (N:=3) rfl ?_);refine ec ?hg (N:=3) ?hd (cs:=#[.int .i64 gi,.slice iU alA.length i_]) (t:=31) ?hr ?_;(case hd=>rfl);(case hg=>rfl);(case hr=>first|(go_simp;done)|(go_simp;rfl));intro fW hg nc aJ hb;have jJ:=k0 (aJ);have vC:=k0 ((by rw [hg];exact (aU bl):w.heap.size≤fW));have EG:=vC;replace HB:=k0 (aG bl hb);have vI:=k0 ((by rw [hg];exact Nat.ne_of_lt (alq (g:=ai) (o:=sO af au aa aq 31) bk):ai ≠ fW));have vK:=k0 ((by rw [hg];exact Nat.ne_of_gt (alq (g:=ai) (o:=sO af au aa aq 31) bk):fW ≠ ai));replace ah:=k0 (alg (g:=ai) (o:=sO af au aa aq 31) bk hb);clear hb aJ hg;have abH:=vI.out;have abK:=vK.out;have sk:nc.cell? ⟨ai,0,none⟩=some (.int .i64 af):=(av ah.out 0).trans rfl;have xP:nc.cell? ⟨ai,1,none⟩=some (.slice au aa.length aq):=(av ah.out 1).trans rfl;have sw:=ale ah.out 0;have xV:=ale ah.out 1;have Kk:nc.cell? ⟨fW,0,none⟩=some (.int .i64 gi):=(av jJ.out 0).trans rfl;have Kl:nc.cell? ⟨fW,1,none⟩=some (.slice iU alA.length i_):=(av jJ.out 1).trans rfl;have Ky:=ale jJ.out 0;have Kz:=ale jJ.out 1))
  go_ret
  exact ⟨by first|rfl|(simp [bA,bB]<;>rfl)|(simp [*,bA,bB]<;>rfl),bl⟩
 rw [if_pos c3] at H
 have ja:(af == gi)=true:=beq_iff_eq.mpr c3
 have ov:(af != gi)=false:=bne_eq_false_iff_eq.mpr c3
 clear c3
 replace H:=Option.bind_eq_some_iff.mp H
 obtain ⟨t103,jH,H⟩:=H
 replace H:(if t103=true then (some true) else (some false))=some r:=H
 have A4:=k0 jH
 clear jH
 by_cases c5:t103=true
 case neg =>
  replace c5:=Bool.eq_false_iff.mpr c5
  subst c5
  have H1:(some false)=some r:=by rw [if_neg (show ¬ (false=true) by decide)] at H;exact H
  clear H
  have H:=H1
  clear H1
  obtain rfl:=Option.some.inj H
  go_enter Try.func28,Try.ntmps28
  go_wp2_with (first|((with_reducible refine cy (N:=2) rfl ?_);refine ec ?hg (N:=2) ?hd (cs:=#[.int .i64 af,.slice au aa.length aq]) (t:=31) ?hr ?_;(case hd=>rfl);(case hg=>rfl);(case hr=>first|(go_simp;done)|(go_simp;rfl));intro ai hg eM aJ hb;have ah:=k0 (aJ);have cr:=k0 ((by rw [hg];exact (aU bl):w.heap.size≤ai));have eL:=cr;replace HB:=k0 (aG bl hb);clear hb aJ hg)|((with_reducible refine cy (N:=3) rfl ?_);refine ec ?hg (N:=3) ?hd (cs:=#[.int .i64 gi,.slice iU alA.length i_]) (t:=31) ?hr ?_;(case hd=>rfl);(case hg=>rfl);(case hr=>first|(go_simp;done)|(go_simp;rfl));intro fW hg gM aJ hb;have jJ:=k0 (aJ);have vC:=k0 ((by rw [hg];exact (aU bl):w.heap.size≤fW));have EG:=vC;replace HB:=k0 (aG bl hb);have vI:=k0 ((by rw [hg];exact Nat.ne_of_lt (alq (g:=ai) (o:=sO af au aa aq 31) bk):ai ≠ fW));have vK:=k0 ((by rw [hg];exact Nat.ne_of_gt (alq (g:=ai) (o:=sO af au aa aq 31) bk):fW ≠ ai));replace ah:=k0 (alg (g:=ai) (o:=sO af au aa aq 31) bk hb);clear hb aJ hg;have aiU:=vI.out;have ajs:=vK.out;have wm:gM.cell? ⟨ai,0,none⟩=some (.int .i64 af):=(av ah.out 0).trans rfl;have wo:gM.cell? ⟨ai,1,none⟩=some (.slice au aa.length aq):=(av ah.out 1).trans rfl;have wC:=ale ah.out 0;have wD:=ale ah.out 1;have QD:gM.cell? ⟨fW,0,none⟩=some (.int .i64 gi):=(av jJ.out 0).trans rfl;have QE:gM.cell? ⟨fW,1,none⟩=some (.slice iU alA.length i_):=(av jJ.out 1).trans rfl;have QY:=ale jJ.out 0;have QZ:=ale jJ.out 1)|((with_reducible refine fo (f:=87) rfl ?_);refine fq (some 14) rfl rfl Try.func87 (by kernel_rfl) rfl #[.slice au aa.length aq,.slice iU alA.length i_] rfl gm ?_;(with_reducible refine (iE.calls k _ _ aa _ _ alA false _ ?bt ?bu ?dZ ?ez A4.out).mono ?_);(case bt=>exact aC (Kd.bI alx.out HB.out));(case bu=>exact di.out);(case dZ=>exact aC (Kd.bI NM.out HB.out));(case ez=>exact Nd.out);rintro e w' ⟨rfl,⟨nd,rfl⟩⟩;refine ⟨_,rfl,?_⟩))
  go_ret
  exact ⟨by first|rfl|(simp [bA,bB]<;>rfl)|(simp [*,bA,bB]<;>rfl),bl⟩
 subst c5
 have H1:(some true)=some r:=by rw [if_pos rfl] at H;exact H
 clear H
 have H:=H1
 clear H1
 obtain rfl:=Option.some.inj H
 go_enter Try.func28,Try.ntmps28
 go_wp2_with (first|((with_reducible refine cy (N:=2) rfl ?_);refine ec ?hg (N:=2) ?hd (cs:=#[.int .i64 af,.slice au aa.length aq]) (t:=31) ?hr ?_;(case hd=>rfl);(case hg=>rfl);(case hr=>first|(go_simp;done)|(go_simp;rfl));intro ai hg w6 aJ hb;have ah:=k0 (aJ);have cr:=k0 ((by rw [hg];exact (aU bl):w.heap.size≤ai));have eL:=cr;replace HB:=k0 (aG bl hb);clear hb aJ hg)|((with_reducible refine cy (N:=3) rfl ?_);refine ec ?hg (N:=3) ?hd (cs:=#[.int .i64 gi,.slice iU alA.length i_]) (t:=31) ?hr ?_;(case hd=>rfl);(case hg=>rfl);(case hr=>first|(go_simp;done)|(go_simp;rfl));intro fW hg w7 aJ hb;have jJ:=k0 (aJ);have vC:=k0 ((by rw [hg];exact (aU bl):w.heap.size≤fW));have EG:=vC;replace HB:=k0 (aG bl hb);have vI:=k0 ((by rw [hg];exact Nat.ne_of_lt (alq (g:=ai) (o:=sO af au aa aq 31) bk):ai ≠ fW));have vK:=k0 ((by rw [hg];exact Nat.ne_of_gt (alq (g:=ai) (o:=sO af au aa aq 31) bk):fW ≠ ai));replace ah:=k0 (alg (g:=ai) (o:=sO af au aa aq 31) bk hb);clear hb aJ hg;have abI:=vI.out;have abL:=vK.out;have tC:w7.cell? ⟨ai,0,none⟩=some (.int .i64 af):=(av ah.out 0).trans rfl;have tD:w7.cell? ⟨ai,1,none⟩=some (.slice au aa.length aq):=(av ah.out 1).trans rfl;have amx:=ale ah.out 0;have tH:=ale ah.out 1;have wj:w7.cell? ⟨fW,0,none⟩=some (.int .i64 gi):=(av jJ.out 0).trans rfl;have wk:w7.cell? ⟨fW,1,none⟩=some (.slice iU alA.length i_):=(av jJ.out 1).trans rfl;have amG:=ale jJ.out 0;have wB:=ale jJ.out 1)|((with_reducible refine fo (f:=87) rfl ?_);refine fq (some 14) rfl rfl Try.func87 (by kernel_rfl) rfl #[.slice au aa.length aq,.slice iU alA.length i_] rfl gm ?_;(with_reducible refine (iE.calls k _ _ aa _ _ alA true _ ?bt ?bu ?dZ ?ez A4.out).mono ?_);(case bt=>exact aC (Kd.bI alx.out HB.out));(case bu=>exact di.out);(case dZ=>exact aC (Kd.bI NM.out HB.out));(case ez=>exact Nd.out);rintro e w' ⟨rfl,⟨nd,rfl⟩⟩;refine ⟨_,rfl,?_⟩))
 go_ret
 exact ⟨by first|rfl|(simp [bA,bB]<;>rfl)|(simp [*,bA,bB]<;>rfl),bl⟩
/-! ### F88: function 88 -/
def nj.l0 : Nat → List (List Int) → Int → Int → Option (Int × List (List Int))
 | 0,_,_,_=>none
 | k+1,x,a,i=>if i < (x.length:Int) then (if 0≤i then ((iy.f k (qR x i) a).bind fun t=>nj.l0 k (x.set i.toNat t.2) t.1 (wrap64 (i+1))) else none) else some (a,x)
def nj.f (k:Nat) (l0:List (List Int)) (a1:Int):Option (Int × List (List Int)):=nj.l0 k l0 a1 0
set_option maxHeartbeats 8000000 in
set_option maxRecDepth 100000 in
theorem nj.calls (k : Nat) (iY : Nat → Prop) (A0 : Option Addr) (n0 c0 : Nat) (l0 : List (List Int)) (a1 : Int) (r1 : Int) (r2 : List (List Int)) (w0 w : World) (hB : Below w0.heap.size w0 w) (aY : Kd.S (KL 2) 28 w w0.heap.size iY (.slice A0 n0 c0) l0) (h : nj.f k l0 a1 = some (r1, r2)) :
  Calls Try.prog 88 #[.slice A0 n0 c0,.int .i64 a1] w fun e w'=>e=.returned (.int .i64 r1)∧Kd.S (KL 2) 28 w' w0.heap.size iY (.slice A0 n0 c0) r2∧Below w0.heap.size w0 w'∧Kept w w' iY:=by
 have HS:=k0 aY
 have HB:=k0 hB
 have HL:=k0 (Kd.ck aY).1
 have H':ak (nj.l0 k l0 a1 0=some (r1,r2)):=⟨h⟩
 clear aY hB h
 go_enter Try.func88,Try.ntmps88
 go_wp2
 go_loopg [1,5] k (fun kq v1 v5 w'=>∃ (a i:Int) (x:List (List Int)),v1=.int .i64 a∧v5=.int .i64 i∧ak (nj.l0 kq x a i=some (r1,r2))∧ak (kq≤k)∧ak (Kd.S (KL 2) 28 w' w0.heap.size iY (.slice A0 n0 c0) x)∧ak (Below w0.heap.size w0 w')∧ak (Kept w w' iY))
 case atStart=>exact ⟨a1,0,l0,rfl,rfl,H',⟨Nat.le_refl _⟩,HS,HB,⟨Kept.refl _ _⟩⟩
 case round =>
  clear H' HS HB HL
  obtain ⟨a,i,x,rfl,rfl,HA,aM,HS,HB,HK⟩:=hrel
  cases gk with
  | zero=>exact absurd HA.out (by simp [nj.l0])
  | succ k1 =>
   have H:=HA.out
   clear HA
   simp only [nj.l0] at H
   have HL:=k0 (Kd.ck HS.out).1
   by_cases c2:i < (x.length:Int)
   case neg =>
    rw [if_neg c2] at H
    have H2:=Option.some.inj H
    injection H2 with h1 h2
    subst h1 h2
    have OB:decide (i < (n0:Int))=false:=by rw [HL.out];exact decide_eq_false c2
    clear H c2 HL
    go_wp2
    go_ret
    exact ⟨by first|rfl|(simp;done)|(simp [*];done),HS.out,HB.out,HK.out⟩
   rw [if_pos c2] at H
   replace H:=iS H;obtain ⟨c3,H⟩:=H
   obtain ⟨t,ht,H⟩:=Option.bind_eq_some_iff.mp H
   have H':=k0 H
   have HT:=k0 ht
   clear H ht
   have OB:decide (i < (n0:Int))=true:=by rw [HL.out];exact decide_eq_true c2
   obtain ⟨ad,Ai,ci,hA,hcell,hci,hC,hR,hok,hput⟩:=Wr HS.out i c3 (by rw [HL.out];exact c2)
   cases hA
   have HR:=k0 hR
   have anT:=k0 hok
   have HP:=k0 @hput
   have XH:=decide_eq_true c3
   have XI:=eq_true c3
   have c2p:(i < (n0:Int))=True:=eq_true (of_decide_eq_true OB)
   clear hC hR hok hput c2 c3 HL
   go_wp2_with (go_at_call 21;refine (iy.calls k1 _ _ (qR x i) a t.1 t.2 w0 _ HB.out HR.out HT.out).mono ?_;rintro e w2 ⟨rfl,lC,hb2,hk2⟩;have fl:=k0 hb2;have Io:=k0 (HP.out (Z9 HB.out hb2 hk2) lC);have bp:=k0 (HK.out.Eg hk2 (fun k_ b8=>.inl (anT.out k_ b8)));clear lC hb2 hk2)
   go_roundg k1
   case measure=>have:=aM.out;omega
   case rel=>exact ⟨t.1,(wrap64 (i+1)),_,rs,rs,H',⟨by have:=aM.out;omega⟩,Io,fl,bp⟩
/-! ### F29: function 29 -/
set_option maxHeartbeats 8000000 in
set_option maxRecDepth 100000 in
theorem UA.calls (k : Nat) (iY : Nat → Prop) (af : Int) (A0 : Option Addr) (n0 c0 : Nat) (l0 : List (List Int)) (a1 : Int) (r1 : Int) (r2 : List (List Int)) (w0 w : World) (hB : Below w0.heap.size w0 w) (aY : Kd.S (KL 2) 28 w w0.heap.size iY (.slice A0 n0 c0) l0) (h : nj.f k l0 a1 = some (r1, r2)) :
  Calls Try.prog 29 #[.agg #[.int .i64 af,.slice A0 n0 c0],.int .i64 a1] w fun e w'=>e=.returned (.int .i64 r1)∧Kd.S (KL 2) 28 w' w0.heap.size iY (.slice A0 n0 c0) r2∧Below w0.heap.size w0 w'∧Kept w w' iY:=by
 have HS:=k0 aY
 have HB:=k0 hB
 have H':=k0 h
 clear aY hB h
 go_enter Try.func29,Try.ntmps29
 go_wp2_with (go_at_call 88;refine (nj.calls k iY A0 n0 c0 l0 a1 r1 r2 w0 _ (HB.out.alloc HB.out.size _) (Kd.alN HS.out _) H'.out).mono ?_;rintro e w2 ⟨rfl,lC,hb2,hk2⟩;have Io:=k0 lC;have fl:=k0 hb2;have bp:=k0 ((Kept.alloc (Kept.refl w iY) _).Eg hk2 (fun k_ b8=>.inl b8));clear lC hb2 hk2)
 go_ret
 exact ⟨by first|rfl|(simp;done)|(simp [*];done),Io.out,fl.out,bp.out⟩
end Go.Proofs.Ytoebojnhchocaaa.B
/- Set with little white space, by a program. -/
