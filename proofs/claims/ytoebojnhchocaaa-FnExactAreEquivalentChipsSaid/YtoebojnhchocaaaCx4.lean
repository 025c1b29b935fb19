/- The functions that one law reaches, each as a Lean function, and that Go's call comes to what it says. Condition of each: that the Lean function answers (is not none). -/
import Derived.Test.YtoebojnhchocaaaCx0
import Derived.Test.YtoebojnhchocaaaCx2
import Derived.Test.YtoebojnhchocaaaCx3
namespace Go.Proofs.Ytoebojnhchocaaa.C
open Go.RowKit Go.Proofs.bI.en Go.Proofs.bI.je Go.Proofs.bI.jC
attribute [local go_sem] max2_int min2_int max_two min_two max_three min_three max_four min_four   -- for this text's walks alone
set_option linter.unusedVariables false
set_option linter.unusedSimpArgs false
/-! ### F89: function 89 -/
def gP.j0 : Nat → Int → Bool → Int → List (List Int) → Option (Int)
 | 0,_,_,_,_=>none
 | k+1,x7,x20,bR,bJ=>if x20=true then (if 2=0 then ((nC.f k bR bJ).bind fun t104=>(if t104=true then (some 2) else (some 5))) else (some 2)) else (if x7=0 then ((nC.f k bR bJ).bind fun t105=>(if t105=true then (some x7) else (some 5))) else (some x7))
def gP.f (k:Nat) (af:Int) (aa:List (List Int)) (a1:Int) (l2:List (List Int)):Option (Int):=(eO.f k af aa l2).bind fun t102=>(if t102=0 then ((gy.f a1 0 (wrap64 (af - 1))).bind fun t103=>(gP.j0 k t102 (!t103) af aa)) else (gP.j0 k t102 false af aa))
theorem gP.b8 : ∀ k, (∀ y0 y1 y2 y3, aj (gP.j0 k y0 y1 y2 y3) (gP.j0 (k + 1) y0 y1 y2 y3))
 | 0=>fun _ _ _ _ r h=>by simp [gP.j0] at h
 | k+1=>by
  have akk:=gP.b8 k
  ·intro y0 y1 y2 y3
   unfold gP.j0
   repeat' first
    | (with_reducible first|exact akk _ _ _ _|exact nC.mono _ _ _|exact eO.mono _ _ _ _|exact aj.refl _|exact aj.none _|refine aj.ite ?_ ?_|refine aj.bind ?_ (fun _=>?_))
    | exact akk _ _ _ _|exact nC.mono _ _ _|exact eO.mono _ _ _ _|exact aj.none _|refine aj.ite ?_ ?_|refine aj.bind ?_ (fun _=>?_)
theorem gP.mono:∀ a0 a1 a2 a3 k,aj (gP.f k a0 a1 a2 a3) (gP.f (k+1) a0 a1 a2 a3):=by
 intro a0 a1 a2 a3 k
 have akk:=gP.b8 k
 unfold gP.f
 repeat' first
  | (with_reducible first|exact akk _ _ _ _|exact nC.mono _ _ _|exact eO.mono _ _ _ _|exact aj.refl _|exact aj.none _|refine aj.ite ?_ ?_|refine aj.bind ?_ (fun _=>?_))
  | exact akk _ _ _ _|exact nC.mono _ _ _|exact eO.mono _ _ _ _|exact aj.none _|refine aj.ite ?_ ?_|refine aj.bind ?_ (fun _=>?_)
set_option maxHeartbeats 8000000 in
set_option maxRecDepth 100000 in
theorem gP.calls (k : Nat) (af : Int) (aq : Option Addr) (ak : Nat) (aa : List (List Int)) (a1 : Int) (A2 : Option Addr) (c2 : Nat) (l2 : List (List Int)) (r : Int) (w : World) (akv : Kd.C (Kd.slice 2 (Kd.int .i64)) w aq aa.length aa) (akw : aa.length ≤ ak) (nj : Kd.C (Kd.slice 2 (Kd.int .i64)) w A2 l2.length l2) (nc : l2.length ≤ c2) (h : gP.f k af aa a1 l2 = some r) :
  Calls Try.prog 89 #[.agg #[.int .i64 af,.slice aq aa.length ak],.int .i64 a1,.slice A2 l2.length c2] w fun e w'=>e=.returned (.int .i64 r)∧Below w.heap.size w w':=by
 have j8:=Try.underlying31
 have bU:=k0 akv
 have cG:=k0 akw
 clear akv akw
 have rq:=k0 nj
 have qE:=k0 nc
 clear nj nc
 have HB:=k0 (Below.refl w.heap.size w)
 have H:((eO.f k af aa l2).bind fun t102=>(if t102=0 then ((gy.f a1 0 (wrap64 (af - 1))).bind fun t103=>(gP.j0 k t102 (!t103) af aa)) else (gP.j0 k t102 false af aa)))=some r:=h
 clear h
 replace H:=Option.bind_eq_some_iff.mp H
 obtain ⟨t102,jA,H⟩:=H
 replace H:(if t102=0 then ((gy.f a1 0 (wrap64 (af - 1))).bind fun t103=>(gP.j0 k t102 (!t103) af aa)) else (gP.j0 k t102 false af aa))=some r:=H
 have A4:=k0 jA
 clear jA
 have GU:=k0 H
 clear H
 go_enter Try.func89,Try.ntmps89
 go_upto_region 2 with (first|((with_reducible refine cj (N:=3) rfl ?_);refine dJ ?hg (N:=3) ?hd (cs:=#[.int .i64 af,.slice aq aa.length ak]) (t:=31) ?hr ?_;(case hd=>rfl);(case hg=>rfl);(case hr=>first|(go_simp;done)|(go_simp;rfl));intro ai hg w6 aK hb;have ag:=k0 (aK);have aks:=k0 ((by rw [hg];exact (aU bl):w.heap.size≤ai));have ej:=aks;replace HB:=k0 (aI bl hb);clear hb aK hg;have rN:w6.cell? ⟨ai,0,none⟩=some (.int .i64 af):=(av ag.out 0).trans rfl;have rO:w6.cell? ⟨ai,1,none⟩=some (.slice aq aa.length ak):=(av ag.out 1).trans rfl;have rQ:=aH ag.out 0;have rR:=aH ag.out 1)|((with_reducible refine cZ (f:=171) rfl ?_);refine c_ (some 10) rfl rfl Try.func171 (by kernel_rfl) rfl #[.agg #[.int .i64 af,.slice aq aa.length ak],.slice A2 l2.length c2] rfl gm ?_;(with_reducible refine (eO.calls k af _ _ aa _ _ l2 t102 _ ?akn ?aT ?cn ?cw A4.out).mono ?_);(case akn=>exact aC (Kd.bA bU.out HB.out));(case aT=>exact cG.out);(case cn=>exact aC (Kd.bA rq.out HB.out));(case cw=>exact qE.out);rintro e w8 ⟨rfl,hb⟩;refine ⟨_,rfl,?_⟩;replace ag:=k0 (akj (g:=ai) (o:=sO af aq aa ak 31) bk hb);replace HB:=k0 (aI bl hb);(try clear hb)))
 (try simp only [Act.put,zI,zZ,zS])
 go_cut [20] (fun v20 wc=>∃ (kq:Nat) (Gj:Bool),v20=.bool Gj∧au (gP.j0 kq t102 Gj af aa=some r)∧au (kq≤k)∧au (wc.heap[ai]?=some (sO af aq aa ak 31))∧au (Below w.heap.size w wc))
 case first =>
  have H:=GU.out
  clear GU
  by_cases c9:t102=0
  case neg =>
   rw [if_neg c9] at H
   have k8:(t102 == 0)=false:=beq_eq_false_iff_ne.mpr c9
   have NF:(t102 != 0)=true:=bne_iff_ne.mpr c9
   (first|rw [k8]|(simp only [akx,cu];rw [k8])|skip)
   have H':=k0 H
   clear H
   go_wp2
   go_meet
   case rel=>exact ⟨_,(false),rs,H',⟨by first|omega|exact Nat.le_refl _⟩,⟨bk⟩,⟨bl⟩⟩
  rw [if_pos c9] at H
  have k8:(t102 == 0)=true:=beq_iff_eq.mpr c9
  have NF:(t102 != 0)=false:=bne_eq_false_iff_eq.mpr c9
  clear c9
  (first|rw [k8]|(simp only [akx,cu];rw [k8])|skip)
  replace H:=Option.bind_eq_some_iff.mp H
  obtain ⟨t103,Lt,H⟩:=H
  replace H:(gP.j0 k t102 (!t103) af aa)=some r:=H
  have SU:=k0 Lt
  clear Lt
  have H':=k0 H
  clear H
  have vv:w8.cell? ⟨ai,0,none⟩=some (.int .i64 af):=(av ag.out 0).trans rfl
  have vw:w8.cell? ⟨ai,1,none⟩=some (.slice aq aa.length ak):=(av ag.out 1).trans rfl
  have vC:=aH ag.out 0
  have vD:=aH ag.out 1
  go_wp2_with (first|(go_at_call 172;(with_reducible refine (gy.calls a1 0 (wrap64 (af - 1)) t103 _ SU.out).mono ?_);rintro e w' ⟨rfl,⟨nd,rfl⟩⟩))
  go_meet
  case rel=>exact ⟨_,(!t103),rs,H',⟨by first|omega|exact Nat.le_refl _⟩,⟨bk⟩,⟨bl⟩⟩
 case rest =>
  clear GU
  (try clear c9);(try clear k8);(try clear NF);(try clear vv);(try clear vw);(try clear rN);(try clear rO);(try clear vC);(try clear vD);(try clear rQ);(try clear rR)
  obtain ⟨kq,Gj,rfl,HA,HJ4,ag,HB⟩:=hcut
  cases kq with
  | zero=>exact absurd HA.out (by simp [gP.j0])
  | succ FE =>
   have H:=HA.out
   clear HA
   simp only [gP.j0] at H
   by_cases c12:Gj=true
   case neg =>
    replace c12:=Bool.eq_false_iff.mpr c12
    subst c12
    have H1:(if t102=0 then ((nC.f FE af aa).bind fun t105=>(if t105=true then (some t102) else (some 5))) else (some t102))=some r:=by rw [if_neg (show ¬ (false=true) by decide)] at H;exact H
    clear H
    have H:=H1
    clear H1
    by_cases c20:t102=0
    case neg =>
     rw [if_neg c20] at H
     have og:(t102 == 0)=false:=beq_eq_false_iff_ne.mpr c20
     have Wt:(t102 != 0)=true:=bne_iff_ne.mpr c20
     obtain rfl:=Option.some.inj H
     go_wp2
     go_ret
     exact ⟨by first|rfl|(simp [bq,bt]<;>rfl)|(simp [*,bq,bt]<;>rfl),bl⟩
    rw [if_pos c20] at H
    have og:(t102 == 0)=true:=beq_iff_eq.mpr c20
    have Wt:(t102 != 0)=false:=bne_eq_false_iff_eq.mpr c20
    clear c20
    replace H:=Option.bind_eq_some_iff.mp H
    obtain ⟨t105,LB,H⟩:=H
    replace H:(if t105=true then (some t102) else (some 5))=some r:=H
    have LA:=k0 LB
    clear LB
    by_cases c22:t105=true
    case neg =>
     replace c22:=Bool.eq_false_iff.mpr c22
     subst c22
     have H1:(some 5)=some r:=by rw [if_neg (show ¬ (false=true) by decide)] at H;exact H
     clear H
     have H:=H1
     clear H1
     obtain rfl:=Option.some.inj H
     have PD:wc.cell? ⟨ai,0,none⟩=some (.int .i64 af):=(av ag.out 0).trans rfl
     have PE:wc.cell? ⟨ai,1,none⟩=some (.slice aq aa.length ak):=(av ag.out 1).trans rfl
     have PZ:=aH ag.out 0
     have P0:=aH ag.out 1
     go_wp2_with (first|(go_at_call 101;(with_reducible refine (nC.calls FE af _ _ aa false _ ?akn ?aT LA.out).mono ?_);(case akn=>exact aC (Kd.bA bU.out HB.out));(case aT=>exact cG.out);rintro e uB ⟨rfl,hb⟩;replace ag:=k0 (akj (g:=ai) (o:=sO af aq aa ak 31) bk hb);replace HB:=k0 (aI bl hb);(try clear hb)))
     go_ret
     exact ⟨by first|rfl|(simp [bq,bt]<;>rfl)|(simp [*,bq,bt]<;>rfl),bl⟩
    subst c22
    have H1:(some t102)=some r:=by rw [if_pos rfl] at H;exact H
    clear H
    have H:=H1
    clear H1
    obtain rfl:=Option.some.inj H
    have PB:wc.cell? ⟨ai,0,none⟩=some (.int .i64 af):=(av ag.out 0).trans rfl
    have PC:wc.cell? ⟨ai,1,none⟩=some (.slice aq aa.length ak):=(av ag.out 1).trans rfl
    have PX:=aH ag.out 0
    have PY:=aH ag.out 1
    go_wp2_with (first|(go_at_call 101;(with_reducible refine (nC.calls FE af _ _ aa true _ ?akn ?aT LA.out).mono ?_);(case akn=>exact aC (Kd.bA bU.out HB.out));(case aT=>exact cG.out);rintro e DP ⟨rfl,hb⟩;replace ag:=k0 (akj (g:=ai) (o:=sO af aq aa ak 31) bk hb);replace HB:=k0 (aI bl hb);(try clear hb)))
    go_ret
    exact ⟨by first|rfl|(simp [bq,bt]<;>rfl)|(simp [*,bq,bt]<;>rfl),bl⟩
   subst c12
   have H1:(if 2=0 then ((nC.f FE af aa).bind fun t104=>(if t104=true then (some 2) else (some 5))) else (some 2))=some r:=by rw [if_pos rfl] at H;exact H
   clear H
   have H:=H1
   clear H1
   by_cases c13:2=0
   case neg =>
    rw [if_neg c13] at H
    have kQ:(2 == 0)=false:=beq_eq_false_iff_ne.mpr c13
    have afN:(2 != 0)=true:=bne_iff_ne.mpr c13
    obtain rfl:=Option.some.inj H
    go_wp2
    go_ret
    exact ⟨by first|rfl|(simp [bq,bt]<;>rfl)|(simp [*,bq,bt]<;>rfl),bl⟩
   exact absurd c13 (by decide)
/-! ### F173: function 173 -/
def uJ.f (l0:List Int):Option (List Int):=(some (([]:List Int):List Int)).bind fun jz=>(if jz.length+l0.length < 17592186044416 then (some (jz ++ l0)) else (none))
set_option maxHeartbeats 8000000 in
set_option maxRecDepth 100000 in
theorem uJ.calls (A0 : Option Addr) (c0 : Nat) (l0 : List Int) (r : List Int) (w : World) (dB : Kd.C (Kd.int .i64) w A0 l0.length l0) (hc0 : l0.length ≤ c0) (h : uJ.f l0 = some r) :
  Calls Try.prog 173 #[.slice A0 l0.length c0] w fun e w'=>∃ dK:Value,e=.returned (dK)∧Kd.R (Kd.int .i64) 2 w' w.heap.size (fun _=>True) dK r∧Below w.heap.size w w':=by
 have fj:=k0 dB
 have ki:=k0 hc0
 clear dB hc0
 have HB:=k0 (Below.refl w.heap.size w)
 have H:((some (([]:List Int):List Int)).bind fun jz=>(if jz.length+l0.length < 17592186044416 then (some (jz ++ l0)) else (none)))=some r:=h
 clear h
 obtain ⟨jz,akD⟩:∃ y_:List Int,y_=(([]:List Int)):=⟨_,rfl⟩
 replace H:(if jz.length+l0.length < 17592186044416 then (some (jz ++ l0)) else (none))=some r:=by first|(rw [akD];with_reducible exact H)|(have ay:=(Option.bind_some _ _).symm.trans H;rw [akD];with_reducible exact ay)|(have ay:=(Option.bind_some _ _).symm.trans H;with_reducible exact ay)|with_reducible exact H|(rw [akD];exact H)|exact H
 have mg:=k0 akD
 clear akD
 replace H:=iS H;obtain ⟨c2,H⟩:=H
 have Hw:=k0 c2
 clear c2
 obtain ⟨nV,jt⟩:∃ y_:List Int,y_=(jz ++ l0):=⟨_,rfl⟩
 replace H:(some nV)=some r:=by first|(rw [jt];with_reducible exact H)|(have ay:=(Option.bind_some _ _).symm.trans H;rw [jt];with_reducible exact ay)|(have ay:=(Option.bind_some _ _).symm.trans H;with_reducible exact ay)|with_reducible exact H|(rw [jt];exact H)|exact H
 have tU:=k0 jt
 clear jt
 obtain rfl:=Option.some.inj H
 go_enter Try.func173,Try.ntmps173
 go_wp2_with (first|((with_reducible refine cj (N:=3) rfl ?_);refine Kd.o8 (Kd.int .i64) _ 2 ?hg (N:=3) ?hd (xs:=([]:List Int)) (inner:=[]) (ok:=fun _=>True) (cA:=fun _=>True) ?hr ?hp (fun _ hk=>hk) trivial (Below.refl _ _) (Nat.le_refl _) (by simp) ?_;(case hd=>rfl);(case hg=>rfl);(case hr=>first|(go_simp;done)|(go_simp;rfl));(case hp=>exact (bS.none _ _));intro l6 w3 ep hb eB eC;clear eB eC;(first|rw [← mg.out] at ep|(simp only [Int.reduceToNat] at ep;rw [← mg.out] at ep));have kN:=k0 (Kd.dL ep (aU bl));replace HB:=k0 (aI bl hb);clear hb ep)|((with_reducible refine oQ (b:=.append) (xs:=#[.tmp 3,.tmp 4]) rfl ?_);at_builtin;refine Kd.HN (Kd.int .i64) (w0:=w) w.heap.size rfl (.tmp 3) (.tmp 4) 28 2 (.int .i64 0) 8 rfl Try.underlying28 lH rfl (by decide) (by omega) l6 jz l0 _ _ _ (fun _=>True) (fun _=>False) rfl rfl ?aO ?aR (fun _ _ h=>h) (fun _ h=>h.elim) ?aF ?aB ?aS ?aL ?_;(case aR=>repeat (first|exact (Kd.bA fj.out HB.out)|(with_reducible refine Kd.kK ?_ _)|(with_reducible refine Kd.kY ?_ _)|(with_reducible refine Kd.jY ?_)));(case aB=>exact bl);(case aF=>exact (fun _ _=>trivial));(case aO=>exact (aR kN.out));(case aS=>exact (aU bl));(case aL=>have:=Hw.out;omega);intro v105 w5 ho hb hg cy;rw [← tU.out] at ho;have akf:=k0 (hb);have aD:=k0 (ho);clear HB;clear kN;have HB:=akf;have gz:=aD;clear akf aD;clear ho hb hg cy))
 go_ret
 exact ⟨_,by first|rfl|(simp [bq,bt]<;>rfl)|(simp [*,bq,bt]<;>rfl),by (with_reducible repeat (first|apply Kd.bN|apply Kd.bQ|apply Kd.bn));exact gz.out,bl⟩
end Go.Proofs.Ytoebojnhchocaaa.C
/- Set with little white space, by a program. -/
