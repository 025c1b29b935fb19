/- The functions that one law reaches, each as a Lean function, and that Go's call comes to what it says. Condition of each: that the Lean function answers (is not none). -/
import Derived.Test.YtoebojnhchocaaaDx0
import Derived.Test.YtoebojnhchocaaaDx1
import Derived.Test.YtoebojnhchocaaaDx2
import Derived.Test.YtoebojnhchocaaaDx9
import Derived.Test.YtoebojnhchocaaaDx11
import Derived.Test.YtoebojnhchocaaaDx18
namespace Go.Proofs.Ytoebojnhchocaaa.D
open Go.RowKit Go.Proofs.bR.eC Go.Proofs.bR.je Go.Proofs.bR.jO
attribute [local go_sem] max2_int min2_int max_two min_two max_three min_three max_four min_four   -- for this text's walks alone
set_option linter.unusedVariables false
set_option linter.unusedSimpArgs false
/-! ### F33: function 33 -/
mutual
def dw.l0 : Nat → List Int → List Int → Int → Int → List (List Int) → Option (Int × Int)
 | 0,_,_,_,_,_=>none
 | k+1,x7,x8,x9,bF,bE=>(al5.f k x8).bind fun t113=>(if t113=true then (dw.l1 k x7 x8 x9 (([]:List Int)) (x8.length:Int) 0 bF bE) else (some (x9,0)))
def dw.l1 : Nat → List Int → List Int → Int → List Int → Int → Int → Int → List (List Int) → Option (Int × Int)
 | 0,_,_,_,_,_,_,_,_=>none
 | k+1,x7,x8,x9,dS,TJ,zL,bF,bE=>if zL < TJ then (if 0≤zL then (if zL < (x8.length:Int) then (if zL < (x7.length:Int) then (if dS.length < 17592186044416 then (dw.l1 k x7 x8 x9 (dS ++ [wrap64 ((rd x8 zL)+(rd x7 zL))]) TJ (wrap64 (zL+1)) bF bE) else (none)) else (none)) else (none)) else (none)) else ((bV.f k bF bE dS 0).bind fun t122=>(dw.l0 k x7 t122 (wrap64 (x9+1)) bF bE))
end
def dw.f (k:Nat) (af:Int) (aa:List (List Int)) (l1:List Int):Option (Int × Int):=(nD.f k af aa 0 (([l1]:List (List Int)))).bind fun t105=>(if t105=0 then ((ir.f k l1).bind fun t106=>(if t106=0 then ((bV.f k af aa l1 0).bind fun t107=>((kr.f t107).bind fun t110=>(dw.l0 k t107 t110 1 af aa))) else (some (0,5)))) else (some (0,t105)))
theorem dw.bU : ∀ k, (∀ y0 y1 y2 y3 y4, aj (dw.l0 k y0 y1 y2 y3 y4) (dw.l0 (k + 1) y0 y1 y2 y3 y4)) ∧ (∀ y0 y1 y2 y3 y4 y5 y6 y7, aj (dw.l1 k y0 y1 y2 y3 y4 y5 y6 y7) (dw.l1 (k + 1) y0 y1 y2 y3 y4 y5 y6 y7))
 | 0=>⟨fun _ _ _ _ _ r h=>by simp [dw.l0] at h,fun _ _ _ _ _ _ _ _ r h=>by simp [dw.l1] at h⟩
 | k+1=>by
  obtain ⟨alg,ih1⟩:=dw.bU k
  refine ⟨?_, ?_⟩ <;> intros <;> (first | unfold dw.l0 | unfold dw.l1) <;> repeat' first
   | (with_reducible first|exact alg _ _ _ _ _|exact ih1 _ _ _ _ _ _ _ _|exact bV.mono _ _ _ _ _|exact al5.mono _ _|exact nD.mono _ _ _ _ _|exact ir.mono _ _|exact aj.refl _|exact aj.none _|refine aj.ite ?_ ?_|refine aj.bind ?_ (fun _=>?_))
   | exact alg _ _ _ _ _|exact ih1 _ _ _ _ _ _ _ _|exact bV.mono _ _ _ _ _|exact al5.mono _ _|exact nD.mono _ _ _ _ _|exact ir.mono _ _|exact aj.none _|refine aj.ite ?_ ?_|refine aj.bind ?_ (fun _=>?_)
theorem dw.mono:∀ a0 a1 a2 k,aj (dw.f k a0 a1 a2) (dw.f (k+1) a0 a1 a2):=by
 intro a0 a1 a2 k
 obtain ⟨alg,ih1⟩:=dw.bU k
 unfold dw.f
 repeat' first
  | (with_reducible first|exact alg _ _ _ _ _|exact ih1 _ _ _ _ _ _ _ _|exact bV.mono _ _ _ _ _|exact al5.mono _ _|exact nD.mono _ _ _ _ _|exact ir.mono _ _|exact aj.refl _|exact aj.none _|refine aj.ite ?_ ?_|refine aj.bind ?_ (fun _=>?_))
  | exact alg _ _ _ _ _|exact ih1 _ _ _ _ _ _ _ _|exact bV.mono _ _ _ _ _|exact al5.mono _ _|exact nD.mono _ _ _ _ _|exact ir.mono _ _|exact aj.none _|refine aj.ite ?_ ?_|refine aj.bind ?_ (fun _=>?_)
set_option maxHeartbeats 8000000 in
set_option maxRecDepth 100000 in
theorem dw.calls (k : Nat) (af : Int) (aq : Option Addr) (ak : Nat) (aa : List (List Int)) (gX : Nat → Prop) (A1 : Option Addr) (c1 : Nat) (l1 : List Int) (r1 : Int) (r2 : Int) (w : World) (aly : Kd.C (Kd.slice 2 (Kd.int .i64)) w aq aa.length aa) (ck : aa.length ≤ ak) (hs1 : Kd.V (Kd.int .i64) 2 w w.heap.size (fun k_ => gX k_) (.slice A1 l1.length c1) l1) (h : dw.f k af aa l1 = some (r1, r2)) :
  Calls Try.prog 33 #[.agg #[.int .i64 af,.slice aq aa.length ak],.slice A1 l1.length c1] w fun e w'=>e=.returned (.tuple #[.int .i64 r1,.int .i64 r2])∧Below w.heap.size w w':=by
 have j9:=Try.underlying31
 have bZ:=k0 aly
 have cD:=k0 ck
 clear aly ck
 have fE:=k0 (show Kd.V (Kd.int .i64) 2 w w.heap.size (fun k_=>(gX k_∨w.heap.size≤k_)) (.slice A1 l1.length c1) l1 from Kd.qg hs1 (fun k_ hk=>.inl hk))
 have HB:=k0 (Below.refl w.heap.size w)
 have H:((nD.f k af aa 0 (([l1]:List (List Int)))).bind fun t105=>(if t105=0 then ((ir.f k l1).bind fun t106=>(if t106=0 then ((bV.f k af aa l1 0).bind fun t107=>((kr.f t107).bind fun t110=>(dw.l0 k t107 t110 1 af aa))) else (some (0,5)))) else (some (0,t105))))=some (r1,r2):=h
 clear h
 obtain ⟨alD,eM⟩:∃ y_:List (List Int),y_=(([l1]:List (List Int))):=⟨_,rfl⟩
 replace H:((nD.f k af aa 0 alD).bind fun t105=>(if t105=0 then ((ir.f k l1).bind fun t106=>(if t106=0 then ((bV.f k af aa l1 0).bind fun t107=>((kr.f t107).bind fun t110=>(dw.l0 k t107 t110 1 af aa))) else (some (0,5)))) else (some (0,t105))))=some (r1,r2):=by first|(rw [eM];with_reducible exact H)|(have ax:=(Option.bind_some _ _).symm.trans H;rw [eM];with_reducible exact ax)|(have ax:=(Option.bind_some _ _).symm.trans H;with_reducible exact ax)|with_reducible exact H|(rw [eM];exact H)|exact H
 have gz:=k0 eM
 clear eM
 replace H:=Option.bind_eq_some_iff.mp H
 obtain ⟨t105,mj,H⟩:=H
 replace H:(if t105=0 then ((ir.f k l1).bind fun t106=>(if t106=0 then ((bV.f k af aa l1 0).bind fun t107=>((kr.f t107).bind fun t110=>(dw.l0 k t107 t110 1 af aa))) else (some (0,5)))) else (some (0,t105)))=some (r1,r2):=H
 have A3:=k0 mj
 clear mj
 by_cases c4:t105=0
 case neg =>
  rw [if_neg c4] at H
  have eD:(t105 == 0)=false:=beq_eq_false_iff_ne.mpr c4
  have l7:(t105 != 0)=true:=bne_iff_ne.mpr c4
  simp only [Option.some.injEq,Prod.mk.injEq] at H
  obtain ⟨rfl,rfl⟩:=H
  go_enter Try.func33,Try.ntmps33
  go_wp2_with (first|((with_reducible refine cj (N:=2) rfl ?_);refine dK ?hg (N:=2) ?hd (cs:=#[.int .i64 af,.slice aq aa.length ak]) (t:=31) ?hr ?_;(case hd=>rfl);(case hg=>rfl);(case hr=>first|(go_simp;done)|(go_simp;rfl));intro ai hg G6 aJ hb;replace fE:=k0 (Kd.wQ (Kd.Fm (aV fE.out) ai (Nat.le_of_eq hg.symm)) hb);have ag:=k0 (aJ);have b8:=k0 ((by rw [hg];exact (alk bl):w.heap.size≤ai));have eB:=b8;replace HB:=k0 (aI bl hb);clear hb aJ hg;have ahV:G6.cell? ⟨ai,0,none⟩=some (.int .i64 af):=(av ag.out 0).trans rfl;have ahW:G6.cell? ⟨ai,1,none⟩=some (.slice aq aa.length ak):=(av ag.out 1).trans rfl;have aiw:=aD ag.out 0;have aix:=aD ag.out 1)|((with_reducible refine cj (N:=15) rfl ?_);refine Kd.Fe (Kd.slice 2 (Kd.int .i64)) _ 28 ?hg (N':=15) ?hd (xs:=([l1]:List (List Int))) (inner:=[.slice A1 l1.length c1]) (ok:=(fun k_=>(gX k_∨w.heap.size≤k_)∧k_ ≠ ai)) (b9:=(fun k_=>(gX k_∨w.heap.size≤k_)∧k_ ≠ ai)) ?hr ?hp (fun _ hk=>hk) ((show ∀ k_,G6.heap.size≤k_→(fun k_=>(gX k_∨w.heap.size≤k_)∧k_ ≠ ai) k_ from fun k_ hk=>⟨(.inr (Nat.le_trans (alk bl) hk)),Kd.CF (g:=ai) (o:=sO af aq aa ak 31) bk k_ hk⟩) _ (Nat.le_refl _)) (Below.refl _ _) (Nat.le_refl _) (by simp) ?_;(case hd=>rfl);(case hg=>rfl);(case hr=>first|(go_simp;done)|(go_simp;rfl));(case hp=>exact (bW.one (show Kd.FK (Kd.slice 2 (Kd.int .i64)) _ _ l1 [.slice A1 l1.length c1] from (Kd.ES (Kd.oT (Kd.qg (ok':=(fun k_=>(gX k_∨w.heap.size≤k_)∧k_ ≠ ai)) (fE.out) (fun k_ hk=>⟨hk.1,hk.2⟩))).2.1 (Kd.Fj (Kd.qg (ok':=(fun k_=>(gX k_∨w.heap.size≤k_)∧k_ ≠ ai)) (fE.out) (fun k_ hk=>⟨hk.1,hk.2⟩))))) (bW.none _ _)));intro dn w45 Bd hb dF dG;clear dF dG;(first|rw [← gz.out] at Bd|(simp only [Int.reduceToNat] at Bd;rw [← gz.out] at Bd));replace fE:=k0 (Kd.um (aV fE.out) (Kd.B4 Bd) hb);have bq:=k0 (Kd.B5 Bd (alk bl));replace ag:=k0 (alm (g:=ai) (o:=sO af aq aa ak 31) bk hb);replace HB:=k0 (aI bl hb);clear hb Bd;obtain ⟨MV,al_,JH⟩:=Kd.B6 bq.out;subst JH)|((with_reducible refine dx (f:=92) rfl ?_);refine dy (some 16) rfl rfl Try.func92 (by kernel_rfl) rfl #[.agg #[.int .i64 af,.slice aq aa.length ak],.int .i64 0,.slice MV alD.length al_] rfl gm ?_;(with_reducible refine (nD.calls k af _ _ aa 0 _ _ alD t105 _ ?aT ?aU ?cy ?cI A3.out).mono ?_);(case aT=>exact aC (Kd.bK bZ.out HB.out));(case aU=>exact cD.out);(case cy=>exact aC ((Kd.qc bq.out).2.2));(case cI=>exact (Kd.qc bq.out).2.1);rintro e w48 ⟨rfl,hb⟩;refine ⟨_,rfl,?_⟩;replace fE:=k0 (Kd.wQ (aV fE.out) hb);replace bq:=k0 (Kd.wM (aN bq.out) hb);replace ag:=k0 (alm (g:=ai) (o:=sO af aq aa ak 31) bk hb);replace HB:=k0 (aI bl hb);(try clear hb)))
  go_ret2
  exact ⟨by first|rfl|(simp [bz,bA]<;>rfl)|(simp [*,bz,bA]<;>rfl),bl⟩
 rw [if_pos c4] at H
 have eD:(t105 == 0)=true:=beq_iff_eq.mpr c4
 have l7:(t105 != 0)=false:=bne_eq_false_iff_eq.mpr c4
 clear c4
 replace H:=Option.bind_eq_some_iff.mp H
 obtain ⟨t106,p4,H⟩:=H
 replace H:(if t106=0 then ((bV.f k af aa l1 0).bind fun t107=>((kr.f t107).bind fun t110=>(dw.l0 k t107 t110 1 af aa))) else (some (0,5)))=some (r1,r2):=H
 have A5:=k0 p4
 clear p4
 by_cases c6:t106=0
 case neg =>
  rw [if_neg c6] at H
  have gB:(t106 == 0)=false:=beq_eq_false_iff_ne.mpr c6
  have wY:(t106 != 0)=true:=bne_iff_ne.mpr c6
  simp only [Option.some.injEq,Prod.mk.injEq] at H
  obtain ⟨rfl,rfl⟩:=H
  go_enter Try.func33,Try.ntmps33
  go_wp2_with (first|((with_reducible refine cj (N:=2) rfl ?_);refine dK ?hg (N:=2) ?hd (cs:=#[.int .i64 af,.slice aq aa.length ak]) (t:=31) ?hr ?_;(case hd=>rfl);(case hg=>rfl);(case hr=>first|(go_simp;done)|(go_simp;rfl));intro ai hg BC aJ hb;replace fE:=k0 (Kd.wQ (Kd.Fm (aV fE.out) ai (Nat.le_of_eq hg.symm)) hb);have ag:=k0 (aJ);have b8:=k0 ((by rw [hg];exact (alk bl):w.heap.size≤ai));have eB:=b8;replace HB:=k0 (aI bl hb);clear hb aJ hg;have ahT:BC.cell? ⟨ai,0,none⟩=some (.int .i64 af):=(av ag.out 0).trans rfl;have ahU:BC.cell? ⟨ai,1,none⟩=some (.slice aq aa.length ak):=(av ag.out 1).trans rfl;have aiu:=aD ag.out 0;have aiv:=aD ag.out 1)|((with_reducible refine cj (N:=15) rfl ?_);refine Kd.Fe (Kd.slice 2 (Kd.int .i64)) _ 28 ?hg (N':=15) ?hd (xs:=([l1]:List (List Int))) (inner:=[.slice A1 l1.length c1]) (ok:=(fun k_=>(gX k_∨w.heap.size≤k_)∧k_ ≠ ai)) (b9:=(fun k_=>(gX k_∨w.heap.size≤k_)∧k_ ≠ ai)) ?hr ?hp (fun _ hk=>hk) ((show ∀ k_,BC.heap.size≤k_→(fun k_=>(gX k_∨w.heap.size≤k_)∧k_ ≠ ai) k_ from fun k_ hk=>⟨(.inr (Nat.le_trans (alk bl) hk)),Kd.CF (g:=ai) (o:=sO af aq aa ak 31) bk k_ hk⟩) _ (Nat.le_refl _)) (Below.refl _ _) (Nat.le_refl _) (by simp) ?_;(case hd=>rfl);(case hg=>rfl);(case hr=>first|(go_simp;done)|(go_simp;rfl));(case hp=>exact (bW.one (show Kd.FK (Kd.slice 2 (Kd.int .i64)) _ _ l1 [.slice A1 l1.length c1] from (Kd.ES (Kd.oT (Kd.qg (ok':=(fun k_=>(gX k_∨w.heap.size≤k_)∧k_ ≠ ai)) (fE.out) (fun k_ hk=>⟨hk.1,hk.2⟩))).2.1 (Kd.Fj (Kd.qg (ok':=(fun k_=>(gX k_∨w.heap.size≤k_)∧k_ ≠ ai)) (fE.out) (fun k_ hk=>⟨hk.1,hk.2⟩))))) (bW.none _ _)));intro dn w39 Bc hb dF dG;clear dF dG;(first|rw [← gz.out] at Bc|(simp only [Int.reduceToNat] at Bc;rw [← gz.out] at Bc));replace fE:=k0 (Kd.um (aV fE.out) (Kd.B4 Bc) hb);have bq:=k0 (Kd.B5 Bc (alk bl));replace ag:=k0 (alm (g:=ai) (o:=sO af aq aa ak 31) bk hb);replace HB:=k0 (aI bl hb);clear hb Bc;obtain ⟨Uc,Yh,YU⟩:=Kd.B6 bq.out;subst YU)|((with_reducible refine dx (f:=92) rfl ?_);refine dy (some 16) rfl rfl Try.func92 (by kernel_rfl) rfl #[.agg #[.int .i64 af,.slice aq aa.length ak],.int .i64 0,.slice Uc alD.length Yh] rfl gm ?_;(with_reducible refine (nD.calls k af _ _ aa 0 _ _ alD t105 _ ?aT ?aU ?cy ?cI A3.out).mono ?_);(case aT=>exact aC (Kd.bK bZ.out HB.out));(case aU=>exact cD.out);(case cy=>exact aC ((Kd.qc bq.out).2.2));(case cI=>exact (Kd.qc bq.out).2.1);rintro e w42 ⟨rfl,hb⟩;refine ⟨_,rfl,?_⟩;replace fE:=k0 (Kd.wQ (aV fE.out) hb);replace bq:=k0 (Kd.wM (aN bq.out) hb);replace ag:=k0 (alm (g:=ai) (o:=sO af aq aa ak 31) bk hb);replace HB:=k0 (aI bl hb);(try clear hb))|((with_reducible refine dx (f:=97) rfl ?_);refine dy (some 23) rfl rfl Try.func97 (by kernel_rfl) rfl #[.slice A1 l1.length c1] rfl gm ?_;(with_reducible refine (ir.calls k _ _ l1 t106 _ ?aT ?aU A5.out).mono ?_);(case aT=>exact aC ((Kd.oT fE.out).2.2));(case aU=>exact (Kd.oT fE.out).2.1);rintro e w' ⟨rfl,⟨nd,rfl⟩⟩;refine ⟨_,rfl,?_⟩))
  go_ret2
  exact ⟨by first|rfl|(simp [bz,bA]<;>rfl)|(simp [*,bz,bA]<;>rfl),bl⟩
 rw [if_pos c6] at H
 have gB:(t106 == 0)=true:=beq_iff_eq.mpr c6
 have wY:(t106 != 0)=false:=bne_eq_false_iff_eq.mpr c6
 clear c6
 replace H:=Option.bind_eq_some_iff.mp H
 obtain ⟨t107,wu,H⟩:=H
 replace H:((kr.f t107).bind fun t110=>(dw.l0 k t107 t110 1 af aa))=some (r1,r2):=H
 have A7:=k0 wu
 clear wu
 replace H:=Option.bind_eq_some_iff.mp H
 obtain ⟨t110,BP,H⟩:=H
 replace H:(dw.l0 k t107 t110 1 af aa)=some (r1,r2):=H
 have A8:=k0 BP
 clear BP
 have H':=k0 H
 clear H
 go_enter Try.func33,Try.ntmps33
 go_wp2_with (first|((with_reducible refine cj (N:=2) rfl ?_);refine dK ?hg (N:=2) ?hd (cs:=#[.int .i64 af,.slice aq aa.length ak]) (t:=31) ?hr ?_;(case hd=>rfl);(case hg=>rfl);(case hr=>first|(go_simp;done)|(go_simp;rfl));intro ai hg w9 aJ hb;replace fE:=k0 (Kd.wQ (Kd.Fm (aV fE.out) ai (Nat.le_of_eq hg.symm)) hb);have ag:=k0 (aJ);have b8:=k0 ((by rw [hg];exact (alk bl):w.heap.size≤ai));have eB:=b8;replace HB:=k0 (aI bl hb);clear hb aJ hg;have rW:w9.cell? ⟨ai,0,none⟩=some (.int .i64 af):=(av ag.out 0).trans rfl;have rX:w9.cell? ⟨ai,1,none⟩=some (.slice aq aa.length ak):=(av ag.out 1).trans rfl;have r3:=aD ag.out 0;have r4:=aD ag.out 1)|((with_reducible refine cj (N:=15) rfl ?_);refine Kd.Fe (Kd.slice 2 (Kd.int .i64)) _ 28 ?hg (N':=15) ?hd (xs:=([l1]:List (List Int))) (inner:=[.slice A1 l1.length c1]) (ok:=(fun k_=>(gX k_∨w.heap.size≤k_)∧k_ ≠ ai)) (b9:=(fun k_=>(gX k_∨w.heap.size≤k_)∧k_ ≠ ai)) ?hr ?hp (fun _ hk=>hk) ((show ∀ k_,w9.heap.size≤k_→(fun k_=>(gX k_∨w.heap.size≤k_)∧k_ ≠ ai) k_ from fun k_ hk=>⟨(.inr (Nat.le_trans (alk bl) hk)),Kd.CF (g:=ai) (o:=sO af aq aa ak 31) bk k_ hk⟩) _ (Nat.le_refl _)) (Below.refl _ _) (Nat.le_refl _) (by simp) ?_;(case hd=>rfl);(case hg=>rfl);(case hr=>first|(go_simp;done)|(go_simp;rfl));(case hp=>exact (bW.one (show Kd.FK (Kd.slice 2 (Kd.int .i64)) _ _ l1 [.slice A1 l1.length c1] from (Kd.ES (Kd.oT (Kd.qg (ok':=(fun k_=>(gX k_∨w.heap.size≤k_)∧k_ ≠ ai)) (fE.out) (fun k_ hk=>⟨hk.1,hk.2⟩))).2.1 (Kd.Fj (Kd.qg (ok':=(fun k_=>(gX k_∨w.heap.size≤k_)∧k_ ≠ ai)) (fE.out) (fun k_ hk=>⟨hk.1,hk.2⟩))))) (bW.none _ _)));intro dn alE Bb hb dF dG;clear dF dG;(first|rw [← gz.out] at Bb|(simp only [Int.reduceToNat] at Bb;rw [← gz.out] at Bb));replace fE:=k0 (Kd.um (aV fE.out) (Kd.B4 Bb) hb);have bq:=k0 (Kd.B5 Bb (alk bl));replace ag:=k0 (alm (g:=ai) (o:=sO af aq aa ak 31) bk hb);replace HB:=k0 (aI bl hb);clear hb Bb;obtain ⟨sq,sG,AL⟩:=Kd.B6 bq.out;subst AL)|((with_reducible refine dx (f:=92) rfl ?_);refine dy (some 16) rfl rfl Try.func92 (by kernel_rfl) rfl #[.agg #[.int .i64 af,.slice aq aa.length ak],.int .i64 0,.slice sq alD.length sG] rfl gm ?_;(with_reducible refine (nD.calls k af _ _ aa 0 _ _ alD t105 _ ?aT ?aU ?cy ?cI A3.out).mono ?_);(case aT=>exact aC (Kd.bK bZ.out HB.out));(case aU=>exact cD.out);(case cy=>exact aC ((Kd.qc bq.out).2.2));(case cI=>exact (Kd.qc bq.out).2.1);rintro e Mi ⟨rfl,hb⟩;refine ⟨_,rfl,?_⟩;replace fE:=k0 (Kd.wQ (aV fE.out) hb);replace bq:=k0 (Kd.wM (aN bq.out) hb);replace ag:=k0 (alm (g:=ai) (o:=sO af aq aa ak 31) bk hb);replace HB:=k0 (aI bl hb);(try clear hb))|((with_reducible refine dx (f:=97) rfl ?_);refine dy (some 23) rfl rfl Try.func97 (by kernel_rfl) rfl #[.slice A1 l1.length c1] rfl gm ?_;(with_reducible refine (ir.calls k _ _ l1 t106 _ ?aT ?aU A5.out).mono ?_);(case aT=>exact aC ((Kd.oT fE.out).2.2));(case aU=>exact (Kd.oT fE.out).2.1);rintro e w' ⟨rfl,⟨nd,rfl⟩⟩;refine ⟨_,rfl,?_⟩;have C4:Mi.cell? ⟨ai,0,none⟩=some (.int .i64 af):=(av ag.out 0).trans rfl;have C5:Mi.cell? ⟨ai,1,none⟩=some (.slice aq aa.length ak):=(av ag.out 1).trans rfl;have Db:=aD ag.out 0;have Dc:=aD ag.out 1)|((with_reducible refine dx (f:=93) rfl ?_);refine dy (some 27) rfl rfl Try.func93 (by kernel_rfl) rfl #[.agg #[.int .i64 af,.slice aq aa.length ak],.slice A1 l1.length c1,.int .i64 0] rfl gm ?_;(with_reducible refine (bV.calls k af _ _ aa _ _ l1 0 t107 _ ?aT ?aU ?cy ?cI A7.out).mono ?_);(case aT=>exact aC (Kd.bK bZ.out bl));(case aU=>exact cD.out);(case cy=>exact aC ((Kd.oT fE.out).2.2));(case cI=>exact (Kd.oT fE.out).2.1);rintro e w16 ⟨Me,rfl,aM,hb⟩;refine ⟨_,rfl,?_⟩;replace fE:=k0 (Kd.um (aV fE.out) (Kd.cn aM) hb);replace bq:=k0 (Kd.yf (aN bq.out) (Kd.cn aM) hb);have fL:=k0 (Kd.dI (Kd.vp (M:=fun k_=>(w.heap.size≤k_)) aM (alk bl) (fun k_ h_=>h_)) (alk bl));replace ag:=k0 (alm (g:=ai) (o:=sO af aq aa ak 31) bk hb);replace HB:=k0 (aI bl hb);(try clear hb);(try clear aM);obtain ⟨Ht,Cs,FC⟩:=Kd.eF fL.out;subst FC))
 have e_:t107=t110:=by
  have h_:=A8.out
  simp only [kr.f] at h_
  split at h_
  ·exact Option.some.inj h_
  ·exact absurd h_ (by simp)
 subst e_
 go_loopg [8,9] k (fun kq v8 v9 w'=>∃ (bg:List Int) (oK:Int),v9=.int .i64 oK∧au (dw.l0 kq t107 bg oK af aa=some (r1,r2))∧au (kq≤k)∧au (Kd.R (Kd.int .i64) 2 w' w.heap.size (fun k_=>(w.heap.size≤k_)∧True) (.slice Ht t107.length Cs) t107)∧au (Kd.R (Kd.int .i64) 2 w' w.heap.size (fun k_=>(w.heap.size≤k_)∧True) v8 bg)∧au (w'.heap[ai]?=some (sO af aq aa ak 31))∧au (Below w.heap.size w w'))
 case atStart=>exact ⟨(t107),(1),rs,H',⟨Nat.le_refl _⟩,⟨aR (Kd.alq fL.out (fun _ hk=>⟨hk.1,trivial⟩))⟩,⟨aR (Kd.alq fL.out (fun _ hk=>⟨hk.1,trivial⟩))⟩,⟨bk⟩,⟨bl⟩⟩
 case round =>
  clear H'
  (try clear c1);(try clear c4);(try clear eD);(try clear l7);(try clear c6);(try clear gB);(try clear wY);(try clear rW);(try clear rX);(try clear C4);(try clear C5);(try clear r3);(try clear r4);(try clear Db);(try clear Dc)
  obtain ⟨bg,oK,rfl,HA,alj,alr,aZ,ag,HB⟩:=hrel
  cases gk with
  | zero=>exact absurd HA.out (by simp [dw.l0])
  | succ k1 =>
   have H:=HA.out
   clear HA
   simp only [dw.l0] at H
   replace H:=Option.bind_eq_some_iff.mp H
   obtain ⟨t113,Mw,H⟩:=H
   replace H:(if t113=true then (dw.l1 k1 t107 bg oK (([]:List Int)) (bg.length:Int) 0 af aa) else (some (oK,0)))=some (r1,r2):=H
   have Mv:=k0 Mw
   clear Mw
   by_cases c20:t113=true
   case neg =>
    replace c20:=Bool.eq_false_iff.mpr c20
    subst c20
    have H1:(some (oK,0))=some (r1,r2):=by rw [if_neg (show ¬ (false=true) by decide)] at H;exact H
    clear H
    have H:=H1
    clear H1
    simp only [Option.some.injEq,Prod.mk.injEq] at H
    obtain ⟨rfl,rfl⟩:=H
    obtain ⟨amQ,uv,JG⟩:=Kd.eF aZ.out
    subst JG
    go_wp2_with (first|((with_reducible refine dx (f:=98) rfl ?_);refine dy (some 32) rfl rfl Try.func98 (by kernel_rfl) rfl #[.slice amQ bg.length uv,.func (.func 99) #[] #[]] rfl gm ?_;(with_reducible refine (al5.calls k1 _ _ bg false _ ?aT ?aU Mv.out).mono ?_);(case aT=>exact aC ((Kd.bx aZ.out).2.2));(case aU=>exact (Kd.bx aZ.out).2.1);rintro e w36 ⟨rfl,hb⟩;refine ⟨_,rfl,?_⟩;replace alr:=k0 (Kd.en (aR alr.out) hb);replace aZ:=k0 (Kd.en (aR aZ.out) hb);replace ag:=k0 (alm (g:=ai) (o:=sO af aq aa ak 31) bk hb);replace HB:=k0 (aI bl hb);(try clear hb)))
    go_ret2
    exact ⟨by first|rfl|(simp [bz,bA]<;>rfl)|(simp [*,bz,bA]<;>rfl),bl⟩
   subst c20
   have H1:(dw.l1 k1 t107 bg oK (([]:List Int)) (bg.length:Int) 0 af aa)=some (r1,r2):=by rw [if_pos rfl] at H;exact H
   clear H
   have H:=H1
   clear H1
   obtain ⟨alO,tE⟩:∃ y_:List Int,y_=(([]:List Int)):=⟨_,rfl⟩
   replace H:(dw.l1 k1 t107 bg oK alO (bg.length:Int) 0 af aa)=some (r1,r2):=by first|(rw [tE];with_reducible exact H)|(have ax:=(Option.bind_some _ _).symm.trans H;rw [tE];with_reducible exact ax)|(have ax:=(Option.bind_some _ _).symm.trans H;with_reducible exact ax)|with_reducible exact H|(rw [tE];exact H)|exact H
   have Aa:=k0 tE
   clear tE
   have H':=k0 H
   clear H
   obtain ⟨EP,rQ,rT⟩:=Kd.eF aZ.out
   subst rT
   go_wp2_with (first|((with_reducible refine dx (f:=98) rfl ?_);refine dy (some 32) rfl rfl Try.func98 (by kernel_rfl) rfl #[.slice EP bg.length rQ,.func (.func 99) #[] #[]] rfl gm ?_;(with_reducible refine (al5.calls k1 _ _ bg true _ ?aT ?aU Mv.out).mono ?_);(case aT=>exact aC ((Kd.bx aZ.out).2.2));(case aU=>exact (Kd.bx aZ.out).2.1);rintro e Mj ⟨rfl,hb⟩;refine ⟨_,rfl,?_⟩;replace alr:=k0 (Kd.en (aR alr.out) hb);replace aZ:=k0 (Kd.en (aR aZ.out) hb);replace ag:=k0 (alm (g:=ai) (o:=sO af aq aa ak 31) bk hb);replace HB:=k0 (aI bl hb);(try clear hb))|((with_reducible refine cj (N:=35) rfl ?_);refine Kd.al2 (Kd.int .i64) _ 2 ?hg (N:=35) ?hd (xs:=([]:List Int)) (inner:=[]) (ok:=fun _=>True) (b9:=fun _=>True) ?hr ?hp (fun _ hk=>hk) trivial (Below.refl _ _) (Nat.le_refl _) (by simp) ?_;(case hd=>rfl);(case hg=>rfl);(case hr=>first|(go_simp;done)|(go_simp;rfl));(case hp=>exact (bW.none _ _));intro akA ank am0 hb dF dG;clear dF dG;(first|rw [← Aa.out] at am0|(simp only [Int.reduceToNat] at am0;rw [← Aa.out] at am0));have Vi:=k0 (Kd.dI (Kd.ep (Kd.ep (Kd.vp (M:=fun k_=>(w.heap.size≤k_)) am0 (alk bl) (fun k_ h_=>h_)) (Kd.cH (aR alr.out))) (Kd.cH (aR aZ.out))) (alk bl));replace alr:=k0 (Kd.alB (aR alr.out) (Kd.cn am0) hb);replace aZ:=k0 (Kd.alB (aR aZ.out) (Kd.cn am0) hb);replace ag:=k0 (alm (g:=ai) (o:=sO af aq aa ak 31) bk hb);replace HB:=k0 (aI bl hb);clear hb am0))
   go_loopg [10,38] k1 (fun kq v10 v38 w'=>∃ (gV:List Int) (nw:Int),v38=.int .i64 nw∧au (dw.l1 kq t107 bg oK gV (bg.length:Int) nw af aa=some (r1,r2))∧au (kq≤k1)∧au (Kd.R (Kd.int .i64) 2 w' w.heap.size (fun k_=>(w.heap.size≤k_)∧True∧some k_ ≠ (v10:Value).ownBlock) (.slice Ht t107.length Cs) t107)∧au (Kd.R (Kd.int .i64) 2 w' w.heap.size (fun k_=>(w.heap.size≤k_)∧True∧some k_ ≠ (v10:Value).ownBlock) (.slice EP bg.length rQ) bg)∧au (Kd.R (Kd.int .i64) 2 w' w.heap.size (fun k_=>(w.heap.size≤k_)∧some k_ ≠ ((.slice Ht t107.length Cs):Value).ownBlock∧some k_ ≠ ((.slice EP bg.length rQ):Value).ownBlock) v10 gV)∧au (w'.heap[ai]?=some (sO af aq aa ak 31))∧au (Below w.heap.size w w'))
   case atStart=>exact ⟨(alO),(0),rs,H',⟨Nat.le_refl _⟩,⟨aR (Kd.alq alr.out (fun _ hk=>⟨hk.1.1,⟨hk.1.2,hk.2⟩⟩))⟩,⟨aR (Kd.alq aZ.out (fun _ hk=>⟨hk.1.1,⟨hk.1.2,hk.2⟩⟩))⟩,⟨aR (Kd.alq Vi.out (fun _ hk=>⟨hk.1.1.1,⟨hk.1.2,hk.2⟩⟩))⟩,⟨bk⟩,⟨bl⟩⟩
   case round =>
    clear H'
    (try clear c1);(try clear c4);(try clear eD);(try clear l7);(try clear c6);(try clear gB);(try clear wY);(try clear c20);(try clear rW);(try clear rX);(try clear C4);(try clear C5);(try clear r3);(try clear r4);(try clear Db);(try clear Dc)
    obtain ⟨gV,nw,rfl,HA,bB,alr,aZ,cE,ag,HB⟩:=hrel
    cases gk with
    | zero=>exact absurd HA.out (by simp [dw.l1])
    | succ k2 =>
     have H:=HA.out
     clear HA
     simp only [dw.l1] at H
     by_cases c25:nw < (bg.length:Int)
     case neg =>
      rw [if_neg c25] at H
      have sF:decide (nw < (bg.length:Int))=false:=decide_eq_false c25
      clear c25
      replace H:=Option.bind_eq_some_iff.mp H
      obtain ⟨t122,BN,H⟩:=H
      replace H:(dw.l0 k2 t107 t122 (wrap64 (oK+1)) af aa)=some (r1,r2):=H
      have EN:=k0 BN
      clear BN
      have H':=k0 H
      clear H
      have ahR:wr.cell? ⟨ai,0,none⟩=some (.int .i64 af):=(av ag.out 0).trans rfl
      have ahS:wr.cell? ⟨ai,1,none⟩=some (.slice aq aa.length ak):=(av ag.out 1).trans rfl
      have ais:=aD ag.out 0
      have ait:=aD ag.out 1
      obtain ⟨Hv,Jq,JE⟩:=Kd.eF cE.out
      subst JE
      go_wp2_with (first|((with_reducible refine dx (f:=93) rfl ?_);refine dy (some 55) rfl rfl Try.func93 (by kernel_rfl) rfl #[.agg #[.int .i64 af,.slice aq aa.length ak],.slice Hv gV.length Jq,.int .i64 0] rfl gm ?_;(with_reducible refine (bV.calls k2 af _ _ aa _ _ gV 0 t122 _ ?aT ?aU ?cy ?cI EN.out).mono ?_);(case aT=>exact aC (Kd.bK bZ.out HB.out));(case aU=>exact cD.out);(case cy=>exact aC ((Kd.bx cE.out).2.2));(case cI=>exact (Kd.bx cE.out).2.1);rintro e TC ⟨afe,rfl,aM,hb⟩;refine ⟨_,rfl,?_⟩;have H9:=k0 (Kd.dI (Kd.ep (Kd.ep (Kd.ep (Kd.vp (M:=fun k_=>(w.heap.size≤k_)) aM (alk bl) (fun k_ h_=>h_)) (Kd.cH (aR alr.out))) (Kd.cH (aR aZ.out))) (Kd.cH (aR cE.out))) (alk bl));replace alr:=k0 (Kd.alB (aR alr.out) (Kd.cn aM) hb);replace aZ:=k0 (Kd.alB (aR aZ.out) (Kd.cn aM) hb);replace cE:=k0 (Kd.alB (aR cE.out) (Kd.cn aM) hb);replace ag:=k0 (alm (g:=ai) (o:=sO af aq aa ak 31) bk hb);replace HB:=k0 (aI bl hb);(try clear hb);(try clear aM)))
      go_roundg k2
      case measure=>have:=alj.out;have:=bB.out;omega
      case rel=>exact ⟨(t122),(wrap64 (oK+1)),rs,H',⟨by have:=alj.out;have:=bB.out;omega⟩,⟨aR (Kd.alq alr.out (fun _ hk=>⟨hk.1.1,trivial⟩))⟩,⟨aR (Kd.alq H9.out (fun _ hk=>⟨hk.1.1.1.1,trivial⟩))⟩,⟨bk⟩,⟨bl⟩⟩
     rw [if_pos c25] at H
     have sF:=decide_eq_true c25
     clear c25
     replace H:=iS H;obtain ⟨c26,H⟩:=H
     have vA:=decide_eq_true c26
     clear c26
     replace H:=iS H;obtain ⟨c27,H⟩:=H
     have rP:=decide_eq_true c27
     clear c27
     replace H:=iS H;obtain ⟨c28,H⟩:=H
     have XD:=decide_eq_true c28
     clear c28
     replace H:=iS H;obtain ⟨c29,H⟩:=H
     have VN:=k0 c29
     clear c29
     obtain ⟨wk,oB⟩:∃ y_:List Int,y_=(gV ++ [wrap64 ((rd bg nw)+(rd t107 nw))]):=⟨_,rfl⟩
     replace H:(dw.l1 k2 t107 bg oK wk (bg.length:Int) (wrap64 (nw+1)) af aa)=some (r1,r2):=by first|(rw [oB];with_reducible exact H)|(have ax:=(Option.bind_some _ _).symm.trans H;rw [oB];with_reducible exact ax)|(have ax:=(Option.bind_some _ _).symm.trans H;with_reducible exact ax)|with_reducible exact H|(rw [oB];exact H)|exact H
     have anq:=k0 oB
     clear oB
     have H':=k0 H
     clear H
     have nj:0≤(nw:Int):=oD
     have nr:nw < (bg.length:Int):=oD
     obtain ⟨yo,e117,l_⟩:=Kd.bJ (Kd.bx aZ.out).2.2 nw nj nr
     cases e117
     replace nj:=eq_true nj
     replace nr:=eq_true nr
     have nk:0≤(nw:Int):=oD
     have nt:nw < (t107.length:Int):=oD
     obtain ⟨Al,e118,mJ⟩:=Kd.bJ (Kd.bx alr.out).2.2 nw nk nt
     cases e118
     replace nk:=eq_true nk
     replace nt:=eq_true nt
     go_wp2_with (first|((with_reducible refine ot (b:=.append) (xs:=#[.tmp 43,.tmp 50]) rfl ?_);at_builtin;refine Kd.sB (Kd.int .i64) (w0:=w) w.heap.size rfl (.tmp 43) (.tmp 50) 28 2 (.int .i64 0) 8 rfl Try.underlying28 alU rfl (by decide) (by omega) u10 gV (wrap64 ((rd bg nw)+(rd t107 nw))) [.int .i64 (wrap64 ((rd bg nw)+(rd t107 nw)))] (fun k_=>(w.heap.size≤k_)∧some k_ ≠ (.slice (some Al) t107.length Cs:Value).ownBlock∧some k_ ≠ (.slice (some yo) bg.length rQ:Value).ownBlock) (fun _=>False) rfl rfl ?aP (fun _ hk=>hk.elim) ?aF ?aO ?aB ?aS ?aL ?_;(case aP=>exact rfl);(case aB=>exact bl);(case aF=>exact (fun k_ hk=>⟨(Nat.le_trans (alk bl) hk),Kd.fresh' (Kd.cH (aR alr.out)) k_ hk,Kd.fresh' (Kd.cH (aR aZ.out)) k_ hk⟩));(case aO=>exact (aR cE.out));(case aS=>exact (alk bl));(case aL=>have:=VN.out;omega);intro akC TB ho hb hg bX;rw [← anq.out] at ho;have aE:=k0 (Kd.mz (ok:=(fun k_=>(w.heap.size≤k_)∧True)) (by (with_reducible repeat (first|apply Kd.bH|apply Kd.bL|apply Kd.bn));exact Kd.alq alr.out (fun _ hk=>⟨⟨hk.1,hk.2.1⟩,hk.2.2⟩)) hg bX);have aH:=k0 (Kd.mz (ok:=(fun k_=>(w.heap.size≤k_)∧True)) (by (with_reducible repeat (first|apply Kd.bH|apply Kd.bL|apply Kd.bn));exact Kd.alq aZ.out (fun _ hk=>⟨⟨hk.1,hk.2.1⟩,hk.2.2⟩)) hg bX);have aK:=k0 (iQ (g:=ai) (o:=sO af aq aa ak 31) bk hg (Kd.gY cE.out ag.out (by decide)));have a_:=k0 (hb);have alp:=k0 (ho);clear alr;clear aZ;clear ag;clear HB;clear cE;have alr:=aE;have aZ:=aH;have ag:=aK;have HB:=a_;have Vj:=alp;clear aE aH aK a_ alp;clear ho hb hg bX))
     go_roundg k2
     case measure=>have:=alj.out;have:=bB.out;omega
     case rel=>exact ⟨(wk),(wrap64 (nw+1)),rs,H',⟨by have:=alj.out;have:=bB.out;omega⟩,⟨aR (Kd.alq alr.out (fun _ hk=>⟨hk.1.1,⟨hk.1.2,hk.2⟩⟩))⟩,⟨aR (Kd.alq aZ.out (fun _ hk=>⟨hk.1.1,⟨hk.1.2,hk.2⟩⟩))⟩,⟨aR (Vj.out)⟩,⟨bk⟩,⟨bl⟩⟩
/-! ### F6: function 6 -/
def F6.j0 : Nat → List Int → List Int → Bool → Int → List (List Int) → Int → List (List Int) → Option (Bool)
 | 0,_,_,_,_,_,_,_=>none
 | k+1,x1,x9,x45,bF,bE,afE,afF=>if x45=true then (some false) else ((jz.f k bF bE).bind fun Ci=>((nC.f k afE afF Ci.1 Ci.2).bind fun t126=>(if t126=true then ((dZ.f k x1).bind fun t127=>((fj.f k x9 t127).bind fun t130=>(if t130=true then (some true) else (some false)))) else (some false))))
def F6.f (k:Nat) (af:Int) (aa:List (List Int)) (l1:List Int):Option (Bool):=if (l1.length:Int) > 1048576 then (some true) else ((oM.f k af aa 1048576).bind fun t102=>(if t102 < 0 then (some true) else ((jz.f k af aa).bind fun wT=>((dZ.f k l1).bind fun t107=>((bP.f k wT.1 wT.2 t107).bind fun qi=>((jz.f k af aa).bind fun fZ=>((dZ.f k l1).bind fun t117=>((dw.f k fZ.1 fZ.2 t117).bind fun lB=>(if lB.1=qi.1 then (F6.j0 k l1 t117 (lB.2 != qi.2) af aa fZ.1 fZ.2) else (F6.j0 k l1 t117 true af aa fZ.1 fZ.2))))))))))
theorem F6.bU : ∀ k, (∀ y0 y1 y2 y3 y4 y5 y6, aj (F6.j0 k y0 y1 y2 y3 y4 y5 y6) (F6.j0 (k + 1) y0 y1 y2 y3 y4 y5 y6))
 | 0=>fun _ _ _ _ _ _ _ r h=>by simp [F6.j0] at h
 | k+1=>by
  have alg:=F6.bU k
  ·intro y0 y1 y2 y3 y4 y5 y6
   unfold F6.j0
   repeat' first
    | (with_reducible first|exact alg _ _ _ _ _ _ _|exact dw.mono _ _ _ _|exact nC.mono _ _ _ _ _|exact fj.mono _ _ _|exact oM.mono _ _ _ _|exact jz.mono _ _ _|exact dZ.mono _ _|exact bP.mono _ _ _ _|exact aj.refl _|exact aj.none _|refine aj.ite ?_ ?_|refine aj.bind ?_ (fun _=>?_))
    | exact alg _ _ _ _ _ _ _|exact dw.mono _ _ _ _|exact nC.mono _ _ _ _ _|exact fj.mono _ _ _|exact oM.mono _ _ _ _|exact jz.mono _ _ _|exact dZ.mono _ _|exact bP.mono _ _ _ _|exact aj.none _|refine aj.ite ?_ ?_|refine aj.bind ?_ (fun _=>?_)
theorem F6.mono:∀ a0 a1 a2 k,aj (F6.f k a0 a1 a2) (F6.f (k+1) a0 a1 a2):=by
 intro a0 a1 a2 k
 have alg:=F6.bU k
 unfold F6.f
 repeat' first
  | (with_reducible first|exact alg _ _ _ _ _ _ _|exact dw.mono _ _ _ _|exact nC.mono _ _ _ _ _|exact fj.mono _ _ _|exact oM.mono _ _ _ _|exact jz.mono _ _ _|exact dZ.mono _ _|exact bP.mono _ _ _ _|exact aj.refl _|exact aj.none _|refine aj.ite ?_ ?_|refine aj.bind ?_ (fun _=>?_))
  | exact alg _ _ _ _ _ _ _|exact dw.mono _ _ _ _|exact nC.mono _ _ _ _ _|exact fj.mono _ _ _|exact oM.mono _ _ _ _|exact jz.mono _ _ _|exact dZ.mono _ _|exact bP.mono _ _ _ _|exact aj.none _|refine aj.ite ?_ ?_|refine aj.bind ?_ (fun _=>?_)
set_option maxHeartbeats 8000000 in
set_option maxRecDepth 100000 in
theorem F6.calls (k : Nat) (af : Int) (aq : Option Addr) (ak : Nat) (aa : List (List Int)) (A1 : Option Addr) (c1 : Nat) (l1 : List Int) (r : Bool) (w : World) (aly : Kd.C (Kd.slice 2 (Kd.int .i64)) w aq aa.length aa) (ck : aa.length ≤ ak) (c_ : Kd.C (Kd.int .i64) w A1 l1.length l1) (eY : l1.length ≤ c1) (h : F6.f k af aa l1 = some r) :
  Calls Try.prog 6 #[.agg #[.int .i64 af,.slice aq aa.length ak],.slice A1 l1.length c1] w fun e w'=>e=.returned (.bool r)∧Below w.heap.size w w':=by
 have RQ:=Try.underlying24
 have j9:=Try.underlying31
 have bZ:=k0 aly
 have cD:=k0 ck
 clear aly ck
 have eP:=k0 c_
 have kT:=k0 eY
 clear c_ eY
 have HB:=k0 (Below.refl w.heap.size w)
 have H:(if (l1.length:Int) > 1048576 then (some true) else ((oM.f k af aa 1048576).bind fun t102=>(if t102 < 0 then (some true) else ((jz.f k af aa).bind fun wT=>((dZ.f k l1).bind fun t107=>((bP.f k wT.1 wT.2 t107).bind fun qi=>((jz.f k af aa).bind fun fZ=>((dZ.f k l1).bind fun t117=>((dw.f k fZ.1 fZ.2 t117).bind fun lB=>(if lB.1=qi.1 then (F6.j0 k l1 t117 (lB.2 != qi.2) af aa fZ.1 fZ.2) else (F6.j0 k l1 t117 true af aa fZ.1 fZ.2)))))))))))=some r:=h
 clear h
 by_cases c3:(l1.length:Int) > 1048576
 case neg =>
  rw [if_neg c3] at H
  have gZ:decide (1048576 < (l1.length:Int))=false:=decide_eq_false c3
  have lD:decide (1048576 < l1.length)=false:=decide_eq_false (by omega)
  clear c3
  replace H:=Option.bind_eq_some_iff.mp H
  obtain ⟨t102,p4,H⟩:=H
  replace H:(if t102 < 0 then (some true) else ((jz.f k af aa).bind fun wT=>((dZ.f k l1).bind fun t107=>((bP.f k wT.1 wT.2 t107).bind fun qi=>((jz.f k af aa).bind fun fZ=>((dZ.f k l1).bind fun t117=>((dw.f k fZ.1 fZ.2 t117).bind fun lB=>(if lB.1=qi.1 then (F6.j0 k l1 t117 (lB.2 != qi.2) af aa fZ.1 fZ.2) else (F6.j0 k l1 t117 true af aa fZ.1 fZ.2)))))))))=some r:=H
  have A5:=k0 p4
  clear p4
  by_cases c6:t102 < 0
  case neg =>
   rw [if_neg c6] at H
   have gB:decide (t102 < 0)=false:=decide_eq_false c6
   clear c6
   replace H:=Option.bind_eq_some_iff.mp H
   obtain ⟨⟨t103,t104⟩,BJ,H⟩:=H
   replace H:((dZ.f k l1).bind fun t107=>((bP.f k t103 t104 t107).bind fun qi=>((jz.f k af aa).bind fun fZ=>((dZ.f k l1).bind fun t117=>((dw.f k fZ.1 fZ.2 t117).bind fun lB=>(if lB.1=qi.1 then (F6.j0 k l1 t117 (lB.2 != qi.2) af aa fZ.1 fZ.2) else (F6.j0 k l1 t117 true af aa fZ.1 fZ.2)))))))=some r:=H
   have Hj:=k0 BJ
   clear BJ
   replace H:=Option.bind_eq_some_iff.mp H
   obtain ⟨t107,Ms,H⟩:=H
   replace H:((bP.f k t103 t104 t107).bind fun qi=>((jz.f k af aa).bind fun fZ=>((dZ.f k l1).bind fun t117=>((dw.f k fZ.1 fZ.2 t117).bind fun lB=>(if lB.1=qi.1 then (F6.j0 k l1 t117 (lB.2 != qi.2) af aa fZ.1 fZ.2) else (F6.j0 k l1 t117 true af aa fZ.1 fZ.2))))))=some r:=H
   have TZ:=k0 Ms
   clear Ms
   replace H:=Option.bind_eq_some_iff.mp H
   obtain ⟨⟨t110,t111⟩,wm,H⟩:=H
   replace H:((jz.f k af aa).bind fun fZ=>((dZ.f k l1).bind fun t117=>((dw.f k fZ.1 fZ.2 t117).bind fun lB=>(if lB.1=t110 then (F6.j0 k l1 t117 (lB.2 != t111) af aa fZ.1 fZ.2) else (F6.j0 k l1 t117 true af aa fZ.1 fZ.2)))))=some r:=H
   have t_:=k0 wm
   clear wm
   replace H:=Option.bind_eq_some_iff.mp H
   obtain ⟨⟨t112,t113⟩,wo,H⟩:=H
   replace H:((dZ.f k l1).bind fun t117=>((dw.f k t112 t113 t117).bind fun lB=>(if lB.1=t110 then (F6.j0 k l1 t117 (lB.2 != t111) af aa t112 t113) else (F6.j0 k l1 t117 true af aa t112 t113))))=some r:=H
   have nA:=k0 wo
   clear wo
   replace H:=Option.bind_eq_some_iff.mp H
   obtain ⟨t117,Mt,H⟩:=H
   replace H:((dw.f k t112 t113 t117).bind fun lB=>(if lB.1=t110 then (F6.j0 k l1 t117 (lB.2 != t111) af aa t112 t113) else (F6.j0 k l1 t117 true af aa t112 t113)))=some r:=H
   have an2:=k0 Mt
   clear Mt
   replace H:=Option.bind_eq_some_iff.mp H
   obtain ⟨⟨t120,t121⟩,Mu,H⟩:=H
   replace H:(if t120=t110 then (F6.j0 k l1 t117 (t121 != t111) af aa t112 t113) else (F6.j0 k l1 t117 true af aa t112 t113))=some r:=H
   have T4:=k0 Mu
   clear Mu
   have HU:=k0 H
   clear H
   go_enter Try.func6,Try.ntmps6
   go_upto_region 11 with (first|((with_reducible refine cj (N:=2) rfl ?_);refine dK ?hg (N:=2) ?hd (cs:=#[.int .i64 af,.slice aq aa.length ak]) (t:=24) ?hr ?_;(case hd=>rfl);(case hg=>rfl);(case hr=>first|(go_simp;done)|(go_simp;rfl));intro ai hg rz aJ hb;have ag:=k0 (aJ);have b8:=k0 ((by rw [hg];exact (alk bl):w.heap.size≤ai));have eB:=b8;replace HB:=k0 (aI bl hb);clear hb aJ hg;have yN:rz.cell? ⟨ai,0,none⟩=some (.int .i64 af):=(av ag.out 0).trans rfl;have yO:rz.cell? ⟨ai,1,none⟩=some (.slice aq aa.length ak):=(av ag.out 1).trans rfl;have yR:=aD ag.out 0;have yS:=aD ag.out 1)|((with_reducible refine dx (f:=23) rfl ?_);refine dy (some 17) rfl rfl Try.func23 (by kernel_rfl) rfl #[.agg #[.int .i64 af,.slice aq aa.length ak],.int .i64 1048576] rfl gm ?_;(with_reducible refine (oM.calls k af _ _ aa 1048576 t102 _ ?aT ?aU A5.out).mono ?_);(case aT=>exact aC (Kd.bK bZ.out HB.out));(case aU=>exact cD.out);rintro e EC ⟨rfl,hb⟩;refine ⟨_,rfl,?_⟩;replace ag:=k0 (alm (g:=ai) (o:=sO af aq aa ak 24) bk hb);replace HB:=k0 (aI bl hb);(try clear hb);have C6:EC.cell? ⟨ai,0,none⟩=some (.int .i64 af):=(av ag.out 0).trans rfl;have C7:EC.cell? ⟨ai,1,none⟩=some (.slice aq aa.length ak):=(av ag.out 1).trans rfl;have Dd:=aD ag.out 0;have De:=aD ag.out 1)|((with_reducible refine dx (f:=25) rfl ?_);refine dy (some 22) rfl rfl Try.func25 (by kernel_rfl) rfl #[.agg #[.int .i64 af,.slice aq aa.length ak]] rfl gm ?_;(with_reducible refine (jz.calls k af _ _ aa t103 t104 _ ?aT ?aU Hj.out).mono ?_);(case aT=>exact aC (Kd.bK bZ.out HB.out));(case aU=>exact cD.out);rintro e TA ⟨v105,rfl,aM,hb⟩;refine ⟨_,rfl,?_⟩;have iO:=k0 (Kd.oR aM (alk bl));replace ag:=k0 (alm (g:=ai) (o:=sO af aq aa ak 24) bk hb);replace HB:=k0 (aI bl hb);(try clear hb);(try clear aM))|((with_reducible refine dx (f:=26) rfl ?_);refine dy (some 24) rfl rfl Try.func26 (by kernel_rfl) rfl #[.slice A1 l1.length c1] rfl gm ?_;(with_reducible refine (dZ.calls k _ _ l1 t107 _ ?aT ?aU TZ.out).mono ?_);(case aT=>exact aC (Kd.bK eP.out HB.out));(case aU=>exact kT.out);rintro e Mj ⟨Me,rfl,aM,hb⟩;refine ⟨_,rfl,?_⟩;replace iO:=k0 (Kd.kE (aS iO.out) (Kd.cn aM) hb);have fL:=k0 (Kd.dI aM (alk bl));replace ag:=k0 (alm (g:=ai) (o:=sO af aq aa ak 24) bk hb);replace HB:=k0 (aI bl hb);(try clear hb);(try clear aM);obtain ⟨sr,sI,JB⟩:=Kd.pF iO.out;subst JB;obtain ⟨Hu,Ct,AO⟩:=Kd.eF fL.out;subst AO)|((with_reducible refine dx (f:=32) rfl ?_);refine dy (some 25) rfl rfl Try.func32 (by kernel_rfl) rfl #[.agg #[.int .i64 t103,.slice sr t104.length sI],.slice Hu t107.length Ct] rfl gm ?_;(with_reducible refine (bP.calls k t103 _ _ t104 (fun k_=>some k_=(.slice Hu t107.length Ct:Value).ownBlock) _ _ t107 t110 t111 _ ?aT ?aU ?cy t_.out).mono ?_);(case aT=>exact aC ((Kd.alw iO.out).2.2));(case aU=>exact (Kd.alw iO.out).2.1);(case cy=>exact Kd.N5 (Kd.vq rfl (Kd.kX (Kd.mV (fL.out) (Kd.lq iO.out) (by decide)) ag.out (by decide))));rintro e zG ⟨rfl,hb⟩;refine ⟨_,rfl,?_⟩;replace iO:=k0 (Kd.kY (aS iO.out) hb);replace fL:=k0 (Kd.en (aR fL.out) hb);replace ag:=k0 (alm (g:=ai) (o:=sO af aq aa ak 24) bk hb);replace HB:=k0 (aI bl hb);(try clear hb);have C8:zG.cell? ⟨ai,0,none⟩=some (.int .i64 af):=(av ag.out 0).trans rfl;have aaH:zG.cell? ⟨ai,1,none⟩=some (.slice aq aa.length ak):=(av ag.out 1).trans rfl;have Df:=aD ag.out 0;have abc:=aD ag.out 1)|((with_reducible refine dx (f:=25) rfl ?_);refine dy (some 29) rfl rfl Try.func25 (by kernel_rfl) rfl #[.agg #[.int .i64 af,.slice aq aa.length ak]] rfl gm ?_;(with_reducible refine (jz.calls k af _ _ aa t112 t113 _ ?aT ?aU nA.out).mono ?_);(case aT=>exact aC (Kd.bK bZ.out HB.out));(case aU=>exact cD.out);rintro e zH ⟨ry,rfl,aM,hb⟩;refine ⟨_,rfl,?_⟩;have lN:=k0 (Kd.oR (Kd.qf (Kd.qf aM (Kd.wP (aS iO.out))) (Kd.cH (aR fL.out))) (alk bl));replace iO:=k0 (Kd.kE (aS iO.out) (Kd.Ah aM) hb);replace fL:=k0 (Kd.en (aR fL.out) hb);replace ag:=k0 (alm (g:=ai) (o:=sO af aq aa ak 24) bk hb);replace HB:=k0 (aI bl hb);(try clear hb);(try clear aM))|((with_reducible refine cj (N:=8) rfl ?_);refine dK ?hg (N:=8) ?hd (cs:=#[.int .i64 0,.slice none 0 0]) (t:=31) ?hr ?_;(case hd=>rfl);(case hg=>rfl);(case hr=>first|(go_simp;done)|(go_simp;rfl));intro iI hg ju aJ hb;replace iO:=k0 (Kd.kY (aS iO.out) hb);replace fL:=k0 (Kd.en (aR fL.out) hb);replace lN:=k0 (Kd.kY (aS lN.out) hb);have dN:=k0 (aJ);have U2:=k0 ((by rw [hg];exact (alk bl):w.heap.size≤iI));have afS:=U2;replace HB:=k0 (aI bl hb);have IL:=k0 ((by rw [hg];exact Nat.ne_of_lt (cJ (g:=ai) (o:=sO af aq aa ak 24) bk):ai ≠ iI));have VR:=k0 ((by rw [hg];exact Nat.ne_of_gt (cJ (g:=ai) (o:=sO af aq aa ak 24) bk):iI ≠ ai));replace ag:=k0 (alm (g:=ai) (o:=sO af aq aa ak 24) bk hb);clear hb aJ hg;have abH:=VR.out;have abL:=IL.out;have aaL:ju.cell? ⟨iI,0,none⟩=some (.int .i64 0):=(av dN.out 0).trans rfl;have aaM:ju.cell? ⟨iI,1,none⟩=some (.slice none 0 0):=(av dN.out 1).trans rfl;have abg:=aD dN.out 0;have abh:=aD dN.out 1;obtain ⟨kP,alW,YS⟩:=Kd.pF lN.out;subst YS)|((with_reducible refine dx (f:=26) rfl ?_);refine dy (some 31) rfl rfl Try.func26 (by kernel_rfl) rfl #[.slice A1 l1.length c1] rfl gm ?_;(with_reducible refine (dZ.calls k _ _ l1 t117 _ ?aT ?aU an2.out).mono ?_);(case aT=>exact Kd.bK eP.out bl);(case aU=>exact kT.out);rintro e uR ⟨akB,rfl,aM,hb⟩;refine ⟨_,rfl,?_⟩;replace iO:=k0 (Kd.kE (by (with_reducible repeat (first|apply Kd.gK|apply Kd.alH|apply Kd.eW));exact (Kd.iF (Kd.uk (p:=⟨iI,1,none⟩) (Kd.uk (p:=⟨iI,0,none⟩) (Kd.Ak iO.out dN.out (by decide)) (fun _ hk=>hk.2) (.int .i64 t112)) (fun _ hk=>hk.2) (.slice kP t113.length alW)) (fun _ h_=>h_.1))) (Kd.cn aM) hb);replace lN:=k0 (Kd.kE (by (with_reducible repeat (first|apply Kd.gK|apply Kd.alH|apply Kd.eW));exact (Kd.iF (Kd.uk (p:=⟨iI,1,none⟩) (Kd.uk (p:=⟨iI,0,none⟩) (Kd.Ak lN.out dN.out (by decide)) (fun _ hk=>hk.2) (.int .i64 t112)) (fun _ hk=>hk.2) (.slice kP t113.length alW)) (fun _ h_=>h_.1))) (Kd.cn aM) hb);have x_:=k0 (Kd.dI (Kd.ep aM (Kd.cH (by (with_reducible repeat (first|apply Kd.bH|apply Kd.bL|apply Kd.bn));exact (Kd.alq (Kd.jC (p:=⟨iI,1,none⟩) (Kd.jC (p:=⟨iI,0,none⟩) (Kd.kX fL.out dN.out (by decide)) (fun _ hk=>hk.2) (.int .i64 t112)) (fun _ hk=>hk.2) (.slice kP t113.length alW)) (fun _ h_=>h_.1))))) (alk bl));replace fL:=k0 (Kd.alB (by (with_reducible repeat (first|apply Kd.bH|apply Kd.bL|apply Kd.bn));exact (Kd.alq (Kd.jC (p:=⟨iI,1,none⟩) (Kd.jC (p:=⟨iI,0,none⟩) (Kd.kX fL.out dN.out (by decide)) (fun _ hk=>hk.2) (.int .i64 t112)) (fun _ hk=>hk.2) (.slice kP t113.length alW)) (fun _ h_=>h_.1))) (Kd.cn aM) hb);replace ag:=k0 (alm (g:=ai) (o:=sO af aq aa ak 24) (by (with_reducible repeat (first|refine eg ?_ _|refine cw ?_|refine dV ?_ _));refine fW ?_ IL.out _;(with_reducible repeat (first|refine eg ?_ _|refine cw ?_|refine dV ?_ _));refine fW ?_ IL.out _;exact bk) hb);replace dN:=k0 (alm (g:=iI) (o:=sO t112 kP t113 alW 31) (by (with_reducible repeat (first|refine eg ?_ _|refine cw ?_|refine dV ?_ _));refine nH (cs:=#[.int .i64 t112,.slice none 0 0]) ?_ 1 _ rfl;(with_reducible repeat (first|refine eg ?_ _|refine cw ?_|refine dV ?_ _));refine nH (cs:=#[.int .i64 0,.slice none 0 0]) ?_ 0 _ rfl;exact bk) hb);replace HB:=k0 (aI bl hb);(try clear hb);(try clear aM);have aaN:uR.cell? ⟨iI,0,none⟩=some (.int .i64 t112):=(av dN.out 0).trans rfl;have aaO:uR.cell? ⟨iI,1,none⟩=some (.slice kP t113.length alW):=(av dN.out 1).trans rfl;have abi:=aD dN.out 0;have abj:=aD dN.out 1;obtain ⟨wB,amG,JF⟩:=Kd.eF x_.out;subst JF)|((with_reducible refine dx (f:=33) rfl ?_);refine dy (some 35) rfl rfl Try.func33 (by kernel_rfl) rfl #[.agg #[.int .i64 t112,.slice kP t113.length alW],.slice wB t117.length amG] rfl gm ?_;(with_reducible refine (dw.calls k t112 _ _ t113 (fun k_=>some k_=(.slice wB t117.length amG:Value).ownBlock) _ _ t117 t120 t121 _ ?aT ?aU ?cy T4.out).mono ?_);(case aT=>exact aC ((Kd.alw lN.out).2.2));(case aU=>exact (Kd.alw lN.out).2.1);(case cy=>exact Kd.N5 (Kd.vq rfl (Kd.kX (Kd.kX (Kd.mV (Kd.mV (x_.out) (Kd.lq iO.out) (by decide)) (Kd.lq lN.out) (by decide)) ag.out (by decide)) dN.out (by decide))));rintro e tV ⟨rfl,hb⟩;refine ⟨_,rfl,?_⟩;have aE:=k0 (Kd.kY (aS iO.out) hb);have aH:=k0 (Kd.en (aR fL.out) hb);have aK:=k0 (Kd.kY (aS lN.out) hb);have a_:=k0 (Kd.en (aR x_.out) hb);have alp:=k0 (alm (g:=ai) (o:=sO af aq aa ak 24) bk hb);have bw:=k0 (alm (g:=iI) (o:=sO t112 kP t113 alW 31) bk hb);have alx:=k0 (aI bl hb);clear iO;clear fL;clear lN;clear x_;clear ag;clear dN;clear HB;have iO:=aE;have fL:=aH;have lN:=aK;have x_:=a_;have ag:=alp;have dN:=bw;have HB:=alx;clear aE aH aK a_ alp bw alx;(try clear hb)))
   (try simp only [Act.put,zI,zZ,zS])
   go_cut [45] (fun v45 wc=>∃ (kq:Nat) (Hf:Bool),v45=.bool Hf∧au (F6.j0 kq l1 t117 Hf af aa t112 t113=some r)∧au (kq≤k)∧au (Kd.R (Kd.int .i64) 2 wc w.heap.size (fun _=>True) (.slice wB t117.length amG) t117)∧au (Kd.S (Kd.slice 2 (Kd.int .i64)) 28 wc w.heap.size (fun k_=>some k_ ≠ ((.slice wB t117.length amG):Value).ownBlock) (.slice kP t113.length alW) t113)∧au (wc.heap[ai]?=some (sO af aq aa ak 24))∧au (wc.heap[iI]?=some (sO t112 kP t113 alW 31))∧au (Below w.heap.size w wc))
   case first =>
    have H:=HU.out
    clear HU
    by_cases c36:t120=t110
    case neg =>
     rw [if_neg c36] at H
     have wU:(t120 == t110)=false:=beq_eq_false_iff_ne.mpr c36
     have Fx:(t120 != t110)=true:=bne_iff_ne.mpr c36
     (first|rw [wU]|(simp only [cl,cv];rw [wU])|skip)
     have H':=k0 H
     clear H
     go_wp2
     go_meet
     case rel=>exact ⟨_,(true),rs,H',⟨by first|omega|exact Nat.le_refl _⟩,⟨aR (Kd.alq x_.out (fun _ hk=>trivial))⟩,⟨aS (Kd.iF lN.out (fun _ hk=>hk.2))⟩,⟨bk⟩,⟨bk⟩,⟨bl⟩⟩
    rw [if_pos c36] at H
    have wU:(t120 == t110)=true:=beq_iff_eq.mpr c36
    have Fx:(t120 != t110)=false:=bne_eq_false_iff_eq.mpr c36
    clear c36
    (first|rw [wU]|(simp only [cl,cv];rw [wU])|skip)
    have H':=k0 H
    clear H
    go_wp2
    go_meet
    case rel=>exact ⟨_,((t121 != t111)),rs,H',⟨by first|omega|exact Nat.le_refl _⟩,⟨aR (Kd.alq x_.out (fun _ hk=>trivial))⟩,⟨aS (Kd.iF lN.out (fun _ hk=>hk.2))⟩,⟨bk⟩,⟨bk⟩,⟨bl⟩⟩
   case rest =>
    clear HU
    (try clear c3);(try clear gZ);(try clear lD);(try clear c6);(try clear gB);(try clear c36);(try clear wU);(try clear Fx);(try clear yN);(try clear yO);(try clear C6);(try clear C7);(try clear C8);(try clear aaH);(try clear aaL);(try clear aaM);(try clear aaN);(try clear aaO);(try clear vK);(try clear vL);(try clear yR);(try clear yS);(try clear Dd);(try clear De);(try clear Df);(try clear abc);(try clear abg);(try clear abh);(try clear abi);(try clear abj);(try clear vN);(try clear vO)
    obtain ⟨kq,Hf,rfl,HA,aga,cA,fU,ag,dN,HB⟩:=hcut
    cases kq with
    | zero=>exact absurd HA.out (by simp [F6.j0])
    | succ lT =>
     have H:=HA.out
     clear HA
     simp only [F6.j0] at H
     by_cases c37:Hf=true
     case neg =>
      replace c37:=Bool.eq_false_iff.mpr c37
      subst c37
      have H1:((jz.f lT af aa).bind fun Ci=>((nC.f lT t112 t113 Ci.1 Ci.2).bind fun t126=>(if t126=true then ((dZ.f lT l1).bind fun t127=>((fj.f lT t117 t127).bind fun t130=>(if t130=true then (some true) else (some false)))) else (some false))))=some r:=by rw [if_neg (show ¬ (false=true) by decide)] at H;exact H
      clear H
      have H:=H1
      clear H1
      replace H:=Option.bind_eq_some_iff.mp H
      obtain ⟨⟨t122,t123⟩,MC,H⟩:=H
      replace H:((nC.f lT t112 t113 t122 t123).bind fun t126=>(if t126=true then ((dZ.f lT l1).bind fun t127=>((fj.f lT t117 t127).bind fun t130=>(if t130=true then (some true) else (some false)))) else (some false)))=some r:=H
      have Hq:=k0 MC
      clear MC
      replace H:=Option.bind_eq_some_iff.mp H
      obtain ⟨t126,MD,H⟩:=H
      replace H:(if t126=true then ((dZ.f lT l1).bind fun t127=>((fj.f lT t117 t127).bind fun t130=>(if t130=true then (some true) else (some false)))) else (some false))=some r:=H
      have Hr:=k0 MD
      clear MD
      by_cases c40:t126=true
      case neg =>
       replace c40:=Bool.eq_false_iff.mpr c40
       subst c40
       have H1:(some false)=some r:=by rw [if_neg (show ¬ (false=true) by decide)] at H;exact H
       clear H
       have H:=H1
       clear H1
       obtain rfl:=Option.some.inj H
       try go_wp2
       replace cA:=k0 (Kd.bn cA.out);replace fU:=k0 (Kd.eW fU.out);replace ag:=k0 (cw ag.out);replace dN:=k0 (cw dN.out);replace HB:=k0 (cP HB.out)
       refine lU (n:=5) (S:=fun w'=>w'.cell? ⟨iI,0,none⟩=some (.int .i64 t112)∧w'.cell? ⟨iI,1,none⟩=some (.slice kP t113.length alW)∧w'.cell? ⟨ai,0,none⟩=some (.int .i64 af)∧w'.cell? ⟨ai,1,none⟩=some (.slice aq aa.length ak)) (ds:=[]) #[false,false,false,false,false] (by kernel_rfl) rfl rfl ⟨(av dN.out 0).trans rfl,(av dN.out 1).trans rfl,(av ag.out 0).trans rfl,(av ag.out 1).trans rfl⟩ (fun hHeld=>?_)
       generalize wc.drew=TE at cA fU ag dN HB hHeld ⊢
       refine nv (i:=0) (N:=some 46) (v:=?_) (a':=?_) #[true,false,false,false,false] rfl rfl (by kernel_rfl) (fun _ _ _ h=>h) (Or.inl ⟨by rfl,?_⟩) hHeld ?_ ?_
       rotate_left;· rintro w' ⟨s0,s1,s2,s3⟩;go_simp;with_reducible rfl
       rotate_left;· simp only [Act.put,zI,zZ,zS,cl,cv];rfl
       refine nv (i:=1) (N:=some 47) (v:=?_) (a':=?_) #[true,true,false,false,false] rfl rfl (by kernel_rfl) (fun _ _ _ h=>h) (Or.inl ⟨by rfl,?_⟩) hHeld ?_ ?_
       rotate_left;· rintro w' ⟨s0,s1,s2,s3⟩;go_simp;with_reducible rfl
       rotate_left;· simp only [Act.put,zI,zZ,zS,cl,cv];rfl
       refine nN (i:=2) (N:=some 48) #[true,true,true,false,false] rfl rfl (by kernel_rfl) (by decide) (fun K hK=>?_)
       refine mY Try.func25 (by kernel_rfl) rfl #[.agg #[.int .i64 af,.slice aq aa.length ak]] (by rfl) rfl rfl gm ?_
       with_reducible refine (jz.calls lT af _ _ aa t122 t123 _ ?aT ?aU Hq.out).mono ?_
       (case aT=>exact aC (Kd.bK bZ.out HB.out))
       (case aU=>exact cD.out)
       rintro e w57 ⟨v124,rfl,aM,hb⟩
       refine ⟨_,rfl,?_⟩
       have aE:=k0 (Kd.en (aR cA.out) hb)
       have aH:=k0 (Kd.kE (aS fU.out) (Kd.Ah aM) hb)
       have aK:=k0 (Kd.oR (Kd.qf (Kd.qf aM (Kd.cH (aR cA.out))) (Kd.wP (aS fU.out))) (alk bl))
       have a_:=k0 (alm (g:=ai) (o:=sO af aq aa ak 24) bk hb)
       have alp:=k0 (alm (g:=iI) (o:=sO t112 kP t113 alW 31) bk hb)
       have bw:=k0 (aI bl hb)
       clear cA
       clear fU
       clear ag
       clear dN
       clear HB
       have cA:=aE
       have fU:=aH
       have jA:=aK
       have ag:=a_
       have dN:=alp
       have HB:=bw
       clear aE aH aK a_ alp bw
       (try clear hb);(try clear aM)
       obtain ⟨uX,vE,FG⟩:=Kd.pF jA.out
       (first|subst FG|(injection FG with alT om jQ;have oo:=alT.symm;have oq:=jQ.symm;clear alT om jQ;subst oo;subst oq))
       refine hK.out _ _ ⟨(av dN.out 0).trans rfl,(av dN.out 1).trans rfl,(av ag.out 0).trans rfl,(av ag.out 1).trans rfl⟩ (fun hHeld=>?_)
       clear hK K
       refine cQ (a':=?_) ?_ ?_
       rotate_left;· show Act.put _ (some 48) _=_;simp only [Act.put,zI,zZ,zS,cl,cv];rfl
       refine nN (i:=3) (N:=some 49) #[true,true,true,true,false] rfl rfl (by kernel_rfl) (by decide) (fun K hK=>?_)
       refine mY Try.func28 (by kernel_rfl) rfl #[.agg #[.int .i64 t112,.slice kP t113.length alW],.agg #[.int .i64 t122,.slice uX t123.length vE]] (by rfl) rfl rfl gm ?_
       with_reducible refine (nC.calls lT t112 _ _ t113 t122 _ _ t123 false _ ?aT ?aU ?cy ?cI Hr.out).mono ?_
       (case aT=>exact aC ((Kd.alw fU.out).2.2))
       (case aU=>exact (Kd.alw fU.out).2.1)
       (case cy=>exact aC ((Kd.alw jA.out).2.2))
       (case cI=>exact (Kd.alw jA.out).2.1)
       rintro e am1 ⟨rfl,hb⟩
       refine ⟨_,rfl,?_⟩
       have aE:=k0 (Kd.en (aR cA.out) hb)
       have aH:=k0 (Kd.kY (aS fU.out) hb)
       have aK:=k0 (Kd.kY (aS jA.out) hb)
       have a_:=k0 (alm (g:=ai) (o:=sO af aq aa ak 24) bk hb)
       have alp:=k0 (alm (g:=iI) (o:=sO t112 kP t113 alW 31) bk hb)
       have bw:=k0 (aI bl hb)
       clear cA
       clear fU
       clear jA
       clear ag
       clear dN
       clear HB
       have cA:=aE
       have fU:=aH
       have jA:=aK
       have ag:=a_
       have dN:=alp
       have HB:=bw
       clear aE aH aK a_ alp bw
       (try clear hb)
       refine hK.out _ _ ⟨(av dN.out 0).trans rfl,(av dN.out 1).trans rfl,(av ag.out 0).trans rfl,(av ag.out 1).trans rfl⟩ (fun hHeld=>?_)
       clear hK K
       refine cQ (a':=?_) ?_ ?_
       rotate_left;· show Act.put _ (some 49) _=_;simp only [Act.put,zI,zZ,zS,cl,cv];rfl
       refine mM (i:=4) (N:=some 50) (v:=?_) (a':=?_) #[true,true,true,true,true] rfl rfl (by kernel_rfl) (fun _ _ _ h=>h) (Or.inl ⟨by rfl,?_⟩) ?_ ?_
       rotate_left;· intro w';go_simp;with_reducible rfl
       rotate_left;· simp only [Act.put,zI,zZ,zS,cl,cv];rfl
       refine lQ (by kernel_rfl) ?_
       try go_wp2
       go_ret
       exact ⟨by first|rfl|(simp [bz,bA]<;>rfl)|(simp [*,bz,bA]<;>rfl),bl⟩
      subst c40
      have H1:((dZ.f lT l1).bind fun t127=>((fj.f lT t117 t127).bind fun t130=>(if t130=true then (some true) else (some false))))=some r:=by rw [if_pos rfl] at H;exact H
      clear H
      have H:=H1
      clear H1
      replace H:=Option.bind_eq_some_iff.mp H
      obtain ⟨t127,MG,H⟩:=H
      replace H:((fj.f lT t117 t127).bind fun t130=>(if t130=true then (some true) else (some false)))=some r:=H
      have MF:=k0 MG
      clear MG
      replace H:=Option.bind_eq_some_iff.mp H
      obtain ⟨t130,MI,H⟩:=H
      replace H:(if t130=true then (some true) else (some false))=some r:=H
      have MH:=k0 MI
      clear MI
      by_cases c43:t130=true
      case neg =>
       replace c43:=Bool.eq_false_iff.mpr c43
       subst c43
       have H1:(some false)=some r:=by rw [if_neg (show ¬ (false=true) by decide)] at H;exact H
       clear H
       have H:=H1
       clear H1
       obtain rfl:=Option.some.inj H
       try go_wp2
       replace cA:=k0 (Kd.bn cA.out);replace fU:=k0 (Kd.eW fU.out);replace ag:=k0 (cw ag.out);replace dN:=k0 (cw dN.out);replace HB:=k0 (cP HB.out)
       refine lU (n:=5) (S:=fun w'=>w'.cell? ⟨iI,0,none⟩=some (.int .i64 t112)∧w'.cell? ⟨iI,1,none⟩=some (.slice kP t113.length alW)∧w'.cell? ⟨ai,0,none⟩=some (.int .i64 af)∧w'.cell? ⟨ai,1,none⟩=some (.slice aq aa.length ak)) (ds:=[]) #[false,false,false,false,false] (by kernel_rfl) rfl rfl ⟨(av dN.out 0).trans rfl,(av dN.out 1).trans rfl,(av ag.out 0).trans rfl,(av ag.out 1).trans rfl⟩ (fun hHeld=>?_)
       generalize wc.drew=w50 at cA fU ag dN HB hHeld ⊢
       refine nv (i:=0) (N:=some 46) (v:=?_) (a':=?_) #[true,false,false,false,false] rfl rfl (by kernel_rfl) (fun _ _ _ h=>h) (Or.inl ⟨by rfl,?_⟩) hHeld ?_ ?_
       rotate_left;· rintro w' ⟨s0,s1,s2,s3⟩;go_simp;with_reducible rfl
       rotate_left;· simp only [Act.put,zI,zZ,zS,cl,cv];rfl
       refine nv (i:=1) (N:=some 47) (v:=?_) (a':=?_) #[true,true,false,false,false] rfl rfl (by kernel_rfl) (fun _ _ _ h=>h) (Or.inl ⟨by rfl,?_⟩) hHeld ?_ ?_
       rotate_left;· rintro w' ⟨s0,s1,s2,s3⟩;go_simp;with_reducible rfl
       rotate_left;· simp only [Act.put,zI,zZ,zS,cl,cv];rfl
       refine nN (i:=2) (N:=some 48) #[true,true,true,false,false] rfl rfl (by kernel_rfl) (by decide) (fun K hK=>?_)
       refine mY Try.func25 (by kernel_rfl) rfl #[.agg #[.int .i64 af,.slice aq aa.length ak]] (by rfl) rfl rfl gm ?_
       with_reducible refine (jz.calls lT af _ _ aa t122 t123 _ ?aT ?aU Hq.out).mono ?_
       (case aT=>exact aC (Kd.bK bZ.out HB.out))
       (case aU=>exact cD.out)
       rintro e w51 ⟨v124,rfl,aM,hb⟩
       refine ⟨_,rfl,?_⟩
       have aE:=k0 (Kd.en (aR cA.out) hb)
       have aH:=k0 (Kd.kE (aS fU.out) (Kd.Ah aM) hb)
       have aK:=k0 (Kd.oR (Kd.qf (Kd.qf aM (Kd.cH (aR cA.out))) (Kd.wP (aS fU.out))) (alk bl))
       have a_:=k0 (alm (g:=ai) (o:=sO af aq aa ak 24) bk hb)
       have alp:=k0 (alm (g:=iI) (o:=sO t112 kP t113 alW 31) bk hb)
       have bw:=k0 (aI bl hb)
       clear cA
       clear fU
       clear ag
       clear dN
       clear HB
       have cA:=aE
       have fU:=aH
       have jA:=aK
       have ag:=a_
       have dN:=alp
       have HB:=bw
       clear aE aH aK a_ alp bw
       (try clear hb);(try clear aM)
       obtain ⟨Ue,Yj,O_⟩:=Kd.pF jA.out
       (first|subst O_|(injection O_ with alT om jQ;have oo:=alT.symm;have oq:=jQ.symm;clear alT om jQ;subst oo;subst oq))
       refine hK.out _ _ ⟨(av dN.out 0).trans rfl,(av dN.out 1).trans rfl,(av ag.out 0).trans rfl,(av ag.out 1).trans rfl⟩ (fun hHeld=>?_)
       clear hK K
       refine cQ (a':=?_) ?_ ?_
       rotate_left;· show Act.put _ (some 48) _=_;simp only [Act.put,zI,zZ,zS,cl,cv];rfl
       refine nN (i:=3) (N:=some 49) #[true,true,true,true,false] rfl rfl (by kernel_rfl) (by decide) (fun K hK=>?_)
       refine mY Try.func28 (by kernel_rfl) rfl #[.agg #[.int .i64 t112,.slice kP t113.length alW],.agg #[.int .i64 t122,.slice Ue t123.length Yj]] (by rfl) rfl rfl gm ?_
       with_reducible refine (nC.calls lT t112 _ _ t113 t122 _ _ t123 true _ ?aT ?aU ?cy ?cI Hr.out).mono ?_
       (case aT=>exact aC ((Kd.alw fU.out).2.2))
       (case aU=>exact (Kd.alw fU.out).2.1)
       (case cy=>exact aC ((Kd.alw jA.out).2.2))
       (case cI=>exact (Kd.alw jA.out).2.1)
       rintro e w53 ⟨rfl,hb⟩
       refine ⟨_,rfl,?_⟩
       have aE:=k0 (Kd.en (aR cA.out) hb)
       have aH:=k0 (Kd.kY (aS fU.out) hb)
       have aK:=k0 (Kd.kY (aS jA.out) hb)
       have a_:=k0 (alm (g:=ai) (o:=sO af aq aa ak 24) bk hb)
       have alp:=k0 (alm (g:=iI) (o:=sO t112 kP t113 alW 31) bk hb)
       have bw:=k0 (aI bl hb)
       clear cA
       clear fU
       clear jA
       clear ag
       clear dN
       clear HB
       have cA:=aE
       have fU:=aH
       have jA:=aK
       have ag:=a_
       have dN:=alp
       have HB:=bw
       clear aE aH aK a_ alp bw
       (try clear hb)
       refine hK.out _ _ ⟨(av dN.out 0).trans rfl,(av dN.out 1).trans rfl,(av ag.out 0).trans rfl,(av ag.out 1).trans rfl⟩ (fun hHeld=>?_)
       clear hK K
       refine cQ (a':=?_) ?_ ?_
       rotate_left;· show Act.put _ (some 49) _=_;simp only [Act.put,zI,zZ,zS,cl,cv];rfl
       refine mM (i:=4) (N:=some 50) (v:=?_) (a':=?_) #[true,true,true,true,true] rfl rfl (by kernel_rfl) (fun _ _ _ h=>h) (Or.inl ⟨by rfl,?_⟩) ?_ ?_
       rotate_left;· intro w';go_simp;with_reducible rfl
       rotate_left;· simp only [Act.put,zI,zZ,zS,cl,cv];rfl
       refine lQ (by kernel_rfl) ?_
       try go_wp2_with (first|((with_reducible refine dx (f:=26) rfl ?_);refine dy (some 53) rfl rfl Try.func26 (by kernel_rfl) rfl #[.slice A1 l1.length c1] rfl gm ?_;(with_reducible refine (dZ.calls lT _ _ l1 t127 _ ?aT ?aU MF.out).mono ?_);(case aT=>exact aC (Kd.bK eP.out HB.out));(case aU=>exact kT.out);rintro e w54 ⟨aff,rfl,aM,hb⟩;refine ⟨_,rfl,?_⟩;have aE:=k0 (Kd.alB (aR cA.out) (Kd.cn aM) hb);have aH:=k0 (Kd.kE (aS fU.out) (Kd.cn aM) hb);have aK:=k0 (Kd.kE (aS jA.out) (Kd.cn aM) hb);have a_:=k0 (Kd.dI (Kd.ep aM (Kd.cH (aR cA.out))) (alk bl));have alp:=k0 (alm (g:=ai) (o:=sO af aq aa ak 24) bk hb);have bw:=k0 (alm (g:=iI) (o:=sO t112 kP t113 alW 31) bk hb);have alx:=k0 (aI bl hb);clear cA;clear fU;clear jA;clear ag;clear dN;clear HB;have cA:=aE;have fU:=aH;have jA:=aK;have ya:=a_;have ag:=alp;have dN:=bw;have HB:=alx;clear aE aH aK a_ alp bw alx;(try clear hb);(try clear aM);obtain ⟨Uf,Yk,YX⟩:=Kd.eF ya.out;subst YX)|((with_reducible refine dx (f:=18) rfl ?_);refine dy (some 54) rfl rfl Try.func18 (by kernel_rfl) rfl #[.slice wB t117.length amG,.slice Uf t127.length Yk] rfl gm ?_;(with_reducible refine (fj.calls lT _ _ t117 _ _ t127 false _ ?aT ?aU ?cy ?cI MH.out).mono ?_);(case aT=>exact aC ((Kd.bx cA.out).2.2));(case aU=>exact (Kd.bx cA.out).2.1);(case cy=>exact aC ((Kd.bx ya.out).2.2));(case cI=>exact (Kd.bx ya.out).2.1);rintro e w' ⟨rfl,⟨nd,rfl⟩⟩;refine ⟨_,rfl,?_⟩))
       go_ret
       exact ⟨by first|rfl|(simp [bz,bA]<;>rfl)|(simp [*,bz,bA]<;>rfl),bl⟩
      subst c43
      have H1:(some true)=some r:=by rw [if_pos rfl] at H;exact H
      clear H
      have H:=H1
      clear H1
      obtain rfl:=Option.some.inj H
      try go_wp2
      replace cA:=k0 (Kd.bn cA.out);replace fU:=k0 (Kd.eW fU.out);replace ag:=k0 (cw ag.out);replace dN:=k0 (cw dN.out);replace HB:=k0 (cP HB.out)
      refine lU (n:=5) (S:=fun w'=>w'.cell? ⟨iI,0,none⟩=some (.int .i64 t112)∧w'.cell? ⟨iI,1,none⟩=some (.slice kP t113.length alW)∧w'.cell? ⟨ai,0,none⟩=some (.int .i64 af)∧w'.cell? ⟨ai,1,none⟩=some (.slice aq aa.length ak)) (ds:=[]) #[false,false,false,false,false] (by kernel_rfl) rfl rfl ⟨(av dN.out 0).trans rfl,(av dN.out 1).trans rfl,(av ag.out 0).trans rfl,(av ag.out 1).trans rfl⟩ (fun hHeld=>?_)
      generalize wc.drew=G7 at cA fU ag dN HB hHeld ⊢
      refine nv (i:=0) (N:=some 46) (v:=?_) (a':=?_) #[true,false,false,false,false] rfl rfl (by kernel_rfl) (fun _ _ _ h=>h) (Or.inl ⟨by rfl,?_⟩) hHeld ?_ ?_
      rotate_left;· rintro w' ⟨s0,s1,s2,s3⟩;go_simp;with_reducible rfl
      rotate_left;· simp only [Act.put,zI,zZ,zS,cl,cv];rfl
      refine nv (i:=1) (N:=some 47) (v:=?_) (a':=?_) #[true,true,false,false,false] rfl rfl (by kernel_rfl) (fun _ _ _ h=>h) (Or.inl ⟨by rfl,?_⟩) hHeld ?_ ?_
      rotate_left;· rintro w' ⟨s0,s1,s2,s3⟩;go_simp;with_reducible rfl
      rotate_left;· simp only [Act.put,zI,zZ,zS,cl,cv];rfl
      refine nN (i:=2) (N:=some 48) #[true,true,true,false,false] rfl rfl (by kernel_rfl) (by decide) (fun K hK=>?_)
      refine mY Try.func25 (by kernel_rfl) rfl #[.agg #[.int .i64 af,.slice aq aa.length ak]] (by rfl) rfl rfl gm ?_
      with_reducible refine (jz.calls lT af _ _ aa t122 t123 _ ?aT ?aU Hq.out).mono ?_
      (case aT=>exact aC (Kd.bK bZ.out HB.out))
      (case aU=>exact cD.out)
      rintro e w45 ⟨v124,rfl,aM,hb⟩
      refine ⟨_,rfl,?_⟩
      have aE:=k0 (Kd.en (aR cA.out) hb)
      have aH:=k0 (Kd.kE (aS fU.out) (Kd.Ah aM) hb)
      have aK:=k0 (Kd.oR (Kd.qf (Kd.qf aM (Kd.cH (aR cA.out))) (Kd.wP (aS fU.out))) (alk bl))
      have a_:=k0 (alm (g:=ai) (o:=sO af aq aa ak 24) bk hb)
      have alp:=k0 (alm (g:=iI) (o:=sO t112 kP t113 alW 31) bk hb)
      have bw:=k0 (aI bl hb)
      clear cA
      clear fU
      clear ag
      clear dN
      clear HB
      have cA:=aE
      have fU:=aH
      have jA:=aK
      have ag:=a_
      have dN:=alp
      have HB:=bw
      clear aE aH aK a_ alp bw
      (try clear hb);(try clear aM)
      obtain ⟨Hw,Jr,FF⟩:=Kd.pF jA.out
      (first|subst FF|(injection FF with alT om jQ;have oo:=alT.symm;have oq:=jQ.symm;clear alT om jQ;subst oo;subst oq))
      refine hK.out _ _ ⟨(av dN.out 0).trans rfl,(av dN.out 1).trans rfl,(av ag.out 0).trans rfl,(av ag.out 1).trans rfl⟩ (fun hHeld=>?_)
      clear hK K
      refine cQ (a':=?_) ?_ ?_
      rotate_left;· show Act.put _ (some 48) _=_;simp only [Act.put,zI,zZ,zS,cl,cv];rfl
      refine nN (i:=3) (N:=some 49) #[true,true,true,true,false] rfl rfl (by kernel_rfl) (by decide) (fun K hK=>?_)
      refine mY Try.func28 (by kernel_rfl) rfl #[.agg #[.int .i64 t112,.slice kP t113.length alW],.agg #[.int .i64 t122,.slice Hw t123.length Jr]] (by rfl) rfl rfl gm ?_
      with_reducible refine (nC.calls lT t112 _ _ t113 t122 _ _ t123 true _ ?aT ?aU ?cy ?cI Hr.out).mono ?_
      (case aT=>exact aC ((Kd.alw fU.out).2.2))
      (case aU=>exact (Kd.alw fU.out).2.1)
      (case cy=>exact aC ((Kd.alw jA.out).2.2))
      (case cI=>exact (Kd.alw jA.out).2.1)
      rintro e TD ⟨rfl,hb⟩
      refine ⟨_,rfl,?_⟩
      have aE:=k0 (Kd.en (aR cA.out) hb)
      have aH:=k0 (Kd.kY (aS fU.out) hb)
      have aK:=k0 (Kd.kY (aS jA.out) hb)
      have a_:=k0 (alm (g:=ai) (o:=sO af aq aa ak 24) bk hb)
      have alp:=k0 (alm (g:=iI) (o:=sO t112 kP t113 alW 31) bk hb)
      have bw:=k0 (aI bl hb)
      clear cA
      clear fU
      clear jA
      clear ag
      clear dN
      clear HB
      have cA:=aE
      have fU:=aH
      have jA:=aK
      have ag:=a_
      have dN:=alp
      have HB:=bw
      clear aE aH aK a_ alp bw
      (try clear hb)
      refine hK.out _ _ ⟨(av dN.out 0).trans rfl,(av dN.out 1).trans rfl,(av ag.out 0).trans rfl,(av ag.out 1).trans rfl⟩ (fun hHeld=>?_)
      clear hK K
      refine cQ (a':=?_) ?_ ?_
      rotate_left;· show Act.put _ (some 49) _=_;simp only [Act.put,zI,zZ,zS,cl,cv];rfl
      refine mM (i:=4) (N:=some 50) (v:=?_) (a':=?_) #[true,true,true,true,true] rfl rfl (by kernel_rfl) (fun _ _ _ h=>h) (Or.inl ⟨by rfl,?_⟩) ?_ ?_
      rotate_left;· intro w';go_simp;with_reducible rfl
      rotate_left;· simp only [Act.put,zI,zZ,zS,cl,cv];rfl
      refine lQ (by kernel_rfl) ?_
      try go_wp2_with (first|((with_reducible refine dx (f:=26) rfl ?_);refine dy (some 53) rfl rfl Try.func26 (by kernel_rfl) rfl #[.slice A1 l1.length c1] rfl gm ?_;(with_reducible refine (dZ.calls lT _ _ l1 t127 _ ?aT ?aU MF.out).mono ?_);(case aT=>exact aC (Kd.bK eP.out HB.out));(case aU=>exact kT.out);rintro e w48 ⟨aff,rfl,aM,hb⟩;refine ⟨_,rfl,?_⟩;have aE:=k0 (Kd.alB (aR cA.out) (Kd.cn aM) hb);have aH:=k0 (Kd.kE (aS fU.out) (Kd.cn aM) hb);have aK:=k0 (Kd.kE (aS jA.out) (Kd.cn aM) hb);have a_:=k0 (Kd.dI (Kd.ep aM (Kd.cH (aR cA.out))) (alk bl));have alp:=k0 (alm (g:=ai) (o:=sO af aq aa ak 24) bk hb);have bw:=k0 (alm (g:=iI) (o:=sO t112 kP t113 alW 31) bk hb);have alx:=k0 (aI bl hb);clear cA;clear fU;clear jA;clear ag;clear dN;clear HB;have cA:=aE;have fU:=aH;have jA:=aK;have ya:=a_;have ag:=alp;have dN:=bw;have HB:=alx;clear aE aH aK a_ alp bw alx;(try clear hb);(try clear aM);obtain ⟨Ud,Yi,YV⟩:=Kd.eF ya.out;subst YV)|((with_reducible refine dx (f:=18) rfl ?_);refine dy (some 54) rfl rfl Try.func18 (by kernel_rfl) rfl #[.slice wB t117.length amG,.slice Ud t127.length Yi] rfl gm ?_;(with_reducible refine (fj.calls lT _ _ t117 _ _ t127 true _ ?aT ?aU ?cy ?cI MH.out).mono ?_);(case aT=>exact aC ((Kd.bx cA.out).2.2));(case aU=>exact (Kd.bx cA.out).2.1);(case cy=>exact aC ((Kd.bx ya.out).2.2));(case cI=>exact (Kd.bx ya.out).2.1);rintro e w' ⟨rfl,⟨nd,rfl⟩⟩;refine ⟨_,rfl,?_⟩))
      go_ret
      exact ⟨by first|rfl|(simp [bz,bA]<;>rfl)|(simp [*,bz,bA]<;>rfl),bl⟩
     subst c37
     have H1:(some false)=some r:=by rw [if_pos rfl] at H;exact H
     clear H
     have H:=H1
     clear H1
     obtain rfl:=Option.some.inj H
     go_wp2
     go_ret
     exact ⟨by first|rfl|(simp [bz,bA]<;>rfl)|(simp [*,bz,bA]<;>rfl),bl⟩
  rw [if_pos c6] at H
  have gB:=decide_eq_true c6
  clear c6
  obtain rfl:=Option.some.inj H
  go_enter Try.func6,Try.ntmps6
  go_wp2_with (first|((with_reducible refine cj (N:=2) rfl ?_);refine dK ?hg (N:=2) ?hd (cs:=#[.int .i64 af,.slice aq aa.length ak]) (t:=24) ?hr ?_;(case hd=>rfl);(case hg=>rfl);(case hr=>first|(go_simp;done)|(go_simp;rfl));intro ai hg w7 aJ hb;have ag:=k0 (aJ);have b8:=k0 ((by rw [hg];exact (alk bl):w.heap.size≤ai));have eB:=b8;replace HB:=k0 (aI bl hb);clear hb aJ hg;have vK:w7.cell? ⟨ai,0,none⟩=some (.int .i64 af):=(av ag.out 0).trans rfl;have vL:w7.cell? ⟨ai,1,none⟩=some (.slice aq aa.length ak):=(av ag.out 1).trans rfl;have vN:=aD ag.out 0;have vO:=aD ag.out 1)|((with_reducible refine dx (f:=23) rfl ?_);refine dy (some 17) rfl rfl Try.func23 (by kernel_rfl) rfl #[.agg #[.int .i64 af,.slice aq aa.length ak],.int .i64 1048576] rfl gm ?_;(with_reducible refine (oM.calls k af _ _ aa 1048576 t102 _ ?aT ?aU A5.out).mono ?_);(case aT=>exact aC (Kd.bK bZ.out HB.out));(case aU=>exact cD.out);rintro e w9 ⟨rfl,hb⟩;refine ⟨_,rfl,?_⟩;replace ag:=k0 (alm (g:=ai) (o:=sO af aq aa ak 24) bk hb);replace HB:=k0 (aI bl hb);(try clear hb)))
  go_ret
  exact ⟨by first|rfl|(simp [bz,bA]<;>rfl)|(simp [*,bz,bA]<;>rfl),bl⟩
 rw [if_pos c3] at H
 have gZ:=decide_eq_true c3
 have lD:decide (1048576 < l1.length)=true:=decide_eq_true (by omega)
 clear c3
 obtain rfl:=Option.some.inj H
 go_enter Try.func6,Try.ntmps6
 go_wp2_with (first|((with_reducible refine cj (N:=2) rfl ?_);refine dK ?hg (N:=2) ?hd (cs:=#[.int .i64 af,.slice aq aa.length ak]) (t:=24) ?hr ?_;(case hd=>rfl);(case hg=>rfl);(case hr=>first|(go_simp;done)|(go_simp;rfl));intro ai hg w4 aJ hb;have ag:=k0 (aJ);have b8:=k0 ((by rw [hg];exact (alk bl):w.heap.size≤ai));have eB:=b8;replace HB:=k0 (aI bl hb);clear hb aJ hg))
 go_ret
 exact ⟨by first|rfl|(simp [bz,bA]<;>rfl)|(simp [*,bz,bA]<;>rfl),bl⟩
end Go.Proofs.Ytoebojnhchocaaa.D
/- Set with little white space, by a program. -/
