/- The functions that one law reaches, each as a Lean function, and that Go's call comes to what it says. Condition of each: that the Lean function answers (is not none). -/
import Derived.Test.YtoebojnhchocaaaCx0
import Derived.Test.YtoebojnhchocaaaCx11
import Derived.Test.YtoebojnhchocaaaCx18
namespace Go.Proofs.Ytoebojnhchocaaa.C
open Go.RowKit Go.Proofs.bI.en Go.Proofs.bI.je Go.Proofs.bI.jC
attribute [local go_sem] max2_int min2_int max_two min_two max_three min_three max_four min_four   -- for this text's walks alone
set_option linter.unusedVariables false
set_option linter.unusedSimpArgs false
/-! ### F31: function 31 -/
def iy.f (k:Nat) (af:Int) (aa:List (List Int)) (l1:List Int) (l2:List Int):Option (Bool × Int):=(o4.f k af aa 0 (([l1,l2]:List (List Int)))).bind fun t105=>(if t105=0 then ((akr.f k af aa l1 0).bind fun t106=>((akr.f k af aa l2 0).bind fun t109=>((iq.f k t106 t109).bind fun t112=>(some (t112,0))))) else (some (false,t105)))
theorem iy.mono:∀ a0 a1 a2 a3 k,aj (iy.f k a0 a1 a2 a3) (iy.f (k+1) a0 a1 a2 a3):=by
 intro a0 a1 a2 a3 k
 unfold iy.f
 repeat' first
  | (with_reducible first|exact akr.mono _ _ _ _ _|exact o4.mono _ _ _ _ _|exact iq.mono _ _ _|exact aj.refl _|exact aj.none _|refine aj.ite ?_ ?_|refine aj.bind ?_ (fun _=>?_))
  | exact akr.mono _ _ _ _ _|exact o4.mono _ _ _ _ _|exact iq.mono _ _ _|exact aj.none _|refine aj.ite ?_ ?_|refine aj.bind ?_ (fun _=>?_)
def iy.T4:Bool × List (List Nat × List Nat):=(true,[([],[]),([],[]),([0,1],[0,1]),([],[]),([],[]),([3,4,2],[3,4]),([2,5,5],[2,5]),([6,6,0,1,2,3,4,5,6],[6]),([7,0,1,2,3,4,5,6,7],[])])
def iy.B4:List Nat:=[0,0,3,0,0,31,63,127,255]
theorem iy.ael:gF .any (opsOf Try.f31 4)=iy.T4:=by kernel_rfl
theorem iy.V1:akZ iy.T4.2 iy.B4=true:=by kernel_rfl
set_option maxHeartbeats 8000000 in
set_option maxRecDepth 100000 in
theorem iy.calls (k : Nat) (af : Int) (aq : Option Addr) (ak : Nat) (aa : List (List Int)) (akH : Nat → Prop) (A1 : Option Addr) (c1 : Nat) (l1 : List Int) (gT : Nat → Prop) (A2 : Option Addr) (c2 : Nat) (l2 : List Int) (r1 : Bool) (r2 : Int) (w : World) (akv : Kd.C (Kd.slice 2 (Kd.int .i64)) w aq aa.length aa) (akw : aa.length ≤ ak) (hs1 : Kd.V (Kd.int .i64) 2 w w.heap.size (fun k_ => akH k_) (.slice A1 l1.length c1) l1) (CK : Kd.V (Kd.int .i64) 2 w w.heap.size (fun k_ => gT k_) (.slice A2 l2.length c2) l2) (h : iy.f k af aa l1 l2 = some (r1, r2)) :
  Calls Try.prog 31 #[.agg #[.int .i64 af,.slice aq aa.length ak],.slice A1 l1.length c1,.slice A2 l2.length c2] w fun e w'=>e=.returned (.tuple #[.bool r1,.int .i64 r2])∧Below w.heap.size w w':=by
 have j8:=Try.underlying31
 have bU:=k0 akv
 have cG:=k0 akw
 clear akv akw
 have eY:=k0 (show Kd.V (Kd.int .i64) 2 w w.heap.size (fun k_=>((akH k_∨gT k_)∨w.heap.size≤k_)) (.slice A1 l1.length c1) l1 from Kd.mm hs1 (fun k_ hk=>.inl (.inl hk)))
 have ez:=k0 (show Kd.V (Kd.int .i64) 2 w w.heap.size (fun k_=>((akH k_∨gT k_)∨w.heap.size≤k_)) (.slice A2 l2.length c2) l2 from Kd.mm CK (fun k_ hk=>.inl (.inr hk)))
 have HB:=k0 (Below.refl w.heap.size w)
 have H:((o4.f k af aa 0 (([l1,l2]:List (List Int)))).bind fun t105=>(if t105=0 then ((akr.f k af aa l1 0).bind fun t106=>((akr.f k af aa l2 0).bind fun t109=>((iq.f k t106 t109).bind fun t112=>(some (t112,0))))) else (some (false,t105))))=some (r1,r2):=h
 clear h
 obtain ⟨eW,eL⟩:∃ y_:List (List Int),y_=(([l1,l2]:List (List Int))):=⟨_,rfl⟩
 replace H:((o4.f k af aa 0 eW).bind fun t105=>(if t105=0 then ((akr.f k af aa l1 0).bind fun t106=>((akr.f k af aa l2 0).bind fun t109=>((iq.f k t106 t109).bind fun t112=>(some (t112,0))))) else (some (false,t105))))=some (r1,r2):=by first|(rw [eL];with_reducible exact H)|(have ay:=(Option.bind_some _ _).symm.trans H;rw [eL];with_reducible exact ay)|(have ay:=(Option.bind_some _ _).symm.trans H;with_reducible exact ay)|with_reducible exact H|(rw [eL];exact H)|exact H
 have gA:=k0 eL
 clear eL
 replace H:=Option.bind_eq_some_iff.mp H
 obtain ⟨t105,jA,H⟩:=H
 replace H:(if t105=0 then ((akr.f k af aa l1 0).bind fun t106=>((akr.f k af aa l2 0).bind fun t109=>((iq.f k t106 t109).bind fun t112=>(some (t112,0))))) else (some (false,t105)))=some (r1,r2):=H
 have A4:=k0 jA
 clear jA
 by_cases c5:t105=0
 case neg =>
  rw [if_neg c5] at H
  have iW:(t105 == 0)=false:=beq_eq_false_iff_ne.mpr c5
  have alO:(t105 != 0)=true:=bne_iff_ne.mpr c5
  simp only [Option.some.injEq,Prod.mk.injEq] at H
  obtain ⟨rfl,rfl⟩:=H
  go_enter Try.func31,Try.ntmps31
  go_wp2_with (first|((with_reducible refine cj (N:=3) rfl ?_);refine dJ ?hg (N:=3) ?hd (cs:=#[.int .i64 af,.slice aq aa.length ak]) (t:=31) ?hr ?_;(case hd=>rfl);(case hg=>rfl);(case hr=>first|(go_simp;done)|(go_simp;rfl));intro ai hg tI aK hb;replace eY:=k0 (Kd.oL (Kd.wC (aV eY.out) ai (Nat.le_of_eq hg.symm)) hb);replace ez:=k0 (Kd.oL (Kd.wC (aV ez.out) ai (Nat.le_of_eq hg.symm)) hb);have ag:=k0 (aK);have aks:=k0 ((by rw [hg];exact (aU bl):w.heap.size≤ai));have ej:=aks;replace HB:=k0 (aI bl hb);clear hb aK hg;have Cj:tI.cell? ⟨ai,0,none⟩=some (.int .i64 af):=(av ag.out 0).trans rfl;have aac:tI.cell? ⟨ai,1,none⟩=some (.slice aq aa.length ak):=(av ag.out 1).trans rfl;have Cr:=aH ag.out 0;have aaJ:=aH ag.out 1)|((with_reducible refine cj (N:=12) rfl ?_);refine Kd.Ej (Kd.slice 2 (Kd.int .i64)) _ 28 ?hg (N':=12) ?hd (xs:=([l1,l2]:List (List Int))) (inner:=[.slice A1 l1.length c1,.slice A2 l2.length c2]) (ok:=(fun k_=>((akH k_∨gT k_)∨w.heap.size≤k_)∧k_ ≠ ai)) (cA:=(fun k_=>((akH k_∨gT k_)∨w.heap.size≤k_)∧k_ ≠ ai)) ?hr ?hp (fun _ hk=>hk) ((show ∀ k_,tI.heap.size≤k_→(fun k_=>((akH k_∨gT k_)∨w.heap.size≤k_)∧k_ ≠ ai) k_ from fun k_ hk=>⟨(.inr (Nat.le_trans (aU bl) hk)),Kd.BS (g:=ai) (o:=sO af aq aa ak 31) bk k_ hk⟩) _ (Nat.le_refl _)) (Below.refl _ _) (Nat.le_refl _) (by simp) ?_;(case hd=>rfl);(case hg=>rfl);(case hr=>first|(go_simp;done)|(go_simp;rfl));(case hp=>exact (bS.one (show Kd.FK (Kd.slice 2 (Kd.int .i64)) _ _ l1 [.slice A1 l1.length c1] from (Kd.wj (Kd.oM (Kd.mm (ok':=(fun k_=>((akH k_∨gT k_)∨w.heap.size≤k_)∧k_ ≠ ai)) (eY.out) (fun k_ hk=>⟨hk.1,hk.2⟩))).2.1 (Kd.wB (Kd.mm (ok':=(fun k_=>((akH k_∨gT k_)∨w.heap.size≤k_)∧k_ ≠ ai)) (eY.out) (fun k_ hk=>⟨hk.1,hk.2⟩))))) (bS.one (show Kd.FK (Kd.slice 2 (Kd.int .i64)) _ _ l2 [.slice A2 l2.length c2] from (Kd.wj (Kd.oM (Kd.mm (ok':=(fun k_=>((akH k_∨gT k_)∨w.heap.size≤k_)∧k_ ≠ ai)) (ez.out) (fun k_ hk=>⟨hk.1,hk.2⟩))).2.1 (Kd.wB (Kd.mm (ok':=(fun k_=>((akH k_∨gT k_)∨w.heap.size≤k_)∧k_ ≠ ai)) (ez.out) (fun k_ hk=>⟨hk.1,hk.2⟩))))) (bS.none _ _))));intro dx Lj yQ hb eB eC;clear eB eC;(first|rw [← gA.out] at yQ|(simp only [Int.reduceToNat] at yQ;rw [← gA.out] at yQ));replace eY:=k0 (Kd.nF (aV eY.out) (Kd.r_ yQ) hb);replace ez:=k0 (Kd.nF (aV ez.out) (Kd.r_ yQ) hb);have bh:=k0 (Kd.Bi yQ (aU bl));replace ag:=k0 (akj (g:=ai) (o:=sO af aq aa ak 31) bk hb);replace HB:=k0 (aI bl hb);clear hb yQ;obtain ⟨LY,amv,Al⟩:=Kd.Bj bh.out;subst Al)|((with_reducible refine cZ (f:=92) rfl ?_);refine c_ (some 13) rfl rfl Try.func92 (by kernel_rfl) rfl #[.agg #[.int .i64 af,.slice aq aa.length ak],.int .i64 0,.slice LY eW.length amv] rfl gm ?_;(with_reducible refine (o4.calls k af _ _ aa 0 _ _ eW t105 _ ?akn ?aT ?cn ?cw A4.out).mono ?_);(case akn=>exact aC (Kd.bA bU.out HB.out));(case aT=>exact cG.out);(case cn=>exact aC ((Kd.rB bh.out).2.2));(case cw=>exact (Kd.rB bh.out).2.1);rintro e Gi ⟨rfl,hb⟩;refine ⟨_,rfl,?_⟩;replace eY:=k0 (Kd.oL (aV eY.out) hb);replace ez:=k0 (Kd.oL (aV ez.out) hb);replace bh:=k0 (Kd.alC (aN bh.out) hb);replace ag:=k0 (akj (g:=ai) (o:=sO af aq aa ak 31) bk hb);replace HB:=k0 (aI bl hb);(try clear hb)))
  go_ret2
  exact ⟨by first|rfl|(simp [bq,bt]<;>rfl)|(simp [*,bq,bt]<;>rfl),bl⟩
 rw [if_pos c5] at H
 have iW:(t105 == 0)=true:=beq_iff_eq.mpr c5
 have alO:(t105 != 0)=false:=bne_eq_false_iff_eq.mpr c5
 clear c5
 replace H:=Option.bind_eq_some_iff.mp H
 obtain ⟨t106,alz,H⟩:=H
 replace H:((akr.f k af aa l2 0).bind fun t109=>((iq.f k t106 t109).bind fun t112=>(some (t112,0))))=some (r1,r2):=H
 have A6:=k0 alz
 clear alz
 replace H:=Option.bind_eq_some_iff.mp H
 obtain ⟨t109,ale,H⟩:=H
 replace H:((iq.f k t106 t109).bind fun t112=>(some (t112,0)))=some (r1,r2):=H
 have A7:=k0 ale
 clear ale
 replace H:=Option.bind_eq_some_iff.mp H
 obtain ⟨t112,r3,H⟩:=H
 replace H:(some (t112,0))=some (r1,r2):=H
 have A8:=k0 r3
 clear r3
 simp only [Option.some.injEq,Prod.mk.injEq] at H
 obtain ⟨rfl,rfl⟩:=H
 go_enter Try.func31,Try.ntmps31
 try go_wp2_with (first|((with_reducible refine cj (N:=3) rfl ?_);refine dJ ?hg (N:=3) ?hd (cs:=#[.int .i64 af,.slice aq aa.length ak]) (t:=31) ?hr ?_;(case hd=>rfl);(case hg=>rfl);(case hr=>first|(go_simp;done)|(go_simp;rfl));intro ai hg w9 aK hb;replace eY:=k0 (Kd.oL (Kd.wC (aV eY.out) ai (Nat.le_of_eq hg.symm)) hb);replace ez:=k0 (Kd.oL (Kd.wC (aV ez.out) ai (Nat.le_of_eq hg.symm)) hb);have ag:=k0 (aK);have aks:=k0 ((by rw [hg];exact (aU bl):w.heap.size≤ai));have ej:=aks;replace HB:=k0 (aI bl hb);clear hb aK hg;have ud:w9.cell? ⟨ai,0,none⟩=some (.int .i64 af):=(av ag.out 0).trans rfl;have ue:w9.cell? ⟨ai,1,none⟩=some (.slice aq aa.length ak):=(av ag.out 1).trans rfl;have uj:=aH ag.out 0;have uk:=aH ag.out 1)|((with_reducible refine cj (N:=12) rfl ?_);refine Kd.Ej (Kd.slice 2 (Kd.int .i64)) _ 28 ?hg (N':=12) ?hd (xs:=([l1,l2]:List (List Int))) (inner:=[.slice A1 l1.length c1,.slice A2 l2.length c2]) (ok:=(fun k_=>((akH k_∨gT k_)∨w.heap.size≤k_)∧k_ ≠ ai)) (cA:=(fun k_=>((akH k_∨gT k_)∨w.heap.size≤k_)∧k_ ≠ ai)) ?hr ?hp (fun _ hk=>hk) ((show ∀ k_,w9.heap.size≤k_→(fun k_=>((akH k_∨gT k_)∨w.heap.size≤k_)∧k_ ≠ ai) k_ from fun k_ hk=>⟨(.inr (Nat.le_trans (aU bl) hk)),Kd.BS (g:=ai) (o:=sO af aq aa ak 31) bk k_ hk⟩) _ (Nat.le_refl _)) (Below.refl _ _) (Nat.le_refl _) (by simp) ?_;(case hd=>rfl);(case hg=>rfl);(case hr=>first|(go_simp;done)|(go_simp;rfl));(case hp=>exact (bS.one (show Kd.FK (Kd.slice 2 (Kd.int .i64)) _ _ l1 [.slice A1 l1.length c1] from (Kd.wj (Kd.oM (Kd.mm (ok':=(fun k_=>((akH k_∨gT k_)∨w.heap.size≤k_)∧k_ ≠ ai)) (eY.out) (fun k_ hk=>⟨hk.1,hk.2⟩))).2.1 (Kd.wB (Kd.mm (ok':=(fun k_=>((akH k_∨gT k_)∨w.heap.size≤k_)∧k_ ≠ ai)) (eY.out) (fun k_ hk=>⟨hk.1,hk.2⟩))))) (bS.one (show Kd.FK (Kd.slice 2 (Kd.int .i64)) _ _ l2 [.slice A2 l2.length c2] from (Kd.wj (Kd.oM (Kd.mm (ok':=(fun k_=>((akH k_∨gT k_)∨w.heap.size≤k_)∧k_ ≠ ai)) (ez.out) (fun k_ hk=>⟨hk.1,hk.2⟩))).2.1 (Kd.wB (Kd.mm (ok':=(fun k_=>((akH k_∨gT k_)∨w.heap.size≤k_)∧k_ ≠ ai)) (ez.out) (fun k_ hk=>⟨hk.1,hk.2⟩))))) (bS.none _ _))));intro dx akC yO hb eB eC;clear eB eC;(first|rw [← gA.out] at yO|(simp only [Int.reduceToNat] at yO;rw [← gA.out] at yO));replace eY:=k0 (Kd.nF (aV eY.out) (Kd.r_ yO) hb);replace ez:=k0 (Kd.nF (aV ez.out) (Kd.r_ yO) hb);have bh:=k0 (Kd.Bi yO (aU bl));replace ag:=k0 (akj (g:=ai) (o:=sO af aq aa ak 31) bk hb);replace HB:=k0 (aI bl hb);clear hb yO;obtain ⟨r4,sw,Ak⟩:=Kd.Bj bh.out;subst Ak)|((with_reducible refine cZ (f:=92) rfl ?_);refine c_ (some 13) rfl rfl Try.func92 (by kernel_rfl) rfl #[.agg #[.int .i64 af,.slice aq aa.length ak],.int .i64 0,.slice r4 eW.length sw] rfl gm ?_;(with_reducible refine (o4.calls k af _ _ aa 0 _ _ eW t105 _ ?akn ?aT ?cn ?cw A4.out).mono ?_);(case akn=>exact aC (Kd.bA bU.out HB.out));(case aT=>exact cG.out);(case cn=>exact aC ((Kd.rB bh.out).2.2));(case cw=>exact (Kd.rB bh.out).2.1);rintro e Sw ⟨rfl,hb⟩;refine ⟨_,rfl,?_⟩;replace eY:=k0 (Kd.oL (aV eY.out) hb);replace ez:=k0 (Kd.oL (aV ez.out) hb);replace bh:=k0 (Kd.alC (aN bh.out) hb);replace ag:=k0 (akj (g:=ai) (o:=sO af aq aa ak 31) bk hb);replace HB:=k0 (aI bl hb);(try clear hb)))
 replace eY:=k0 (Kd.amK eY.out);replace ez:=k0 (Kd.amK ez.out);replace bh:=k0 (Kd.MS bh.out);replace ag:=k0 (ct ag.out);replace HB:=k0 (cP HB.out)
 refine lJ (n:=9) (S:=fun w'=>w'.cell? ⟨ai,0,none⟩=some (.int .i64 af)∧w'.cell? ⟨ai,1,none⟩=some (.slice aq aa.length ak)) (ds:=[]) (ba 9 0) (by kernel_rfl) rfl rfl ⟨(av ag.out 0).trans rfl,(av ag.out 1).trans rfl⟩ (fun hHeld=>?_);refine qu iy.ael iy.V1 (fun aA dh=>?_)
 generalize Sw.drew=vV at eY ez bh ag HB hHeld ⊢
 refine pu 1 (some 18) (ba 9 2) aA (h:=?_)
 refine pu 4 (some 21) (ba 9 18) aA (h:=?_)
 refine ta 0 (some 17) (ba 9 19) aA dh hHeld (hy:=Or.inl ⟨by rfl,by rintro w' ⟨s0,s1⟩;go_simp;with_reducible rfl⟩) (h:=?_)
 refine ta 3 (some 20) (ba 9 27) aA dh hHeld (hy:=Or.inl ⟨by rfl,by rintro w' ⟨s0,s1⟩;go_simp;with_reducible rfl⟩) (h:=?_)
 refine lY (i:=2) (N:=some 19) (ba 9 31) rfl rfl (kF aA.out (by kernel_rfl)) (by decide) (fun K hK=>?_)
 refine lD Try.func93 (by kernel_rfl) rfl #[.agg #[.int .i64 af,.slice aq aa.length ak],.slice A1 l1.length c1,.int .i64 0] (by rfl) rfl rfl gm ?_
 with_reducible refine (akr.calls k af _ _ aa _ _ l1 0 t106 _ ?akn ?aT ?cn ?cw A6.out).mono ?_
 (case akn=>exact aC (Kd.bA bU.out HB.out))
 (case aT=>exact cG.out)
 (case cn=>exact aC ((Kd.oM eY.out).2.2))
 (case cw=>exact (Kd.oM eY.out).2.1)
 rintro e w16 ⟨v107,rfl,ake,hb⟩
 refine ⟨_,rfl,?_⟩
 replace eY:=k0 (Kd.nF (aV eY.out) (Kd.bW ake) hb);replace ez:=k0 (Kd.nF (aV ez.out) (Kd.bW ake) hb);replace bh:=k0 (Kd.xT (aN bh.out) (Kd.bW ake) hb);have mQ:=k0 (Kd.dL (Kd.En (M:=fun k_=>(w.heap.size≤k_)) ake (aU bl) (fun k_ h_=>h_)) (aU bl));replace ag:=k0 (akj (g:=ai) (o:=sO af aq aa ak 31) bk hb);replace HB:=k0 (aI bl hb)
 (try clear hb);(try clear ake)
 refine hK.out _ _ ⟨(av ag.out 0).trans rfl,(av ag.out 1).trans rfl⟩ (fun hHeld=>?_)
 clear hK K
 refine aky (a':=?_) ?_ ?_
 rotate_left;· show Act.put _ (some 19) _=_;simp only [Act.put,zI,zZ,zS,akx,cu];rfl
 refine lY (i:=5) (N:=some 22) (ba 9 63) rfl rfl (kF aA.out (by kernel_rfl)) (by decide) (fun K hK=>?_)
 refine lD Try.func93 (by kernel_rfl) rfl #[.agg #[.int .i64 af,.slice aq aa.length ak],.slice A2 l2.length c2,.int .i64 0] (by rfl) rfl rfl gm ?_
 with_reducible refine (akr.calls k af _ _ aa _ _ l2 0 t109 _ ?akn ?aT ?cn ?cw A7.out).mono ?_
 (case akn=>exact aC (Kd.bA bU.out HB.out))
 (case aT=>exact cG.out)
 (case cn=>exact aC ((Kd.oM ez.out).2.2))
 (case cw=>exact (Kd.oM ez.out).2.1)
 rintro e rX ⟨aew,rfl,ake,hb⟩
 refine ⟨_,rfl,?_⟩
 replace eY:=k0 (Kd.nF (aV eY.out) (Kd.bW ake) hb);replace ez:=k0 (Kd.nF (aV ez.out) (Kd.bW ake) hb);replace bh:=k0 (Kd.xT (aN bh.out) (Kd.bW ake) hb);have tP:=k0 (Kd.dL (Kd.dW (Kd.En (M:=fun k_=>(w.heap.size≤k_)) ake (aU bl) (fun k_ h_=>h_)) (Kd.cE (aR mQ.out))) (aU bl));replace mQ:=k0 (Kd.dV (aR mQ.out) (Kd.bW ake) hb);replace ag:=k0 (akj (g:=ai) (o:=sO af aq aa ak 31) bk hb);replace HB:=k0 (aI bl hb)
 (try clear hb);(try clear ake)
 obtain ⟨amt,EH,EM⟩:=Kd.eK mQ.out
 (first|subst EM|(injection EM with akL k9 gU;have akW:=akL.symm;have akX:=gU.symm;clear akL k9 gU;subst akW;subst akX))
 obtain ⟨alA,qP,vp⟩:=Kd.eK tP.out
 (first|subst vp|(injection vp with akL k9 gU;have akW:=akL.symm;have akX:=gU.symm;clear akL k9 gU;subst akW;subst akX))
 refine hK.out _ _ ⟨(av ag.out 0).trans rfl,(av ag.out 1).trans rfl⟩ (fun hHeld=>?_)
 clear hK K
 refine aky (a':=?_) ?_ ?_
 rotate_left;· show Act.put _ (some 22) _=_;simp only [Act.put,zI,zZ,zS,akx,cu];rfl
 refine lY (i:=6) (N:=some 23) (ba 9 127) rfl rfl (kF aA.out (by kernel_rfl)) (by decide) (fun K hK=>?_)
 refine lD Try.func95 (by kernel_rfl) rfl #[.slice amt t106.length EH,.slice alA t109.length qP] (by rfl) rfl rfl gm ?_
 with_reducible refine (iq.calls k _ _ t106 _ _ t109 t112 _ ?akn ?aT ?cn ?cw A8.out).mono ?_
 (case akn=>exact aC ((Kd.bu mQ.out).2.2))
 (case aT=>exact (Kd.bu mQ.out).2.1)
 (case cn=>exact aC ((Kd.bu tP.out).2.2))
 (case cw=>exact (Kd.bu tP.out).2.1)
 rintro e w' ⟨rfl,⟨nd,rfl⟩⟩
 refine ⟨_,rfl,?_⟩
 refine hK.out _ _ ⟨(av ag.out 0).trans rfl,(av ag.out 1).trans rfl⟩ (fun hHeld=>?_)
 clear hK K
 refine aky (a':=?_) ?_ ?_
 rotate_left;· show Act.put _ (some 23) _=_;simp only [Act.put,zI,zZ,zS,akx,cu];rfl
 refine pu 7 (some 6) (ba 9 255) aA (h:=?_)
 refine pu 8 (some 7) (ba 9 511) aA (h:=?_)
 refine lC (p_ aA.out (by kernel_rfl)) ?_
 try go_wp2
 go_ret2
 exact ⟨by first|rfl|(simp [bq,bt]<;>rfl)|(simp [*,bq,bt]<;>rfl),bl⟩
end Go.Proofs.Ytoebojnhchocaaa.C
/- Set with little white space, by a program. -/
