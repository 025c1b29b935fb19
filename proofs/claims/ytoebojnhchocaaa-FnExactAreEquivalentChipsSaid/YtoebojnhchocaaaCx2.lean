/- The functions that one law reaches, each as a Lean function, and that Go's call comes to what it says. Condition of each: that the Lean function answers (is not none). -/
import Derived.Test.YtoebojnhchocaaaCx0
import Derived.Test.YtoebojnhchocaaaCx1
namespace Go.Proofs.Ytoebojnhchocaaa.C
open Go.RowKit Go.Proofs.bI.en Go.Proofs.bI.je Go.Proofs.bI.jC
attribute [local go_sem] max2_int min2_int max_two min_two max_three min_three max_four min_four   -- for this text's walks alone
set_option linter.unusedVariables false
set_option linter.unusedSimpArgs false
/-! ### F28: function 28 -/
def mP.f (k:Nat) (af:Int) (aa:List (List Int)) (fW:Int) (eu:List (List Int)):Option (Bool):=if af=fW then ((iB.f k aa eu).bind fun t103=>(if t103=true then (some true) else (some false))) else (some false)
theorem mP.mono:∀ a0 a1 a2 a3 k,aj (mP.f k a0 a1 a2 a3) (mP.f (k+1) a0 a1 a2 a3):=by
 intro a0 a1 a2 a3 k
 unfold mP.f
 repeat' first
  | (with_reducible first|exact iB.mono _ _ _|exact aj.refl _|exact aj.none _|refine aj.ite ?_ ?_|refine aj.bind ?_ (fun _=>?_))
  | exact iB.mono _ _ _|exact aj.none _|refine aj.ite ?_ ?_|refine aj.bind ?_ (fun _=>?_)
set_option maxHeartbeats 8000000 in
set_option maxRecDepth 100000 in
theorem mP.calls (k : Nat) (af : Int) (aq : Option Addr) (ak : Nat) (aa : List (List Int)) (fW : Int) (iQ : Option Addr) (iV : Nat) (eu : List (List Int)) (r : Bool) (w : World) (akv : Kd.C (Kd.slice 2 (Kd.int .i64)) w aq aa.length aa) (akw : aa.length ≤ ak) (xj : Kd.C (Kd.slice 2 (Kd.int .i64)) w iQ eu.length eu) (At : eu.length ≤ iV) (h : mP.f k af aa fW eu = some r) :
  Calls Try.prog 28 #[.agg #[.int .i64 af,.slice aq aa.length ak],.agg #[.int .i64 fW,.slice iQ eu.length iV]] w fun e w'=>e=.returned (.bool r)∧Below w.heap.size w w':=by
 have j8:=Try.underlying31
 have bU:=k0 akv
 have cG:=k0 akw
 clear akv akw
 have MK:=k0 xj
 have Mf:=k0 At
 clear xj At
 have HB:=k0 (Below.refl w.heap.size w)
 have H:(if af=fW then ((iB.f k aa eu).bind fun t103=>(if t103=true then (some true) else (some false))) else (some false))=some r:=h
 clear h
 by_cases c3:af=fW
 case neg =>
  rw [if_neg c3] at H
  have iE:(af == fW)=false:=beq_eq_false_iff_ne.mpr c3
  have k7:(af != fW)=true:=bne_iff_ne.mpr c3
  obtain rfl:=Option.some.inj H
  go_enter Try.func28,Try.ntmps28
  go_wp2_with (first|((with_reducible refine cj (N:=2) rfl ?_);refine dJ ?hg (N:=2) ?hd (cs:=#[.int .i64 af,.slice aq aa.length ak]) (t:=31) ?hr ?_;(case hd=>rfl);(case hg=>rfl);(case hr=>first|(go_simp;done)|(go_simp;rfl));intro ai hg w16 aK hb;have ag:=k0 (aK);have aks:=k0 ((by rw [hg];exact (aU bl):w.heap.size≤ai));have ej:=aks;replace HB:=k0 (aI bl hb);clear hb aK hg)|((with_reducible refine cj (N:=3) rfl ?_);refine dJ ?hg (N:=3) ?hd (cs:=#[.int .i64 fW,.slice iQ eu.length iV]) (t:=31) ?hr ?_;(case hd=>rfl);(case hg=>rfl);(case hr=>first|(go_simp;done)|(go_simp;rfl));intro fQ hg rX aK hb;have jB:=k0 (aK);have uK:=k0 ((by rw [hg];exact (aU bl):w.heap.size≤fQ));have D5:=uK;replace HB:=k0 (aI bl hb);have uR:=k0 ((by rw [hg];exact Nat.ne_of_lt (cJ (g:=ai) (o:=sO af aq aa ak 31) bk):ai ≠ fQ));have uT:=k0 ((by rw [hg];exact Nat.ne_of_gt (cJ (g:=ai) (o:=sO af aq aa ak 31) bk):fQ ≠ ai));replace ag:=k0 (akj (g:=ai) (o:=sO af aq aa ak 31) bk hb);clear hb aK hg;have aba:=uR.out;have abd:=uT.out;have sI:rX.cell? ⟨ai,0,none⟩=some (.int .i64 af):=(av ag.out 0).trans rfl;have yy:rX.cell? ⟨ai,1,none⟩=some (.slice aq aa.length ak):=(av ag.out 1).trans rfl;have alg:=aH ag.out 0;have yD:=aH ag.out 1;have Jo:rX.cell? ⟨fQ,0,none⟩=some (.int .i64 fW):=(av jB.out 0).trans rfl;have Jp:rX.cell? ⟨fQ,1,none⟩=some (.slice iQ eu.length iV):=(av jB.out 1).trans rfl;have JD:=aH jB.out 0;have JE:=aH jB.out 1))
  go_ret
  exact ⟨by first|rfl|(simp [bq,bt]<;>rfl)|(simp [*,bq,bt]<;>rfl),bl⟩
 rw [if_pos c3] at H
 have iE:(af == fW)=true:=beq_iff_eq.mpr c3
 have k7:(af != fW)=false:=bne_eq_false_iff_eq.mpr c3
 clear c3
 replace H:=Option.bind_eq_some_iff.mp H
 obtain ⟨t103,jA,H⟩:=H
 replace H:(if t103=true then (some true) else (some false))=some r:=H
 have A4:=k0 jA
 clear jA
 by_cases c5:t103=true
 case neg =>
  replace c5:=Bool.eq_false_iff.mpr c5
  subst c5
  have H1:(some false)=some r:=by rw [if_neg (show ¬ (false=true) by decide)] at H;exact H
  clear H
  have H:=H1
  clear H1
  obtain rfl:=Option.some.inj H
  go_enter Try.func28,Try.ntmps28
  go_wp2_with (first|((with_reducible refine cj (N:=2) rfl ?_);refine dJ ?hg (N:=2) ?hd (cs:=#[.int .i64 af,.slice aq aa.length ak]) (t:=31) ?hr ?_;(case hd=>rfl);(case hg=>rfl);(case hr=>first|(go_simp;done)|(go_simp;rfl));intro ai hg akC aK hb;have ag:=k0 (aK);have aks:=k0 ((by rw [hg];exact (aU bl):w.heap.size≤ai));have ej:=aks;replace HB:=k0 (aI bl hb);clear hb aK hg)|((with_reducible refine cj (N:=3) rfl ?_);refine dJ ?hg (N:=3) ?hd (cs:=#[.int .i64 fW,.slice iQ eu.length iV]) (t:=31) ?hr ?_;(case hd=>rfl);(case hg=>rfl);(case hr=>first|(go_simp;done)|(go_simp;rfl));intro fQ hg jb aK hb;have jB:=k0 (aK);have uK:=k0 ((by rw [hg];exact (aU bl):w.heap.size≤fQ));have D5:=uK;replace HB:=k0 (aI bl hb);have uR:=k0 ((by rw [hg];exact Nat.ne_of_lt (cJ (g:=ai) (o:=sO af aq aa ak 31) bk):ai ≠ fQ));have uT:=k0 ((by rw [hg];exact Nat.ne_of_gt (cJ (g:=ai) (o:=sO af aq aa ak 31) bk):fQ ≠ ai));replace ag:=k0 (akj (g:=ai) (o:=sO af aq aa ak 31) bk hb);clear hb aK hg;have ah0:=uR.out;have aiA:=uT.out;have wX:jb.cell? ⟨ai,0,none⟩=some (.int .i64 af):=(av ag.out 0).trans rfl;have wY:jb.cell? ⟨ai,1,none⟩=some (.slice aq aa.length ak):=(av ag.out 1).trans rfl;have alH:=aH ag.out 0;have alI:=aH ag.out 1;have Px:jb.cell? ⟨fQ,0,none⟩=some (.int .i64 fW):=(av jB.out 0).trans rfl;have Py:jb.cell? ⟨fQ,1,none⟩=some (.slice iQ eu.length iV):=(av jB.out 1).trans rfl;have PT:=aH jB.out 0;have PU:=aH jB.out 1)|((with_reducible refine cZ (f:=87) rfl ?_);refine c_ (some 14) rfl rfl Try.func87 (by kernel_rfl) rfl #[.slice aq aa.length ak,.slice iQ eu.length iV] rfl gm ?_;(with_reducible refine (iB.calls k _ _ aa _ _ eu false _ ?akn ?aT ?cn ?cw A4.out).mono ?_);(case akn=>exact aC (Kd.bA bU.out HB.out));(case aT=>exact cG.out);(case cn=>exact aC (Kd.bA MK.out HB.out));(case cw=>exact Mf.out);rintro e w' ⟨rfl,⟨nd,rfl⟩⟩;refine ⟨_,rfl,?_⟩))
  go_ret
  exact ⟨by first|rfl|(simp [bq,bt]<;>rfl)|(simp [*,bq,bt]<;>rfl),bl⟩
 subst c5
 have H1:(some true)=some r:=by rw [if_pos rfl] at H;exact H
 clear H
 have H:=H1
 clear H1
 obtain rfl:=Option.some.inj H
 go_enter Try.func28,Try.ntmps28
 go_wp2_with (first|((with_reducible refine cj (N:=2) rfl ?_);refine dJ ?hg (N:=2) ?hd (cs:=#[.int .i64 af,.slice aq aa.length ak]) (t:=31) ?hr ?_;(case hd=>rfl);(case hg=>rfl);(case hr=>first|(go_simp;done)|(go_simp;rfl));intro ai hg w6 aK hb;have ag:=k0 (aK);have aks:=k0 ((by rw [hg];exact (aU bl):w.heap.size≤ai));have ej:=aks;replace HB:=k0 (aI bl hb);clear hb aK hg)|((with_reducible refine cj (N:=3) rfl ?_);refine dJ ?hg (N:=3) ?hd (cs:=#[.int .i64 fW,.slice iQ eu.length iV]) (t:=31) ?hr ?_;(case hd=>rfl);(case hg=>rfl);(case hr=>first|(go_simp;done)|(go_simp;rfl));intro fQ hg w7 aK hb;have jB:=k0 (aK);have uK:=k0 ((by rw [hg];exact (aU bl):w.heap.size≤fQ));have D5:=uK;replace HB:=k0 (aI bl hb);have uR:=k0 ((by rw [hg];exact Nat.ne_of_lt (cJ (g:=ai) (o:=sO af aq aa ak 31) bk):ai ≠ fQ));have uT:=k0 ((by rw [hg];exact Nat.ne_of_gt (cJ (g:=ai) (o:=sO af aq aa ak 31) bk):fQ ≠ ai));replace ag:=k0 (akj (g:=ai) (o:=sO af aq aa ak 31) bk hb);clear hb aK hg;have abb:=uR.out;have abe:=uT.out;have uf:w7.cell? ⟨ai,0,none⟩=some (.int .i64 af):=(av ag.out 0).trans rfl;have ug:w7.cell? ⟨ai,1,none⟩=some (.slice aq aa.length ak):=(av ag.out 1).trans rfl;have um:=aH ag.out 0;have uo:=aH ag.out 1;have ud:w7.cell? ⟨fQ,0,none⟩=some (.int .i64 fW):=(av jB.out 0).trans rfl;have ue:w7.cell? ⟨fQ,1,none⟩=some (.slice iQ eu.length iV):=(av jB.out 1).trans rfl;have uj:=aH jB.out 0;have uk:=aH jB.out 1)|((with_reducible refine cZ (f:=87) rfl ?_);refine c_ (some 14) rfl rfl Try.func87 (by kernel_rfl) rfl #[.slice aq aa.length ak,.slice iQ eu.length iV] rfl gm ?_;(with_reducible refine (iB.calls k _ _ aa _ _ eu true _ ?akn ?aT ?cn ?cw A4.out).mono ?_);(case akn=>exact aC (Kd.bA bU.out HB.out));(case aT=>exact cG.out);(case cn=>exact aC (Kd.bA MK.out HB.out));(case cw=>exact Mf.out);rintro e w' ⟨rfl,⟨nd,rfl⟩⟩;refine ⟨_,rfl,?_⟩))
 go_ret
 exact ⟨by first|rfl|(simp [bq,bt]<;>rfl)|(simp [*,bq,bt]<;>rfl),bl⟩
/-! ### F227: function 227 -/
mutual
def dD.l0 : Nat → List Int → Int → Int → List (List Int) → Option (List Int)
 | 0,_,_,_,_=>none
 | k+1,x3,x4,bR,bJ=>if x4 < bR then (if x3.length < 17592186044416 then (dD.l0 k (x3 ++ [x4]) (wrap64 (x4+1)) bR bJ) else (none)) else (dD.l1 k x3 0 bR bJ)
def dD.l1 : Nat → List Int → Int → Int → List (List Int) → Option (List Int)
 | 0,_,_,_,_=>none
 | k+1,x3,x5,bR,bJ=>if x5 < (bJ.length:Int) then (if 0≤x5 then (if 0 < ((ah bJ x5).length:Int) then (if 0≤(rd (ah bJ x5) 0) then (if (rd (ah bJ x5) 0) < (x3.length:Int) then (if 1 < ((ah bJ x5).length:Int) then (if 0≤(rd (ah bJ x5) 1) then (if (rd (ah bJ x5) 1) < (x3.length:Int) then (dD.l2 k x3 x5 (rd x3 (rd (ah bJ x5) 0)) (rd x3 (rd (ah bJ x5) 1)) 0 bR bJ) else (none)) else (none)) else (none)) else (none)) else (none)) else (none)) else (none)) else (some x3)
def dD.l2 : Nat → List Int → Int → Int → Int → Int → Int → List (List Int) → Option (List Int)
 | 0,_,_,_,_,_,_,_=>none
 | k+1,x3,x5,x6,x7,x8,bR,bJ=>if x8 < (x3.length:Int) then (if 0≤x8 then (if (rd x3 x8)=(mx x6 x7) then (dD.l2 k (x3.set (x8:Int).toNat (mn x6 x7)) x5 x6 x7 (wrap64 (x8+1)) bR bJ) else (dD.l2 k x3 x5 x6 x7 (wrap64 (x8+1)) bR bJ)) else (none)) else (dD.l1 k x3 (wrap64 (x5+1)) bR bJ)
end
def dD.f (k:Nat) (af:Int) (aa:List (List Int)):Option (List Int):=dD.l0 k (([]:List Int)) 0 af aa
theorem dD.b8 : ∀ k, (∀ y0 y1 y2 y3, aj (dD.l0 k y0 y1 y2 y3) (dD.l0 (k + 1) y0 y1 y2 y3)) ∧ (∀ y0 y1 y2 y3, aj (dD.l1 k y0 y1 y2 y3) (dD.l1 (k + 1) y0 y1 y2 y3)) ∧ (∀ y0 y1 y2 y3 y4 y5 y6, aj (dD.l2 k y0 y1 y2 y3 y4 y5 y6) (dD.l2 (k + 1) y0 y1 y2 y3 y4 y5 y6))
 | 0=>⟨fun _ _ _ _ r h=>by simp [dD.l0] at h,fun _ _ _ _ r h=>by simp [dD.l1] at h,fun _ _ _ _ _ _ _ r h=>by simp [dD.l2] at h⟩
 | k+1=>by
  obtain ⟨akk,ih1,ih2⟩:=dD.b8 k
  refine ⟨?_, ?_, ?_⟩ <;> intros <;> (first | unfold dD.l0 | unfold dD.l1 | unfold dD.l2) <;> repeat' first
   | (with_reducible first|exact akk _ _ _ _|exact ih1 _ _ _ _|exact ih2 _ _ _ _ _ _ _|exact aj.refl _|exact aj.none _|refine aj.ite ?_ ?_|refine aj.bind ?_ (fun _=>?_))
   | exact akk _ _ _ _|exact ih1 _ _ _ _|exact ih2 _ _ _ _ _ _ _|exact aj.none _|refine aj.ite ?_ ?_|refine aj.bind ?_ (fun _=>?_)
theorem dD.mono:∀ a0 a1 k,aj (dD.f k a0 a1) (dD.f (k+1) a0 a1):=by
 intro a0 a1 k
 obtain ⟨akk,ih1,ih2⟩:=dD.b8 k
 unfold dD.f
 repeat' first
  | (with_reducible first|exact akk _ _ _ _|exact ih1 _ _ _ _|exact ih2 _ _ _ _ _ _ _|exact aj.refl _|exact aj.none _|refine aj.ite ?_ ?_|refine aj.bind ?_ (fun _=>?_))
  | exact akk _ _ _ _|exact ih1 _ _ _ _|exact ih2 _ _ _ _ _ _ _|exact aj.none _|refine aj.ite ?_ ?_|refine aj.bind ?_ (fun _=>?_)
set_option maxHeartbeats 8000000 in
set_option maxRecDepth 100000 in
theorem dD.calls (k : Nat) (af : Int) (aq : Option Addr) (ak : Nat) (aa : List (List Int)) (r : List Int) (w : World) (akv : Kd.C (Kd.slice 2 (Kd.int .i64)) w aq aa.length aa) (akw : aa.length ≤ ak) (h : dD.f k af aa = some r) :
  Calls Try.prog 227 #[.agg #[.int .i64 af,.slice aq aa.length ak]] w fun e w'=>∃ dK:Value,e=.returned (dK)∧Kd.R (Kd.int .i64) 2 w' w.heap.size (fun _=>True) dK r∧Below w.heap.size w w':=by
 have j8:=Try.underlying31
 have bU:=k0 akv
 have cG:=k0 akw
 clear akv akw
 have HB:=k0 (Below.refl w.heap.size w)
 have H:(dD.l0 k (([]:List Int)) 0 af aa)=some r:=h
 clear h
 obtain ⟨eW,eL⟩:∃ y_:List Int,y_=(([]:List Int)):=⟨_,rfl⟩
 replace H:(dD.l0 k eW 0 af aa)=some r:=by first|(rw [eL];with_reducible exact H)|(have ay:=(Option.bind_some _ _).symm.trans H;rw [eL];with_reducible exact ay)|(have ay:=(Option.bind_some _ _).symm.trans H;with_reducible exact ay)|with_reducible exact H|(rw [eL];exact H)|exact H
 have gA:=k0 eL
 clear eL
 have H':=k0 H
 clear H
 go_enter Try.func227,Try.ntmps227
 go_wp2_with (first|((with_reducible refine cj (N:=1) rfl ?_);refine dJ ?hg (N:=1) ?hd (cs:=#[.int .i64 af,.slice aq aa.length ak]) (t:=31) ?hr ?_;(case hd=>rfl);(case hg=>rfl);(case hr=>first|(go_simp;done)|(go_simp;rfl));intro ai hg w2 aK hb;have ag:=k0 (aK);have aks:=k0 ((by rw [hg];exact (aU bl):w.heap.size≤ai));have ej:=aks;replace HB:=k0 (aI bl hb);clear hb aK hg)|((with_reducible refine cj (N:=9) rfl ?_);refine Kd.o8 (Kd.int .i64) _ 2 ?hg (N:=9) ?hd (xs:=([]:List Int)) (inner:=[]) (ok:=fun _=>True) (cA:=fun _=>True) ?hr ?hp (fun _ hk=>hk) trivial (Below.refl _ _) (Nat.le_refl _) (by simp) ?_;(case hd=>rfl);(case hg=>rfl);(case hr=>first|(go_simp;done)|(go_simp;rfl));(case hp=>exact (bS.none _ _));intro dx w3 ep hb eB eC;clear eB eC;(first|rw [← gA.out] at ep|(simp only [Int.reduceToNat] at ep;rw [← gA.out] at ep));have bh:=k0 (Kd.dL ep (aU bl));replace ag:=k0 (akj (g:=ai) (o:=sO af aq aa ak 31) bk hb);replace HB:=k0 (aI bl hb);clear hb ep))
 repeat (go_quiet (first|((with_reducible refine cj (N:=1) rfl ?_);refine dJ ?hg (N:=1) ?hd (cs:=#[.int .i64 af,.slice aq aa.length ak]) (t:=31) ?hr ?_;(case hd=>rfl);(case hg=>rfl);(case hr=>first|(go_simp;done)|(go_simp;rfl));intro ai hg w2 aK hb;have ag:=k0 (aK);have aks:=k0 ((by rw [hg];exact (aU bl):w.heap.size≤ai));have ej:=aks;replace HB:=k0 (aI bl hb);clear hb aK hg)|((with_reducible refine cj (N:=9) rfl ?_);refine Kd.o8 (Kd.int .i64) _ 2 ?hg (N:=9) ?hd (xs:=([]:List Int)) (inner:=[]) (ok:=fun _=>True) (cA:=fun _=>True) ?hr ?hp (fun _ hk=>hk) trivial (Below.refl _ _) (Nat.le_refl _) (by simp) ?_;(case hd=>rfl);(case hg=>rfl);(case hr=>first|(go_simp;done)|(go_simp;rfl));(case hp=>exact (bS.none _ _));intro dx w3 ep hb eB eC;clear eB eC;(first|rw [← gA.out] at ep|(simp only [Int.reduceToNat] at ep;rw [← gA.out] at ep));have bh:=k0 (Kd.dL ep (aU bl));replace ag:=k0 (akj (g:=ai) (o:=sO af aq aa ak 31) bk hb);replace HB:=k0 (aI bl hb);clear hb ep));try go_wp2_with (first|((with_reducible refine cj (N:=1) rfl ?_);refine dJ ?hg (N:=1) ?hd (cs:=#[.int .i64 af,.slice aq aa.length ak]) (t:=31) ?hr ?_;(case hd=>rfl);(case hg=>rfl);(case hr=>first|(go_simp;done)|(go_simp;rfl));intro ai hg w2 aK hb;have ag:=k0 (aK);have aks:=k0 ((by rw [hg];exact (aU bl):w.heap.size≤ai));have ej:=aks;replace HB:=k0 (aI bl hb);clear hb aK hg)|((with_reducible refine cj (N:=9) rfl ?_);refine Kd.o8 (Kd.int .i64) _ 2 ?hg (N:=9) ?hd (xs:=([]:List Int)) (inner:=[]) (ok:=fun _=>True) (cA:=fun _=>True) ?hr ?hp (fun _ hk=>hk) trivial (Below.refl _ _) (Nat.le_refl _) (by simp) ?_;(case hd=>rfl);(case hg=>rfl);(case hr=>first|(go_simp;done)|(go_simp;rfl));(case hp=>exact (bS.none _ _));intro dx w3 ep hb eB eC;clear eB eC;(first|rw [← gA.out] at ep|(simp only [Int.reduceToNat] at ep;rw [← gA.out] at ep));have bh:=k0 (Kd.dL ep (aU bl));replace ag:=k0 (akj (g:=ai) (o:=sO af aq aa ak 31) bk hb);replace HB:=k0 (aI bl hb);clear hb ep)))
 go_loopg [3,4] k (fun kq v3 v4 w'=>∃ (bD:List Int) (bg:Int),v4=.int .i64 bg∧au (dD.l0 kq bD bg af aa=some r)∧au (kq≤k)∧au (Kd.R (Kd.int .i64) 2 w' w.heap.size (fun _=>True) v3 bD)∧au (w'.heap[ai]?=some (sO af aq aa ak 31))∧au (Below w.heap.size w w'))
 case atStart=>exact ⟨(eW),(0),rs,H',⟨Nat.le_refl _⟩,⟨aR (bh.out)⟩,⟨bk⟩,⟨bl⟩⟩
 case round =>
  clear H'
  obtain ⟨bD,bg,rfl,HA,akl,az,ag,HB⟩:=hrel
  cases gk with
  | zero=>exact absurd HA.out (by simp [dD.l0])
  | succ k1 =>
   have H:=HA.out
   clear HA
   simp only [dD.l0] at H
   by_cases c5:bg < af
   case neg =>
    rw [if_neg c5] at H
    have iW:decide (bg < af)=false:=decide_eq_false c5
    clear c5
    have H':=k0 H
    clear H
    have uf:wr.cell? ⟨ai,0,none⟩=some (.int .i64 af):=(av ag.out 0).trans rfl
    have ug:wr.cell? ⟨ai,1,none⟩=some (.slice aq aa.length ak):=(av ag.out 1).trans rfl
    have um:=aH ag.out 0
    have uo:=aH ag.out 1
    go_wp2
    repeat (go_quiet (fail);try go_wp2)
    go_loopg [5] k1 (fun kq v5 w'=>∃ (aE:List Int) (ako:Int),v5=.int .i64 ako∧au (dD.l1 kq aE ako af aa=some r)∧au (kq≤k1)∧au (Kd.R (Kd.int .i64) 2 w' w.heap.size (fun _=>True) u3 aE)∧au (w'.heap[ai]?=some (sO af aq aa ak 31))∧au (Below w.heap.size w w'))
    case atStart=>exact ⟨(bD),(0),rs,H',⟨Nat.le_refl _⟩,⟨aR (az.out)⟩,⟨bk⟩,⟨bl⟩⟩
    case round =>
     clear H'
     (try clear c5);(try clear iW);(try clear c6);(try clear rN);(try clear rO);(try clear uf);(try clear ug);(try clear rQ);(try clear rR);(try clear um);(try clear uo)
     obtain ⟨aE,ako,rfl,HA,bz,az,ag,HB⟩:=hrel
     cases gk with
     | zero=>exact absurd HA.out (by simp [dD.l1])
     | succ k2 =>
      have H:=HA.out
      clear HA
      simp only [dD.l1] at H
      by_cases c10:ako < (aa.length:Int)
      case neg =>
       rw [if_neg c10] at H
       have lB:decide (ako < (aa.length:Int))=false:=decide_eq_false c10
       clear c10
       obtain rfl:=Option.some.inj H
       have ag5:wr.cell? ⟨ai,0,none⟩=some (.int .i64 af):=(av ag.out 0).trans rfl
       have ag6:wr.cell? ⟨ai,1,none⟩=some (.slice aq aa.length ak):=(av ag.out 1).trans rfl
       have ahv:=aH ag.out 0
       have ahw:=aH ag.out 1
       go_wp2
       repeat (go_quiet (fail);try go_wp2)
       go_ret
       exact ⟨_,by first|rfl|(simp [bq,bt]<;>rfl)|(simp [*,bq,bt]<;>rfl),by (with_reducible repeat (first|apply Kd.bN|apply Kd.bQ|apply Kd.bn));exact az.out,bl⟩
      rw [if_pos c10] at H
      have lB:=decide_eq_true c10
      clear c10
      replace H:=iS H;obtain ⟨c11,H⟩:=H
      have mz:=decide_eq_true c11
      clear c11
      replace H:=iS H;obtain ⟨c12,H⟩:=H
      have rG:=decide_eq_true c12
      have z1:decide (0 < (ah aa ako).length)=true:=decide_eq_true (by omega)
      clear c12
      replace H:=iS H;obtain ⟨c13,H⟩:=H
      have kQ:=decide_eq_true c13
      clear c13
      replace H:=iS H;obtain ⟨c14,H⟩:=H
      have ku:=decide_eq_true c14
      clear c14
      replace H:=iS H;obtain ⟨c15,H⟩:=H
      have kR:=decide_eq_true c15
      have rH:decide (1 < (ah aa ako).length)=true:=decide_eq_true (by omega)
      clear c15
      replace H:=iS H;obtain ⟨c16,H⟩:=H
      have qN:=decide_eq_true c16
      clear c16
      replace H:=iS H;obtain ⟨c17,H⟩:=H
      have oN:=decide_eq_true c17
      clear c17
      have H':=k0 H
      clear H
      have Ch:wr.cell? ⟨ai,0,none⟩=some (.int .i64 af):=(av ag.out 0).trans rfl
      have Ci:wr.cell? ⟨ai,1,none⟩=some (.slice aq aa.length ak):=(av ag.out 1).trans rfl
      have Co:=aH ag.out 0
      have Cq:=aH ag.out 1
      have ec:0≤(ako:Int):=oD
      have dS:ako < (aa.length:Int):=oD
      obtain ⟨akU,DX,Ez,e108,fu,sX,sQ⟩:=cW bU.out ako ec dS
      cases e108
      replace fu:=hbc HB fu
      have zK:=k0 sQ
      have GO:=k0 sX
      clear sQ sX
      replace ec:=eq_true ec
      replace dS:=eq_true dS
      have eG:0≤(0:Int):=(by omega)
      have ew:0 < ((ah aa ako).length:Int):=oD
      obtain ⟨lQ,e109,akF⟩:=Kd.bH zK.out 0 eG ew
      cases e109
      have aju:(0 < (ah aa ako).length)=True:=eq_true (by omega)
      (try rw [show ((0:Int)).toNat=0 from rfl] at akF)
      (try rw [Addr.add_zero'] at akF)
      replace akF:=hbc HB akF
      replace eG:=eq_true eG
      replace ew:=eq_true ew
      obtain ⟨alA,qP,vp⟩:=Kd.eK az.out
      subst vp
      obtain ⟨nI,Xh,BN,BV,IV,W3,Bc⟩:=Kd.akT az.out (by have dZ:0≤((rd (ah aa ako) 0):Int):=oD;have iY:((rd (ah aa ako) 0):Int) < ((aE.length:Int):Int):=oD;omega)
      (first|cases BN|(injection BN with bf dn dm;(first|subst bf|(injection bf with bf;subst bf));subst dm;clear dn))
      have amf:=k0 BV
      have Md:=k0 Bc
      clear BV IV Bc
      have jw:0≤((rd (ah aa ako) 0):Int):=oD
      have jx:(rd (ah aa ako) 0) < (aE.length:Int):=oD
      obtain ⟨akV,e110,kD⟩:=Kd.bH (Kd.bu az.out).2.2 (rd (ah aa ako) 0) jw jx
      obtain rfl:(⟨nI,0,none⟩:Addr)=akV:=(by injection e110)
      (first|simp only [add_plain] at kD|simp only [lS] at kD|simp only [Addr.add,Nat.zero_add] at kD|skip)
      replace jw:=eq_true jw
      replace jx:=eq_true jx
      have gi:0≤(ako:Int):=oD
      have gl:ako < (aa.length:Int):=oD
      obtain ⟨mX,DY,EB,e111,gM,xe,xb⟩:=cW bU.out ako gi gl
      obtain rfl:akU=mX:=(by injection e111)
      replace gM:=hbc HB gM
      have alB:=k0 xb
      have GQ:=k0 xe
      clear xb xe
      replace gi:=eq_true gi
      replace gl:=eq_true gl
      have bf:=Option.some.inj (fu.symm.trans gM)
      injection bf with bf dn dm
      subst bf
      subst dm
      clear dn
      have oy:0≤(1:Int):=(by omega)
      have oz:1 < ((ah aa ako).length:Int):=oD
      obtain ⟨xY,e112,lG⟩:=Kd.bH alB.out 1 oy oz
      obtain rfl:lQ=xY:=(by injection e112)
      (try simp only [show (1:Int).toNat=1 from rfl,Nat.reduceMul,Nat.reduceEqDiff,Go.Addr.add,↓reduceIte] at lG)
      have ady:(1 < (ah aa ako).length)=True:=eq_true (by omega)
      (try rw [show ((1:Int)).toNat=1 from rfl] at lG)
      replace lG:=hbc HB lG
      replace oy:=eq_true oy
      replace oz:=eq_true oz
      have nN:0≤((rd (ah aa ako) 1):Int):=oD
      have nO:(rd (ah aa ako) 1) < (aE.length:Int):=oD
      obtain ⟨xZ,e113,nk⟩:=Kd.bH (Kd.bu az.out).2.2 (rd (ah aa ako) 1) nN nO
      obtain rfl:(⟨nI,0,none⟩:Addr)=xZ:=(by injection e113)
      (first|simp only [add_plain] at nk|simp only [lS] at nk|simp only [Addr.add,Nat.zero_add] at nk|skip)
      replace nN:=eq_true nN
      replace nO:=eq_true nO
      go_wp2
      repeat (go_quiet (fail);try go_wp2)
      go_loopg [8] k2 (fun kq v8 w'=>∃ (lu:List Int) (aY:Int),v8=.int .i64 aY∧au (dD.l2 kq lu ako (rd aE (rd (ah aa ako) 0)) (rd aE (rd (ah aa ako) 1)) aY af aa=some r)∧au (kq≤k2)∧au (Kd.R (Kd.int .i64) 2 w' w.heap.size (fun _=>True) (.slice (some ⟨nI,0,none⟩) aE.length qP) lu)∧au (w'.heap[ai]?=some (sO af (some akU) aa ak 31))∧au (Below w.heap.size w w'))
      case atStart=>exact ⟨(aE),(0),rs,H',⟨Nat.le_refl _⟩,⟨aR (az.out)⟩,⟨bk⟩,⟨bl⟩⟩
      case round =>
       clear H'
       (try clear c5);(try clear iW);(try clear c6);(try clear c10);(try clear lB);(try clear c11);(try clear mz);(try clear c12);(try clear rG);(try clear z1);(try clear c13);(try clear kQ);(try clear c14);(try clear ku);(try clear c15);(try clear kR);(try clear rH);(try clear c16);(try clear qN);(try clear c17);(try clear oN);(try clear Ch);(try clear Ci);(try clear rN);(try clear rO);(try clear uf);(try clear ug);(try clear Co);(try clear Cq);(try clear rQ);(try clear rR);(try clear um);(try clear uo);(try clear fu);(try clear akF);(try clear kD);(try clear gM);(try clear lG);(try clear nk);(try clear ec);(try clear eG);(try clear jw);(try clear gi);(try clear oy);(try clear nN);(try clear dS);(try clear ew);(try clear jx);(try clear gl);(try clear oz);(try clear nO)
       obtain ⟨lu,aY,rfl,HA,dg,az,ag,HB⟩:=hrel
       have qi:=(Kd.bu az.out).1
       rw [qi] at az
       (try simp only [qi])
       (try simp only [qi] at ag)
       cases gk with
       | zero=>exact absurd HA.out (by simp [dD.l2])
       | succ k3 =>
        have H:=HA.out
        clear HA
        simp only [dD.l2] at H
        by_cases c21:aY < (lu.length:Int)
        case neg =>
         rw [if_neg c21] at H
         have tZ:decide (aY < (lu.length:Int))=false:=decide_eq_false c21
         (try simp only [qi] at tZ)
         clear c21
         have H':=k0 H
         clear H
         go_wp2
         repeat (go_quiet (fail);try go_wp2)
         (try simp only [← qi])
         first|go_roundg k3|(simp only [← sS];go_roundg k3)|(simp only [← sU];go_roundg k3)
         case measure=>have:=akl.out;have:=bz.out;have:=dg.out;omega
         case rel=>exact ⟨(lu),(wrap64 (ako+1)),rs,(by first|exact H'|(rw [sS];exact H')|(rw [sU];exact H')),⟨by have:=akl.out;have:=bz.out;have:=dg.out;omega⟩,⟨by (try simp only [qi]);(with_reducible repeat (first|apply Kd.bN|apply Kd.bQ|apply Kd.bn));exact az.out⟩,⟨by (try simp only [qi]);exact bk⟩,⟨bl⟩⟩
        rw [if_pos c21] at H
        have tZ:=decide_eq_true c21
        (try simp only [qi] at tZ)
        clear c21
        replace H:=iS H;obtain ⟨c22,H⟩:=H
        have qO:=decide_eq_true c22
        clear c22
        obtain ⟨alY,sS⟩:∃ j_:Int,(mx (rd aE (rd (ah aa ako) 0)) (rd aE (rd (ah aa ako) 1)))=j_:=⟨_,rfl⟩
        replace H:(if (rd lu aY)=(alY) then (dD.l2 k3 (lu.set (aY:Int).toNat (mn (rd aE (rd (ah aa ako) 0)) (rd aE (rd (ah aa ako) 1)))) ako (rd aE (rd (ah aa ako) 0)) (rd aE (rd (ah aa ako) 1)) (wrap64 (aY+1)) af aa) else (dD.l2 k3 lu ako (rd aE (rd (ah aa ako) 0)) (rd aE (rd (ah aa ako) 1)) (wrap64 (aY+1)) af aa))=some r:=by first|(rw [sS] at H;exact H)|(simp only [sS] at H ⊢;exact H)
        have ahG:(if (rd aE (rd (ah aa ako) 0)) < (rd aE (rd (ah aa ako) 1)) then (rd aE (rd (ah aa ako) 1)) else (rd aE (rd (ah aa ako) 0)))=alY:=sS
        by_cases c24:(rd lu aY)=(alY)
        case neg =>
         rw [if_neg c24] at H
         have t_:((rd lu aY) == (alY))=false:=beq_eq_false_iff_ne.mpr c24
         have Ww:((rd lu aY) != (alY))=true:=bne_iff_ne.mpr c24
         have H':=k0 H
         clear H
         have iF:0≤(aY:Int):=oD
         have iG:aY < (lu.length:Int):=oD
         obtain ⟨lR,e114,iZ⟩:=Kd.bH (Kd.bu az.out).2.2 aY iF iG
         obtain rfl:(⟨nI,0,none⟩:Addr)=lR:=(by injection e114)
         (first|simp only [add_plain] at iZ|simp only [lS] at iZ|simp only [Addr.add,Nat.zero_add] at iZ|skip)
         replace iF:=eq_true iF
         replace iG:=eq_true iG
         go_wp2
         repeat (go_quiet (fail);try go_wp2)
         (try simp only [← qi])
         first|go_roundg k3|(simp only [← sS];go_roundg k3)|(simp only [← sU];go_roundg k3)
         case measure=>have:=akl.out;have:=bz.out;have:=dg.out;omega
         case rel=>exact ⟨(lu),(wrap64 (aY+1)),rs,(by first|exact H'|(rw [sS];exact H')|(rw [sU];exact H')),⟨by have:=akl.out;have:=bz.out;have:=dg.out;omega⟩,⟨by (try simp only [qi]);(with_reducible repeat (first|apply Kd.bN|apply Kd.bQ|apply Kd.bn));exact az.out⟩,⟨by (try simp only [qi]);exact bk⟩,⟨bl⟩⟩
        rw [if_pos c24] at H
        have t_:((rd lu aY) == (alY))=true:=beq_iff_eq.mpr c24
        have Ww:((rd lu aY) != (alY))=false:=bne_eq_false_iff_eq.mpr c24
        clear c24
        obtain ⟨uu,sU⟩:∃ j_:Int,(mn (rd aE (rd (ah aa ako) 0)) (rd aE (rd (ah aa ako) 1)))=j_:=⟨_,rfl⟩
        replace H:(dD.l2 k3 (lu.set (aY:Int).toNat (uu)) ako (rd aE (rd (ah aa ako) 0)) (rd aE (rd (ah aa ako) 1)) (wrap64 (aY+1)) af aa)=some r:=by first|(rw [sU] at H;exact H)|(simp only [sU] at H ⊢;exact H)
        have ahH:(if (rd aE (rd (ah aa ako) 1)) < (rd aE (rd (ah aa ako) 0)) then (rd aE (rd (ah aa ako) 1)) else (rd aE (rd (ah aa ako) 0)))=uu:=sU
        obtain ⟨dU,gf⟩:∃ y_:List Int,y_=(lu.set (aY:Int).toNat (uu)):=⟨_,rfl⟩
        replace H:(dD.l2 k3 dU ako (rd aE (rd (ah aa ako) 0)) (rd aE (rd (ah aa ako) 1)) (wrap64 (aY+1)) af aa)=some r:=by first|(rw [gf];with_reducible exact H)|(have ay:=(Option.bind_some _ _).symm.trans H;rw [gf];with_reducible exact ay)|(have ay:=(Option.bind_some _ _).symm.trans H;with_reducible exact ay)|with_reducible exact H|(rw [gf];exact H)|exact H
        have mV:=k0 gf
        clear gf
        have H':=k0 H
        clear H
        have iF:0≤(aY:Int):=oD
        have iG:aY < (lu.length:Int):=oD
        obtain ⟨lR,e114,iZ⟩:=Kd.bH (Kd.bu az.out).2.2 aY iF iG
        obtain rfl:(⟨nI,0,none⟩:Addr)=lR:=(by injection e114)
        (first|simp only [add_plain] at iZ|simp only [lS] at iZ|simp only [Addr.add,Nat.zero_add] at iZ|skip)
        replace iF:=eq_true iF
        replace iG:=eq_true iG
        have KF:0≤(aY:Int):=oD
        have KV:(aY:Int) < ((lu.length:Int):Int):=oD
        obtain ⟨aje,ahb⟩:=Kd.jD 0 az.out (aY:Int) KF KV
        replace KF:=eq_true KF
        replace KV:=eq_true KV
        have rj:=Kd.kP az.out (aY:Int) uu
        go_wp2_with (first|((with_reducible refine lf (t:=2) (p:=66) rfl ?_);(try (rw [Ai wr];generalize iY:World.drewN wr _=wr;have akf:=k0 (Kd.zO iY az.out);have aD:=k0 (al3 iY ag.out);have aJ:=k0 (zY iY HB.out);clear iY az ag HB;have az:=akf;have ag:=aD;have HB:=aJ;clear akf aD aJ;(try (have rj:=Kd.kP az.out (aY:Int) uu))));refine lq (t:=2) (p:=66) (v:=?Su) (w1:=(wr.setCell ⟨nI,(aY:Int).toNat,none⟩ (.int .i64 uu))) ?hg ?ho ?hn ?hr ?_;(case ho=>rfl);(case hg=>rfl);(case hn=>rfl);(case hr=>first|(go_simp;done)|(go_simp;rfl));intro nw hw;have hg:wr.grownBy nw (some nI):=(by rw [hw];exact rj.2);have dZ:Kd.R (Kd.int .i64) 2 nw w.heap.size (fun _=>True) (.slice (some ⟨nI,0,none⟩) lu.length qP) dU:=(by rw [hw,mV.out];exact rj.1);clear rj;replace ag:=k0 (jl (g:=ai) (o:=sO af (some akU) aa ak 31) bk hg (Kd.iD az.out ag.out (by decide)));replace az:=k0 (dZ);replace HB:=k0 ((by rw [hw];exact dM (HB.out) amf.out:Below w.heap.size w nw));clear hg hw dZ))
        repeat (go_quiet (first|((with_reducible refine lf (t:=2) (p:=66) rfl ?_);(try (rw [Ai wr];generalize iY:World.drewN wr _=wr;have akf:=k0 (Kd.zO iY az.out);have aD:=k0 (al3 iY ag.out);have aJ:=k0 (zY iY HB.out);clear iY az ag HB;have az:=akf;have ag:=aD;have HB:=aJ;clear akf aD aJ;(try (have rj:=Kd.kP az.out (aY:Int) uu))));refine lq (t:=2) (p:=66) (v:=?Su) (w1:=(wr.setCell ⟨nI,(aY:Int).toNat,none⟩ (.int .i64 uu))) ?hg ?ho ?hn ?hr ?_;(case ho=>rfl);(case hg=>rfl);(case hn=>rfl);(case hr=>first|(go_simp;done)|(go_simp;rfl));intro nw hw;have hg:wr.grownBy nw (some nI):=(by rw [hw];exact rj.2);have dZ:Kd.R (Kd.int .i64) 2 nw w.heap.size (fun _=>True) (.slice (some ⟨nI,0,none⟩) lu.length qP) dU:=(by rw [hw,mV.out];exact rj.1);clear rj;replace ag:=k0 (jl (g:=ai) (o:=sO af (some akU) aa ak 31) bk hg (Kd.iD az.out ag.out (by decide)));replace az:=k0 (dZ);replace HB:=k0 ((by rw [hw];exact dM (HB.out) amf.out:Below w.heap.size w nw));clear hg hw dZ));try go_wp2_with (first|((with_reducible refine lf (t:=2) (p:=66) rfl ?_);(try (rw [Ai wr];generalize iY:World.drewN wr _=wr;have akf:=k0 (Kd.zO iY az.out);have aD:=k0 (al3 iY ag.out);have aJ:=k0 (zY iY HB.out);clear iY az ag HB;have az:=akf;have ag:=aD;have HB:=aJ;clear akf aD aJ;(try (have rj:=Kd.kP az.out (aY:Int) uu))));refine lq (t:=2) (p:=66) (v:=?Su) (w1:=(wr.setCell ⟨nI,(aY:Int).toNat,none⟩ (.int .i64 uu))) ?hg ?ho ?hn ?hr ?_;(case ho=>rfl);(case hg=>rfl);(case hn=>rfl);(case hr=>first|(go_simp;done)|(go_simp;rfl));intro nw hw;have hg:wr.grownBy nw (some nI):=(by rw [hw];exact rj.2);have dZ:Kd.R (Kd.int .i64) 2 nw w.heap.size (fun _=>True) (.slice (some ⟨nI,0,none⟩) lu.length qP) dU:=(by rw [hw,mV.out];exact rj.1);clear rj;replace ag:=k0 (jl (g:=ai) (o:=sO af (some akU) aa ak 31) bk hg (Kd.iD az.out ag.out (by decide)));replace az:=k0 (dZ);replace HB:=k0 ((by rw [hw];exact dM (HB.out) amf.out:Below w.heap.size w nw));clear hg hw dZ)))
        (try simp only [← qi])
        first|go_roundg k3|(simp only [← sS];go_roundg k3)|(simp only [← sU];go_roundg k3)
        case measure=>have:=akl.out;have:=bz.out;have:=dg.out;omega
        case rel=>exact ⟨(dU),(wrap64 (aY+1)),rs,(by first|exact H'|(rw [sS];exact H')|(rw [sU];exact H')),⟨by have:=akl.out;have:=bz.out;have:=dg.out;omega⟩,⟨by (try simp only [qi]);(with_reducible repeat (first|apply Kd.bN|apply Kd.bQ|apply Kd.bn));exact az.out⟩,⟨by (try simp only [qi]);exact bk⟩,⟨bl⟩⟩
   rw [if_pos c5] at H
   have iW:=decide_eq_true c5
   clear c5
   replace H:=iS H;obtain ⟨c6,H⟩:=H
   have Hz:=k0 c6
   clear c6
   obtain ⟨jg,fy⟩:∃ y_:List Int,y_=(bD ++ [bg]):=⟨_,rfl⟩
   replace H:(dD.l0 k1 jg (wrap64 (bg+1)) af aa)=some r:=by first|(rw [fy];with_reducible exact H)|(have ay:=(Option.bind_some _ _).symm.trans H;rw [fy];with_reducible exact ay)|(have ay:=(Option.bind_some _ _).symm.trans H;with_reducible exact ay)|with_reducible exact H|(rw [fy];exact H)|exact H
   have lN:=k0 fy
   clear fy
   have H':=k0 H
   clear H
   have rN:wr.cell? ⟨ai,0,none⟩=some (.int .i64 af):=(av ag.out 0).trans rfl
   have rO:wr.cell? ⟨ai,1,none⟩=some (.slice aq aa.length ak):=(av ag.out 1).trans rfl
   have rQ:=aH ag.out 0
   have rR:=aH ag.out 1
   go_wp2_with (first|((with_reducible refine oQ (b:=.append) (xs:=#[.tmp 16,.tmp 18]) rfl ?_);at_builtin;refine Kd.tV (Kd.int .i64) (w0:=w) w.heap.size rfl (.tmp 16) (.tmp 18) 28 2 (.int .i64 0) 8 rfl Try.underlying28 lH rfl (by decide) (by omega) u3 bD bg [.int .i64 bg] (fun _=>True) (fun _=>False) rfl rfl ?aP (fun _ hk=>hk.elim) ?aF ?aO ?aB ?aS ?aL ?_;(case aP=>exact rfl);(case aB=>exact bl);(case aF=>exact (fun _ _=>trivial));(case aO=>exact (aR az.out));(case aS=>exact (aU bl));(case aL=>have:=Hz.out;omega);intro fY w8 ho hb hg cy;rw [← lN.out] at ho;have akf:=k0 (jl (g:=ai) (o:=sO af aq aa ak 31) bk hg (Kd.iD az.out ag.out (by decide)));have aD:=k0 (hb);have aJ:=k0 (ho);clear ag;clear HB;clear az;have ag:=akf;have HB:=aD;have cN:=aJ;clear akf aD aJ;clear ho hb hg cy))
   repeat (go_quiet (first|((with_reducible refine oQ (b:=.append) (xs:=#[.tmp 16,.tmp 18]) rfl ?_);at_builtin;refine Kd.tV (Kd.int .i64) (w0:=w) w.heap.size rfl (.tmp 16) (.tmp 18) 28 2 (.int .i64 0) 8 rfl Try.underlying28 lH rfl (by decide) (by omega) u3 bD bg [.int .i64 bg] (fun _=>True) (fun _=>False) rfl rfl ?aP (fun _ hk=>hk.elim) ?aF ?aO ?aB ?aS ?aL ?_;(case aP=>exact rfl);(case aB=>exact bl);(case aF=>exact (fun _ _=>trivial));(case aO=>exact (aR az.out));(case aS=>exact (aU bl));(case aL=>have:=Hz.out;omega);intro fY w8 ho hb hg cy;rw [← lN.out] at ho;have akf:=k0 (jl (g:=ai) (o:=sO af aq aa ak 31) bk hg (Kd.iD az.out ag.out (by decide)));have aD:=k0 (hb);have aJ:=k0 (ho);clear ag;clear HB;clear az;have ag:=akf;have HB:=aD;have cN:=aJ;clear akf aD aJ;clear ho hb hg cy));try go_wp2_with (first|((with_reducible refine oQ (b:=.append) (xs:=#[.tmp 16,.tmp 18]) rfl ?_);at_builtin;refine Kd.tV (Kd.int .i64) (w0:=w) w.heap.size rfl (.tmp 16) (.tmp 18) 28 2 (.int .i64 0) 8 rfl Try.underlying28 lH rfl (by decide) (by omega) u3 bD bg [.int .i64 bg] (fun _=>True) (fun _=>False) rfl rfl ?aP (fun _ hk=>hk.elim) ?aF ?aO ?aB ?aS ?aL ?_;(case aP=>exact rfl);(case aB=>exact bl);(case aF=>exact (fun _ _=>trivial));(case aO=>exact (aR az.out));(case aS=>exact (aU bl));(case aL=>have:=Hz.out;omega);intro fY w8 ho hb hg cy;rw [← lN.out] at ho;have akf:=k0 (jl (g:=ai) (o:=sO af aq aa ak 31) bk hg (Kd.iD az.out ag.out (by decide)));have aD:=k0 (hb);have aJ:=k0 (ho);clear ag;clear HB;clear az;have ag:=akf;have HB:=aD;have cN:=aJ;clear akf aD aJ;clear ho hb hg cy)))
   first|go_roundg k1|(simp only [← sS];go_roundg k1)|(simp only [← sU];go_roundg k1)
   case measure=>have:=akl.out;omega
   case rel=>exact ⟨(jg),(wrap64 (bg+1)),rs,(by first|exact H'|(rw [sS];exact H')|(rw [sU];exact H')),⟨by have:=akl.out;omega⟩,⟨aR (cN.out)⟩,⟨bk⟩,⟨bl⟩⟩
/-! ### F189: function 189 -/
def iH.l0 : Nat → List Int → Int → Int → Option (Int)
 | 0,_,_,_=>none
 | k+1,x3,x4,x5=>if x5 < (x3.length:Int) then (if 0≤x5 then (if (rd x3 x5)=x5 then (iH.l0 k x3 (wrap64 (x4+1)) (wrap64 (x5+1))) else (iH.l0 k x3 x4 (wrap64 (x5+1)))) else (none)) else (some x4)
def iH.f (k:Nat) (af:Int) (aa:List (List Int)):Option (Int):=(dD.f k af aa).bind fun t102=>(iH.l0 k t102 0 0)
theorem iH.b8 : ∀ k, (∀ y0 y1 y2, aj (iH.l0 k y0 y1 y2) (iH.l0 (k + 1) y0 y1 y2))
 | 0=>fun _ _ _ r h=>by simp [iH.l0] at h
 | k+1=>by
  have akk:=iH.b8 k
  ·intro y0 y1 y2
   unfold iH.l0
   repeat' first
    | (with_reducible first|exact akk _ _ _|exact dD.mono _ _ _|exact aj.refl _|exact aj.none _|refine aj.ite ?_ ?_|refine aj.bind ?_ (fun _=>?_))
    | exact akk _ _ _|exact dD.mono _ _ _|exact aj.none _|refine aj.ite ?_ ?_|refine aj.bind ?_ (fun _=>?_)
theorem iH.mono:∀ a0 a1 k,aj (iH.f k a0 a1) (iH.f (k+1) a0 a1):=by
 intro a0 a1 k
 have akk:=iH.b8 k
 unfold iH.f
 repeat' first
  | (with_reducible first|exact akk _ _ _|exact dD.mono _ _ _|exact aj.refl _|exact aj.none _|refine aj.ite ?_ ?_|refine aj.bind ?_ (fun _=>?_))
  | exact akk _ _ _|exact dD.mono _ _ _|exact aj.none _|refine aj.ite ?_ ?_|refine aj.bind ?_ (fun _=>?_)
set_option maxHeartbeats 8000000 in
set_option maxRecDepth 100000 in
theorem iH.calls (k : Nat) (af : Int) (aq : Option Addr) (ak : Nat) (aa : List (List Int)) (r : Int) (w : World) (akv : Kd.C (Kd.slice 2 (Kd.int .i64)) w aq aa.length aa) (akw : aa.length ≤ ak) (h : iH.f k af aa = some r) :
  Calls Try.prog 189 #[.agg #[.int .i64 af,.slice aq aa.length ak]] w fun e w'=>e=.returned (.int .i64 r)∧Below w.heap.size w w':=by
 have j8:=Try.underlying31
 have bU:=k0 akv
 have cG:=k0 akw
 clear akv akw
 have HB:=k0 (Below.refl w.heap.size w)
 have H:((dD.f k af aa).bind fun t102=>(iH.l0 k t102 0 0))=some r:=h
 clear h
 replace H:=Option.bind_eq_some_iff.mp H
 obtain ⟨t102,lM,H⟩:=H
 replace H:(iH.l0 k t102 0 0)=some r:=H
 have A2:=k0 lM
 clear lM
 have H':=k0 H
 clear H
 go_enter Try.func189,Try.ntmps189
 go_wp2_with (first|((with_reducible refine cj (N:=1) rfl ?_);refine dJ ?hg (N:=1) ?hd (cs:=#[.int .i64 af,.slice aq aa.length ak]) (t:=31) ?hr ?_;(case hd=>rfl);(case hg=>rfl);(case hr=>first|(go_simp;done)|(go_simp;rfl));intro ai hg w3 aK hb;have ag:=k0 (aK);have aks:=k0 ((by rw [hg];exact (aU bl):w.heap.size≤ai));have ej:=aks;replace HB:=k0 (aI bl hb);clear hb aK hg;have wZ:w3.cell? ⟨ai,0,none⟩=some (.int .i64 af):=(av ag.out 0).trans rfl;have alF:w3.cell? ⟨ai,1,none⟩=some (.slice aq aa.length ak):=(av ag.out 1).trans rfl;have alJ:=aH ag.out 0;have alK:=aH ag.out 1)|((with_reducible refine cZ (f:=227) rfl ?_);refine c_ (some 7) rfl rfl Try.func227 (by kernel_rfl) rfl #[.agg #[.int .i64 af,.slice aq aa.length ak]] rfl gm ?_;(with_reducible refine (dD.calls k af _ _ aa t102 _ ?akn ?aT A2.out).mono ?_);(case akn=>exact aC (Kd.bA bU.out HB.out));(case aT=>exact cG.out);rintro e w5 ⟨dx,rfl,ake,hb⟩;refine ⟨_,rfl,?_⟩;have bh:=k0 (Kd.dL ake (aU bl));replace ag:=k0 (akj (g:=ai) (o:=sO af aq aa ak 31) bk hb);replace HB:=k0 (aI bl hb);(try clear hb);(try clear ake)))
 go_loopg [4,5] k (fun kq v4 v5 w'=>∃ (bg:Int) (aM:Int),v4=.int .i64 bg∧v5=.int .i64 aM∧au (iH.l0 kq t102 bg aM=some r)∧au (kq≤k)∧au (Kd.R (Kd.int .i64) 2 w' w.heap.size (fun _=>True) dx t102)∧au (w'.heap[ai]?=some (sO af aq aa ak 31))∧au (Below w.heap.size w w'))
 case atStart=>exact ⟨(0),(0),rs,rs,H',⟨Nat.le_refl _⟩,⟨aR (bh.out)⟩,⟨bk⟩,⟨bl⟩⟩
 case round =>
  clear H'
  (try clear wZ);(try clear alF);(try clear alJ);(try clear alK)
  obtain ⟨bg,aM,rfl,rfl,HA,akl,az,ag,HB⟩:=hrel
  cases gk with
  | zero=>exact absurd HA.out (by simp [iH.l0])
  | succ k1 =>
   have H:=HA.out
   clear HA
   simp only [iH.l0] at H
   by_cases c6:aM < (t102.length:Int)
   case neg =>
    rw [if_neg c6] at H
    have akJ:decide (aM < (t102.length:Int))=false:=decide_eq_false c6
    clear c6
    obtain rfl:=Option.some.inj H
    obtain ⟨zA,Ae,BL⟩:=Kd.eK az.out
    subst BL
    go_wp2
    go_ret
    exact ⟨by first|rfl|(simp [bq,bt]<;>rfl)|(simp [*,bq,bt]<;>rfl),bl⟩
   rw [if_pos c6] at H
   have akJ:=decide_eq_true c6
   clear c6
   replace H:=iS H;obtain ⟨c7,H⟩:=H
   have gK:=decide_eq_true c7
   clear c7
   by_cases c8:(rd t102 aM)=aM
   case neg =>
    rw [if_neg c8] at H
    have iX:((rd t102 aM) == aM)=false:=beq_eq_false_iff_ne.mpr c8
    have BG:((rd t102 aM) != aM)=true:=bne_iff_ne.mpr c8
    have H':=k0 H
    clear H
    obtain ⟨ams,pn,qa⟩:=Kd.eK az.out
    subst qa
    have cX:0≤(aM:Int):=oD
    have cU:aM < (t102.length:Int):=oD
    obtain ⟨kr,e105,dY⟩:=Kd.bH (Kd.bu az.out).2.2 aM cX cU
    cases e105
    replace cX:=eq_true cX
    replace cU:=eq_true cU
    go_wp2
    go_roundg k1
    case measure=>have:=akl.out;omega
    case rel=>exact ⟨(bg),(wrap64 (aM+1)),rs,rs,H',⟨by have:=akl.out;omega⟩,⟨aR (az.out)⟩,⟨bk⟩,⟨bl⟩⟩
   rw [if_pos c8] at H
   have iX:((rd t102 aM) == aM)=true:=beq_iff_eq.mpr c8
   have BG:((rd t102 aM) != aM)=false:=bne_eq_false_iff_eq.mpr c8
   clear c8
   have H':=k0 H
   clear H
   obtain ⟨Ao9,Im,ye⟩:=Kd.eK az.out
   subst ye
   have cX:0≤(aM:Int):=oD
   have cU:aM < (t102.length:Int):=oD
   obtain ⟨kr,e105,dY⟩:=Kd.bH (Kd.bu az.out).2.2 aM cX cU
   cases e105
   replace cX:=eq_true cX
   replace cU:=eq_true cU
   go_wp2
   go_roundg k1
   case measure=>have:=akl.out;omega
   case rel=>exact ⟨(wrap64 (bg+1)),(wrap64 (aM+1)),rs,rs,H',⟨by have:=akl.out;omega⟩,⟨aR (az.out)⟩,⟨bk⟩,⟨bl⟩⟩
/-! ### F101: function 101 -/
def nC.f (k:Nat) (af:Int) (aa:List (List Int)):Option (Bool):=(iH.f k af aa).bind fun t102=>(some (t102 == 1))
theorem nC.mono:∀ a0 a1 k,aj (nC.f k a0 a1) (nC.f (k+1) a0 a1):=by
 intro a0 a1 k
 unfold nC.f
 repeat' first
  | (with_reducible first|exact iH.mono _ _ _|exact aj.refl _|exact aj.none _|refine aj.ite ?_ ?_|refine aj.bind ?_ (fun _=>?_))
  | exact iH.mono _ _ _|exact aj.none _|refine aj.ite ?_ ?_|refine aj.bind ?_ (fun _=>?_)
set_option maxHeartbeats 8000000 in
set_option maxRecDepth 100000 in
theorem nC.calls (k : Nat) (af : Int) (aq : Option Addr) (ak : Nat) (aa : List (List Int)) (r : Bool) (w : World) (akv : Kd.C (Kd.slice 2 (Kd.int .i64)) w aq aa.length aa) (akw : aa.length ≤ ak) (h : nC.f k af aa = some r) :
  Calls Try.prog 101 #[.agg #[.int .i64 af,.slice aq aa.length ak]] w fun e w'=>e=.returned (.bool r)∧Below w.heap.size w w':=by
 have j8:=Try.underlying31
 have bU:=k0 akv
 have cG:=k0 akw
 clear akv akw
 have HB:=k0 (Below.refl w.heap.size w)
 have H:((iH.f k af aa).bind fun t102=>(some (t102 == 1)))=some r:=h
 clear h
 replace H:=Option.bind_eq_some_iff.mp H
 obtain ⟨t102,lM,H⟩:=H
 replace H:(some (t102 == 1))=some r:=H
 have A2:=k0 lM
 clear lM
 obtain rfl:=Option.some.inj H
 go_enter Try.func101,Try.ntmps101
 go_wp2_with (first|((with_reducible refine cj (N:=1) rfl ?_);refine dJ ?hg (N:=1) ?hd (cs:=#[.int .i64 af,.slice aq aa.length ak]) (t:=31) ?hr ?_;(case hd=>rfl);(case hg=>rfl);(case hr=>first|(go_simp;done)|(go_simp;rfl));intro ai hg w3 aK hb;have ag:=k0 (aK);have aks:=k0 ((by rw [hg];exact (aU bl):w.heap.size≤ai));have ej:=aks;replace HB:=k0 (aI bl hb);clear hb aK hg;have wZ:w3.cell? ⟨ai,0,none⟩=some (.int .i64 af):=(av ag.out 0).trans rfl;have alF:w3.cell? ⟨ai,1,none⟩=some (.slice aq aa.length ak):=(av ag.out 1).trans rfl;have alJ:=aH ag.out 0;have alK:=aH ag.out 1)|((with_reducible refine cZ (f:=189) rfl ?_);refine c_ (some 4) rfl rfl Try.func189 (by kernel_rfl) rfl #[.agg #[.int .i64 af,.slice aq aa.length ak]] rfl gm ?_;(with_reducible refine (iH.calls k af _ _ aa t102 _ ?akn ?aT A2.out).mono ?_);(case akn=>exact aC (Kd.bA bU.out HB.out));(case aT=>exact cG.out);rintro e w5 ⟨rfl,hb⟩;refine ⟨_,rfl,?_⟩;replace ag:=k0 (akj (g:=ai) (o:=sO af aq aa ak 31) bk hb);replace HB:=k0 (aI bl hb);(try clear hb)))
 go_ret
 exact ⟨by first|rfl|(simp [bq,bt]<;>rfl)|(simp [*,bq,bt]<;>rfl),bl⟩
/-! ### F172: function 172 -/
def gy.f (a0:Int) (a1:Int) (a2:Int):Option (Bool):=if a0 ≥ a1 then (some (decide (a0≤a2))) else (some false)
set_option maxHeartbeats 8000000 in
set_option maxRecDepth 100000 in
theorem gy.calls (a0 : Int) (a1 : Int) (a2 : Int) (r : Bool) (w : World) (h : gy.f a0 a1 a2 = some r) :
  Calls Try.prog 172 #[.int .i64 a0,.int .i64 a1,.int .i64 a2] w fun e w'=>e=.returned (.bool r)∧bP w w':=by
 have H:(if a0 ≥ a1 then (some (decide (a0≤a2))) else (some false))=some r:=h
 clear h
 by_cases c4:a0 ≥ a1
 case neg =>
  rw [if_neg c4] at H
  have eA:decide (a1≤a0)=false:=decide_eq_false c4
  clear c4
  obtain rfl:=Option.some.inj H
  go_enter Try.func172,Try.ntmps172
  go_wp2
  go_ret
  exact ⟨by first|rfl|(simp;done)|(simp [*];done),by repeat (first|exact bP.refl _|apply bP.step)⟩
 rw [if_pos c4] at H
 have eA:=decide_eq_true c4
 clear c4
 obtain rfl:=Option.some.inj H
 go_enter Try.func172,Try.ntmps172
 go_wp2
 go_ret
 exact ⟨by first|rfl|(simp;done)|(simp [*];done),by repeat (first|exact bP.refl _|apply bP.step)⟩
end Go.Proofs.Ytoebojnhchocaaa.C
/- Set with little white space, by a program. -/
