/- The functions that one law reaches, each as a Lean function, and that Go's call comes to what it says. Condition of each: that the Lean function answers (is not none). -/
import Derived.Test.YtoebojnhchocaaaDx0
import Derived.Test.YtoebojnhchocaaaDx1
namespace Go.Proofs.Ytoebojnhchocaaa.D
open Go.RowKit Go.Proofs.bR.eC Go.Proofs.bR.je Go.Proofs.bR.jO
attribute [local go_sem] max2_int min2_int max_two min_two max_three min_three max_four min_four   -- for this text's walks alone
set_option linter.unusedVariables false
set_option linter.unusedSimpArgs false
/-! ### F28: function 28 -/
def nC.f (k:Nat) (af:Int) (aa:List (List Int)) (fV:Int) (ey:List (List Int)):Option (Bool):=if af=fV then ((iq.f k aa ey).bind fun t103=>(if t103=true then (some true) else (some false))) else (some false)
theorem nC.mono:∀ a0 a1 a2 a3 k,aj (nC.f k a0 a1 a2 a3) (nC.f (k+1) a0 a1 a2 a3):=by
 intro a0 a1 a2 a3 k
 unfold nC.f
 repeat' first
  | (with_reducible first|exact iq.mono _ _ _|exact aj.refl _|exact aj.none _|refine aj.ite ?_ ?_|refine aj.bind ?_ (fun _=>?_))
  | exact iq.mono _ _ _|exact aj.none _|refine aj.ite ?_ ?_|refine aj.bind ?_ (fun _=>?_)
set_option maxHeartbeats 8000000 in
set_option maxRecDepth 100000 in
theorem nC.calls (k : Nat) (af : Int) (aq : Option Addr) (ak : Nat) (aa : List (List Int)) (fV : Int) (iL : Option Addr) (iR : Nat) (ey : List (List Int)) (r : Bool) (w : World) (aly : Kd.C (Kd.slice 2 (Kd.int .i64)) w aq aa.length aa) (ck : aa.length ≤ ak) (xF : Kd.C (Kd.slice 2 (Kd.int .i64)) w iL ey.length ey) (AW : ey.length ≤ iR) (h : nC.f k af aa fV ey = some r) :
  Calls Try.prog 28 #[.agg #[.int .i64 af,.slice aq aa.length ak],.agg #[.int .i64 fV,.slice iL ey.length iR]] w fun e w'=>e=.returned (.bool r)∧Below w.heap.size w w':=by
 have j9:=Try.underlying31
 have bZ:=k0 aly
 have cD:=k0 ck
 clear aly ck
 have NM:=k0 xF
 have Nc:=k0 AW
 clear xF AW
 have HB:=k0 (Below.refl w.heap.size w)
 have H:(if af=fV then ((iq.f k aa ey).bind fun t103=>(if t103=true then (some true) else (some false))) else (some false))=some r:=h
 clear h
 by_cases c3:af=fV
 case neg =>
  rw [if_neg c3] at H
  have gZ:(af == fV)=false:=beq_eq_false_iff_ne.mpr c3
  have lD:(af != fV)=true:=bne_iff_ne.mpr c3
  obtain rfl:=Option.some.inj H
  go_enter Try.func28,Try.ntmps28
  go_wp2_with (first|((with_reducible refine cj (N:=2) rfl ?_);refine dK ?hg (N:=2) ?hd (cs:=#[.int .i64 af,.slice aq aa.length ak]) (t:=31) ?hr ?_;(case hd=>rfl);(case hg=>rfl);(case hr=>first|(go_simp;done)|(go_simp;rfl));intro ai hg w16 aJ hb;have ag:=k0 (aJ);have b8:=k0 ((by rw [hg];exact (alk bl):w.heap.size≤ai));have eB:=b8;replace HB:=k0 (aI bl hb);clear hb aJ hg)|((with_reducible refine cj (N:=3) rfl ?_);refine dK ?hg (N:=3) ?hd (cs:=#[.int .i64 fV,.slice iL ey.length iR]) (t:=31) ?hr ?_;(case hd=>rfl);(case hg=>rfl);(case hr=>first|(go_simp;done)|(go_simp;rfl));intro fM hg rz aJ hb;have jy:=k0 (aJ);have uZ:=k0 ((by rw [hg];exact (alk bl):w.heap.size≤fM));have EU:=uZ;replace HB:=k0 (aI bl hb);have vk:=k0 ((by rw [hg];exact Nat.ne_of_lt (cJ (g:=ai) (o:=sO af aq aa ak 31) bk):ai ≠ fM));have vo:=k0 ((by rw [hg];exact Nat.ne_of_gt (cJ (g:=ai) (o:=sO af aq aa ak 31) bk):fM ≠ ai));replace ag:=k0 (alm (g:=ai) (o:=sO af aq aa ak 31) bk hb);clear hb aJ hg;have abG:=vk.out;have abK:=vo.out;have sS:rz.cell? ⟨ai,0,none⟩=some (.int .i64 af):=(av ag.out 0).trans rfl;have yP:rz.cell? ⟨ai,1,none⟩=some (.slice aq aa.length ak):=(av ag.out 1).trans rfl;have amk:=aD ag.out 0;have yT:=aD ag.out 1;have C6:rz.cell? ⟨fM,0,none⟩=some (.int .i64 fV):=(av jy.out 0).trans rfl;have C7:rz.cell? ⟨fM,1,none⟩=some (.slice iL ey.length iR):=(av jy.out 1).trans rfl;have Dd:=aD jy.out 0;have De:=aD jy.out 1))
  go_ret
  exact ⟨by first|rfl|(simp [bz,bA]<;>rfl)|(simp [*,bz,bA]<;>rfl),bl⟩
 rw [if_pos c3] at H
 have gZ:(af == fV)=true:=beq_iff_eq.mpr c3
 have lD:(af != fV)=false:=bne_eq_false_iff_eq.mpr c3
 clear c3
 replace H:=Option.bind_eq_some_iff.mp H
 obtain ⟨t103,lM,H⟩:=H
 replace H:(if t103=true then (some true) else (some false))=some r:=H
 have A4:=k0 lM
 clear lM
 by_cases c5:t103=true
 case neg =>
  replace c5:=Bool.eq_false_iff.mpr c5
  subst c5
  have H1:(some false)=some r:=by rw [if_neg (show ¬ (false=true) by decide)] at H;exact H
  clear H
  have H:=H1
  clear H1
  obtain rfl:=Option.some.inj H
  go_enter Try.func28,Try.ntmps28
  go_wp2_with (first|((with_reducible refine cj (N:=2) rfl ?_);refine dK ?hg (N:=2) ?hd (cs:=#[.int .i64 af,.slice aq aa.length ak]) (t:=31) ?hr ?_;(case hd=>rfl);(case hg=>rfl);(case hr=>first|(go_simp;done)|(go_simp;rfl));intro ai hg alE aJ hb;have ag:=k0 (aJ);have b8:=k0 ((by rw [hg];exact (alk bl):w.heap.size≤ai));have eB:=b8;replace HB:=k0 (aI bl hb);clear hb aJ hg)|((with_reducible refine cj (N:=3) rfl ?_);refine dK ?hg (N:=3) ?hd (cs:=#[.int .i64 fV,.slice iL ey.length iR]) (t:=31) ?hr ?_;(case hd=>rfl);(case hg=>rfl);(case hr=>first|(go_simp;done)|(go_simp;rfl));intro fM hg jt aJ hb;have jy:=k0 (aJ);have uZ:=k0 ((by rw [hg];exact (alk bl):w.heap.size≤fM));have EU:=uZ;replace HB:=k0 (aI bl hb);have vk:=k0 ((by rw [hg];exact Nat.ne_of_lt (cJ (g:=ai) (o:=sO af aq aa ak 31) bk):ai ≠ fM));have vo:=k0 ((by rw [hg];exact Nat.ne_of_gt (cJ (g:=ai) (o:=sO af aq aa ak 31) bk):fM ≠ ai));replace ag:=k0 (alm (g:=ai) (o:=sO af aq aa ak 31) bk hb);clear hb aJ hg;have ai1:=vk.out;have ajy:=vo.out;have xj:jt.cell? ⟨ai,0,none⟩=some (.int .i64 af):=(av ag.out 0).trans rfl;have xk:jt.cell? ⟨ai,1,none⟩=some (.slice aq aa.length ak):=(av ag.out 1).trans rfl;have xq:=aD ag.out 0;have xu:=aD ag.out 1;have C4:jt.cell? ⟨fM,0,none⟩=some (.int .i64 fV):=(av jy.out 0).trans rfl;have C5:jt.cell? ⟨fM,1,none⟩=some (.slice iL ey.length iR):=(av jy.out 1).trans rfl;have Db:=aD jy.out 0;have Dc:=aD jy.out 1)|((with_reducible refine dx (f:=87) rfl ?_);refine dy (some 14) rfl rfl Try.func87 (by kernel_rfl) rfl #[.slice aq aa.length ak,.slice iL ey.length iR] rfl gm ?_;(with_reducible refine (iq.calls k _ _ aa _ _ ey false _ ?aT ?aU ?cy ?cI A4.out).mono ?_);(case aT=>exact aC (Kd.bK bZ.out HB.out));(case aU=>exact cD.out);(case cy=>exact aC (Kd.bK NM.out HB.out));(case cI=>exact Nc.out);rintro e w' ⟨rfl,⟨nd,rfl⟩⟩;refine ⟨_,rfl,?_⟩))
  go_ret
  exact ⟨by first|rfl|(simp [bz,bA]<;>rfl)|(simp [*,bz,bA]<;>rfl),bl⟩
 subst c5
 have H1:(some true)=some r:=by rw [if_pos rfl] at H;exact H
 clear H
 have H:=H1
 clear H1
 obtain rfl:=Option.some.inj H
 go_enter Try.func28,Try.ntmps28
 go_wp2_with (first|((with_reducible refine cj (N:=2) rfl ?_);refine dK ?hg (N:=2) ?hd (cs:=#[.int .i64 af,.slice aq aa.length ak]) (t:=31) ?hr ?_;(case hd=>rfl);(case hg=>rfl);(case hr=>first|(go_simp;done)|(go_simp;rfl));intro ai hg w6 aJ hb;have ag:=k0 (aJ);have b8:=k0 ((by rw [hg];exact (alk bl):w.heap.size≤ai));have eB:=b8;replace HB:=k0 (aI bl hb);clear hb aJ hg)|((with_reducible refine cj (N:=3) rfl ?_);refine dK ?hg (N:=3) ?hd (cs:=#[.int .i64 fV,.slice iL ey.length iR]) (t:=31) ?hr ?_;(case hd=>rfl);(case hg=>rfl);(case hr=>first|(go_simp;done)|(go_simp;rfl));intro fM hg w7 aJ hb;have jy:=k0 (aJ);have uZ:=k0 ((by rw [hg];exact (alk bl):w.heap.size≤fM));have EU:=uZ;replace HB:=k0 (aI bl hb);have vk:=k0 ((by rw [hg];exact Nat.ne_of_lt (cJ (g:=ai) (o:=sO af aq aa ak 31) bk):ai ≠ fM));have vo:=k0 ((by rw [hg];exact Nat.ne_of_gt (cJ (g:=ai) (o:=sO af aq aa ak 31) bk):fM ≠ ai));replace ag:=k0 (alm (g:=ai) (o:=sO af aq aa ak 31) bk hb);clear hb aJ hg;have abI:=vk.out;have abM:=vo.out;have uA:w7.cell? ⟨ai,0,none⟩=some (.int .i64 af):=(av ag.out 0).trans rfl;have uB:w7.cell? ⟨ai,1,none⟩=some (.slice aq aa.length ak):=(av ag.out 1).trans rfl;have uD:=aD ag.out 0;have uE:=aD ag.out 1;have rW:w7.cell? ⟨fM,0,none⟩=some (.int .i64 fV):=(av jy.out 0).trans rfl;have rX:w7.cell? ⟨fM,1,none⟩=some (.slice iL ey.length iR):=(av jy.out 1).trans rfl;have r3:=aD jy.out 0;have r4:=aD jy.out 1)|((with_reducible refine dx (f:=87) rfl ?_);refine dy (some 14) rfl rfl Try.func87 (by kernel_rfl) rfl #[.slice aq aa.length ak,.slice iL ey.length iR] rfl gm ?_;(with_reducible refine (iq.calls k _ _ aa _ _ ey true _ ?aT ?aU ?cy ?cI A4.out).mono ?_);(case aT=>exact aC (Kd.bK bZ.out HB.out));(case aU=>exact cD.out);(case cy=>exact aC (Kd.bK NM.out HB.out));(case cI=>exact Nc.out);rintro e w' ⟨rfl,⟨nd,rfl⟩⟩;refine ⟨_,rfl,?_⟩))
 go_ret
 exact ⟨by first|rfl|(simp [bz,bA]<;>rfl)|(simp [*,bz,bA]<;>rfl),bl⟩
/-! ### F227: function 227 -/
mutual
def dz.l0 : Nat → List Int → Int → Int → List (List Int) → Option (List Int)
 | 0,_,_,_,_=>none
 | k+1,x3,x4,bF,bE=>if x4 < bF then (if x3.length < 17592186044416 then (dz.l0 k (x3 ++ [x4]) (wrap64 (x4+1)) bF bE) else (none)) else (dz.l1 k x3 0 bF bE)
def dz.l1 : Nat → List Int → Int → Int → List (List Int) → Option (List Int)
 | 0,_,_,_,_=>none
 | k+1,x3,x5,bF,bE=>if x5 < (bE.length:Int) then (if 0≤x5 then (if 0 < ((ah bE x5).length:Int) then (if 0≤(rd (ah bE x5) 0) then (if (rd (ah bE x5) 0) < (x3.length:Int) then (if 1 < ((ah bE x5).length:Int) then (if 0≤(rd (ah bE x5) 1) then (if (rd (ah bE x5) 1) < (x3.length:Int) then (dz.l2 k x3 x5 (rd x3 (rd (ah bE x5) 0)) (rd x3 (rd (ah bE x5) 1)) 0 bF bE) else (none)) else (none)) else (none)) else (none)) else (none)) else (none)) else (none)) else (some x3)
def dz.l2 : Nat → List Int → Int → Int → Int → Int → Int → List (List Int) → Option (List Int)
 | 0,_,_,_,_,_,_,_=>none
 | k+1,x3,x5,x6,x7,x8,bF,bE=>if x8 < (x3.length:Int) then (if 0≤x8 then (if (rd x3 x8)=(mx x6 x7) then (dz.l2 k (x3.set (x8:Int).toNat (mn x6 x7)) x5 x6 x7 (wrap64 (x8+1)) bF bE) else (dz.l2 k x3 x5 x6 x7 (wrap64 (x8+1)) bF bE)) else (none)) else (dz.l1 k x3 (wrap64 (x5+1)) bF bE)
end
def dz.f (k:Nat) (af:Int) (aa:List (List Int)):Option (List Int):=dz.l0 k (([]:List Int)) 0 af aa
theorem dz.bU : ∀ k, (∀ y0 y1 y2 y3, aj (dz.l0 k y0 y1 y2 y3) (dz.l0 (k + 1) y0 y1 y2 y3)) ∧ (∀ y0 y1 y2 y3, aj (dz.l1 k y0 y1 y2 y3) (dz.l1 (k + 1) y0 y1 y2 y3)) ∧ (∀ y0 y1 y2 y3 y4 y5 y6, aj (dz.l2 k y0 y1 y2 y3 y4 y5 y6) (dz.l2 (k + 1) y0 y1 y2 y3 y4 y5 y6))
 | 0=>⟨fun _ _ _ _ r h=>by simp [dz.l0] at h,fun _ _ _ _ r h=>by simp [dz.l1] at h,fun _ _ _ _ _ _ _ r h=>by simp [dz.l2] at h⟩
 | k+1=>by
  obtain ⟨alg,ih1,ih2⟩:=dz.bU k
  refine ⟨?_, ?_, ?_⟩ <;> intros <;> (first | unfold dz.l0 | unfold dz.l1 | unfold dz.l2) <;> repeat' first
   | (with_reducible first|exact alg _ _ _ _|exact ih1 _ _ _ _|exact ih2 _ _ _ _ _ _ _|exact aj.refl _|exact aj.none _|refine aj.ite ?_ ?_|refine aj.bind ?_ (fun _=>?_))
   | exact alg _ _ _ _|exact ih1 _ _ _ _|exact ih2 _ _ _ _ _ _ _|exact aj.none _|refine aj.ite ?_ ?_|refine aj.bind ?_ (fun _=>?_)
theorem dz.mono:∀ a0 a1 k,aj (dz.f k a0 a1) (dz.f (k+1) a0 a1):=by
 intro a0 a1 k
 obtain ⟨alg,ih1,ih2⟩:=dz.bU k
 unfold dz.f
 repeat' first
  | (with_reducible first|exact alg _ _ _ _|exact ih1 _ _ _ _|exact ih2 _ _ _ _ _ _ _|exact aj.refl _|exact aj.none _|refine aj.ite ?_ ?_|refine aj.bind ?_ (fun _=>?_))
  | exact alg _ _ _ _|exact ih1 _ _ _ _|exact ih2 _ _ _ _ _ _ _|exact aj.none _|refine aj.ite ?_ ?_|refine aj.bind ?_ (fun _=>?_)
set_option maxHeartbeats 8000000 in
set_option maxRecDepth 100000 in
theorem dz.calls (k : Nat) (af : Int) (aq : Option Addr) (ak : Nat) (aa : List (List Int)) (r : List Int) (w : World) (aly : Kd.C (Kd.slice 2 (Kd.int .i64)) w aq aa.length aa) (ck : aa.length ≤ ak) (h : dz.f k af aa = some r) :
  Calls Try.prog 227 #[.agg #[.int .i64 af,.slice aq aa.length ak]] w fun e w'=>∃ dH:Value,e=.returned (dH)∧Kd.R (Kd.int .i64) 2 w' w.heap.size (fun _=>True) dH r∧Below w.heap.size w w':=by
 have j9:=Try.underlying31
 have bZ:=k0 aly
 have cD:=k0 ck
 clear aly ck
 have HB:=k0 (Below.refl w.heap.size w)
 have H:(dz.l0 k (([]:List Int)) 0 af aa)=some r:=h
 clear h
 obtain ⟨alD,eM⟩:∃ y_:List Int,y_=(([]:List Int)):=⟨_,rfl⟩
 replace H:(dz.l0 k alD 0 af aa)=some r:=by first|(rw [eM];with_reducible exact H)|(have ax:=(Option.bind_some _ _).symm.trans H;rw [eM];with_reducible exact ax)|(have ax:=(Option.bind_some _ _).symm.trans H;with_reducible exact ax)|with_reducible exact H|(rw [eM];exact H)|exact H
 have gz:=k0 eM
 clear eM
 have H':=k0 H
 clear H
 go_enter Try.func227,Try.ntmps227
 go_wp2_with (first|((with_reducible refine cj (N:=1) rfl ?_);refine dK ?hg (N:=1) ?hd (cs:=#[.int .i64 af,.slice aq aa.length ak]) (t:=31) ?hr ?_;(case hd=>rfl);(case hg=>rfl);(case hr=>first|(go_simp;done)|(go_simp;rfl));intro ai hg w2 aJ hb;have ag:=k0 (aJ);have b8:=k0 ((by rw [hg];exact (alk bl):w.heap.size≤ai));have eB:=b8;replace HB:=k0 (aI bl hb);clear hb aJ hg)|((with_reducible refine cj (N:=9) rfl ?_);refine Kd.al2 (Kd.int .i64) _ 2 ?hg (N:=9) ?hd (xs:=([]:List Int)) (inner:=[]) (ok:=fun _=>True) (b9:=fun _=>True) ?hr ?hp (fun _ hk=>hk) trivial (Below.refl _ _) (Nat.le_refl _) (by simp) ?_;(case hd=>rfl);(case hg=>rfl);(case hr=>first|(go_simp;done)|(go_simp;rfl));(case hp=>exact (bW.none _ _));intro dn w3 eu hb dF dG;clear dF dG;(first|rw [← gz.out] at eu|(simp only [Int.reduceToNat] at eu;rw [← gz.out] at eu));have bq:=k0 (Kd.dI eu (alk bl));replace ag:=k0 (alm (g:=ai) (o:=sO af aq aa ak 31) bk hb);replace HB:=k0 (aI bl hb);clear hb eu))
 repeat (go_quiet (first|((with_reducible refine cj (N:=1) rfl ?_);refine dK ?hg (N:=1) ?hd (cs:=#[.int .i64 af,.slice aq aa.length ak]) (t:=31) ?hr ?_;(case hd=>rfl);(case hg=>rfl);(case hr=>first|(go_simp;done)|(go_simp;rfl));intro ai hg w2 aJ hb;have ag:=k0 (aJ);have b8:=k0 ((by rw [hg];exact (alk bl):w.heap.size≤ai));have eB:=b8;replace HB:=k0 (aI bl hb);clear hb aJ hg)|((with_reducible refine cj (N:=9) rfl ?_);refine Kd.al2 (Kd.int .i64) _ 2 ?hg (N:=9) ?hd (xs:=([]:List Int)) (inner:=[]) (ok:=fun _=>True) (b9:=fun _=>True) ?hr ?hp (fun _ hk=>hk) trivial (Below.refl _ _) (Nat.le_refl _) (by simp) ?_;(case hd=>rfl);(case hg=>rfl);(case hr=>first|(go_simp;done)|(go_simp;rfl));(case hp=>exact (bW.none _ _));intro dn w3 eu hb dF dG;clear dF dG;(first|rw [← gz.out] at eu|(simp only [Int.reduceToNat] at eu;rw [← gz.out] at eu));have bq:=k0 (Kd.dI eu (alk bl));replace ag:=k0 (alm (g:=ai) (o:=sO af aq aa ak 31) bk hb);replace HB:=k0 (aI bl hb);clear hb eu));try go_wp2_with (first|((with_reducible refine cj (N:=1) rfl ?_);refine dK ?hg (N:=1) ?hd (cs:=#[.int .i64 af,.slice aq aa.length ak]) (t:=31) ?hr ?_;(case hd=>rfl);(case hg=>rfl);(case hr=>first|(go_simp;done)|(go_simp;rfl));intro ai hg w2 aJ hb;have ag:=k0 (aJ);have b8:=k0 ((by rw [hg];exact (alk bl):w.heap.size≤ai));have eB:=b8;replace HB:=k0 (aI bl hb);clear hb aJ hg)|((with_reducible refine cj (N:=9) rfl ?_);refine Kd.al2 (Kd.int .i64) _ 2 ?hg (N:=9) ?hd (xs:=([]:List Int)) (inner:=[]) (ok:=fun _=>True) (b9:=fun _=>True) ?hr ?hp (fun _ hk=>hk) trivial (Below.refl _ _) (Nat.le_refl _) (by simp) ?_;(case hd=>rfl);(case hg=>rfl);(case hr=>first|(go_simp;done)|(go_simp;rfl));(case hp=>exact (bW.none _ _));intro dn w3 eu hb dF dG;clear dF dG;(first|rw [← gz.out] at eu|(simp only [Int.reduceToNat] at eu;rw [← gz.out] at eu));have bq:=k0 (Kd.dI eu (alk bl));replace ag:=k0 (alm (g:=ai) (o:=sO af aq aa ak 31) bk hb);replace HB:=k0 (aI bl hb);clear hb eu)))
 go_loopg [3,4] k (fun kq v3 v4 w'=>∃ (bC:List Int) (aY:Int),v4=.int .i64 aY∧au (dz.l0 kq bC aY af aa=some r)∧au (kq≤k)∧au (Kd.R (Kd.int .i64) 2 w' w.heap.size (fun _=>True) v3 bC)∧au (w'.heap[ai]?=some (sO af aq aa ak 31))∧au (Below w.heap.size w w'))
 case atStart=>exact ⟨(alD),(0),rs,H',⟨Nat.le_refl _⟩,⟨aR (bq.out)⟩,⟨bk⟩,⟨bl⟩⟩
 case round =>
  clear H'
  obtain ⟨bC,aY,rfl,HA,alj,ald,ag,HB⟩:=hrel
  cases gk with
  | zero=>exact absurd HA.out (by simp [dz.l0])
  | succ k1 =>
   have H:=HA.out
   clear HA
   simp only [dz.l0] at H
   by_cases c5:aY < af
   case neg =>
    rw [if_neg c5] at H
    have alS:decide (aY < af)=false:=decide_eq_false c5
    clear c5
    have H':=k0 H
    clear H
    have uA:wr.cell? ⟨ai,0,none⟩=some (.int .i64 af):=(av ag.out 0).trans rfl
    have uB:wr.cell? ⟨ai,1,none⟩=some (.slice aq aa.length ak):=(av ag.out 1).trans rfl
    have uD:=aD ag.out 0
    have uE:=aD ag.out 1
    go_wp2
    repeat (go_quiet (fail);try go_wp2)
    go_loopg [5] k1 (fun kq v5 w'=>∃ (ale:List Int) (alo:Int),v5=.int .i64 alo∧au (dz.l1 kq ale alo af aa=some r)∧au (kq≤k1)∧au (Kd.R (Kd.int .i64) 2 w' w.heap.size (fun _=>True) u3 ale)∧au (w'.heap[ai]?=some (sO af aq aa ak 31))∧au (Below w.heap.size w w'))
    case atStart=>exact ⟨(bC),(0),rs,H',⟨Nat.le_refl _⟩,⟨aR (ald.out)⟩,⟨bk⟩,⟨bl⟩⟩
    case round =>
     clear H'
     (try clear c5);(try clear alS);(try clear c6);(try clear rY);(try clear rZ);(try clear uA);(try clear uB);(try clear r5);(try clear r6);(try clear uD);(try clear uE)
     obtain ⟨ale,alo,rfl,HA,bB,ald,ag,HB⟩:=hrel
     cases gk with
     | zero=>exact absurd HA.out (by simp [dz.l1])
     | succ k2 =>
      have H:=HA.out
      clear HA
      simp only [dz.l1] at H
      by_cases c10:alo < (aa.length:Int)
      case neg =>
       rw [if_neg c10] at H
       have lO:decide (alo < (aa.length:Int))=false:=decide_eq_false c10
       clear c10
       obtain rfl:=Option.some.inj H
       have ahP:wr.cell? ⟨ai,0,none⟩=some (.int .i64 af):=(av ag.out 0).trans rfl
       have ahQ:wr.cell? ⟨ai,1,none⟩=some (.slice aq aa.length ak):=(av ag.out 1).trans rfl
       have aiq:=aD ag.out 0
       have air:=aD ag.out 1
       go_wp2
       repeat (go_quiet (fail);try go_wp2)
       go_ret
       exact ⟨_,by first|rfl|(simp [bz,bA]<;>rfl)|(simp [*,bz,bA]<;>rfl),by (with_reducible repeat (first|apply Kd.bH|apply Kd.bL|apply Kd.bn));exact ald.out,bl⟩
      rw [if_pos c10] at H
      have lO:=decide_eq_true c10
      clear c10
      replace H:=iS H;obtain ⟨c11,H⟩:=H
      have i_:=decide_eq_true c11
      clear c11
      replace H:=iS H;obtain ⟨c12,H⟩:=H
      have rN:=decide_eq_true c12
      have Av:decide (0 < (ah aa alo).length)=true:=decide_eq_true (by omega)
      clear c12
      replace H:=iS H;obtain ⟨c13,H⟩:=H
      have alV:=decide_eq_true c13
      clear c13
      replace H:=iS H;obtain ⟨c14,H⟩:=H
      have kH:=decide_eq_true c14
      clear c14
      replace H:=iS H;obtain ⟨c15,H⟩:=H
      have jD:=decide_eq_true c15
      have oV:decide (1 < (ah aa alo).length)=true:=decide_eq_true (by omega)
      clear c15
      replace H:=iS H;obtain ⟨c16,H⟩:=H
      have qY:=decide_eq_true c16
      clear c16
      replace H:=iS H;obtain ⟨c17,H⟩:=H
      have oW:=decide_eq_true c17
      clear c17
      have H':=k0 H
      clear H
      have yN:wr.cell? ⟨ai,0,none⟩=some (.int .i64 af):=(av ag.out 0).trans rfl
      have yO:wr.cell? ⟨ai,1,none⟩=some (.slice aq aa.length ak):=(av ag.out 1).trans rfl
      have yR:=aD ag.out 0
      have yS:=aD ag.out 1
      have ef:0≤(alo:Int):=oD
      have dR:alo < (aa.length:Int):=oD
      obtain ⟨lu,EK,Ft,e108,fu,ams,amm⟩:=cX bZ.out alo ef dR
      cases e108
      replace fu:=hbc HB fu
      have z6:=k0 amm
      have anM:=k0 ams
      clear amm ams
      replace ef:=eq_true ef
      replace dR:=eq_true dR
      have eH:0≤(0:Int):=(by omega)
      have ez:0 < ((ah aa alo).length:Int):=oD
      obtain ⟨lZ,e109,gM⟩:=Kd.bJ z6.out 0 eH ez
      cases e109
      have akp:(0 < (ah aa alo).length)=True:=eq_true (by omega)
      (try rw [show ((0:Int)).toNat=0 from rfl] at gM)
      (try rw [Addr.add_zero'] at gM)
      replace gM:=hbc HB gM
      replace eH:=eq_true eH
      replace ez:=eq_true ez
      obtain ⟨zQ,sH,AM⟩:=Kd.eF ald.out
      subst AM
      obtain ⟨nJ,Ye,Cz,CH,JY,X0,BX⟩:=Kd.lp ald.out (by have ec:0≤((rd (ah aa alo) 0):Int):=oD;have iT:((rd (ah aa alo) 0):Int) < ((ale.length:Int):Int):=oD;omega)
      (first|cases Cz|(injection Cz with bh dm di;(first|subst bh|(injection bh with bh;subst bh));subst di;clear dm))
      have BR:=k0 CH
      have Na:=k0 BX
      clear CH JY BX
      have jr:0≤((rd (ah aa alo) 0):Int):=oD
      have js:(rd (ah aa alo) 0) < (ale.length:Int):=oD
      obtain ⟨lz,e110,kL⟩:=Kd.bJ (Kd.bx ald.out).2.2 (rd (ah aa alo) 0) jr js
      obtain rfl:(⟨nJ,0,none⟩:Addr)=lz:=(by injection e110)
      (first|simp only [add_plain] at kL|simp only [l6] at kL|simp only [Addr.add,Nat.zero_add] at kL|skip)
      replace jr:=eq_true jr
      replace js:=eq_true js
      have gj:0≤(alo:Int):=oD
      have alG:alo < (aa.length:Int):=oD
      obtain ⟨mW,EL,Fv,e111,gN,xB,xz⟩:=cX bZ.out alo gj alG
      obtain rfl:lu=mW:=(by injection e111)
      replace gN:=hbc HB gN
      have wK:=k0 xz
      have anN:=k0 xB
      clear xz xB
      replace gj:=eq_true gj
      replace alG:=eq_true alG
      have bh:=Option.some.inj (fu.symm.trans gN)
      injection bh with bh dm di
      subst bh
      subst di
      clear dm
      have al3:0≤(1:Int):=(by omega)
      have oF:1 < ((ah aa alo).length:Int):=oD
      obtain ⟨yl,e112,lS⟩:=Kd.bJ wK.out 1 al3 oF
      obtain rfl:lZ=yl:=(by injection e112)
      (try simp only [show (1:Int).toNat=1 from rfl,Nat.reduceMul,Nat.reduceEqDiff,Go.Addr.add,↓reduceIte] at lS)
      have aef:(1 < (ah aa alo).length)=True:=eq_true (by omega)
      (try rw [show ((1:Int)).toNat=1 from rfl] at lS)
      replace lS:=hbc HB lS
      replace al3:=eq_true al3
      replace oF:=eq_true oF
      have nO:0≤((rd (ah aa alo) 1):Int):=oD
      have nP:(rd (ah aa alo) 1) < (ale.length:Int):=oD
      obtain ⟨ym,e113,nc⟩:=Kd.bJ (Kd.bx ald.out).2.2 (rd (ah aa alo) 1) nO nP
      obtain rfl:(⟨nJ,0,none⟩:Addr)=ym:=(by injection e113)
      (first|simp only [add_plain] at nc|simp only [l6] at nc|simp only [Addr.add,Nat.zero_add] at nc|skip)
      replace nO:=eq_true nO
      replace nP:=eq_true nP
      go_wp2
      repeat (go_quiet (fail);try go_wp2)
      go_loopg [8] k2 (fun kq v8 w'=>∃ (lK:List Int) (aX:Int),v8=.int .i64 aX∧au (dz.l2 kq lK alo (rd ale (rd (ah aa alo) 0)) (rd ale (rd (ah aa alo) 1)) aX af aa=some r)∧au (kq≤k2)∧au (Kd.R (Kd.int .i64) 2 w' w.heap.size (fun _=>True) (.slice (some ⟨nJ,0,none⟩) ale.length sH) lK)∧au (w'.heap[ai]?=some (sO af (some lu) aa ak 31))∧au (Below w.heap.size w w'))
      case atStart=>exact ⟨(ale),(0),rs,H',⟨Nat.le_refl _⟩,⟨aR (ald.out)⟩,⟨bk⟩,⟨bl⟩⟩
      case round =>
       clear H'
       (try clear c5);(try clear alS);(try clear c6);(try clear c10);(try clear lO);(try clear c11);(try clear i_);(try clear c12);(try clear rN);(try clear Av);(try clear c13);(try clear alV);(try clear c14);(try clear kH);(try clear c15);(try clear jD);(try clear oV);(try clear c16);(try clear qY);(try clear c17);(try clear oW);(try clear yN);(try clear yO);(try clear rY);(try clear rZ);(try clear uA);(try clear uB);(try clear yR);(try clear yS);(try clear r5);(try clear r6);(try clear uD);(try clear uE);(try clear fu);(try clear gM);(try clear kL);(try clear gN);(try clear lS);(try clear nc);(try clear ef);(try clear eH);(try clear jr);(try clear gj);(try clear al3);(try clear nO);(try clear dR);(try clear ez);(try clear js);(try clear alG);(try clear oF);(try clear nP)
       obtain ⟨lK,aX,rfl,HA,cN,ald,ag,HB⟩:=hrel
       have qy:=(Kd.bx ald.out).1
       rw [qy] at ald
       (try simp only [qy])
       (try simp only [qy] at ag)
       cases gk with
       | zero=>exact absurd HA.out (by simp [dz.l2])
       | succ k3 =>
        have H:=HA.out
        clear HA
        simp only [dz.l2] at H
        by_cases c21:aX < (lK.length:Int)
        case neg =>
         rw [if_neg c21] at H
         have uq:decide (aX < (lK.length:Int))=false:=decide_eq_false c21
         (try simp only [qy] at uq)
         clear c21
         have H':=k0 H
         clear H
         go_wp2
         repeat (go_quiet (fail);try go_wp2)
         (try simp only [← qy])
         first|go_roundg k3|(simp only [← amo];go_roundg k3)|(simp only [← amp];go_roundg k3)
         case measure=>have:=alj.out;have:=bB.out;have:=cN.out;omega
         case rel=>exact ⟨(lK),(wrap64 (alo+1)),rs,(by first|exact H'|(rw [amo];exact H')|(rw [amp];exact H')),⟨by have:=alj.out;have:=bB.out;have:=cN.out;omega⟩,⟨by (try simp only [qy]);(with_reducible repeat (first|apply Kd.bH|apply Kd.bL|apply Kd.bn));exact ald.out⟩,⟨by (try simp only [qy]);exact bk⟩,⟨bl⟩⟩
        rw [if_pos c21] at H
        have uq:=decide_eq_true c21
        (try simp only [qy] at uq)
        clear c21
        replace H:=iS H;obtain ⟨c22,H⟩:=H
        have al9:=decide_eq_true c22
        clear c22
        obtain ⟨zk,amo⟩:∃ j_:Int,(mx (rd ale (rd (ah aa alo) 0)) (rd ale (rd (ah aa alo) 1)))=j_:=⟨_,rfl⟩
        replace H:(if (rd lK aX)=(zk) then (dz.l2 k3 (lK.set (aX:Int).toNat (mn (rd ale (rd (ah aa alo) 0)) (rd ale (rd (ah aa alo) 1)))) alo (rd ale (rd (ah aa alo) 0)) (rd ale (rd (ah aa alo) 1)) (wrap64 (aX+1)) af aa) else (dz.l2 k3 lK alo (rd ale (rd (ah aa alo) 0)) (rd ale (rd (ah aa alo) 1)) (wrap64 (aX+1)) af aa))=some r:=by first|(rw [amo] at H;exact H)|(simp only [amo] at H ⊢;exact H)
        have aiH:(if (rd ale (rd (ah aa alo) 0)) < (rd ale (rd (ah aa alo) 1)) then (rd ale (rd (ah aa alo) 1)) else (rd ale (rd (ah aa alo) 0)))=zk:=amo
        by_cases c24:(rd lK aX)=(zk)
        case neg =>
         rw [if_neg c24] at H
         have ur:((rd lK aX) == (zk))=false:=beq_eq_false_iff_ne.mpr c24
         have XB:((rd lK aX) != (zk))=true:=bne_iff_ne.mpr c24
         have H':=k0 H
         clear H
         have iy:0≤(aX:Int):=oD
         have iz:aX < (lK.length:Int):=oD
         obtain ⟨l5,e114,iU⟩:=Kd.bJ (Kd.bx ald.out).2.2 aX iy iz
         obtain rfl:(⟨nJ,0,none⟩:Addr)=l5:=(by injection e114)
         (first|simp only [add_plain] at iU|simp only [l6] at iU|simp only [Addr.add,Nat.zero_add] at iU|skip)
         replace iy:=eq_true iy
         replace iz:=eq_true iz
         go_wp2
         repeat (go_quiet (fail);try go_wp2)
         (try simp only [← qy])
         first|go_roundg k3|(simp only [← amo];go_roundg k3)|(simp only [← amp];go_roundg k3)
         case measure=>have:=alj.out;have:=bB.out;have:=cN.out;omega
         case rel=>exact ⟨(lK),(wrap64 (aX+1)),rs,(by first|exact H'|(rw [amo];exact H')|(rw [amp];exact H')),⟨by have:=alj.out;have:=bB.out;have:=cN.out;omega⟩,⟨by (try simp only [qy]);(with_reducible repeat (first|apply Kd.bH|apply Kd.bL|apply Kd.bn));exact ald.out⟩,⟨by (try simp only [qy]);exact bk⟩,⟨bl⟩⟩
        rw [if_pos c24] at H
        have ur:((rd lK aX) == (zk))=true:=beq_iff_eq.mpr c24
        have XB:((rd lK aX) != (zk))=false:=bne_eq_false_iff_eq.mpr c24
        clear c24
        obtain ⟨uH,amp⟩:∃ j_:Int,(mn (rd ale (rd (ah aa alo) 0)) (rd ale (rd (ah aa alo) 1)))=j_:=⟨_,rfl⟩
        replace H:(dz.l2 k3 (lK.set (aX:Int).toNat (uH)) alo (rd ale (rd (ah aa alo) 0)) (rd ale (rd (ah aa alo) 1)) (wrap64 (aX+1)) af aa)=some r:=by first|(rw [amp] at H;exact H)|(simp only [amp] at H ⊢;exact H)
        have aiI:(if (rd ale (rd (ah aa alo) 1)) < (rd ale (rd (ah aa alo) 0)) then (rd ale (rd (ah aa alo) 1)) else (rd ale (rd (ah aa alo) 0)))=uH:=amp
        obtain ⟨dU,gh⟩:∃ y_:List Int,y_=(lK.set (aX:Int).toNat (uH)):=⟨_,rfl⟩
        replace H:(dz.l2 k3 dU alo (rd ale (rd (ah aa alo) 0)) (rd ale (rd (ah aa alo) 1)) (wrap64 (aX+1)) af aa)=some r:=by first|(rw [gh];with_reducible exact H)|(have ax:=(Option.bind_some _ _).symm.trans H;rw [gh];with_reducible exact ax)|(have ax:=(Option.bind_some _ _).symm.trans H;with_reducible exact ax)|with_reducible exact H|(rw [gh];exact H)|exact H
        have mT:=k0 gh
        clear gh
        have H':=k0 H
        clear H
        have iy:0≤(aX:Int):=oD
        have iz:aX < (lK.length:Int):=oD
        obtain ⟨l5,e114,iU⟩:=Kd.bJ (Kd.bx ald.out).2.2 aX iy iz
        obtain rfl:(⟨nJ,0,none⟩:Addr)=l5:=(by injection e114)
        (first|simp only [add_plain] at iU|simp only [l6] at iU|simp only [Addr.add,Nat.zero_add] at iU|skip)
        replace iy:=eq_true iy
        replace iz:=eq_true iz
        have LH:0≤(aX:Int):=oD
        have LX:(aX:Int) < ((lK.length:Int):Int):=oD
        obtain ⟨aka,ah4⟩:=Kd.jB 0 ald.out (aX:Int) LH LX
        replace LH:=eq_true LH
        replace LX:=eq_true LX
        have rF:=Kd.kW ald.out (aX:Int) uH
        go_wp2_with (first|((with_reducible refine lF (t:=2) (p:=66) rfl ?_);(try (rw [AJ wr];generalize iT:World.drewN wr _=wr;have aE:=k0 (Kd.Ac iT ald.out);have aH:=k0 (At iT ag.out);have aK:=k0 (Ar iT HB.out);clear iT ald ag HB;have ald:=aE;have ag:=aH;have HB:=aK;clear aE aH aK;(try (have rF:=Kd.kW ald.out (aX:Int) uH))));refine lJ (t:=2) (p:=66) (v:=?Tx) (w1:=(wr.setCell ⟨nJ,(aX:Int).toNat,none⟩ (.int .i64 uH))) ?hg ?ho ?hn ?hr ?_;(case ho=>rfl);(case hg=>rfl);(case hn=>rfl);(case hr=>first|(go_simp;done)|(go_simp;rfl));intro ju hw;have hg:wr.grownBy ju (some nJ):=(by rw [hw];exact rF.2);have ec:Kd.R (Kd.int .i64) 2 ju w.heap.size (fun _=>True) (.slice (some ⟨nJ,0,none⟩) lK.length sH) dU:=(by rw [hw,mT.out];exact rF.1);clear rF;replace ag:=k0 (iQ (g:=ai) (o:=sO af (some lu) aa ak 31) bk hg (Kd.gY ald.out ag.out (by decide)));replace ald:=k0 (ec);replace HB:=k0 ((by rw [hw];exact dJ (HB.out) BR.out:Below w.heap.size w ju));clear hg hw ec))
        repeat (go_quiet (first|((with_reducible refine lF (t:=2) (p:=66) rfl ?_);(try (rw [AJ wr];generalize iT:World.drewN wr _=wr;have aE:=k0 (Kd.Ac iT ald.out);have aH:=k0 (At iT ag.out);have aK:=k0 (Ar iT HB.out);clear iT ald ag HB;have ald:=aE;have ag:=aH;have HB:=aK;clear aE aH aK;(try (have rF:=Kd.kW ald.out (aX:Int) uH))));refine lJ (t:=2) (p:=66) (v:=?Tx) (w1:=(wr.setCell ⟨nJ,(aX:Int).toNat,none⟩ (.int .i64 uH))) ?hg ?ho ?hn ?hr ?_;(case ho=>rfl);(case hg=>rfl);(case hn=>rfl);(case hr=>first|(go_simp;done)|(go_simp;rfl));intro ju hw;have hg:wr.grownBy ju (some nJ):=(by rw [hw];exact rF.2);have ec:Kd.R (Kd.int .i64) 2 ju w.heap.size (fun _=>True) (.slice (some ⟨nJ,0,none⟩) lK.length sH) dU:=(by rw [hw,mT.out];exact rF.1);clear rF;replace ag:=k0 (iQ (g:=ai) (o:=sO af (some lu) aa ak 31) bk hg (Kd.gY ald.out ag.out (by decide)));replace ald:=k0 (ec);replace HB:=k0 ((by rw [hw];exact dJ (HB.out) BR.out:Below w.heap.size w ju));clear hg hw ec));try go_wp2_with (first|((with_reducible refine lF (t:=2) (p:=66) rfl ?_);(try (rw [AJ wr];generalize iT:World.drewN wr _=wr;have aE:=k0 (Kd.Ac iT ald.out);have aH:=k0 (At iT ag.out);have aK:=k0 (Ar iT HB.out);clear iT ald ag HB;have ald:=aE;have ag:=aH;have HB:=aK;clear aE aH aK;(try (have rF:=Kd.kW ald.out (aX:Int) uH))));refine lJ (t:=2) (p:=66) (v:=?Tx) (w1:=(wr.setCell ⟨nJ,(aX:Int).toNat,none⟩ (.int .i64 uH))) ?hg ?ho ?hn ?hr ?_;(case ho=>rfl);(case hg=>rfl);(case hn=>rfl);(case hr=>first|(go_simp;done)|(go_simp;rfl));intro ju hw;have hg:wr.grownBy ju (some nJ):=(by rw [hw];exact rF.2);have ec:Kd.R (Kd.int .i64) 2 ju w.heap.size (fun _=>True) (.slice (some ⟨nJ,0,none⟩) lK.length sH) dU:=(by rw [hw,mT.out];exact rF.1);clear rF;replace ag:=k0 (iQ (g:=ai) (o:=sO af (some lu) aa ak 31) bk hg (Kd.gY ald.out ag.out (by decide)));replace ald:=k0 (ec);replace HB:=k0 ((by rw [hw];exact dJ (HB.out) BR.out:Below w.heap.size w ju));clear hg hw ec)))
        (try simp only [← qy])
        first|go_roundg k3|(simp only [← amo];go_roundg k3)|(simp only [← amp];go_roundg k3)
        case measure=>have:=alj.out;have:=bB.out;have:=cN.out;omega
        case rel=>exact ⟨(dU),(wrap64 (aX+1)),rs,(by first|exact H'|(rw [amo];exact H')|(rw [amp];exact H')),⟨by have:=alj.out;have:=bB.out;have:=cN.out;omega⟩,⟨by (try simp only [qy]);(with_reducible repeat (first|apply Kd.bH|apply Kd.bL|apply Kd.bn));exact ald.out⟩,⟨by (try simp only [qy]);exact bk⟩,⟨bl⟩⟩
   rw [if_pos c5] at H
   have alS:=decide_eq_true c5
   clear c5
   replace H:=iS H;obtain ⟨c6,H⟩:=H
   have II:=k0 c6
   clear c6
   obtain ⟨jb,fy⟩:∃ y_:List Int,y_=(bC ++ [aY]):=⟨_,rfl⟩
   replace H:(dz.l0 k1 jb (wrap64 (aY+1)) af aa)=some r:=by first|(rw [fy];with_reducible exact H)|(have ax:=(Option.bind_some _ _).symm.trans H;rw [fy];with_reducible exact ax)|(have ax:=(Option.bind_some _ _).symm.trans H;with_reducible exact ax)|with_reducible exact H|(rw [fy];exact H)|exact H
   have lY:=k0 fy
   clear fy
   have H':=k0 H
   clear H
   have rY:wr.cell? ⟨ai,0,none⟩=some (.int .i64 af):=(av ag.out 0).trans rfl
   have rZ:wr.cell? ⟨ai,1,none⟩=some (.slice aq aa.length ak):=(av ag.out 1).trans rfl
   have r5:=aD ag.out 0
   have r6:=aD ag.out 1
   go_wp2_with (first|((with_reducible refine ot (b:=.append) (xs:=#[.tmp 16,.tmp 18]) rfl ?_);at_builtin;refine Kd.sB (Kd.int .i64) (w0:=w) w.heap.size rfl (.tmp 16) (.tmp 18) 28 2 (.int .i64 0) 8 rfl Try.underlying28 alU rfl (by decide) (by omega) u3 bC aY [.int .i64 aY] (fun _=>True) (fun _=>False) rfl rfl ?aP (fun _ hk=>hk.elim) ?aF ?aO ?aB ?aS ?aL ?_;(case aP=>exact rfl);(case aB=>exact bl);(case aF=>exact (fun _ _=>trivial));(case aO=>exact (aR ald.out));(case aS=>exact (alk bl));(case aL=>have:=II.out;omega);intro fY w8 ho hb hg bX;rw [← lY.out] at ho;have aE:=k0 (iQ (g:=ai) (o:=sO af aq aa ak 31) bk hg (Kd.gY ald.out ag.out (by decide)));have aH:=k0 (hb);have aK:=k0 (ho);clear ag;clear HB;clear ald;have ag:=aE;have HB:=aH;have cO:=aK;clear aE aH aK;clear ho hb hg bX))
   repeat (go_quiet (first|((with_reducible refine ot (b:=.append) (xs:=#[.tmp 16,.tmp 18]) rfl ?_);at_builtin;refine Kd.sB (Kd.int .i64) (w0:=w) w.heap.size rfl (.tmp 16) (.tmp 18) 28 2 (.int .i64 0) 8 rfl Try.underlying28 alU rfl (by decide) (by omega) u3 bC aY [.int .i64 aY] (fun _=>True) (fun _=>False) rfl rfl ?aP (fun _ hk=>hk.elim) ?aF ?aO ?aB ?aS ?aL ?_;(case aP=>exact rfl);(case aB=>exact bl);(case aF=>exact (fun _ _=>trivial));(case aO=>exact (aR ald.out));(case aS=>exact (alk bl));(case aL=>have:=II.out;omega);intro fY w8 ho hb hg bX;rw [← lY.out] at ho;have aE:=k0 (iQ (g:=ai) (o:=sO af aq aa ak 31) bk hg (Kd.gY ald.out ag.out (by decide)));have aH:=k0 (hb);have aK:=k0 (ho);clear ag;clear HB;clear ald;have ag:=aE;have HB:=aH;have cO:=aK;clear aE aH aK;clear ho hb hg bX));try go_wp2_with (first|((with_reducible refine ot (b:=.append) (xs:=#[.tmp 16,.tmp 18]) rfl ?_);at_builtin;refine Kd.sB (Kd.int .i64) (w0:=w) w.heap.size rfl (.tmp 16) (.tmp 18) 28 2 (.int .i64 0) 8 rfl Try.underlying28 alU rfl (by decide) (by omega) u3 bC aY [.int .i64 aY] (fun _=>True) (fun _=>False) rfl rfl ?aP (fun _ hk=>hk.elim) ?aF ?aO ?aB ?aS ?aL ?_;(case aP=>exact rfl);(case aB=>exact bl);(case aF=>exact (fun _ _=>trivial));(case aO=>exact (aR ald.out));(case aS=>exact (alk bl));(case aL=>have:=II.out;omega);intro fY w8 ho hb hg bX;rw [← lY.out] at ho;have aE:=k0 (iQ (g:=ai) (o:=sO af aq aa ak 31) bk hg (Kd.gY ald.out ag.out (by decide)));have aH:=k0 (hb);have aK:=k0 (ho);clear ag;clear HB;clear ald;have ag:=aE;have HB:=aH;have cO:=aK;clear aE aH aK;clear ho hb hg bX)))
   first|go_roundg k1|(simp only [← amo];go_roundg k1)|(simp only [← amp];go_roundg k1)
   case measure=>have:=alj.out;omega
   case rel=>exact ⟨(jb),(wrap64 (aY+1)),rs,(by first|exact H'|(rw [amo];exact H')|(rw [amp];exact H')),⟨by have:=alj.out;omega⟩,⟨aR (cO.out)⟩,⟨bk⟩,⟨bl⟩⟩
/-! ### F189: function 189 -/
def iB.l0 : Nat → List Int → Int → Int → Option (Int)
 | 0,_,_,_=>none
 | k+1,x3,x4,x5=>if x5 < (x3.length:Int) then (if 0≤x5 then (if (rd x3 x5)=x5 then (iB.l0 k x3 (wrap64 (x4+1)) (wrap64 (x5+1))) else (iB.l0 k x3 x4 (wrap64 (x5+1)))) else (none)) else (some x4)
def iB.f (k:Nat) (af:Int) (aa:List (List Int)):Option (Int):=(dz.f k af aa).bind fun t102=>(iB.l0 k t102 0 0)
theorem iB.bU : ∀ k, (∀ y0 y1 y2, aj (iB.l0 k y0 y1 y2) (iB.l0 (k + 1) y0 y1 y2))
 | 0=>fun _ _ _ r h=>by simp [iB.l0] at h
 | k+1=>by
  have alg:=iB.bU k
  ·intro y0 y1 y2
   unfold iB.l0
   repeat' first
    | (with_reducible first|exact alg _ _ _|exact dz.mono _ _ _|exact aj.refl _|exact aj.none _|refine aj.ite ?_ ?_|refine aj.bind ?_ (fun _=>?_))
    | exact alg _ _ _|exact dz.mono _ _ _|exact aj.none _|refine aj.ite ?_ ?_|refine aj.bind ?_ (fun _=>?_)
theorem iB.mono:∀ a0 a1 k,aj (iB.f k a0 a1) (iB.f (k+1) a0 a1):=by
 intro a0 a1 k
 have alg:=iB.bU k
 unfold iB.f
 repeat' first
  | (with_reducible first|exact alg _ _ _|exact dz.mono _ _ _|exact aj.refl _|exact aj.none _|refine aj.ite ?_ ?_|refine aj.bind ?_ (fun _=>?_))
  | exact alg _ _ _|exact dz.mono _ _ _|exact aj.none _|refine aj.ite ?_ ?_|refine aj.bind ?_ (fun _=>?_)
set_option maxHeartbeats 8000000 in
set_option maxRecDepth 100000 in
theorem iB.calls (k : Nat) (af : Int) (aq : Option Addr) (ak : Nat) (aa : List (List Int)) (r : Int) (w : World) (aly : Kd.C (Kd.slice 2 (Kd.int .i64)) w aq aa.length aa) (ck : aa.length ≤ ak) (h : iB.f k af aa = some r) :
  Calls Try.prog 189 #[.agg #[.int .i64 af,.slice aq aa.length ak]] w fun e w'=>e=.returned (.int .i64 r)∧Below w.heap.size w w':=by
 have j9:=Try.underlying31
 have bZ:=k0 aly
 have cD:=k0 ck
 clear aly ck
 have HB:=k0 (Below.refl w.heap.size w)
 have H:((dz.f k af aa).bind fun t102=>(iB.l0 k t102 0 0))=some r:=h
 clear h
 replace H:=Option.bind_eq_some_iff.mp H
 obtain ⟨t102,lW,H⟩:=H
 replace H:(iB.l0 k t102 0 0)=some r:=H
 have A2:=k0 lW
 clear lW
 have H':=k0 H
 clear H
 go_enter Try.func189,Try.ntmps189
 go_wp2_with (first|((with_reducible refine cj (N:=1) rfl ?_);refine dK ?hg (N:=1) ?hd (cs:=#[.int .i64 af,.slice aq aa.length ak]) (t:=31) ?hr ?_;(case hd=>rfl);(case hg=>rfl);(case hr=>first|(go_simp;done)|(go_simp;rfl));intro ai hg w3 aJ hb;have ag:=k0 (aJ);have b8:=k0 ((by rw [hg];exact (alk bl):w.heap.size≤ai));have eB:=b8;replace HB:=k0 (aI bl hb);clear hb aJ hg;have xm:w3.cell? ⟨ai,0,none⟩=some (.int .i64 af):=(av ag.out 0).trans rfl;have xo:w3.cell? ⟨ai,1,none⟩=some (.slice aq aa.length ak):=(av ag.out 1).trans rfl;have xw:=aD ag.out 0;have xx:=aD ag.out 1)|((with_reducible refine dx (f:=227) rfl ?_);refine dy (some 7) rfl rfl Try.func227 (by kernel_rfl) rfl #[.agg #[.int .i64 af,.slice aq aa.length ak]] rfl gm ?_;(with_reducible refine (dz.calls k af _ _ aa t102 _ ?aT ?aU A2.out).mono ?_);(case aT=>exact aC (Kd.bK bZ.out HB.out));(case aU=>exact cD.out);rintro e w5 ⟨dn,rfl,aM,hb⟩;refine ⟨_,rfl,?_⟩;have bq:=k0 (Kd.dI aM (alk bl));replace ag:=k0 (alm (g:=ai) (o:=sO af aq aa ak 31) bk hb);replace HB:=k0 (aI bl hb);(try clear hb);(try clear aM)))
 go_loopg [4,5] k (fun kq v4 v5 w'=>∃ (aY:Int) (ali:Int),v4=.int .i64 aY∧v5=.int .i64 ali∧au (iB.l0 kq t102 aY ali=some r)∧au (kq≤k)∧au (Kd.R (Kd.int .i64) 2 w' w.heap.size (fun _=>True) dn t102)∧au (w'.heap[ai]?=some (sO af aq aa ak 31))∧au (Below w.heap.size w w'))
 case atStart=>exact ⟨(0),(0),rs,rs,H',⟨Nat.le_refl _⟩,⟨aR (bq.out)⟩,⟨bk⟩,⟨bl⟩⟩
 case round =>
  clear H'
  (try clear xm);(try clear xo);(try clear xw);(try clear xx)
  obtain ⟨aY,ali,rfl,rfl,HA,alj,ald,ag,HB⟩:=hrel
  cases gk with
  | zero=>exact absurd HA.out (by simp [iB.l0])
  | succ k1 =>
   have H:=HA.out
   clear HA
   simp only [iB.l0] at H
   by_cases c6:ali < (t102.length:Int)
   case neg =>
    rw [if_neg c6] at H
    have gB:decide (ali < (t102.length:Int))=false:=decide_eq_false c6
    clear c6
    obtain rfl:=Option.some.inj H
    obtain ⟨zP,am8,Cx⟩:=Kd.eF ald.out
    subst Cx
    go_wp2
    go_ret
    exact ⟨by first|rfl|(simp [bz,bA]<;>rfl)|(simp [*,bz,bA]<;>rfl),bl⟩
   rw [if_pos c6] at H
   have gB:=decide_eq_true c6
   clear c6
   replace H:=iS H;obtain ⟨c7,H⟩:=H
   have alJ:=decide_eq_true c7
   clear c7
   by_cases c8:(rd t102 ali)=ali
   case neg =>
    rw [if_neg c8] at H
    have jg:((rd t102 ali) == ali)=false:=beq_eq_false_iff_ne.mpr c8
    have Ji:((rd t102 ali) != ali)=true:=bne_iff_ne.mpr c8
    have H':=k0 H
    clear H
    obtain ⟨EO,pK,ql⟩:=Kd.eF ald.out
    subst ql
    have alz:0≤(ali:Int):=oD
    have cV:ali < (t102.length:Int):=oD
    obtain ⟨kG,e105,dW⟩:=Kd.bJ (Kd.bx ald.out).2.2 ali alz cV
    cases e105
    replace alz:=eq_true alz
    replace cV:=eq_true cV
    go_wp2
    go_roundg k1
    case measure=>have:=alj.out;omega
    case rel=>exact ⟨(aY),(wrap64 (ali+1)),rs,rs,H',⟨by have:=alj.out;omega⟩,⟨aR (ald.out)⟩,⟨bk⟩,⟨bl⟩⟩
   rw [if_pos c8] at H
   have jg:((rd t102 ali) == ali)=true:=beq_iff_eq.mpr c8
   have Ji:((rd t102 ali) != ali)=false:=bne_eq_false_iff_eq.mpr c8
   clear c8
   have H':=k0 H
   clear H
   obtain ⟨MX,Cv,vG⟩:=Kd.eF ald.out
   subst vG
   have alz:0≤(ali:Int):=oD
   have cV:ali < (t102.length:Int):=oD
   obtain ⟨kG,e105,dW⟩:=Kd.bJ (Kd.bx ald.out).2.2 ali alz cV
   cases e105
   replace alz:=eq_true alz
   replace cV:=eq_true cV
   go_wp2
   go_roundg k1
   case measure=>have:=alj.out;omega
   case rel=>exact ⟨(wrap64 (aY+1)),(wrap64 (ali+1)),rs,rs,H',⟨by have:=alj.out;omega⟩,⟨aR (ald.out)⟩,⟨bk⟩,⟨bl⟩⟩
/-! ### F101: function 101 -/
def nB.f (k:Nat) (af:Int) (aa:List (List Int)):Option (Bool):=(iB.f k af aa).bind fun t102=>(some (t102 == 1))
theorem nB.mono:∀ a0 a1 k,aj (nB.f k a0 a1) (nB.f (k+1) a0 a1):=by
 intro a0 a1 k
 unfold nB.f
 repeat' first
  | (with_reducible first|exact iB.mono _ _ _|exact aj.refl _|exact aj.none _|refine aj.ite ?_ ?_|refine aj.bind ?_ (fun _=>?_))
  | exact iB.mono _ _ _|exact aj.none _|refine aj.ite ?_ ?_|refine aj.bind ?_ (fun _=>?_)
set_option maxHeartbeats 8000000 in
set_option maxRecDepth 100000 in
theorem nB.calls (k : Nat) (af : Int) (aq : Option Addr) (ak : Nat) (aa : List (List Int)) (r : Bool) (w : World) (aly : Kd.C (Kd.slice 2 (Kd.int .i64)) w aq aa.length aa) (ck : aa.length ≤ ak) (h : nB.f k af aa = some r) :
  Calls Try.prog 101 #[.agg #[.int .i64 af,.slice aq aa.length ak]] w fun e w'=>e=.returned (.bool r)∧Below w.heap.size w w':=by
 have j9:=Try.underlying31
 have bZ:=k0 aly
 have cD:=k0 ck
 clear aly ck
 have HB:=k0 (Below.refl w.heap.size w)
 have H:((iB.f k af aa).bind fun t102=>(some (t102 == 1)))=some r:=h
 clear h
 replace H:=Option.bind_eq_some_iff.mp H
 obtain ⟨t102,lW,H⟩:=H
 replace H:(some (t102 == 1))=some r:=H
 have A2:=k0 lW
 clear lW
 obtain rfl:=Option.some.inj H
 go_enter Try.func101,Try.ntmps101
 go_wp2_with (first|((with_reducible refine cj (N:=1) rfl ?_);refine dK ?hg (N:=1) ?hd (cs:=#[.int .i64 af,.slice aq aa.length ak]) (t:=31) ?hr ?_;(case hd=>rfl);(case hg=>rfl);(case hr=>first|(go_simp;done)|(go_simp;rfl));intro ai hg w3 aJ hb;have ag:=k0 (aJ);have b8:=k0 ((by rw [hg];exact (alk bl):w.heap.size≤ai));have eB:=b8;replace HB:=k0 (aI bl hb);clear hb aJ hg;have xm:w3.cell? ⟨ai,0,none⟩=some (.int .i64 af):=(av ag.out 0).trans rfl;have xo:w3.cell? ⟨ai,1,none⟩=some (.slice aq aa.length ak):=(av ag.out 1).trans rfl;have xw:=aD ag.out 0;have xx:=aD ag.out 1)|((with_reducible refine dx (f:=189) rfl ?_);refine dy (some 4) rfl rfl Try.func189 (by kernel_rfl) rfl #[.agg #[.int .i64 af,.slice aq aa.length ak]] rfl gm ?_;(with_reducible refine (iB.calls k af _ _ aa t102 _ ?aT ?aU A2.out).mono ?_);(case aT=>exact aC (Kd.bK bZ.out HB.out));(case aU=>exact cD.out);rintro e w5 ⟨rfl,hb⟩;refine ⟨_,rfl,?_⟩;replace ag:=k0 (alm (g:=ai) (o:=sO af aq aa ak 31) bk hb);replace HB:=k0 (aI bl hb);(try clear hb)))
 go_ret
 exact ⟨by first|rfl|(simp [bz,bA]<;>rfl)|(simp [*,bz,bA]<;>rfl),bl⟩
/-! ### F172: function 172 -/
def gy.f (a0:Int) (a1:Int) (a2:Int):Option (Bool):=if a0 ≥ a1 then (some (decide (a0≤a2))) else (some false)
set_option maxHeartbeats 8000000 in
set_option maxRecDepth 100000 in
theorem gy.calls (a0 : Int) (a1 : Int) (a2 : Int) (r : Bool) (w : World) (h : gy.f a0 a1 a2 = some r) :
  Calls Try.prog 172 #[.int .i64 a0,.int .i64 a1,.int .i64 a2] w fun e w'=>e=.returned (.bool r)∧bI w w':=by
 have H:(if a0 ≥ a1 then (some (decide (a0≤a2))) else (some false))=some r:=h
 clear h
 by_cases c4:a0 ≥ a1
 case neg =>
  rw [if_neg c4] at H
  have eD:decide (a1≤a0)=false:=decide_eq_false c4
  clear c4
  obtain rfl:=Option.some.inj H
  go_enter Try.func172,Try.ntmps172
  go_wp2
  go_ret
  exact ⟨by first|rfl|(simp;done)|(simp [*];done),by repeat (first|exact bI.refl _|apply bI.step)⟩
 rw [if_pos c4] at H
 have eD:=decide_eq_true c4
 clear c4
 obtain rfl:=Option.some.inj H
 go_enter Try.func172,Try.ntmps172
 go_wp2
 go_ret
 exact ⟨by first|rfl|(simp;done)|(simp [*];done),by repeat (first|exact bI.refl _|apply bI.step)⟩
end Go.Proofs.Ytoebojnhchocaaa.D
/- Set with little white space, by a program. -/
