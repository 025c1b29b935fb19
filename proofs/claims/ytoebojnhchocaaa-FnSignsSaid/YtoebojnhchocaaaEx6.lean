/- The functions that one law reaches, each as a Lean function, and that Go's call comes to what it says. Condition of each: that the Lean function answers (is not none). -/
import Derived.Test.YtoebojnhchocaaaEx0
import Derived.Test.YtoebojnhchocaaaEx4
import Derived.Test.YtoebojnhchocaaaEx5
namespace Go.Proofs.Ytoebojnhchocaaa.E
open Go.RowKit Go.Proofs.bY.apf Go.Proofs.bY.ko Go.Proofs.bY.kN
attribute [local go_sem] max2_int min2_int max_two min_two max_three min_three max_four min_four   -- for this text's walks alone
set_option linter.unusedVariables false
set_option linter.unusedSimpArgs false
/-! ### F85: function 85 -/
mutual
def dz.j0 : Nat → List Int → List Int → Option (List Int × Int)
 | 0,_,_=>none
 | k+1,x0,x1=>dz.l0 k x0 x1 (([]:List Int)) (mx 0 (wrap64 ((wrap64 ((x0.length:Int) - (x1.length:Int)))+1))) 0
def dz.l0 : Nat → List Int → List Int → List Int → Int → Int → Option (List Int × Int)
 | 0,_,_,_,_,_=>none
 | k+1,x0,x1,x6,Fy,aqL=>if aqL < Fy then ((pX.f x0 aqL).bind fun t110=>(dz.l1 k x0 x1 x6 aqL t110 1 Fy aqL)) else (if (x0.length:Int)=0 then (dz.j3 k x0 x1 ([]:List Int)) else (dz.j3 k x0 x1 x6))
def dz.l1 : Nat → List Int → List Int → List Int → Int → Int → Int → Int → Int → Option (List Int × Int)
 | 0,_,_,_,_,_,_,_,_=>none
 | k+1,x0,x1,x6,x7,x8,fS,Fy,aqL=>if fS≤(mn x7 (wrap64 ((x1.length:Int) - 1))) then (if 0≤fS then (if fS < (x1.length:Int) then (if 0≤(wrap64 (x7 - fS)) then (if (wrap64 (x7 - fS)) < (x6.length:Int) then ((lC.f k x8 (wrap64 (-(rd x1 fS))) (rd x6 (wrap64 (x7 - fS)))).bind fun lV=>(if lV.2=true then (dz.l1 k x0 x1 x6 x7 lV.1 (wrap64 (fS+1)) Fy aqL) else (some (([]:List Int),3)))) else (none)) else (none)) else (none)) else (none)) else (if 0 < (x1.length:Int) then (if x6.length < 17592186044416 then (dz.l0 k x0 x1 (x6 ++ [wrap64 (x8 * (rd x1 0))]) Fy (wrap64 (aqL+1))) else (none)) else (none))
def dz.j3 : Nat → List Int → List Int → List Int → Option (List Int × Int)
 | 0,_,_,_=>none
 | k+1,x0,x1,x6=>(mK.f k x6).bind fun t119=>((eW.f k t119 x1).bind fun jc=>(if jc.2=true then ((nH.f k jc.1 x0).bind fun t126=>(if t126=true then (some (t119,0)) else (some (([]:List Int),4)))) else (some (([]:List Int),3))))
end
def dz.f (k:Nat) (l0:List Int) (l1:List Int):Option (List Int × Int):=(rO.f k (([l0,l1]:List (List Int)))).bind fun t104=>(if t104=true then ((pX.f l1 0).bind fun t105=>((l8.f t105).bind fun t106=>(if t106=1 then (if (l0.length:Int) > 0 then (if (l0.length:Int) < (l1.length:Int) then (some (([]:List Int),4)) else (dz.j0 k l0 l1)) else (dz.j0 k l0 l1)) else (some (([]:List Int),5))))) else (some (([]:List Int),1)))
def dz.O7:Bool × List (List Nat × List Nat):=(true,[([],[]),([],[]),([],[]),([1,2],[1,2]),([3],[3]),([4],[4]),([],[]),([],[]),([],[]),([7,8],[7,8]),([6,9],[6,9]),([10],[10]),([0,5,11],[0,5,11]),([12],[12]),([13],[13]),([13],[13]),([14,12,0,1,2,3,4,5,6,7,8,9,10,11,12,13,14],[0,14]),([15,16,0,1,2,3,4,5,6,7,8,9,10,11,12,13,14,15,16],[15])])
def dz.U5:List Nat:=[0,0,0,6,14,30,0,0,0,384,960,1984,4095,8191,16383,16383,32767,131071]
theorem dz.T3:iP .any (opsOf Try.f85 15)=dz.O7:=by kernel_rfl
theorem dz.Pp:nA dz.O7.2 dz.U5=true:=by kernel_rfl
set_option maxHeartbeats 8000000 in
set_option maxRecDepth 100000 in
theorem dz.calls (k : Nat) (fK : Nat → Prop) (A0 : Option Addr) (c0 : Nat) (l0 : List Int) (gh : Nat → Prop) (A1 : Option Addr) (c1 : Nat) (l1 : List Int) (r1 : List Int) (r2 : Int) (w : World) (hs0 : Kd.V (Kd.int .i64) 2 w w.heap.size (fun k_ => fK k_) (.slice A0 l0.length c0) l0) (hs1 : Kd.V (Kd.int .i64) 2 w w.heap.size (fun k_ => gh k_) (.slice A1 l1.length c1) l1) (h : dz.f k l0 l1 = some (r1, r2)) :
  Calls Try.prog 85 #[.slice A0 l0.length c0,.slice A1 l1.length c1] w fun e w'=>∃ eE:Value,e=.returned (.tuple #[eE,.int .i64 r2])∧Kd.R (Kd.int .i64) 2 w' w.heap.size (fun k_=>(w.heap.size≤k_)) eE r1∧Below w.heap.size w w':=by
 have apl:=k0 (show Kd.V (Kd.int .i64) 2 w w.heap.size (fun k_=>((fK k_∨gh k_)∨w.heap.size≤k_)) (.slice A0 l0.length c0) l0 from Kd.bP hs0 (fun k_ hk=>.inl (.inl hk)))
 have gf:=k0 (show Kd.V (Kd.int .i64) 2 w w.heap.size (fun k_=>((fK k_∨gh k_)∨w.heap.size≤k_)) (.slice A1 l1.length c1) l1 from Kd.bP hs1 (fun k_ hk=>.inl (.inr hk)))
 have HB:=k0 (Below.refl w.heap.size w)
 have H:((rO.f k (([l0,l1]:List (List Int)))).bind fun t104=>(if t104=true then ((pX.f l1 0).bind fun t105=>((l8.f t105).bind fun t106=>(if t106=1 then (if (l0.length:Int) > 0 then (if (l0.length:Int) < (l1.length:Int) then (some (([]:List Int),4)) else (dz.j0 k l0 l1)) else (dz.j0 k l0 l1)) else (some (([]:List Int),5))))) else (some (([]:List Int),1))))=some (r1,r2):=h
 clear h
 have zm:=k0 H
 clear H
 go_enter Try.func85,Try.ntmps85
 go_upto_block 0 with (fail)
 go_cut [] (fun wc=>∃ (kq:Nat),aj (dz.j0 kq l0 l1=some (r1,r2))∧aj (kq≤k)∧aj (Kd.V (Kd.int .i64) 2 wc w.heap.size (fun k_=>((fK k_∨gh k_)∨w.heap.size≤k_)) (.slice A0 l0.length c0) l0)∧aj (Kd.V (Kd.int .i64) 2 wc w.heap.size (fun k_=>((fK k_∨gh k_)∨w.heap.size≤k_)) (.slice A1 l1.length c1) l1)∧aj (Below w.heap.size w wc))
 case first =>
  have H:=zm.z
  clear zm
  obtain ⟨iJ,j7⟩:∃ y_:List (List Int),y_=(([l0,l1]:List (List Int))):=⟨_,rfl⟩
  replace H:((rO.f k iJ).bind fun t104=>(if t104=true then ((pX.f l1 0).bind fun t105=>((l8.f t105).bind fun t106=>(if t106=1 then (if (l0.length:Int) > 0 then (if (l0.length:Int) < (l1.length:Int) then (some (([]:List Int),4)) else (dz.j0 k l0 l1)) else (dz.j0 k l0 l1)) else (some (([]:List Int),5))))) else (some (([]:List Int),1))))=some (r1,r2):=rH j7 H
  have jX:=k0 j7
  clear j7
  replace H:=Option.bind_eq_some_iff.mp H
  obtain ⟨t104,fu,H⟩:=H
  replace H:(if t104=true then ((pX.f l1 0).bind fun t105=>((l8.f t105).bind fun t106=>(if t106=1 then (if (l0.length:Int) > 0 then (if (l0.length:Int) < (l1.length:Int) then (some (([]:List Int),4)) else (dz.j0 k l0 l1)) else (dz.j0 k l0 l1)) else (some (([]:List Int),5))))) else (some (([]:List Int),1)))=some (r1,r2):=H
  have A4:=k0 fu
  clear fu
  by_cases c5:t104=true
  case neg =>
   replace c5:=Bool.eq_false_iff.mpr c5
   subst c5
   have H1:(some (([]:List Int),1))=some (r1,r2):=by rw [if_neg (show ¬ (false=true) by decide)] at H;exact H
   clear H
   have H:=H1
   clear H1
   simp only [Option.some.injEq,Prod.mk.injEq] at H
   obtain ⟨rfl,rfl⟩:=H
   go_wp2_with (first|((with_reducible refine bp (N:=16) rfl ?_);(try (refine jC (by rfl) ?_;dsimp only));refine Kd.Dv (Kd.slice 2 (Kd.int .i64)) _ 28 ?hg (N':=16) ?hd (xs:=([l0,l1]:List (List Int))) (inner:=[.slice A0 l0.length c0,.slice A1 l1.length c1]) (ok:=(fun k_=>((fK k_∨gh k_)∨w.heap.size≤k_))) (b_:=(fun k_=>((fK k_∨gh k_)∨w.heap.size≤k_))) ?hr ?hp (fun _ hk=>hk) ((show ∀ k_,w.heap.size≤k_→(fun k_=>((fK k_∨gh k_)∨w.heap.size≤k_)) k_ from fun k_ hk=>(.inr (Nat.le_trans (aoS bl) hk))) _ (Nat.le_refl _)) (Below.refl _ _) (Nat.le_refl _) (by simp) ?_;(case hd=>rfl);(case hg=>rfl);(case hr=>first|(go_simp;done)|(go_simp;rfl));(case hp=>exact (bh.one (show Kd.FK (Kd.slice 2 (Kd.int .i64)) _ _ l0 [.slice A0 l0.length c0] from (Kd.vI (Kd.dm (Kd.bP (ok':=(fun k_=>((fK k_∨gh k_)∨w.heap.size≤k_))) (apl.z) (fun k_ hk=>hk))).2.1 (Kd.vT (Kd.bP (ok':=(fun k_=>((fK k_∨gh k_)∨w.heap.size≤k_))) (apl.z) (fun k_ hk=>hk))))) (bh.one (show Kd.FK (Kd.slice 2 (Kd.int .i64)) _ _ l1 [.slice A1 l1.length c1] from (Kd.vI (Kd.dm (Kd.bP (ok':=(fun k_=>((fK k_∨gh k_)∨w.heap.size≤k_))) (gf.z) (fun k_ hk=>hk))).2.1 (Kd.vT (Kd.bP (ok':=(fun k_=>((fK k_∨gh k_)∨w.heap.size≤k_))) (gf.z) (fun k_ hk=>hk))))) (bh.none _ _))));intro o5 CP mQ hb cJ cK;clear cJ cK;(first|rw [← jX.z] at mQ|(simp only [Int.reduceToNat] at mQ;rw [← jX.z] at mQ));replace apl:=k0 (Kd.dV (aV apl.z) (Kd.vL mQ) hb);replace gf:=k0 (Kd.dV (aV gf.z) (Kd.vL mQ) hb);have eJ:=k0 (Kd.Dw mQ (aoS bl));replace HB:=k0 (aH bl hb);clear hb mQ;obtain ⟨Bf,BI,D6⟩:=Kd.Dx eJ.z;subst D6)|((with_reducible refine bg (f:=164) rfl ?_);refine gC (some 17) Try.func164 #[.slice Bf iJ.length BI] ?_;(with_reducible refine (rO.calls k _ _ iJ false _ ?aoN ?aoP A4.z).mono ?_);(case aoN=>exact aC ((Kd.vN eJ.z).2.2));(case aoP=>exact (Kd.vN eJ.z).2.1);rintro e w34 ⟨rfl,hb⟩;refine ⟨_,rfl,?_⟩;replace apl:=k0 (Kd.gI (aV apl.z) hb);replace gf:=k0 (Kd.gI (aV gf.z) hb);replace eJ:=k0 (Kd.vM (aN eJ.z) hb);replace HB:=k0 (aH bl hb);))
   go_ret2
   exact ⟨_,eR,by first|exact Kd.kO _ _ _ _ _|exact Kd.lG _ _ _ _ _|exact Kd.apy _ _ _ _ _|exact Kd.lH _ _ _ _ _|exact Kd.lf _ _ _ _ _,bl⟩
  subst c5
  have H1:((pX.f l1 0).bind fun t105=>((l8.f t105).bind fun t106=>(if t106=1 then (if (l0.length:Int) > 0 then (if (l0.length:Int) < (l1.length:Int) then (some (([]:List Int),4)) else (dz.j0 k l0 l1)) else (dz.j0 k l0 l1)) else (some (([]:List Int),5)))))=some (r1,r2):=by rw [if_pos rfl] at H;exact H
  clear H
  have H:=H1
  clear H1
  replace H:=Option.bind_eq_some_iff.mp H
  obtain ⟨t105,kX,H⟩:=H
  replace H:((l8.f t105).bind fun t106=>(if t106=1 then (if (l0.length:Int) > 0 then (if (l0.length:Int) < (l1.length:Int) then (some (([]:List Int),4)) else (dz.j0 k l0 l1)) else (dz.j0 k l0 l1)) else (some (([]:List Int),5))))=some (r1,r2):=H
  have A6:=k0 kX
  clear kX
  replace H:=Option.bind_eq_some_iff.mp H
  obtain ⟨t106,nE,H⟩:=H
  replace H:(if t106=1 then (if (l0.length:Int) > 0 then (if (l0.length:Int) < (l1.length:Int) then (some (([]:List Int),4)) else (dz.j0 k l0 l1)) else (dz.j0 k l0 l1)) else (some (([]:List Int),5)))=some (r1,r2):=H
  have A7:=k0 nE
  clear nE
  by_cases c8:t106=1
  case neg =>
   rw [if_neg c8] at H
   have kH:(t106 == 1)=false:=beq_eq_false_iff_ne.mpr c8
   have qL:(t106 != 1)=true:=bne_iff_ne.mpr c8
   (first|rw [kH]|(simp only [cm,cO];rw [kH])|skip)
   simp only [Option.some.injEq,Prod.mk.injEq] at H
   obtain ⟨rfl,rfl⟩:=H
   go_wp2_with (first|((with_reducible refine bp (N:=16) rfl ?_);(try (refine jC (by rfl) ?_;dsimp only));refine Kd.Dv (Kd.slice 2 (Kd.int .i64)) _ 28 ?hg (N':=16) ?hd (xs:=([l0,l1]:List (List Int))) (inner:=[.slice A0 l0.length c0,.slice A1 l1.length c1]) (ok:=(fun k_=>((fK k_∨gh k_)∨w.heap.size≤k_))) (b_:=(fun k_=>((fK k_∨gh k_)∨w.heap.size≤k_))) ?hr ?hp (fun _ hk=>hk) ((show ∀ k_,w.heap.size≤k_→(fun k_=>((fK k_∨gh k_)∨w.heap.size≤k_)) k_ from fun k_ hk=>(.inr (Nat.le_trans (aoS bl) hk))) _ (Nat.le_refl _)) (Below.refl _ _) (Nat.le_refl _) (by simp) ?_;(case hd=>rfl);(case hg=>rfl);(case hr=>first|(go_simp;done)|(go_simp;rfl));(case hp=>exact (bh.one (show Kd.FK (Kd.slice 2 (Kd.int .i64)) _ _ l0 [.slice A0 l0.length c0] from (Kd.vI (Kd.dm (Kd.bP (ok':=(fun k_=>((fK k_∨gh k_)∨w.heap.size≤k_))) (apl.z) (fun k_ hk=>hk))).2.1 (Kd.vT (Kd.bP (ok':=(fun k_=>((fK k_∨gh k_)∨w.heap.size≤k_))) (apl.z) (fun k_ hk=>hk))))) (bh.one (show Kd.FK (Kd.slice 2 (Kd.int .i64)) _ _ l1 [.slice A1 l1.length c1] from (Kd.vI (Kd.dm (Kd.bP (ok':=(fun k_=>((fK k_∨gh k_)∨w.heap.size≤k_))) (gf.z) (fun k_ hk=>hk))).2.1 (Kd.vT (Kd.bP (ok':=(fun k_=>((fK k_∨gh k_)∨w.heap.size≤k_))) (gf.z) (fun k_ hk=>hk))))) (bh.none _ _))));intro o5 aqF rG hb cJ cK;clear cJ cK;(first|rw [← jX.z] at rG|(simp only [Int.reduceToNat] at rG;rw [← jX.z] at rG));replace apl:=k0 (Kd.dV (aV apl.z) (Kd.vL rG) hb);replace gf:=k0 (Kd.dV (aV gf.z) (Kd.vL rG) hb);have eJ:=k0 (Kd.Dw rG (aoS bl));replace HB:=k0 (aH bl hb);clear hb rG;obtain ⟨C7,r7,xj⟩:=Kd.Dx eJ.z;subst xj)|((with_reducible refine bg (f:=164) rfl ?_);refine gC (some 17) Try.func164 #[.slice C7 iJ.length r7] ?_;(with_reducible refine (rO.calls k _ _ iJ true _ ?aoN ?aoP A4.z).mono ?_);(case aoN=>exact aC ((Kd.vN eJ.z).2.2));(case aoP=>exact (Kd.vN eJ.z).2.1);rintro e Nq ⟨rfl,hb⟩;refine ⟨_,rfl,?_⟩;replace apl:=k0 (Kd.gI (aV apl.z) hb);replace gf:=k0 (Kd.gI (aV gf.z) hb);replace eJ:=k0 (Kd.vM (aN eJ.z) hb);replace HB:=k0 (aH bl hb);)|((with_reducible refine bg (f:=166) rfl ?_);refine gC (some 21) Try.func166 #[.slice A1 l1.length c1,.int .i64 0] ?_;(with_reducible refine (pX.calls _ _ l1 0 t105 _ ?aoN ?aoP A6.z).mono ?_);(case aoN=>exact aC ((Kd.dm gf.z).2.2));(case aoP=>exact (Kd.dm gf.z).2.1);rintro e w' ⟨rfl,⟨nd,rfl⟩⟩;refine ⟨_,rfl,?_⟩)|((with_reducible refine bg (f:=165) rfl ?_);refine gC (some 22) Try.func165 #[.int .i64 t105] ?_;(with_reducible refine (l8.calls t105 t106 _ A7.z).mono ?_);rintro e Im ⟨rfl,hb⟩;refine ⟨_,rfl,?_⟩;replace apl:=k0 (Kd.gI (aV apl.z) hb);replace gf:=k0 (Kd.gI (aV gf.z) hb);replace eJ:=k0 (Kd.vM (aN eJ.z) hb);replace HB:=k0 (aH bl hb);))
   go_ret2
   exact ⟨_,eR,by first|exact Kd.kO _ _ _ _ _|exact Kd.lG _ _ _ _ _|exact Kd.apy _ _ _ _ _|exact Kd.lH _ _ _ _ _|exact Kd.lf _ _ _ _ _,bl⟩
  rw [if_pos c8] at H
  have kH:(t106 == 1)=true:=beq_iff_eq.mpr c8
  have qL:(t106 != 1)=false:=bne_eq_false_iff_eq.mpr c8
  clear c8
  (first|rw [kH]|(simp only [cm,cO];rw [kH])|skip)
  by_cases c9:(l0.length:Int) > 0
  case neg =>
   rw [if_neg c9] at H
   have ap8:decide (0 < (l0.length:Int))=false:=decide_eq_false c9
   have BD:decide (0 < l0.length)=false:=decide_eq_false (by omega)
   clear c9
   have H':=k0 H
   clear H
   go_wp2_with (first|((with_reducible refine bp (N:=16) rfl ?_);(try (refine jC (by rfl) ?_;dsimp only));refine Kd.Dv (Kd.slice 2 (Kd.int .i64)) _ 28 ?hg (N':=16) ?hd (xs:=([l0,l1]:List (List Int))) (inner:=[.slice A0 l0.length c0,.slice A1 l1.length c1]) (ok:=(fun k_=>((fK k_∨gh k_)∨w.heap.size≤k_))) (b_:=(fun k_=>((fK k_∨gh k_)∨w.heap.size≤k_))) ?hr ?hp (fun _ hk=>hk) ((show ∀ k_,w.heap.size≤k_→(fun k_=>((fK k_∨gh k_)∨w.heap.size≤k_)) k_ from fun k_ hk=>(.inr (Nat.le_trans (aoS bl) hk))) _ (Nat.le_refl _)) (Below.refl _ _) (Nat.le_refl _) (by simp) ?_;(case hd=>rfl);(case hg=>rfl);(case hr=>first|(go_simp;done)|(go_simp;rfl));(case hp=>exact (bh.one (show Kd.FK (Kd.slice 2 (Kd.int .i64)) _ _ l0 [.slice A0 l0.length c0] from (Kd.vI (Kd.dm (Kd.bP (ok':=(fun k_=>((fK k_∨gh k_)∨w.heap.size≤k_))) (apl.z) (fun k_ hk=>hk))).2.1 (Kd.vT (Kd.bP (ok':=(fun k_=>((fK k_∨gh k_)∨w.heap.size≤k_))) (apl.z) (fun k_ hk=>hk))))) (bh.one (show Kd.FK (Kd.slice 2 (Kd.int .i64)) _ _ l1 [.slice A1 l1.length c1] from (Kd.vI (Kd.dm (Kd.bP (ok':=(fun k_=>((fK k_∨gh k_)∨w.heap.size≤k_))) (gf.z) (fun k_ hk=>hk))).2.1 (Kd.vT (Kd.bP (ok':=(fun k_=>((fK k_∨gh k_)∨w.heap.size≤k_))) (gf.z) (fun k_ hk=>hk))))) (bh.none _ _))));intro o5 CN Ap hb cJ cK;clear cJ cK;(first|rw [← jX.z] at Ap|(simp only [Int.reduceToNat] at Ap;rw [← jX.z] at Ap));replace apl:=k0 (Kd.dV (aV apl.z) (Kd.vL Ap) hb);replace gf:=k0 (Kd.dV (aV gf.z) (Kd.vL Ap) hb);have eJ:=k0 (Kd.Dw Ap (aoS bl));replace HB:=k0 (aH bl hb);clear hb Ap;obtain ⟨FI,yo,zY⟩:=Kd.Dx eJ.z;subst zY)|((with_reducible refine bg (f:=164) rfl ?_);refine gC (some 17) Try.func164 #[.slice FI iJ.length yo] ?_;(with_reducible refine (rO.calls k _ _ iJ true _ ?aoN ?aoP A4.z).mono ?_);(case aoN=>exact aC ((Kd.vN eJ.z).2.2));(case aoP=>exact (Kd.vN eJ.z).2.1);rintro e Fs ⟨rfl,hb⟩;refine ⟨_,rfl,?_⟩;replace apl:=k0 (Kd.gI (aV apl.z) hb);replace gf:=k0 (Kd.gI (aV gf.z) hb);replace eJ:=k0 (Kd.vM (aN eJ.z) hb);replace HB:=k0 (aH bl hb);)|((with_reducible refine bg (f:=166) rfl ?_);refine gC (some 21) Try.func166 #[.slice A1 l1.length c1,.int .i64 0] ?_;(with_reducible refine (pX.calls _ _ l1 0 t105 _ ?aoN ?aoP A6.z).mono ?_);(case aoN=>exact aC ((Kd.dm gf.z).2.2));(case aoP=>exact (Kd.dm gf.z).2.1);rintro e w' ⟨rfl,⟨nd,rfl⟩⟩;refine ⟨_,rfl,?_⟩)|((with_reducible refine bg (f:=165) rfl ?_);refine gC (some 22) Try.func165 #[.int .i64 t105] ?_;(with_reducible refine (l8.calls t105 t106 _ A7.z).mono ?_);rintro e y5 ⟨rfl,hb⟩;refine ⟨_,rfl,?_⟩;replace apl:=k0 (Kd.gI (aV apl.z) hb);replace gf:=k0 (Kd.gI (aV gf.z) hb);replace eJ:=k0 (Kd.vM (aN eJ.z) hb);replace HB:=k0 (aH bl hb);))
   go_meet
   case rel=>exact ⟨_,(by first|exact H'|(rw [qQ];exact H')|(rw [jL];exact H')|(rw [apU];exact H')),⟨by first|omega|exact Nat.le_refl _⟩,⟨aV (Kd.bP apl.z (fun _ hk=>hk.1))⟩,⟨aV (Kd.bP gf.z (fun _ hk=>hk.1))⟩,⟨bl⟩⟩
  rw [if_pos c9] at H
  have ap8:=decide_eq_true c9
  have BD:decide (0 < l0.length)=true:=decide_eq_true (by omega)
  clear c9
  by_cases c10:(l0.length:Int) < (l1.length:Int)
  case neg =>
   rw [if_neg c10] at H
   have qI:decide ((l0.length:Int) < (l1.length:Int))=false:=decide_eq_false c10
   have Ge:decide (l0.length < l1.length)=false:=decide_eq_false (fun h=>c10 (Int.ofNat_lt.mpr h))
   clear c10
   have H':=k0 H
   clear H
   go_wp2_with (first|((with_reducible refine bp (N:=16) rfl ?_);(try (refine jC (by rfl) ?_;dsimp only));refine Kd.Dv (Kd.slice 2 (Kd.int .i64)) _ 28 ?hg (N':=16) ?hd (xs:=([l0,l1]:List (List Int))) (inner:=[.slice A0 l0.length c0,.slice A1 l1.length c1]) (ok:=(fun k_=>((fK k_∨gh k_)∨w.heap.size≤k_))) (b_:=(fun k_=>((fK k_∨gh k_)∨w.heap.size≤k_))) ?hr ?hp (fun _ hk=>hk) ((show ∀ k_,w.heap.size≤k_→(fun k_=>((fK k_∨gh k_)∨w.heap.size≤k_)) k_ from fun k_ hk=>(.inr (Nat.le_trans (aoS bl) hk))) _ (Nat.le_refl _)) (Below.refl _ _) (Nat.le_refl _) (by simp) ?_;(case hd=>rfl);(case hg=>rfl);(case hr=>first|(go_simp;done)|(go_simp;rfl));(case hp=>exact (bh.one (show Kd.FK (Kd.slice 2 (Kd.int .i64)) _ _ l0 [.slice A0 l0.length c0] from (Kd.vI (Kd.dm (Kd.bP (ok':=(fun k_=>((fK k_∨gh k_)∨w.heap.size≤k_))) (apl.z) (fun k_ hk=>hk))).2.1 (Kd.vT (Kd.bP (ok':=(fun k_=>((fK k_∨gh k_)∨w.heap.size≤k_))) (apl.z) (fun k_ hk=>hk))))) (bh.one (show Kd.FK (Kd.slice 2 (Kd.int .i64)) _ _ l1 [.slice A1 l1.length c1] from (Kd.vI (Kd.dm (Kd.bP (ok':=(fun k_=>((fK k_∨gh k_)∨w.heap.size≤k_))) (gf.z) (fun k_ hk=>hk))).2.1 (Kd.vT (Kd.bP (ok':=(fun k_=>((fK k_∨gh k_)∨w.heap.size≤k_))) (gf.z) (fun k_ hk=>hk))))) (bh.none _ _))));intro o5 xE Ak hb cJ cK;clear cJ cK;(first|rw [← jX.z] at Ak|(simp only [Int.reduceToNat] at Ak;rw [← jX.z] at Ak));replace apl:=k0 (Kd.dV (aV apl.z) (Kd.vL Ak) hb);replace gf:=k0 (Kd.dV (aV gf.z) (Kd.vL Ak) hb);have eJ:=k0 (Kd.Dw Ak (aoS bl));replace HB:=k0 (aH bl hb);clear hb Ak;obtain ⟨wJ,vY,uB⟩:=Kd.Dx eJ.z;subst uB)|((with_reducible refine bg (f:=164) rfl ?_);refine gC (some 17) Try.func164 #[.slice wJ iJ.length vY] ?_;(with_reducible refine (rO.calls k _ _ iJ true _ ?aoN ?aoP A4.z).mono ?_);(case aoN=>exact aC ((Kd.vN eJ.z).2.2));(case aoP=>exact (Kd.vN eJ.z).2.1);rintro e CM ⟨rfl,hb⟩;refine ⟨_,rfl,?_⟩;replace apl:=k0 (Kd.gI (aV apl.z) hb);replace gf:=k0 (Kd.gI (aV gf.z) hb);replace eJ:=k0 (Kd.vM (aN eJ.z) hb);replace HB:=k0 (aH bl hb);)|((with_reducible refine bg (f:=166) rfl ?_);refine gC (some 21) Try.func166 #[.slice A1 l1.length c1,.int .i64 0] ?_;(with_reducible refine (pX.calls _ _ l1 0 t105 _ ?aoN ?aoP A6.z).mono ?_);(case aoN=>exact aC ((Kd.dm gf.z).2.2));(case aoP=>exact (Kd.dm gf.z).2.1);rintro e w' ⟨rfl,⟨nd,rfl⟩⟩;refine ⟨_,rfl,?_⟩)|((with_reducible refine bg (f:=165) rfl ?_);refine gC (some 22) Try.func165 #[.int .i64 t105] ?_;(with_reducible refine (l8.calls t105 t106 _ A7.z).mono ?_);rintro e aqf ⟨rfl,hb⟩;refine ⟨_,rfl,?_⟩;replace apl:=k0 (Kd.gI (aV apl.z) hb);replace gf:=k0 (Kd.gI (aV gf.z) hb);replace eJ:=k0 (Kd.vM (aN eJ.z) hb);replace HB:=k0 (aH bl hb);))
   go_meet
   case rel=>exact ⟨_,(by first|exact H'|(rw [qQ];exact H')|(rw [jL];exact H')|(rw [apU];exact H')),⟨by first|omega|exact Nat.le_refl _⟩,⟨aV (Kd.bP apl.z (fun _ hk=>hk.1))⟩,⟨aV (Kd.bP gf.z (fun _ hk=>hk.1))⟩,⟨bl⟩⟩
  rw [if_pos c10] at H
  have qI:=decide_eq_true c10
  have Ge:decide (l0.length < l1.length)=true:=decide_eq_true (Int.ofNat_lt.mp c10)
  clear c10
  simp only [Option.some.injEq,Prod.mk.injEq] at H
  obtain ⟨rfl,rfl⟩:=H
  go_wp2_with (first|((with_reducible refine bp (N:=16) rfl ?_);(try (refine jC (by rfl) ?_;dsimp only));refine Kd.Dv (Kd.slice 2 (Kd.int .i64)) _ 28 ?hg (N':=16) ?hd (xs:=([l0,l1]:List (List Int))) (inner:=[.slice A0 l0.length c0,.slice A1 l1.length c1]) (ok:=(fun k_=>((fK k_∨gh k_)∨w.heap.size≤k_))) (b_:=(fun k_=>((fK k_∨gh k_)∨w.heap.size≤k_))) ?hr ?hp (fun _ hk=>hk) ((show ∀ k_,w.heap.size≤k_→(fun k_=>((fK k_∨gh k_)∨w.heap.size≤k_)) k_ from fun k_ hk=>(.inr (Nat.le_trans (aoS bl) hk))) _ (Nat.le_refl _)) (Below.refl _ _) (Nat.le_refl _) (by simp) ?_;(case hd=>rfl);(case hg=>rfl);(case hr=>first|(go_simp;done)|(go_simp;rfl));(case hp=>exact (bh.one (show Kd.FK (Kd.slice 2 (Kd.int .i64)) _ _ l0 [.slice A0 l0.length c0] from (Kd.vI (Kd.dm (Kd.bP (ok':=(fun k_=>((fK k_∨gh k_)∨w.heap.size≤k_))) (apl.z) (fun k_ hk=>hk))).2.1 (Kd.vT (Kd.bP (ok':=(fun k_=>((fK k_∨gh k_)∨w.heap.size≤k_))) (apl.z) (fun k_ hk=>hk))))) (bh.one (show Kd.FK (Kd.slice 2 (Kd.int .i64)) _ _ l1 [.slice A1 l1.length c1] from (Kd.vI (Kd.dm (Kd.bP (ok':=(fun k_=>((fK k_∨gh k_)∨w.heap.size≤k_))) (gf.z) (fun k_ hk=>hk))).2.1 (Kd.vT (Kd.bP (ok':=(fun k_=>((fK k_∨gh k_)∨w.heap.size≤k_))) (gf.z) (fun k_ hk=>hk))))) (bh.none _ _))));intro o5 vp nr hb cJ cK;clear cJ cK;(first|rw [← jX.z] at nr|(simp only [Int.reduceToNat] at nr;rw [← jX.z] at nr));replace apl:=k0 (Kd.dV (aV apl.z) (Kd.vL nr) hb);replace gf:=k0 (Kd.dV (aV gf.z) (Kd.vL nr) hb);have eJ:=k0 (Kd.Dw nr (aoS bl));replace HB:=k0 (aH bl hb);clear hb nr;obtain ⟨iQ,iF,xg⟩:=Kd.Dx eJ.z;subst xg)|((with_reducible refine bg (f:=164) rfl ?_);refine gC (some 17) Try.func164 #[.slice iQ iJ.length iF] ?_;(with_reducible refine (rO.calls k _ _ iJ true _ ?aoN ?aoP A4.z).mono ?_);(case aoN=>exact aC ((Kd.vN eJ.z).2.2));(case aoP=>exact (Kd.vN eJ.z).2.1);rintro e tL ⟨rfl,hb⟩;refine ⟨_,rfl,?_⟩;replace apl:=k0 (Kd.gI (aV apl.z) hb);replace gf:=k0 (Kd.gI (aV gf.z) hb);replace eJ:=k0 (Kd.vM (aN eJ.z) hb);replace HB:=k0 (aH bl hb);)|((with_reducible refine bg (f:=166) rfl ?_);refine gC (some 21) Try.func166 #[.slice A1 l1.length c1,.int .i64 0] ?_;(with_reducible refine (pX.calls _ _ l1 0 t105 _ ?aoN ?aoP A6.z).mono ?_);(case aoN=>exact aC ((Kd.dm gf.z).2.2));(case aoP=>exact (Kd.dm gf.z).2.1);rintro e w' ⟨rfl,⟨nd,rfl⟩⟩;refine ⟨_,rfl,?_⟩)|((with_reducible refine bg (f:=165) rfl ?_);refine gC (some 22) Try.func165 #[.int .i64 t105] ?_;(with_reducible refine (l8.calls t105 t106 _ A7.z).mono ?_);rintro e qq ⟨rfl,hb⟩;refine ⟨_,rfl,?_⟩;replace apl:=k0 (Kd.gI (aV apl.z) hb);replace gf:=k0 (Kd.gI (aV gf.z) hb);replace eJ:=k0 (Kd.vM (aN eJ.z) hb);replace HB:=k0 (aH bl hb);))
  go_ret2
  exact ⟨_,eR,by first|exact Kd.kO _ _ _ _ _|exact Kd.lG _ _ _ _ _|exact Kd.apy _ _ _ _ _|exact Kd.lH _ _ _ _ _|exact Kd.lf _ _ _ _ _,bl⟩
 case rest =>
  clear zm
  obtain ⟨kq,HA,tY,eX,gH,HB⟩:=hcut
  cases kq with
  | zero=>exact absurd HA.z (by simp [dz.j0])
  | succ xy =>
   have H:=HA.z
   clear HA
   simp only [dz.j0] at H
   obtain ⟨gF,mB⟩:∃ y_:List Int,y_=(([]:List Int)):=⟨_,rfl⟩
   replace H:(dz.l0 xy l0 l1 gF (mx 0 (wrap64 ((wrap64 ((l0.length:Int) - (l1.length:Int)))+1))) 0)=some (r1,r2):=rH mB H
   have ri:=k0 mB
   clear mB
   obtain ⟨sy,qQ⟩:∃ j_:Int,(mx 0 (wrap64 ((wrap64 ((l0.length:Int) - (l1.length:Int)))+1)))=j_:=⟨_,rfl⟩
   replace H:(dz.l0 xy l0 l1 gF sy 0)=some (r1,r2):=by first|(rw [qQ] at H;exact H)|(simp only [qQ] at H ⊢;exact H)
   have al_:(if 0 < (wrap64 ((wrap64 ((l0.length:Int) - (l1.length:Int)))+1)) then (wrap64 ((wrap64 ((l0.length:Int) - (l1.length:Int)))+1)) else 0)=sy:=qQ
   have H':=k0 H
   clear H
   go_wp2_with (first|((with_reducible refine bp (N:=35) rfl ?_);(try (refine jC (by rfl) ?_;dsimp only));refine Kd.jr (Kd.int .i64) _ 2 ?hg (N:=35) ?hd (xs:=([]:List Int)) (inner:=[]) (ok:=fun _=>True) (b_:=fun _=>True) ?hr ?hp (fun _ hk=>hk) trivial (Below.refl _ _) (Nat.le_refl _) (by simp) ?_;(case hd=>rfl);(case hg=>rfl);(case hr=>first|(go_simp;done)|(go_simp;rfl));(case hp=>exact (bh.none _ _));intro vo Uf Aq hb cJ cK;clear cJ cK;(first|rw [← ri.z] at Aq|(simp only [Int.reduceToNat] at Aq;rw [← ri.z] at Aq));replace eX:=k0 (Kd.dV (aV eX.z) (Kd.aU Aq) hb);replace gH:=k0 (Kd.dV (aV gH.z) (Kd.aU Aq) hb);have eB:=k0 (Kd.cU (Kd.rj (M:=fun k_=>(w.heap.size≤k_)) Aq (aoS bl) (fun k_ h_=>h_)) (aoS bl));replace HB:=k0 (aH bl hb);clear hb Aq))
   go_loopg [6,43] xy (fun kq v6 v43 w'=>∃ (d_:List Int) (kz:Int),v43=.int .i64 kz∧aj (dz.l0 kq l0 l1 d_ sy kz=some (r1,r2))∧aj (kq≤xy)∧aj (Kd.V (Kd.int .i64) 2 w' w.heap.size (fun k_=>((fK k_∨gh k_)∨w.heap.size≤k_)∧some k_ ≠ (v6:Value).ownBlock) (.slice A0 l0.length c0) l0)∧aj (Kd.V (Kd.int .i64) 2 w' w.heap.size (fun k_=>((fK k_∨gh k_)∨w.heap.size≤k_)∧some k_ ≠ (v6:Value).ownBlock) (.slice A1 l1.length c1) l1)∧aj (Kd.R (Kd.int .i64) 2 w' w.heap.size (fun k_=>(w.heap.size≤k_)) v6 d_)∧aj (Below w.heap.size w w'))
   case atStart=>exact ⟨(gF),(0),rs,H',⟨Nat.le_refl _⟩,⟨aV (eX.z)⟩,⟨aV (gH.z)⟩,⟨aR (Kd.aoY eB.z (fun _ hk=>hk.1))⟩,⟨bl⟩⟩
   case round =>
    clear H'
    obtain ⟨d_,kz,rfl,HA,cD,eX,gH,bz,HB⟩:=hrel
    cases gk with
    | zero=>exact absurd HA.z (by simp [dz.l0])
    | succ k2 =>
     have H:=HA.z
     clear HA
     simp only [dz.l0] at H
     by_cases c38:kz < sy
     case neg =>
      rw [if_neg c38] at H
      have XU:decide (kz < sy)=false:=decide_eq_false c38
      clear c38
      have zn:=k0 H
      clear H
      go_upto_if 87 with (fail)
      go_cut [6] (fun v6 wc=>∃ (kq:Nat) (tU:List Int),aj (dz.j3 kq l0 l1 tU=some (r1,r2))∧aj (kq≤k2)∧aj (Kd.V (Kd.int .i64) 2 wc w.heap.size (fun k_=>((fK k_∨gh k_)∨w.heap.size≤k_)∧some k_ ≠ (v6:Value).ownBlock) (.slice A0 l0.length c0) l0)∧aj (Kd.V (Kd.int .i64) 2 wc w.heap.size (fun k_=>((fK k_∨gh k_)∨w.heap.size≤k_)∧some k_ ≠ (v6:Value).ownBlock) (.slice A1 l1.length c1) l1)∧aj (Kd.R (Kd.int .i64) 2 wc w.heap.size (fun k_=>(w.heap.size≤k_)) v6 tU)∧aj (Below w.heap.size w wc))
      case first =>
       have H:=zn.z
       clear zn
       by_cases c59:(l0.length:Int)=0
       case neg =>
        rw [if_neg c59] at H
        have uu:((l0.length:Int) == 0)=false:=beq_eq_false_iff_ne.mpr c59
        have JX:((l0.length:Int) != 0)=true:=bne_iff_ne.mpr c59
        have ahi:¬ (l0=[]):=fun h_=>c59 (by rw [h_];rfl)
        (first|rw [uu]|(simp only [cm,cO];rw [uu])|skip)
        have H':=k0 H
        clear H
        go_wp2
        go_meet
        case rel=>exact ⟨_,(d_),(by first|exact H'|(rw [qQ];exact H')|(rw [jL];exact H')|(rw [apU];exact H')),⟨by have:=tY.out;have:=cD.z;first|omega|exact Nat.le_refl _⟩,⟨aV (eX.z)⟩,⟨aV (gH.z)⟩,⟨aR (bz.z)⟩,⟨bl⟩⟩
       rw [if_pos c59] at H
       have uu:((l0.length:Int) == 0)=true:=beq_iff_eq.mpr c59
       have JX:((l0.length:Int) != 0)=false:=bne_eq_false_iff_eq.mpr c59
       clear c59
       (first|rw [uu]|(simp only [cm,cO];rw [uu])|skip)
       have H':=k0 H
       clear H
       go_wp2
       go_meet
       case rel=>exact ⟨_,(([]:List Int)),(by first|exact H'|(rw [qQ];exact H')|(rw [jL];exact H')|(rw [apU];exact H')),⟨by have:=tY.out;have:=cD.z;first|omega|exact Nat.le_refl _⟩,⟨aV (Kd.bP eX.z (fun _ hk=>⟨hk.1,(by simp [Value.ownBlock])⟩))⟩,⟨aV (Kd.bP gH.z (fun _ hk=>⟨hk.1,(by simp [Value.ownBlock])⟩))⟩,⟨by first|exact Kd.kO _ _ _ _ _|exact Kd.lG _ _ _ _ _|exact Kd.apy _ _ _ _ _|exact Kd.lH _ _ _ _ _|exact Kd.lf _ _ _ _ _⟩,⟨bl⟩⟩
      case rest =>
       clear zn
       obtain ⟨kq,tU,HA,Jc,eX,gH,bz,HB⟩:=hcut
       cases kq with
       | zero=>exact absurd HA.z (by simp [dz.j3])
       | succ qj =>
        have H:=HA.z
        clear HA
        simp only [dz.j3] at H
        replace H:=Option.bind_eq_some_iff.mp H
        obtain ⟨t119,C3,H⟩:=H
        replace H:((eW.f qj t119 l1).bind fun jc=>(if jc.2=true then ((nH.f qj jc.1 l0).bind fun t126=>(if t126=true then (some (t119,0)) else (some (([]:List Int),4)))) else (some (([]:List Int),3))))=some (r1,r2):=H
        have kX:=k0 C3
        clear C3
        replace H:=Option.bind_eq_some_iff.mp H
        obtain ⟨⟨t122,t123⟩,xX,H⟩:=H
        replace H:(if t123=true then ((nH.f qj t122 l0).bind fun t126=>(if t126=true then (some (t119,0)) else (some (([]:List Int),4)))) else (some (([]:List Int),3)))=some (r1,r2):=H
        have sM:=k0 xX
        clear xX
        by_cases c62:t123=true
        case neg =>
         replace c62:=Bool.eq_false_iff.mpr c62
         subst c62
         have H1:(some (([]:List Int),3))=some (r1,r2):=by rw [if_neg (show ¬ (false=true) by decide)] at H;exact H
         clear H
         have H:=H1
         clear H1
         simp only [Option.some.injEq,Prod.mk.injEq] at H
         obtain ⟨rfl,rfl⟩:=H
         obtain ⟨vF,aqd,z7⟩:=Kd.dM bz.z
         subst z7
         go_wp2_with (first|((with_reducible refine bg (f:=168) rfl ?_);refine gC (some 89) Try.func168 #[.slice vF tU.length aqd] ?_;(with_reducible refine (mK.calls qj (fun k_=>some k_=(.slice vF tU.length aqd:Value).ownBlock) _ _ tU t119 _ ?aoN kX.z).mono ?_);(case aoN=>exact Kd.zG (Kd.mh rfl (bz.z)));rintro e w76 ⟨Ii,rfl,aD,hb⟩;refine ⟨_,rfl,?_⟩;replace eX:=k0 (Kd.dV (aV eX.z) (Kd.aU aD) hb);replace gH:=k0 (Kd.dV (aV gH.z) (Kd.aU aD) hb);have jW:=k0 (Kd.cU (Kd.cT (Kd.rj (M:=fun k_=>(w.heap.size≤k_)) (Kd.aoY (ok':=fun k_=>True) aD (fun _ bZ=>trivial)) (aoS bl) (fun k_ h_=>h_)) (Kd.bT (aR bz.z))) (aoS bl));replace bz:=k0 (Kd.ao9 (aR bz.z) (Kd.aU aD) hb);replace HB:=k0 (aH bl hb);obtain ⟨U2,Yz,ZG⟩:=Kd.dM jW.z;subst ZG)|((with_reducible refine bg (f:=169) rfl ?_);refine gC (some 93) Try.func169 #[.slice U2 t119.length Yz,.slice A1 l1.length c1] ?_;(with_reducible refine (eW.calls qj _ _ t119 _ _ l1 t122 false _ ?aoN ?aoP ?bA ?bH sM.z).mono ?_);(case aoN=>exact aC ((Kd.cx jW.z).2.2));(case aoP=>exact (Kd.cx jW.z).2.1);(case bA=>exact aC ((Kd.dm gH.z).2.2));(case bH=>exact (Kd.dm gH.z).2.1);rintro e w78 ⟨v124,rfl,aD,hb⟩;refine ⟨_,rfl,?_⟩;replace eX:=k0 (Kd.dV (aV eX.z) (Kd.aU aD) hb);replace gH:=k0 (Kd.dV (aV gH.z) (Kd.aU aD) hb);have ei:=k0 (Kd.cU (Kd.cT (Kd.cT (Kd.rj (M:=fun k_=>(w.heap.size≤k_)) aD (aoS bl) (fun k_ h_=>h_)) (Kd.bT (aR bz.z))) (Kd.bT (aR jW.z))) (aoS bl));replace bz:=k0 (Kd.ao9 (aR bz.z) (Kd.aU aD) hb);replace jW:=k0 (Kd.ao9 (aR jW.z) (Kd.aU aD) hb);replace HB:=k0 (aH bl hb);))
         go_ret2
         exact ⟨_,by first|rfl|(simp [je,jf]<;>rfl)|(simp only [← qQ];first|rfl|(simp [je,jf]<;>rfl))|(simp [*,je,jf]<;>rfl),by first|exact Kd.kO _ _ _ _ _|exact Kd.lG _ _ _ _ _|exact Kd.apy _ _ _ _ _|exact Kd.lH _ _ _ _ _|exact Kd.lf _ _ _ _ _,bl⟩
        subst c62
        have H1:((nH.f qj t122 l0).bind fun t126=>(if t126=true then (some (t119,0)) else (some (([]:List Int),4))))=some (r1,r2):=by rw [if_pos rfl] at H;exact H
        clear H
        have H:=H1
        clear H1
        replace H:=Option.bind_eq_some_iff.mp H
        obtain ⟨t126,C4,H⟩:=H
        replace H:(if t126=true then (some (t119,0)) else (some (([]:List Int),4)))=some (r1,r2):=H
        have FH:=k0 C4
        clear C4
        by_cases c64:t126=true
        case neg =>
         replace c64:=Bool.eq_false_iff.mpr c64
         subst c64
         have H1:(some (([]:List Int),4))=some (r1,r2):=by rw [if_neg (show ¬ (false=true) by decide)] at H;exact H
         clear H
         have H:=H1
         clear H1
         simp only [Option.some.injEq,Prod.mk.injEq] at H
         obtain ⟨rfl,rfl⟩:=H
         obtain ⟨N4,P1,ZD⟩:=Kd.dM bz.z
         subst ZD
         go_wp2_with (first|((with_reducible refine bg (f:=168) rfl ?_);refine gC (some 89) Try.func168 #[.slice N4 tU.length P1] ?_;(with_reducible refine (mK.calls qj (fun k_=>some k_=(.slice N4 tU.length P1:Value).ownBlock) _ _ tU t119 _ ?aoN kX.z).mono ?_);(case aoN=>exact Kd.zG (Kd.mh rfl (bz.z)));rintro e w71 ⟨Ii,rfl,aD,hb⟩;refine ⟨_,rfl,?_⟩;replace eX:=k0 (Kd.dV (aV eX.z) (Kd.aU aD) hb);replace gH:=k0 (Kd.dV (aV gH.z) (Kd.aU aD) hb);have jW:=k0 (Kd.cU (Kd.cT (Kd.rj (M:=fun k_=>(w.heap.size≤k_)) (Kd.aoY (ok':=fun k_=>True) aD (fun _ bZ=>trivial)) (aoS bl) (fun k_ h_=>h_)) (Kd.bT (aR bz.z))) (aoS bl));replace bz:=k0 (Kd.ao9 (aR bz.z) (Kd.aU aD) hb);replace HB:=k0 (aH bl hb);obtain ⟨U1,Yy,ZE⟩:=Kd.dM jW.z;subst ZE)|((with_reducible refine bg (f:=169) rfl ?_);refine gC (some 93) Try.func169 #[.slice U1 t119.length Yy,.slice A1 l1.length c1] ?_;(with_reducible refine (eW.calls qj _ _ t119 _ _ l1 t122 true _ ?aoN ?aoP ?bA ?bH sM.z).mono ?_);(case aoN=>exact aC ((Kd.cx jW.z).2.2));(case aoP=>exact (Kd.cx jW.z).2.1);(case bA=>exact aC ((Kd.dm gH.z).2.2));(case bH=>exact (Kd.dm gH.z).2.1);rintro e Uh ⟨v124,rfl,aD,hb⟩;refine ⟨_,rfl,?_⟩;replace eX:=k0 (Kd.dV (aV eX.z) (Kd.aU aD) hb);replace gH:=k0 (Kd.dV (aV gH.z) (Kd.aU aD) hb);have ei:=k0 (Kd.cU (Kd.cT (Kd.cT (Kd.rj (M:=fun k_=>(w.heap.size≤k_)) aD (aoS bl) (fun k_ h_=>h_)) (Kd.bT (aR bz.z))) (Kd.bT (aR jW.z))) (aoS bl));replace bz:=k0 (Kd.ao9 (aR bz.z) (Kd.aU aD) hb);replace jW:=k0 (Kd.ao9 (aR jW.z) (Kd.aU aD) hb);replace HB:=k0 (aH bl hb);obtain ⟨aqU,Gp,aq9⟩:=Kd.dM ei.z;subst aq9)|((with_reducible refine bg (f:=95) rfl ?_);refine gC (some 102) Try.func95 #[.slice aqU t122.length Gp,.slice A0 l0.length c0] ?_;(with_reducible refine (nH.calls qj _ _ t122 _ _ l0 false _ ?aoN ?aoP ?bA ?bH FH.z).mono ?_);(case aoN=>exact aC ((Kd.cx ei.z).2.2));(case aoP=>exact (Kd.cx ei.z).2.1);(case bA=>exact aC ((Kd.dm eX.z).2.2));(case bH=>exact (Kd.dm eX.z).2.1);rintro e w' ⟨rfl,⟨nd,rfl⟩⟩;refine ⟨_,rfl,?_⟩))
         go_ret2
         exact ⟨_,by first|rfl|(simp [je,jf]<;>rfl)|(simp only [← qQ];first|rfl|(simp [je,jf]<;>rfl))|(simp [*,je,jf]<;>rfl),by first|exact Kd.kO _ _ _ _ _|exact Kd.lG _ _ _ _ _|exact Kd.apy _ _ _ _ _|exact Kd.lH _ _ _ _ _|exact Kd.lf _ _ _ _ _,bl⟩
        subst c64
        have H1:(some (t119,0))=some (r1,r2):=by rw [if_pos rfl] at H;exact H
        clear H
        have H:=H1
        clear H1
        simp only [Option.some.injEq,Prod.mk.injEq] at H
        obtain ⟨rfl,rfl⟩:=H
        obtain ⟨N3,P0,ZA⟩:=Kd.dM bz.z
        subst ZA
        go_wp2_with (first|((with_reducible refine bg (f:=168) rfl ?_);refine gC (some 89) Try.func168 #[.slice N3 tU.length P0] ?_;(with_reducible refine (mK.calls qj (fun k_=>some k_=(.slice N3 tU.length P0:Value).ownBlock) _ _ tU t119 _ ?aoN kX.z).mono ?_);(case aoN=>exact Kd.zG (Kd.mh rfl (bz.z)));rintro e w66 ⟨Ii,rfl,aD,hb⟩;refine ⟨_,rfl,?_⟩;replace eX:=k0 (Kd.dV (aV eX.z) (Kd.aU aD) hb);replace gH:=k0 (Kd.dV (aV gH.z) (Kd.aU aD) hb);have jW:=k0 (Kd.cU (Kd.cT (Kd.rj (M:=fun k_=>(w.heap.size≤k_)) (Kd.aoY (ok':=fun k_=>True) aD (fun _ bZ=>trivial)) (aoS bl) (fun k_ h_=>h_)) (Kd.bT (aR bz.z))) (aoS bl));replace bz:=k0 (Kd.ao9 (aR bz.z) (Kd.aU aD) hb);replace HB:=k0 (aH bl hb);obtain ⟨UZ,Yw,ZB⟩:=Kd.dM jW.z;subst ZB)|((with_reducible refine bg (f:=169) rfl ?_);refine gC (some 93) Try.func169 #[.slice UZ t119.length Yw,.slice A1 l1.length c1] ?_;(with_reducible refine (eW.calls qj _ _ t119 _ _ l1 t122 true _ ?aoN ?aoP ?bA ?bH sM.z).mono ?_);(case aoN=>exact aC ((Kd.cx jW.z).2.2));(case aoP=>exact (Kd.cx jW.z).2.1);(case bA=>exact aC ((Kd.dm gH.z).2.2));(case bH=>exact (Kd.dm gH.z).2.1);rintro e w68 ⟨v124,rfl,aD,hb⟩;refine ⟨_,rfl,?_⟩;replace eX:=k0 (Kd.dV (aV eX.z) (Kd.aU aD) hb);replace gH:=k0 (Kd.dV (aV gH.z) (Kd.aU aD) hb);have ei:=k0 (Kd.cU (Kd.cT (Kd.cT (Kd.rj (M:=fun k_=>(w.heap.size≤k_)) aD (aoS bl) (fun k_ h_=>h_)) (Kd.bT (aR bz.z))) (Kd.bT (aR jW.z))) (aoS bl));replace bz:=k0 (Kd.ao9 (aR bz.z) (Kd.aU aD) hb);replace jW:=k0 (Kd.ao9 (aR jW.z) (Kd.aU aD) hb);replace HB:=k0 (aH bl hb);obtain ⟨U0,Yx,ZC⟩:=Kd.dM ei.z;subst ZC)|((with_reducible refine bg (f:=95) rfl ?_);refine gC (some 102) Try.func95 #[.slice U0 t122.length Yx,.slice A0 l0.length c0] ?_;(with_reducible refine (nH.calls qj _ _ t122 _ _ l0 true _ ?aoN ?aoP ?bA ?bH FH.z).mono ?_);(case aoN=>exact aC ((Kd.cx ei.z).2.2));(case aoP=>exact (Kd.cx ei.z).2.1);(case bA=>exact aC ((Kd.dm eX.z).2.2));(case bH=>exact (Kd.dm eX.z).2.1);rintro e w' ⟨rfl,⟨nd,rfl⟩⟩;refine ⟨_,rfl,?_⟩))
        go_ret2
        exact ⟨_,by first|rfl|(simp [je,jf]<;>rfl)|(simp only [← qQ];first|rfl|(simp [je,jf]<;>rfl))|(simp [*,je,jf]<;>rfl),by (with_reducible repeat (first|apply Kd.dK|apply Kd.dD|apply Kd.cB));exact Kd.aoY jW.z (fun _ hk=>hk.1.1.1),bl⟩
     rw [if_pos c38] at H
     have XU:=decide_eq_true c38
     clear c38
     replace H:=Option.bind_eq_some_iff.mp H
     obtain ⟨t110,NH,H⟩:=H
     replace H:(dz.l1 k2 l0 l1 d_ kz t110 1 sy kz)=some (r1,r2):=H
     have UL:=k0 NH
     clear NH
     have H':=k0 H
     clear H
     go_wp2_with (first|((with_reducible refine bg (f:=166) rfl ?_);refine gC (some 48) Try.func166 #[.slice A0 l0.length c0,.int .i64 kz] ?_;(with_reducible refine (pX.calls _ _ l0 kz t110 _ ?aoN ?aoP UL.z).mono ?_);(case aoN=>exact aC ((Kd.dm eX.z).2.2));(case aoP=>exact (Kd.dm eX.z).2.1);rintro e w' ⟨rfl,⟨nd,rfl⟩⟩;refine ⟨_,rfl,?_⟩))
     go_loopg [8,10] k2 (fun kq v8 v10 w'=>∃ (iH:Int) (dX:Int),v8=.int .i64 iH∧v10=.int .i64 dX∧aj (dz.l1 kq l0 l1 d_ kz iH dX sy kz=some (r1,r2))∧aj (kq≤k2)∧aj (Kd.V (Kd.int .i64) 2 w' w.heap.size (fun k_=>((fK k_∨gh k_)∨w.heap.size≤k_)∧some k_ ≠ (u6:Value).ownBlock) (.slice A0 l0.length c0) l0)∧aj (Kd.V (Kd.int .i64) 2 w' w.heap.size (fun k_=>((fK k_∨gh k_)∨w.heap.size≤k_)∧some k_ ≠ (u6:Value).ownBlock) (.slice A1 l1.length c1) l1)∧aj (Kd.R (Kd.int .i64) 2 w' w.heap.size (fun k_=>(w.heap.size≤k_)) u6 d_)∧aj (Below w.heap.size w w'))
     case atStart=>exact ⟨(t110),(1),rs,rs,H',⟨Nat.le_refl _⟩,⟨aV (eX.z)⟩,⟨aV (gH.z)⟩,⟨aR (bz.z)⟩,⟨bl⟩⟩
     case round =>
      clear H'
      obtain ⟨iH,dX,rfl,rfl,HA,iK,eX,gH,bz,HB⟩:=hrel
      cases gk with
      | zero=>exact absurd HA.z (by simp [dz.l1])
      | succ k3 =>
       have H:=HA.z
       clear HA
       simp only [dz.l1] at H
       obtain ⟨tu,jL⟩:∃ j_:Int,(mn kz (wrap64 ((l1.length:Int) - 1)))=j_:=⟨_,rfl⟩
       replace H:(if dX≤(tu) then (if 0≤dX then (if dX < (l1.length:Int) then (if 0≤(wrap64 (kz - dX)) then (if (wrap64 (kz - dX)) < (d_.length:Int) then ((lC.f k3 iH (wrap64 (-(rd l1 dX))) (rd d_ (wrap64 (kz - dX)))).bind fun lV=>(if lV.2=true then (dz.l1 k3 l0 l1 d_ kz lV.1 (wrap64 (dX+1)) sy kz) else (some (([]:List Int),3)))) else (none)) else (none)) else (none)) else (none)) else (if 0 < (l1.length:Int) then (if d_.length < 17592186044416 then (dz.l0 k3 l0 l1 (d_ ++ [wrap64 (iH * (rd l1 0))]) sy (wrap64 (kz+1))) else (none)) else (none)))=some (r1,r2):=by first|(rw [jL] at H;exact H)|(simp only [jL] at H ⊢;exact H)
       have ama:(if (wrap64 ((l1.length:Int) - 1)) < kz then (wrap64 ((l1.length:Int) - 1)) else kz)=tu:=jL
       by_cases c41:dX≤(tu)
       case neg =>
        rw [if_neg c41] at H
        have Gk:decide (dX≤(tu))=false:=decide_eq_false c41
        clear c41
        replace H:=iS H;obtain ⟨c55,H⟩:=H
        have ahg:=decide_eq_true c55
        have ahh:decide (0 < l1.length)=true:=decide_eq_true (by omega)
        clear c55
        replace H:=iS H;obtain ⟨c56,H⟩:=H
        have Wi:=k0 c56
        clear c56
        obtain ⟨qv,qW⟩:∃ y_:List Int,y_=(d_ ++ [wrap64 (iH * (rd l1 0))]):=⟨_,rfl⟩
        replace H:(dz.l0 k3 l0 l1 qv sy (wrap64 (kz+1)))=some (r1,r2):=rH qW H
        have aqk:=k0 qW
        clear qW
        have H':=k0 H
        clear H
        have qZ:0≤(0:Int):=(by omega)
        have apO:0 < (l1.length:Int):=oD
        obtain ⟨By,e115,uO⟩:=Kd.cN (Kd.dm gH.z).2.2 0 qZ apO
        cases e115
        have aeM:(0 < l1.length)=True:=eq_true (by omega)
        (try rw [show ((0:Int)).toNat=0 from rfl] at uO)
        (try rw [Addr.add_zero'] at uO)
        replace qZ:=eq_true qZ
        replace apO:=eq_true apO
        go_wp2_with (first|((with_reducible refine kQ (b:=.append) (xs:=#[.tmp 76,.tmp 82]) rfl ?_);(try (refine jC (by rfl) ?_;dsimp only));at_builtin;refine Kd.p9 (Kd.int .i64) (w0:=w) w.heap.size rfl (.tmp 76) (.tmp 82) 28 2 (.int .i64 0) 8 rfl Try.underlying28 mR rfl (by decide) (by omega) u6 d_ (wrap64 (iH * (rd l1 0))) [.int .i64 (wrap64 (iH * (rd l1 0)))] (fun k_=>(w.heap.size≤k_)) (fun _=>False) rfl rfl ?aP (fun _ hk=>hk.elim) ?aF ?aO ?aB ?aS ?aL ?_;(case aP=>exact rfl);(case aB=>exact bl);(case aF=>exact (fun k_ hk=>(Nat.le_trans (aoS bl) hk)));(case aO=>exact (aR bz.z));(case aS=>exact (aoS bl));(case aL=>have:=Wi.out;omega);intro v117 Ns ho hb hg ao1;rw [← aqk.z] at ho;have aq:=k0 (Kd.DJ (ok:=(fun k_=>((fK k_∨gh k_)∨w.heap.size≤k_))) (aV eX.z) hg ao1);have au:=k0 (Kd.DJ (ok:=(fun k_=>((fK k_∨gh k_)∨w.heap.size≤k_))) (aV gH.z) hg ao1);have ax:=k0 (hb);have aA:=k0 (ho);clear eX;clear gH;clear HB;clear bz;have eX:=aq;have gH:=au;have HB:=ax;have aqv:=aA;clear aq au ax aA;clear ho hb hg ao1))
        first|go_roundg k3|(simp only [← qQ];go_roundg k3)|(simp only [← jL];go_roundg k3)|(simp only [← apU];go_roundg k3)
        case measure=>have:=tY.out;have:=cD.z;have:=iK.z;omega
        case rel=>exact ⟨(qv),(wrap64 (kz+1)),rs,(by first|exact H'|(rw [qQ];exact H')|(rw [jL];exact H')|(rw [apU];exact H')),⟨by have:=tY.out;have:=cD.z;have:=iK.z;omega⟩,⟨aV (eX.z)⟩,⟨aV (gH.z)⟩,⟨aR (aqv.z)⟩,⟨bl⟩⟩
       rw [if_pos c41] at H
       have Gk:=decide_eq_true c41
       clear c41
       replace H:=iS H;obtain ⟨c42,H⟩:=H
       have XX:=decide_eq_true c42
       clear c42
       replace H:=iS H;obtain ⟨c43,H⟩:=H
       have XY:=decide_eq_true c43
       clear c43
       obtain ⟨oT,apU⟩:∃ j_:Int,(wrap64 (kz - dX))=j_:=⟨_,rfl⟩
       replace H:(if 0≤(oT) then (if (oT) < (d_.length:Int) then ((lC.f k3 iH (wrap64 (-(rd l1 dX))) (rd d_ (oT))).bind fun lV=>(if lV.2=true then (dz.l1 k3 l0 l1 d_ kz lV.1 (wrap64 (dX+1)) sy kz) else (some (([]:List Int),3)))) else (none)) else (none))=some (r1,r2):=by first|(rw [apU] at H;exact H)|(simp only [apU] at H ⊢;exact H)
       have amc:(IntKind.i64.wrap (kz - dX))=oT:=(cm _).trans apU
       replace H:=iS H;obtain ⟨c45,H⟩:=H
       have PB:=decide_eq_true c45
       clear c45
       replace H:=iS H;obtain ⟨c46,H⟩:=H
       have ahc:=decide_eq_true c46
       clear c46
       replace H:=Option.bind_eq_some_iff.mp H
       obtain ⟨⟨t113,t114⟩,NN,H⟩:=H
       replace H:(if t114=true then (dz.l1 k3 l0 l1 d_ kz t113 (wrap64 (dX+1)) sy kz) else (some (([]:List Int),3)))=some (r1,r2):=H
       have NM:=k0 NN
       clear NN
       by_cases c48:t114=true
       case neg =>
        replace c48:=Bool.eq_false_iff.mpr c48
        subst c48
        have H1:(some (([]:List Int),3))=some (r1,r2):=by rw [if_neg (show ¬ (false=true) by decide)] at H;exact H
        clear H
        have H:=H1
        clear H1
        simp only [Option.some.injEq,Prod.mk.injEq] at H
        obtain ⟨rfl,rfl⟩:=H
        try go_wp2
        replace eX:=k0 (Kd.kE eX.z);replace gH:=k0 (Kd.kE gH.z);replace bz:=k0 (Kd.cB bz.z);replace HB:=k0 (aZ HB.z)
        have apG:0≤(dX:Int):=oD
        have ox:dX < (l1.length:Int):=oD
        obtain ⟨zL,e111,oQ⟩:=Kd.cN (Kd.dm gH.z).2.2 dX apG ox
        cases e111
        replace apG:=eq_true apG
        replace ox:=eq_true ox
        obtain ⟨age,ahI,Qs⟩:=Kd.dM bz.z
        (first|subst Qs|(injection Qs with gv apr gw;have j4:=gv.symm;have j5:=gw.symm;clear gv apr gw;subst j4;subst j5))
        have qm:0≤((oT):Int):=oD
        have qo:(oT) < (d_.length:Int):=oD
        obtain ⟨zM,e112,sx⟩:=Kd.cN (Kd.cx bz.z).2.2 (oT) qm qo
        cases e112
        replace qm:=eq_true qm
        replace qo:=eq_true qo
        refine apA (n:=18) (S:=fun w'=>w'.cell? (zL.add (dX).toNat)=some (.int .i64 (rd l1 dX))∧w'.cell? (zM.add ((oT)).toNat)=some (.int .i64 (rd d_ (oT)))) (ds:=[]) (ba 18 0) (by kernel_rfl) rfl rfl ⟨oQ,sx⟩ (fun hHeld=>?_);refine nB dz.T3 dz.Pp (fun az dA=>?_)
        generalize wr.drew=w52 at eX gH bz HB oQ sx hHeld ⊢
        refine pu 0 (some 59) (ba 18 1) az (h:=?_)
        refine pu 1 (some 60) (ba 18 3) az (h:=?_)
        refine pu 2 (some 61) (ba 18 7) az (h:=?_)
        refine pu 3 (some 62) (ba 18 15) az (h:=?_)
        refine pu 6 (some 65) (ba 18 79) az (h:=?_)
        refine pu 7 (some 66) (ba 18 207) az (h:=?_)
        refine pu 8 (some 67) (ba 18 463) az (h:=?_)
        refine pu 9 (some 68) (ba 18 975) az (h:=?_)
        refine pu 10 (some 69) (ba 18 1999) az (h:=?_)
        refine ta 4 (some 63) (ba 18 2015) az dA hHeld (hy:=Or.inl ⟨by rfl,by rintro w' ⟨s0,s1⟩;go_simp;with_reducible rfl⟩) (h:=?_)
        refine pu 5 (some 64) (ba 18 2047) az (h:=?_)
        refine ta 11 (some 70) (ba 18 4095) az dA hHeld (hy:=Or.inl ⟨by rfl,by rintro w' ⟨s0,s1⟩;go_simp;with_reducible rfl⟩) (h:=?_)
        refine ja (i:=12) (N:=some 71) (ba 18 8191) rfl rfl (hO az.out (by kernel_rfl)) (by decide) (fun K hK=>?_)
        refine mP Try.func167 (by kernel_rfl) rfl #[.int .i64 iH,.int .i64 (wrap64 (-(rd l1 dX))),.int .i64 (rd d_ (oT))] (by rfl) rfl rfl (by (try simp only [List.map_toArray,List.map_cons,List.map_nil]);first|done|(simp only [apU];rfl)|rfl|(simp only [List.length_drop,List.length_take];rfl)) ?_
        with_reducible refine (lC.calls k3 iH (wrap64 (-(rd l1 dX))) (rd d_ (oT)) t113 false _ NM.z).mono ?_
        rintro e w54 ⟨rfl,hb⟩
        have Jl:=(hb.cell (World.block_lt_of_cell? _ _ (hHeld.1))).trans (hHeld.1)
        have Jn:=(hb.cell (World.block_lt_of_cell? _ _ (hHeld.2))).trans (hHeld.2)
        refine ⟨_,rfl,?_⟩
        replace eX:=k0 (Kd.gI (aV eX.z) hb);replace gH:=k0 (Kd.gI (aV gH.z) hb);replace bz:=k0 (Kd.apn (aR bz.z) hb);replace HB:=k0 (aH bl hb)
        refine hK.out _ _ ⟨Jl,Jn⟩ (fun hHeld=>?_)
        clear hK K
        refine jh (a':=?_) ?_ ?_
        rotate_left;· show Act.put _ (some 71) _=_;simp only [Act.put,zI,zZ,zS,cm,cO];rfl
        refine pu 13 (some 58) (ba 18 16383) az (h:=?_)
        refine pu 14 (some 72) (ba 18 32767) az (h:=?_)
        refine pu 15 (some 73) (ba 18 65535) az (h:=?_)
        refine pu 16 (some 8) (ba 18 131071) az (h:=?_)
        refine pu 17 (some 9) (ba 18 262143) az (h:=?_)
        refine lY (nj az.out (by kernel_rfl)) ?_
        try go_wp2
        go_ret2
        exact ⟨_,by first|rfl|(simp [je,jf]<;>rfl)|(simp only [← qQ,← jL,← apU];first|rfl|(simp [je,jf]<;>rfl))|(simp [*,je,jf]<;>rfl),by first|exact Kd.kO _ _ _ _ _|exact Kd.lG _ _ _ _ _|exact Kd.apy _ _ _ _ _|exact Kd.lH _ _ _ _ _|exact Kd.lf _ _ _ _ _,bl⟩
       subst c48
       have H1:(dz.l1 k3 l0 l1 d_ kz t113 (wrap64 (dX+1)) sy kz)=some (r1,r2):=by rw [if_pos rfl] at H;exact H
       clear H
       have H:=H1
       clear H1
       have H':=k0 H
       clear H
       try go_wp2
       replace eX:=k0 (Kd.kE eX.z);replace gH:=k0 (Kd.kE gH.z);replace bz:=k0 (Kd.cB bz.z);replace HB:=k0 (aZ HB.z)
       have apG:0≤(dX:Int):=oD
       have ox:dX < (l1.length:Int):=oD
       obtain ⟨zL,e111,oQ⟩:=Kd.cN (Kd.dm gH.z).2.2 dX apG ox
       cases e111
       replace apG:=eq_true apG
       replace ox:=eq_true ox
       obtain ⟨agd,ahH,Qr⟩:=Kd.dM bz.z
       (first|subst Qr|(injection Qr with gv apr gw;have j4:=gv.symm;have j5:=gw.symm;clear gv apr gw;subst j4;subst j5))
       have qm:0≤((oT):Int):=oD
       have qo:(oT) < (d_.length:Int):=oD
       obtain ⟨zM,e112,sx⟩:=Kd.cN (Kd.cx bz.z).2.2 (oT) qm qo
       cases e112
       replace qm:=eq_true qm
       replace qo:=eq_true qo
       refine apA (n:=18) (S:=fun w'=>w'.cell? (zL.add (dX).toNat)=some (.int .i64 (rd l1 dX))∧w'.cell? (zM.add ((oT)).toNat)=some (.int .i64 (rd d_ (oT)))) (ds:=[]) (ba 18 0) (by kernel_rfl) rfl rfl ⟨oQ,sx⟩ (fun hHeld=>?_);refine nB dz.T3 dz.Pp (fun az dA=>?_)
       generalize wr.drew=w49 at eX gH bz HB oQ sx hHeld ⊢
       refine pu 0 (some 59) (ba 18 1) az (h:=?_)
       refine pu 1 (some 60) (ba 18 3) az (h:=?_)
       refine pu 2 (some 61) (ba 18 7) az (h:=?_)
       refine pu 3 (some 62) (ba 18 15) az (h:=?_)
       refine pu 6 (some 65) (ba 18 79) az (h:=?_)
       refine pu 7 (some 66) (ba 18 207) az (h:=?_)
       refine pu 8 (some 67) (ba 18 463) az (h:=?_)
       refine pu 9 (some 68) (ba 18 975) az (h:=?_)
       refine pu 10 (some 69) (ba 18 1999) az (h:=?_)
       refine ta 4 (some 63) (ba 18 2015) az dA hHeld (hy:=Or.inl ⟨by rfl,by rintro w' ⟨s0,s1⟩;go_simp;with_reducible rfl⟩) (h:=?_)
       refine pu 5 (some 64) (ba 18 2047) az (h:=?_)
       refine ta 11 (some 70) (ba 18 4095) az dA hHeld (hy:=Or.inl ⟨by rfl,by rintro w' ⟨s0,s1⟩;go_simp;with_reducible rfl⟩) (h:=?_)
       refine ja (i:=12) (N:=some 71) (ba 18 8191) rfl rfl (hO az.out (by kernel_rfl)) (by decide) (fun K hK=>?_)
       refine mP Try.func167 (by kernel_rfl) rfl #[.int .i64 iH,.int .i64 (wrap64 (-(rd l1 dX))),.int .i64 (rd d_ (oT))] (by rfl) rfl rfl (by (try simp only [List.map_toArray,List.map_cons,List.map_nil]);first|done|(simp only [apU];rfl)|rfl|(simp only [List.length_drop,List.length_take];rfl)) ?_
       with_reducible refine (lC.calls k3 iH (wrap64 (-(rd l1 dX))) (rd d_ (oT)) t113 true _ NM.z).mono ?_
       rintro e w51 ⟨rfl,hb⟩
       have Jl:=(hb.cell (World.block_lt_of_cell? _ _ (hHeld.1))).trans (hHeld.1)
       have Jn:=(hb.cell (World.block_lt_of_cell? _ _ (hHeld.2))).trans (hHeld.2)
       refine ⟨_,rfl,?_⟩
       replace eX:=k0 (Kd.gI (aV eX.z) hb);replace gH:=k0 (Kd.gI (aV gH.z) hb);replace bz:=k0 (Kd.apn (aR bz.z) hb);replace HB:=k0 (aH bl hb)
       refine hK.out _ _ ⟨Jl,Jn⟩ (fun hHeld=>?_)
       clear hK K
       refine jh (a':=?_) ?_ ?_
       rotate_left;· show Act.put _ (some 71) _=_;simp only [Act.put,zI,zZ,zS,cm,cO];rfl
       refine pu 13 (some 58) (ba 18 16383) az (h:=?_)
       refine pu 14 (some 72) (ba 18 32767) az (h:=?_)
       refine pu 15 (some 73) (ba 18 65535) az (h:=?_)
       refine pu 16 (some 8) (ba 18 131071) az (h:=?_)
       refine pu 17 (some 9) (ba 18 262143) az (h:=?_)
       refine lY (nj az.out (by kernel_rfl)) ?_
       try go_wp2
       first|go_roundg k3|(simp only [← qQ];go_roundg k3)|(simp only [← jL];go_roundg k3)|(simp only [← apU];go_roundg k3)
       case measure=>have:=tY.out;have:=cD.z;have:=iK.z;omega
       case rel=>exact ⟨(t113),(wrap64 (dX+1)),rs,rs,(by first|exact H'|(rw [qQ];exact H')|(rw [jL];exact H')|(rw [apU];exact H')),⟨by have:=tY.out;have:=cD.z;have:=iK.z;omega⟩,⟨aV (eX.z)⟩,⟨aV (gH.z)⟩,⟨aR (bz.z)⟩,⟨bl⟩⟩
end Go.Proofs.Ytoebojnhchocaaa.E
/- Set with little white space, by a program. -/
