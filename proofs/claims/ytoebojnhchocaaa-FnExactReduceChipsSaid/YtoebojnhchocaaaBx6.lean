/- The functions that one law reaches, each as a Lean function, and that Go's call comes to what it says. Condition of each: that the Lean function answers (is not none). -/
import Derived.Test.YtoebojnhchocaaaBx0
import Derived.Test.YtoebojnhchocaaaBx4
namespace Go.Proofs.Ytoebojnhchocaaa.B
open Go.RowKit Go.Proofs.bC.eg Go.Proofs.bC.iZ Go.Proofs.bC.jr
attribute [local go_sem] max2_int min2_int max_two min_two max_three min_three max_four min_four   -- for this text's walks alone
set_option linter.unusedVariables false
set_option linter.unusedSimpArgs false
/-! ### F175: function 175 -/
mutual
def cY.l0 : Nat → List (List Int) → List Bool → Int → List Int → Int → Option (List Int)
 | 0,_,_,_,_,_=>none
 | k+1,x0,x2,x3,x9,alB=>if alB < (x0.length:Int) then (cY.l1 k x0 x2 x3 x9 alB 0) else (some x9)
def cY.l1 : Nat → List (List Int) → List Bool → Int → List Int → Int → Int → Option (List Int)
 | 0,_,_,_,_,_,_=>none
 | k+1,x0,x2,x3,x9,alB,fF=>if fF < (x0.length:Int) then (if 0≤alB then (if alB < (8:Int) then (if nS false x2 alB=true then (if 0≤fF then (if fF < (x9.length:Int) then (if alB < (x0.length:Int) then (if fF < ((ag x0 alB).length:Int) then (cY.l1 k x0 x2 x3 (x9.set (fF:Int).toNat (wrap64 ((rd x9 fF) - (wrap64 (x3 * (rd (ag x0 alB) fF)))))) alB (wrap64 (fF+1))) else (none)) else (none)) else (none)) else (none)) else (cY.l0 k x0 x2 x3 x9 (wrap64 (alB+1)))) else (none)) else (none)) else (cY.l0 k x0 x2 x3 x9 (wrap64 (alB+1)))
end
def cY.fA (k:Nat) (l0:List (List Int)) (l1:List Int) (l2:List Bool) (a3:Int):Option (List Int):=(vA.f l1).bind fun t101=>(cY.l0 k l0 l2 a3 t101 0)
theorem cY.cj : ∀ k, (∀ y0 y1 y2 y3 y4, aj (cY.l0 k y0 y1 y2 y3 y4) (cY.l0 (k + 1) y0 y1 y2 y3 y4)) ∧ (∀ y0 y1 y2 y3 y4 y5, aj (cY.l1 k y0 y1 y2 y3 y4 y5) (cY.l1 (k + 1) y0 y1 y2 y3 y4 y5))
 | 0=>⟨fun _ _ _ _ _ r h=>by simp [cY.l0] at h,fun _ _ _ _ _ _ r h=>by simp [cY.l1] at h⟩
 | k+1=>by
  obtain ⟨ali,ih1⟩:=cY.cj k
  refine ⟨?_, ?_⟩ <;> intros <;> (first | unfold cY.l0 | unfold cY.l1) <;> repeat' first
   | (with_reducible first|exact ali _ _ _ _ _|exact ih1 _ _ _ _ _ _|exact aj.refl _|exact aj.none _|refine aj.ite ?_ ?_|refine aj.bind ?_ (fun _=>?_))
   | exact ali _ _ _ _ _|exact ih1 _ _ _ _ _ _|exact aj.none _|refine aj.ite ?_ ?_|refine aj.bind ?_ (fun _=>?_)
theorem cY.Bs:∀ a0 a1 a2 a3 k,aj (cY.fA k a0 a1 a2 a3) (cY.fA (k+1) a0 a1 a2 a3):=by
 intro a0 a1 a2 a3 k
 obtain ⟨ali,ih1⟩:=cY.cj k
 unfold cY.fA
 repeat' first
  | (with_reducible first|exact ali _ _ _ _ _|exact ih1 _ _ _ _ _ _|exact aj.refl _|exact aj.none _|refine aj.ite ?_ ?_|refine aj.bind ?_ (fun _=>?_))
  | exact ali _ _ _ _ _|exact ih1 _ _ _ _ _ _|exact aj.none _|refine aj.ite ?_ ?_|refine aj.bind ?_ (fun _=>?_)
def cY.T8:Bool × List (List Nat × List Nat):=(true,[([],[]),([],[]),([],[]),([],[]),([2,3],[2,3]),([4],[4]),([],[]),([],[]),([],[]),([7,8],[7,8]),([9],[9]),([],[]),([10,11],[10,11]),([12],[12]),([6,13],[6,13]),([5,14],[5,14]),([0,1,0,1,2,3,4,5,6,7,8,9,10,11,12,13,14,15],[0,1]),([16,15,0,1,2,3,4,5,6,7,8,9,10,11,12,13,14,15],[15,16])])
def cY.B8:List Nat:=[0,0,0,0,12,28,0,0,0,384,896,0,3968,8064,16320,32764,65535,131071]
theorem cY.Ee:gY .any (opsOf Try.f175 8)=cY.T8:=by kernel_rfl
theorem cY.Ce:nV cY.T8.2 cY.B8=true:=by kernel_rfl
set_option maxHeartbeats 8000000 in
set_option maxRecDepth 100000 in
theorem cY.yT (k : Nat) (A0 : Option Addr) (c0 : Nat) (l0 : List (List Int)) (A1 : Option Addr) (c1 : Nat) (l1 : List Int) (l2 : List Bool) (a3 : Int) (r : List Int) (W0 : World) (cI : Kd.C (Kd.slice 2 (Kd.int .i64)) W0 A0 l0.length l0) (hc0 : l0.length ≤ c0) (cE : Kd.C (Kd.int .i64) W0 A1 l1.length l1) (dW : l1.length ≤ c1) (F0 : l2.length = 8) (h : cY.fA k l0 l1 l2 a3 = some r) :
  Calls Try.prog 175 #[.slice A0 l0.length c0,.slice A1 l1.length c1,.agg (l2.map Value.bool).toArray,.int .i64 a3] W0 fun e w'=>∃ cF:Value,e=.returned (cF)∧Kd.R (Kd.int .i64) 2 w' W0.heap.size (fun _=>True) cF r∧Below W0.heap.size W0 w':=by
 have eA:=k0 cI
 have kP:=k0 hc0
 clear cI hc0
 have eP:=k0 cE
 have nk:=k0 dW
 clear cE dW
 have H:((vA.f l1).bind fun t101=>(cY.l0 k l0 l2 a3 t101 0))=some r:=h
 clear h
 replace H:=Option.bind_eq_some_iff.mp H
 obtain ⟨t101,wY,H⟩:=H
 replace H:(cY.l0 k l0 l2 a3 t101 0)=some r:=H
 have A5:=k0 wY
 clear wY
 have H':=k0 H
 clear H
 go_enter Try.func175,Try.ntmps175
 go_wp2_with (first|((with_reducible refine cy (N:=6) rfl ?_);refine ec ?hg (N:=6) ?hd (cs:=(l2.map Value.bool).toArray) (t:=133) ?hr ?_;(case hd=>rfl);(case hg=>rfl);(case hr=>first|(go_simp;done)|(go_simp;rfl));intro gb hg w aJ hb;have HW:=k0 hb;have MO:=k0 aJ;clear hb aJ hg;replace eA:=k0 (Kd.bI eA.out HW.out);replace eP:=k0 (Kd.bI eP.out HW.out);have HB:=k0 (Below.refl w.heap.size w))|((with_reducible refine fo (f:=173) rfl ?_);refine fq (some 13) rfl rfl Try.func173 (by kernel_rfl) rfl #[.slice A1 l1.length c1] rfl gm ?_;(with_reducible refine (vA.calls _ _ l1 t101 _ ?bt ?bu A5.out).mono ?_);(case bt=>exact aC eP.out);(case bu=>exact nk.out);rintro e w6 ⟨lT,rfl,aY,hb⟩;refine ⟨_,rfl,?_⟩;have kQ:=k0 (Kd.d_ aY (aU bl));replace HB:=k0 (aG bl hb);(try clear hb);(try clear aY)))
 go_loopg [10] k (fun kq v10 w'=>∃ (G9:List Int) (eF:Int),v10=.int .i64 eF∧ak (cY.l0 kq l0 l2 a3 G9 eF=some r)∧ak (kq≤k)∧ak (Kd.R (Kd.int .i64) 2 w' w.heap.size (fun _=>True) lT G9)∧ak (Below w.heap.size w w'))
 case atStart=>exact ⟨(t101),(0),rs,H',⟨Nat.le_refl _⟩,⟨aR (kQ.out)⟩,⟨bl⟩⟩
 case round =>
  clear H'
  obtain ⟨G9,eF,rfl,HA,aM,ame,HB⟩:=hrel
  cases gk with
  | zero=>exact absurd HA.out (by simp [cY.l0])
  | succ k1 =>
   have H:=HA.out
   clear HA
   simp only [cY.l0] at H
   by_cases c7:eF < (l0.length:Int)
   case neg =>
    rw [if_neg c7] at H
    have iz:decide (eF < (l0.length:Int))=false:=decide_eq_false c7
    clear c7
    obtain rfl:=Option.some.inj H
    go_wp2
    go_ret
    exact ⟨_,by first|rfl|(simp [bA,bB]<;>rfl)|(simp [*,bA,bB]<;>rfl),by (with_reducible repeat (first|apply Kd.bO|apply Kd.bR|apply Kd.alp));exact Kd.d_ ame.out (aU HW.out),aG HW.out bl⟩
   rw [if_pos c7] at H
   have iz:=decide_eq_true c7
   clear c7
   have H':=k0 H
   clear H
   go_wp2
   go_loopg [11] k1 (fun kq v11 w'=>∃ (ng:List Int) (fM:Int),v11=.int .i64 fM∧ak (cY.l1 kq l0 l2 a3 ng eF fM=some r)∧ak (kq≤k1)∧ak (Kd.R (Kd.int .i64) 2 w' w.heap.size (fun _=>True) lT ng)∧ak (Below w.heap.size w w'))
   case atStart=>exact ⟨(G9),(0),rs,H',⟨Nat.le_refl _⟩,⟨aR (ame.out)⟩,⟨bl⟩⟩
   case round =>
    clear H'
    (try clear c7);(try clear iz)
    obtain ⟨ng,fM,rfl,HA,bp,ame,HB⟩:=hrel
    cases gk with
    | zero=>exact absurd HA.out (by simp [cY.l1])
    | succ k2 =>
     have H:=HA.out
     clear HA
     simp only [cY.l1] at H
     by_cases c8:fM < (l0.length:Int)
     case neg =>
      rw [if_neg c8] at H
      have jw:decide (fM < (l0.length:Int))=false:=decide_eq_false c8
      clear c8
      have H':=k0 H
      clear H
      go_wp2
      go_roundg k2
      case measure=>have:=aM.out;have:=bp.out;omega
      case rel=>exact ⟨(ng),(wrap64 (eF+1)),rs,H',⟨by have:=aM.out;have:=bp.out;omega⟩,⟨aR (ame.out)⟩,⟨bl⟩⟩
     rw [if_pos c8] at H
     have jw:=decide_eq_true c8
     clear c8
     replace H:=iS H;obtain ⟨c9,H⟩:=H
     have mg:=decide_eq_true c9
     clear c9
     replace H:=iS H;obtain ⟨c10,H⟩:=H
     have lA:=decide_eq_true c10
     clear c10
     obtain ⟨On,J9⟩:∃ b_:Bool,b_=(nS false l2 eF):=⟨_,rfl⟩
     replace H:(if On=true then (if 0≤fM then (if fM < (ng.length:Int) then (if eF < (l0.length:Int) then (if fM < ((ag l0 eF).length:Int) then (cY.l1 k2 l0 l2 a3 (ng.set (fM:Int).toNat (wrap64 ((rd ng fM) - (wrap64 (a3 * (rd (ag l0 eF) fM)))))) eF (wrap64 (fM+1))) else (none)) else (none)) else (none)) else (none)) else (cY.l0 k2 l0 l2 a3 ng (wrap64 (eF+1))))=some r:=by rw [← J9] at H;exact H
     have NX:=k0 J9
     clear J9
     by_cases c12:On=true
     case neg =>
      replace c12:=Bool.eq_false_iff.mpr c12
      subst c12
      have H1:(cY.l0 k2 l0 l2 a3 ng (wrap64 (eF+1)))=some r:=by rw [if_neg (show ¬ (false=true) by decide)] at H;exact H
      clear H
      have H:=H1
      clear H1
      have H':=k0 H
      clear H
      have cV:0≤(eF:Int):=oD
      have cW:eF < (8:Int):=oD
      have cN:=Og MO.out eF cV (by rw [F0];exact cW)
      (try rw [← NX.out] at cN)
      replace cN:=hbc HB cN
      replace cV:=eq_true cV
      replace cW:=eq_true cW
      go_wp2
      go_roundg k2
      case measure=>have:=aM.out;have:=bp.out;omega
      case rel=>exact ⟨(ng),(wrap64 (eF+1)),rs,H',⟨by have:=aM.out;have:=bp.out;omega⟩,⟨aR (ame.out)⟩,⟨bl⟩⟩
     subst c12
     have H1:(if 0≤fM then (if fM < (ng.length:Int) then (if eF < (l0.length:Int) then (if fM < ((ag l0 eF).length:Int) then (cY.l1 k2 l0 l2 a3 (ng.set (fM:Int).toNat (wrap64 ((rd ng fM) - (wrap64 (a3 * (rd (ag l0 eF) fM)))))) eF (wrap64 (fM+1))) else (none)) else (none)) else (none)) else (none))=some r:=by rw [if_pos rfl] at H;exact H
     clear H
     have H:=H1
     clear H1
     replace H:=iS H;obtain ⟨c13,H⟩:=H
     have kU:=decide_eq_true c13
     clear c13
     replace H:=iS H;obtain ⟨c14,H⟩:=H
     have kC:=decide_eq_true c14
     clear c14
     replace H:=iS H;obtain ⟨c15,H⟩:=H
     have kV:=decide_eq_true c15
     clear c15
     replace H:=iS H;obtain ⟨c16,H⟩:=H
     have rm:=decide_eq_true c16
     clear c16
     obtain ⟨mG,ij⟩:∃ y_:List Int,y_=(ng.set (fM:Int).toNat (wrap64 ((rd ng fM) - (wrap64 (a3 * (rd (ag l0 eF) fM)))))):=⟨_,rfl⟩
     replace H:(cY.l1 k2 l0 l2 a3 mG eF (wrap64 (fM+1)))=some r:=by first|(rw [ij];with_reducible exact H)|(have ax:=(Option.bind_some _ _).symm.trans H;rw [ij];with_reducible exact ax)|(have ax:=(Option.bind_some _ _).symm.trans H;with_reducible exact ax)|with_reducible exact H|(rw [ij];exact H)|exact H
     have amn:=k0 ij
     clear ij
     have H':=k0 H
     clear H
     have cV:0≤(eF:Int):=oD
     have cW:eF < (8:Int):=oD
     have cN:=Og MO.out eF cV (by rw [F0];exact cW)
     (try rw [← NX.out] at cN)
     replace cN:=hbc HB cN
     replace cV:=eq_true cV
     replace cW:=eq_true cW
     try go_wp2
     replace ame:=k0 (Kd.alp ame.out);replace HB:=k0 (bH HB.out)
     obtain ⟨amK,ru,xE⟩:=Kd.fh ame.out
     (first|subst xE|(injection xE with ox amt nI;have amu:=ox.symm;have amv:=nI.symm;clear ox amt nI;subst amu;subst amv))
     have dg:0≤(fM:Int):=oD
     have cX:fM < (ng.length:Int):=oD
     obtain ⟨kz,e105,dX⟩:=Kd.bS (Kd.bn ame.out).2.2 fM dg cX
     cases e105
     replace dg:=eq_true dg
     replace cX:=eq_true cX
     have dK:0≤(eF:Int):=oD
     have dH:eF < (l0.length:Int):=oD
     obtain ⟨alH,Hf,Cj,e106,dD,tP,tJ⟩:=cZ eA.out eF dK dH
     have tZ:=dD
     cases e106
     replace dD:=hbc HB dD
     have pg:=k0 tJ
     have anK:=k0 tP
     clear tJ tP
     replace dK:=eq_true dK
     replace dH:=eq_true dH
     have gv:0≤(fM:Int):=oD
     have gx:fM < ((ag l0 eF).length:Int):=oD
     obtain ⟨pV,e107,fX⟩:=Kd.bS pg.out fM gv gx
     have t_:=fX
     cases e107
     replace fX:=hbc HB fX
     replace gv:=eq_true gv
     replace gx:=eq_true gx
     have Ly:0≤(fM:Int):=oD
     have LQ:(fM:Int) < ((ng.length:Int):Int):=oD
     obtain ⟨Z6,ahj,O4,Pw,ZU,ag_,Nh⟩:=Kd.kT ame.out (by omega)
     (first|cases O4|(injection O4 with aW aly c_;(first|subst aW|(injection aW with aW;subst aW));subst c_;clear aly))
     have UN:=k0 Pw
     have UY:=k0 Nh
     clear Pw ZU Nh
     (first|simp only [add_plain] at dX|skip)
     obtain ⟨ab6,abc⟩:=Kd.js 0 ame.out (fM:Int) Ly LQ
     replace Ly:=eq_true Ly
     replace LQ:=eq_true LQ
     have H6:=Kd.Az ame.out (fM:Int) (wrap64 ((rd ng fM) - (wrap64 (a3 * (rd (ag l0 eF) fM)))))
     rw [← amn.out] at H6
     have NF:=k0 H6
     clear H6
     refine nT (n:=18) (S:=fun w'=>w'.cell? ⟨Z6,(fM).toNat,none⟩=some (.int .i64 (rd ng fM))∧w'.cell? (alH.add (eF).toNat)=some (.slice (some pV) (ag l0 eF).length Cj)∧w'.cell? (pV.add (fM).toNat)=some (.int .i64 (rd (ag l0 eF) fM))) (ds:=[17]) (ba 18 0) (by kernel_rfl) rfl rfl ⟨dX,(hbc HB tZ),(hbc HB t_)⟩ (fun hHeld=>?_);refine rQ cY.Ee cY.Ce (fun alc dG=>?_)
     generalize wr.drew=oO at ame HB UY NF pg abc dX dD fX ab6 hHeld ⊢
     refine pu 0 (some 31) (ba 18 1) alc (h:=?_)
     refine pu 1 (some 32) (ba 18 3) alc (h:=?_)
     refine pu 2 (some 33) (ba 18 7) alc (h:=?_)
     refine pu 3 (some 34) (ba 18 15) alc (h:=?_)
     refine pu 4 (some 35) (ba 18 31) alc (h:=?_)
     refine pu 6 (some 37) (ba 18 95) alc (h:=?_)
     refine pu 7 (some 38) (ba 18 223) alc (h:=?_)
     refine pu 8 (some 39) (ba 18 479) alc (h:=?_)
     refine pu 9 (some 40) (ba 18 991) alc (h:=?_)
     refine pu 11 (some 42) (ba 18 3039) alc (h:=?_)
     refine ta 5 (some 36) (ba 18 3071) alc dG hHeld (hy:=Or.inl ⟨by rfl,by rintro w' ⟨s0,s1,s2⟩;go_simp;with_reducible rfl⟩) (h:=?_)
     refine ta 10 (some 41) (ba 18 4095) alc dG hHeld (hy:=Or.inl ⟨by rfl,by rintro w' ⟨s0,s1,s2⟩;go_simp;with_reducible rfl⟩) (h:=?_)
     refine pu 12 (some 43) (ba 18 8191) alc (h:=?_)
     refine ta 13 (some 44) (ba 18 16383) alc dG hHeld (hy:=Or.inl ⟨by rfl,by rintro w' ⟨s0,s1,s2⟩;go_simp;with_reducible rfl⟩) (h:=?_)
     refine pu 14 (some 45) (ba 18 32767) alc (h:=?_)
     refine pu 15 (some 46) (ba 18 65535) alc (h:=?_)
     refine pu 16 (some 47) (ba 18 131071) alc (h:=?_)
     refine sF (i:=17) (N:=none) (ba 18 262143) rfl rfl (lG alc.out (by kernel_rfl)) (by decide) (fun K hK=>?_)
     refine qa (w1:=?_) (by rfl) rfl ?_ ?_
     rotate_left;· go_simp;rfl
     refine hK.out _ _ ?_
     clear hK K
     refine nH (rz alc.out (by kernel_rfl)) ?_
     try go_wp2
     go_roundg k2
     case measure=>have:=aM.out;have:=bp.out;omega
     case rel=>exact ⟨(mG),(wrap64 (fM+1)),rs,H',⟨by have:=aM.out;have:=bp.out;omega⟩,⟨aR (NF.out)⟩,⟨by repeat (first|(with_reducible first|exact HB.out|apply bL|apply bX|apply bH|refine dI ?_ UN.out)|exact HB.out)⟩⟩
def cY.f (k:Nat) (l0:List (List Int)) (l1:List Int) (a2 a3:Int):Option (List Int):=cY.fA k l0 l1 ((List.replicate 8 false).set a2.toNat true) a3
theorem cY.mono:∀ a0 a1 a2 a3 k,aj (cY.f k a0 a1 a2 a3) (cY.f (k+1) a0 a1 a2 a3):=fun a0 a1 _ a3 k=>cY.Bs a0 a1 _ a3 k
set_option maxHeartbeats 8000000 in
set_option maxRecDepth 100000 in
theorem cY.calls (k : Nat) (A0 : Option Addr) (c0 : Nat) (l0 : List (List Int)) (A1 : Option Addr) (c1 : Nat) (l1 : List Int) (a2 : Int) (a3 : Int) (r : List Int) (w : World) (cI : Kd.C (Kd.slice 2 (Kd.int .i64)) w A0 l0.length l0) (hc0 : l0.length ≤ c0) (cE : Kd.C (Kd.int .i64) w A1 l1.length l1) (dW : l1.length ≤ c1) (h : cY.f k l0 l1 a2 a3 = some r) :
  Calls Try.prog 175 #[.slice A0 l0.length c0,.slice A1 l1.length c1,.agg (((List.replicate 8 false).set a2.toNat true).map Value.bool).toArray,.int .i64 a3] w fun e w'=>∃ cF:Value,e=.returned (cF)∧Kd.R (Kd.int .i64) 2 w' w.heap.size (fun _=>True) cF r∧Below w.heap.size w w':=by
 exact cY.yT k A0 c0 l0 A1 c1 l1 _ a3 r w cI hc0 cE dW (by simp) h
end Go.Proofs.Ytoebojnhchocaaa.B
/- Set with little white space, by a program. -/
