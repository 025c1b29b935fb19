/- The functions that one law reaches, each as a Lean function, and that Go's call comes to what it says. Condition of each: that the Lean function answers (is not none). -/
import Derived.Test.YtoebojnhchocaaaGx0
import Derived.Test.YtoebojnhchocaaaGx1
import Derived.Test.YtoebojnhchocaaaGx4
import Derived.Test.YtoebojnhchocaaaGx6
import Derived.Test.YtoebojnhchocaaaGx8
import Derived.Test.YtoebojnhchocaaaGx9
import Derived.Test.YtoebojnhchocaaaGx10
namespace Go.Proofs.Ytoebojnhchocaaa.G
open Go.RowKit Go.Proofs.cx.fq Go.Proofs.cx.jX Go.Proofs.cx.lu
attribute [local go_sem] max2_int min2_int max_two min_two max_three min_three max_four min_four   -- for this text's walks alone
set_option linter.unusedVariables false
set_option linter.unusedSimpArgs false
set_option maxHeartbeats 8000000
set_option maxRecDepth 100000
/-! ### F43: function 43 -/
def eU.l0 : Nat → List (List Int) → List (List Int) → List Int → Int → Option (List Int × Int)
 | 0,_,_,_,_=>none
 | k+1,x4,x5,x6,x7=>if x7 < (x4.length:Int) then (if 0≤x7 then ((dx.f k x5 (ai x4 x7)).bind fun t114=>((iP.f k t114 x6).bind fun t117=>(if t117=true then (eU.l0 k x4 x5 t114 (wrap64 (x7+1))) else (eU.l0 k x4 x5 x6 (wrap64 (x7+1)))))) else (none)) else (some (x6,0))
def eU.f (k:Nat) (au:Int) (ah:List (List Int)):Option (List Int × Int):=(cY.f k au ah).bind fun t102=>(if t102=true then (if au > 6 then (some (([]:List Int),3)) else ((dr.f k au).bind fun t103=>((dO.f k au ah).bind fun t106=>(if 0 < (t103.length:Int) then ((dx.f k t106 (ai t103 0)).bind fun t110=>(eU.l0 k t103 t106 t110 1)) else (none))))) else (some (([]:List Int),1)))
theorem eU.cC : ∀ k, (∀ y0 y1 y2 y3, ag (eU.l0 k y0 y1 y2 y3) (eU.l0 (k + 1) y0 y1 y2 y3))
 | 0=>fun _ _ _ _ r h=>by simp [eU.l0] at h
 | k+1=>by
  have a_:=eU.cC k
  ·intro y0 y1 y2 y3
   unfold eU.l0
   repeat' first
    | (with_reducible first|exact a_ _ _ _ _|exact dO.mono _ _ _|exact cY.mono _ _ _|exact dx.mono _ _ _|exact iP.mono _ _ _|exact dr.mono _ _|exact ag.refl _|exact ag.none _|refine ag.ite ?_ ?_|refine ag.bind ?_ (fun _=>?_))
    | exact a_ _ _ _ _|exact dO.mono _ _ _|exact cY.mono _ _ _|exact dx.mono _ _ _|exact iP.mono _ _ _|exact dr.mono _ _|exact ag.none _|refine ag.ite ?_ ?_|refine ag.bind ?_ (fun _=>?_)
theorem eU.mono:∀ a0 a1 k,ag (eU.f k a0 a1) (eU.f (k+1) a0 a1):=by
 intro a0 a1 k
 have a_:=eU.cC k
 unfold eU.f
 repeat' first
  | (with_reducible first|exact a_ _ _ _ _|exact dO.mono _ _ _|exact cY.mono _ _ _|exact dx.mono _ _ _|exact iP.mono _ _ _|exact dr.mono _ _|exact ag.refl _|exact ag.none _|refine ag.ite ?_ ?_|refine ag.bind ?_ (fun _=>?_))
  | exact a_ _ _ _ _|exact dO.mono _ _ _|exact cY.mono _ _ _|exact dx.mono _ _ _|exact iP.mono _ _ _|exact dr.mono _ _|exact ag.none _|refine ag.ite ?_ ?_|refine ag.bind ?_ (fun _=>?_)
theorem eU.calls (k : Nat) (au : Int) (bJ : Option Addr) (bI : Nat) (ah : List (List Int)) (r1 : List Int) (r2 : Int) (w : World) (eS : Kd.C (Kd.slice 2 (Kd.int .i64)) w bJ ah.length ah) (eY : ah.length ≤ bI) (h : eU.f k au ah = some (r1, r2)) :
  Calls Try.prog 43 #[.agg #[.int .i64 au,.slice bJ ah.length bI]] w fun e w'=>∃ dw:Value,e=.returned (.tuple #[dw,.int .i64 r2])∧Kd.R (Kd.int .i64) 2 w' w.heap.size (fun _=>True) dw r1∧Below w.heap.size w w':=by
 have jS:=Try.underlying31
 have dP:=k0 eS
 have f_:=k0 eY
 clear eS eY
 have HB:=k0 (Below.refl w.heap.size w)
 have H:((cY.f k au ah).bind fun t102=>(if t102=true then (if au > 6 then (some (([]:List Int),3)) else ((dr.f k au).bind fun t103=>((dO.f k au ah).bind fun t106=>(if 0 < (t103.length:Int) then ((dx.f k t106 (ai t103 0)).bind fun t110=>(eU.l0 k t103 t106 t110 1)) else (none))))) else (some (([]:List Int),1))))=some (r1,r2):=h
 clear h
 replace H:=Option.bind_eq_some_iff.mp H
 obtain ⟨t102,eD,H⟩:=H
 replace H:(if t102=true then (if au > 6 then (some (([]:List Int),3)) else ((dr.f k au).bind fun t103=>((dO.f k au ah).bind fun t106=>(if 0 < (t103.length:Int) then ((dx.f k t106 (ai t103 0)).bind fun t110=>(eU.l0 k t103 t106 t110 1)) else (none))))) else (some (([]:List Int),1)))=some (r1,r2):=H
 have A2:=k0 eD
 clear eD
 by_cases c3:t102=true
 case neg =>
  replace c3:=Bool.eq_false_iff.mpr c3
  subst c3
  have H1:(some (([]:List Int),1))=some (r1,r2):=by rw [if_neg (show ¬ (false=true) by decide)] at H;exact H
  clear H
  have H:=H1
  clear H1
  simp only [Option.some.injEq,Prod.mk.injEq] at H
  obtain ⟨rfl,rfl⟩:=H
  go_enter Try.func43,Try.ntmps43
  go_wp2_with (first|((with_reducible refine bN (N:=1) rfl ?_);refine cE 1 #[.int .i64 au,.slice bJ ah.length bI] 31 ?_;intro aW hg TV aG hb;have aa:=k0 (aG);have cu:=gW hg (anG bl);have anQ:=cu;replace HB:=k0 (anH bl hb);clear hb aG hg;have aiB:=aX aa;have aiC:=aY aa;have aj2:=bF aa 0;have aj3:=bF aa 1)|((with_reducible refine bS (f:=100) rfl ?_);refine gC (some 11) Try.func100 #[.agg #[.int .i64 au,.slice bJ ah.length bI]] ?_;(with_reducible refine (cY.calls k au _ _ ah false _ ?aA ?anD A2.z).mono ?_);(case aA=>exact aC (Kd.dU dP.z HB.z));(case anD=>exact f_.z);rintro e TX ⟨rfl,hb⟩;refine ⟨_,rfl,?_⟩;replace aa:=kB aa hb;replace HB:=k0 (anH bl hb);))
  go_ret2
  exact ⟨_,eR,by first|exact Kd.ny _ _ _ _ _|exact Kd.rV _ _ _ _ _|exact Kd.rY _ _ _ _ _|exact Kd.rW _ _ _ _ _|exact Kd.rX _ _ _ _ _,bl⟩
 subst c3
 have H1:(if au > 6 then (some (([]:List Int),3)) else ((dr.f k au).bind fun t103=>((dO.f k au ah).bind fun t106=>(if 0 < (t103.length:Int) then ((dx.f k t106 (ai t103 0)).bind fun t110=>(eU.l0 k t103 t106 t110 1)) else (none)))))=some (r1,r2):=by rw [if_pos rfl] at H;exact H
 clear H
 have H:=H1
 clear H1
 by_cases c4:au > 6
 case neg =>
  rw [if_neg c4] at H
  have gT:decide (6 < au)=false:=decide_eq_false c4
  clear c4
  replace H:=Option.bind_eq_some_iff.mp H
  obtain ⟨t103,vC,H⟩:=H
  replace H:((dO.f k au ah).bind fun t106=>(if 0 < (t103.length:Int) then ((dx.f k t106 (ai t103 0)).bind fun t110=>(eU.l0 k t103 t106 t110 1)) else (none)))=some (r1,r2):=H
  have A9:=k0 vC
  clear vC
  replace H:=Option.bind_eq_some_iff.mp H
  obtain ⟨t106,L5,H⟩:=H
  replace H:(if 0 < (t103.length:Int) then ((dx.f k t106 (ai t103 0)).bind fun t110=>(eU.l0 k t103 t106 t110 1)) else (none))=some (r1,r2):=H
  have Uf:=k0 L5
  clear L5
  replace H:=iS H;obtain ⟨c11,H⟩:=H
  have lS:=decide_eq_true c11
  have uv:decide (0 < t103.length)=true:=decide_eq_true (by omega)
  clear c11
  replace H:=Option.bind_eq_some_iff.mp H
  obtain ⟨t110,Bg,H⟩:=H
  replace H:(eU.l0 k t103 t106 t110 1)=some (r1,r2):=H
  have vr:=k0 Bg
  clear Bg
  have H':=k0 H
  clear H
  go_enter Try.func43,Try.ntmps43
  try go_wp2_with (first|((with_reducible refine bN (N:=1) rfl ?_);refine cE 1 #[.int .i64 au,.slice bJ ah.length bI] 31 ?_;intro aW hg wP aG hb;have aa:=k0 (aG);have cu:=gW hg (anG bl);have anQ:=cu;replace HB:=k0 (anH bl hb);clear hb aG hg;have xY:=aX aa;have xZ:=aY aa;have ape:=bF aa 0;have apf:=bF aa 1)|((with_reducible refine bS (f:=100) rfl ?_);refine gC (some 11) Try.func100 #[.agg #[.int .i64 au,.slice bJ ah.length bI]] ?_;(with_reducible refine (cY.calls k au _ _ ah true _ ?aA ?anD A2.z).mono ?_);(case aA=>exact aC (Kd.dU dP.z HB.z));(case anD=>exact f_.z);rintro e apE ⟨rfl,hb⟩;refine ⟨_,rfl,?_⟩;replace aa:=kB aa hb;replace HB:=k0 (anH bl hb);have Qe:=aX aa;have Qf:=aY aa;have QC:=bF aa 0;have QD:=bF aa 1))
  replace aa:=k0 (aH aa.z);replace HB:=k0 (anS HB.z)
  refine oO (n:=7) (S:=fun w'=>w'.cell? ⟨aW,0,none⟩=some (.int .i64 au)∧w'.cell? ⟨aW,1,none⟩=some (.slice bJ ah.length bI)) (ds:=[]) (ba 7 0) (by kernel_rfl) rfl rfl ⟨aX aa,aY aa⟩ (fun hHeld=>?_)
  generalize apE.drew=DY at aa HB hHeld ⊢
  refine apw (i:=0) (N:=some 17) (v:=?_) (a':=?_) (ba 7 1) rfl rfl (by kernel_rfl) (fun _ _ _ h=>h) (Or.inl ⟨by rfl,?_⟩) ?_ ?_
  rotate_left;· intro w';go_simp;with_reducible rfl
  rotate_left;· simp only [Act.put,zI,zZ,zS,dX,eZ];rfl
  refine wN (i:=1) (N:=some 18) (v:=?_) (a':=?_) (ba 7 3) rfl rfl (by kernel_rfl) (fun _ _ _ h=>h) (Or.inl ⟨by rfl,?_⟩) hHeld ?_ ?_
  rotate_left;· rintro w' ⟨s0,s1⟩;go_simp;with_reducible rfl
  rotate_left;· simp only [Act.put,zI,zZ,zS,dX,eZ];rfl
  refine wN (i:=3) (N:=some 20) (v:=?_) (a':=?_) (ba 7 11) rfl rfl (by kernel_rfl) (fun _ _ _ h=>h) (Or.inl ⟨by rfl,?_⟩) hHeld ?_ ?_
  rotate_left;· rintro w' ⟨s0,s1⟩;go_simp;with_reducible rfl
  rotate_left;· simp only [Act.put,zI,zZ,zS,dX,eZ];rfl
  refine nF (i:=2) (N:=some 19) (ba 7 15) rfl rfl (by kernel_rfl) (by decide) (fun K hK=>?_)
  refine uE Try.func119 (by kernel_rfl) rfl #[.int .i64 au] (by rfl) rfl rfl gm ?_
  with_reducible refine (dr.calls k au t103 _ A9.z).mono ?_
  rintro e TR ⟨aoZ,rfl,aq,hb⟩
  refine ⟨_,rfl,?_⟩
  have cZ:=k0 (Kd.gD aq (anG bl));replace aa:=kB aa hb;replace HB:=k0 (anH bl hb)
  refine hK.out _ _ ⟨aX aa,aY aa⟩ (fun hHeld=>?_)
  clear hK K
  refine mY (a':=?_) ?_ ?_
  rotate_left;· show Act.put _ (some 19) _=_;simp only [Act.put,zI,zZ,zS,dX,eZ];rfl
  refine nF (i:=4) (N:=some 21) (ba 7 31) rfl rfl (by kernel_rfl) (by decide) (fun K hK=>?_)
  refine uE Try.func120 (by kernel_rfl) rfl #[.agg #[.int .i64 au,.slice bJ ah.length bI]] (by rfl) rfl rfl gm ?_
  with_reducible refine (dO.calls k au _ _ ah t106 _ ?aA ?anD Uf.z).mono ?_
  (case aA=>exact aC (Kd.dU dP.z HB.z))
  (case anD=>exact f_.z)
  rintro e LU ⟨v107,rfl,aq,hb⟩
  refine ⟨_,rfl,?_⟩
  have kC:=k0 (Kd.gD (Kd.jy aq (Kd.vU (aS cZ.z))) (anG bl));replace cZ:=k0 (Kd.an6 (aS cZ.z) (Kd.an_ aq) hb);replace aa:=kB aa hb;replace HB:=k0 (anH bl hb)
  refine hK.out _ _ ⟨aX aa,aY aa⟩ (fun hHeld=>?_)
  clear hK K
  refine mY (a':=?_) ?_ ?_
  rotate_left;· show Act.put _ (some 21) _=_;simp only [Act.put,zI,zZ,zS,dX,eZ];rfl
  refine apw (i:=5) (N:=some 4) (v:=?_) (a':=?_) (ba 7 63) rfl rfl (by kernel_rfl) (fun _ _ _ h=>h) (Or.inl ⟨by rfl,?_⟩) ?_ ?_
  rotate_left;· intro w';go_simp;with_reducible rfl
  rotate_left;· simp only [Act.put,zI,zZ,zS,dX,eZ];rfl
  refine apw (i:=6) (N:=some 5) (v:=?_) (a':=?_) (ba 7 127) rfl rfl (by kernel_rfl) (fun _ _ _ h=>h) (Or.inl ⟨by rfl,?_⟩) ?_ ?_
  rotate_left;· intro w';go_simp;with_reducible rfl
  rotate_left;· simp only [Act.put,zI,zZ,zS,dX,eZ];rfl
  refine o_ (by kernel_rfl) ?_
  obtain ⟨oP,nC,pg⟩:=Kd.eH cZ.z
  subst pg
  have rE:0≤(0:Int):=(by omega)
  have rF:0 < (t103.length:Int):=oD
  obtain ⟨Ab,L6,XB,e109,sF,Rj,Q6⟩:=fu (Kd.anY cZ.z).2.2 0 rE rF
  cases e109
  obtain ⟨ahd,aao,aaf,P0⟩:=Kd.o4 cZ.z [] 0 rE (by first|exact rF|exact oD|(have e_:=(Kd.anY cZ.z).1;omega))
  obtain ⟨anm,rfl,Jb⟩:=aaf
  have Dr:=P0 0 _ rfl
  rw [Nat.add_zero,show ((Kd.slice 2 (Kd.int .i64))).sz=1 from rfl,Nat.mul_one] at Dr
  replace Dr:=Option.some.inj (Dr.symm.trans sF)
  rw [Dr] at Jb
  have Hj:=k0 (show Kd.R (Kd.int .i64) 2 _ _ _ _ (ai t103 0) from Jb)
  clear Dr Jb
  clear P0 aao
  have am3:(0 < t103.length)=True:=eq_true (by omega)
  (try rw [show ((0:Int)).toNat=0 from rfl] at sF)
  (try rw [Addr.add_zero'] at sF)
  have nr:=k0 Q6
  have U_:=k0 Rj
  clear Q6 Rj
  replace rE:=eq_true rE
  replace rF:=eq_true rF
  obtain ⟨zA,wg,xK⟩:=Kd.eH kC.z
  subst xK
  try go_wp2_with (first|((with_reducible refine bS (f:=121) rfl ?_);refine gC (some 26) Try.func121 #[.slice zA t106.length wg,.slice L6 (ai t103 0).length XB] ?_;(with_reducible refine (dx.calls k _ _ t106 _ _ (ai t103 0) t110 _ ?aA ?anD ?cP ?dB vr.z).mono ?_);(case aA=>exact aC ((Kd.anY kC.z).2.2));(case anD=>exact (Kd.anY kC.z).2.1);(case cP=>exact aC (by repeat (first|(with_reducible exact nr.z)|(with_reducible refine Kd.hJ ?_ _)|(with_reducible refine Kd.aoc ?_ _)|(with_reducible refine Kd.gO ?_)|exact nr.z)));(case dB=>exact U_.z);rintro e tT ⟨Ty,rfl,aq,hb⟩;refine ⟨_,rfl,?_⟩;replace cZ:=k0 (Kd.an6 (aS cZ.z) (Kd.aU aq) hb);replace kC:=k0 (Kd.an6 (aS kC.z) (Kd.aU aq) hb);have zP:=k0 (Kd.cH (Kd.cR aq (Kd.bK (aR Hj.z))) (anG bl));replace Hj:=k0 (Kd.cQ (aR Hj.z) (Kd.aU aq) hb);replace aa:=kB aa hb;replace nr:=k0 (Kd.dU (by repeat (first|(with_reducible exact nr.z)|(with_reducible refine Kd.hJ ?_ _)|(with_reducible refine Kd.aoc ?_ _)|(with_reducible refine Kd.gO ?_)|exact nr.z)) hb);replace HB:=k0 (anH bl hb);))
  go_loopg [6,7] k (fun kq v6 v7 w'=>∃ (eA:List Int) (anZ:Int),v7=.int .i64 anZ∧ak (eU.l0 kq t103 t106 eA anZ=some (r1,r2))∧ak (kq≤k)∧ak (Kd.S (Kd.slice 2 (Kd.int .i64)) 28 w' w.heap.size (fun k_=>some k_ ≠ ((.slice zA t106.length wg):Value).ownBlock∧some k_ ≠ (v6:Value).ownBlock) (.slice (some Ab) t103.length nC) t103)∧ak (Kd.S (Kd.slice 2 (Kd.int .i64)) 28 w' w.heap.size (fun k_=>some k_ ≠ ((.slice (some Ab) t103.length nC):Value).ownBlock∧some k_ ≠ (v6:Value).ownBlock) (.slice zA t106.length wg) t106)∧ak (Kd.R (Kd.int .i64) 2 w' w.heap.size (fun _=>True) v6 eA)∧ak (w'.heap[aW]?=some (sO au bJ ah bI 31))∧ak (Kd.C (Kd.int .i64) w' L6 (ai t103 0).length (ai t103 0))∧ak (Below w.heap.size w w'))
  case atStart=>exact ⟨(t110),(1),rs,H',⟨Nat.le_refl _⟩,⟨aS (Kd.anW cZ.z (fun _ hk=>⟨hk.1.2,hk.2⟩))⟩,⟨aS (Kd.anW kC.z (fun _ hk=>⟨hk.1.2,hk.2⟩))⟩,⟨aR (Kd.aT zP.z (fun _ hk=>trivial))⟩,⟨bk⟩,⟨by repeat (first|(with_reducible exact nr.z)|(with_reducible refine Kd.hJ ?_ _)|(with_reducible refine Kd.aoc ?_ _)|(with_reducible refine Kd.gO ?_)|exact nr.z)⟩,⟨bl⟩⟩
  case round =>
   clear H'
   obtain ⟨eA,anZ,rfl,HA,bH,aE,bY,cG,aa,nr,HB⟩:=hrel
   cases gk with
   | zero=>exact absurd HA.z (by simp [eU.l0])
   | succ k1 =>
    have H:=HA.z
    clear HA
    simp only [eU.l0] at H
    by_cases c23:anZ < (t103.length:Int)
    case neg =>
     rw [if_neg c23] at H
     have Ah:decide (anZ < (t103.length:Int))=false:=decide_eq_false c23
     clear c23
     simp only [Option.some.injEq,Prod.mk.injEq] at H
     obtain ⟨rfl,rfl⟩:=H
     go_wp2
     go_ret2
     exact ⟨_,eR,by (with_reducible repeat (first|apply Kd.b_|apply Kd.bZ|apply Kd.bP));exact cG.z,bl⟩
    rw [if_pos c23] at H
    have Ah:=decide_eq_true c23
    clear c23
    replace H:=iS H;obtain ⟨c24,H⟩:=H
    have apN:=decide_eq_true c24
    clear c24
    replace H:=Option.bind_eq_some_iff.mp H
    obtain ⟨t114,Bj,H⟩:=H
    replace H:((iP.f k1 t114 eA).bind fun t117=>(if t117=true then (eU.l0 k1 t103 t106 t114 (wrap64 (anZ+1))) else (eU.l0 k1 t103 t106 eA (wrap64 (anZ+1)))))=some (r1,r2):=H
    have Eg:=k0 Bj
    clear Bj
    replace H:=Option.bind_eq_some_iff.mp H
    obtain ⟨t117,Mf,H⟩:=H
    replace H:(if t117=true then (eU.l0 k1 t103 t106 t114 (wrap64 (anZ+1))) else (eU.l0 k1 t103 t106 eA (wrap64 (anZ+1))))=some (r1,r2):=H
    have Me:=k0 Mf
    clear Mf
    by_cases c27:t117=true
    case neg =>
     replace c27:=Bool.eq_false_iff.mpr c27
     subst c27
     have H1:(eU.l0 k1 t103 t106 eA (wrap64 (anZ+1)))=some (r1,r2):=by rw [if_neg (show ¬ (false=true) by decide)] at H;exact H
     clear H
     have H:=H1
     clear H1
     have H':=k0 H
     clear H
     have jU:0≤(anZ:Int):=oD
     have jV:anZ < (t103.length:Int):=oD
     obtain ⟨rZ,Bf,xE,e113,kG,sx,sw⟩:=fu (Kd.anY aE.z).2.2 anZ jU jV
     obtain rfl:Ab=rZ:=(by injection e113)
     obtain ⟨IG,xV,xT,su⟩:=Kd.o4 aE.z [] anZ jU (by first|exact jV|exact oD|(have e_:=(Kd.anY aE.z).1;omega))
     obtain ⟨LP,rfl,pn⟩:=xT
     have aou:=su 0 _ rfl
     rw [Nat.add_zero,show ((Kd.slice 2 (Kd.int .i64))).sz=1 from rfl,Nat.mul_one] at aou
     replace aou:=Option.some.inj (aou.symm.trans kG)
     rw [aou] at pn
     have nN:=k0 (show Kd.R (Kd.int .i64) 2 _ _ _ _ (ai t103 anZ) from pn)
     clear aou pn
     clear su xV
     have nt:=k0 sw
     have By:=k0 sx
     clear sw sx
     replace jU:=eq_true jU
     replace jV:=eq_true jV
     go_wp2_with (first|((with_reducible refine bS (f:=121) rfl ?_);refine gC (some 38) Try.func121 #[.slice zA t106.length wg,.slice Bf (ai t103 anZ).length xE] ?_;(with_reducible refine (dx.calls k1 _ _ t106 _ _ (ai t103 anZ) t114 _ ?aA ?anD ?cP ?dB Eg.z).mono ?_);(case aA=>exact aC ((Kd.anY bY.z).2.2));(case anD=>exact (Kd.anY bY.z).2.1);(case cP=>exact aC (by repeat (first|(with_reducible exact nt.z)|(with_reducible refine Kd.hJ ?_ _)|(with_reducible refine Kd.aoc ?_ _)|(with_reducible refine Kd.gO ?_)|exact nt.z)));(case dB=>exact By.z);rintro e D0 ⟨afk,rfl,aq,hb⟩;refine ⟨_,rfl,?_⟩;replace aE:=k0 (Kd.an6 (aS aE.z) (Kd.aU aq) hb);replace bY:=k0 (Kd.an6 (aS bY.z) (Kd.aU aq) hb);have vI:=k0 (Kd.cH (Kd.cR (Kd.cR aq (Kd.bK (aR cG.z))) (Kd.bK (aR nN.z))) (anG bl));replace cG:=k0 (Kd.cQ (aR cG.z) (Kd.aU aq) hb);replace nN:=k0 (Kd.cQ (aR nN.z) (Kd.aU aq) hb);replace aa:=kB aa hb;replace nr:=k0 (Kd.dU (by repeat (first|(with_reducible exact nr.z)|(with_reducible refine Kd.hJ ?_ _)|(with_reducible refine Kd.aoc ?_ _)|(with_reducible refine Kd.gO ?_)|exact nr.z)) hb);replace nt:=k0 (Kd.dU (by repeat (first|(with_reducible exact nt.z)|(with_reducible refine Kd.hJ ?_ _)|(with_reducible refine Kd.aoc ?_ _)|(with_reducible refine Kd.gO ?_)|exact nt.z)) hb);replace HB:=k0 (anH bl hb);obtain ⟨Bm,Cg,Cq⟩:=Kd.cK vI.z;subst Cq;obtain ⟨MK,OX,I2⟩:=Kd.cK cG.z;subst I2)|((with_reducible refine bS (f:=122) rfl ?_);refine gC (some 41) Try.func122 #[.slice Bm t114.length Cg,.slice MK eA.length OX] ?_;(with_reducible refine (iP.calls k1 _ _ t114 _ _ eA false _ ?aA ?anD ?cP ?dB Me.z).mono ?_);(case aA=>exact aC ((Kd.anT vI.z).2.2));(case anD=>exact (Kd.anT vI.z).2.1);(case cP=>exact aC ((Kd.anT cG.z).2.2));(case dB=>exact (Kd.anT cG.z).2.1);rintro e w' ⟨rfl,⟨nd,rfl⟩⟩;refine ⟨_,rfl,?_⟩))
     go_roundg k1
     case measure=>have:=bH.z;omega
     case rel=>exact ⟨(eA),(wrap64 (anZ+1)),rs,H',⟨by have:=bH.z;omega⟩,⟨aS (Kd.anW aE.z (fun _ hk=>⟨hk.1.1,hk.1.2⟩))⟩,⟨aS (Kd.anW bY.z (fun _ hk=>⟨hk.1.1,hk.1.2⟩))⟩,⟨aR (Kd.aT cG.z (fun _ hk=>trivial))⟩,⟨bk⟩,⟨by repeat (first|(with_reducible exact nr.z)|(with_reducible refine Kd.hJ ?_ _)|(with_reducible refine Kd.aoc ?_ _)|(with_reducible refine Kd.gO ?_)|exact nr.z)⟩,⟨bl⟩⟩
    subst c27
    have H1:(eU.l0 k1 t103 t106 t114 (wrap64 (anZ+1)))=some (r1,r2):=by rw [if_pos rfl] at H;exact H
    clear H
    have H:=H1
    clear H1
    have H':=k0 H
    clear H
    have jU:0≤(anZ:Int):=oD
    have jV:anZ < (t103.length:Int):=oD
    obtain ⟨rZ,Bf,xE,e113,kG,sx,sw⟩:=fu (Kd.anY aE.z).2.2 anZ jU jV
    obtain rfl:Ab=rZ:=(by injection e113)
    obtain ⟨IG,xV,xT,su⟩:=Kd.o4 aE.z [] anZ jU (by first|exact jV|exact oD|(have e_:=(Kd.anY aE.z).1;omega))
    obtain ⟨LP,rfl,pn⟩:=xT
    have aou:=su 0 _ rfl
    rw [Nat.add_zero,show ((Kd.slice 2 (Kd.int .i64))).sz=1 from rfl,Nat.mul_one] at aou
    replace aou:=Option.some.inj (aou.symm.trans kG)
    rw [aou] at pn
    have nN:=k0 (show Kd.R (Kd.int .i64) 2 _ _ _ _ (ai t103 anZ) from pn)
    clear aou pn
    clear su xV
    have nt:=k0 sw
    have By:=k0 sx
    clear sw sx
    replace jU:=eq_true jU
    replace jV:=eq_true jV
    go_wp2_with (first|((with_reducible refine bS (f:=121) rfl ?_);refine gC (some 38) Try.func121 #[.slice zA t106.length wg,.slice Bf (ai t103 anZ).length xE] ?_;(with_reducible refine (dx.calls k1 _ _ t106 _ _ (ai t103 anZ) t114 _ ?aA ?anD ?cP ?dB Eg.z).mono ?_);(case aA=>exact aC ((Kd.anY bY.z).2.2));(case anD=>exact (Kd.anY bY.z).2.1);(case cP=>exact aC (by repeat (first|(with_reducible exact nt.z)|(with_reducible refine Kd.hJ ?_ _)|(with_reducible refine Kd.aoc ?_ _)|(with_reducible refine Kd.gO ?_)|exact nt.z)));(case dB=>exact By.z);rintro e Gt ⟨afk,rfl,aq,hb⟩;refine ⟨_,rfl,?_⟩;replace aE:=k0 (Kd.an6 (aS aE.z) (Kd.aU aq) hb);replace bY:=k0 (Kd.an6 (aS bY.z) (Kd.aU aq) hb);have vI:=k0 (Kd.cH (Kd.cR (Kd.cR aq (Kd.bK (aR cG.z))) (Kd.bK (aR nN.z))) (anG bl));replace cG:=k0 (Kd.cQ (aR cG.z) (Kd.aU aq) hb);replace nN:=k0 (Kd.cQ (aR nN.z) (Kd.aU aq) hb);replace aa:=kB aa hb;replace nr:=k0 (Kd.dU (by repeat (first|(with_reducible exact nr.z)|(with_reducible refine Kd.hJ ?_ _)|(with_reducible refine Kd.aoc ?_ _)|(with_reducible refine Kd.gO ?_)|exact nr.z)) hb);replace nt:=k0 (Kd.dU (by repeat (first|(with_reducible exact nt.z)|(with_reducible refine Kd.hJ ?_ _)|(with_reducible refine Kd.aoc ?_ _)|(with_reducible refine Kd.gO ?_)|exact nt.z)) hb);replace HB:=k0 (anH bl hb);obtain ⟨oQ,o9,I1⟩:=Kd.cK vI.z;subst I1;obtain ⟨tY,tF,Aw⟩:=Kd.cK cG.z;subst Aw)|((with_reducible refine bS (f:=122) rfl ?_);refine gC (some 41) Try.func122 #[.slice oQ t114.length o9,.slice tY eA.length tF] ?_;(with_reducible refine (iP.calls k1 _ _ t114 _ _ eA true _ ?aA ?anD ?cP ?dB Me.z).mono ?_);(case aA=>exact aC ((Kd.anT vI.z).2.2));(case anD=>exact (Kd.anT vI.z).2.1);(case cP=>exact aC ((Kd.anT cG.z).2.2));(case dB=>exact (Kd.anT cG.z).2.1);rintro e w' ⟨rfl,⟨nd,rfl⟩⟩;refine ⟨_,rfl,?_⟩))
    go_roundg k1
    case measure=>have:=bH.z;omega
    case rel=>exact ⟨(t114),(wrap64 (anZ+1)),rs,H',⟨by have:=bH.z;omega⟩,⟨aS (Kd.anW aE.z (fun _ hk=>⟨hk.1.1,hk.2⟩))⟩,⟨aS (Kd.anW bY.z (fun _ hk=>⟨hk.1.1,hk.2⟩))⟩,⟨aR (Kd.aT vI.z (fun _ hk=>trivial))⟩,⟨bk⟩,⟨by repeat (first|(with_reducible exact nr.z)|(with_reducible refine Kd.hJ ?_ _)|(with_reducible refine Kd.aoc ?_ _)|(with_reducible refine Kd.gO ?_)|exact nr.z)⟩,⟨bl⟩⟩
 rw [if_pos c4] at H
 have gT:=decide_eq_true c4
 clear c4
 simp only [Option.some.injEq,Prod.mk.injEq] at H
 obtain ⟨rfl,rfl⟩:=H
 go_enter Try.func43,Try.ntmps43
 go_wp2_with (first|((with_reducible refine bN (N:=1) rfl ?_);refine cE 1 #[.int .i64 au,.slice bJ ah.length bI] 31 ?_;intro aW hg w5 aG hb;have aa:=k0 (aG);have cu:=gW hg (anG bl);have anQ:=cu;replace HB:=k0 (anH bl hb);clear hb aG hg;have Ff:=aX aa;have Fg:=aY aa;have Fk:=bF aa 0;have Fl:=bF aa 1)|((with_reducible refine bS (f:=100) rfl ?_);refine gC (some 11) Try.func100 #[.agg #[.int .i64 au,.slice bJ ah.length bI]] ?_;(with_reducible refine (cY.calls k au _ _ ah true _ ?aA ?anD A2.z).mono ?_);(case aA=>exact aC (Kd.dU dP.z HB.z));(case anD=>exact f_.z);rintro e w7 ⟨rfl,hb⟩;refine ⟨_,rfl,?_⟩;replace aa:=kB aa hb;replace HB:=k0 (anH bl hb);have CR:=aX aa;have CS:=aY aa;have CZ:=bF aa 0;have C0:=bF aa 1))
 go_ret2
 exact ⟨_,eR,by first|exact Kd.ny _ _ _ _ _|exact Kd.rV _ _ _ _ _|exact Kd.rY _ _ _ _ _|exact Kd.rW _ _ _ _ _|exact Kd.rX _ _ _ _ _,bl⟩
/-! ### F44: function 44 -/
def ef.l0 : Nat → List Int → List Int → Int → Option (Bool)
 | 0,_,_,_=>none
 | k+1,x0,x1,x5=>if x5 < (x0.length:Int) then (if 0≤x5 then (if x5 < (x1.length:Int) then (if (rd x0 x5)=(rd x1 x5) then (ef.l0 k x0 x1 (wrap64 (x5+1))) else (some false)) else (none)) else (none)) else (some true)
def ef.f (k:Nat) (l0:List Int) (l1:List Int):Option (Bool):=if (l0.length:Int)=(l1.length:Int) then (ef.l0 k l0 l1 0) else (some false)
theorem ef.cC : ∀ k, (∀ y0 y1 y2, ag (ef.l0 k y0 y1 y2) (ef.l0 (k + 1) y0 y1 y2))
 | 0=>fun _ _ _ r h=>by simp [ef.l0] at h
 | k+1=>by
  have a_:=ef.cC k
  ·intro y0 y1 y2
   unfold ef.l0
   repeat' first
    | (with_reducible first|exact a_ _ _ _|exact ag.refl _|exact ag.none _|refine ag.ite ?_ ?_|refine ag.bind ?_ (fun _=>?_))
    | exact a_ _ _ _|exact ag.none _|refine ag.ite ?_ ?_|refine ag.bind ?_ (fun _=>?_)
theorem ef.mono:∀ a0 a1 k,ag (ef.f k a0 a1) (ef.f (k+1) a0 a1):=by
 intro a0 a1 k
 have a_:=ef.cC k
 unfold ef.f
 repeat' first
  | (with_reducible first|exact a_ _ _ _|exact ag.refl _|exact ag.none _|refine ag.ite ?_ ?_|refine ag.bind ?_ (fun _=>?_))
  | exact a_ _ _ _|exact ag.none _|refine ag.ite ?_ ?_|refine ag.bind ?_ (fun _=>?_)
theorem ef.calls (k : Nat) (A0 : Option Addr) (c0 : Nat) (l0 : List Int) (A1 : Option Addr) (c1 : Nat) (l1 : List Int) (r : Bool) (w : World) (cL : Kd.C (Kd.int .i64) w A0 l0.length l0) (hc0 : l0.length ≤ c0) (jK : Kd.C (Kd.int .i64) w A1 l1.length l1) (jJ : l1.length ≤ c1) (h : ef.f k l0 l1 = some r) :
  Calls Try.prog 44 #[.slice A0 l0.length c0,.slice A1 l1.length c1] w fun e w'=>e=.returned (.bool r)∧aod w w':=by
 have dh:=k0 cL
 have fI:=k0 hc0
 clear cL hc0
 have iQ:=k0 jK
 have td:=k0 jJ
 clear jK jJ
 have H:(if (l0.length:Int)=(l1.length:Int) then (ef.l0 k l0 l1 0) else (some false))=some r:=h
 clear h
 by_cases c3:(l0.length:Int)=(l1.length:Int)
 case neg =>
  rw [if_neg c3] at H
  have jZ:((l0.length:Int) == (l1.length:Int))=false:=beq_eq_false_iff_ne.mpr c3
  have uy:((l0.length:Int) != (l1.length:Int))=true:=bne_iff_ne.mpr c3
  have XY:(l0.length == l1.length)=false:=by first|simpa using c3|(simp at c3 ⊢;omega)
  obtain rfl:=Option.some.inj H
  go_enter Try.func44,Try.ntmps44
  go_wp2
  repeat (go_quiet (fail);try go_wp2)
  go_ret
  exact ⟨rs,dW⟩
 rw [if_pos c3] at H
 have jZ:((l0.length:Int) == (l1.length:Int))=true:=beq_iff_eq.mpr c3
 have uy:((l0.length:Int) != (l1.length:Int))=false:=bne_eq_false_iff_eq.mpr c3
 have XY:(l0.length == l1.length)=true:=by first|simpa using c3|(simp at c3 ⊢;omega)
 clear c3
 have H':=k0 H
 clear H
 go_enter Try.func44,Try.ntmps44
 go_wp2
 repeat (go_quiet (fail);try go_wp2)
 go_loopg [5] k (fun kq v5 w'=>∃ (bR:Int),v5=.int .i64 bR∧ak (ef.l0 kq l0 l1 bR=some r)∧ak (kq≤k)∧aod w w')
 case atStart=>exact ⟨(0),rs,H',⟨Nat.le_refl _⟩,dW⟩
 case round =>
  clear H'
  obtain ⟨bR,rfl,HA,bH,⟨m1,rfl⟩⟩:=hrel
  cases gk with
  | zero=>exact absurd HA.z (by simp [ef.l0])
  | succ k1 =>
   have H:=HA.z
   clear HA
   simp only [ef.l0] at H
   by_cases c4:bR < (l0.length:Int)
   case neg =>
    rw [if_neg c4] at H
    have gT:decide (bR < (l0.length:Int))=false:=decide_eq_false c4
    clear c4
    obtain rfl:=Option.some.inj H
    go_wp2
    repeat (go_quiet (fail);try go_wp2)
    go_ret
    exact ⟨rs,dW⟩
   rw [if_pos c4] at H
   have gT:=decide_eq_true c4
   clear c4
   replace H:=iS H;obtain ⟨c5,H⟩:=H
   have aoo:=decide_eq_true c5
   clear c5
   replace H:=iS H;obtain ⟨c6,H⟩:=H
   have iD:=decide_eq_true c6
   clear c6
   by_cases c7:(rd l0 bR)=(rd l1 bR)
   case neg =>
    rw [if_neg c7] at H
    have o7:((rd l0 bR) == (rd l1 bR))=false:=beq_eq_false_iff_ne.mpr c7
    have ao4:((rd l0 bR) != (rd l1 bR))=true:=bne_iff_ne.mpr c7
    obtain rfl:=Option.some.inj H
    have ep:0≤(bR:Int):=oD
    have er:bR < (l0.length:Int):=oD
    obtain ⟨lA,e101,kF⟩:=Kd.cm dh.z bR ep er
    cases e101
    replace ep:=eq_true ep
    replace er:=eq_true er
    have eI:0≤(bR:Int):=oD
    have eK:bR < (l1.length:Int):=oD
    obtain ⟨nV,e102,jD⟩:=Kd.cm iQ.z bR eI eK
    cases e102
    replace eI:=eq_true eI
    replace eK:=eq_true eK
    go_wp2
    repeat (go_quiet (fail);try go_wp2)
    go_ret
    exact ⟨rs,dW⟩
   rw [if_pos c7] at H
   have o7:((rd l0 bR) == (rd l1 bR))=true:=beq_iff_eq.mpr c7
   have ao4:((rd l0 bR) != (rd l1 bR))=false:=bne_eq_false_iff_eq.mpr c7
   clear c7
   have H':=k0 H
   clear H
   have ep:0≤(bR:Int):=oD
   have er:bR < (l0.length:Int):=oD
   obtain ⟨lA,e101,kF⟩:=Kd.cm dh.z bR ep er
   cases e101
   replace ep:=eq_true ep
   replace er:=eq_true er
   have eI:0≤(bR:Int):=oD
   have eK:bR < (l1.length:Int):=oD
   obtain ⟨nV,e102,jD⟩:=Kd.cm iQ.z bR eI eK
   cases e102
   replace eI:=eq_true eI
   replace eK:=eq_true eK
   go_wp2
   repeat (go_quiet (fail);try go_wp2)
   go_roundg k1
   case measure=>have:=bH.z;omega
   case rel=>exact ⟨(wrap64 (bR+1)),rs,H',⟨by have:=bH.z;omega⟩,dW⟩
/-! ### F45: function 45 -/
def aoF.f (k:Nat) (l0:List Int):Option (Int × (List (List Int))):=(eT.f k l0).bind fun cO=>((jO.f k cO.1 cO.2.1 cO.2.2).bind fun an3=>(some (an3.1,an3.2.1)))
theorem aoF.mono:∀ a0 k,ag (aoF.f k a0) (aoF.f (k+1) a0):=by
 intro a0 k
 unfold aoF.f
 repeat' first
  | (with_reducible first|exact eT.mono _ _|exact jO.mono _ _ _ _|exact ag.refl _|exact ag.none _|refine ag.ite ?_ ?_|refine ag.bind ?_ (fun _=>?_))
  | exact eT.mono _ _|exact jO.mono _ _ _ _|exact ag.none _|refine ag.ite ?_ ?_|refine ag.bind ?_ (fun _=>?_)
theorem aoF.calls (k : Nat) (A0 : Option Addr) (c0 : Nat) (l0 : List Int) (r1 : Int) (r2 : List (List Int)) (w : World) (cL : Kd.C (Kd.int .u8) w A0 l0.length l0) (hc0 : l0.length ≤ c0) (h : aoF.f k l0 = some (r1, r2)) :
  Calls Try.prog 45 #[.slice A0 l0.length c0] w fun e w'=>∃ iw:Value,e=.returned (.agg #[.int .i64 r1,iw])∧Kd.V (Kd.slice 2 (Kd.int .i64)) 28 w' w.heap.size (fun k_=>(w.heap.size≤k_)) iw r2∧Below w.heap.size w w':=by
 have jS:=Try.underlying31
 have dh:=k0 cL
 have fI:=k0 hc0
 clear cL hc0
 have HB:=k0 (Below.refl w.heap.size w)
 have H:((eT.f k l0).bind fun cO=>((jO.f k cO.1 cO.2.1 cO.2.2).bind fun an3=>(some (an3.1,an3.2.1))))=some (r1,r2):=h
 clear h
 replace H:=Option.bind_eq_some_iff.mp H
 obtain ⟨⟨t102,t103,t104⟩,eD,H⟩:=H
 replace H:((jO.f k t102 t103 t104).bind fun an3=>(some (an3.1,an3.2.1)))=some (r1,r2):=H
 have A2:=k0 eD
 clear eD
 replace H:=Option.bind_eq_some_iff.mp H
 obtain ⟨⟨t106,t107,t110,t111⟩,fS,H⟩:=H
 replace H:(some (t106,t107))=some (r1,r2):=H
 have A3:=k0 fS
 clear fS
 simp only [Option.some.injEq,Prod.mk.injEq] at H
 obtain ⟨rfl,rfl⟩:=H
 go_enter Try.func45,Try.ntmps45
 go_wp2_with (first|((with_reducible refine bN (N:=2) rfl ?_);refine cE 2 #[.int .i64 0,.slice none 0 0] 31 ?_;intro aW hg w4 aG hb;have aa:=k0 (aG);have cu:=gW hg (anG bl);have anQ:=cu;replace HB:=k0 (anH bl hb);clear hb aG hg)|((with_reducible refine bS (f:=110) rfl ?_);refine gC (some 4) Try.func110 #[.slice A0 l0.length c0] ?_;(with_reducible refine (eT.calls k _ _ l0 t102 t103 t104 w _ ?aA ?anD ?cP A2.z).mono ?_);(case aA=>repeat (first|(with_reducible first|exact HB.z|apply bn|apply bq|apply anS|refine az ?_ anQ.z)|exact HB.z));(case anD=>exact dh.z);(case cP=>exact fI.z);rintro e w5 ⟨g105,rfl,hi,hb,iU⟩;refine ⟨_,rfl,?_⟩;replace HB:=k0 (hb);have cT:=k0 (hi);have jR:=k0 (af.tO hi (cB (aB aa.z) iU) (by decide));have hU:=k0 (Ne.symm (af.tO hi (cB (aB aa.z) iU) (by decide)));replace aa:=kB aa iU;)|((with_reducible refine bS (f:=111) rfl ?_);refine gC (some 5) Try.func111 #[.pointer (some ⟨g105,0,none⟩)] ?_;(with_reducible refine (jO.calls k g105 t102 t103 t104 t106 t107 t110 t111 w _ ?aA ?anD A3.z).mono ?_);(case aA=>repeat (first|(with_reducible first|exact cT.z|apply af.alloc|apply af.drewN|apply af.drew|apply af.gq|apply af.gu|refine af.dM ?_ jR.z _)|exact cT.z));(case anD=>repeat (first|(with_reducible first|exact HB.z|apply bn|apply bq|apply anS|refine az ?_ (af.ge cT.z)|refine az ?_ anQ.z)|exact HB.z));rintro e w6 ⟨cw,rfl,aq,hi,hb,hk⟩;refine ⟨_,rfl,?_⟩;have dy:=k0 (Kd.o5 (Kd.anJ (ok':=fun k_=>(w.heap.size≤k_)∧k_ ≠ aW∧k_ ≠ g105) aq (fun k_ b9=>⟨(Nat.le_trans (anG (by repeat (first|(with_reducible first|exact HB.z|apply bn|apply bq|apply anS|refine az ?_ (af.ge cT.z)|refine az ?_ anQ.z)|exact HB.z))) b9),(Kd.oG (aB aa.z) k_ b9),(af.fresh (bB cT.z) k_ b9)⟩)) (anG (by repeat (first|(with_reducible first|exact HB.z|apply bn|apply bq|apply anS|refine az ?_ (af.ge cT.z)|refine az ?_ anQ.z)|exact HB.z))));replace aa:=k0 (aM.blk hk (aB aa.z) hU.z (by simp));replace HB:=k0 (hb);replace cT:=k0 (hi);have J2:=hU.z;have J6:=jR.z;have CR:=aX aa;have CS:=aY aa;have CZ:=bF aa 0;have C0:=bF aa 1;obtain ⟨s7,p_,xO⟩:=Kd.nA dy.z;subst xO))
 refine bodyPost_ret (results_cell_row rfl _ _ aW 31 #[.int .i64 t106,.slice s7 t107.length p_] (0,0) _ rfl (by (with_reducible repeat (first|refine anF ?_ _|refine aH ?_|refine aI ?_ _));refine anV (cs:=#[.int .i64 t106,.slice none 0 0]) ?_ 1 _ rfl;(with_reducible repeat (first|refine anF ?_ _|refine aH ?_|refine aI ?_ _));refine anV (cs:=#[.int .i64 0,.slice none 0 0]) ?_ 0 _ rfl;exact bk) Try.underlying31 rfl (by kernel_rfl)) rfl ?_
 exact ⟨_,eR,by (with_reducible repeat (first|apply Kd.cW|apply Kd.cX|apply Kd.cV));exact Kd.anJ (Kd.bG (p:=⟨aW,1,none⟩) (Kd.bG (p:=⟨aW,0,none⟩) (Kd.anJ dy.z (fun k_ hk=>(⟨hk,hk.2.1⟩:_∧k_ ≠ aW))) (fun _ hk=>hk.2) (.int .i64 t106)) (fun _ hk=>hk.2) (.slice s7 t107.length p_)) (fun _ hk=>hk.1.1),by repeat (first|(with_reducible first|exact HB.z|apply bn|apply bq|apply anS|refine az ?_ (af.ge cT.z)|refine az ?_ anQ.z)|exact HB.z)⟩
/-! ### F46: function 46 -/
def lf.f (k:Nat) (au:Int) (ah:List (List Int)):Option (List Int × Int):=(fj.f k au ah).bind fun t102=>(if t102=true then ((gP.f k au ah).bind fun t103=>((dD.f k au ah t103).bind fun t106=>(some (t106,0)))) else (some (([]:List Int),1)))
theorem lf.mono:∀ a0 a1 k,ag (lf.f k a0 a1) (lf.f (k+1) a0 a1):=by
 intro a0 a1 k
 unfold lf.f
 repeat' first
  | (with_reducible first|exact dD.mono _ _ _ _|exact gP.mono _ _ _|exact fj.mono _ _ _|exact ag.refl _|exact ag.none _|refine ag.ite ?_ ?_|refine ag.bind ?_ (fun _=>?_))
  | exact dD.mono _ _ _ _|exact gP.mono _ _ _|exact fj.mono _ _ _|exact ag.none _|refine ag.ite ?_ ?_|refine ag.bind ?_ (fun _=>?_)
theorem lf.calls (k : Nat) (au : Int) (bJ : Option Addr) (bI : Nat) (ah : List (List Int)) (r1 : List Int) (r2 : Int) (w : World) (eS : Kd.C (Kd.slice 2 (Kd.int .i64)) w bJ ah.length ah) (eY : ah.length ≤ bI) (h : lf.f k au ah = some (r1, r2)) :
  Calls Try.prog 46 #[.agg #[.int .i64 au,.slice bJ ah.length bI]] w fun e w'=>∃ dw:Value,e=.returned (.tuple #[dw,.int .i64 r2])∧Kd.R (Kd.int .i64) 2 w' w.heap.size (fun _=>True) dw r1∧Below w.heap.size w w':=by
 have jS:=Try.underlying31
 have dP:=k0 eS
 have f_:=k0 eY
 clear eS eY
 have HB:=k0 (Below.refl w.heap.size w)
 have H:((fj.f k au ah).bind fun t102=>(if t102=true then ((gP.f k au ah).bind fun t103=>((dD.f k au ah t103).bind fun t106=>(some (t106,0)))) else (some (([]:List Int),1))))=some (r1,r2):=h
 clear h
 replace H:=Option.bind_eq_some_iff.mp H
 obtain ⟨t102,eD,H⟩:=H
 replace H:(if t102=true then ((gP.f k au ah).bind fun t103=>((dD.f k au ah t103).bind fun t106=>(some (t106,0)))) else (some (([]:List Int),1)))=some (r1,r2):=H
 have A2:=k0 eD
 clear eD
 by_cases c3:t102=true
 case neg =>
  replace c3:=Bool.eq_false_iff.mpr c3
  subst c3
  have H1:(some (([]:List Int),1))=some (r1,r2):=by rw [if_neg (show ¬ (false=true) by decide)] at H;exact H
  clear H
  have H:=H1
  clear H1
  simp only [Option.some.injEq,Prod.mk.injEq] at H
  obtain ⟨rfl,rfl⟩:=H
  go_enter Try.func46,Try.ntmps46
  go_wp2_with (first|((with_reducible refine bN (N:=1) rfl ?_);refine cE 1 #[.int .i64 au,.slice bJ ah.length bI] 31 ?_;intro aW hg wP aG hb;have aa:=k0 (aG);have cu:=gW hg (anG bl);have anQ:=cu;replace HB:=k0 (anH bl hb);clear hb aG hg;have xY:=aX aa;have xZ:=aY aa;have ape:=bF aa 0;have apf:=bF aa 1)|((with_reducible refine bS (f:=106) rfl ?_);refine gC (some 5) Try.func106 #[.agg #[.int .i64 au,.slice bJ ah.length bI]] ?_;(with_reducible refine (fj.calls k au _ _ ah false _ ?aA ?anD A2.z).mono ?_);(case aA=>exact aC (Kd.dU dP.z HB.z));(case anD=>exact f_.z);rintro e apE ⟨rfl,hb⟩;refine ⟨_,rfl,?_⟩;replace aa:=kB aa hb;replace HB:=k0 (anH bl hb);))
  go_ret2
  exact ⟨_,eR,by first|exact Kd.ny _ _ _ _ _|exact Kd.rV _ _ _ _ _|exact Kd.rY _ _ _ _ _|exact Kd.rW _ _ _ _ _|exact Kd.rX _ _ _ _ _,bl⟩
 subst c3
 have H1:((gP.f k au ah).bind fun t103=>((dD.f k au ah t103).bind fun t106=>(some (t106,0))))=some (r1,r2):=by rw [if_pos rfl] at H;exact H
 clear H
 have H:=H1
 clear H1
 replace H:=Option.bind_eq_some_iff.mp H
 obtain ⟨t103,jt,H⟩:=H
 replace H:((dD.f k au ah t103).bind fun t106=>(some (t106,0)))=some (r1,r2):=H
 have A4:=k0 jt
 clear jt
 replace H:=Option.bind_eq_some_iff.mp H
 obtain ⟨t106,aox,H⟩:=H
 replace H:(some (t106,0))=some (r1,r2):=H
 have A5:=k0 aox
 clear aox
 simp only [Option.some.injEq,Prod.mk.injEq] at H
 obtain ⟨rfl,rfl⟩:=H
 go_enter Try.func46,Try.ntmps46
 try go_wp2_with (first|((with_reducible refine bN (N:=1) rfl ?_);refine cE 1 #[.int .i64 au,.slice bJ ah.length bI] 31 ?_;intro aW hg w6 aG hb;have aa:=k0 (aG);have cu:=gW hg (anG bl);have anQ:=cu;replace HB:=k0 (anH bl hb);clear hb aG hg;have Qq:=aX aa;have Qr:=aY aa;have abI:=bF aa 0;have QO:=bF aa 1)|((with_reducible refine bS (f:=106) rfl ?_);refine gC (some 5) Try.func106 #[.agg #[.int .i64 au,.slice bJ ah.length bI]] ?_;(with_reducible refine (fj.calls k au _ _ ah true _ ?aA ?anD A2.z).mono ?_);(case aA=>exact aC (Kd.dU dP.z HB.z));(case anD=>exact f_.z);rintro e w8 ⟨rfl,hb⟩;refine ⟨_,rfl,?_⟩;replace aa:=kB aa hb;replace HB:=k0 (anH bl hb);))
 replace aa:=k0 (aH aa.z);replace HB:=k0 (anS HB.z)
 refine oO (n:=6) (S:=fun w'=>w'.cell? ⟨aW,0,none⟩=some (.int .i64 au)∧w'.cell? ⟨aW,1,none⟩=some (.slice bJ ah.length bI)) (ds:=[]) (ba 6 0) (by kernel_rfl) rfl rfl ⟨aX aa,aY aa⟩ (fun hHeld=>?_)
 generalize w8.drew=w9 at aa HB hHeld ⊢
 refine wN (i:=0) (N:=some 7) (v:=?_) (a':=?_) (ba 6 1) rfl rfl (by kernel_rfl) (fun _ _ _ h=>h) (Or.inl ⟨by rfl,?_⟩) hHeld ?_ ?_
 rotate_left;· rintro w' ⟨s0,s1⟩;go_simp;with_reducible rfl
 rotate_left;· simp only [Act.put,zI,zZ,zS,dX,eZ];rfl
 refine wN (i:=1) (N:=some 8) (v:=?_) (a':=?_) (ba 6 3) rfl rfl (by kernel_rfl) (fun _ _ _ h=>h) (Or.inl ⟨by rfl,?_⟩) hHeld ?_ ?_
 rotate_left;· rintro w' ⟨s0,s1⟩;go_simp;with_reducible rfl
 rotate_left;· simp only [Act.put,zI,zZ,zS,dX,eZ];rfl
 refine nF (i:=2) (N:=some 9) (ba 6 7) rfl rfl (by kernel_rfl) (by decide) (fun K hK=>?_)
 refine uE Try.func115 (by kernel_rfl) rfl #[.agg #[.int .i64 au,.slice bJ ah.length bI]] (by rfl) rfl rfl gm ?_
 with_reducible refine (gP.calls k au _ _ ah t103 _ ?aA ?anD A4.z).mono ?_
 (case aA=>exact aC (Kd.dU dP.z HB.z))
 (case anD=>exact f_.z)
 rintro e qN ⟨aoZ,rfl,aq,hb⟩
 refine ⟨_,rfl,?_⟩
 have cZ:=k0 (Kd.cH aq (anG bl));replace aa:=kB aa hb;replace HB:=k0 (anH bl hb)
 obtain ⟨eG,dZ,ru⟩:=Kd.cK cZ.z
 (first|subst ru|(injection ru with ig aoq ij;have aor:=ig.symm;have aos:=ij.symm;clear ig aoq ij;subst aor;subst aos))
 refine hK.out _ _ ⟨aX aa,aY aa⟩ (fun hHeld=>?_)
 clear hK K
 refine mY (a':=?_) ?_ ?_
 rotate_left;· show Act.put _ (some 9) _=_;simp only [Act.put,zI,zZ,zS,dX,eZ];rfl
 refine nF (i:=3) (N:=some 10) (ba 6 15) rfl rfl (by kernel_rfl) (by decide) (fun K hK=>?_)
 refine uE Try.func114 (by kernel_rfl) rfl #[.agg #[.int .i64 au,.slice bJ ah.length bI],.slice eG t103.length dZ] (by rfl) rfl rfl gm ?_
 with_reducible refine (dD.calls k au _ _ ah _ _ t103 t106 _ ?aA ?anD ?cP ?dB A5.z).mono ?_
 (case aA=>exact aC (Kd.dU dP.z HB.z))
 (case anD=>exact f_.z)
 (case cP=>exact aC ((Kd.anT cZ.z).2.2))
 (case dB=>exact (Kd.anT cZ.z).2.1)
 rintro e ao0 ⟨v107,rfl,aq,hb⟩
 refine ⟨_,rfl,?_⟩
 have kC:=k0 (Kd.cH (Kd.cR aq (Kd.bK (aR cZ.z))) (anG bl));replace cZ:=k0 (Kd.cQ (aR cZ.z) (Kd.aU aq) hb);replace aa:=kB aa hb;replace HB:=k0 (anH bl hb)
 refine hK.out _ _ ⟨aX aa,aY aa⟩ (fun hHeld=>?_)
 clear hK K
 refine mY (a':=?_) ?_ ?_
 rotate_left;· show Act.put _ (some 10) _=_;simp only [Act.put,zI,zZ,zS,dX,eZ];rfl
 refine apw (i:=4) (N:=some 2) (v:=?_) (a':=?_) (ba 6 31) rfl rfl (by kernel_rfl) (fun _ _ _ h=>h) (Or.inl ⟨by rfl,?_⟩) ?_ ?_
 rotate_left;· intro w';go_simp;with_reducible rfl
 rotate_left;· simp only [Act.put,zI,zZ,zS,dX,eZ];rfl
 refine apw (i:=5) (N:=some 3) (v:=?_) (a':=?_) (ba 6 63) rfl rfl (by kernel_rfl) (fun _ _ _ h=>h) (Or.inl ⟨by rfl,?_⟩) ?_ ?_
 rotate_left;· intro w';go_simp;with_reducible rfl
 rotate_left;· simp only [Act.put,zI,zZ,zS,dX,eZ];rfl
 refine o_ (by kernel_rfl) ?_
 try go_wp2
 go_ret2
 exact ⟨_,eR,by (with_reducible repeat (first|apply Kd.b_|apply Kd.bZ|apply Kd.bP));exact Kd.aT kC.z (fun _ hk=>trivial),bl⟩
end Go.Proofs.Ytoebojnhchocaaa.G
/- Set with little white space, by a program. -/
