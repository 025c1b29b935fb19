/- The functions that one law reaches, each as a Lean function, and that Go's call comes to what it says. Condition of each: that the Lean function answers (is not none). -/
import Derived.Test.YtoebojnhchocaaaDx0
import Derived.Test.YtoebojnhchocaaaDx4
import Derived.Test.YtoebojnhchocaaaDx8
namespace Go.Proofs.Ytoebojnhchocaaa.D
open Go.RowKit Go.Proofs.bR.eC Go.Proofs.bR.je Go.Proofs.bR.jO
attribute [local go_sem] max2_int min2_int max_two min_two max_three min_three max_four min_four   -- for this text's walks alone
set_option linter.unusedVariables false
set_option linter.unusedSimpArgs false
/-! ### F91: function 91 -/
mutual
def dO.l0 : Nat → List (List Int) → Int → Int → List (List Int) → Option ((List (List Int)))
 | 0,_,_,_,_=>none
 | k+1,x3,x4,bF,bE=>if x4 < bF then (if 0≤x4 then (if x4 < (x3.length:Int) then (dO.l1 k x3 x4 0 bF bE) else (none)) else (none)) else (some x3)
def dO.l1 : Nat → List (List Int) → Int → Int → Int → List (List Int) → Option ((List (List Int)))
 | 0,_,_,_,_,_=>none
 | k+1,x3,x4,x6,bF,bE=>if x6 < bF then (if 0≤x6 then (if x6 < ((ah x3 x4).length:Int) then (dO.l1 k (x3.set (x4:Int).toNat ((ah x3 x4).set (x6:Int).toNat (wrap64 (-(rd (ah x3 x4) x6))))) x4 (wrap64 (x6+1)) bF bE) else (none)) else (none)) else (if 0≤x4 then (if x4 < ((ah x3 x4).length:Int) then ((fC.f k bF bE x4).bind fun t112=>(dO.l0 k (x3.set (x4:Int).toNat ((ah x3 x4).set (x4:Int).toNat (wrap64 ((rd (ah x3 x4) x4)+t112)))) (wrap64 (x4+1)) bF bE)) else (none)) else (none))
end
def dO.f (k:Nat) (af:Int) (aa:List (List Int)):Option ((List (List Int))):=(eV.f k af aa).bind fun t102=>(dO.l0 k t102 0 af aa)
theorem dO.bU : ∀ k, (∀ y0 y1 y2 y3, aj (dO.l0 k y0 y1 y2 y3) (dO.l0 (k + 1) y0 y1 y2 y3)) ∧ (∀ y0 y1 y2 y3 y4, aj (dO.l1 k y0 y1 y2 y3 y4) (dO.l1 (k + 1) y0 y1 y2 y3 y4))
 | 0=>⟨fun _ _ _ _ r h=>by simp [dO.l0] at h,fun _ _ _ _ _ r h=>by simp [dO.l1] at h⟩
 | k+1=>by
  obtain ⟨alg,ih1⟩:=dO.bU k
  refine ⟨?_, ?_⟩ <;> intros <;> (first | unfold dO.l0 | unfold dO.l1) <;> repeat' first
   | (with_reducible first|exact alg _ _ _ _|exact ih1 _ _ _ _ _|exact eV.mono _ _ _|exact fC.mono _ _ _ _|exact aj.refl _|exact aj.none _|refine aj.ite ?_ ?_|refine aj.bind ?_ (fun _=>?_))
   | exact alg _ _ _ _|exact ih1 _ _ _ _ _|exact eV.mono _ _ _|exact fC.mono _ _ _ _|exact aj.none _|refine aj.ite ?_ ?_|refine aj.bind ?_ (fun _=>?_)
theorem dO.mono:∀ a0 a1 k,aj (dO.f k a0 a1) (dO.f (k+1) a0 a1):=by
 intro a0 a1 k
 obtain ⟨alg,ih1⟩:=dO.bU k
 unfold dO.f
 repeat' first
  | (with_reducible first|exact alg _ _ _ _|exact ih1 _ _ _ _ _|exact eV.mono _ _ _|exact fC.mono _ _ _ _|exact aj.refl _|exact aj.none _|refine aj.ite ?_ ?_|refine aj.bind ?_ (fun _=>?_))
  | exact alg _ _ _ _|exact ih1 _ _ _ _ _|exact eV.mono _ _ _|exact fC.mono _ _ _ _|exact aj.none _|refine aj.ite ?_ ?_|refine aj.bind ?_ (fun _=>?_)
def dO.Cb:Bool × List (List Nat × List Nat):=(true,[([],[]),([],[]),([],[]),([],[]),([2,3],[2,3]),([4],[4]),([],[]),([],[]),([6,7],[6,7]),([5,8],[5,8]),([0,1,0,1,2,3,4,5,6,7,8,9],[0,1]),([10,9,8,0,1,2,3,4,5,6,7,8,9],[9,10])])
def dO.Hz:List Nat:=[0,0,0,0,12,28,0,0,192,508,1023,2047]
theorem dO.Ma:gv .any (opsOf Try.f91 10)=dO.Cb:=by kernel_rfl
theorem dO.I9:mN dO.Cb.2 dO.Hz=true:=by kernel_rfl
set_option maxHeartbeats 8000000 in
set_option maxRecDepth 100000 in
theorem dO.calls (k : Nat) (af : Int) (aq : Option Addr) (ak : Nat) (aa : List (List Int)) (r : List (List Int)) (w : World) (aly : Kd.C (Kd.slice 2 (Kd.int .i64)) w aq aa.length aa) (ck : aa.length ≤ ak) (h : dO.f k af aa = some r) :
  Calls Try.prog 91 #[.agg #[.int .i64 af,.slice aq aa.length ak]] w fun e w'=>∃ dH:Value,e=.returned (dH)∧Kd.S (Kd.slice 2 (Kd.int .i64)) 28 w' w.heap.size (fun _=>True) dH r∧Below w.heap.size w w':=by
 have j9:=Try.underlying31
 have bZ:=k0 aly
 have cD:=k0 ck
 clear aly ck
 have HB:=k0 (Below.refl w.heap.size w)
 have H:((eV.f k af aa).bind fun t102=>(dO.l0 k t102 0 af aa))=some r:=h
 clear h
 replace H:=Option.bind_eq_some_iff.mp H
 obtain ⟨t102,lW,H⟩:=H
 replace H:(dO.l0 k t102 0 af aa)=some r:=H
 have A2:=k0 lW
 clear lW
 have H':=k0 H
 clear H
 go_enter Try.func91,Try.ntmps91
 go_wp2_with (first|((with_reducible refine cj (N:=1) rfl ?_);refine dK ?hg (N:=1) ?hd (cs:=#[.int .i64 af,.slice aq aa.length ak]) (t:=31) ?hr ?_;(case hd=>rfl);(case hg=>rfl);(case hr=>first|(go_simp;done)|(go_simp;rfl));intro ai hg w3 aJ hb;have ag:=k0 (aJ);have b8:=k0 ((by rw [hg];exact (alk bl):w.heap.size≤ai));have eB:=b8;replace HB:=k0 (aI bl hb);clear hb aJ hg;have xm:w3.cell? ⟨ai,0,none⟩=some (.int .i64 af):=(av ag.out 0).trans rfl;have xo:w3.cell? ⟨ai,1,none⟩=some (.slice aq aa.length ak):=(av ag.out 1).trans rfl;have xw:=aD ag.out 0;have xx:=aD ag.out 1)|((with_reducible refine dx (f:=120) rfl ?_);refine dy (some 8) rfl rfl Try.func120 (by kernel_rfl) rfl #[.agg #[.int .i64 af,.slice aq aa.length ak]] rfl gm ?_;(with_reducible refine (eV.calls k af _ _ aa t102 _ ?aT ?aU A2.out).mono ?_);(case aT=>exact aC (Kd.bK bZ.out HB.out));(case aU=>exact cD.out);rintro e w5 ⟨dn,rfl,aM,hb⟩;refine ⟨_,rfl,?_⟩;have bq:=k0 (Kd.oR aM (alk bl));replace ag:=k0 (alm (g:=ai) (o:=sO af aq aa ak 31) bk hb);replace HB:=k0 (aI bl hb);(try clear hb);(try clear aM)))
 go_loopg [4] k (fun kq v4 w'=>∃ (bC:List (List Int)) (aY:Int),v4=.int .i64 aY∧au (dO.l0 kq bC aY af aa=some r)∧au (kq≤k)∧au (Kd.S (Kd.slice 2 (Kd.int .i64)) 28 w' w.heap.size (fun _=>True) dn bC)∧au (w'.heap[ai]?=some (sO af aq aa ak 31))∧au (Below w.heap.size w w'))
 case atStart=>exact ⟨(t102),(0),rs,H',⟨Nat.le_refl _⟩,⟨aS (bq.out)⟩,⟨bk⟩,⟨bl⟩⟩
 case round =>
  clear H'
  (try clear xm);(try clear xo);(try clear xw);(try clear xx)
  obtain ⟨bC,aY,rfl,HA,alj,ald,ag,HB⟩:=hrel
  cases gk with
  | zero=>exact absurd HA.out (by simp [dO.l0])
  | succ k1 =>
   have H:=HA.out
   clear HA
   simp only [dO.l0] at H
   by_cases c6:aY < af
   case neg =>
    rw [if_neg c6] at H
    have gB:decide (aY < af)=false:=decide_eq_false c6
    clear c6
    obtain rfl:=Option.some.inj H
    have aaI:wr.cell? ⟨ai,0,none⟩=some (.int .i64 af):=(av ag.out 0).trans rfl
    have aaJ:wr.cell? ⟨ai,1,none⟩=some (.slice aq aa.length ak):=(av ag.out 1).trans rfl
    have abd:=aD ag.out 0
    have abe:=aD ag.out 1
    go_wp2
    go_ret
    exact ⟨_,by first|rfl|(simp [bz,bA]<;>rfl)|(simp [*,bz,bA]<;>rfl),by (with_reducible repeat (first|apply Kd.gK|apply Kd.alH|apply Kd.eW));exact ald.out,bl⟩
   rw [if_pos c6] at H
   have gB:=decide_eq_true c6
   clear c6
   replace H:=iS H;obtain ⟨c7,H⟩:=H
   have alJ:=decide_eq_true c7
   clear c7
   replace H:=iS H;obtain ⟨c8,H⟩:=H
   have jg:=decide_eq_true c8
   clear c8
   have H':=k0 H
   clear H
   have uA:wr.cell? ⟨ai,0,none⟩=some (.int .i64 af):=(av ag.out 0).trans rfl
   have uB:wr.cell? ⟨ai,1,none⟩=some (.slice aq aa.length ak):=(av ag.out 1).trans rfl
   have uD:=aD ag.out 0
   have uE:=aD ag.out 1
   obtain ⟨EO,pK,ql⟩:=Kd.pF ald.out
   subst ql
   have alz:0≤(aY:Int):=oD
   have cV:aY < (bC.length:Int):=oD
   obtain ⟨kG,BL,Ck,e105,dW,qw,qu⟩:=cX (Kd.alw ald.out).2.2 aY alz cV
   cases e105
   obtain ⟨agO,aag,Z3,Qk⟩:=Kd.mB ald.out [] aY alz (by first|exact cV|exact oD|(have e_:=(Kd.alw ald.out).1;omega))
   obtain ⟨akJ,rfl,JK⟩:=Z3
   have Dz:=Qk 0 _ rfl
   rw [Nat.add_zero,show ((Kd.slice 2 (Kd.int .i64))).sz=1 from rfl,Nat.mul_one] at Dz
   replace Dz:=Option.some.inj (Dz.symm.trans dW)
   rw [Dz] at JK
   have agb:=k0 (show Kd.R (Kd.int .i64) 2 _ _ _ _ (ah bC aY) from JK)
   clear Dz JK
   have NR:=k0 dW
   clear Qk aag
   have p_:=k0 qu
   have EW:=k0 qw
   clear qu qw
   replace alz:=eq_true alz
   replace cV:=eq_true cV
   go_wp2
   generalize Q2:(.slice BL (ah bC aY).length Ck:Value)=afs
   have EY:=k0 Q2
   clear Q2
   go_loopg [6] k1 (fun kq v6 w'=>∃ (ale:List (List Int)) (gP:Int),v6=.int .i64 gP∧au (dO.l1 kq ale aY gP af aa=some r)∧au (kq≤k1)∧au (iu w' (.slice (some kG) bC.length pK) aY afs)∧au (Kd.S (Kd.slice 2 (Kd.int .i64)) 28 w' w.heap.size (fun _=>True) (.slice (some kG) bC.length pK) ale)∧au (w'.heap[ai]?=some (sO af aq aa ak 31))∧au (Below w.heap.size w w'))
   case atStart=>exact ⟨(bC),(0),rs,H',⟨Nat.le_refl _⟩,⟨by (with_reducible repeat (first|apply iu.alloc|apply iu.drewN|apply iu.drew));first|exact ⟨_,_,_,rfl,(by first|exact of_eq_true alz|exact amg nE.out|omega),(by first|exact of_eq_true cV|exact mH nE.out|(have h_:=of_eq_true cV;omega)|(have h_:=mH nE.out;omega)),NR.out⟩|(rw [← EY.out];exact ⟨_,_,_,rfl,(by first|exact of_eq_true alz|exact amg nE.out|omega),(by first|exact of_eq_true cV|exact mH nE.out|(have h_:=of_eq_true cV;omega)|(have h_:=mH nE.out;omega)),NR.out⟩)⟩,⟨aS (ald.out)⟩,⟨bk⟩,⟨bl⟩⟩
   case round =>
    clear H'
    (try clear c6);(try clear gB);(try clear c7);(try clear alJ);(try clear c8);(try clear jg);(try clear xm);(try clear xo);(try clear uA);(try clear uB);(try clear xw);(try clear xx);(try clear uD);(try clear uE);(try clear dW);(try clear alz);(try clear cV)
    obtain ⟨ale,gP,rfl,HA,bB,nE,ald,ag,HB⟩:=hrel
    have fF:=(Kd.alw ald.out).1
    rw [fF] at ald
    (try simp only [fF])
    (try simp only [fF] at ag)
    cases gk with
    | zero=>exact absurd HA.out (by simp [dO.l1])
    | succ k2 =>
     have H:=HA.out
     clear HA
     simp only [dO.l1] at H
     by_cases c11:gP < af
     case neg =>
      rw [if_neg c11] at H
      have i_:decide (gP < af)=false:=decide_eq_false c11
      clear c11
      replace H:=iS H;obtain ⟨c18,H⟩:=H
      have qZ:=decide_eq_true c18
      clear c18
      replace H:=iS H;obtain ⟨c19,H⟩:=H
      have lC:=decide_eq_true c19
      (try simp only [fF] at lC)
      clear c19
      replace H:=Option.bind_eq_some_iff.mp H
      obtain ⟨t112,BM,H⟩:=H
      replace H:(dO.l0 k2 (ale.set (aY:Int).toNat ((ah ale aY).set (aY:Int).toNat (wrap64 ((rd (ah ale aY) aY)+t112)))) (wrap64 (aY+1)) af aa)=some r:=H
      have lW:=k0 BM
      clear BM
      obtain ⟨iA,oA⟩:∃ y_:List Int,y_=((ah ale aY).set (aY:Int).toNat (wrap64 ((rd (ah ale aY) aY)+t112))):=⟨_,rfl⟩
      replace H:(dO.l0 k2 (ale.set (aY:Int).toNat iA) (wrap64 (aY+1)) af aa)=some r:=by first|(rw [oA];with_reducible exact H)|(have ax:=(Option.bind_some _ _).symm.trans H;rw [oA];with_reducible exact ax)|(have ax:=(Option.bind_some _ _).symm.trans H;with_reducible exact ax)|with_reducible exact H|(rw [oA];exact H)|exact H
      have wN:=k0 oA
      clear oA
      obtain ⟨dU,gh⟩:∃ y_:List (List Int),y_=(ale.set (aY:Int).toNat iA):=⟨_,rfl⟩
      replace H:(dO.l0 k2 dU (wrap64 (aY+1)) af aa)=some r:=by first|(rw [gh];with_reducible exact H)|(have ax:=(Option.bind_some _ _).symm.trans H;rw [gh];with_reducible exact ax)|(have ax:=(Option.bind_some _ _).symm.trans H;with_reducible exact ax)|with_reducible exact H|(rw [gh];exact H)|exact H
      have mT:=k0 gh
      clear gh
      have H':=k0 H
      clear H
      have ach:decide (0≤aY)=true:=decide_eq_true (amg nE.out)
      have acj:decide (aY < (ale.length:Int))=true:=decide_eq_true (by have h_:=mH nE.out;have e_:=(Kd.alw ald.out).1;omega)
      have dM:0≤(aY:Int):=oD
      have dD:aY < (ale.length:Int):=oD
      obtain ⟨gA,Hl,Cl,e106,dA,amr,aml⟩:=cX (Kd.alw ald.out).2.2 aY dM dD
      obtain rfl:kG=gA:=(by injection e106)
      obtain ⟨XT,Kk,J9,C0⟩:=Kd.mB ald.out [] aY dM (by first|exact dD|exact oD|(have e_:=(Kd.alw ald.out).1;omega))
      obtain ⟨afg,rfl,yD⟩:=J9
      have tq:=C0 0 _ rfl
      rw [Nat.add_zero,show ((Kd.slice 2 (Kd.int .i64))).sz=1 from rfl,Nat.mul_one] at tq
      replace tq:=Option.some.inj (tq.symm.trans dA)
      rw [tq] at yD
      have qO:=k0 (show Kd.R (Kd.int .i64) 2 _ _ _ _ (ah ale aY) from yD)
      clear tq yD
      have oP:=k0 dA
      clear C0 Kk
      have oO:=k0 aml
      have anL:=k0 amr
      clear aml amr
      replace dM:=eq_true dM
      replace dD:=eq_true dD
      obtain rfl:=FV nE.out oP.out
      have QH:wr.cell? ⟨ai,0,none⟩=some (.int .i64 af):=(av ag.out 0).trans rfl
      have QI:wr.cell? ⟨ai,1,none⟩=some (.slice aq aa.length ak):=(av ag.out 1).trans rfl
      have QX:=aD ag.out 0
      have QY:=aD ag.out 1
      try go_wp2
      replace ald:=k0 (Kd.eW ald.out);replace qO:=k0 (Kd.bn qO.out);replace ag:=k0 (cw ag.out);replace oO:=k0 (Kd.jZ oO.out);replace oP:=k0 ((show (wr.drew).cell? _=some _ from oP.out));replace HB:=k0 (cP HB.out)
      have gj:0≤(aY:Int):=oD
      have alG:aY < ((ah ale aY).length:Int):=oD
      obtain ⟨mW,e111,gN⟩:=Kd.bJ (by repeat (first|(with_reducible exact oO.out)|(with_reducible refine Kd.kQ ?_ _)|(with_reducible refine Kd.alZ ?_ _)|(with_reducible refine Kd.jZ ?_)|exact oO.out)) aY gj alG
      cases e111
      replace gj:=eq_true gj
      replace alG:=eq_true alG
      refine lU (n:=12) (S:=fun w'=>w'.cell? ⟨ai,0,none⟩=some (.int .i64 af)∧w'.cell? ⟨ai,1,none⟩=some (.slice aq aa.length ak)∧w'.cell? (mW.add (aY).toNat)=some (.int .i64 (rd (ah ale aY) aY))) (ds:=[11]) (ba 12 0) (by kernel_rfl) rfl rfl ⟨(av ag.out 0).trans rfl,(av ag.out 1).trans rfl,gN⟩ (fun hHeld=>?_);refine pW dO.Ma dO.I9 (fun ay cZ=>?_)
      generalize wr.drew=ank at ald qO ag oO oP HB gN hHeld ⊢
      refine pu 0 (some 33) (ba 12 1) ay (h:=?_)
      refine pu 1 (some 34) (ba 12 3) ay (h:=?_)
      refine pu 2 (some 35) (ba 12 7) ay (h:=?_)
      refine pu 3 (some 36) (ba 12 15) ay (h:=?_)
      refine pu 4 (some 37) (ba 12 31) ay (h:=?_)
      refine pu 7 (some 40) (ba 12 159) ay (h:=?_)
      refine ta 5 (some 38) (ba 12 191) ay cZ hHeld (hy:=Or.inl ⟨by rfl,by rintro w' ⟨s0,s1,s2⟩;go_simp;with_reducible rfl⟩) (h:=?_)
      refine ta 6 (some 39) (ba 12 255) ay cZ hHeld (hy:=Or.inl ⟨by rfl,by rintro w' ⟨s0,s1,s2⟩;go_simp;with_reducible rfl⟩) (h:=?_)
      refine nN (i:=8) (N:=some 41) (ba 12 511) rfl rfl (kg ay.out (by kernel_rfl)) (by decide) (fun K hK=>?_)
      refine mY Try.func177 (by kernel_rfl) rfl #[.agg #[.int .i64 af,.slice aq aa.length ak],.int .i64 aY] (by rfl) rfl rfl gm ?_
      with_reducible refine (fC.calls k2 af _ _ aa aY t112 _ ?aT ?aU lW.out).mono ?_
      (case aT=>exact aC (Kd.bK bZ.out HB.out))
      (case aU=>exact cD.out)
      rintro e Mk ⟨rfl,hb⟩
      have Vw:=(hb.cell (World.block_lt_of_cell? _ _ (hHeld.2.2))).trans (hHeld.2.2)
      refine ⟨_,rfl,?_⟩
      replace ald:=k0 (Kd.kY (aS ald.out) hb);replace qO:=k0 (Kd.en (aR qO.out) hb);replace ag:=k0 (alm (g:=ai) (o:=sO af aq aa ak 31) bk hb);replace oO:=k0 (Kd.bK (by repeat (first|(with_reducible exact oO.out)|(with_reducible refine Kd.kQ ?_ _)|(with_reducible refine Kd.alZ ?_ _)|(with_reducible refine Kd.jZ ?_)|exact oO.out)) hb);replace oP:=k0 (El hb oP.out);replace HB:=k0 (aI bl hb)
      (try clear hb)
      have tN:0≤(aY:Int):=oD
      have tQ:(aY:Int) < (((ah ale aY).length:Int):Int):=oD
      obtain ⟨sR,rQ,rT,amI,CN,OQ,wF⟩:=Kd.lp qO.out (by omega)
      (first|cases rT|(injection rT with bh dm di;(first|subst bh|(injection bh with bh;subst bh));subst di;clear dm))
      (first|simp only [add_plain] at gN|skip)
      have BS:=k0 amI
      have anJ:=k0 wF
      clear amI CN wF
      (first|simp only [add_plain] at gN|skip)
      obtain ⟨K3,KC⟩:=Kd.jB 0 qO.out (aY:Int) tN tQ
      replace tN:=eq_true tN
      replace tQ:=eq_true tQ
      have KT:(aY:Int) < (ale.length:Int):=(by have h_:(aY:Int) < ((ale.length:Int):Int):=oD;first|exact h_|(have e_:=(Kd.alw ald.out).1;omega)|simpa only [List.length_set,List.length_set] using h_)
      obtain ⟨SN,XV,Km,J8,C2,Bf,CY⟩:=Kd.Ai ald.out [] (aY:Int) oD (by first|exact KT|(have e_:=(Kd.alw ald.out).1;omega))
      obtain ⟨afi,rfl,sP⟩:=J8
      have vT:=C2 0 _ rfl
      rw [Nat.add_zero,show ((Kd.slice 2 (Kd.int .i64))).sz=1 from rfl,Nat.mul_one] at vT
      replace vT:=Option.some.inj (vT.symm.trans oP.out)
      subst vT
      clear C2 Km
      replace sP:=(show Kd.R (Kd.int .i64) 2 _ _ _ _ (ah ale aY) from sP)
      have p7:=Kd.kW sP (aY:Int) (wrap64 ((rd (ah ale aY) aY)+t112))
      have agk:=k0 (am6 p7.2 oP.out (am7 (Bf _ (sP.1 _ rfl)).2))
      rw [← wN.out] at p7
      have agf:=k0 p7.1
      have Iy:=CY p7.2 (fun k_ e_=>by injection e_ with e_;subst e_;exact sP.1 _ rfl) (x':=iA) (Kd.rJ p7.1)
      rw [← mT.out] at Iy
      have Vs:=k0 Iy
      clear p7 Iy CY Bf
      refine hK.out _ _ ⟨(av ag.out 0).trans rfl,(av ag.out 1).trans rfl,Vw⟩ (fun hHeld=>?_)
      clear hK K
      refine cQ (a':=?_) ?_ ?_
      rotate_left;· show Act.put _ (some 41) _=_;simp only [Act.put,zI,zZ,zS,cl,cv];rfl
      refine pu 9 (some 42) (ba 12 1023) ay (h:=?_)
      refine pu 10 (some 43) (ba 12 2047) ay (h:=?_)
      refine qE (i:=11) (N:=none) (ba 12 4095) rfl rfl (kg ay.out (by kernel_rfl)) (by decide) (fun K hK=>?_)
      refine pV (w1:=?_) (by rfl) rfl ?_ ?_
      rotate_left;· go_simp;rfl
      refine hK.out _ _ ?_
      clear hK K
      refine lQ (pN ay.out (by kernel_rfl)) ?_
      try go_wp2
      (try simp only [← fF])
      first|go_roundg k2|((try (have e_:=EY.out;injection e_ with yA Jy yB;subst yA yB));go_roundg k2)
      case measure=>have:=alj.out;have:=bB.out;omega
      case rel=>exact ⟨(dU),(wrap64 (aY+1)),rs,H',⟨by have:=alj.out;have:=bB.out;omega⟩,⟨by (try simp only [fF]);(with_reducible repeat (first|apply Kd.gK|apply Kd.alH|apply Kd.eW));exact Vs.out⟩,⟨by (try simp only [fF]);(with_reducible repeat (first|refine eg ?_ _|refine cw ?_|refine dV ?_ _));refine fW ?_ (by have h_:=Kd.gY qO.out ag.out (by decide);intro e_;exact h_ (by rw [e_];rfl)) _;exact bk⟩,⟨by repeat (first|(with_reducible first|exact HB.out|apply dh|apply ek|apply cP|refine dJ ?_ BS.out|refine dJ ?_ eB.out)|exact HB.out)⟩⟩
     rw [if_pos c11] at H
     have i_:=decide_eq_true c11
     clear c11
     replace H:=iS H;obtain ⟨c12,H⟩:=H
     have rN:=decide_eq_true c12
     clear c12
     replace H:=iS H;obtain ⟨c13,H⟩:=H
     have alV:=decide_eq_true c13
     (try simp only [fF] at alV)
     clear c13
     obtain ⟨mQ,alM⟩:∃ y_:List Int,y_=((ah ale aY).set (gP:Int).toNat (wrap64 (-(rd (ah ale aY) gP)))):=⟨_,rfl⟩
     replace H:(dO.l1 k2 (ale.set (aY:Int).toNat mQ) aY (wrap64 (gP+1)) af aa)=some r:=by first|(rw [alM];with_reducible exact H)|(have ax:=(Option.bind_some _ _).symm.trans H;rw [alM];with_reducible exact ax)|(have ax:=(Option.bind_some _ _).symm.trans H;with_reducible exact ax)|with_reducible exact H|(rw [alM];exact H)|exact H
     have sA:=k0 alM
     clear alM
     obtain ⟨tY,oz⟩:∃ y_:List (List Int),y_=(ale.set (aY:Int).toNat mQ):=⟨_,rfl⟩
     replace H:(dO.l1 k2 tY aY (wrap64 (gP+1)) af aa)=some r:=by first|(rw [oz];with_reducible exact H)|(have ax:=(Option.bind_some _ _).symm.trans H;rw [oz];with_reducible exact ax)|(have ax:=(Option.bind_some _ _).symm.trans H;with_reducible exact ax)|with_reducible exact H|(rw [oz];exact H)|exact H
     have anp:=k0 oz
     clear oz
     have H':=k0 H
     clear H
     have ach:decide (0≤aY)=true:=decide_eq_true (amg nE.out)
     have acj:decide (aY < (ale.length:Int))=true:=decide_eq_true (by have h_:=mH nE.out;have e_:=(Kd.alw ald.out).1;omega)
     have dM:0≤(aY:Int):=oD
     have dD:aY < (ale.length:Int):=oD
     obtain ⟨gA,Hl,Cl,e106,dA,amr,aml⟩:=cX (Kd.alw ald.out).2.2 aY dM dD
     obtain rfl:kG=gA:=(by injection e106)
     obtain ⟨XT,Kk,J9,C0⟩:=Kd.mB ald.out [] aY dM (by first|exact dD|exact oD|(have e_:=(Kd.alw ald.out).1;omega))
     obtain ⟨afg,rfl,yD⟩:=J9
     have tq:=C0 0 _ rfl
     rw [Nat.add_zero,show ((Kd.slice 2 (Kd.int .i64))).sz=1 from rfl,Nat.mul_one] at tq
     replace tq:=Option.some.inj (tq.symm.trans dA)
     rw [tq] at yD
     have qO:=k0 (show Kd.R (Kd.int .i64) 2 _ _ _ _ (ah ale aY) from yD)
     clear tq yD
     have oP:=k0 dA
     clear C0 Kk
     have oO:=k0 aml
     have anL:=k0 amr
     clear aml amr
     replace dM:=eq_true dM
     replace dD:=eq_true dD
     obtain rfl:=FV nE.out oP.out
     have C4:wr.cell? ⟨ai,0,none⟩=some (.int .i64 af):=(av ag.out 0).trans rfl
     have C5:wr.cell? ⟨ai,1,none⟩=some (.slice aq aa.length ak):=(av ag.out 1).trans rfl
     have Db:=aD ag.out 0
     have Dc:=aD ag.out 1
     have gi:0≤(gP:Int):=oD
     have gl:gP < ((ah ale aY).length:Int):=oD
     obtain ⟨pH,e107,fN⟩:=Kd.bJ (by repeat (first|(with_reducible exact oO.out)|(with_reducible refine Kd.kQ ?_ _)|(with_reducible refine Kd.alZ ?_ _)|(with_reducible refine Kd.jZ ?_)|exact oO.out)) gP gi gl
     cases e107
     replace gi:=eq_true gi
     replace gl:=eq_true gl
     have LC:0≤(gP:Int):=oD
     have LS:(gP:Int) < (((ah ale aY).length:Int):Int):=oD
     obtain ⟨J0,ahg,O6,Pz,Zt,ag7,Nd⟩:=Kd.lp qO.out (by omega)
     (first|cases O6|(injection O6 with bh dm di;(first|subst bh|(injection bh with bh;subst bh));subst di;clear dm))
     (first|simp only [add_plain] at fN|skip)
     have UK:=k0 Pz
     have afT:=k0 Nd
     clear Pz Zt Nd
     (first|simp only [add_plain] at fN|skip)
     obtain ⟨aj_,ah1⟩:=Kd.jB 0 qO.out (gP:Int) LC LS
     replace LC:=eq_true LC
     replace LS:=eq_true LS
     have abR:(aY:Int) < (ale.length:Int):=(by have h_:(aY:Int) < ((ale.length:Int):Int):=oD;first|exact h_|(have e_:=(Kd.alw ald.out).1;omega)|simpa only [List.length_set,List.length_set] using h_)
     obtain ⟨adN,ag2,aav,ZZ,Qy,KR,Qc⟩:=Kd.Ai ald.out [] (aY:Int) oD (by first|exact abR|(have e_:=(Kd.alw ald.out).1;omega))
     obtain ⟨akY,rfl,CJ⟩:=ZZ
     have F_:=Qy 0 _ rfl
     rw [Nat.add_zero,show ((Kd.slice 2 (Kd.int .i64))).sz=1 from rfl,Nat.mul_one] at F_
     replace F_:=Option.some.inj (F_.symm.trans oP.out)
     subst F_
     clear Qy aav
     replace CJ:=(show Kd.R (Kd.int .i64) 2 _ _ _ _ (ah ale aY) from CJ)
     have Ic:=Kd.kW CJ (gP:Int) (wrap64 (-(rd (ah ale aY) gP)))
     go_wp2_with (first|((with_reducible refine lF (t:=2) (p:=32) rfl ?_);refine lJ (t:=2) (p:=32) (v:=?ak6) (w1:=(wr.setCell ⟨J0,(gP:Int).toNat,none⟩ (.int .i64 (wrap64 (-(rd (ah ale aY) gP)))))) ?hg ?ho ?hn ?hr ?_;(case ho=>rfl);(case hg=>rfl);(case hn=>rfl);(case hr=>first|(go_simp;done)|(go_simp;rfl));intro rz hw;have hg:wr.grownBy rz (some J0):=(by rw [hw];exact Ic.2);have zj:Kd.R (Kd.int .i64) 2 rz w.heap.size adN (.slice (some ⟨J0,0,none⟩) (ah ale aY).length Cl) mQ:=(by rw [hw,sA.out];exact Ic.1);have ec:Kd.S (Kd.slice 2 (Kd.int .i64)) 28 rz w.heap.size (fun _=>True) (.slice (some kG) ale.length pK) tY:=(by rw [anp.out];exact Qc hg (fun k_ e_=>by injection e_ with e_;subst e_;exact CJ.1 _ rfl) (Kd.rJ zj));have amZ:=Kd.alq zj KR;clear Ic Qc;have aE:=k0 (ec);have aH:=k0 (iQ (g:=ai) (o:=sO af aq aa ak 31) bk hg (Kd.gY qO.out ag.out (by decide)));have aK:=k0 (am6 hg oP.out (am7 (KR _ (CJ.1 _ rfl)).2));have a_:=k0 ((by rw [hw];exact dJ (HB.out) UK.out:Below w.heap.size w rz));have alp:=k0 (amZ);have bw:=k0 ((Kd.bx amZ).2.1);clear ald;clear ag;clear oP;clear HB;clear qO;have ald:=aE;have ag:=aH;have oP:=aK;have HB:=a_;have agd:=alp;have af0:=bw;clear aE aH aK a_ alp bw;clear hg hw ec zj amZ KR))
     (try simp only [← fF])
     first|go_roundg k2|((try (have e_:=EY.out;injection e_ with yA Jy yB;subst yA yB));go_roundg k2)
     case measure=>have:=alj.out;have:=bB.out;omega
     case rel=>exact ⟨(tY),(wrap64 (gP+1)),rs,H',⟨by have:=alj.out;have:=bB.out;omega⟩,⟨by (with_reducible repeat (first|apply iu.alloc|apply iu.drewN|apply iu.drew));first|exact ⟨_,_,_,rfl,(by first|exact of_eq_true dM|exact amg nE.out|omega),(by first|exact of_eq_true dD|exact mH nE.out|(have h_:=of_eq_true dD;omega)|(have h_:=mH nE.out;omega)),oP.out⟩|(rw [← EY.out];exact ⟨_,_,_,rfl,(by first|exact of_eq_true dM|exact amg nE.out|omega),(by first|exact of_eq_true dD|exact mH nE.out|(have h_:=of_eq_true dD;omega)|(have h_:=mH nE.out;omega)),oP.out⟩)⟩,⟨by (try simp only [fF]);(with_reducible repeat (first|apply Kd.gK|apply Kd.alH|apply Kd.eW));exact ald.out⟩,⟨by (try simp only [fF]);exact bk⟩,⟨bl⟩⟩
/-! ### F94: function 94 -/
def iC.l0 : Nat → List Int → List Int → Int → Option (Bool)
 | 0,_,_,_=>none
 | k+1,x0,x1,x5=>if x5 < (x0.length:Int) then (if 0≤x5 then (if x5 < (x1.length:Int) then (if (rd x0 x5)=(rd x1 x5) then (iC.l0 k x0 x1 (wrap64 (x5+1))) else (some false)) else (none)) else (none)) else (some true)
def iC.f (k:Nat) (l0:List Int) (l1:List Int):Option (Bool):=if (l0.length:Int)=(l1.length:Int) then (iC.l0 k l0 l1 0) else (some false)
theorem iC.bU : ∀ k, (∀ y0 y1 y2, aj (iC.l0 k y0 y1 y2) (iC.l0 (k + 1) y0 y1 y2))
 | 0=>fun _ _ _ r h=>by simp [iC.l0] at h
 | k+1=>by
  have alg:=iC.bU k
  ·intro y0 y1 y2
   unfold iC.l0
   repeat' first
    | (with_reducible first|exact alg _ _ _|exact aj.refl _|exact aj.none _|refine aj.ite ?_ ?_|refine aj.bind ?_ (fun _=>?_))
    | exact alg _ _ _|exact aj.none _|refine aj.ite ?_ ?_|refine aj.bind ?_ (fun _=>?_)
theorem iC.mono:∀ a0 a1 k,aj (iC.f k a0 a1) (iC.f (k+1) a0 a1):=by
 intro a0 a1 k
 have alg:=iC.bU k
 unfold iC.f
 repeat' first
  | (with_reducible first|exact alg _ _ _|exact aj.refl _|exact aj.none _|refine aj.ite ?_ ?_|refine aj.bind ?_ (fun _=>?_))
  | exact alg _ _ _|exact aj.none _|refine aj.ite ?_ ?_|refine aj.bind ?_ (fun _=>?_)
set_option maxHeartbeats 8000000 in
set_option maxRecDepth 100000 in
theorem iC.calls (k : Nat) (A0 : Option Addr) (c0 : Nat) (l0 : List Int) (A1 : Option Addr) (c1 : Nat) (l1 : List Int) (r : Bool) (w : World) (cS : Kd.C (Kd.int .i64) w A0 l0.length l0) (hc0 : l0.length ≤ c0) (c_ : Kd.C (Kd.int .i64) w A1 l1.length l1) (eY : l1.length ≤ c1) (h : iC.f k l0 l1 = some r) :
  Calls Try.prog 94 #[.slice A0 l0.length c0,.slice A1 l1.length c1] w fun e w'=>e=.returned (.bool r)∧bI w w':=by
 have fe:=k0 cS
 have alR:=k0 hc0
 clear cS hc0
 have eP:=k0 c_
 have kT:=k0 eY
 clear c_ eY
 have H:(if (l0.length:Int)=(l1.length:Int) then (iC.l0 k l0 l1 0) else (some false))=some r:=h
 clear h
 by_cases c3:(l0.length:Int)=(l1.length:Int)
 case neg =>
  rw [if_neg c3] at H
  have gZ:((l0.length:Int) == (l1.length:Int))=false:=beq_eq_false_iff_ne.mpr c3
  have lD:((l0.length:Int) != (l1.length:Int))=true:=bne_iff_ne.mpr c3
  have wW:(l0.length == l1.length)=false:=by first|simpa using c3|(simp at c3 ⊢;omega)
  obtain rfl:=Option.some.inj H
  go_enter Try.func94,Try.ntmps94
  go_wp2
  repeat (go_quiet (fail);try go_wp2)
  go_ret
  exact ⟨by first|rfl|(simp;done)|(simp [*];done),by repeat (first|exact bI.refl _|apply bI.step)⟩
 rw [if_pos c3] at H
 have gZ:((l0.length:Int) == (l1.length:Int))=true:=beq_iff_eq.mpr c3
 have lD:((l0.length:Int) != (l1.length:Int))=false:=bne_eq_false_iff_eq.mpr c3
 have wW:(l0.length == l1.length)=true:=by first|simpa using c3|(simp at c3 ⊢;omega)
 clear c3
 have H':=k0 H
 clear H
 go_enter Try.func94,Try.ntmps94
 go_wp2
 repeat (go_quiet (fail);try go_wp2)
 go_loopg [5] k (fun kq v5 w'=>∃ (ali:Int),v5=.int .i64 ali∧au (iC.l0 kq l0 l1 ali=some r)∧au (kq≤k)∧bI w w')
 case atStart=>exact ⟨(0),rs,H',⟨Nat.le_refl _⟩,by repeat (first|exact bI.refl _|apply bI.step)⟩
 case round =>
  clear H'
  (try clear c3);(try clear gZ);(try clear lD);(try clear wW)
  obtain ⟨ali,rfl,HA,alj,⟨m1,rfl⟩⟩:=hrel
  cases gk with
  | zero=>exact absurd HA.out (by simp [iC.l0])
  | succ k1 =>
   have H:=HA.out
   clear HA
   simp only [iC.l0] at H
   by_cases c4:ali < (l0.length:Int)
   case neg =>
    rw [if_neg c4] at H
    have eD:decide (ali < (l0.length:Int))=false:=decide_eq_false c4
    clear c4
    obtain rfl:=Option.some.inj H
    go_wp2
    repeat (go_quiet (fail);try go_wp2)
    go_ret
    exact ⟨by first|rfl|(simp;done)|(simp [*];done),by repeat (first|exact bI.refl _|apply bI.step)⟩
   rw [if_pos c4] at H
   have eD:=decide_eq_true c4
   clear c4
   replace H:=iS H;obtain ⟨c5,H⟩:=H
   have alS:=decide_eq_true c5
   clear c5
   replace H:=iS H;obtain ⟨c6,H⟩:=H
   have gB:=decide_eq_true c6
   clear c6
   by_cases c7:(rd l0 ali)=(rd l1 ali)
   case neg =>
    rw [if_neg c7] at H
    have alJ:((rd l0 ali) == (rd l1 ali))=false:=beq_eq_false_iff_ne.mpr c7
    have wZ:((rd l0 ali) != (rd l1 ali))=true:=bne_iff_ne.mpr c7
    obtain rfl:=Option.some.inj H
    have eT:0≤(ali:Int):=oD
    have eU:ali < (l0.length:Int):=oD
    obtain ⟨qV,e101,pR⟩:=Kd.bJ fe.out ali eT eU
    cases e101
    replace eT:=eq_true eT
    replace eU:=eq_true eU
    have dX:0≤(ali:Int):=oD
    have dY:ali < (l1.length:Int):=oD
    obtain ⟨pG,e102,iw⟩:=Kd.bJ eP.out ali dX dY
    cases e102
    replace dX:=eq_true dX
    replace dY:=eq_true dY
    go_wp2
    repeat (go_quiet (fail);try go_wp2)
    go_ret
    exact ⟨by first|rfl|(simp;done)|(simp [*];done),by repeat (first|exact bI.refl _|apply bI.step)⟩
   rw [if_pos c7] at H
   have alJ:((rd l0 ali) == (rd l1 ali))=true:=beq_iff_eq.mpr c7
   have wZ:((rd l0 ali) != (rd l1 ali))=false:=bne_eq_false_iff_eq.mpr c7
   clear c7
   have H':=k0 H
   clear H
   have eT:0≤(ali:Int):=oD
   have eU:ali < (l0.length:Int):=oD
   obtain ⟨qV,e101,pR⟩:=Kd.bJ fe.out ali eT eU
   cases e101
   replace eT:=eq_true eT
   replace eU:=eq_true eU
   have dX:0≤(ali:Int):=oD
   have dY:ali < (l1.length:Int):=oD
   obtain ⟨pG,e102,iw⟩:=Kd.bJ eP.out ali dX dY
   cases e102
   replace dX:=eq_true dX
   replace dY:=eq_true dY
   go_wp2
   repeat (go_quiet (fail);try go_wp2)
   go_roundg k1
   case measure=>have:=alj.out;omega
   case rel=>exact ⟨(wrap64 (ali+1)),rs,H',⟨by have:=alj.out;omega⟩,by repeat (first|exact bI.refl _|apply bI.step)⟩
/-! ### F96: function 96 -/
def iD.l0 : Nat → List Int → Int → Int → Option (Int)
 | 0,_,_,_=>none
 | k+1,x0,x3,x4=>if x4 < (x0.length:Int) then (if 0≤x4 then (iD.l0 k x0 (wrap64 (x3+(rd x0 x4))) (wrap64 (x4+1))) else (none)) else (some x3)
def iD.f (k:Nat) (l0:List Int):Option (Int):=iD.l0 k l0 0 0
theorem iD.bU : ∀ k, (∀ y0 y1 y2, aj (iD.l0 k y0 y1 y2) (iD.l0 (k + 1) y0 y1 y2))
 | 0=>fun _ _ _ r h=>by simp [iD.l0] at h
 | k+1=>by
  have alg:=iD.bU k
  ·intro y0 y1 y2
   unfold iD.l0
   repeat' first
    | (with_reducible first|exact alg _ _ _|exact aj.refl _|exact aj.none _|refine aj.ite ?_ ?_|refine aj.bind ?_ (fun _=>?_))
    | exact alg _ _ _|exact aj.none _|refine aj.ite ?_ ?_|refine aj.bind ?_ (fun _=>?_)
theorem iD.mono:∀ a0 k,aj (iD.f k a0) (iD.f (k+1) a0):=by
 intro a0 k
 have alg:=iD.bU k
 unfold iD.f
 repeat' first
  | (with_reducible first|exact alg _ _ _|exact aj.refl _|exact aj.none _|refine aj.ite ?_ ?_|refine aj.bind ?_ (fun _=>?_))
  | exact alg _ _ _|exact aj.none _|refine aj.ite ?_ ?_|refine aj.bind ?_ (fun _=>?_)
set_option maxHeartbeats 8000000 in
set_option maxRecDepth 100000 in
theorem iD.calls (k : Nat) (A0 : Option Addr) (c0 : Nat) (l0 : List Int) (r : Int) (w : World) (cS : Kd.C (Kd.int .i64) w A0 l0.length l0) (hc0 : l0.length ≤ c0) (h : iD.f k l0 = some r) :
  Calls Try.prog 96 #[.slice A0 l0.length c0] w fun e w'=>e=.returned (.int .i64 r)∧bI w w':=by
 have fe:=k0 cS
 have alR:=k0 hc0
 clear cS hc0
 have H:(iD.l0 k l0 0 0)=some r:=h
 clear h
 have H':=k0 H
 clear H
 go_enter Try.func96,Try.ntmps96
 go_wp2
 go_loopg [3,4] k (fun kq v3 v4 w'=>∃ (bC:Int) (aY:Int),v3=.int .i64 bC∧v4=.int .i64 aY∧au (iD.l0 kq l0 bC aY=some r)∧au (kq≤k)∧bI w w')
 case atStart=>exact ⟨(0),(0),rs,rs,H',⟨Nat.le_refl _⟩,by repeat (first|exact bI.refl _|apply bI.step)⟩
 case round =>
  clear H'
  obtain ⟨bC,aY,rfl,rfl,HA,alj,⟨m1,rfl⟩⟩:=hrel
  cases gk with
  | zero=>exact absurd HA.out (by simp [iD.l0])
  | succ k1 =>
   have H:=HA.out
   clear HA
   simp only [iD.l0] at H
   by_cases c2:aY < (l0.length:Int)
   case neg =>
    rw [if_neg c2] at H
    have vB:decide (aY < (l0.length:Int))=false:=decide_eq_false c2
    clear c2
    obtain rfl:=Option.some.inj H
    go_wp2
    go_ret
    exact ⟨by first|rfl|(simp;done)|(simp [*];done),by repeat (first|exact bI.refl _|apply bI.step)⟩
   rw [if_pos c2] at H
   have vB:=decide_eq_true c2
   clear c2
   replace H:=iS H;obtain ⟨c3,H⟩:=H
   have gZ:=decide_eq_true c3
   clear c3
   have H':=k0 H
   clear H
   have eT:0≤(aY:Int):=oD
   have eU:aY < (l0.length:Int):=oD
   obtain ⟨qV,e101,pR⟩:=Kd.bJ fe.out aY eT eU
   cases e101
   replace eT:=eq_true eT
   replace eU:=eq_true eU
   go_wp2
   go_roundg k1
   case measure=>have:=alj.out;omega
   case rel=>exact ⟨(wrap64 (bC+(rd l0 aY))),(wrap64 (aY+1)),rs,rs,H',⟨by have:=alj.out;omega⟩,by repeat (first|exact bI.refl _|apply bI.step)⟩
/-! ### F32: function 32 -/
mutual
def bP.j0 : Nat → List Int → Int → Bool → Int → List (List Int) → Option (Int × Int)
 | 0,_,_,_,_,_=>none
 | k+1,x1,x6,jX,bF,bE=>if jX=true then (bP.j1 k x1 5 bF bE) else (bP.j1 k x1 x6 bF bE)
def bP.j1 : Nat → List Int → Int → Int → List (List Int) → Option (Int × Int)
 | 0,_,_,_,_=>none
 | k+1,x1,x6,bF,bE=>if x6=0 then ((dO.f k bF bE).bind fun t107=>((bS.f k t107 x1 0).bind fun t110=>(if 0≤bF then (if (bF:Int).toNat≤35184372088832 then ((p5.f t110).bind fun t116=>(bP.l0 k t107 t110 (List.replicate (bF:Int).toNat 0) t116 1)) else (none)) else (none)))) else (some (0,x6))
def bP.l0 : Nat → List (List Int) → List Int → List Int → List Int → Int → Option (Int × Int)
 | 0,_,_,_,_,_=>none
 | k+1,x7,x8,x9,dS,eO=>(iC.f k dS x9).bind fun t119=>(if t119=true then (some (eO,0)) else (bP.l1 k x7 x8 x9 dS eO (([]:List Int)) 0))
def bP.l1 : Nat → List (List Int) → List Int → List Int → List Int → Int → List Int → Int → Option (Int × Int)
 | 0,_,_,_,_,_,_,_=>none
 | k+1,x7,x8,x9,dS,eO,fP,gO=>if gO < (dS.length:Int) then (if 0≤gO then (if gO < (x8.length:Int) then (if fP.length < 17592186044416 then (bP.l1 k x7 x8 x9 dS eO (fP ++ [wrap64 ((rd dS gO)+(rd x8 gO))]) (wrap64 (gO+1))) else (none)) else (none)) else (none)) else ((bS.f k x7 fP 0).bind fun t128=>(bP.l0 k x7 x8 x9 t128 (wrap64 (eO+1))))
end
def bP.f (k:Nat) (af:Int) (aa:List (List Int)) (l1:List Int):Option (Int × Int):=(gI.f k af aa 0 (([l1]:List (List Int)))).bind fun t105=>(if t105=0 then ((iD.f k l1).bind fun t106=>(bP.j0 k l1 t105 (t106 != 0) af aa)) else (bP.j0 k l1 t105 false af aa))
theorem bP.bU : ∀ k, (∀ y0 y1 y2 y3 y4, aj (bP.j0 k y0 y1 y2 y3 y4) (bP.j0 (k + 1) y0 y1 y2 y3 y4)) ∧ (∀ y0 y1 y2 y3, aj (bP.j1 k y0 y1 y2 y3) (bP.j1 (k + 1) y0 y1 y2 y3)) ∧ (∀ y0 y1 y2 y3 y4, aj (bP.l0 k y0 y1 y2 y3 y4) (bP.l0 (k + 1) y0 y1 y2 y3 y4)) ∧ (∀ y0 y1 y2 y3 y4 y5 y6, aj (bP.l1 k y0 y1 y2 y3 y4 y5 y6) (bP.l1 (k + 1) y0 y1 y2 y3 y4 y5 y6))
 | 0=>⟨fun _ _ _ _ _ r h=>by simp [bP.j0] at h,fun _ _ _ _ r h=>by simp [bP.j1] at h,fun _ _ _ _ _ r h=>by simp [bP.l0] at h,fun _ _ _ _ _ _ _ r h=>by simp [bP.l1] at h⟩
 | k+1=>by
  obtain ⟨alg,ih1,ih2,ih3⟩:=bP.bU k
  refine ⟨?_, ?_, ?_, ?_⟩ <;> intros <;> (first | unfold bP.j0 | unfold bP.j1 | unfold bP.l0 | unfold bP.l1) <;> repeat' first
   | (with_reducible first|exact alg _ _ _ _ _|exact ih1 _ _ _ _|exact ih2 _ _ _ _ _|exact ih3 _ _ _ _ _ _ _|exact iC.mono _ _ _|exact gI.mono _ _ _ _ _|exact dO.mono _ _ _|exact bS.mono _ _ _ _|exact iD.mono _ _|exact aj.refl _|exact aj.none _|refine aj.ite ?_ ?_|refine aj.bind ?_ (fun _=>?_))
   | exact alg _ _ _ _ _|exact ih1 _ _ _ _|exact ih2 _ _ _ _ _|exact ih3 _ _ _ _ _ _ _|exact iC.mono _ _ _|exact gI.mono _ _ _ _ _|exact dO.mono _ _ _|exact bS.mono _ _ _ _|exact iD.mono _ _|exact aj.none _|refine aj.ite ?_ ?_|refine aj.bind ?_ (fun _=>?_)
theorem bP.mono:∀ a0 a1 a2 k,aj (bP.f k a0 a1 a2) (bP.f (k+1) a0 a1 a2):=by
 intro a0 a1 a2 k
 obtain ⟨alg,ih1,ih2,ih3⟩:=bP.bU k
 unfold bP.f
 repeat' first
  | (with_reducible first|exact alg _ _ _ _ _|exact ih1 _ _ _ _|exact ih2 _ _ _ _ _|exact ih3 _ _ _ _ _ _ _|exact iC.mono _ _ _|exact gI.mono _ _ _ _ _|exact dO.mono _ _ _|exact bS.mono _ _ _ _|exact iD.mono _ _|exact aj.refl _|exact aj.none _|refine aj.ite ?_ ?_|refine aj.bind ?_ (fun _=>?_))
  | exact alg _ _ _ _ _|exact ih1 _ _ _ _|exact ih2 _ _ _ _ _|exact ih3 _ _ _ _ _ _ _|exact iC.mono _ _ _|exact gI.mono _ _ _ _ _|exact dO.mono _ _ _|exact bS.mono _ _ _ _|exact iD.mono _ _|exact aj.none _|refine aj.ite ?_ ?_|refine aj.bind ?_ (fun _=>?_)
def bP.T7:Bool × List (List Nat × List Nat):=(true,[([],[]),([],[]),([0,1],[0,1]),([],[]),([3],[3]),([4,4],[4]),([2,2,0,1,2],[2]),([5,6,0,1,2,3,4,5,6],[5])])
def bP.B7:List Nat:=[0,0,3,0,8,24,7,127]
theorem bP.ae5:gv .any (opsOf Try.f32 7)=bP.T7:=by kernel_rfl
theorem bP.W6:mN bP.T7.2 bP.B7=true:=by kernel_rfl
def bP.Oh:Bool × List (List Nat × List Nat):=(true,[([],[]),([],[]),([],[]),([1,2],[1,2]),([3],[3]),([],[]),([],[]),([5,6],[5,6]),([7],[7]),([4,8],[4,8]),([9],[9]),([0,10],[0,10]),([11,11,0,1,2,3,4,5,6,7,8,9,10,11],[0,11])])
def bP.Ul:List Nat:=[0,0,0,6,14,0,0,96,224,510,1022,2047,4095]
theorem bP.ae0:gv .any (opsOf Try.f32 17)=bP.Oh:=by kernel_rfl
theorem bP.an7:mN bP.Oh.2 bP.Ul=true:=by kernel_rfl
set_option maxHeartbeats 8000000 in
set_option maxRecDepth 100000 in
theorem bP.calls (k : Nat) (af : Int) (aq : Option Addr) (ak : Nat) (aa : List (List Int)) (gX : Nat → Prop) (A1 : Option Addr) (c1 : Nat) (l1 : List Int) (r1 : Int) (r2 : Int) (w : World) (aly : Kd.C (Kd.slice 2 (Kd.int .i64)) w aq aa.length aa) (ck : aa.length ≤ ak) (hs1 : Kd.V (Kd.int .i64) 2 w w.heap.size (fun k_ => gX k_) (.slice A1 l1.length c1) l1) (h : bP.f k af aa l1 = some (r1, r2)) :
  Calls Try.prog 32 #[.agg #[.int .i64 af,.slice aq aa.length ak],.slice A1 l1.length c1] w fun e w'=>e=.returned (.tuple #[.int .i64 r1,.int .i64 r2])∧Below w.heap.size w w':=by
 have j9:=Try.underlying31
 have bZ:=k0 aly
 have cD:=k0 ck
 clear aly ck
 have fE:=k0 (show Kd.V (Kd.int .i64) 2 w w.heap.size (fun k_=>(gX k_∨w.heap.size≤k_)) (.slice A1 l1.length c1) l1 from Kd.qg hs1 (fun k_ hk=>.inl hk))
 have HB:=k0 (Below.refl w.heap.size w)
 have H:((gI.f k af aa 0 (([l1]:List (List Int)))).bind fun t105=>(if t105=0 then ((iD.f k l1).bind fun t106=>(bP.j0 k l1 t105 (t106 != 0) af aa)) else (bP.j0 k l1 t105 false af aa)))=some (r1,r2):=h
 clear h
 obtain ⟨alD,eM⟩:∃ y_:List (List Int),y_=(([l1]:List (List Int))):=⟨_,rfl⟩
 replace H:((gI.f k af aa 0 alD).bind fun t105=>(if t105=0 then ((iD.f k l1).bind fun t106=>(bP.j0 k l1 t105 (t106 != 0) af aa)) else (bP.j0 k l1 t105 false af aa)))=some (r1,r2):=by first|(rw [eM];with_reducible exact H)|(have ax:=(Option.bind_some _ _).symm.trans H;rw [eM];with_reducible exact ax)|(have ax:=(Option.bind_some _ _).symm.trans H;with_reducible exact ax)|with_reducible exact H|(rw [eM];exact H)|exact H
 have gz:=k0 eM
 clear eM
 replace H:=Option.bind_eq_some_iff.mp H
 obtain ⟨t105,mj,H⟩:=H
 replace H:(if t105=0 then ((iD.f k l1).bind fun t106=>(bP.j0 k l1 t105 (t106 != 0) af aa)) else (bP.j0 k l1 t105 false af aa))=some (r1,r2):=H
 have A3:=k0 mj
 clear mj
 have anS:=k0 H
 clear H
 go_enter Try.func32,Try.ntmps32
 go_upto_region 2 with (first|((with_reducible refine cj (N:=2) rfl ?_);refine dK ?hg (N:=2) ?hd (cs:=#[.int .i64 af,.slice aq aa.length ak]) (t:=31) ?hr ?_;(case hd=>rfl);(case hg=>rfl);(case hr=>first|(go_simp;done)|(go_simp;rfl));intro ai hg w5 aJ hb;replace fE:=k0 (Kd.wQ (Kd.Fm (aV fE.out) ai (Nat.le_of_eq hg.symm)) hb);have ag:=k0 (aJ);have b8:=k0 ((by rw [hg];exact (alk bl):w.heap.size≤ai));have eB:=b8;replace HB:=k0 (aI bl hb);clear hb aJ hg;have qp:w5.cell? ⟨ai,0,none⟩=some (.int .i64 af):=(av ag.out 0).trans rfl;have qq:w5.cell? ⟨ai,1,none⟩=some (.slice aq aa.length ak):=(av ag.out 1).trans rfl;have al8:=aD ag.out 0;have qt:=aD ag.out 1)|((with_reducible refine cj (N:=16) rfl ?_);refine Kd.Fe (Kd.slice 2 (Kd.int .i64)) _ 28 ?hg (N':=16) ?hd (xs:=([l1]:List (List Int))) (inner:=[.slice A1 l1.length c1]) (ok:=(fun k_=>(gX k_∨w.heap.size≤k_)∧k_ ≠ ai)) (b9:=(fun k_=>(gX k_∨w.heap.size≤k_)∧k_ ≠ ai)) ?hr ?hp (fun _ hk=>hk) ((show ∀ k_,w5.heap.size≤k_→(fun k_=>(gX k_∨w.heap.size≤k_)∧k_ ≠ ai) k_ from fun k_ hk=>⟨(.inr (Nat.le_trans (alk bl) hk)),Kd.CF (g:=ai) (o:=sO af aq aa ak 31) bk k_ hk⟩) _ (Nat.le_refl _)) (Below.refl _ _) (Nat.le_refl _) (by simp) ?_;(case hd=>rfl);(case hg=>rfl);(case hr=>first|(go_simp;done)|(go_simp;rfl));(case hp=>exact (bW.one (show Kd.FK (Kd.slice 2 (Kd.int .i64)) _ _ l1 [.slice A1 l1.length c1] from (Kd.ES (Kd.oT (Kd.qg (ok':=(fun k_=>(gX k_∨w.heap.size≤k_)∧k_ ≠ ai)) (fE.out) (fun k_ hk=>⟨hk.1,hk.2⟩))).2.1 (Kd.Fj (Kd.qg (ok':=(fun k_=>(gX k_∨w.heap.size≤k_)∧k_ ≠ ai)) (fE.out) (fun k_ hk=>⟨hk.1,hk.2⟩))))) (bW.none _ _)));intro dn w7 Be hb dF dG;clear dF dG;(first|rw [← gz.out] at Be|(simp only [Int.reduceToNat] at Be;rw [← gz.out] at Be));replace fE:=k0 (Kd.um (aV fE.out) (Kd.B4 Be) hb);have bq:=k0 (Kd.B5 Be (alk bl));replace ag:=k0 (alm (g:=ai) (o:=sO af aq aa ak 31) bk hb);replace HB:=k0 (aI bl hb);clear hb Be;obtain ⟨MX,Cv,vG⟩:=Kd.B6 bq.out;subst vG)|((with_reducible refine dx (f:=89) rfl ?_);refine dy (some 17) rfl rfl Try.func89 (by kernel_rfl) rfl #[.agg #[.int .i64 af,.slice aq aa.length ak],.int .i64 0,.slice MX alD.length Cv] rfl gm ?_;(with_reducible refine (gI.calls k af _ _ aa 0 _ _ alD t105 _ ?aT ?aU ?cy ?cI A3.out).mono ?_);(case aT=>exact aC (Kd.bK bZ.out HB.out));(case aU=>exact cD.out);(case cy=>exact aC ((Kd.qc bq.out).2.2));(case cI=>exact (Kd.qc bq.out).2.1);rintro e gw ⟨rfl,hb⟩;refine ⟨_,rfl,?_⟩;replace fE:=k0 (Kd.wQ (aV fE.out) hb);replace bq:=k0 (Kd.wM (aN bq.out) hb);replace ag:=k0 (alm (g:=ai) (o:=sO af aq aa ak 31) bk hb);replace HB:=k0 (aI bl hb);(try clear hb)))
 (try simp only [Act.put,zI,zZ,zS])
 go_cut [24] (fun v24 wc=>∃ (kq:Nat) (G_:Bool),v24=.bool G_∧au (bP.j0 kq l1 t105 G_ af aa=some (r1,r2))∧au (kq≤k)∧au (Kd.V (Kd.int .i64) 2 wc w.heap.size (fun k_=>(gX k_∨w.heap.size≤k_)∧k_ ≠ ai) (.slice A1 l1.length c1) l1)∧au (wc.heap[ai]?=some (sO af aq aa ak 31))∧au (Below w.heap.size w wc))
 case first =>
  have H:=anS.out
  clear anS
  by_cases c11:t105=0
  case neg =>
   rw [if_neg c11] at H
   have i_:(t105 == 0)=false:=beq_eq_false_iff_ne.mpr c11
   have oc:(t105 != 0)=true:=bne_iff_ne.mpr c11
   (first|rw [i_]|(simp only [cl,cv];rw [i_])|skip)
   have H':=k0 H
   clear H
   go_wp2
   go_meet
   case rel=>exact ⟨_,(false),rs,H',⟨by first|omega|exact Nat.le_refl _⟩,⟨aV (Kd.qg fE.out (fun _ hk=>⟨hk.1.1,hk.1.2⟩))⟩,⟨bk⟩,⟨bl⟩⟩
  rw [if_pos c11] at H
  have i_:(t105 == 0)=true:=beq_iff_eq.mpr c11
  have oc:(t105 != 0)=false:=bne_eq_false_iff_eq.mpr c11
  clear c11
  (first|rw [i_]|(simp only [cl,cv];rw [i_])|skip)
  replace H:=Option.bind_eq_some_iff.mp H
  obtain ⟨t106,wm,H⟩:=H
  replace H:(bP.j0 k l1 t105 (t106 != 0) af aa)=some (r1,r2):=H
  have t_:=k0 wm
  clear wm
  have H':=k0 H
  clear H
  go_wp2_with (first|(go_at_call 96;(with_reducible refine (iD.calls k _ _ l1 t106 _ ?aT ?aU t_.out).mono ?_);(case aT=>exact aC ((Kd.oT fE.out).2.2));(case aU=>exact (Kd.oT fE.out).2.1);rintro e w' ⟨rfl,⟨nd,rfl⟩⟩))
  go_meet
  case rel=>exact ⟨_,((t106 != 0)),rs,H',⟨by first|omega|exact Nat.le_refl _⟩,⟨aV (Kd.qg fE.out (fun _ hk=>⟨hk.1.1,hk.1.2⟩))⟩,⟨bk⟩,⟨bl⟩⟩
 case rest =>
  clear anS
  (try clear c1);(try clear c11);(try clear i_);(try clear oc);(try clear qp);(try clear qq);(try clear al8);(try clear qt)
  obtain ⟨kq,G_,rfl,HA,zX,kV,ag,HB⟩:=hcut
  cases kq with
  | zero=>exact absurd HA.out (by simp [bP.j0])
  | succ K9 =>
   have H:=HA.out
   clear HA
   simp only [bP.j0] at H
   have anP:=k0 H
   clear H
   go_upto_if 24 with (fail)
   go_cut [6] (fun v6 wc=>∃ (kq:Nat) (amP:Int),v6=.int .i64 amP∧au (bP.j1 kq l1 amP af aa=some (r1,r2))∧au (kq≤K9)∧au (Kd.V (Kd.int .i64) 2 wc w.heap.size (fun k_=>(gX k_∨w.heap.size≤k_)∧k_ ≠ ai) (.slice A1 l1.length c1) l1)∧au (wc.heap[ai]?=some (sO af aq aa ak 31))∧au (Below w.heap.size w wc))
   case first =>
    have H:=anP.out
    clear anP
    by_cases c14:G_=true
    case neg =>
     replace c14:=Bool.eq_false_iff.mpr c14
     subst c14
     have H1:(bP.j1 K9 l1 t105 af aa)=some (r1,r2):=by rw [if_neg (show ¬ (false=true) by decide)] at H;exact H
     clear H
     have H:=H1
     clear H1
     have H':=k0 H
     clear H
     go_wp2
     go_meet
     case rel=>exact ⟨_,(t105),rs,H',⟨by have:=zX.out;first|omega|exact Nat.le_refl _⟩,⟨aV (kV.out)⟩,⟨bk⟩,⟨bl⟩⟩
    subst c14
    have H1:(bP.j1 K9 l1 5 af aa)=some (r1,r2):=by rw [if_pos rfl] at H;exact H
    clear H
    have H:=H1
    clear H1
    have H':=k0 H
    clear H
    go_wp2
    go_meet
    case rel=>exact ⟨_,(5),rs,H',⟨by have:=zX.out;first|omega|exact Nat.le_refl _⟩,⟨aV (kV.out)⟩,⟨bk⟩,⟨bl⟩⟩
   case rest =>
    clear anP
    (try clear c1);(try clear c11);(try clear i_);(try clear oc);(try clear c14);(try clear qp);(try clear qq);(try clear al8);(try clear qt)
    obtain ⟨kq,amP,rfl,HA,E0,kV,ag,HB⟩:=hcut
    cases kq with
    | zero=>exact absurd HA.out (by simp [bP.j1])
    | succ uI =>
     have H:=HA.out
     clear HA
     simp only [bP.j1] at H
     by_cases c15:amP=0
     case neg =>
      rw [if_neg c15] at H
      have jD:(amP == 0)=false:=beq_eq_false_iff_ne.mpr c15
      have oV:(amP != 0)=true:=bne_iff_ne.mpr c15
      simp only [Option.some.injEq,Prod.mk.injEq] at H
      obtain ⟨rfl,rfl⟩:=H
      go_wp2
      go_ret2
      exact ⟨by first|rfl|(simp [bz,bA]<;>rfl)|(simp [*,bz,bA]<;>rfl),bl⟩
     rw [if_pos c15] at H
     have jD:(amP == 0)=true:=beq_iff_eq.mpr c15
     have oV:(amP != 0)=false:=bne_eq_false_iff_eq.mpr c15
     clear c15
     replace H:=Option.bind_eq_some_iff.mp H
     obtain ⟨t107,al4,H⟩:=H
     replace H:((bS.f uI t107 l1 0).bind fun t110=>(if 0≤af then (if (af:Int).toNat≤35184372088832 then ((p5.f t110).bind fun t116=>(bP.l0 uI t107 t110 (List.replicate (af:Int).toNat 0) t116 1)) else (none)) else (none)))=some (r1,r2):=H
     have oL:=k0 al4
     clear al4
     replace H:=Option.bind_eq_some_iff.mp H
     obtain ⟨t110,amB,H⟩:=H
     replace H:(if 0≤af then (if (af:Int).toNat≤35184372088832 then ((p5.f t110).bind fun t116=>(bP.l0 uI t107 t110 (List.replicate (af:Int).toNat 0) t116 1)) else (none)) else (none))=some (r1,r2):=H
     have sk:=k0 amB
     clear amB
     replace H:=iS H;obtain ⟨c18,H⟩:=H
     have qZ:=eq_true c18
     have Fw:=decide_eq_true c18
     clear c18
     replace H:=iS H;obtain ⟨c19,H⟩:=H
     have lC:=eq_true c19
     have OI:=decide_eq_true c19
     clear c19
     obtain ⟨iA,oA⟩:∃ y_:List Int,y_=(List.replicate (af:Int).toNat 0):=⟨_,rfl⟩
     replace H:((p5.f t110).bind fun t116=>(bP.l0 uI t107 t110 iA t116 1))=some (r1,r2):=by first|(rw [oA];with_reducible exact H)|(have ax:=(Option.bind_some _ _).symm.trans H;rw [oA];with_reducible exact ax)|(have ax:=(Option.bind_some _ _).symm.trans H;with_reducible exact ax)|with_reducible exact H|(rw [oA];exact H)|exact H
     have wN:=k0 oA
     clear oA
     replace H:=Option.bind_eq_some_iff.mp H
     obtain ⟨t116,BM,H⟩:=H
     replace H:(bP.l0 uI t107 t110 iA t116 1)=some (r1,r2):=H
     have lW:=k0 BM
     clear BM
     have H':=k0 H
     clear H
     have yQ:wc.cell? ⟨ai,0,none⟩=some (.int .i64 af):=(av ag.out 0).trans rfl
     have Kq:wc.cell? ⟨ai,1,none⟩=some (.slice aq aa.length ak):=(av ag.out 1).trans rfl
     have yU:=aD ag.out 0
     have KF:=aD ag.out 1
     try go_wp2_with (first|((with_reducible refine dx (f:=91) rfl ?_);refine dy (some 29) rfl rfl Try.func91 (by kernel_rfl) rfl #[.agg #[.int .i64 af,.slice aq aa.length ak]] rfl gm ?_;(with_reducible refine (dO.calls uI af _ _ aa t107 _ ?aT ?aU oL.out).mono ?_);(case aT=>exact aC (Kd.bK bZ.out HB.out));(case aU=>exact cD.out);rintro e Mj ⟨Me,rfl,aM,hb⟩;refine ⟨_,rfl,?_⟩;replace kV:=k0 (Kd.um (aV kV.out) (Kd.B4 (Kd.Oa aM)) hb);have fL:=k0 (Kd.B5 (Kd.uh (ok':=fun k_=>(gX k_∨w.heap.size≤k_)∧k_ ≠ ai) (Kd.Oa (Kd.Oc aM)) (fun k_ j7=>⟨(.inr (Nat.le_trans (alk bl) j7.2.1)),(Kd.CF (g:=ai) (o:=sO af aq aa ak 31) bk k_ j7.2.1)⟩)) (alk bl));replace ag:=k0 (alm (g:=ai) (o:=sO af aq aa ak 31) bk hb);replace HB:=k0 (aI bl hb);(try clear hb);(try clear aM);obtain ⟨sr,sI,JB⟩:=Kd.B6 fL.out;subst JB))
     replace kV:=k0 (Kd.Fl kV.out);replace fL:=k0 (Kd.z8 fL.out);replace ag:=k0 (cw ag.out);replace HB:=k0 (cP HB.out)
     refine lU (n:=8) (S:=fun w'=>w'.cell? ⟨ai,0,none⟩=some (.int .i64 af)∧w'.cell? ⟨ai,1,none⟩=some (.slice aq aa.length ak)) (ds:=[]) (ba 8 0) (by kernel_rfl) rfl rfl ⟨(av ag.out 0).trans rfl,(av ag.out 1).trans rfl⟩ (fun hHeld=>?_);refine pW bP.ae5 bP.W6 (fun ay cZ=>?_)
     generalize Mj.drew=Mk at kV fL ag HB hHeld ⊢
     refine pu 0 (some 30) (ba 8 1) ay (h:=?_)
     refine pu 1 (some 31) (ba 8 3) ay (h:=?_)
     refine pu 3 (some 33) (ba 8 11) ay (h:=?_)
     refine ta 4 (some 34) (ba 8 27) ay cZ hHeld (hy:=Or.inl ⟨by rfl,by rintro w' ⟨s0,s1⟩;go_simp;with_reducible rfl⟩) (h:=?_)
     refine r8 (σ:=Value × Value) 1 (ba 8 127) (fun s_=>[(32,s_.1),(35,s_.2),(8,s_.1)]) (fun s_ w'=>(w'.cell? ⟨ai,0,none⟩=some (.int .i64 af)∧w'.cell? ⟨ai,1,none⟩=some (.slice aq aa.length ak))∧(Kd.N (Kd.slice 2 (Kd.int .i64)) 28 w' w.heap.size (fun k_=>(gX k_∨w.heap.size≤k_)∧some k_ ≠ (s_.1:Value).ownBlock∧some k_ ≠ (s_.2:Value).ownBlock∧k_ ≠ ai) (.slice sr t107.length sI) t107)∧(Kd.R (Kd.int .i64) 2 w' w.heap.size (fun k_=>(w.heap.size≤k_)∧some k_ ≠ (s_.2:Value).ownBlock) s_.1 t110)∧(Kd.R (Kd.int .i64) 2 w' w.heap.size (fun k_=>(w.heap.size≤k_)∧some k_ ≠ (s_.1:Value).ownBlock) s_.2 iA)∧(Kd.V (Kd.int .i64) 2 w' w.heap.size (fun k_=>(gX k_∨w.heap.size≤k_)∧some k_ ≠ (.slice sr t107.length sI:Value).ownBlock∧some k_ ≠ (s_.1:Value).ownBlock∧some k_ ≠ (s_.2:Value).ownBlock∧k_ ≠ ai) (.slice A1 l1.length c1) l1)∧(w'.heap[ai]?=some (sO af aq aa ak 31))∧(Below w.heap.size w w')) ?_ ?_
     rotate_left
     ·intro PV
      refine Bw (i:=2) (j:=5) (Ni:=some 32) (Nj:=some 35) (ba 8 31) (ba 8 59) rfl rfl rfl rfl (Bx ay.out (by kernel_rfl)) (by decide) (by decide) (fun K hK=>?_) (fun K hK=>?_)
      ·skip
       refine mY Try.func90 (by kernel_rfl) rfl #[.slice sr t107.length sI,.slice A1 l1.length c1,.int .i64 0] (by rfl) rfl rfl gm ?_
       with_reducible refine (bS.calls uI _ _ t107 _ _ l1 0 t110 _ ?aT ?aU ?cy ?cI sk.out).mono ?_
       (case aT=>exact aC ((Kd.qc fL.out).2.2))
       (case aU=>exact (Kd.qc fL.out).2.1)
       (case cy=>exact aC ((Kd.oT kV.out).2.2))
       (case cI=>exact (Kd.oT kV.out).2.1)
       rintro e zG ⟨xZ,rfl,aM,hb⟩
       refine ⟨_,rfl,?_⟩
       replace kV:=k0 (Kd.um (aV kV.out) (Kd.cn aM) hb);replace fL:=k0 (Kd.yf (aN fL.out) (Kd.cn aM) hb);have ue:=k0 (Kd.dI (Kd.vp (M:=fun k_=>(w.heap.size≤k_)) aM (alk bl) (fun k_ h_=>h_)) (alk bl));replace ag:=k0 (alm (g:=ai) (o:=sO af aq aa ak 31) bk hb);replace HB:=k0 (aI bl hb)
       (try clear hb);(try clear aM)
       refine hK.out _ _ ⟨(av ag.out 0).trans rfl,(av ag.out 1).trans rfl⟩ (fun hHeld=>?_)
       clear hK K
       refine cQ (a':=?_) ?_ ?_
       rotate_left;· show Act.put _ (some 32) _=_;simp only [Act.put,zI,zZ,zS,cl,cv];rfl
       refine pu 6 (some 8) (ba 8 95) ay (h:=?_)
       refine nN (i:=5) (N:=some 35) (ba 8 127) rfl rfl (kg ay.out (by kernel_rfl)) (by decide) (fun K hK=>?_)
       refine Kd.N8 (Kd.int .i64) _ 2 (by rfl) (N:=35) rfl 28 _ _ rfl af rfl rfl Try.underlying28 (.int .i64 0) 8 alU rfl (by decide) (by omega) 0 (ok:=fun _=>True) (b9:=fun _=>True) rfl (fun _ hk=>hk) trivial oD (Nat.le_trans (Nat.mul_le_mul_right _ (oD:af.toNat≤35184372088832)) (by omega)) (Below.refl _ _) (Nat.le_refl _) ?_
       intro ry uQ xD hb dF dG
       clear dF dG
       (first|rw [← wN.out] at xD|(simp only [Int.reduceToNat] at xD;rw [← wN.out] at xD))
       replace kV:=k0 (Kd.um (aV kV.out) (Kd.cn xD) hb);replace fL:=k0 (Kd.yf (aN fL.out) (Kd.cn xD) hb);have lN:=k0 (Kd.dI (Kd.ep (Kd.vp (M:=fun k_=>(w.heap.size≤k_)) xD (alk bl) (fun k_ h_=>h_)) (Kd.cH (aR ue.out))) (alk bl));replace ue:=k0 (Kd.alB (aR ue.out) (Kd.cn xD) hb);replace ag:=k0 (alm (g:=ai) (o:=sO af aq aa ak 31) bk hb);replace HB:=k0 (aI bl hb)
       clear hb xD
       refine hK.out _ _ ⟨(av ag.out 0).trans rfl,(av ag.out 1).trans rfl⟩ (fun hHeld=>?_)
       clear hK K
       refine cQ (a':=?_) ?_ ?_
       rotate_left;· show Act.put _ (some 35) _=_;simp only [Act.put,zI,zZ,zS,cl,cv];rfl
       exact cQ (by simp only [ej,Act.put,zI,zZ,zS]) (PV (xZ,ry) _ ⟨hHeld,(by (with_reducible repeat (first|apply Kd.Fb|apply Kd.Fc|apply Kd.z8));exact Kd.uh fL.out (fun _ hk=>⟨hk.1.1.1,⟨hk.1.2,⟨hk.2,hk.1.1.2⟩⟩⟩)),(by (with_reducible repeat (first|apply Kd.bH|apply Kd.bL|apply Kd.bn));exact Kd.alq ue.out (fun _ hk=>⟨hk.1.1,hk.2⟩)),(by (with_reducible repeat (first|apply Kd.bH|apply Kd.bL|apply Kd.bn));exact Kd.alq lN.out (fun _ hk=>⟨hk.1.1,hk.2⟩)),(by (with_reducible repeat (first|apply Kd.I2|apply Kd.I3|apply Kd.Fl));exact Kd.qg kV.out (fun _ hk=>⟨hk.1.1.1.1,⟨hk.1.1.2,⟨hk.1.2,⟨hk.2,hk.1.1.1.2⟩⟩⟩⟩)),bk,bl⟩)
      ·skip
       refine Kd.N8 (Kd.int .i64) _ 2 (by rfl) (N:=35) rfl 28 _ _ rfl af rfl rfl Try.underlying28 (.int .i64 0) 8 alU rfl (by decide) (by omega) 0 (ok:=fun _=>True) (b9:=fun _=>True) rfl (fun _ hk=>hk) trivial oD (Nat.le_trans (Nat.mul_le_mul_right _ (oD:af.toNat≤35184372088832)) (by omega)) (Below.refl _ _) (Nat.le_refl _) ?_
       intro ry zG za hb dF dG
       clear dF dG
       (first|rw [← wN.out] at za|(simp only [Int.reduceToNat] at za;rw [← wN.out] at za))
       replace kV:=k0 (Kd.um (aV kV.out) (Kd.cn za) hb);replace fL:=k0 (Kd.yf (aN fL.out) (Kd.cn za) hb);have lN:=k0 (Kd.dI (Kd.vp (M:=fun k_=>(w.heap.size≤k_)) za (alk bl) (fun k_ h_=>h_)) (alk bl));replace ag:=k0 (alm (g:=ai) (o:=sO af aq aa ak 31) bk hb);replace HB:=k0 (aI bl hb)
       clear hb za
       refine hK.out _ _ ⟨(av ag.out 0).trans rfl,(av ag.out 1).trans rfl⟩ (fun hHeld=>?_)
       clear hK K
       refine cQ (a':=?_) ?_ ?_
       rotate_left;· show Act.put _ (some 35) _=_;simp only [Act.put,zI,zZ,zS,cl,cv];rfl
       refine nN (i:=2) (N:=some 32) (ba 8 63) rfl rfl (kg ay.out (by kernel_rfl)) (by decide) (fun K hK=>?_)
       refine mY Try.func90 (by kernel_rfl) rfl #[.slice sr t107.length sI,.slice A1 l1.length c1,.int .i64 0] (by rfl) rfl rfl gm ?_
       with_reducible refine (bS.calls uI _ _ t107 _ _ l1 0 t110 _ ?aT ?aU ?cy ?cI sk.out).mono ?_
       (case aT=>exact aC ((Kd.qc fL.out).2.2))
       (case aU=>exact (Kd.qc fL.out).2.1)
       (case cy=>exact aC ((Kd.oT kV.out).2.2))
       (case cI=>exact (Kd.oT kV.out).2.1)
       rintro e zH ⟨xZ,rfl,aM,hb⟩
       refine ⟨_,rfl,?_⟩
       replace kV:=k0 (Kd.um (aV kV.out) (Kd.cn aM) hb);replace fL:=k0 (Kd.yf (aN fL.out) (Kd.cn aM) hb);have ue:=k0 (Kd.dI (Kd.ep (Kd.vp (M:=fun k_=>(w.heap.size≤k_)) aM (alk bl) (fun k_ h_=>h_)) (Kd.cH (aR lN.out))) (alk bl));replace lN:=k0 (Kd.alB (aR lN.out) (Kd.cn aM) hb);replace ag:=k0 (alm (g:=ai) (o:=sO af aq aa ak 31) bk hb);replace HB:=k0 (aI bl hb)
       (try clear hb);(try clear aM)
       refine hK.out _ _ ⟨(av ag.out 0).trans rfl,(av ag.out 1).trans rfl⟩ (fun hHeld=>?_)
       clear hK K
       refine cQ (a':=?_) ?_ ?_
       rotate_left;· show Act.put _ (some 32) _=_;simp only [Act.put,zI,zZ,zS,cl,cv];rfl
       refine pu 6 (some 8) (ba 8 127) ay (h:=?_)
       exact cQ (by simp only [ej,Act.put,zI,zZ,zS]) (PV (xZ,ry) _ ⟨hHeld,(by (with_reducible repeat (first|apply Kd.Fb|apply Kd.Fc|apply Kd.z8));exact Kd.uh fL.out (fun _ hk=>⟨hk.1.1.1,⟨hk.2,⟨hk.1.2,hk.1.1.2⟩⟩⟩)),(by (with_reducible repeat (first|apply Kd.bH|apply Kd.bL|apply Kd.bn));exact Kd.alq ue.out (fun _ hk=>⟨hk.1.1,hk.2⟩)),(by (with_reducible repeat (first|apply Kd.bH|apply Kd.bL|apply Kd.bn));exact Kd.alq lN.out (fun _ hk=>⟨hk.1.1,hk.2⟩)),(by (with_reducible repeat (first|apply Kd.I2|apply Kd.I3|apply Kd.Fl));exact Kd.qg kV.out (fun _ hk=>⟨hk.1.1.1.1,⟨hk.1.1.2,⟨hk.2,⟨hk.1.2,hk.1.1.1.2⟩⟩⟩⟩)),bk,bl⟩)
     rintro ⟨xZ,ry⟩ ju ⟨lG,alL,fq,gC,iJ,jh,ji⟩
     have aE:au (Kd.N (Kd.slice 2 (Kd.int .i64)) 28 ju w.heap.size (fun k_=>(gX k_∨w.heap.size≤k_)∧some k_ ≠ (xZ:Value).ownBlock∧some k_ ≠ (ry:Value).ownBlock∧k_ ≠ ai) (.slice sr t107.length sI) t107):=⟨alL⟩
     have aH:au (Kd.R (Kd.int .i64) 2 ju w.heap.size (fun k_=>(w.heap.size≤k_)∧some k_ ≠ (ry:Value).ownBlock) xZ t110):=⟨fq⟩
     have aK:au (Kd.R (Kd.int .i64) 2 ju w.heap.size (fun k_=>(w.heap.size≤k_)∧some k_ ≠ (xZ:Value).ownBlock) ry iA):=⟨gC⟩
     have a_:au (Kd.V (Kd.int .i64) 2 ju w.heap.size (fun k_=>(gX k_∨w.heap.size≤k_)∧some k_ ≠ (.slice sr t107.length sI:Value).ownBlock∧some k_ ≠ (xZ:Value).ownBlock∧some k_ ≠ (ry:Value).ownBlock∧k_ ≠ ai) (.slice A1 l1.length c1) l1):=⟨iJ⟩
     have alp:au (ju.heap[ai]?=some (sO af aq aa ak 31)):=⟨jh⟩
     have bw:au (Below w.heap.size w ju):=⟨ji⟩
     clear kV
     clear fL
     clear ag
     clear HB
     clear alL fq gC iJ jh ji
     have fL:=aE
     have ue:=aH
     have lN:=aK
     have kV:=a_
     have ag:=alp
     have HB:=bw
     clear aE aH aK a_ alp bw
     have hHeld:ju.cell? ⟨ai,0,none⟩=some (.int .i64 af)∧ju.cell? ⟨ai,1,none⟩=some (.slice aq aa.length ak):=lG
     refine cQ (a':=?_) ?_ ?_
     rotate_left;· simp only [ej,Act.put,zI,zZ,zS];rfl
     refine pu 7 (some 9) (ba 8 255) ay (h:=?_)
     refine lQ (pN ay.out (by kernel_rfl)) ?_
     obtain ⟨amC,rR,FD⟩:=Kd.eF ue.out
     subst FD
     try go_wp2
     have e_:t110=t116:=by
      have h_:=lW.out
      simp only [p5.f,Option.bind_some,List.nil_append,List.length_nil] at h_
      split at h_
      ·exact Option.some.inj h_
      ·exact absurd h_ (by simp)
     subst e_
     go_loopg [10,11] uI (fun kq v10 v11 w'=>∃ (jV:List Int) (jI:Int),v11=.int .i64 jI∧au (bP.l0 kq t107 t110 iA jV jI=some (r1,r2))∧au (kq≤uI)∧au (Kd.N (Kd.slice 2 (Kd.int .i64)) 28 w' w.heap.size (fun k_=>(gX k_∨w.heap.size≤k_)∧some k_ ≠ ((.slice amC t110.length rR):Value).ownBlock∧some k_ ≠ (ry:Value).ownBlock∧some k_ ≠ (v10:Value).ownBlock∧k_ ≠ ai) (.slice sr t107.length sI) t107)∧au (Kd.R (Kd.int .i64) 2 w' w.heap.size (fun k_=>(w.heap.size≤k_)∧some k_ ≠ (ry:Value).ownBlock∧True) (.slice amC t110.length rR) t110)∧au (Kd.R (Kd.int .i64) 2 w' w.heap.size (fun k_=>(w.heap.size≤k_)∧some k_ ≠ ((.slice amC t110.length rR):Value).ownBlock∧some k_ ≠ (v10:Value).ownBlock) ry iA)∧au (Kd.R (Kd.int .i64) 2 w' w.heap.size (fun k_=>(w.heap.size≤k_)∧True∧some k_ ≠ (ry:Value).ownBlock) v10 jV)∧au (w'.heap[ai]?=some (sO af aq aa ak 31))∧au (Below w.heap.size w w'))
     case atStart=>exact ⟨(t110),(1),rs,H',⟨Nat.le_refl _⟩,⟨aN (Kd.uh fL.out (fun _ hk=>⟨hk.1,⟨hk.2.1,⟨hk.2.2.1,⟨hk.2.1,hk.2.2.2⟩⟩⟩⟩))⟩,⟨aR (Kd.alq ue.out (fun _ hk=>⟨hk.1,⟨hk.2,trivial⟩⟩))⟩,⟨aR (Kd.alq lN.out (fun _ hk=>⟨hk.1,⟨hk.2,hk.2⟩⟩))⟩,⟨aR (Kd.alq ue.out (fun _ hk=>⟨hk.1,⟨trivial,hk.2⟩⟩))⟩,⟨bk⟩,⟨bl⟩⟩
     case round =>
      clear H'
      (try clear c1);(try clear c11);(try clear i_);(try clear oc);(try clear c14);(try clear c15);(try clear jD);(try clear oV);(try clear c18);(try clear qZ);(try clear Fw);(try clear c19);(try clear lC);(try clear OI);(try clear yQ);(try clear Kq);(try clear qp);(try clear qq);(try clear yU);(try clear KF);(try clear al8);(try clear qt)
      obtain ⟨jV,jI,rfl,HA,cN,alr,aZ,cA,cE,ag,HB⟩:=hrel
      cases gk with
      | zero=>exact absurd HA.out (by simp [bP.l0])
      | succ k3 =>
       have H:=HA.out
       clear HA
       simp only [bP.l0] at H
       replace H:=Option.bind_eq_some_iff.mp H
       obtain ⟨t119,BN,H⟩:=H
       replace H:(if t119=true then (some (jI,0)) else (bP.l1 k3 t107 t110 iA jV jI (([]:List Int)) 0))=some (r1,r2):=H
       have EN:=k0 BN
       clear BN
       by_cases c32:t119=true
       case neg =>
        replace c32:=Bool.eq_false_iff.mpr c32
        subst c32
        have H1:(bP.l1 k3 t107 t110 iA jV jI (([]:List Int)) 0)=some (r1,r2):=by rw [if_neg (show ¬ (false=true) by decide)] at H;exact H
        clear H
        have H:=H1
        clear H1
        obtain ⟨TQ,DX⟩:∃ y_:List Int,y_=(([]:List Int)):=⟨_,rfl⟩
        replace H:(bP.l1 k3 t107 t110 iA jV jI TQ 0)=some (r1,r2):=by first|(rw [DX];with_reducible exact H)|(have ax:=(Option.bind_some _ _).symm.trans H;rw [DX];with_reducible exact ax)|(have ax:=(Option.bind_some _ _).symm.trans H;with_reducible exact ax)|with_reducible exact H|(rw [DX];exact H)|exact H
        have N1:=k0 DX
        clear DX
        have H':=k0 H
        clear H
        obtain ⟨amQ,uv,JG⟩:=Kd.eF cE.out
        subst JG
        obtain ⟨ua,sJ,FE⟩:=Kd.eF cA.out
        subst FE
        go_wp2_with (first|((with_reducible refine dx (f:=94) rfl ?_);refine dy (some 41) rfl rfl Try.func94 (by kernel_rfl) rfl #[.slice amQ jV.length uv,.slice ua iA.length sJ] rfl gm ?_;(with_reducible refine (iC.calls k3 _ _ jV _ _ iA false _ ?aT ?aU ?cy ?cI EN.out).mono ?_);(case aT=>exact aC ((Kd.bx cE.out).2.2));(case aU=>exact (Kd.bx cE.out).2.1);(case cy=>exact aC ((Kd.bx cA.out).2.2));(case cI=>exact (Kd.bx cA.out).2.1);rintro e w' ⟨rfl,⟨nd,rfl⟩⟩;refine ⟨_,rfl,?_⟩)|((with_reducible refine cj (N:=43) rfl ?_);refine Kd.al2 (Kd.int .i64) _ 2 ?hg (N:=43) ?hd (xs:=([]:List Int)) (inner:=[]) (ok:=fun _=>True) (b9:=fun _=>True) ?hr ?hp (fun _ hk=>hk) trivial (Below.refl _ _) (Nat.le_refl _) (by simp) ?_;(case hd=>rfl);(case hg=>rfl);(case hr=>first|(go_simp;done)|(go_simp;rfl));(case hp=>exact (bW.none _ _));intro afd BC vR hb dF dG;clear dF dG;(first|rw [← N1.out] at vR|(simp only [Int.reduceToNat] at vR;rw [← N1.out] at vR));replace alr:=k0 (Kd.yf (aN alr.out) (Kd.cn vR) hb);have E6:=k0 (Kd.dI (Kd.ep (Kd.ep (Kd.ep (Kd.vp (M:=fun k_=>(w.heap.size≤k_)) vR (alk bl) (fun k_ h_=>h_)) (Kd.cH (aR aZ.out))) (Kd.cH (aR cA.out))) (Kd.cH (aR cE.out))) (alk bl));replace aZ:=k0 (Kd.alB (aR aZ.out) (Kd.cn vR) hb);replace cA:=k0 (Kd.alB (aR cA.out) (Kd.cn vR) hb);replace cE:=k0 (Kd.alB (aR cE.out) (Kd.cn vR) hb);replace ag:=k0 (alm (g:=ai) (o:=sO af aq aa ak 31) bk hb);replace HB:=k0 (aI bl hb);clear hb vR))
        go_loopg [12,13] k3 (fun kq v12 zE w'=>∃ (zJ:List Int) (gH:Int),zE=.int .i64 gH∧au (bP.l1 kq t107 t110 iA jV jI zJ gH=some (r1,r2))∧au (kq≤k3)∧au (Kd.N (Kd.slice 2 (Kd.int .i64)) 28 w' w.heap.size (fun k_=>(gX k_∨w.heap.size≤k_)∧some k_ ≠ ((.slice amC t110.length rR):Value).ownBlock∧some k_ ≠ ((.slice ua iA.length sJ):Value).ownBlock∧some k_ ≠ ((.slice amQ jV.length uv):Value).ownBlock∧some k_ ≠ (v12:Value).ownBlock∧k_ ≠ ai) (.slice sr t107.length sI) t107)∧au (Kd.R (Kd.int .i64) 2 w' w.heap.size (fun k_=>(w.heap.size≤k_)∧some k_ ≠ ((.slice ua iA.length sJ):Value).ownBlock∧True∧some k_ ≠ (v12:Value).ownBlock) (.slice amC t110.length rR) t110)∧au (Kd.R (Kd.int .i64) 2 w' w.heap.size (fun k_=>(w.heap.size≤k_)∧some k_ ≠ ((.slice amC t110.length rR):Value).ownBlock∧some k_ ≠ ((.slice amQ jV.length uv):Value).ownBlock∧some k_ ≠ (v12:Value).ownBlock) (.slice ua iA.length sJ) iA)∧au (Kd.R (Kd.int .i64) 2 w' w.heap.size (fun k_=>(w.heap.size≤k_)∧True∧some k_ ≠ ((.slice ua iA.length sJ):Value).ownBlock∧some k_ ≠ (v12:Value).ownBlock) (.slice amQ jV.length uv) jV)∧au (Kd.R (Kd.int .i64) 2 w' w.heap.size (fun k_=>(w.heap.size≤k_)∧some k_ ≠ ((.slice amC t110.length rR):Value).ownBlock∧some k_ ≠ ((.slice ua iA.length sJ):Value).ownBlock∧some k_ ≠ ((.slice amQ jV.length uv):Value).ownBlock) v12 zJ)∧au (w'.heap[ai]?=some (sO af aq aa ak 31))∧au (Below w.heap.size w w'))
        case atStart=>exact ⟨(TQ),(0),rs,H',⟨Nat.le_refl _⟩,⟨aN (Kd.uh alr.out (fun _ hk=>⟨hk.1.1,⟨hk.1.2.1,⟨hk.1.2.2.1,⟨hk.1.2.2.2.1,⟨hk.2,hk.1.2.2.2.2⟩⟩⟩⟩⟩))⟩,⟨aR (Kd.alq aZ.out (fun _ hk=>⟨hk.1.1,⟨hk.1.2.1,⟨hk.1.2.2,hk.2⟩⟩⟩))⟩,⟨aR (Kd.alq cA.out (fun _ hk=>⟨hk.1.1,⟨hk.1.2.1,⟨hk.1.2.2,hk.2⟩⟩⟩))⟩,⟨aR (Kd.alq cE.out (fun _ hk=>⟨hk.1.1,⟨hk.1.2.1,⟨hk.1.2.2,hk.2⟩⟩⟩))⟩,⟨aR (Kd.alq E6.out (fun _ hk=>⟨hk.1.1.1.1,⟨hk.1.1.2,⟨hk.1.2,hk.2⟩⟩⟩))⟩,⟨bk⟩,⟨bl⟩⟩
        case round =>
         clear H'
         (try clear c1);(try clear c11);(try clear i_);(try clear oc);(try clear c14);(try clear c15);(try clear jD);(try clear oV);(try clear c18);(try clear qZ);(try clear Fw);(try clear c19);(try clear lC);(try clear OI);(try clear c32);(try clear yQ);(try clear Kq);(try clear qp);(try clear qq);(try clear yU);(try clear KF);(try clear al8);(try clear qt)
         obtain ⟨zJ,gH,rfl,HA,fH,alr,aZ,cA,cE,eL,ag,HB⟩:=hrel
         cases gk with
         | zero=>exact absurd HA.out (by simp [bP.l1])
         | succ k4 =>
          have H:=HA.out
          clear HA
          simp only [bP.l1] at H
          by_cases c39:gH < (jV.length:Int)
          case neg =>
           rw [if_neg c39] at H
           have AA:decide (gH < (jV.length:Int))=false:=decide_eq_false c39
           clear c39
           replace H:=Option.bind_eq_some_iff.mp H
           obtain ⟨t128,MJ,H⟩:=H
           replace H:(bP.l0 k4 t107 t110 iA t128 (wrap64 (jI+1)))=some (r1,r2):=H
           have an3:=k0 MJ
           clear MJ
           have H':=k0 H
           clear H
           obtain ⟨Hw,Jr,FF⟩:=Kd.eF eL.out
           subst FF
           go_wp2_with (first|((with_reducible refine dx (f:=90) rfl ?_);refine dy (some 64) rfl rfl Try.func90 (by kernel_rfl) rfl #[.slice sr t107.length sI,.slice Hw zJ.length Jr,.int .i64 0] rfl gm ?_;(with_reducible refine (bS.calls k4 _ _ t107 _ _ zJ 0 t128 _ ?aT ?aU ?cy ?cI an3.out).mono ?_);(case aT=>exact aC ((Kd.qc alr.out).2.2));(case aU=>exact (Kd.qc alr.out).2.1);(case cy=>exact aC ((Kd.bx eL.out).2.2));(case cI=>exact (Kd.bx eL.out).2.1);rintro e TD ⟨akE,rfl,aM,hb⟩;refine ⟨_,rfl,?_⟩;replace alr:=k0 (Kd.yf (aN alr.out) (Kd.cn aM) hb);have Vl:=k0 (Kd.dI (Kd.ep (Kd.ep (Kd.ep (Kd.ep (Kd.vp (M:=fun k_=>(w.heap.size≤k_)) aM (alk bl) (fun k_ h_=>h_)) (Kd.cH (aR aZ.out))) (Kd.cH (aR cA.out))) (Kd.cH (aR cE.out))) (Kd.cH (aR eL.out))) (alk bl));replace aZ:=k0 (Kd.alB (aR aZ.out) (Kd.cn aM) hb);replace cA:=k0 (Kd.alB (aR cA.out) (Kd.cn aM) hb);replace cE:=k0 (Kd.alB (aR cE.out) (Kd.cn aM) hb);replace eL:=k0 (Kd.alB (aR eL.out) (Kd.cn aM) hb);replace ag:=k0 (alm (g:=ai) (o:=sO af aq aa ak 31) bk hb);replace HB:=k0 (aI bl hb);(try clear hb);(try clear aM)))
           go_roundg k4
           case measure=>have:=zX.out;have:=E0.out;have:=cN.out;have:=fH.out;omega
           case rel=>exact ⟨(t128),(wrap64 (jI+1)),rs,H',⟨by have:=zX.out;have:=E0.out;have:=cN.out;have:=fH.out;omega⟩,⟨aN (Kd.uh alr.out (fun _ hk=>⟨hk.1.1,⟨hk.1.2.1,⟨hk.1.2.2.1,⟨hk.2,hk.1.2.2.2.2.2⟩⟩⟩⟩))⟩,⟨aR (Kd.alq aZ.out (fun _ hk=>⟨hk.1.1,⟨hk.1.2.1,trivial⟩⟩))⟩,⟨aR (Kd.alq cA.out (fun _ hk=>⟨hk.1.1,⟨hk.1.2.1,hk.2⟩⟩))⟩,⟨aR (Kd.alq Vl.out (fun _ hk=>⟨hk.1.1.1.1.1,⟨trivial,hk.1.1.2⟩⟩))⟩,⟨bk⟩,⟨bl⟩⟩
          rw [if_pos c39] at H
          have AA:=decide_eq_true c39
          clear c39
          replace H:=iS H;obtain ⟨c40,H⟩:=H
          have uu:=decide_eq_true c40
          clear c40
          replace H:=iS H;obtain ⟨c41,H⟩:=H
          have yt:=decide_eq_true c41
          clear c41
          replace H:=iS H;obtain ⟨c42,H⟩:=H
          have VO:=k0 c42
          clear c42
          obtain ⟨TS,DZ⟩:∃ y_:List Int,y_=(zJ ++ [wrap64 ((rd jV gH)+(rd t110 gH))]):=⟨_,rfl⟩
          replace H:(bP.l1 k4 t107 t110 iA jV jI TS (wrap64 (gH+1)))=some (r1,r2):=by first|(rw [DZ];with_reducible exact H)|(have ax:=(Option.bind_some _ _).symm.trans H;rw [DZ];with_reducible exact ax)|(have ax:=(Option.bind_some _ _).symm.trans H;with_reducible exact ax)|with_reducible exact H|(rw [DZ];exact H)|exact H
          have V5:=k0 DZ
          clear DZ
          have H':=k0 H
          clear H
          try go_wp2
          replace alr:=k0 (Kd.z8 alr.out);replace aZ:=k0 (Kd.bn aZ.out);replace cA:=k0 (Kd.bn cA.out);replace cE:=k0 (Kd.bn cE.out);replace eL:=k0 (Kd.bn eL.out);replace ag:=k0 (cw ag.out);replace HB:=k0 (cP HB.out)
          have xQ:0≤(gH:Int):=oD
          have xT:gH < (jV.length:Int):=oD
          obtain ⟨Am,e123,xG⟩:=Kd.bJ (Kd.bx cE.out).2.2 gH xQ xT
          cases e123
          replace xQ:=eq_true xQ
          replace xT:=eq_true xT
          have zv:0≤(gH:Int):=oD
          have zy:gH < (t110.length:Int):=oD
          obtain ⟨am5,e124,Bn⟩:=Kd.bJ (Kd.bx aZ.out).2.2 gH zv zy
          cases e124
          replace zv:=eq_true zv
          replace zy:=eq_true zy
          refine lU (n:=13) (S:=fun w'=>w'.cell? (Am.add (gH).toNat)=some (.int .i64 (rd jV gH))∧w'.cell? (am5.add (gH).toNat)=some (.int .i64 (rd t110 gH))) (ds:=[10,11]) (ba 13 0) (by kernel_rfl) rfl rfl ⟨xG,Bn⟩ (fun hHeld=>?_);refine pW bP.ae0 bP.an7 (fun ay cZ=>?_)
          generalize wr.drew=G6 at alr aZ cA cE eL ag HB xG Bn hHeld ⊢
          refine pu 0 (some 50) (ba 13 1) ay (h:=?_)
          refine pu 1 (some 51) (ba 13 3) ay (h:=?_)
          refine pu 2 (some 52) (ba 13 7) ay (h:=?_)
          refine pu 3 (some 53) (ba 13 15) ay (h:=?_)
          refine pu 5 (some 55) (ba 13 47) ay (h:=?_)
          refine pu 6 (some 56) (ba 13 111) ay (h:=?_)
          refine pu 7 (some 57) (ba 13 239) ay (h:=?_)
          refine ta 4 (some 54) (ba 13 255) ay cZ hHeld (hy:=Or.inl ⟨by rfl,by rintro w' ⟨s0,s1⟩;go_simp;with_reducible rfl⟩) (h:=?_)
          refine ta 8 (some 58) (ba 13 511) ay cZ hHeld (hy:=Or.inl ⟨by rfl,by rintro w' ⟨s0,s1⟩;go_simp;with_reducible rfl⟩) (h:=?_)
          refine pu 9 (some 59) (ba 13 1023) ay (h:=?_)
          refine qE (i:=10) (N:=some 60) (ba 13 2047) rfl rfl (kg ay.out (by kernel_rfl)) (by decide) (fun K hK=>?_)
          refine G5 (w1:=?_) (v:=?_) (by rfl) rfl ?_ ?_
          rotate_left 2
          ·go_simp
           constructor
           ·rfl
           ·rfl
          refine hK.out _ _ ?_
          clear hK K
          refine cQ (a':=?_) ?_ ?_
          rotate_left;· show Act.put _ (some 60) _=_;simp only [Act.put,zI,zZ,zS,cl,cv];rfl
          refine qE (i:=11) (N:=some 61) (ba 13 4095) rfl rfl (kg ay.out (by kernel_rfl)) (by decide) (fun K hK=>?_)
          refine Kd.Wm (Kd.int .i64) (w0:=w) w.heap.size (by rfl) (.tmp 50) (.tmp 60) 28 2 (.int .i64 0) 8 rfl Try.underlying28 alU rfl (by decide) (by omega) u12 zJ (wrap64 ((rd jV gH)+(rd t110 gH))) [.int .i64 (wrap64 ((rd jV gH)+(rd t110 gH)))] (fun k_=>(w.heap.size≤k_)∧some k_ ≠ (.slice (some am5) t110.length rR:Value).ownBlock∧some k_ ≠ (.slice ua iA.length sJ:Value).ownBlock∧some k_ ≠ (.slice (some Am) jV.length uv:Value).ownBlock) (fun _=>False) rfl rfl ?aP (fun _ hk=>hk.elim) ?aF ?aO ?aB ?aS ?aL ?_
          (case aP=>exact rfl)
          (case aB=>exact bl)
          (case aF=>exact (fun k_ hk=>⟨(Nat.le_trans (alk bl) hk),Kd.fresh' (Kd.cH (aR aZ.out)) k_ hk,Kd.fresh' (Kd.cH (aR cA.out)) k_ hk,Kd.fresh' (Kd.cH (aR cE.out)) k_ hk⟩))
          (case aO=>exact (aR eL.out))
          (case aS=>exact (alk bl))
          (case aL=>have:=VO.out;omega)
          intro akD G7 ho hb hg bX
          rw [← V5.out] at ho
          have aE:=k0 (Kd.VW (ok:=(fun k_=>(gX k_∨w.heap.size≤k_)∧some k_ ≠ (.slice (some am5) t110.length rR:Value).ownBlock∧some k_ ≠ (.slice ua iA.length sJ:Value).ownBlock∧some k_ ≠ (.slice (some Am) jV.length uv:Value).ownBlock∧k_ ≠ ai)) (by (with_reducible repeat (first|apply Kd.Fb|apply Kd.Fc|apply Kd.z8));exact Kd.uh alr.out (fun _ hk=>⟨⟨hk.1,⟨hk.2.1,⟨hk.2.2.1,⟨hk.2.2.2.1,hk.2.2.2.2.2⟩⟩⟩⟩,hk.2.2.2.2.1⟩)) hg bX)
          have aH:=k0 (Kd.mz (ok:=(fun k_=>(w.heap.size≤k_)∧some k_ ≠ (.slice ua iA.length sJ:Value).ownBlock∧True)) (by (with_reducible repeat (first|apply Kd.bH|apply Kd.bL|apply Kd.bn));exact Kd.alq aZ.out (fun _ hk=>⟨⟨hk.1,⟨hk.2.1,hk.2.2.1⟩⟩,hk.2.2.2⟩)) hg bX)
          have aK:=k0 (Kd.mz (ok:=(fun k_=>(w.heap.size≤k_)∧some k_ ≠ (.slice (some am5) t110.length rR:Value).ownBlock∧some k_ ≠ (.slice (some Am) jV.length uv:Value).ownBlock)) (by (with_reducible repeat (first|apply Kd.bH|apply Kd.bL|apply Kd.bn));exact Kd.alq cA.out (fun _ hk=>⟨⟨hk.1,⟨hk.2.1,hk.2.2.1⟩⟩,hk.2.2.2⟩)) hg bX)
          have a_:=k0 (Kd.mz (ok:=(fun k_=>(w.heap.size≤k_)∧True∧some k_ ≠ (.slice ua iA.length sJ:Value).ownBlock)) (by (with_reducible repeat (first|apply Kd.bH|apply Kd.bL|apply Kd.bn));exact Kd.alq cE.out (fun _ hk=>⟨⟨hk.1,⟨hk.2.1,hk.2.2.1⟩⟩,hk.2.2.2⟩)) hg bX)
          have alp:=k0 (iQ (g:=ai) (o:=sO af aq aa ak 31) bk hg (Kd.gY eL.out ag.out (by decide)))
          have bw:=k0 (hb)
          have alx:=k0 (ho)
          clear alr
          clear aZ
          clear cA
          clear cE
          clear ag
          clear HB
          clear eL
          have alr:=aE
          have aZ:=aH
          have cA:=aK
          have cE:=a_
          have ag:=alp
          have HB:=bw
          have Vk:=alx
          clear aE aH aK a_ alp bw alx
          clear ho hb hg bX
          refine hK.out _ _ ?_
          clear hK K
          refine cQ (a':=?_) ?_ ?_
          rotate_left;· show Act.put _ (some 61) _=_;simp only [Act.put,zI,zZ,zS,cl,cv];rfl
          refine pu 12 (some 12) (ba 13 8191) ay (h:=?_)
          refine lQ (pN ay.out (by kernel_rfl)) ?_
          try go_wp2
          go_roundg k4
          case measure=>have:=zX.out;have:=E0.out;have:=cN.out;have:=fH.out;omega
          case rel=>exact ⟨(TS),(wrap64 (gH+1)),rs,H',⟨by have:=zX.out;have:=E0.out;have:=cN.out;have:=fH.out;omega⟩,⟨aN (Kd.uh alr.out (fun _ hk=>⟨hk.1.1,⟨hk.1.2.1,⟨hk.1.2.2.1,⟨hk.1.2.2.2.1,⟨hk.2,hk.1.2.2.2.2⟩⟩⟩⟩⟩))⟩,⟨aR (Kd.alq aZ.out (fun _ hk=>⟨hk.1.1,⟨hk.1.2.1,⟨hk.1.2.2,hk.2⟩⟩⟩))⟩,⟨aR (Kd.alq cA.out (fun _ hk=>⟨hk.1.1,⟨hk.1.2.1,⟨hk.1.2.2,hk.2⟩⟩⟩))⟩,⟨aR (Kd.alq cE.out (fun _ hk=>⟨hk.1.1,⟨hk.1.2.1,⟨hk.1.2.2,hk.2⟩⟩⟩))⟩,⟨aR (Vk.out)⟩,⟨bk⟩,⟨bl⟩⟩
       subst c32
       have H1:(some (jI,0))=some (r1,r2):=by rw [if_pos rfl] at H;exact H
       clear H
       have H:=H1
       clear H1
       simp only [Option.some.injEq,Prod.mk.injEq] at H
       obtain ⟨rfl,rfl⟩:=H
       obtain ⟨Hv,Jq,JE⟩:=Kd.eF cE.out
       subst JE
       obtain ⟨wB,amG,JF⟩:=Kd.eF cA.out
       subst JF
       go_wp2_with (first|((with_reducible refine dx (f:=94) rfl ?_);refine dy (some 41) rfl rfl Try.func94 (by kernel_rfl) rfl #[.slice Hv jV.length Jq,.slice wB iA.length amG] rfl gm ?_;(with_reducible refine (iC.calls k3 _ _ jV _ _ iA true _ ?aT ?aU ?cy ?cI EN.out).mono ?_);(case aT=>exact aC ((Kd.bx cE.out).2.2));(case aU=>exact (Kd.bx cE.out).2.1);(case cy=>exact aC ((Kd.bx cA.out).2.2));(case cI=>exact (Kd.bx cA.out).2.1);rintro e w' ⟨rfl,⟨nd,rfl⟩⟩;refine ⟨_,rfl,?_⟩))
       go_ret2
       exact ⟨by first|rfl|(simp [bz,bA]<;>rfl)|(simp [*,bz,bA]<;>rfl),bl⟩
/-! ### F194: function 194 -/
def gQ.f (a0:Int) (a1:Int) (a2:Int):Option (Bool):=if a0 ≥ a1 then (some (decide (a0≤a2))) else (some false)
set_option maxHeartbeats 8000000 in
set_option maxRecDepth 100000 in
theorem gQ.calls (a0 : Int) (a1 : Int) (a2 : Int) (r : Bool) (w : World) (h : gQ.f a0 a1 a2 = some r) :
  Calls Try.prog 194 #[.int .i64 a0,.int .i64 a1,.int .i64 a2] w fun e w'=>e=.returned (.bool r)∧bI w w':=by
 have H:(if a0 ≥ a1 then (some (decide (a0≤a2))) else (some false))=some r:=h
 clear h
 by_cases c4:a0 ≥ a1
 case neg =>
  rw [if_neg c4] at H
  have eD:decide (a1≤a0)=false:=decide_eq_false c4
  clear c4
  obtain rfl:=Option.some.inj H
  go_enter Try.func194,Try.ntmps194
  go_wp2
  go_ret
  exact ⟨by first|rfl|(simp;done)|(simp [*];done),by repeat (first|exact bI.refl _|apply bI.step)⟩
 rw [if_pos c4] at H
 have eD:=decide_eq_true c4
 clear c4
 obtain rfl:=Option.some.inj H
 go_enter Try.func194,Try.ntmps194
 go_wp2
 go_ret
 exact ⟨by first|rfl|(simp;done)|(simp [*];done),by repeat (first|exact bI.refl _|apply bI.step)⟩
end Go.Proofs.Ytoebojnhchocaaa.D
/- Set with little white space, by a program. -/
