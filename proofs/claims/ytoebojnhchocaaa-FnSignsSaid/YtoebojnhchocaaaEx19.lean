/- The functions that one law reaches, each as a Lean function, and that Go's call comes to what it says. Condition of each: that the Lean function answers (is not none). -/
import Derived.Test.YtoebojnhchocaaaEx0
import Derived.Test.YtoebojnhchocaaaEx1
import Derived.Test.YtoebojnhchocaaaEx9
import Derived.Test.YtoebojnhchocaaaEx12
import Derived.Test.YtoebojnhchocaaaEx15
import Derived.Test.YtoebojnhchocaaaEx16
import Derived.Test.YtoebojnhchocaaaEx17
import Derived.Test.YtoebojnhchocaaaEx18
namespace Go.Proofs.Ytoebojnhchocaaa.E
open Go.RowKit Go.Proofs.bY.apf Go.Proofs.bY.ko Go.Proofs.bY.kN
attribute [local go_sem] max2_int min2_int max_two min_two max_three min_three max_four min_four   -- for this text's walks alone
set_option linter.unusedVariables false
set_option linter.unusedSimpArgs false
set_option maxHeartbeats 8000000
set_option maxRecDepth 100000
/-! ### F54: function 54 -/
mutual
def gG.l0 : Nat → List Int → List (List Int) → Int → Option (List Int × Int)
 | 0,_,_,_=>none
 | k+1,x1,x7,x8=>if x8 < (x7.length:Int) then (if 0≤x8 then (gG.l1 k x1 x7 x8 0) else (none)) else ((bX.f k x7).bind fun t106=>(some (t106,0)))
def gG.l1 : Nat → List Int → List (List Int) → Int → Int → Option (List Int × Int)
 | 0,_,_,_,_=>none
 | k+1,x1,x7,x8,fS=>if fS < ((av x7 x8).length:Int) then (if 0≤fS then (if 0≤(wrap64 (Int.tdiv fS 2)) then (if (wrap64 (Int.tdiv fS 2)) < (x1.length:Int) then (gG.l1 k x1 (x7.set (x8:Int).toNat ((av x7 x8).set (fS:Int).toNat (wrap64 ((rd (av x7 x8) fS) * (rd x1 (wrap64 (Int.tdiv fS 2))))))) x8 (wrap64 (fS+1))) else (none)) else (none)) else (none)) else (gG.l0 k x1 x7 (wrap64 (x8+1)))
end
def gG.f (k:Nat) (ah:Int) (af:List (List Int)) (l1:List Int):Option (List Int × Int):=(apx.f k ah af l1).bind fun t102=>(if t102=0 then ((iB.f k ah af).bind fun t103=>(gG.l0 k l1 t103 0)) else (some (([]:List Int),t102)))
def gG.DI:Bool × List (List Nat × List Nat):=(true,[([],[]),([],[]),([],[]),([],[]),([2,3],[2,3]),([4],[4]),([],[]),([],[]),([7],[7]),([6,8],[6,8]),([9],[9]),([5,10],[5,10]),([0,1,0,1,2,3,4,5,6,7,8,9,10,11],[0,1]),([12,11,0,1,2,3,4,5,6,7,8,9,10,11],[11,12])])
def gG.IY:List Nat:=[0,0,0,0,12,28,0,0,128,448,960,2044,4095,8191]
theorem gG.Nd:iP .any (opsOf Try.f54 12)=gG.DI:=by kernel_rfl
theorem gG.JP:nA gG.DI.2 gG.IY=true:=by kernel_rfl
theorem gG.calls (k : Nat) (ah : Int) (aT : Option Addr) (aoW : Nat) (af : List (List Int)) (A1 : Option Addr) (c1 : Nat) (l1 : List Int) (r1 : List Int) (r2 : Int) (w : World) (cR : Kd.C (Kd.slice 2 (Kd.int .i64)) w aT af.length af) (cX : af.length ≤ aoW) (fY : Kd.C (Kd.int .i64) w A1 l1.length l1) (gi : l1.length ≤ c1) (h : gG.f k ah af l1 = some (r1, r2)) :
  Calls Try.prog 54 #[.agg #[.int .i64 ah,.slice aT af.length aoW],.slice A1 l1.length c1] w fun e w'=>∃ eE:Value,e=.returned (.tuple #[eE,.int .i64 r2])∧Kd.R (Kd.int .i64) 2 w' w.heap.size (fun _=>True) eE r1∧Below w.heap.size w w':=by
 have iX:=Try.underlying31
 have ao6:=k0 cR
 have cV:=k0 cX
 clear cR cX
 have gq:=k0 fY
 have lD:=k0 gi
 clear fY gi
 have HB:=k0 (Below.refl w.heap.size w)
 have H:((apx.f k ah af l1).bind fun t102=>(if t102=0 then ((iB.f k ah af).bind fun t103=>(gG.l0 k l1 t103 0)) else (some (([]:List Int),t102))))=some (r1,r2):=h
 clear h
 replace H:=Option.bind_eq_some_iff.mp H
 obtain ⟨t102,fJ,H⟩:=H
 replace H:(if t102=0 then ((iB.f k ah af).bind fun t103=>(gG.l0 k l1 t103 0)) else (some (([]:List Int),t102)))=some (r1,r2):=H
 have A3:=k0 fJ
 clear fJ
 by_cases c4:t102=0
 case neg =>
  rw [if_neg c4] at H
  have fX:(t102 == 0)=false:=beq_eq_false_iff_ne.mpr c4
  have qa:(t102 != 0)=true:=bne_iff_ne.mpr c4
  simp only [Option.some.injEq,Prod.mk.injEq] at H
  obtain ⟨rfl,rfl⟩:=H
  go_enter Try.func54,Try.ntmps54
  go_wp2_with (first|((with_reducible refine bp (N:=2) rfl ?_);refine bR 2 #[.int .i64 ah,.slice aT af.length aoW] 31 ?_;intro aoV hg aqF aE hb;have aa:=k0 (aE);have bB:=gW hg (aoS bl);have aX:=bB;replace HB:=k0 (aH bl hb);clear hb aE hg;have KP:=aQ aa;have KQ:=aoT aa;have La:=bF aa 0;have Lb:=bF aa 1)|((with_reducible refine bg (f:=134) rfl ?_);refine gC (some 13) Try.func134 #[.agg #[.int .i64 ah,.slice aT af.length aoW],.slice A1 l1.length c1] ?_;(with_reducible refine (apx.calls k ah _ _ af _ _ l1 t102 _ ?aoN ?aoP ?bA ?bH A3.z).mono ?_);(case aoN=>exact aC (Kd.ao4 ao6.z HB.z));(case aoP=>exact cV.z);(case bA=>exact aC (Kd.ao4 gq.z HB.z));(case bH=>exact lD.z);rintro e aqG ⟨rfl,hb⟩;refine ⟨_,rfl,?_⟩;replace aa:=kB aa hb;replace HB:=k0 (aH bl hb);))
  go_ret2
  exact ⟨_,eR,by first|exact Kd.kO _ _ _ _ _|exact Kd.lG _ _ _ _ _|exact Kd.apy _ _ _ _ _|exact Kd.lH _ _ _ _ _|exact Kd.lf _ _ _ _ _,bl⟩
 rw [if_pos c4] at H
 have fX:(t102 == 0)=true:=beq_iff_eq.mpr c4
 have qa:(t102 != 0)=false:=bne_eq_false_iff_eq.mpr c4
 clear c4
 replace H:=Option.bind_eq_some_iff.mp H
 obtain ⟨t103,kC,H⟩:=H
 replace H:(gG.l0 k l1 t103 0)=some (r1,r2):=H
 have A5:=k0 kC
 clear kC
 have H':=k0 H
 clear H
 go_enter Try.func54,Try.ntmps54
 go_wp2_with (first|((with_reducible refine bp (N:=2) rfl ?_);refine bR 2 #[.int .i64 ah,.slice aT af.length aoW] 31 ?_;intro aoV hg w6 aE hb;have aa:=k0 (aE);have bB:=gW hg (aoS bl);have aX:=bB;replace HB:=k0 (aH bl hb);clear hb aE hg;have Rk:=aQ aa;have Rl:=aoT aa;have abQ:=bF aa 0;have RF:=bF aa 1)|((with_reducible refine bg (f:=134) rfl ?_);refine gC (some 13) Try.func134 #[.agg #[.int .i64 ah,.slice aT af.length aoW],.slice A1 l1.length c1] ?_;(with_reducible refine (apx.calls k ah _ _ af _ _ l1 t102 _ ?aoN ?aoP ?bA ?bH A3.z).mono ?_);(case aoN=>exact aC (Kd.ao4 ao6.z HB.z));(case aoP=>exact cV.z);(case bA=>exact aC (Kd.ao4 gq.z HB.z));(case bH=>exact lD.z);rintro e w8 ⟨rfl,hb⟩;refine ⟨_,rfl,?_⟩;replace aa:=kB aa hb;replace HB:=k0 (aH bl hb);have v_:=aQ aa;have we:=aoT aa;have xp:=bF aa 0;have wh:=bF aa 1)|((with_reducible refine bg (f:=135) rfl ?_);refine gC (some 18) Try.func135 #[.agg #[.int .i64 ah,.slice aT af.length aoW]] ?_;(with_reducible refine (iB.calls k ah _ _ af t103 _ ?aoN ?aoP A5.z).mono ?_);(case aoN=>exact aC (Kd.ao4 ao6.z HB.z));(case aoP=>exact cV.z);rintro e mH ⟨tI,rfl,aD,hb⟩;refine ⟨_,rfl,?_⟩;have apd:=k0 (Kd.ig aD (aoS bl));replace aa:=kB aa hb;replace HB:=k0 (aH bl hb);))
 go_loopg [8] k (fun kq v8 w'=>∃ (cy:List (List Int)) (bw:Int),v8=.int .i64 bw∧aj (gG.l0 kq l1 cy bw=some (r1,r2))∧aj (kq≤k)∧aj (Kd.S (Kd.slice 2 (Kd.int .i64)) 28 w' w.heap.size (fun _=>True) tI cy)∧aj (w'.heap[aoV]?=some (sO ah aT af aoW 31))∧aj (Below w.heap.size w w'))
 case atStart=>exact ⟨(t103),(0),rs,H',⟨Nat.le_refl _⟩,⟨aS (apd.z)⟩,⟨bk⟩,⟨bl⟩⟩
 case round =>
  clear H'
  obtain ⟨cy,bw,rfl,HA,bx,apm,aa,HB⟩:=hrel
  cases gk with
  | zero=>exact absurd HA.z (by simp [gG.l0])
  | succ k1 =>
   have H:=HA.z
   clear HA
   simp only [gG.l0] at H
   by_cases c11:bw < (cy.length:Int)
   case neg =>
    rw [if_neg c11] at H
    have ku:decide (bw < (cy.length:Int))=false:=decide_eq_false c11
    clear c11
    replace H:=Option.bind_eq_some_iff.mp H
    obtain ⟨t106,apS,H⟩:=H
    replace H:(some (t106,0))=some (r1,r2):=H
    have vC:=k0 apS
    clear apS
    simp only [Option.some.injEq,Prod.mk.injEq] at H
    obtain ⟨rfl,rfl⟩:=H
    obtain ⟨FJ,Gm,Gt⟩:=Kd.apc apm.z
    subst Gt
    go_wp2_with (first|((with_reducible refine bg (f:=136) rfl ?_);refine gC (some 49) Try.func136 #[.slice FJ cy.length Gm] ?_;(with_reducible refine (bX.calls k1 _ _ cy t106 _ ?aoN ?aoP vC.z).mono ?_);(case aoN=>exact aC ((Kd.cQ apm.z).2.2));(case aoP=>exact (Kd.cQ apm.z).2.1);rintro e y5 ⟨v107,rfl,aD,hb⟩;refine ⟨_,rfl,?_⟩;replace apm:=k0 (Kd.cC (aS apm.z) (Kd.aU aD) hb);have kM:=k0 (Kd.cU aD (aoS bl));replace aa:=kB aa hb;replace HB:=k0 (aH bl hb);))
    go_ret2
    exact ⟨_,eR,by (with_reducible repeat (first|apply Kd.dK|apply Kd.dD|apply Kd.cB));exact kM.z,bl⟩
   rw [if_pos c11] at H
   have ku:=decide_eq_true c11
   clear c11
   replace H:=iS H;obtain ⟨c12,H⟩:=H
   have qJ:=decide_eq_true c12
   clear c12
   have H':=k0 H
   clear H
   obtain ⟨iQ,iF,xg⟩:=Kd.apc apm.z
   subst xg
   have wB:0≤(bw:Int):=oD
   have tE:bw < (cy.length:Int):=oD
   obtain ⟨DM,UF,XC,e109,E3,RV,RN⟩:=fW (Kd.cQ apm.z).2.2 bw wB tE
   cases e109
   obtain ⟨aho,aag,Z7,QX⟩:=Kd.vS apm.z [] bw wB (by first|exact tE|exact oD|(have e_:=(Kd.cQ apm.z).1;omega))
   obtain ⟨aon,rfl,Kl⟩:=Z7
   have EY:=QX 0 _ rfl
   rw [Nat.add_zero,show ((Kd.slice 2 (Kd.int .i64))).sz=1 from rfl,Nat.mul_one] at EY
   replace EY:=Option.some.inj (EY.symm.trans E3)
   rw [EY] at Kl
   have agK:=k0 (show Kd.R (Kd.int .i64) 2 _ _ _ _ (av cy bw) from Kl)
   clear EY Kl
   have OB:=k0 E3
   clear QX aag
   have agQ:=k0 RN
   have agC:=k0 RV
   clear RN RV
   replace wB:=eq_true wB
   replace tE:=eq_true tE
   go_wp2
   generalize RI:(.slice UF (av cy bw).length XC:Value)=afP
   have FQ:=k0 RI
   clear RI
   go_loopg [10] k1 (fun kq v10 w'=>∃ (ez:List (List Int)) (gz:Int),v10=.int .i64 gz∧aj (gG.l1 kq l1 ez bw gz=some (r1,r2))∧aj (kq≤k1)∧aj (pz w' (.slice (some DM) cy.length iF) bw afP)∧aj (Kd.S (Kd.slice 2 (Kd.int .i64)) 28 w' w.heap.size (fun _=>True) (.slice (some DM) cy.length iF) ez)∧aj (w'.heap[aoV]?=some (sO ah aT af aoW 31))∧aj (Below w.heap.size w w'))
   case atStart=>exact ⟨(cy),(0),rs,H',⟨Nat.le_refl _⟩,⟨by (with_reducible repeat (first|apply pz.alloc|apply pz.drewN|apply pz.drew));first|exact ⟨_,_,_,rfl,(by first|exact of_eq_true wB|exact s_ oF.out|omega),(by first|exact of_eq_true tE|exact nK oF.out|(have h_:=of_eq_true tE;omega)|(have h_:=nK oF.out;omega)),OB.z⟩|(rw [← FQ.out];exact ⟨_,_,_,rfl,(by first|exact of_eq_true wB|exact s_ oF.out|omega),(by first|exact of_eq_true tE|exact nK oF.out|(have h_:=of_eq_true tE;omega)|(have h_:=nK oF.out;omega)),OB.z⟩)⟩,⟨aS (apm.z)⟩,⟨bk⟩,⟨bl⟩⟩
   case round =>
    clear H'
    obtain ⟨ez,gz,rfl,HA,cD,oF,apm,aa,HB⟩:=hrel
    have th:=(Kd.cQ apm.z).1
    rw [th] at apm
    (try simp only [th])
    (try simp only [th] at aa)
    cases gk with
    | zero=>exact absurd HA.z (by simp [gG.l1])
    | succ k2 =>
     have H:=HA.z
     clear HA
     simp only [gG.l1] at H
     by_cases c14:gz < ((av ez bw).length:Int)
     case neg =>
      rw [if_neg c14] at H
      have pJ:decide (gz < ((av ez bw).length:Int))=false:=decide_eq_false c14
      (try simp only [th] at pJ)
      clear c14
      have H':=k0 H
      clear H
      have ac6:decide (0≤bw)=true:=decide_eq_true (s_ oF.out)
      have ac8:decide (bw < (ez.length:Int))=true:=decide_eq_true (by have h_:=nK oF.out;have e_:=(Kd.cQ apm.z).1;omega)
      have aqa:0≤(bw:Int):=oD
      have ap2:bw < (ez.length:Int):=oD
      obtain ⟨JL,UG,XE,e110,E4,EK,EF⟩:=fW (Kd.cQ apm.z).2.2 bw aqa ap2
      obtain rfl:DM=JL:=(by injection e110)
      obtain ⟨Yd,KE,Kw,Eo⟩:=Kd.vS apm.z [] bw aqa (by first|exact ap2|exact oD|(have e_:=(Kd.cQ apm.z).1;omega))
      obtain ⟨afL,rfl,Aa⟩:=Kw
      have uN:=Eo 0 _ rfl
      rw [Nat.add_zero,show ((Kd.slice 2 (Kd.int .i64))).sz=1 from rfl,Nat.mul_one] at uN
      replace uN:=Option.some.inj (uN.symm.trans E4)
      rw [uN] at Aa
      have zw:=k0 (show Kd.R (Kd.int .i64) 2 _ _ _ _ (av ez bw) from Aa)
      clear uN Aa
      have ya:=k0 E4
      clear Eo KE
      have Bq:=k0 EF
      have VI:=k0 EK
      clear EF EK
      replace aqa:=eq_true aqa
      replace ap2:=eq_true ap2
      obtain rfl:=GL oF.out ya.z
      go_wp2
      (try simp only [← th])
      first|go_roundg k2|(simp only [← Af];go_roundg k2)|((try (have e_:=FQ.out;injection e_ with zU J8 zV;subst zU zV));go_roundg k2)
      case measure=>have:=bx.z;have:=cD.z;omega
      case rel=>exact ⟨(ez),(wrap64 (bw+1)),rs,(by first|exact H'|(rw [Af];exact H')),⟨by have:=bx.z;have:=cD.z;omega⟩,⟨by (try simp only [th]);(with_reducible repeat (first|apply Kd.cM|apply Kd.cI|apply Kd.cr));exact apm.z⟩,⟨by (try simp only [th]);exact bk⟩,⟨bl⟩⟩
     rw [if_pos c14] at H
     have pJ:=decide_eq_true c14
     (try simp only [th] at pJ)
     clear c14
     replace H:=iS H;obtain ⟨c15,H⟩:=H
     have oN:=decide_eq_true c15
     clear c15
     obtain ⟨uU,Af⟩:∃ j_:Int,(wrap64 (Int.tdiv gz 2))=j_:=⟨_,rfl⟩
     replace H:(if 0≤(uU) then (if (uU) < (l1.length:Int) then (gG.l1 k2 l1 (ez.set (bw:Int).toNat ((av ez bw).set (gz:Int).toNat (wrap64 ((rd (av ez bw) gz) * (rd l1 (uU)))))) bw (wrap64 (gz+1))) else (none)) else (none))=some (r1,r2):=by first|(rw [Af] at H;exact H)|(simp only [Af] at H ⊢;exact H)
     have al8:(IntKind.i64.wrap (Int.tdiv gz 2))=uU:=(cm _).trans Af
     replace H:=iS H;obtain ⟨c17,H⟩:=H
     have ur:=decide_eq_true c17
     clear c17
     replace H:=iS H;obtain ⟨c18,H⟩:=H
     have apY:=decide_eq_true c18
     (try simp only [th] at apY)
     clear c18
     obtain ⟨aqh,uQ⟩:∃ y_:List Int,y_=((av ez bw).set (gz:Int).toNat (wrap64 ((rd (av ez bw) gz) * (rd l1 (uU))))):=⟨_,rfl⟩
     replace H:(gG.l1 k2 l1 (ez.set (bw:Int).toNat aqh) bw (wrap64 (gz+1)))=some (r1,r2):=rH uQ H
     have Dz:=k0 uQ
     clear uQ
     obtain ⟨nD,ot⟩:∃ y_:List (List Int),y_=(ez.set (bw:Int).toNat aqh):=⟨_,rfl⟩
     replace H:(gG.l1 k2 l1 nD bw (wrap64 (gz+1)))=some (r1,r2):=rH ot H
     have vQ:=k0 ot
     clear ot
     have H':=k0 H
     clear H
     have ac6:decide (0≤bw)=true:=decide_eq_true (s_ oF.out)
     have ac8:decide (bw < (ez.length:Int))=true:=decide_eq_true (by have h_:=nK oF.out;have e_:=(Kd.cQ apm.z).1;omega)
     have aqa:0≤(bw:Int):=oD
     have ap2:bw < (ez.length:Int):=oD
     obtain ⟨JL,UG,XE,e110,E4,EK,EF⟩:=fW (Kd.cQ apm.z).2.2 bw aqa ap2
     obtain rfl:DM=JL:=(by injection e110)
     obtain ⟨Yd,KE,Kw,Eo⟩:=Kd.vS apm.z [] bw aqa (by first|exact ap2|exact oD|(have e_:=(Kd.cQ apm.z).1;omega))
     obtain ⟨afL,rfl,Aa⟩:=Kw
     have uN:=Eo 0 _ rfl
     rw [Nat.add_zero,show ((Kd.slice 2 (Kd.int .i64))).sz=1 from rfl,Nat.mul_one] at uN
     replace uN:=Option.some.inj (uN.symm.trans E4)
     rw [uN] at Aa
     have zw:=k0 (show Kd.R (Kd.int .i64) 2 _ _ _ _ (av ez bw) from Aa)
     clear uN Aa
     have ya:=k0 E4
     clear Eo KE
     have Bq:=k0 EF
     have VI:=k0 EK
     clear EF EK
     replace aqa:=eq_true aqa
     replace ap2:=eq_true ap2
     obtain rfl:=GL oF.out ya.z
     try go_wp2
     replace apm:=k0 (Kd.cr apm.z);replace zw:=k0 (Kd.cB zw.z);replace aa:=k0 (aJ aa.z);replace Bq:=k0 (Kd.vG Bq.z);replace ya:=k0 ((show (wr.drew).cell? _=some _ from ya.z));replace HB:=k0 (aZ HB.z)
     have apG:0≤(gz:Int):=oD
     have ox:gz < ((av ez bw).length:Int):=oD
     obtain ⟨zL,e111,oQ⟩:=Kd.cN (by repeat (first|(with_reducible exact Bq.z)|(with_reducible refine Kd.wL ?_ _)|(with_reducible refine Kd.zh ?_ _)|(with_reducible refine Kd.vG ?_)|exact Bq.z)) gz apG ox
     cases e111
     replace apG:=eq_true apG
     replace ox:=eq_true ox
     have qm:0≤((uU):Int):=oD
     have qo:(uU) < (l1.length:Int):=oD
     obtain ⟨zM,e112,sx⟩:=Kd.cN gq.z (uU) qm qo
     have acV:=sx
     cases e112
     replace sx:=hbc HB sx
     replace qm:=eq_true qm
     replace qo:=eq_true qo
     have AM:0≤(gz:Int):=oD
     have AR:(gz:Int) < (((av ez bw).length:Int):Int):=oD
     obtain ⟨Eg,ap9,qO,Ed,Kp,Yj,Df⟩:=Kd.aql zw.z (by omega)
     (first|cases qO|(injection qO with er apw apv;(first|subst er|(injection er with er;subst er));subst apv;clear apw))
     (first|simp only [add_plain] at oQ|skip)
     have N_:=k0 Ed
     have Ob:=k0 Df
     clear Ed Kp Df
     (first|simp only [add_plain] at oQ|skip)
     obtain ⟨SH,Rm⟩:=Kd.vR 0 zw.z (gz:Int) AM AR
     replace AM:=eq_true AM
     replace AR:=eq_true AR
     have ET:(bw:Int) < (ez.length:Int):=(by have h_:(bw:Int) < ((ez.length:Int):Int):=oD;first|exact h_|(have e_:=(Kd.cQ apm.z).1;omega)|simpa only [List.length_set,List.length_set] using h_)
     obtain ⟨Mo,PI,Ep,El,yz,xu,yx⟩:=Kd.DF apm.z [] (bw:Int) oD (by first|exact ET|(have e_:=(Kd.cQ apm.z).1;omega))
     obtain ⟨Uc,rfl,pL⟩:=El
     have rJ:=yz 0 _ rfl
     rw [Nat.add_zero,show ((Kd.slice 2 (Kd.int .i64))).sz=1 from rfl,Nat.mul_one] at rJ
     replace rJ:=Option.some.inj (rJ.symm.trans ya.z)
     subst rJ
     clear yz Ep
     replace pL:=(show Kd.R (Kd.int .i64) 2 _ _ _ _ (av ez bw) from pL)
     have pn:=Kd.zH pL (gz:Int) (wrap64 ((rd (av ez bw) gz) * (rd l1 (uU))))
     have Dp:=k0 (zQ pn.2 ya.z (DV (xu _ (pL.1 _ rfl)).2))
     rw [← Dz.z] at pn
     have VR:=k0 pn.1
     have zy:=yx pn.2 (fun k_ e_=>by injection e_ with e_;subst e_;exact pL.1 _ rfl) (x':=aqh) (Kd.apB pn.1)
     rw [← vQ.z] at zy
     have Dn:=k0 zy
     clear pn zy yx xu
     refine apA (n:=14) (S:=fun w'=>w'.cell? ⟨Eg,(gz).toNat,none⟩=some (.int .i64 (rd (av ez bw) gz))∧w'.cell? (zM.add ((uU)).toNat)=some (.int .i64 (rd l1 (uU)))) (ds:=[13]) (ba 14 0) (by kernel_rfl) rfl rfl ⟨oQ,(hbc HB acV)⟩ (fun hHeld=>?_);refine nB gG.Nd gG.JP (fun az dA=>?_)
     generalize wr.drew=aqf at apm zw aa Bq ya HB Ob Dn Dp Rm oQ sx SH hHeld ⊢
     refine pu 0 (some 35) (ba 14 1) az (h:=?_)
     refine pu 1 (some 36) (ba 14 3) az (h:=?_)
     refine pu 2 (some 37) (ba 14 7) az (h:=?_)
     refine pu 3 (some 38) (ba 14 15) az (h:=?_)
     refine pu 4 (some 39) (ba 14 31) az (h:=?_)
     refine pu 6 (some 41) (ba 14 95) az (h:=?_)
     refine pu 7 (some 42) (ba 14 223) az (h:=?_)
     refine pu 8 (some 43) (ba 14 479) az (h:=?_)
     refine pu 9 (some 44) (ba 14 991) az (h:=?_)
     refine ta 5 (some 40) (ba 14 1023) az dA hHeld (hy:=Or.inl ⟨by rfl,by rintro w' ⟨s0,s1⟩;go_simp;with_reducible rfl⟩) (h:=?_)
     refine ta 10 (some 45) (ba 14 2047) az dA hHeld (hy:=Or.inl ⟨by rfl,by rintro w' ⟨s0,s1⟩;go_simp;with_reducible rfl⟩) (h:=?_)
     refine pu 11 (some 46) (ba 14 4095) az (h:=?_)
     refine pu 12 (some 47) (ba 14 8191) az (h:=?_)
     refine uW (i:=13) (N:=none) (ba 14 16383) rfl rfl (hO az.out (by kernel_rfl)) (by decide) (fun K hK=>?_)
     refine tG (w1:=?_) (by rfl) rfl ?_ ?_
     rotate_left;· go_simp;rfl
     refine hK.out _ _ ?_
     clear hK K
     refine lY (nj az.out (by kernel_rfl)) ?_
     try go_wp2
     (try simp only [← th])
     first|go_roundg k2|(simp only [← Af];go_roundg k2)|((try (have e_:=FQ.out;injection e_ with zU J8 zV;subst zU zV));go_roundg k2)
     case measure=>have:=bx.z;have:=cD.z;omega
     case rel=>exact ⟨(nD),(wrap64 (gz+1)),rs,(by first|exact H'|(rw [Af];exact H')),⟨by have:=bx.z;have:=cD.z;omega⟩,⟨by (with_reducible repeat (first|apply pz.alloc|apply pz.drewN|apply pz.drew));first|exact ⟨_,_,_,rfl,(by first|exact of_eq_true aqa|exact s_ oF.out|omega),(by first|exact of_eq_true ap2|exact nK oF.out|(have h_:=of_eq_true ap2;omega)|(have h_:=nK oF.out;omega)),Dp.z⟩|(rw [← FQ.out];exact ⟨_,_,_,rfl,(by first|exact of_eq_true aqa|exact s_ oF.out|omega),(by first|exact of_eq_true ap2|exact nK oF.out|(have h_:=of_eq_true ap2;omega)|(have h_:=nK oF.out;omega)),Dp.z⟩)⟩,⟨by (try simp only [th]);(with_reducible repeat (first|apply Kd.cM|apply Kd.cI|apply Kd.cr));exact Dn.out⟩,⟨by (try simp only [th]);(with_reducible repeat (first|refine aoU ?_ _|refine aJ ?_|refine aoQ ?_ _));refine bW ?_ (by have h_:=Kd.kr zw.z aa.z (by decide);intro e_;exact h_ (by rw [e_];rfl)) _;exact bk⟩,⟨aL HB.z⟩⟩
/-! ### F137: function 137 -/
def wN.f (k:Nat) (aI:List Int) (bV:Int) (ao5:Int):Option (Int × (List (List Int)) × Int × Int):=(dg.f aI bV ao5 4).bind fun ao2=>(if ao2.1=0 then ((tW.f k aI ao2.2.1 ao2.2.2).bind fun rq=>(some (rq.1,rq.2.1,rq.2.2.1,rq.2.2.2))) else ((dg.f aI ao2.2.1 ao2.2.2 3).bind fun um=>((dg.f aI um.2.1 um.2.2 4).bind fun eS=>((cA.f k aI eS.2.1 eS.2.2 (wrap64 (1+um.1)) (wrap64 (1+eS.1))).bind fun lW=>(some (lW.1,lW.2.1,lW.2.2.1,lW.2.2.2))))))
theorem wN.calls (k : Nat) (g : Nat) (aI : List Int) (bV : Int) (ao5 : Int) (r1 : Int) (r2 : List (List Int)) (r3 : Int) (r4 : Int) (w0 w : World) (hI : ag w0 w g aI bV ao5) (hB : Below w0.heap.size w0 w) (h : wN.f k aI bV ao5 = some (r1, r2, r3, r4)) :
  Calls Try.prog 137 #[.pointer (some ⟨g,0,none⟩)] w fun e w'=>∃ eM:Value,e=.returned (.agg #[.int .i64 r1,eM])∧Kd.V (Kd.slice 2 (Kd.int .i64)) 28 w' w.heap.size (fun k_=>(w.heap.size≤k_)) eM r2∧ag w0 w' g aI r3 r4∧Below w0.heap.size w0 w'∧aoR w w' g none:=by
 have iX:=Try.underlying31
 have ai:=k0 hI
 have HK:=k0 (aoR.refl w g none)
 have HL:=k0 hB.size
 clear hI
 have apt:=k0 hB.size
 have HB:=k0 hB
 clear hB
 have H:((dg.f aI bV ao5 4).bind fun ao2=>(if ao2.1=0 then ((tW.f k aI ao2.2.1 ao2.2.2).bind fun rq=>(some (rq.1,rq.2.1,rq.2.2.1,rq.2.2.2))) else ((dg.f aI ao2.2.1 ao2.2.2 3).bind fun um=>((dg.f aI um.2.1 um.2.2 4).bind fun eS=>((cA.f k aI eS.2.1 eS.2.2 (wrap64 (1+um.1)) (wrap64 (1+eS.1))).bind fun lW=>(some (lW.1,lW.2.1,lW.2.2.1,lW.2.2.2)))))))=some (r1,r2,r3,r4):=h
 clear h
 replace H:=Option.bind_eq_some_iff.mp H
 obtain ⟨⟨t102,t103,t104⟩,fI,H⟩:=H
 replace H:(if t102=0 then ((tW.f k aI t103 t104).bind fun rq=>(some (rq.1,rq.2.1,rq.2.2.1,rq.2.2.2))) else ((dg.f aI t103 t104 3).bind fun um=>((dg.f aI um.2.1 um.2.2 4).bind fun eS=>((cA.f k aI eS.2.1 eS.2.2 (wrap64 (1+um.1)) (wrap64 (1+eS.1))).bind fun lW=>(some (lW.1,lW.2.1,lW.2.2.1,lW.2.2.2))))))=some (r1,r2,r3,r4):=H
 have A2:=k0 fI
 clear fI
 by_cases c3:t102=0
 case neg =>
  rw [if_neg c3] at H
  have jd:(t102 == 0)=false:=beq_eq_false_iff_ne.mpr c3
  have oc:(t102 != 0)=true:=bne_iff_ne.mpr c3
  replace H:=Option.bind_eq_some_iff.mp H
  obtain ⟨⟨t111,t112,t113⟩,xP,H⟩:=H
  replace H:((dg.f aI t112 t113 4).bind fun eS=>((cA.f k aI eS.2.1 eS.2.2 (wrap64 (1+t111)) (wrap64 (1+eS.1))).bind fun lW=>(some (lW.1,lW.2.1,lW.2.2.1,lW.2.2.2))))=some (r1,r2,r3,r4):=H
  have CW:=k0 xP
  clear xP
  replace H:=Option.bind_eq_some_iff.mp H
  obtain ⟨⟨t114,t115,t116⟩,xQ,H⟩:=H
  replace H:((cA.f k aI t115 t116 (wrap64 (1+t111)) (wrap64 (1+t114))).bind fun lW=>(some (lW.1,lW.2.1,lW.2.2.1,lW.2.2.2)))=some (r1,r2,r3,r4):=H
  have vB:=k0 xQ
  clear xQ
  replace H:=Option.bind_eq_some_iff.mp H
  obtain ⟨⟨t117,t118,t121,t122⟩,tV,H⟩:=H
  replace H:(some (t117,t118,t121,t122))=some (r1,r2,r3,r4):=H
  have qw:=k0 tV
  clear tV
  simp only [Option.some.injEq,Prod.mk.injEq] at H
  obtain ⟨rfl,rfl,rfl,rfl⟩:=H
  go_enter Try.func137,Try.ntmps137
  go_wp2_with (first|((with_reducible refine bp (N:=2) rfl ?_);refine bR 2 #[.int .i64 0,.slice none 0 0] 31 ?_;intro aoV hg tL aE hb;replace HB:=k0 (aH (by repeat (first|(with_reducible first|exact HB.z|apply a_|apply bf|apply aZ|refine aoO ?_ (ag.ge ai.z))|exact HB.z)) hb);have aa:=k0 (aE);have bB:=gW hg (dU (aK HK.z));have aX:=k0 (Nat.le_trans apt.z bB.z);replace HK:=k0 (aoR.trans (aK HK.z) (aoR.iq hb g none) (.inl rfl));have dH:=k0 ((by rw [hg];exact Nat.ne_of_lt (ag.lt (show ag w0 _ g aI bV ao5 from aoZ ai.z)):g ≠ aoV));have dI:=k0 ((by rw [hg];exact Nat.ne_of_gt (ag.lt (show ag w0 _ g aI bV ao5 from aoZ ai.z)):aoV ≠ g));replace ai:=k0 (ag.below (aoZ ai.z) hb);clear hb aE hg)|((with_reducible refine bg (f:=112) rfl ?_);refine gC (some 4) Try.func112 #[.pointer (some ⟨g,0,none⟩),.int .i64 4] ?_;(with_reducible refine (dg.calls g aI bV ao5 4 t102 t103 t104 w0 _ ?aoN ?aoP A2.z).mono ?_);(case aoN=>repeat (first|(with_reducible first|exact ai.z|apply ag.alloc|apply ag.drewN|apply ag.drew|apply ag.fZ|apply ag.f_|refine ag.ao' ?_ dH.z _)|exact ai.z));(case aoP=>repeat (first|(with_reducible first|exact HB.z|apply a_|apply bf|apply aZ|refine aoO ?_ (ag.ge ai.z)|refine aoO ?_ aX.z)|exact HB.z));rintro e qq ⟨rfl,hi,hb,hk⟩;refine ⟨_,rfl,?_⟩;replace aa:=k0 (aoR.blk hk (aB aa.z) dI.z (by simp));replace HK:=k0 (aoR.trans (aK HK.z) hk (.inl rfl));replace HB:=k0 (hb);replace ai:=k0 (hi);)|((with_reducible refine bg (f:=112) rfl ?_);refine gC (some 10) Try.func112 #[.pointer (some ⟨g,0,none⟩),.int .i64 3] ?_;(with_reducible refine (dg.calls g aI t103 t104 3 t111 t112 t113 w0 _ ?aoN ?aoP CW.z).mono ?_);(case aoN=>repeat (first|(with_reducible first|exact ai.z|apply ag.alloc|apply ag.drewN|apply ag.drew|apply ag.fZ|apply ag.f_|refine ag.ao' ?_ dH.z _)|exact ai.z));(case aoP=>repeat (first|(with_reducible first|exact HB.z|apply a_|apply bf|apply aZ|refine aoO ?_ (ag.ge ai.z)|refine aoO ?_ aX.z)|exact HB.z));rintro e xE ⟨rfl,hi,hb,hk⟩;refine ⟨_,rfl,?_⟩;replace aa:=k0 (aoR.blk hk (aB aa.z) dI.z (by simp));replace HK:=k0 (aoR.trans (aK HK.z) hk (.inl rfl));replace HB:=k0 (hb);replace ai:=k0 (hi);)|((with_reducible refine bg (f:=112) rfl ?_);refine gC (some 13) Try.func112 #[.pointer (some ⟨g,0,none⟩),.int .i64 4] ?_;(with_reducible refine (dg.calls g aI t112 t113 4 t114 t115 t116 w0 _ ?aoN ?aoP vB.z).mono ?_);(case aoN=>repeat (first|(with_reducible first|exact ai.z|apply ag.alloc|apply ag.drewN|apply ag.drew|apply ag.fZ|apply ag.f_|refine ag.ao' ?_ dH.z _)|exact ai.z));(case aoP=>repeat (first|(with_reducible first|exact HB.z|apply a_|apply bf|apply aZ|refine aoO ?_ (ag.ge ai.z)|refine aoO ?_ aX.z)|exact HB.z));rintro e xF ⟨rfl,hi,hb,hk⟩;refine ⟨_,rfl,?_⟩;replace aa:=k0 (aoR.blk hk (aB aa.z) dI.z (by simp));replace HK:=k0 (aoR.trans (aK HK.z) hk (.inl rfl));replace HB:=k0 (hb);replace ai:=k0 (hi);)|((with_reducible refine bg (f:=113) rfl ?_);refine gC (some 15) Try.func113 #[.pointer (some ⟨g,0,none⟩),.int .i64 (wrap64 (1+t111)),.int .i64 (wrap64 (1+t114))] ?_;(with_reducible refine (cA.calls k g aI t115 t116 (wrap64 (1+t111)) (wrap64 (1+t114)) t117 t118 t121 t122 w0 _ ?aoN ?aoP qw.z).mono ?_);(case aoN=>repeat (first|(with_reducible first|exact ai.z|apply ag.alloc|apply ag.drewN|apply ag.drew|apply ag.fZ|apply ag.f_|refine ag.ao' ?_ dH.z _)|exact ai.z));(case aoP=>repeat (first|(with_reducible first|exact HB.z|apply a_|apply bf|apply aZ|refine aoO ?_ (ag.ge ai.z)|refine aoO ?_ aX.z)|exact HB.z));rintro e CL ⟨Ua,rfl,aD,hi,hb,hk⟩;refine ⟨_,rfl,?_⟩;replace aa:=k0 (aoR.blk hk (aB aa.z) dI.z (by simp));have aqw:=k0 (Kd.ig (Kd.Bw (M:=fun k_=>(w.heap.size≤k_)) aD (dU (aK HK.z)) (fun k_ h_=>h_)) (dU (aK HK.z)));replace HK:=k0 (aoR.trans (aK HK.z) hk (.inl rfl));replace HB:=k0 (hb);replace ai:=k0 (hi);have R7:=dI.z;have Sj:=dH.z;have GA:=aQ aa;have GB:=aoT aa;have GM:=bF aa 0;have GN:=bF aa 1;obtain ⟨NZ,PX,Zn⟩:=Kd.apc aqw.z;subst Zn))
  refine bodyPost_ret (results_cell_row rfl _ _ aoV 31 #[.int .i64 t117,.slice NZ t118.length PX] (0,0) _ rfl (by (with_reducible repeat (first|refine aoU ?_ _|refine aJ ?_|refine aoQ ?_ _));refine bE (cs:=#[.int .i64 t117,.slice none 0 0]) ?_ 1 _ rfl;(with_reducible repeat (first|refine aoU ?_ _|refine aJ ?_|refine aoQ ?_ _));refine bE (cs:=#[.int .i64 0,.slice none 0 0]) ?_ 0 _ rfl;exact bk) Try.underlying31 rfl (by kernel_rfl)) rfl ?_
  exact ⟨_,eR,Kd.Bv (by (with_reducible repeat (first|apply Kd.cM|apply Kd.cI|apply Kd.cr));exact Kd.bq (gS 1 (.slice NZ t118.length PX) (gS 0 (.int .i64 t117) (tS aqw aa))) (fun _ hk=>hk.1.1)),aoZ ai.z,by repeat (first|(with_reducible first|exact HB.z|apply a_|apply bf|apply aZ|refine aoO ?_ (ag.ge ai.z)|refine aoO ?_ aX.z)|exact HB.z),aK HK.z⟩
 rw [if_pos c3] at H
 have jd:(t102 == 0)=true:=beq_iff_eq.mpr c3
 have oc:(t102 != 0)=false:=bne_eq_false_iff_eq.mpr c3
 clear c3
 replace H:=Option.bind_eq_some_iff.mp H
 obtain ⟨⟨t105,t106,t109,t110⟩,fu,H⟩:=H
 replace H:(some (t105,t106,t109,t110))=some (r1,r2,r3,r4):=H
 have A4:=k0 fu
 clear fu
 simp only [Option.some.injEq,Prod.mk.injEq] at H
 obtain ⟨rfl,rfl,rfl,rfl⟩:=H
 go_enter Try.func137,Try.ntmps137
 go_wp2_with (first|((with_reducible refine bp (N:=2) rfl ?_);refine bR 2 #[.int .i64 0,.slice none 0 0] 31 ?_;intro aoV hg w5 aE hb;replace HB:=k0 (aH (by repeat (first|(with_reducible first|exact HB.z|apply a_|apply bf|apply aZ|refine aoO ?_ (ag.ge ai.z))|exact HB.z)) hb);have aa:=k0 (aE);have bB:=gW hg (dU (aK HK.z));have aX:=k0 (Nat.le_trans apt.z bB.z);replace HK:=k0 (aoR.trans (aK HK.z) (aoR.iq hb g none) (.inl rfl));have dH:=k0 ((by rw [hg];exact Nat.ne_of_lt (ag.lt (show ag w0 _ g aI bV ao5 from aoZ ai.z)):g ≠ aoV));have dI:=k0 ((by rw [hg];exact Nat.ne_of_gt (ag.lt (show ag w0 _ g aI bV ao5 from aoZ ai.z)):aoV ≠ g));replace ai:=k0 (ag.below (aoZ ai.z) hb);clear hb aE hg)|((with_reducible refine bg (f:=112) rfl ?_);refine gC (some 4) Try.func112 #[.pointer (some ⟨g,0,none⟩),.int .i64 4] ?_;(with_reducible refine (dg.calls g aI bV ao5 4 t102 t103 t104 w0 _ ?aoN ?aoP A2.z).mono ?_);(case aoN=>repeat (first|(with_reducible first|exact ai.z|apply ag.alloc|apply ag.drewN|apply ag.drew|apply ag.fZ|apply ag.f_|refine ag.ao' ?_ dH.z _)|exact ai.z));(case aoP=>repeat (first|(with_reducible first|exact HB.z|apply a_|apply bf|apply aZ|refine aoO ?_ (ag.ge ai.z)|refine aoO ?_ aX.z)|exact HB.z));rintro e w6 ⟨rfl,hi,hb,hk⟩;refine ⟨_,rfl,?_⟩;replace aa:=k0 (aoR.blk hk (aB aa.z) dI.z (by simp));replace HK:=k0 (aoR.trans (aK HK.z) hk (.inl rfl));replace HB:=k0 (hb);replace ai:=k0 (hi);)|((with_reducible refine bg (f:=111) rfl ?_);refine gC (some 7) Try.func111 #[.pointer (some ⟨g,0,none⟩)] ?_;(with_reducible refine (tW.calls k g aI t103 t104 t105 t106 t109 t110 w0 _ ?aoN ?aoP A4.z).mono ?_);(case aoN=>repeat (first|(with_reducible first|exact ai.z|apply ag.alloc|apply ag.drewN|apply ag.drew|apply ag.fZ|apply ag.f_|refine ag.ao' ?_ dH.z _)|exact ai.z));(case aoP=>repeat (first|(with_reducible first|exact HB.z|apply a_|apply bf|apply aZ|refine aoO ?_ (ag.ge ai.z)|refine aoO ?_ aX.z)|exact HB.z));rintro e w7 ⟨v107,rfl,aD,hi,hb,hk⟩;refine ⟨_,rfl,?_⟩;have kM:=k0 (Kd.Bx (Kd.bP (ok':=fun k_=>(w.heap.size≤k_)∧k_ ≠ aoV∧k_ ≠ g) aD (fun k_ bZ=>⟨(Nat.le_trans (dU (aK HK.z)) bZ),(Kd.BP (aB aa.z) k_ bZ),(ag.fresh (aoZ ai.z) k_ bZ)⟩)) (dU (aK HK.z)));replace aa:=k0 (aoR.blk hk (aB aa.z) dI.z (by simp));replace HK:=k0 (aoR.trans (aK HK.z) hk (.inl rfl));replace HB:=k0 (hb);replace ai:=k0 (hi);have Cb:=dI.z;have Cd:=dH.z;have v_:=aQ aa;have we:=aoT aa;have xp:=bF aa 0;have wh:=bF aa 1;obtain ⟨jl,ju,zW⟩:=Kd.aqn kM.z;subst zW))
 refine bodyPost_ret (results_cell_row rfl _ _ aoV 31 #[.int .i64 t105,.slice jl t106.length ju] (0,0) _ rfl (by (with_reducible repeat (first|refine aoU ?_ _|refine aJ ?_|refine aoQ ?_ _));refine bE (cs:=#[.int .i64 t105,.slice none 0 0]) ?_ 1 _ rfl;(with_reducible repeat (first|refine aoU ?_ _|refine aJ ?_|refine aoQ ?_ _));refine bE (cs:=#[.int .i64 0,.slice none 0 0]) ?_ 0 _ rfl;exact bk) Try.underlying31 rfl (by kernel_rfl)) rfl ?_
 exact ⟨_,eR,by (with_reducible repeat (first|apply Kd.nc|apply Kd.mN|apply Kd.kE));exact Kd.bP (Kd.ape (p:=⟨aoV,1,none⟩) (Kd.ape (p:=⟨aoV,0,none⟩) (Kd.bP kM.z (fun k_ hk=>(⟨hk,hk.2.1⟩:_∧k_ ≠ aoV))) (fun _ hk=>hk.2) (.int .i64 t105)) (fun _ hk=>hk.2) (.slice jl t106.length ju)) (fun _ hk=>hk.1.1),aoZ ai.z,by repeat (first|(with_reducible first|exact HB.z|apply a_|apply bf|apply aZ|refine aoO ?_ (ag.ge ai.z)|refine aoO ?_ aX.z)|exact HB.z),aK HK.z⟩
/-! ### F55: function 55 -/
def Bh.f (k:Nat) (l0:List Int):Option (Int × (List (List Int)) × List Int):=(kg.f k l0).bind fun ao2=>((wN.f k ao2.1 ao2.2.1 ao2.2.2).bind fun fD=>((ki.f k ao2.1 fD.2.2.1 fD.2.2.2 fD.1 fD.2.1).bind fun lV=>(some (fD.1,fD.2.1,lV.1))))
theorem Bh.calls (k : Nat) (A0 : Option Addr) (c0 : Nat) (l0 : List Int) (r1 : Int) (r2 : List (List Int)) (r3 : List Int) (w : World) (cY : Kd.C (Kd.int .u8) w A0 l0.length l0) (hc0 : l0.length ≤ c0) (h : Bh.f k l0 = some (r1, r2, r3)) :
  Calls Try.prog 55 #[.slice A0 l0.length c0] w fun e w'=>∃ eM aqE:Value,e=.returned (.tuple #[.agg #[.int .i64 r1,eM],aqE])∧Kd.V (Kd.slice 2 (Kd.int .i64)) 28 w' w.heap.size (fun k_=>(w.heap.size≤k_)∧some k_ ≠ (aqE:Value).ownBlock) eM r2∧Kd.R (Kd.int .i64) 2 w' w.heap.size (fun k_=>(w.heap.size≤k_)) aqE r3∧Below w.heap.size w w':=by
 have iX:=Try.underlying31
 have ek:=k0 cY
 have jx:=k0 hc0
 clear cY hc0
 have HB:=k0 (Below.refl w.heap.size w)
 have H:((kg.f k l0).bind fun ao2=>((wN.f k ao2.1 ao2.2.1 ao2.2.2).bind fun fD=>((ki.f k ao2.1 fD.2.2.1 fD.2.2.2 fD.1 fD.2.1).bind fun lV=>(some (fD.1,fD.2.1,lV.1)))))=some (r1,r2,r3):=h
 clear h
 replace H:=Option.bind_eq_some_iff.mp H
 obtain ⟨⟨t102,t103,t104⟩,fI,H⟩:=H
 replace H:((wN.f k t102 t103 t104).bind fun fD=>((ki.f k t102 fD.2.2.1 fD.2.2.2 fD.1 fD.2.1).bind fun lV=>(some (fD.1,fD.2.1,lV.1))))=some (r1,r2,r3):=H
 have A2:=k0 fI
 clear fI
 replace H:=Option.bind_eq_some_iff.mp H
 obtain ⟨⟨t106,t107,t110,t111⟩,fJ,H⟩:=H
 replace H:((ki.f k t102 t110 t111 t106 t107).bind fun lV=>(some (t106,t107,lV.1)))=some (r1,r2,r3):=H
 have A3:=k0 fJ
 clear fJ
 replace H:=Option.bind_eq_some_iff.mp H
 obtain ⟨⟨t113,t116,t117⟩,fu,H⟩:=H
 replace H:(some (t106,t107,t113))=some (r1,r2,r3):=H
 have A4:=k0 fu
 clear fu
 simp only [Option.some.injEq,Prod.mk.injEq] at H
 obtain ⟨rfl,rfl,rfl⟩:=H
 go_enter Try.func55,Try.ntmps55
 try go_wp2_with (first|((with_reducible refine bp (N:=2) rfl ?_);refine bR 2 #[.int .i64 0,.slice none 0 0] 31 ?_;intro aoV hg w5 aE hb;have aa:=k0 (aE);have bB:=gW hg (aoS bl);have aX:=bB;replace HB:=k0 (aH bl hb);clear hb aE hg)|((with_reducible refine bg (f:=110) rfl ?_);refine gC (some 7) Try.func110 #[.slice A0 l0.length c0] ?_;(with_reducible refine (kg.calls k _ _ l0 t102 t103 t104 w _ ?aoN ?aoP ?bA A2.z).mono ?_);(case aoN=>repeat (first|(with_reducible first|exact HB.z|apply a_|apply bf|apply aZ|refine aoO ?_ aX.z)|exact HB.z));(case aoP=>exact ek.z);(case bA=>exact jx.z);rintro e w6 ⟨g105,rfl,hi,hb,hb2⟩;refine ⟨_,rfl,?_⟩;replace HB:=k0 (hb);have eZ:=k0 (hi);have qA:=k0 (ag.aq6 hi (cZ (aB aa.z) hb2) (by decide));have mb:=k0 (Ne.symm (ag.aq6 hi (cZ (aB aa.z) hb2) (by decide)));replace aa:=kB aa hb2;)|((with_reducible refine bg (f:=137) rfl ?_);refine gC (some 9) Try.func137 #[.pointer (some ⟨g105,0,none⟩)] ?_;(with_reducible refine (wN.calls k g105 t102 t103 t104 t106 t107 t110 t111 w _ ?aoN ?aoP A3.z).mono ?_);(case aoN=>repeat (first|(with_reducible first|exact eZ.z|apply ag.alloc|apply ag.drewN|apply ag.drew|apply ag.fZ|apply ag.f_|refine ag.ao' ?_ qA.z _)|exact eZ.z));(case aoP=>repeat (first|(with_reducible first|exact HB.z|apply a_|apply bf|apply aZ|refine aoO ?_ (ag.ge eZ.z)|refine aoO ?_ aX.z)|exact HB.z));rintro e w7 ⟨vo,rfl,aD,hi,hb,hk⟩;refine ⟨_,rfl,?_⟩;have eB:=k0 (Kd.Bx (Kd.bP (ok':=fun k_=>(w.heap.size≤k_)∧k_ ≠ aoV∧k_ ≠ g105) aD (fun k_ bZ=>⟨(Nat.le_trans (aoS (by repeat (first|(with_reducible first|exact HB.z|apply a_|apply bf|apply aZ|refine aoO ?_ (ag.ge eZ.z)|refine aoO ?_ aX.z)|exact HB.z))) bZ),(Kd.BP (aB aa.z) k_ bZ),(ag.fresh (aoZ eZ.z) k_ bZ)⟩)) (aoS (by repeat (first|(with_reducible first|exact HB.z|apply a_|apply bf|apply aZ|refine aoO ?_ (ag.ge eZ.z)|refine aoO ?_ aX.z)|exact HB.z))));replace aa:=k0 (aoR.blk hk (aB aa.z) mb.z (by simp));replace HB:=k0 (hb);replace eZ:=k0 (hi);)|((with_reducible refine bp (N:=5) rfl ?_);refine bR 5 #[.int .i64 0,.slice none 0 0] 31 ?_;intro fE hg w8 aE hb;replace eB:=k0 (Kd.gI (Kd.ng (aV eB.z) fE (Nat.le_of_eq hg.symm)) hb);have jS:=k0 (aE);have VE:=k0 ((by rw [hg];exact (aoS (by repeat (first|(with_reducible first|exact HB.z|apply a_|apply bf|apply aZ|refine aoO ?_ (ag.ge eZ.z)|refine aoO ?_ aX.z)|exact HB.z))):w.heap.size≤fE));have tX:=k0 ((by rw [hg];exact (aoS (by repeat (first|(with_reducible first|exact HB.z|apply a_|apply bf|apply aZ|refine aoO ?_ (ag.ge eZ.z)|refine aoO ?_ aX.z)|exact HB.z))):w.heap.size≤fE));replace HB:=k0 (aH (by repeat (first|(with_reducible first|exact HB.z|apply a_|apply bf|apply aZ|refine aoO ?_ (ag.ge eZ.z)|refine aoO ?_ aX.z)|exact HB.z)) hb);have rV:=nL hg aa;have qB:=nG rV;replace aa:=kB aa hb;have Dr:=k0 ((by rw [hg];exact Nat.ne_of_lt (ag.lt (show ag w _ g105 t102 t110 t111 from aoZ eZ.z)):g105 ≠ fE));have Dt:=k0 ((by rw [hg];exact Nat.ne_of_gt (ag.lt (show ag w _ g105 t102 t110 t111 from aoZ eZ.z)):fE ≠ g105));replace eZ:=k0 (ag.below (aoZ eZ.z) hb);clear hb aE hg;have Cc:=qB.z;have Ce:=rV.z;have G8:=Dt.z;have He:=Dr.z;have BQ:=aQ jS;have BR:=aoT jS;have aqO:=bF jS 0;have B2:=bF jS 1;obtain ⟨dc,cW,uA⟩:=Kd.aqn eB.z;subst uA))
 have aq:aj (Kd.V (Kd.slice 2 (Kd.int .i64)) 28 ((w8.setCell ⟨fE,0,none⟩ (.int .i64 t106)).setCell ⟨fE,1,none⟩ (.slice dc t107.length cW)) w.heap.size (fun k_=>(w.heap.size≤k_)∧k_ ≠ aoV∧k_ ≠ g105∧k_ ≠ fE) (.slice dc t107.length cW) t107):=⟨aV (Kd.bP (Kd.ape (p:=⟨fE,1,none⟩) (Kd.ape (p:=⟨fE,0,none⟩) (Kd.bP eB.z (fun k_ hk=>(⟨hk,hk.2⟩:_∧k_ ≠ fE))) (fun _ hk=>hk.2) (.int .i64 t106)) (fun _ hk=>hk.2) (.slice dc t107.length cW)) (fun _ hk=>⟨hk.1.1.1,⟨hk.1.1.2.1,⟨hk.1.1.2.2,hk.1.2⟩⟩⟩))⟩
 have au:aj (((w8.setCell ⟨fE,0,none⟩ (.int .i64 t106)).setCell ⟨fE,1,none⟩ (.slice dc t107.length cW)).heap[aoV]?=some (.cells #[.int .i64 0,.slice none 0 0] 31 (0,0))):=⟨by (with_reducible repeat (first|refine aoU ?_ _|refine aJ ?_|refine aoQ ?_ _));refine bW ?_ rV.z _;(with_reducible repeat (first|refine aoU ?_ _|refine aJ ?_|refine aoQ ?_ _));refine bW ?_ rV.z _;exact bk⟩
 have ax:aj (((w8.setCell ⟨fE,0,none⟩ (.int .i64 t106)).setCell ⟨fE,1,none⟩ (.slice dc t107.length cW)).heap[fE]?=some (sO t106 dc t107 cW 31)):=⟨by (with_reducible repeat (first|refine aoU ?_ _|refine aJ ?_|refine aoQ ?_ _));refine bE (cs:=#[.int .i64 t106,.slice none 0 0]) ?_ 1 _ rfl;(with_reducible repeat (first|refine aoU ?_ _|refine aJ ?_|refine aoQ ?_ _));refine bE (cs:=#[.int .i64 0,.slice none 0 0]) ?_ 0 _ rfl;exact bk⟩
 have aA:aj (ag w ((w8.setCell ⟨fE,0,none⟩ (.int .i64 t106)).setCell ⟨fE,1,none⟩ (.slice dc t107.length cW)) g105 t102 t110 t111):=⟨aoZ eZ.z⟩
 have aG:aj (Below w.heap.size w ((w8.setCell ⟨fE,0,none⟩ (.int .i64 t106)).setCell ⟨fE,1,none⟩ (.slice dc t107.length cW))):=⟨by repeat (first|(with_reducible first|exact HB.z|apply a_|apply bf|apply aZ|refine aoO ?_ (ag.ge eZ.z)|refine aoO ?_ aX.z|refine aoO ?_ tX.z)|exact HB.z)⟩
 generalize ((w8.setCell ⟨fE,0,none⟩ (.int .i64 t106)).setCell ⟨fE,1,none⟩ (.slice dc t107.length cW))=tK at aq au ax aA aG ⊢
 have eB:=aq
 have aa:=au
 have jS:=ax
 have eZ:=aA
 have HB:=aG
 clear aq au ax aA aG
 replace eB:=k0 (Kd.kE eB.z);replace aa:=k0 (aJ aa.z);replace jS:=k0 (aJ jS.z);replace eZ:=k0 (ag.drew eZ.z);replace HB:=k0 (aZ HB.z)
 refine apA (n:=6) (S:=fun w'=>w'.cell? ⟨fE,0,none⟩=some (.int .i64 t106)∧w'.cell? ⟨fE,1,none⟩=some (.slice dc t107.length cW)) (ds:=[]) (ba 6 0) (by kernel_rfl) rfl rfl ⟨aQ jS,aoT jS⟩ (fun hHeld=>?_)
 generalize tK.drew=tL at eB aa jS eZ HB hHeld ⊢
 refine kT (i:=1) (N:=some 11) (v:=?_) (a':=?_) (ba 6 2) rfl rfl (by kernel_rfl) (fun _ _ _ h=>h) (Or.inl ⟨by rfl,?_⟩) ?_ ?_
 rotate_left;· intro w';go_simp;with_reducible rfl
 rotate_left;· simp only [Act.put,zI,zZ,zS,cm,cO];rfl
 refine aqy (i:=0) (N:=some 10) (v:=?_) (a':=?_) (ba 6 3) rfl rfl (by kernel_rfl) (fun _ _ _ h=>h) (Or.inl ⟨by rfl,?_⟩) hHeld ?_ ?_
 rotate_left;· rintro w' ⟨s0,s1⟩;go_simp;with_reducible rfl
 rotate_left;· simp only [Act.put,zI,zZ,zS,cm,cO];rfl
 refine aqy (i:=2) (N:=some 12) (v:=?_) (a':=?_) (ba 6 7) rfl rfl (by kernel_rfl) (fun _ _ _ h=>h) (Or.inl ⟨by rfl,?_⟩) hHeld ?_ ?_
 rotate_left;· rintro w' ⟨s0,s1⟩;go_simp;with_reducible rfl
 rotate_left;· simp only [Act.put,zI,zZ,zS,cm,cO];rfl
 refine ja (i:=3) (N:=some 13) (ba 6 15) rfl rfl (by kernel_rfl) (by decide) (fun K hK=>?_)
 refine mP Try.func129 (by kernel_rfl) rfl #[.pointer (some ⟨g105,0,none⟩),.agg #[.int .i64 t106,.slice dc t107.length cW]] (by rfl) rfl rfl gm ?_
 with_reducible refine (ki.calls k g105 t102 t110 t111 t106 _ _ t107 t113 t116 t117 w _ ?aoN ?aoP ?bA ?bH A4.z).mono ?_
 (case aoN=>repeat (first|(with_reducible first|exact eZ.z|apply ag.alloc|apply ag.drewN|apply ag.drew|apply ag.fZ|apply ag.f_|refine ag.ao' ?_ qA.z _|refine ag.ao' ?_ Dr.z _)|exact eZ.z))
 (case aoP=>repeat (first|(with_reducible first|exact HB.z|apply a_|apply bf|apply aZ|refine aoO ?_ (ag.ge eZ.z)|refine aoO ?_ aX.z|refine aoO ?_ tX.z)|exact HB.z))
 (case bA=>exact Kd.N6 (base:=0) (e:=0) (Kd.bP (ok:=fun k_=>(((w.heap.size≤k_))∧(k_ ≠ aoV∧(k_ ≠ g105∧k_ ≠ fE)))) (aV eB.z) (fun k_ bZ=>(⟨bZ,bZ.2.2.1⟩:_∧k_ ≠ g105))) (fun _ h_=>h_.2))
 (case bH=>exact (Kd.dm eB.z).2.1)
 rintro e qq ⟨Fm,rfl,aD,hi,hb,hk⟩
 refine ⟨_,rfl,?_⟩
 have aq:=k0 (aoR.blk hk (aB aa.z) mb.z (by simp))
 have au:=k0 (Kd.bP (Kd.vU (Kd.Pb (Kd.bP (ok:=fun k_=>(((w.heap.size≤k_))∧(k_ ≠ aoV∧(k_ ≠ g105∧k_ ≠ fE)))) (aV eB.z) (fun k_ bZ=>(⟨bZ,bZ.2.2.1⟩:_∧k_ ≠ g105))) hk) (Kd.aU aD)) (fun _ h_=>h_.1))
 have ax:=k0 (aoR.blk hk (aB jS.z) Dt.z (by simp))
 have aA:=k0 (Kd.cU (Kd.rj (M:=fun k_=>(w.heap.size≤k_)) aD (aoS (by repeat (first|(with_reducible first|exact HB.z|apply a_|apply bf|apply aZ|refine aoO ?_ (ag.ge eZ.z)|refine aoO ?_ aX.z|refine aoO ?_ tX.z)|exact HB.z))) (fun k_ h_=>h_)) (aoS (by repeat (first|(with_reducible first|exact HB.z|apply a_|apply bf|apply aZ|refine aoO ?_ (ag.ge eZ.z)|refine aoO ?_ aX.z|refine aoO ?_ tX.z)|exact HB.z))))
 have aG:=k0 (hb)
 have aM:=k0 (hi)
 clear aa
 clear eB
 clear jS
 clear HB
 clear eZ
 have aa:=aq
 have eB:=au
 have jS:=ax
 have lF:=aA
 have HB:=aG
 have eZ:=aM
 clear aq au ax aA aG aM
 refine hK.out _ _ ⟨aQ jS,aoT jS⟩ (fun hHeld=>?_)
 clear hK K
 refine jh (a':=?_) ?_ ?_
 rotate_left;· show Act.put _ (some 13) _=_;simp only [Act.put,zI,zZ,zS,cm,cO];rfl
 refine ja (i:=4) (N:=none) (ba 6 31) rfl rfl (by kernel_rfl) (by decide) (fun K hK=>?_)
 have acS:=aQ aa
 have aa':=bF aa 0
 have acO:=qB.z
 have abX:=rV.z
 have acT:=aoT aa
 have aa_:=bF aa 1
 have acP:=qB.z
 have abY:=rV.z
 refine tG (w1:=?_) (by rfl) rfl ?_ ?_
 rotate_left;· go_simp;rfl
 refine hK.out _ _ ⟨((cell_far (p:=⟨aoV,_,none⟩) qB.z _).trans (((cell_far (p:=⟨aoV,_,none⟩) qB.z _).trans (hHeld.1)))),((cell_far (p:=⟨aoV,_,none⟩) qB.z _).trans (((cell_far (p:=⟨aoV,_,none⟩) qB.z _).trans (hHeld.2))))⟩ (fun hHeld=>?_)
 clear hK K
 refine kT (i:=5) (N:=some 3) (v:=?_) (a':=?_) (ba 6 63) rfl rfl (by kernel_rfl) (fun _ _ _ h=>h) (Or.inl ⟨by rfl,?_⟩) ?_ ?_
 rotate_left;· intro w';go_simp;with_reducible rfl
 rotate_left;· simp only [Act.put,zI,zZ,zS,cm,cO];rfl
 refine lY (by kernel_rfl) ?_
 try go_wp2
 refine bodyPost_ret (apP rfl _ _ aoV 31 #[.int .i64 t106,.slice dc t107.length cW] (0,0) _ rfl (by (with_reducible repeat (first|refine aoU ?_ _|refine aJ ?_|refine aoQ ?_ _));refine bE (cs:=#[.int .i64 t106,.slice none 0 0]) ?_ 1 _ rfl;(with_reducible repeat (first|refine aoU ?_ _|refine aJ ?_|refine aoQ ?_ _));refine bE (cs:=#[.int .i64 0,.slice none 0 0]) ?_ 0 _ rfl;exact bk) Try.underlying31 rfl (by kernel_rfl)) rfl ?_
 exact ⟨_,_,eR,by (with_reducible repeat (first|apply Kd.nc|apply Kd.mN|apply Kd.kE));exact Kd.bP (Kd.ape (p:=⟨aoV,1,none⟩) (Kd.ape (p:=⟨aoV,0,none⟩) (Kd.bP eB.z (fun k_ hk=>(⟨hk,hk.1.2.1⟩:_∧k_ ≠ aoV))) (fun _ hk=>hk.2) (.int .i64 t106)) (fun _ hk=>hk.2) (.slice dc t107.length cW)) (fun _ hk=>⟨hk.1.1.1,hk.1.2⟩),by (with_reducible repeat (first|apply Kd.dK|apply Kd.dD|apply Kd.cB));exact Kd.aoY (gR 1 (.slice dc t107.length cW) (gR 0 (.int .i64 t106) (tR lF aa))) (fun _ hk=>hk.1.1),by repeat (first|(with_reducible first|exact HB.z|apply a_|apply bf|apply aZ|refine aoO ?_ (ag.ge eZ.z)|refine aoO ?_ aX.z|refine aoO ?_ tX.z)|exact HB.z)⟩
/-! ### F138: function 138 -/
def wO.f (k:Nat) (ah:Int) (af:List (List Int)) (cg:Int) (bN:List (List Int)) (l2:List Int):Option Int :=
 (jG.f k ah af).bind fun b=>if b=true then ((aqr.f cg bN l2).bind fun q0=>if q0=true then some 0 else some 2) else some 1
theorem wO.calls {b1 : Nat} {b2 : Nat} (k : Nat) (ah : Int) (aT : Option Addr) (aoW : Nat) (af : List (List Int)) (cg : Int) (eu : Option Addr) (ey : Nat) (bN : List (List Int)) (A2 : Option Addr) (c2 : Nat) (l2 : List Int) (r : Int) (w : World) (cR : Kd.C (Kd.slice 2 (Kd.int .i64)) w aT af.length af) (cX : af.length ≤ aoW) (qg : Kd.C (Kd.slice 2 (Kd.int .i64)) w eu bN.length bN) (ap0 : bN.length ≤ ey) (su : Kd.C (Kd.int .i64) w A2 l2.length l2) (uC : l2.length ≤ c2) (hb1 : w.heap[b1]? = some (sO cg eu bN ey 31)) (hb2 : w.heap[b2]? = some (.cells #[.slice A2 l2.length c2] 28 (0, 0))) (h : wO.f k ah af cg bN l2 = some r) :
  Calls Try.prog 125 #[.agg #[.int .i64 ah,.slice aT af.length aoW],.func (.func 138) #[] #[.pointer (some ⟨b1,0,none⟩),.pointer (some ⟨b2,0,none⟩)]] w fun e w'=>e=.returned (.int .i64 r)∧Below w.heap.size w w':=by
 have ek:=k0 cR
 clear cR
 have gq:=k0 qg
 clear qg
 have zx:=k0 su
 clear su
 have apo:=k0 hb1
 have U9:=qH hb1
 clear hb1
 have mX:=k0 hb2
 have U':=qH hb2
 clear hb2
 unfold wO.f at h
 obtain ⟨b,hb,h⟩:=Option.bind_eq_some_iff.mp h
 have HG:=fun W (hw:Below w.heap.size w W)=>jG.calls k ah aT aoW af b W (Kd.ao4 ek.z hw) cX hb
 have zo:=k0 HG
 clear HG hb
 cases b with
 | false =>
  simp only [Bool.false_eq_true,if_false,Option.some.injEq] at h
  subst h
  go_enter Try.func125,Try.ntmps125
  go_wp2_with (first|(go_at_call 106;refine (zo.out _ (by repeat (first|exact Below.refl _ _|apply a_|apply bf))).mono ?_;rintro e w1 ⟨rfl,hb1⟩;have fQ:=k0 (aH (by repeat (first|exact Below.refl _ _|apply a_|apply bf)) hb1:Below w.heap.size w w1);clear hb1;have Et:w1.cell? ⟨b1,0,none⟩=some (.int .i64 cg):=(fq (cZ apo.z fQ.z) 0).trans rfl;have Ez:=iV (cZ apo.z fQ.z) 0;have Eu:w1.cell? ⟨b1,1,none⟩=some (.slice eu bN.length ey):=(fq (cZ apo.z fQ.z) 1).trans rfl;have EA:=iV (cZ apo.z fQ.z) 1;have aqT:w1.cell? ⟨b2,0,none⟩=some (.slice A2 l2.length c2):=(fq (cZ mX.z fQ.z) 0).trans rfl;have EB:=iV (cZ mX.z fQ.z) 0)|go_in)
  go_ret
  exact ⟨rs,by repeat (first|exact fQ.z|apply a_|apply bf|apply aZ)⟩
 | true =>
  simp only [if_true] at h
  obtain ⟨q0,ES,h⟩:=Option.bind_eq_some_iff.mp h
  have Dl:=fun W (hw:Below w.heap.size w W)=>aqr.calls cg eu ey bN A2 c2 l2 q0 W (Kd.ao4 gq.z hw) ap0 (Kd.ao4 zx.z hw) uC ES
  have Dm:=k0 Dl
  clear Dl ES
  cases q0 with
  | false =>
   simp only [Bool.false_eq_true,if_false,Option.some.injEq] at h
   subst h
   go_enter Try.func125,Try.ntmps125
   go_wp2_with (first|(go_at_call 106;refine (zo.out _ (by repeat (first|exact Below.refl _ _|apply a_|apply bf))).mono ?_;rintro e w1 ⟨rfl,hb1⟩;have fQ:=k0 (aH (by repeat (first|exact Below.refl _ _|apply a_|apply bf)) hb1:Below w.heap.size w w1);clear hb1;have Et:w1.cell? ⟨b1,0,none⟩=some (.int .i64 cg):=(fq (cZ apo.z fQ.z) 0).trans rfl;have Ez:=iV (cZ apo.z fQ.z) 0;have Eu:w1.cell? ⟨b1,1,none⟩=some (.slice eu bN.length ey):=(fq (cZ apo.z fQ.z) 1).trans rfl;have EA:=iV (cZ apo.z fQ.z) 1;have aqT:w1.cell? ⟨b2,0,none⟩=some (.slice A2 l2.length c2):=(fq (cZ mX.z fQ.z) 0).trans rfl;have EB:=iV (cZ mX.z fQ.z) 0)|(go_at_call 131;refine (Dm.out _ (by repeat (first|exact fQ.z|apply a_|apply bf))).mono ?_;rintro e w2 ⟨rfl,gN⟩;have fB:=k0 (aH (by repeat (first|exact fQ.z|apply a_|apply bf)) gN:Below w.heap.size w w2);clear gN;have KX:w2.cell? ⟨b1,0,none⟩=some (.int .i64 cg):=(fq (cZ apo.z fB.z) 0).trans rfl;have Li:=iV (cZ apo.z fB.z) 0;have KY:w2.cell? ⟨b1,1,none⟩=some (.slice eu bN.length ey):=(fq (cZ apo.z fB.z) 1).trans rfl;have Lj:=iV (cZ apo.z fB.z) 1;have KZ:w2.cell? ⟨b2,0,none⟩=some (.slice A2 l2.length c2):=(fq (cZ mX.z fB.z) 0).trans rfl;have Lk:=iV (cZ mX.z fB.z) 0)|go_in)
   go_ret
   exact ⟨rs,by repeat (first|exact fB.z|apply a_|apply bf|apply aZ)⟩
  | true =>
   simp only [if_true] at h
   simp only [Option.some.injEq] at h
   subst h
   go_enter Try.func125,Try.ntmps125
   go_wp2_with (first|(go_at_call 106;refine (zo.out _ (by repeat (first|exact Below.refl _ _|apply a_|apply bf))).mono ?_;rintro e w1 ⟨rfl,hb1⟩;have fQ:=k0 (aH (by repeat (first|exact Below.refl _ _|apply a_|apply bf)) hb1:Below w.heap.size w w1);clear hb1;have Et:w1.cell? ⟨b1,0,none⟩=some (.int .i64 cg):=(fq (cZ apo.z fQ.z) 0).trans rfl;have Ez:=iV (cZ apo.z fQ.z) 0;have Eu:w1.cell? ⟨b1,1,none⟩=some (.slice eu bN.length ey):=(fq (cZ apo.z fQ.z) 1).trans rfl;have EA:=iV (cZ apo.z fQ.z) 1;have aqT:w1.cell? ⟨b2,0,none⟩=some (.slice A2 l2.length c2):=(fq (cZ mX.z fQ.z) 0).trans rfl;have EB:=iV (cZ mX.z fQ.z) 0)|(go_at_call 131;refine (Dm.out _ (by repeat (first|exact fQ.z|apply a_|apply bf))).mono ?_;rintro e w2 ⟨rfl,gN⟩;have fB:=k0 (aH (by repeat (first|exact fQ.z|apply a_|apply bf)) gN:Below w.heap.size w w2);clear gN;have KX:w2.cell? ⟨b1,0,none⟩=some (.int .i64 cg):=(fq (cZ apo.z fB.z) 0).trans rfl;have Li:=iV (cZ apo.z fB.z) 0;have KY:w2.cell? ⟨b1,1,none⟩=some (.slice eu bN.length ey):=(fq (cZ apo.z fB.z) 1).trans rfl;have Lj:=iV (cZ apo.z fB.z) 1;have KZ:w2.cell? ⟨b2,0,none⟩=some (.slice A2 l2.length c2):=(fq (cZ mX.z fB.z) 0).trans rfl;have Lk:=iV (cZ mX.z fB.z) 0)|go_in)
   go_ret
   exact ⟨rs,by repeat (first|exact fB.z|apply a_|apply bf|apply aZ)⟩
end Go.Proofs.Ytoebojnhchocaaa.E
/- Set with little white space, by a program. -/
