/- The functions that one law reaches, each as a Lean function, and that Go's call comes to what it says. Condition of each: that the Lean function answers (is not none). -/
import Derived.Test.YtoebojnhchocaaaDx0
import Derived.Test.YtoebojnhchocaaaDx11
import Derived.Test.YtoebojnhchocaaaDx12
namespace Go.Proofs.Ytoebojnhchocaaa.D
open Go.RowKit Go.Proofs.bR.eC Go.Proofs.bR.je Go.Proofs.bR.jO
attribute [local go_sem] max2_int min2_int max_two min_two max_three min_three max_four min_four   -- for this text's walks alone
set_option linter.unusedVariables false
set_option linter.unusedSimpArgs false
/-! ### F186: function 186 -/
mutual
def cC.l0 : Nat → List Int → List Int → List (List Int) → Int → Int → Option (List Int)
 | 0,_,_,_,_,_=>none
 | k+1,x2,x7,gx,jJ,wj=>if wj < jJ then (if 0≤wj then (if wj < (gx.length:Int) then (cC.l1 k x2 x7 wj gx jJ wj ((ah gx wj).length:Int) 0) else (none)) else (none)) else (some x7)
def cC.l1 : Nat → List Int → List Int → Int → List (List Int) → Int → Int → Int → Int → Option (List Int)
 | 0,_,_,_,_,_,_,_,_=>none
 | k+1,x2,x7,x8,gx,jJ,wj,pZ,jX=>if jX < pZ then (if 0≤jX then (if jX < ((ah gx x8).length:Int) then (if jX < (x7.length:Int) then (if 0≤x8 then (if x8 < (x2.length:Int) then (cC.l1 k x2 (x7.set (jX:Int).toNat (wrap64 ((rd x7 jX) - (wrap64 ((rd (ah gx x8) jX) * (rd x2 x8)))))) x8 gx jJ wj pZ (wrap64 (jX+1))) else (none)) else (none)) else (none)) else (none)) else (none)) else (cC.l0 k x2 x7 gx jJ (wrap64 (wj+1)))
end
def cC.f (k:Nat) (af:Int) (aa:List (List Int)) (l1:List Int) (l2:List Int):Option (List Int):=(kr.f l1).bind fun t102=>((cz.f k af aa).bind fun t105=>(cC.l0 k l2 t102 t105 (t105.length:Int) 0))
theorem cC.bU : ∀ k, (∀ y0 y1 y2 y3 y4, aj (cC.l0 k y0 y1 y2 y3 y4) (cC.l0 (k + 1) y0 y1 y2 y3 y4)) ∧ (∀ y0 y1 y2 y3 y4 y5 y6 y7, aj (cC.l1 k y0 y1 y2 y3 y4 y5 y6 y7) (cC.l1 (k + 1) y0 y1 y2 y3 y4 y5 y6 y7))
 | 0=>⟨fun _ _ _ _ _ r h=>by simp [cC.l0] at h,fun _ _ _ _ _ _ _ _ r h=>by simp [cC.l1] at h⟩
 | k+1=>by
  obtain ⟨alg,ih1⟩:=cC.bU k
  refine ⟨?_, ?_⟩ <;> intros <;> (first | unfold cC.l0 | unfold cC.l1) <;> repeat' first
   | (with_reducible first|exact alg _ _ _ _ _|exact ih1 _ _ _ _ _ _ _ _|exact cz.mono _ _ _|exact aj.refl _|exact aj.none _|refine aj.ite ?_ ?_|refine aj.bind ?_ (fun _=>?_))
   | exact alg _ _ _ _ _|exact ih1 _ _ _ _ _ _ _ _|exact cz.mono _ _ _|exact aj.none _|refine aj.ite ?_ ?_|refine aj.bind ?_ (fun _=>?_)
theorem cC.mono:∀ a0 a1 a2 a3 k,aj (cC.f k a0 a1 a2 a3) (cC.f (k+1) a0 a1 a2 a3):=by
 intro a0 a1 a2 a3 k
 obtain ⟨alg,ih1⟩:=cC.bU k
 unfold cC.f
 repeat' first
  | (with_reducible first|exact alg _ _ _ _ _|exact ih1 _ _ _ _ _ _ _ _|exact cz.mono _ _ _|exact aj.refl _|exact aj.none _|refine aj.ite ?_ ?_|refine aj.bind ?_ (fun _=>?_))
  | exact alg _ _ _ _ _|exact ih1 _ _ _ _ _ _ _ _|exact cz.mono _ _ _|exact aj.none _|refine aj.ite ?_ ?_|refine aj.bind ?_ (fun _=>?_)
def cC.T8:Bool × List (List Nat × List Nat):=(true,[([],[]),([],[]),([0,1],[0,1]),([2],[2]),([],[]),([],[]),([],[]),([5,6],[5,6]),([7],[7]),([4,8],[4,8]),([3,9],[3,9]),([0,1,0,1,2,3,4,5,6,7,8,9,10],[0,1]),([11,10,0,1,2,3,4,5,6,7,8,9,10],[10,11])])
def cC.B8:List Nat:=[0,0,3,7,0,0,0,96,224,496,1023,2047,4095]
theorem cC.Ex:gv .any (opsOf Try.f186 8)=cC.T8:=by kernel_rfl
theorem cC.Ch:mN cC.T8.2 cC.B8=true:=by kernel_rfl
set_option maxHeartbeats 8000000 in
set_option maxRecDepth 100000 in
theorem cC.calls (k : Nat) (af : Int) (aq : Option Addr) (ak : Nat) (aa : List (List Int)) (A1 : Option Addr) (c1 : Nat) (l1 : List Int) (A2 : Option Addr) (c2 : Nat) (l2 : List Int) (r : List Int) (w : World) (aly : Kd.C (Kd.slice 2 (Kd.int .i64)) w aq aa.length aa) (ck : aa.length ≤ ak) (c_ : Kd.C (Kd.int .i64) w A1 l1.length l1) (eY : l1.length ≤ c1) (o5 : Kd.C (Kd.int .i64) w A2 l2.length l2) (uy : l2.length ≤ c2) (h : cC.f k af aa l1 l2 = some r) :
  Calls Try.prog 186 #[.agg #[.int .i64 af,.slice aq aa.length ak],.slice A1 l1.length c1,.slice A2 l2.length c2] w fun e w'=>∃ dH:Value,e=.returned (dH)∧Kd.R (Kd.int .i64) 2 w' w.heap.size (fun _=>True) dH r∧Below w.heap.size w w':=by
 have j9:=Try.underlying31
 have bZ:=k0 aly
 have cD:=k0 ck
 clear aly ck
 have eP:=k0 c_
 have kT:=k0 eY
 clear c_ eY
 have yb:=k0 o5
 have wE:=k0 uy
 clear o5 uy
 have HB:=k0 (Below.refl w.heap.size w)
 have H:((kr.f l1).bind fun t102=>((cz.f k af aa).bind fun t105=>(cC.l0 k l2 t102 t105 (t105.length:Int) 0)))=some r:=h
 clear h
 replace H:=Option.bind_eq_some_iff.mp H
 obtain ⟨t102,lM,H⟩:=H
 replace H:((cz.f k af aa).bind fun t105=>(cC.l0 k l2 t102 t105 (t105.length:Int) 0))=some r:=H
 have A4:=k0 lM
 clear lM
 replace H:=Option.bind_eq_some_iff.mp H
 obtain ⟨t105,p4,H⟩:=H
 replace H:(cC.l0 k l2 t102 t105 (t105.length:Int) 0)=some r:=H
 have A5:=k0 p4
 clear p4
 have H':=k0 H
 clear H
 go_enter Try.func186,Try.ntmps186
 go_wp2_with (first|((with_reducible refine cj (N:=3) rfl ?_);refine dK ?hg (N:=3) ?hd (cs:=#[.int .i64 af,.slice aq aa.length ak]) (t:=31) ?hr ?_;(case hd=>rfl);(case hg=>rfl);(case hr=>first|(go_simp;done)|(go_simp;rfl));intro ai hg w6 aJ hb;have ag:=k0 (aJ);have b8:=k0 ((by rw [hg];exact (alk bl):w.heap.size≤ai));have eB:=b8;replace HB:=k0 (aI bl hb);clear hb aJ hg)|((with_reducible refine dx (f:=151) rfl ?_);refine dy (some 13) rfl rfl Try.func151 (by kernel_rfl) rfl #[.slice A1 l1.length c1] rfl gm ?_;(with_reducible refine (kr.calls _ _ l1 t102 _ ?aT ?aU A4.out).mono ?_);(case aT=>exact aC (Kd.bK eP.out HB.out));(case aU=>exact kT.out);rintro e w7 ⟨dn,rfl,aM,hb⟩;refine ⟨_,rfl,?_⟩;have bq:=k0 (Kd.dI aM (alk bl));replace ag:=k0 (alm (g:=ai) (o:=sO af aq aa ak 31) bk hb);replace HB:=k0 (aI bl hb);(try clear hb);(try clear aM);have vK:w7.cell? ⟨ai,0,none⟩=some (.int .i64 af):=(av ag.out 0).trans rfl;have vL:w7.cell? ⟨ai,1,none⟩=some (.slice aq aa.length ak):=(av ag.out 1).trans rfl;have vN:=aD ag.out 0;have vO:=aD ag.out 1)|((with_reducible refine dx (f:=195) rfl ?_);refine dy (some 15) rfl rfl Try.func195 (by kernel_rfl) rfl #[.agg #[.int .i64 af,.slice aq aa.length ak]] rfl gm ?_;(with_reducible refine (cz.calls k af _ _ aa t105 _ ?aT ?aU A5.out).mono ?_);(case aT=>exact aC (Kd.bK bZ.out HB.out));(case aU=>exact cD.out);rintro e w9 ⟨fY,rfl,aM,hb⟩;refine ⟨_,rfl,?_⟩;have cO:=k0 (Kd.oR (Kd.qf aM (Kd.cH (aR bq.out))) (alk bl));replace bq:=k0 (Kd.en (aR bq.out) hb);replace ag:=k0 (alm (g:=ai) (o:=sO af aq aa ak 31) bk hb);replace HB:=k0 (aI bl hb);(try clear hb);(try clear aM);obtain ⟨EO,pK,ql⟩:=Kd.pF cO.out;subst ql))
 go_loopg [17] k (fun kq v17 w'=>∃ (ie:List Int) (fB:Int),v17=.int .i64 fB∧au (cC.l0 kq l2 ie t105 (t105.length:Int) fB=some r)∧au (kq≤k)∧au (Kd.R (Kd.int .i64) 2 w' w.heap.size (fun _=>True) dn ie)∧au (Kd.S (Kd.slice 2 (Kd.int .i64)) 28 w' w.heap.size (fun k_=>some k_ ≠ (dn:Value).ownBlock) (.slice EO t105.length pK) t105)∧au (w'.heap[ai]?=some (sO af aq aa ak 31))∧au (Below w.heap.size w w'))
 case atStart=>exact ⟨(t102),(0),rs,H',⟨Nat.le_refl _⟩,⟨aR (bq.out)⟩,⟨aS (Kd.iF cO.out (fun _ hk=>hk.2))⟩,⟨bk⟩,⟨bl⟩⟩
 case round =>
  clear H'
  (try clear vK);(try clear vL);(try clear vN);(try clear vO)
  obtain ⟨ie,fB,rfl,HA,alj,alr,mR,ag,HB⟩:=hrel
  cases gk with
  | zero=>exact absurd HA.out (by simp [cC.l0])
  | succ k1 =>
   have H:=HA.out
   clear HA
   simp only [cC.l0] at H
   by_cases c11:fB < (t105.length:Int)
   case neg =>
    rw [if_neg c11] at H
    have i_:decide (fB < (t105.length:Int))=false:=decide_eq_false c11
    clear c11
    obtain rfl:=Option.some.inj H
    go_wp2
    go_ret
    exact ⟨_,by first|rfl|(simp [bz,bA]<;>rfl)|(simp [*,bz,bA]<;>rfl),by (with_reducible repeat (first|apply Kd.bH|apply Kd.bL|apply Kd.bn));exact alr.out,bl⟩
   rw [if_pos c11] at H
   have i_:=decide_eq_true c11
   clear c11
   replace H:=iS H;obtain ⟨c12,H⟩:=H
   have rN:=decide_eq_true c12
   clear c12
   replace H:=iS H;obtain ⟨c13,H⟩:=H
   have alV:=decide_eq_true c13
   clear c13
   have H':=k0 H
   clear H
   have ef:0≤(fB:Int):=oD
   have dR:fB < (t105.length:Int):=oD
   obtain ⟨lu,EK,Ft,e108,fu,ams,amm⟩:=cX (Kd.alw mR.out).2.2 fB ef dR
   cases e108
   obtain ⟨agP,aah,Z4,Ql⟩:=Kd.mB mR.out [] fB ef (by first|exact dR|exact oD|(have e_:=(Kd.alw mR.out).1;omega))
   obtain ⟨akK,rfl,JL⟩:=Z4
   have DA:=Ql 0 _ rfl
   rw [Nat.add_zero,show ((Kd.slice 2 (Kd.int .i64))).sz=1 from rfl,Nat.mul_one] at DA
   replace DA:=Option.some.inj (DA.symm.trans fu)
   rw [DA] at JL
   have agc:=k0 (show Kd.R (Kd.int .i64) 2 _ _ _ _ (ah t105 fB) from JL)
   clear DA JL
   have NS:=k0 fu
   clear Ql aah
   have z6:=k0 amm
   have anM:=k0 ams
   clear amm ams
   replace ef:=eq_true ef
   replace dR:=eq_true dR
   go_wp2
   generalize Q3:(.slice EK (ah t105 fB).length Ft:Value)=aft
   have EZ:=k0 Q3
   clear Q3
   go_loopg [24] k1 (fun kq v24 w'=>∃ (dB:List Int) (bM:Int),v24=.int .i64 bM∧au (cC.l1 kq l2 dB fB t105 (t105.length:Int) fB ((ah t105 fB).length:Int) bM=some r)∧au (kq≤k1)∧au (iu w' (.slice (some lu) t105.length pK) fB aft)∧au (Kd.R (Kd.int .i64) 2 w' w.heap.size (fun _=>True) dn dB)∧au (Kd.S (Kd.slice 2 (Kd.int .i64)) 28 w' w.heap.size (fun k_=>some k_ ≠ (dn:Value).ownBlock) (.slice (some lu) t105.length pK) t105)∧au (w'.heap[ai]?=some (sO af aq aa ak 31))∧au (Below w.heap.size w w'))
   case atStart=>exact ⟨(ie),(0),rs,H',⟨Nat.le_refl _⟩,⟨by (with_reducible repeat (first|apply iu.alloc|apply iu.drewN|apply iu.drew));first|exact ⟨_,_,_,rfl,(by first|exact of_eq_true ef|exact amg nF.out|omega),(by first|exact of_eq_true dR|exact mH nF.out|(have h_:=of_eq_true dR;omega)|(have h_:=mH nF.out;omega)),NS.out⟩|(rw [← EZ.out];exact ⟨_,_,_,rfl,(by first|exact of_eq_true ef|exact amg nF.out|omega),(by first|exact of_eq_true dR|exact mH nF.out|(have h_:=of_eq_true dR;omega)|(have h_:=mH nF.out;omega)),NS.out⟩)⟩,⟨aR (alr.out)⟩,⟨aS (mR.out)⟩,⟨bk⟩,⟨bl⟩⟩
   case round =>
    clear H'
    (try clear c11);(try clear i_);(try clear c12);(try clear rN);(try clear c13);(try clear alV);(try clear vK);(try clear vL);(try clear vN);(try clear vO);(try clear fu);(try clear ef);(try clear dR)
    obtain ⟨dB,bM,rfl,HA,bB,nF,alr,mR,ag,HB⟩:=hrel
    cases gk with
    | zero=>exact absurd HA.out (by simp [cC.l1])
    | succ k2 =>
     have H:=HA.out
     clear HA
     simp only [cC.l1] at H
     by_cases c14:bM < ((ah t105 fB).length:Int)
     case neg =>
      rw [if_neg c14] at H
      have kH:decide (bM < ((ah t105 fB).length:Int))=false:=decide_eq_false c14
      clear c14
      have H':=k0 H
      clear H
      have aci:decide (0≤fB)=true:=decide_eq_true (amg nF.out)
      have ack:decide (fB < (t105.length:Int))=true:=decide_eq_true (by have h_:=mH nF.out;have e_:=(Kd.alw mR.out).1;omega)
      have eH:0≤(fB:Int):=oD
      have ez:fB < (t105.length:Int):=oD
      obtain ⟨lZ,Ho,Fu,e109,gM,td,amn⟩:=cX (Kd.alw mR.out).2.2 fB eH ez
      obtain rfl:lu=lZ:=(by injection e109)
      obtain ⟨OO,C3,CT,xh⟩:=Kd.mB mR.out [] fB eH (by first|exact ez|exact oD|(have e_:=(Kd.alw mR.out).1;omega))
      obtain ⟨Tr,rfl,amj⟩:=CT
      have oy:=xh 0 _ rfl
      rw [Nat.add_zero,show ((Kd.slice 2 (Kd.int .i64))).sz=1 from rfl,Nat.mul_one] at oy
      replace oy:=Option.some.inj (oy.symm.trans gM)
      rw [oy] at amj
      have amw:=k0 (show Kd.R (Kd.int .i64) 2 _ _ _ _ (ah t105 fB) from amj)
      clear oy amj
      have rH:=k0 gM
      clear xh C3
      have nZ:=k0 amn
      have HQ:=k0 td
      clear amn td
      replace eH:=eq_true eH
      replace ez:=eq_true ez
      obtain rfl:=FV nF.out rH.out
      go_wp2
      first|go_roundg k2|((try (have e_:=EZ.out;injection e_ with yA Jy yB;subst yA yB));go_roundg k2)
      case measure=>have:=alj.out;have:=bB.out;omega
      case rel=>exact ⟨(dB),(wrap64 (fB+1)),rs,H',⟨by have:=alj.out;have:=bB.out;omega⟩,⟨aR (alr.out)⟩,⟨aS (mR.out)⟩,⟨bk⟩,⟨bl⟩⟩
     rw [if_pos c14] at H
     have kH:=decide_eq_true c14
     clear c14
     replace H:=iS H;obtain ⟨c15,H⟩:=H
     have jD:=decide_eq_true c15
     clear c15
     replace H:=iS H;obtain ⟨c16,H⟩:=H
     have qY:=decide_eq_true c16
     clear c16
     replace H:=iS H;obtain ⟨c17,H⟩:=H
     have oW:=decide_eq_true c17
     clear c17
     replace H:=iS H;obtain ⟨c18,H⟩:=H
     have qZ:=decide_eq_true c18
     clear c18
     replace H:=iS H;obtain ⟨c19,H⟩:=H
     have lC:=decide_eq_true c19
     clear c19
     obtain ⟨iA,oA⟩:∃ y_:List Int,y_=(dB.set (bM:Int).toNat (wrap64 ((rd dB bM) - (wrap64 ((rd (ah t105 fB) bM) * (rd l2 fB)))))):=⟨_,rfl⟩
     replace H:(cC.l1 k2 l2 iA fB t105 (t105.length:Int) fB ((ah t105 fB).length:Int) (wrap64 (bM+1)))=some r:=by first|(rw [oA];with_reducible exact H)|(have ax:=(Option.bind_some _ _).symm.trans H;rw [oA];with_reducible exact ax)|(have ax:=(Option.bind_some _ _).symm.trans H;with_reducible exact ax)|with_reducible exact H|(rw [oA];exact H)|exact H
     have wN:=k0 oA
     clear oA
     have H':=k0 H
     clear H
     have aci:decide (0≤fB)=true:=decide_eq_true (amg nF.out)
     have ack:decide (fB < (t105.length:Int))=true:=decide_eq_true (by have h_:=mH nF.out;have e_:=(Kd.alw mR.out).1;omega)
     have eH:0≤(fB:Int):=oD
     have ez:fB < (t105.length:Int):=oD
     obtain ⟨lZ,Ho,Fu,e109,gM,td,amn⟩:=cX (Kd.alw mR.out).2.2 fB eH ez
     obtain rfl:lu=lZ:=(by injection e109)
     obtain ⟨OO,C3,CT,xh⟩:=Kd.mB mR.out [] fB eH (by first|exact ez|exact oD|(have e_:=(Kd.alw mR.out).1;omega))
     obtain ⟨Tr,rfl,amj⟩:=CT
     have oy:=xh 0 _ rfl
     rw [Nat.add_zero,show ((Kd.slice 2 (Kd.int .i64))).sz=1 from rfl,Nat.mul_one] at oy
     replace oy:=Option.some.inj (oy.symm.trans gM)
     rw [oy] at amj
     have amw:=k0 (show Kd.R (Kd.int .i64) 2 _ _ _ _ (ah t105 fB) from amj)
     clear oy amj
     have rH:=k0 gM
     clear xh C3
     have nZ:=k0 amn
     have HQ:=k0 td
     clear amn td
     replace eH:=eq_true eH
     replace ez:=eq_true ez
     obtain rfl:=FV nF.out rH.out
     have jr:0≤(bM:Int):=oD
     have js:bM < ((ah t105 fB).length:Int):=oD
     obtain ⟨lz,e110,kL⟩:=Kd.bJ (by repeat (first|(with_reducible exact nZ.out)|(with_reducible refine Kd.kQ ?_ _)|(with_reducible refine Kd.alZ ?_ _)|(with_reducible refine Kd.jZ ?_)|exact nZ.out)) bM jr js
     cases e110
     replace jr:=eq_true jr
     replace js:=eq_true js
     try go_wp2
     replace alr:=k0 (Kd.bn alr.out);replace mR:=k0 (Kd.eW mR.out);replace amw:=k0 (Kd.bn amw.out);replace ag:=k0 (cw ag.out);replace nZ:=k0 (Kd.jZ nZ.out);replace rH:=k0 ((show (wr.drew).cell? _=some _ from rH.out));replace HB:=k0 (cP HB.out)
     obtain ⟨afQ,Yf,CA⟩:=Kd.eF alr.out
     (first|subst CA|(injection CA with alT om jQ;have oo:=alT.symm;have oq:=jQ.symm;clear alT om jQ;subst oo;subst oq))
     have gj:0≤(bM:Int):=oD
     have alG:bM < (dB.length:Int):=oD
     obtain ⟨mW,e111,gN⟩:=Kd.bJ (Kd.bx alr.out).2.2 bM gj alG
     cases e111
     replace gj:=eq_true gj
     replace alG:=eq_true alG
     have al3:0≤(fB:Int):=oD
     have oF:fB < (l2.length:Int):=oD
     obtain ⟨yl,e112,lS⟩:=Kd.bJ yb.out fB al3 oF
     have ab4:=lS
     cases e112
     replace lS:=hbc HB lS
     replace al3:=eq_true al3
     replace oF:=eq_true oF
     have LG:0≤(bM:Int):=oD
     have LW:(bM:Int) < ((dB.length:Int):Int):=oD
     obtain ⟨nJ,Ye,Cz,CH,JY,X0,BX⟩:=Kd.lp alr.out (by omega)
     (first|cases Cz|(injection Cz with bh dm di;(first|subst bh|(injection bh with bh;subst bh));subst di;clear dm))
     have BR:=k0 CH
     have Na:=k0 BX
     clear CH JY BX
     (first|simp only [add_plain] at gN|skip)
     obtain ⟨ab9,aa6⟩:=Kd.jB 0 alr.out (bM:Int) LG LW
     replace LG:=eq_true LG
     replace LW:=eq_true LW
     have Ih:=Kd.Ag alr.out (bM:Int) (wrap64 ((rd dB bM) - (wrap64 ((rd (ah t105 fB) bM) * (rd l2 fB)))))
     rw [← wN.out] at Ih
     have NG:=k0 Ih
     clear Ih
     refine lU (n:=13) (S:=fun w'=>w'.cell? ⟨nJ,(bM).toNat,none⟩=some (.int .i64 (rd dB bM))∧w'.cell? (yl.add (fB).toNat)=some (.int .i64 (rd l2 fB))) (ds:=[12]) (ba 13 0) (by kernel_rfl) rfl rfl ⟨gN,(hbc HB ab4)⟩ (fun hHeld=>?_);refine pW cC.Ex cC.Ch (fun ay cZ=>?_)
     generalize wr.drew=TA at alr mR amw ag nZ rH HB Na NG aa6 gN lS ab9 hHeld ⊢
     refine pu 0 (some 29) (ba 13 1) ay (h:=?_)
     refine pu 1 (some 30) (ba 13 3) ay (h:=?_)
     refine pu 2 (some 31) (ba 13 7) ay (h:=?_)
     refine pu 4 (some 33) (ba 13 23) ay (h:=?_)
     refine pu 5 (some 34) (ba 13 55) ay (h:=?_)
     refine pu 6 (some 35) (ba 13 119) ay (h:=?_)
     refine pu 7 (some 36) (ba 13 247) ay (h:=?_)
     refine ta 3 (some 32) (ba 13 255) ay cZ hHeld (hy:=Or.inl ⟨by rfl,by rintro w' ⟨s0,s1⟩;go_simp;with_reducible rfl⟩) (h:=?_)
     refine ta 8 (some 37) (ba 13 511) ay cZ hHeld (hy:=Or.inl ⟨by rfl,by rintro w' ⟨s0,s1⟩;go_simp;with_reducible rfl⟩) (h:=?_)
     refine pu 9 (some 38) (ba 13 1023) ay (h:=?_)
     refine pu 10 (some 39) (ba 13 2047) ay (h:=?_)
     refine pu 11 (some 40) (ba 13 4095) ay (h:=?_)
     refine qE (i:=12) (N:=none) (ba 13 8191) rfl rfl (kg ay.out (by kernel_rfl)) (by decide) (fun K hK=>?_)
     refine pV (w1:=?_) (by rfl) rfl ?_ ?_
     rotate_left;· go_simp;rfl
     refine hK.out _ _ ?_
     clear hK K
     refine lQ (pN ay.out (by kernel_rfl)) ?_
     try go_wp2
     first|go_roundg k2|((try (have e_:=EZ.out;injection e_ with yA Jy yB;subst yA yB));go_roundg k2)
     case measure=>have:=alj.out;have:=bB.out;omega
     case rel=>exact ⟨(iA),(wrap64 (bM+1)),rs,H',⟨by have:=alj.out;have:=bB.out;omega⟩,⟨by (with_reducible repeat (first|apply iu.alloc|apply iu.drewN|apply iu.drew));(try refine iu.set ?_ (Kd.lq mR.out) (Kd.N_ alr.out) rfl (by decide));first|exact ⟨_,_,_,rfl,(by first|exact of_eq_true eH|exact amg nF.out|omega),(by first|exact of_eq_true ez|exact mH nF.out|(have h_:=of_eq_true ez;omega)|(have h_:=mH nF.out;omega)),rH.out⟩|(rw [← EZ.out];exact ⟨_,_,_,rfl,(by first|exact of_eq_true eH|exact amg nF.out|omega),(by first|exact of_eq_true ez|exact mH nF.out|(have h_:=of_eq_true ez;omega)|(have h_:=mH nF.out;omega)),rH.out⟩)⟩,⟨aR (NG.out)⟩,⟨aS (Kd.iF (Kd.uk (p:=⟨nJ,(bM:Int).toNat,none⟩) (Kd.iF mR.out (fun k_ hk=>(⟨hk,fun e_=>hk (by rw [e_];rfl)⟩:_∧k_ ≠ nJ))) (fun _ hk=>hk.2) (.int .i64 (wrap64 ((rd dB bM) - (wrap64 ((rd (ah t105 fB) bM) * (rd l2 fB))))))) (fun _ hk=>hk.1))⟩,⟨by (with_reducible repeat (first|refine eg ?_ _|refine cw ?_|refine dV ?_ _));refine fW ?_ (by have h_:=Kd.gY alr.out ag.out (by decide);intro e_;exact h_ (by rw [e_];rfl)) _;exact bk⟩,⟨by repeat (first|(with_reducible first|exact HB.out|apply dh|apply ek|apply cP|refine dJ ?_ BR.out|refine dJ ?_ eB.out)|exact HB.out)⟩⟩
/-! ### F222: function 222 -/
theorem Wt {α : Type} {d : Kd α} {e base g n c : Nat} {ok : Nat → Prop} {W : World} {xs : List α} (h : d.R e W base ok (.slice (some ⟨g, 0, none⟩) n c) xs) (j : Nat) (hj : n * d.sz ≤ j) (hjc : j < c * d.sz) (u : Value) :
  (W.cell? ⟨g,j,none⟩).isSome=true∧W.frozen? ⟨g,j,none⟩=false∧d.R e (W.setCell ⟨g,j,none⟩ u) base ok (.slice (some ⟨g,0,none⟩) n c) xs∧W.grownBy (W.setCell ⟨g,j,none⟩ u) (some g):=by
 obtain ⟨hn,hnc,_⟩:=Kd.bx h
 obtain ⟨hok,inner,ho,hr⟩:=h
 obtain ⟨vQ,qz⟩:=ho
 rcases qz with ⟨hv,_⟩|⟨g',cap',cur,hv,hb,hh,KP,rV,hcs,ht⟩
 ·cases hv
 injection hv with ha _ hc
 injection ha with ha
 injection ha with hg
 subst hg;subst hc
 have vM:∀ k,k ≠ g→(W.setCell ⟨g,j,none⟩ u).heap[k]?=W.heap[k]?:=fun k hk=>Below.heap_setCell W ⟨g,j,none⟩ u k hk
 have abW:=Fp hh j u
 have hgr:W.grownBy (W.setCell ⟨g,j,none⟩ u) (some g):=⟨rfl,rfl,rfl,by simp [World.setCell],fun k _ hk=>vM k (fun he=>hk (by rw [he]))⟩
 refine ⟨?_,aD hh j,⟨hok,inner,⟨vQ,.inr ⟨g,c,cur.setIfInBounds j u,by rw [hn],hb,abW,KP,rV,by rw [Array.size_setIfInBounds];exact hcs,?_⟩⟩,?_⟩,hgr⟩
 ·rw [av hh j,Array.getElem?_eq_getElem (by omega)];rfl
 ·rw [Array.toList_setIfInBounds,List.take_set_of_le (by rw [← hn];exact hj)];exact ht
 ·exact hr.jH (fun x cs hM=>d.lg (fun k hk=>vM k (fun he=>hk.2 (by rw [he];rfl))) hM)
set_option maxHeartbeats 8000000 in
set_option maxRecDepth 100000 in
theorem Uy.calls (ok : Nat → Prop) (g n c : Nat) (l0 : List Int) (i : Int) (b : Nat) (w0 w : World) (hB : Below b w0 w) (hb : b ≤ w.heap.size) (ho : Kd.R (Kd.int .i64) 2 w b ok (.slice (some ⟨g, 0, none⟩) n c) l0) (h0 : 0 ≤ i) (h1 : i < (n : Int)) :
  Calls Try.prog 222 #[.slice (some ⟨g,0,none⟩) n c,.int .i64 i,.int .i64 (wrap64 (i+1))] w fun e w'=>e=.returned (.slice (some ⟨g,0,none⟩) (n - 1) c)∧Kd.R (Kd.int .i64) 2 w' b ok (.slice (some ⟨g,0,none⟩) (n - 1) c) (l0.eraseIdx i.toNat)∧Below b w0 w'∧w.grownBy w' (some g):=by
 obtain ⟨hn,hnc,hC⟩:=Kd.bx ho
 obtain ⟨k,rfl⟩:∃ k:Nat,i=(k:Int):=⟨i.toNat,by omega⟩
 have hk:k < n:=by omega
 have abF:n≤9223372036854775807:=by rw [hn];exact hC.2.1
 have hJ:wrap64 ((k:Int)+1)=((k+1:Nat):Int):=by unfold wrap64;omega
 rw [hJ,Int.toNat_natCast]
 have HO:=k0 ho
 have HB:=k0 hB
 have HL:=k0 hn
 clear ho hB hC hJ hn
 have Rm:decide ((0:Int)≤(k:Int))=true:=decide_eq_true (by omega)
 have e1:((k:Int) == ((k+1:Nat):Int))=false:=by simp;omega
 have hkc:k≤c:=by omega
 have amX:k+1≤n:=hk
 have vS:(0:Int)≤(k:Int)+1:=by omega
 have hp1:(k:Int)+1≤(n:Int):=by omega
 go_enter Try.func222,Try.ntmps222
 go_wp2
 go_region_law (refine Kd.Wq (Kd.int .i64) b (by simp [Region.wanted]) (.tmp 22) (.tmp 25) 28 2 rfl Try.underlying28 (by kernel_rfl) (g:=g) (n:=n) (c:=c) (k:=k) rfl rfl ?hA ?hm (Kd.bn HO.out) hk (by first|exact HB.out|(apply cP;exact HB.out)) hb ?_;(case hA=>have e_:(Kd.int .i64).sz=1:=rfl;rw [e_,Nat.mul_one];split<;>simp_all [Addr.add]);(case hm=>rfl);intro w2 qz hb2 Q0;have E7:=k0 qz;have fc:=k0 hb2;have Nh:=k0 Q0;clear qz hb2 Q0)
 have hsz:(Kd.int .i64).sz=1:=rfl
 obtain ⟨hs1,KX,RK,RL⟩:=Wt E7.out (n - 1) (by rw [hsz];omega) (by rw [hsz];omega) (.int .i64 0)
 have NA:=k0 RK
 have Nl:=k0 RL
 clear RK RL
 have hcl:∀ ty,(Builtin.clear_ #[28] ty #[.slice (some ⟨g,n - 1,none⟩) 1 (c - (n - 1))]).run Try.prog w2=.ok (.tuple #[]) (w2.setCell ⟨g,n - 1,none⟩ (.int .i64 0)) :=
  fun ty=>Lib.run_clear_slice w2 28 2 ty (.int .i64 0) Try.underlying28 (fun w=>by first|rfl|(go_simp;done)) rfl rfl g (n - 1) 1 _ (by omega) (fun j hj=>by obtain rfl:j=0:=(by omega);exact hs1) (fun j hj=>by obtain rfl:j=0:=(by omega);exact KX)
 have uz:¬ (c=n - 1):=by omega
 have Bg:n - (n - 1)=1:=by omega
 have hp2:n - 1≤n:=by omega
 go_wp2
 all_goals go_ret
 all_goals (try (have Kj:c=k+1:=(by assumption);subst Kj))
 all_goals (have HG:=World.grownBy.trans Nh.out Nl.out)
 all_goals exact ⟨rfl,NA.out,fc.out.grown Nl.out (Nat.le_trans hb Nh.out.size) (fun k_ j7=>Kd.cn NA.out k_ j7),⟨HG.os,HG.tape,HG.output,HG.size,HG.block⟩⟩
-- NOT PRINTED: function 220 (slices_IndexFunc_int64_int64_220)
/-! ### F238: function 238 -/
theorem afx {b1 : Nat} (A : Option Addr) (c : Nat) (l : List Int) (a : Int) (r : Bool) (w : World) (hr : Kd.C (Kd.int .i64) w A l.length l) (hb : w.heap[b1]? = some (.cells #[.int .i64 a] 3 (0, 0))) (h : (if 0 ≤ a then (if a < (l.length : Int) then some (rd l a != 0) else none) else none) = some r) :
  Calls Try.prog 238 #[.slice A l.length c,.pointer (some ⟨b1,0,none⟩)] w fun e w'=>e=.returned (.bool r)∧bI w w':=by
 by_cases h0:0≤a
 case neg =>
  rw [if_neg h0] at h;cases h
 rw [if_pos h0] at h
 by_cases h1:a < (l.length:Int)
 case neg =>
  rw [if_neg h1] at h;cases h
 rw [if_pos h1] at h
 obtain rfl:=Option.some.inj h
 obtain ⟨ad,e,hcell⟩:=Kd.bJ hr a h0 h1
 subst e
 have zc:w.cell? ⟨b1,0,none⟩=some (.int .i64 a):=(av hb 0).trans rfl
 have hf2:=aD hb 0
 have Xp:=decide_eq_true h0
 have Jc:=decide_eq_true h1
 have Xq:=eq_true h0
 have Xx:=eq_true h1
 clear hr hb h h0 h1
 go_enter Try.func238,Try.ntmps238
 go_wp2
 go_ret
 exact ⟨by first|rfl|(simp;done)|(simp [*];done),by repeat (first|exact bI.refl _|apply bI.step)⟩
theorem afw (p : List Int → Option Bool) (b1 : Nat) (A : Option Addr) (c : Nat) (l : List (List Int)) (R : Int) (w : World) (hr : Kd.C (Kd.slice 2 (Kd.int .i64)) w A l.length l)
 (hp:∀ (A':Option Addr) (c':Nat) (x:List Int) (b:Bool) w1,Below w.heap.size w w1→Kd.C (Kd.int .i64) w1 A' x.length x→x.length≤c'→p x=some b→Calls Try.prog 238 #[.slice A' x.length c',.pointer (some ⟨b1,0,none⟩)] w1 fun e w'=>e=.returned (.bool b)∧Below w1.heap.size w1 w') (h:nL p l 0=some R) :
 Calls Try.prog 220 #[.slice A l.length c,.func (.func 238) #[] #[.pointer (some ⟨b1,0,none⟩)]] w fun e w'=>e=.returned (.int .i64 R)∧Below w.heap.size w w':=by
 have HR:=k0 hr
 have HP:=k0 hp
 have H':=k0 h
 have hlen:l.length≤9223372036854775807:=hr.2.1
 clear hr hp h
 go_enter Try.func220,Try.ntmps220
 go_wp2_with fail
 go_loopw [8] (fun i wr=>∃ k:Nat,k≤l.length∧i=.int .i64 k∧au (nL p (l.drop k) k=some R)∧au (Below w.heap.size w wr)) (fun i _=>l.length - (intOf i).toNat)
 case atStart=>exact ⟨0,Nat.zero_le _,rfl,⟨by simpa using H'.out⟩,⟨Below.refl _ _⟩⟩
 case round =>
  clear H'
  obtain ⟨k,hk,rfl,HI,HB⟩:=hrel
  by_cases hlt:k < l.length
  case neg =>
   have hI:=HI.out
   rw [List.drop_of_length_le (by omega)] at hI
   simp only [nL,Option.some.injEq] at hI
   subst hI
   have hb:decide (k < l.length)=false:=by simp;omega
   go_wp2
   go_ret
   exact ⟨rfl,HB.out⟩
  have hI:=HI.out
  rw [List.drop_eq_getElem_cons hlt] at hI
  simp only [nL] at hI
  obtain ⟨b,hb,hI⟩:=Option.bind_eq_some_iff.mp hI
  obtain ⟨ad,A',c',e,hcell,hlc,hC⟩:=cX (Kd.bK HR.out HB.out) (k:Int) (by omega) (by omega)
  cases e
  rw [Int.toNat_natCast] at hcell
  have hx:ah l (k:Int)=l[k]:=by simp [ah,List.getD_eq_getElem?_getD,hlt]
  rw [hx] at hcell hlc hC
  have BV:=k0 hC
  have B0:=k0 hlc
  have BU:=k0 hb
  clear hC hlc hb hx
  cases b with
  | true =>
   simp only [if_true,Option.some.injEq] at hI
   subst hI
   go_wp2_with (go_at_call 238;refine (HP.out _ _ _ true _ HB.out BV.out B0.out BU.out).mono ?_;rintro e w' ⟨rfl,cr⟩;have fc:=k0 (aI HB.out cr);clear cr)
   go_ret
   exact ⟨rfl,fc.out⟩
  | false =>
   simp only [Bool.false_eq_true,if_false] at hI
   have HD:=k0 hI
   clear hI
   go_wp2_with (go_at_call 238;refine (HP.out _ _ _ false _ HB.out BV.out B0.out BU.out).mono ?_;rintro e w' ⟨rfl,cr⟩;have fc:=k0 (aI HB.out cr);clear cr)
   go_roundw
   case rel=>exact ⟨k+1,by omega,by go_num,HD,fc⟩
   case measure=>simp [intOf];omega
def pz.f (k:Nat) (l0:List (List Int)) (a1:Int):Option Int:=nL (fun x=>if 0≤a1 then (if a1 < (x.length:Int) then some (rd x a1 != 0) else none) else none) l0 0
theorem pz.mono:∀ a0 a1 k,aj (pz.f k a0 a1) (pz.f (k+1) a0 a1):=fun _ _ _ _ h=>h
set_option maxHeartbeats 8000000 in
set_option maxRecDepth 100000 in
theorem pz.calls {b1 : Nat} (k : Nat) (A0 : Option Addr) (c0 : Nat) (l0 : List (List Int)) (a1 : Int) (r : Int) (w : World) (cS : Kd.C (Kd.slice 2 (Kd.int .i64)) w A0 l0.length l0) (hc0 : l0.length ≤ c0) (hb1 : w.heap[b1]? = some (.cells #[.int .i64 a1] 3 (0, 0))) (h : pz.f k l0 a1 = some r) :
  Calls Try.prog 220 #[.slice A0 l0.length c0,.func (.func 238) #[] #[.pointer (some ⟨b1,0,none⟩)]] w fun e w'=>e=.returned (.int .i64 r)∧Below w.heap.size w w':=by
 unfold pz.f at h
 refine afw (fun x=>if 0≤a1 then (if a1 < (x.length:Int) then some (rd x a1 != 0) else none) else none) b1 A0 c0 l0 r w cS (fun A' c' x b w1 hw1 hC hc hx=>?_) h
 exact (afx A' c' x a1 b w1 hC (alm hb1 hw1) hx).mono fun e w' ⟨h1,h2⟩=>⟨h1,h2.below⟩
end Go.Proofs.Ytoebojnhchocaaa.D
/- Set with little white space, by a program. -/
