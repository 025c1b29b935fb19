/- The functions that one law reaches, each as a Lean function, and that Go's call comes to what it says. Condition of each: that the Lean function answers (is not none). -/
import Derived.Test.YtoebojnhchocaaaBx0
import Derived.Test.YtoebojnhchocaaaBx12
import Derived.Test.YtoebojnhchocaaaBx13
namespace Go.Proofs.Ytoebojnhchocaaa.B
open Go.RowKit Go.Proofs.bC.eg Go.Proofs.bC.iZ Go.Proofs.bC.jr
attribute [local go_sem] max2_int min2_int max_two min_two max_three min_three max_four min_four   -- for this text's walks alone
set_option linter.unusedVariables false
set_option linter.unusedSimpArgs false
/-! ### F186: function 186 -/
mutual
def cG.l0 : Nat → List Int → List Int → List (List Int) → Int → Int → Option (List Int)
 | 0,_,_,_,_,_=>none
 | k+1,x2,x7,gO,jQ,wW=>if wW < jQ then (if 0≤wW then (if wW < (gO.length:Int) then (cG.l1 k x2 x7 wW gO jQ wW ((ag gO wW).length:Int) 0) else (none)) else (none)) else (some x7)
def cG.l1 : Nat → List Int → List Int → Int → List (List Int) → Int → Int → Int → Int → Option (List Int)
 | 0,_,_,_,_,_,_,_,_=>none
 | k+1,x2,x7,x8,gO,jQ,wW,qf,kL=>if kL < qf then (if 0≤kL then (if kL < ((ag gO x8).length:Int) then (if kL < (x7.length:Int) then (if 0≤x8 then (if x8 < (x2.length:Int) then (cG.l1 k x2 (x7.set (kL:Int).toNat (wrap64 ((rd x7 kL) - (wrap64 ((rd (ag gO x8) kL) * (rd x2 x8)))))) x8 gO jQ wW qf (wrap64 (kL+1))) else (none)) else (none)) else (none)) else (none)) else (none)) else (cG.l0 k x2 x7 gO jQ (wrap64 (wW+1)))
end
def cG.f (k:Nat) (af:Int) (aa:List (List Int)) (l1:List Int) (l2:List Int):Option (List Int):=(oa.f l1).bind fun t102=>((cD.f k af aa).bind fun t105=>(cG.l0 k l2 t102 t105 (t105.length:Int) 0))
theorem cG.cj : ∀ k, (∀ y0 y1 y2 y3 y4, aj (cG.l0 k y0 y1 y2 y3 y4) (cG.l0 (k + 1) y0 y1 y2 y3 y4)) ∧ (∀ y0 y1 y2 y3 y4 y5 y6 y7, aj (cG.l1 k y0 y1 y2 y3 y4 y5 y6 y7) (cG.l1 (k + 1) y0 y1 y2 y3 y4 y5 y6 y7))
 | 0=>⟨fun _ _ _ _ _ r h=>by simp [cG.l0] at h,fun _ _ _ _ _ _ _ _ r h=>by simp [cG.l1] at h⟩
 | k+1=>by
  obtain ⟨ali,ih1⟩:=cG.cj k
  refine ⟨?_, ?_⟩ <;> intros <;> (first | unfold cG.l0 | unfold cG.l1) <;> repeat' first
   | (with_reducible first|exact ali _ _ _ _ _|exact ih1 _ _ _ _ _ _ _ _|exact cD.mono _ _ _|exact aj.refl _|exact aj.none _|refine aj.ite ?_ ?_|refine aj.bind ?_ (fun _=>?_))
   | exact ali _ _ _ _ _|exact ih1 _ _ _ _ _ _ _ _|exact cD.mono _ _ _|exact aj.none _|refine aj.ite ?_ ?_|refine aj.bind ?_ (fun _=>?_)
theorem cG.mono:∀ a0 a1 a2 a3 k,aj (cG.f k a0 a1 a2 a3) (cG.f (k+1) a0 a1 a2 a3):=by
 intro a0 a1 a2 a3 k
 obtain ⟨ali,ih1⟩:=cG.cj k
 unfold cG.f
 repeat' first
  | (with_reducible first|exact ali _ _ _ _ _|exact ih1 _ _ _ _ _ _ _ _|exact cD.mono _ _ _|exact aj.refl _|exact aj.none _|refine aj.ite ?_ ?_|refine aj.bind ?_ (fun _=>?_))
  | exact ali _ _ _ _ _|exact ih1 _ _ _ _ _ _ _ _|exact cD.mono _ _ _|exact aj.none _|refine aj.ite ?_ ?_|refine aj.bind ?_ (fun _=>?_)
def cG.T8:Bool × List (List Nat × List Nat):=(true,[([],[]),([],[]),([0,1],[0,1]),([2],[2]),([],[]),([],[]),([],[]),([5,6],[5,6]),([7],[7]),([4,8],[4,8]),([3,9],[3,9]),([0,1,0,1,2,3,4,5,6,7,8,9,10],[0,1]),([11,10,0,1,2,3,4,5,6,7,8,9,10],[10,11])])
def cG.B8:List Nat:=[0,0,3,7,0,0,0,96,224,496,1023,2047,4095]
theorem cG.Ee:gY .any (opsOf Try.f186 8)=cG.T8:=by kernel_rfl
theorem cG.Ce:nV cG.T8.2 cG.B8=true:=by kernel_rfl
set_option maxHeartbeats 8000000 in
set_option maxRecDepth 100000 in
theorem cG.calls (k : Nat) (af : Int) (au : Option Addr) (aq : Nat) (aa : List (List Int)) (A1 : Option Addr) (c1 : Nat) (l1 : List Int) (A2 : Option Addr) (c2 : Nat) (l2 : List Int) (r : List Int) (w : World) (cl : Kd.C (Kd.slice 2 (Kd.int .i64)) w au aa.length aa) (cn : aa.length ≤ aq) (cE : Kd.C (Kd.int .i64) w A1 l1.length l1) (dW : l1.length ≤ c1) (lC : Kd.C (Kd.int .i64) w A2 l2.length l2) (uU : l2.length ≤ c2) (h : cG.f k af aa l1 l2 = some r) :
  Calls Try.prog 186 #[.agg #[.int .i64 af,.slice au aa.length aq],.slice A1 l1.length c1,.slice A2 l2.length c2] w fun e w'=>∃ cF:Value,e=.returned (cF)∧Kd.R (Kd.int .i64) 2 w' w.heap.size (fun _=>True) cF r∧Below w.heap.size w w':=by
 have kF:=Try.underlying31
 have alx:=k0 cl
 have di:=k0 cn
 clear cl cn
 have eP:=k0 cE
 have nk:=k0 dW
 clear cE dW
 have yF:=k0 lC
 have amO:=k0 uU
 clear lC uU
 have HB:=k0 (Below.refl w.heap.size w)
 have H:((oa.f l1).bind fun t102=>((cD.f k af aa).bind fun t105=>(cG.l0 k l2 t102 t105 (t105.length:Int) 0)))=some r:=h
 clear h
 replace H:=Option.bind_eq_some_iff.mp H
 obtain ⟨t102,jH,H⟩:=H
 replace H:((cD.f k af aa).bind fun t105=>(cG.l0 k l2 t102 t105 (t105.length:Int) 0))=some r:=H
 have A4:=k0 jH
 clear jH
 replace H:=Option.bind_eq_some_iff.mp H
 obtain ⟨t105,wY,H⟩:=H
 replace H:(cG.l0 k l2 t102 t105 (t105.length:Int) 0)=some r:=H
 have A5:=k0 wY
 clear wY
 have H':=k0 H
 clear H
 go_enter Try.func186,Try.ntmps186
 go_wp2_with (first|((with_reducible refine cy (N:=3) rfl ?_);refine ec ?hg (N:=3) ?hd (cs:=#[.int .i64 af,.slice au aa.length aq]) (t:=31) ?hr ?_;(case hd=>rfl);(case hg=>rfl);(case hr=>first|(go_simp;done)|(go_simp;rfl));intro ai hg w6 aJ hb;have ah:=k0 (aJ);have cr:=k0 ((by rw [hg];exact (aU bl):w.heap.size≤ai));have eL:=cr;replace HB:=k0 (aG bl hb);clear hb aJ hg)|((with_reducible refine fo (f:=151) rfl ?_);refine fq (some 13) rfl rfl Try.func151 (by kernel_rfl) rfl #[.slice A1 l1.length c1] rfl gm ?_;(with_reducible refine (oa.calls _ _ l1 t102 _ ?bt ?bu A4.out).mono ?_);(case bt=>exact aC (Kd.bI eP.out HB.out));(case bu=>exact nk.out);rintro e w7 ⟨dw,rfl,aY,hb⟩;refine ⟨_,rfl,?_⟩;have a_:=k0 (Kd.d_ aY (aU bl));replace ah:=k0 (alg (g:=ai) (o:=sO af au aa aq 31) bk hb);replace HB:=k0 (aG bl hb);(try clear hb);(try clear aY);have xS:w7.cell? ⟨ai,0,none⟩=some (.int .i64 af):=(av ah.out 0).trans rfl;have xT:w7.cell? ⟨ai,1,none⟩=some (.slice au aa.length aq):=(av ah.out 1).trans rfl;have xY:=ale ah.out 0;have xZ:=ale ah.out 1)|((with_reducible refine fo (f:=195) rfl ?_);refine fq (some 15) rfl rfl Try.func195 (by kernel_rfl) rfl #[.agg #[.int .i64 af,.slice au aa.length aq]] rfl gm ?_;(with_reducible refine (cD.calls k af _ _ aa t105 _ ?bt ?bu A5.out).mono ?_);(case bt=>exact aC (Kd.bI alx.out HB.out));(case bu=>exact di.out);rintro e w9 ⟨gj,rfl,aY,hb⟩;refine ⟨_,rfl,?_⟩;have cO:=k0 (Kd.pU (Kd.AE aY (Kd.eZ (aR a_.out))) (aU bl));replace a_:=k0 (Kd.ct (aR a_.out) hb);replace ah:=k0 (alg (g:=ai) (o:=sO af au aa aq 31) bk hb);replace HB:=k0 (aG bl hb);(try clear hb);(try clear aY);obtain ⟨EB,pY,qB⟩:=Kd.qx cO.out;subst qB))
 go_loopg [17] k (fun kq v17 w'=>∃ (iB:List Int) (fG:Int),v17=.int .i64 fG∧ak (cG.l0 kq l2 iB t105 (t105.length:Int) fG=some r)∧ak (kq≤k)∧ak (Kd.R (Kd.int .i64) 2 w' w.heap.size (fun _=>True) dw iB)∧ak (Kd.S (Kd.slice 2 (Kd.int .i64)) 28 w' w.heap.size (fun k_=>some k_ ≠ (dw:Value).ownBlock) (.slice EB t105.length pY) t105)∧ak (w'.heap[ai]?=some (sO af au aa aq 31))∧ak (Below w.heap.size w w'))
 case atStart=>exact ⟨(t102),(0),rs,H',⟨Nat.le_refl _⟩,⟨aR (a_.out)⟩,⟨aS (Kd.iM cO.out (fun _ hk=>hk.2))⟩,⟨bk⟩,⟨bl⟩⟩
 case round =>
  clear H'
  (try clear xS);(try clear xT);(try clear xY);(try clear xZ)
  obtain ⟨iB,fG,rfl,HA,aM,cP,mI,ah,HB⟩:=hrel
  cases gk with
  | zero=>exact absurd HA.out (by simp [cG.l0])
  | succ k1 =>
   have H:=HA.out
   clear HA
   simp only [cG.l0] at H
   by_cases c11:fG < (t105.length:Int)
   case neg =>
    rw [if_neg c11] at H
    have l_:decide (fG < (t105.length:Int))=false:=decide_eq_false c11
    clear c11
    obtain rfl:=Option.some.inj H
    go_wp2
    go_ret
    exact ⟨_,by first|rfl|(simp [bA,bB]<;>rfl)|(simp [*,bA,bB]<;>rfl),by (with_reducible repeat (first|apply Kd.bO|apply Kd.bR|apply Kd.alp));exact cP.out,bl⟩
   rw [if_pos c11] at H
   have l_:=decide_eq_true c11
   clear c11
   replace H:=iS H;obtain ⟨c12,H⟩:=H
   have r7:=decide_eq_true c12
   clear c12
   replace H:=iS H;obtain ⟨c13,H⟩:=H
   have kU:=decide_eq_true c13
   clear c13
   have H':=k0 H
   clear H
   have ef:0≤(fG:Int):=oD
   have dS:fG < (t105.length:Int):=oD
   obtain ⟨al1,Ey,Fj,e108,fu,tQ,tK⟩:=cZ (Kd.ck mI.out).2.2 fG ef dS
   cases e108
   obtain ⟨agR,aav,aah,Qf⟩:=Kd.l6 mI.out [] fG ef (by first|exact dS|exact oD|(have e_:=(Kd.ck mI.out).1;omega))
   obtain ⟨akI,rfl,JE⟩:=aah
   have Di:=Qf 0 _ rfl
   rw [Nat.add_zero,show ((Kd.slice 2 (Kd.int .i64))).sz=1 from rfl,Nat.mul_one] at Di
   replace Di:=Option.some.inj (Di.symm.trans fu)
   rw [Di] at JE
   have af3:=k0 (show Kd.R (Kd.int .i64) 2 _ _ _ _ (ag t105 fG) from JE)
   clear Di JE
   have NS:=k0 fu
   clear Qf aav
   have Ap:=k0 tK
   have HJ:=k0 tQ
   clear tK tQ
   replace ef:=eq_true ef
   replace dS:=eq_true dS
   go_wp2
   generalize Q6:(.slice Ey (ag t105 fG).length Fj:Value)=afk
   have EM:=k0 Q6
   clear Q6
   go_loopg [24] k1 (fun kq v24 w'=>∃ (dF:List Int) (bD:Int),v24=.int .i64 bD∧ak (cG.l1 kq l2 dF fG t105 (t105.length:Int) fG ((ag t105 fG).length:Int) bD=some r)∧ak (kq≤k1)∧ak (iF w' (.slice (some al1) t105.length pY) fG afk)∧ak (Kd.R (Kd.int .i64) 2 w' w.heap.size (fun _=>True) dw dF)∧ak (Kd.S (Kd.slice 2 (Kd.int .i64)) 28 w' w.heap.size (fun k_=>some k_ ≠ (dw:Value).ownBlock) (.slice (some al1) t105.length pY) t105)∧ak (w'.heap[ai]?=some (sO af au aa aq 31))∧ak (Below w.heap.size w w'))
   case atStart=>exact ⟨(iB),(0),rs,H',⟨Nat.le_refl _⟩,⟨by (with_reducible repeat (first|apply iF.alloc|apply iF.drewN|apply iF.drew));first|exact ⟨_,_,_,rfl,(by first|exact of_eq_true ef|exact su nt.out|omega),(by first|exact of_eq_true dS|exact mq nt.out|(have h_:=of_eq_true dS;omega)|(have h_:=mq nt.out;omega)),NS.out⟩|(rw [← EM.out];exact ⟨_,_,_,rfl,(by first|exact of_eq_true ef|exact su nt.out|omega),(by first|exact of_eq_true dS|exact mq nt.out|(have h_:=of_eq_true dS;omega)|(have h_:=mq nt.out;omega)),NS.out⟩)⟩,⟨aR (cP.out)⟩,⟨aS (mI.out)⟩,⟨bk⟩,⟨bl⟩⟩
   case round =>
    clear H'
    (try clear c11);(try clear l_);(try clear c12);(try clear r7);(try clear c13);(try clear kU);(try clear xS);(try clear xT);(try clear xY);(try clear xZ);(try clear fu);(try clear ef);(try clear dS)
    obtain ⟨dF,bD,rfl,HA,bp,nt,cP,mI,ah,HB⟩:=hrel
    cases gk with
    | zero=>exact absurd HA.out (by simp [cG.l1])
    | succ k2 =>
     have H:=HA.out
     clear HA
     simp only [cG.l1] at H
     by_cases c14:bD < ((ag t105 fG).length:Int)
     case neg =>
      rw [if_neg c14] at H
      have kC:decide (bD < ((ag t105 fG).length:Int))=false:=decide_eq_false c14
      clear c14
      have H':=k0 H
      clear H
      have acg:decide (0≤fG)=true:=decide_eq_true (su nt.out)
      have aci:decide (fG < (t105.length:Int))=true:=decide_eq_true (by have h_:=mq nt.out;have e_:=(Kd.ck mI.out).1;omega)
      have eD:0≤(fG:Int):=oD
      have er:fG < (t105.length:Int):=oD
      obtain ⟨lK,Hg,Fk,e109,alI,tT,tL⟩:=cZ (Kd.ck mI.out).2.2 fG eD er
      obtain rfl:al1=lK:=(by injection e109)
      obtain ⟨OJ,CV,CM,xO⟩:=Kd.l6 mI.out [] fG eD (by first|exact er|exact oD|(have e_:=(Kd.ck mI.out).1;omega))
      obtain ⟨TF,rfl,th⟩:=CM
      have oF:=xO 0 _ rfl
      rw [Nat.add_zero,show ((Kd.slice 2 (Kd.int .i64))).sz=1 from rfl,Nat.mul_one] at oF
      replace oF:=Option.some.inj (oF.symm.trans alI)
      rw [oF] at th
      have vF:=k0 (show Kd.R (Kd.int .i64) 2 _ _ _ _ (ag t105 fG) from th)
      clear oF th
      have rY:=k0 alI
      clear xO CV
      have om:=k0 tL
      have anL:=k0 tT
      clear tL tT
      replace eD:=eq_true eD
      replace er:=eq_true er
      obtain rfl:=FO nt.out rY.out
      go_wp2
      first|go_roundg k2|((try (have e_:=EM.out;injection e_ with amY Jt amZ;subst amY amZ));go_roundg k2)
      case measure=>have:=aM.out;have:=bp.out;omega
      case rel=>exact ⟨(dF),(wrap64 (fG+1)),rs,H',⟨by have:=aM.out;have:=bp.out;omega⟩,⟨aR (cP.out)⟩,⟨aS (mI.out)⟩,⟨bk⟩,⟨bl⟩⟩
     rw [if_pos c14] at H
     have kC:=decide_eq_true c14
     clear c14
     replace H:=iS H;obtain ⟨c15,H⟩:=H
     have kV:=decide_eq_true c15
     clear c15
     replace H:=iS H;obtain ⟨c16,H⟩:=H
     have rm:=decide_eq_true c16
     clear c16
     replace H:=iS H;obtain ⟨c17,H⟩:=H
     have pF:=decide_eq_true c17
     clear c17
     replace H:=iS H;obtain ⟨c18,H⟩:=H
     have uP:=decide_eq_true c18
     clear c18
     replace H:=iS H;obtain ⟨c19,H⟩:=H
     have mb:=decide_eq_true c19
     clear c19
     obtain ⟨BF,ue⟩:∃ y_:List Int,y_=(dF.set (bD:Int).toNat (wrap64 ((rd dF bD) - (wrap64 ((rd (ag t105 fG) bD) * (rd l2 fG)))))):=⟨_,rfl⟩
     replace H:(cG.l1 k2 l2 BF fG t105 (t105.length:Int) fG ((ag t105 fG).length:Int) (wrap64 (bD+1)))=some r:=by first|(rw [ue];with_reducible exact H)|(have ax:=(Option.bind_some _ _).symm.trans H;rw [ue];with_reducible exact ax)|(have ax:=(Option.bind_some _ _).symm.trans H;with_reducible exact ax)|with_reducible exact H|(rw [ue];exact H)|exact H
     have IK:=k0 ue
     clear ue
     have H':=k0 H
     clear H
     have acg:decide (0≤fG)=true:=decide_eq_true (su nt.out)
     have aci:decide (fG < (t105.length:Int))=true:=decide_eq_true (by have h_:=mq nt.out;have e_:=(Kd.ck mI.out).1;omega)
     have eD:0≤(fG:Int):=oD
     have er:fG < (t105.length:Int):=oD
     obtain ⟨lK,Hg,Fk,e109,alI,tT,tL⟩:=cZ (Kd.ck mI.out).2.2 fG eD er
     obtain rfl:al1=lK:=(by injection e109)
     obtain ⟨OJ,CV,CM,xO⟩:=Kd.l6 mI.out [] fG eD (by first|exact er|exact oD|(have e_:=(Kd.ck mI.out).1;omega))
     obtain ⟨TF,rfl,th⟩:=CM
     have oF:=xO 0 _ rfl
     rw [Nat.add_zero,show ((Kd.slice 2 (Kd.int .i64))).sz=1 from rfl,Nat.mul_one] at oF
     replace oF:=Option.some.inj (oF.symm.trans alI)
     rw [oF] at th
     have vF:=k0 (show Kd.R (Kd.int .i64) 2 _ _ _ _ (ag t105 fG) from th)
     clear oF th
     have rY:=k0 alI
     clear xO CV
     have om:=k0 tL
     have anL:=k0 tT
     clear tL tT
     replace eD:=eq_true eD
     replace er:=eq_true er
     obtain rfl:=FO nt.out rY.out
     have jE:0≤(bD:Int):=oD
     have jF:bD < ((ag t105 fG).length:Int):=oD
     obtain ⟨lf,e110,kG⟩:=Kd.bS (by repeat (first|(with_reducible exact om.out)|(with_reducible refine Kd.kM ?_ _)|(with_reducible refine Kd.alZ ?_ _)|(with_reducible refine Kd.j6 ?_)|exact om.out)) bD jE jF
     cases e110
     replace jE:=eq_true jE
     replace jF:=eq_true jF
     try go_wp2
     replace cP:=k0 (Kd.alp cP.out);replace mI:=k0 (Kd.fI mI.out);replace vF:=k0 (Kd.alp vF.out);replace ah:=k0 (bJ ah.out);replace om:=k0 (Kd.j6 om.out);replace rY:=k0 ((show (wr.drew).cell? _=some _ from rY.out));replace HB:=k0 (bH HB.out)
     obtain ⟨ML,Jo,am1⟩:=Kd.fh cP.out
     (first|subst am1|(injection am1 with ox amt nI;have amu:=ox.symm;have amv:=nI.symm;clear ox amt nI;subst amu;subst amv))
     have gw:0≤(bD:Int):=oD
     have gy:bD < (dF.length:Int):=oD
     obtain ⟨mP,e111,gX⟩:=Kd.bS (Kd.bn cP.out).2.2 bD gw gy
     cases e111
     replace gw:=eq_true gw
     replace gy:=eq_true gy
     have oI:0≤(fG:Int):=oD
     have oJ:fG < (l2.length:Int):=oD
     obtain ⟨yQ,e112,lD⟩:=Kd.bS yF.out fG oI oJ
     have ab2:=lD
     cases e112
     replace lD:=hbc HB lD
     replace oI:=eq_true oI
     replace oJ:=eq_true oJ
     have LA:0≤(bD:Int):=oD
     have LR:(bD:Int) < ((dF.length:Int):Int):=oD
     obtain ⟨nJ,Yk,Cu,CA,JR,X6,BV⟩:=Kd.kT cP.out (by omega)
     (first|cases Cu|(injection Cu with aW aly c_;(first|subst aW|(injection aW with aW;subst aW));subst c_;clear aly))
     have BP:=k0 CA
     have Nb:=k0 BV
     clear CA JR BV
     (first|simp only [add_plain] at gX|skip)
     obtain ⟨ab7,abd⟩:=Kd.js 0 cP.out (bD:Int) LA LR
     replace LA:=eq_true LA
     replace LR:=eq_true LR
     have H7:=Kd.Az cP.out (bD:Int) (wrap64 ((rd dF bD) - (wrap64 ((rd (ag t105 fG) bD) * (rd l2 fG)))))
     rw [← IK.out] at H7
     have NG:=k0 H7
     clear H7
     refine nT (n:=13) (S:=fun w'=>w'.cell? ⟨nJ,(bD).toNat,none⟩=some (.int .i64 (rd dF bD))∧w'.cell? (yQ.add (fG).toNat)=some (.int .i64 (rd l2 fG))) (ds:=[12]) (ba 13 0) (by kernel_rfl) rfl rfl ⟨gX,(hbc HB ab2)⟩ (fun hHeld=>?_);refine rQ cG.Ee cG.Ce (fun alc dG=>?_)
     generalize wr.drew=yw at cP mI vF ah om rY HB Nb NG abd gX lD ab7 hHeld ⊢
     refine pu 0 (some 29) (ba 13 1) alc (h:=?_)
     refine pu 1 (some 30) (ba 13 3) alc (h:=?_)
     refine pu 2 (some 31) (ba 13 7) alc (h:=?_)
     refine pu 4 (some 33) (ba 13 23) alc (h:=?_)
     refine pu 5 (some 34) (ba 13 55) alc (h:=?_)
     refine pu 6 (some 35) (ba 13 119) alc (h:=?_)
     refine pu 7 (some 36) (ba 13 247) alc (h:=?_)
     refine ta 3 (some 32) (ba 13 255) alc dG hHeld (hy:=Or.inl ⟨by rfl,by rintro w' ⟨s0,s1⟩;go_simp;with_reducible rfl⟩) (h:=?_)
     refine ta 8 (some 37) (ba 13 511) alc dG hHeld (hy:=Or.inl ⟨by rfl,by rintro w' ⟨s0,s1⟩;go_simp;with_reducible rfl⟩) (h:=?_)
     refine pu 9 (some 38) (ba 13 1023) alc (h:=?_)
     refine pu 10 (some 39) (ba 13 2047) alc (h:=?_)
     refine pu 11 (some 40) (ba 13 4095) alc (h:=?_)
     refine sF (i:=12) (N:=none) (ba 13 8191) rfl rfl (lG alc.out (by kernel_rfl)) (by decide) (fun K hK=>?_)
     refine qa (w1:=?_) (by rfl) rfl ?_ ?_
     rotate_left;· go_simp;rfl
     refine hK.out _ _ ?_
     clear hK K
     refine nH (rz alc.out (by kernel_rfl)) ?_
     try go_wp2
     first|go_roundg k2|((try (have e_:=EM.out;injection e_ with amY Jt amZ;subst amY amZ));go_roundg k2)
     case measure=>have:=aM.out;have:=bp.out;omega
     case rel=>exact ⟨(BF),(wrap64 (bD+1)),rs,H',⟨by have:=aM.out;have:=bp.out;omega⟩,⟨by (with_reducible repeat (first|apply iF.alloc|apply iF.drewN|apply iF.drew));(try refine iF.set ?_ (Kd.l7 mI.out) (Kd.N6 cP.out) rfl (by decide));first|exact ⟨_,_,_,rfl,(by first|exact of_eq_true eD|exact su nt.out|omega),(by first|exact of_eq_true er|exact mq nt.out|(have h_:=of_eq_true er;omega)|(have h_:=mq nt.out;omega)),rY.out⟩|(rw [← EM.out];exact ⟨_,_,_,rfl,(by first|exact of_eq_true eD|exact su nt.out|omega),(by first|exact of_eq_true er|exact mq nt.out|(have h_:=of_eq_true er;omega)|(have h_:=mq nt.out;omega)),rY.out⟩)⟩,⟨aR (NG.out)⟩,⟨aS (Kd.iM (Kd.am_ (p:=⟨nJ,(bD:Int).toNat,none⟩) (Kd.iM mI.out (fun k_ hk=>(⟨hk,fun e_=>hk (by rw [e_];rfl)⟩:_∧k_ ≠ nJ))) (fun _ hk=>hk.2) (.int .i64 (wrap64 ((rd dF bD) - (wrap64 ((rd (ag t105 fG) bD) * (rd l2 fG))))))) (fun _ hk=>hk.1))⟩,⟨by (with_reducible repeat (first|refine cm ?_ _|refine bJ ?_|refine alo ?_ _));refine gD ?_ (by have h_:=Kd.iG cP.out ah.out (by decide);intro e_;exact h_ (by rw [e_];rfl)) _;exact bk⟩,⟨by repeat (first|(with_reducible first|exact HB.out|apply bL|apply bX|apply bH|refine dI ?_ BP.out|refine dI ?_ eL.out)|exact HB.out)⟩⟩
/-! ### F222: function 222 -/
theorem Wo {α : Type} {d : Kd α} {e base g n c : Nat} {ok : Nat → Prop} {W : World} {xs : List α} (h : d.R e W base ok (.slice (some ⟨g, 0, none⟩) n c) xs) (j : Nat) (hj : n * d.sz ≤ j) (hjc : j < c * d.sz) (u : Value) :
  (W.cell? ⟨g,j,none⟩).isSome=true∧W.frozen? ⟨g,j,none⟩=false∧d.R e (W.setCell ⟨g,j,none⟩ u) base ok (.slice (some ⟨g,0,none⟩) n c) xs∧W.grownBy (W.setCell ⟨g,j,none⟩ u) (some g):=by
 obtain ⟨hn,hnc,_⟩:=Kd.bn h
 obtain ⟨hok,inner,ho,hr⟩:=h
 obtain ⟨wH,qK⟩:=ho
 rcases qK with ⟨hv,_⟩|⟨g',cap',cur,hv,hb,hh,KK,sj,hcs,ht⟩
 ·cases hv
 injection hv with ha _ hc
 injection ha with ha
 injection ha with hg
 subst hg;subst hc
 have amF:∀ k,k ≠ g→(W.setCell ⟨g,j,none⟩ u).heap[k]?=W.heap[k]?:=fun k hk=>Below.heap_setCell W ⟨g,j,none⟩ u k hk
 have abV:=Fg hh j u
 have hgr:W.grownBy (W.setCell ⟨g,j,none⟩ u) (some g):=⟨rfl,rfl,rfl,by simp [World.setCell],fun k _ hk=>amF k (fun he=>hk (by rw [he]))⟩
 refine ⟨?_,ale hh j,⟨hok,inner,⟨wH,.inr ⟨g,c,cur.setIfInBounds j u,by rw [hn],hb,abV,KK,sj,by rw [Array.size_setIfInBounds];exact hcs,?_⟩⟩,?_⟩,hgr⟩
 ·rw [av hh j,Array.getElem?_eq_getElem (by omega)];rfl
 ·rw [Array.toList_setIfInBounds,List.take_set_of_le (by rw [← hn];exact hj)];exact ht
 ·exact hr.jZ (fun x cs hM=>d.al0 (fun k hk=>amF k (fun he=>hk.2 (by rw [he];rfl))) hM)
set_option maxHeartbeats 8000000 in
set_option maxRecDepth 100000 in
theorem Uz.calls (ok : Nat → Prop) (g n c : Nat) (l0 : List Int) (i : Int) (b : Nat) (w0 w : World) (hB : Below b w0 w) (hb : b ≤ w.heap.size) (ho : Kd.R (Kd.int .i64) 2 w b ok (.slice (some ⟨g, 0, none⟩) n c) l0) (h0 : 0 ≤ i) (h1 : i < (n : Int)) :
  Calls Try.prog 222 #[.slice (some ⟨g,0,none⟩) n c,.int .i64 i,.int .i64 (wrap64 (i+1))] w fun e w'=>e=.returned (.slice (some ⟨g,0,none⟩) (n - 1) c)∧Kd.R (Kd.int .i64) 2 w' b ok (.slice (some ⟨g,0,none⟩) (n - 1) c) (l0.eraseIdx i.toNat)∧Below b w0 w'∧w.grownBy w' (some g):=by
 obtain ⟨hn,hnc,hC⟩:=Kd.bn ho
 obtain ⟨k,rfl⟩:∃ k:Nat,i=(k:Int):=⟨i.toNat,by omega⟩
 have hk:k < n:=by omega
 have abG:n≤9223372036854775807:=by rw [hn];exact hC.2.1
 have hJ:wrap64 ((k:Int)+1)=((k+1:Nat):Int):=by unfold wrap64;omega
 rw [hJ,Int.toNat_natCast]
 have HO:=k0 ho
 have HB:=k0 hB
 have HL:=k0 hn
 clear ho hB hC hJ hn
 have Ro:decide ((0:Int)≤(k:Int))=true:=decide_eq_true (by omega)
 have e1:((k:Int) == ((k+1:Nat):Int))=false:=by simp;omega
 have hkc:k≤c:=by omega
 have zy:k+1≤n:=hk
 have tW:(0:Int)≤(k:Int)+1:=by omega
 have hp1:(k:Int)+1≤(n:Int):=by omega
 go_enter Try.func222,Try.ntmps222
 go_wp2
 go_region_law (refine Kd.Wm (Kd.int .i64) b (by simp [Region.wanted]) (.tmp 22) (.tmp 25) 28 2 rfl Try.underlying28 (by kernel_rfl) (g:=g) (n:=n) (c:=c) (k:=k) rfl rfl ?hA ?hm (Kd.alp HO.out) hk (by first|exact HB.out|(apply bH;exact HB.out)) hb ?_;(case hA=>have e_:(Kd.int .i64).sz=1:=rfl;rw [e_,Nat.mul_one];split<;>simp_all [Addr.add]);(case hm=>rfl);intro w2 qK hb2 Q3;have EU:=k0 qK;have fl:=k0 hb2;have an0:=k0 Q3;clear qK hb2 Q3)
 have hsz:(Kd.int .i64).sz=1:=rfl
 obtain ⟨hs1,hs2,RO,RP⟩:=Wo EU.out (n - 1) (by rw [hsz];omega) (by rw [hsz];omega) (.int .i64 0)
 have NA:=k0 RO
 have Nn:=k0 RP
 clear RO RP
 have hcl:∀ ty,(Builtin.clear_ #[28] ty #[.slice (some ⟨g,n - 1,none⟩) 1 (c - (n - 1))]).run Try.prog w2=.ok (.tuple #[]) (w2.setCell ⟨g,n - 1,none⟩ (.int .i64 0)) :=
  fun ty=>Lib.run_clear_slice w2 28 2 ty (.int .i64 0) Try.underlying28 (fun w=>by first|rfl|(go_simp;done)) rfl rfl g (n - 1) 1 _ (by omega) (fun j hj=>by obtain rfl:j=0:=(by omega);exact hs1) (fun j hj=>by obtain rfl:j=0:=(by omega);exact hs2)
 have wh:¬ (c=n - 1):=by omega
 have Bj:n - (n - 1)=1:=by omega
 have hp2:n - 1≤n:=by omega
 go_wp2
 all_goals go_ret
 all_goals (try (have anX:c=k+1:=(by assumption);subst anX))
 all_goals (have HG:=World.grownBy.trans an0.out Nn.out)
 all_goals exact ⟨rfl,NA.out,fl.out.grown Nn.out (Nat.le_trans hb an0.out.size) (fun k_ b8=>Kd.dV NA.out k_ b8),⟨HG.os,HG.tape,HG.output,HG.size,HG.block⟩⟩
-- NOT PRINTED: function 220 (slices_IndexFunc_int64_int64_220)
/-! ### F238: function 238 -/
theorem afm {b1 : Nat} (A : Option Addr) (c : Nat) (l : List Int) (a : Int) (r : Bool) (w : World) (hr : Kd.C (Kd.int .i64) w A l.length l) (hb : w.heap[b1]? = some (.cells #[.int .i64 a] 3 (0, 0))) (h : (if 0 ≤ a then (if a < (l.length : Int) then some (rd l a != 0) else none) else none) = some r) :
  Calls Try.prog 238 #[.slice A l.length c,.pointer (some ⟨b1,0,none⟩)] w fun e w'=>e=.returned (.bool r)∧als w w':=by
 by_cases h0:0≤a
 case neg =>
  rw [if_neg h0] at h;cases h
 rw [if_pos h0] at h
 by_cases h1:a < (l.length:Int)
 case neg =>
  rw [if_neg h1] at h;cases h
 rw [if_pos h1] at h
 obtain rfl:=Option.some.inj h
 obtain ⟨ad,e,hcell⟩:=Kd.bS hr a h0 h1
 subst e
 have zD:w.cell? ⟨b1,0,none⟩=some (.int .i64 a):=(av hb 0).trans rfl
 have hf2:=ale hb 0
 have Xp:=decide_eq_true h0
 have Jc:=decide_eq_true h1
 have Xq:=eq_true h0
 have Xy:=eq_true h1
 clear hr hb h h0 h1
 go_enter Try.func238,Try.ntmps238
 go_wp2
 go_ret
 exact ⟨by first|rfl|(simp;done)|(simp [*];done),by repeat (first|exact als.refl _|apply als.step)⟩
theorem afl (p : List Int → Option Bool) (b1 : Nat) (A : Option Addr) (c : Nat) (l : List (List Int)) (R : Int) (w : World) (hr : Kd.C (Kd.slice 2 (Kd.int .i64)) w A l.length l)
 (hp:∀ (A':Option Addr) (c':Nat) (x:List Int) (b:Bool) w1,Below w.heap.size w w1→Kd.C (Kd.int .i64) w1 A' x.length x→x.length≤c'→p x=some b→Calls Try.prog 238 #[.slice A' x.length c',.pointer (some ⟨b1,0,none⟩)] w1 fun e w'=>e=.returned (.bool b)∧Below w1.heap.size w1 w') (h:nL p l 0=some R) :
 Calls Try.prog 220 #[.slice A l.length c,.func (.func 238) #[] #[.pointer (some ⟨b1,0,none⟩)]] w fun e w'=>e=.returned (.int .i64 R)∧Below w.heap.size w w':=by
 have HR:=k0 hr
 have HP:=k0 hp
 have H':=k0 h
 have hlen:l.length≤9223372036854775807:=hr.2.1
 clear hr hp h
 go_enter Try.func220,Try.ntmps220
 go_wp2_with fail
 go_loopw [8] (fun i wr=>∃ k:Nat,k≤l.length∧i=.int .i64 k∧ak (nL p (l.drop k) k=some R)∧ak (Below w.heap.size w wr)) (fun i _=>l.length - (intOf i).toNat)
 case atStart=>exact ⟨0,Nat.zero_le _,rfl,⟨by simpa using H'.out⟩,⟨Below.refl _ _⟩⟩
 case round =>
  clear H'
  obtain ⟨k,hk,rfl,HI,HB⟩:=hrel
  by_cases hlt:k < l.length
  case neg =>
   have hI:=HI.out
   rw [List.drop_of_length_le (by omega)] at hI
   simp only [nL,Option.some.injEq] at hI
   subst hI
   have hb:decide (k < l.length)=false:=by simp;omega
   go_wp2
   go_ret
   exact ⟨rfl,HB.out⟩
  have hI:=HI.out
  rw [List.drop_eq_getElem_cons hlt] at hI
  simp only [nL] at hI
  obtain ⟨b,hb,hI⟩:=Option.bind_eq_some_iff.mp hI
  obtain ⟨ad,A',c',e,hcell,hlc,hC⟩:=cZ (Kd.bI HR.out HB.out) (k:Int) (by omega) (by omega)
  cases e
  rw [Int.toNat_natCast] at hcell
  have hx:ag l (k:Int)=l[k]:=by simp [ag,List.getD_eq_getElem?_getD,hlt]
  rw [hx] at hcell hlc hC
  have BS:=k0 hC
  have BX:=k0 hlc
  have BR:=k0 hb
  clear hC hlc hb hx
  cases b with
  | true =>
   simp only [if_true,Option.some.injEq] at hI
   subst hI
   go_wp2_with (go_at_call 238;refine (HP.out _ _ _ true _ HB.out BS.out BX.out BR.out).mono ?_;rintro e w' ⟨rfl,aA⟩;have fl:=k0 (aG HB.out aA);clear aA)
   go_ret
   exact ⟨rfl,fl.out⟩
  | false =>
   simp only [Bool.false_eq_true,if_false] at hI
   have HD:=k0 hI
   clear hI
   go_wp2_with (go_at_call 238;refine (HP.out _ _ _ false _ HB.out BS.out BX.out BR.out).mono ?_;rintro e w' ⟨rfl,aA⟩;have fl:=k0 (aG HB.out aA);clear aA)
   go_roundw
   case rel=>exact ⟨k+1,by omega,by go_num,HD,fl⟩
   case measure=>simp [intOf];omega
def pP.f (k:Nat) (l0:List (List Int)) (a1:Int):Option Int:=nL (fun x=>if 0≤a1 then (if a1 < (x.length:Int) then some (rd x a1 != 0) else none) else none) l0 0
theorem pP.mono:∀ a0 a1 k,aj (pP.f k a0 a1) (pP.f (k+1) a0 a1):=fun _ _ _ _ h=>h
set_option maxHeartbeats 8000000 in
set_option maxRecDepth 100000 in
theorem pP.calls {b1 : Nat} (k : Nat) (A0 : Option Addr) (c0 : Nat) (l0 : List (List Int)) (a1 : Int) (r : Int) (w : World) (cI : Kd.C (Kd.slice 2 (Kd.int .i64)) w A0 l0.length l0) (hc0 : l0.length ≤ c0) (hb1 : w.heap[b1]? = some (.cells #[.int .i64 a1] 3 (0, 0))) (h : pP.f k l0 a1 = some r) :
  Calls Try.prog 220 #[.slice A0 l0.length c0,.func (.func 238) #[] #[.pointer (some ⟨b1,0,none⟩)]] w fun e w'=>e=.returned (.int .i64 r)∧Below w.heap.size w w':=by
 unfold pP.f at h
 refine afl (fun x=>if 0≤a1 then (if a1 < (x.length:Int) then some (rd x a1 != 0) else none) else none) b1 A0 c0 l0 r w cI (fun A' c' x b w1 hw1 hC hc hx=>?_) h
 exact (afm A' c' x a1 b w1 hC (alg hb1 hw1) hx).mono fun e w' ⟨h1,h2⟩=>⟨h1,h2.below⟩
end Go.Proofs.Ytoebojnhchocaaa.B
/- Set with little white space, by a program. -/
