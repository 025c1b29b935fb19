/- The functions that one law reaches, each as a Lean function, and that Go's call comes to what it says. Condition of each: that the Lean function answers (is not none). -/
import Derived.Test.YtoebojnhchocaaaCx0
import Derived.Test.YtoebojnhchocaaaCx11
import Derived.Test.YtoebojnhchocaaaCx12
namespace Go.Proofs.Ytoebojnhchocaaa.C
open Go.RowKit Go.Proofs.bI.en Go.Proofs.bI.je Go.Proofs.bI.jC
attribute [local go_sem] max2_int min2_int max_two min_two max_three min_three max_four min_four   -- for this text's walks alone
set_option linter.unusedVariables false
set_option linter.unusedSimpArgs false
/-! ### F186: function 186 -/
mutual
def cF.l0 : Nat → List Int → List Int → List (List Int) → Int → Int → Option (List Int)
 | 0,_,_,_,_,_=>none
 | k+1,x2,x7,gx,jJ,vX=>if vX < jJ then (if 0≤vX then (if vX < (gx.length:Int) then (cF.l1 k x2 x7 vX gx jJ vX ((ah gx vX).length:Int) 0) else (none)) else (none)) else (some x7)
def cF.l1 : Nat → List Int → List Int → Int → List (List Int) → Int → Int → Int → Int → Option (List Int)
 | 0,_,_,_,_,_,_,_,_=>none
 | k+1,x2,x7,x8,gx,jJ,vX,pT,kJ=>if kJ < pT then (if 0≤kJ then (if kJ < ((ah gx x8).length:Int) then (if kJ < (x7.length:Int) then (if 0≤x8 then (if x8 < (x2.length:Int) then (cF.l1 k x2 (x7.set (kJ:Int).toNat (wrap64 ((rd x7 kJ) - (wrap64 ((rd (ah gx x8) kJ) * (rd x2 x8)))))) x8 gx jJ vX pT (wrap64 (kJ+1))) else (none)) else (none)) else (none)) else (none)) else (none)) else (cF.l0 k x2 x7 gx jJ (wrap64 (vX+1)))
end
def cF.f (k:Nat) (af:Int) (aa:List (List Int)) (l1:List Int) (l2:List Int):Option (List Int):=(nW.f l1).bind fun t102=>((cC.f k af aa).bind fun t105=>(cF.l0 k l2 t102 t105 (t105.length:Int) 0))
theorem cF.b8 : ∀ k, (∀ y0 y1 y2 y3 y4, aj (cF.l0 k y0 y1 y2 y3 y4) (cF.l0 (k + 1) y0 y1 y2 y3 y4)) ∧ (∀ y0 y1 y2 y3 y4 y5 y6 y7, aj (cF.l1 k y0 y1 y2 y3 y4 y5 y6 y7) (cF.l1 (k + 1) y0 y1 y2 y3 y4 y5 y6 y7))
 | 0=>⟨fun _ _ _ _ _ r h=>by simp [cF.l0] at h,fun _ _ _ _ _ _ _ _ r h=>by simp [cF.l1] at h⟩
 | k+1=>by
  obtain ⟨akk,ih1⟩:=cF.b8 k
  refine ⟨?_, ?_⟩ <;> intros <;> (first | unfold cF.l0 | unfold cF.l1) <;> repeat' first
   | (with_reducible first|exact akk _ _ _ _ _|exact ih1 _ _ _ _ _ _ _ _|exact cC.mono _ _ _|exact aj.refl _|exact aj.none _|refine aj.ite ?_ ?_|refine aj.bind ?_ (fun _=>?_))
   | exact akk _ _ _ _ _|exact ih1 _ _ _ _ _ _ _ _|exact cC.mono _ _ _|exact aj.none _|refine aj.ite ?_ ?_|refine aj.bind ?_ (fun _=>?_)
theorem cF.mono:∀ a0 a1 a2 a3 k,aj (cF.f k a0 a1 a2 a3) (cF.f (k+1) a0 a1 a2 a3):=by
 intro a0 a1 a2 a3 k
 obtain ⟨akk,ih1⟩:=cF.b8 k
 unfold cF.f
 repeat' first
  | (with_reducible first|exact akk _ _ _ _ _|exact ih1 _ _ _ _ _ _ _ _|exact cC.mono _ _ _|exact aj.refl _|exact aj.none _|refine aj.ite ?_ ?_|refine aj.bind ?_ (fun _=>?_))
  | exact akk _ _ _ _ _|exact ih1 _ _ _ _ _ _ _ _|exact cC.mono _ _ _|exact aj.none _|refine aj.ite ?_ ?_|refine aj.bind ?_ (fun _=>?_)
def cF.T8:Bool × List (List Nat × List Nat):=(true,[([],[]),([],[]),([0,1],[0,1]),([2],[2]),([],[]),([],[]),([],[]),([5,6],[5,6]),([7],[7]),([4,8],[4,8]),([3,9],[3,9]),([0,1,0,1,2,3,4,5,6,7,8,9,10],[0,1]),([11,10,0,1,2,3,4,5,6,7,8,9,10],[10,11])])
def cF.B8:List Nat:=[0,0,3,7,0,0,0,96,224,496,1023,2047,4095]
theorem cF.DJ:gF .any (opsOf Try.f186 8)=cF.T8:=by kernel_rfl
theorem cF.Bv:akZ cF.T8.2 cF.B8=true:=by kernel_rfl
set_option maxHeartbeats 8000000 in
set_option maxRecDepth 100000 in
theorem cF.calls (k : Nat) (af : Int) (aq : Option Addr) (ak : Nat) (aa : List (List Int)) (A1 : Option Addr) (c1 : Nat) (l1 : List Int) (A2 : Option Addr) (c2 : Nat) (l2 : List Int) (r : List Int) (w : World) (akv : Kd.C (Kd.slice 2 (Kd.int .i64)) w aq aa.length aa) (akw : aa.length ≤ ak) (cQ : Kd.C (Kd.int .i64) w A1 l1.length l1) (ef : l1.length ≤ c1) (nj : Kd.C (Kd.int .i64) w A2 l2.length l2) (nc : l2.length ≤ c2) (h : cF.f k af aa l1 l2 = some r) :
  Calls Try.prog 186 #[.agg #[.int .i64 af,.slice aq aa.length ak],.slice A1 l1.length c1,.slice A2 l2.length c2] w fun e w'=>∃ dK:Value,e=.returned (dK)∧Kd.R (Kd.int .i64) 2 w' w.heap.size (fun _=>True) dK r∧Below w.heap.size w w':=by
 have j8:=Try.underlying31
 have bU:=k0 akv
 have cG:=k0 akw
 clear akv akw
 have ek:=k0 cQ
 have jZ:=k0 ef
 clear cQ ef
 have rq:=k0 nj
 have qE:=k0 nc
 clear nj nc
 have HB:=k0 (Below.refl w.heap.size w)
 have H:((nW.f l1).bind fun t102=>((cC.f k af aa).bind fun t105=>(cF.l0 k l2 t102 t105 (t105.length:Int) 0)))=some r:=h
 clear h
 replace H:=Option.bind_eq_some_iff.mp H
 obtain ⟨t102,jA,H⟩:=H
 replace H:((cC.f k af aa).bind fun t105=>(cF.l0 k l2 t102 t105 (t105.length:Int) 0))=some r:=H
 have A4:=k0 jA
 clear jA
 replace H:=Option.bind_eq_some_iff.mp H
 obtain ⟨t105,alb,H⟩:=H
 replace H:(cF.l0 k l2 t102 t105 (t105.length:Int) 0)=some r:=H
 have A5:=k0 alb
 clear alb
 have H':=k0 H
 clear H
 go_enter Try.func186,Try.ntmps186
 go_wp2_with (first|((with_reducible refine cj (N:=3) rfl ?_);refine dJ ?hg (N:=3) ?hd (cs:=#[.int .i64 af,.slice aq aa.length ak]) (t:=31) ?hr ?_;(case hd=>rfl);(case hg=>rfl);(case hr=>first|(go_simp;done)|(go_simp;rfl));intro ai hg w6 aK hb;have ag:=k0 (aK);have aks:=k0 ((by rw [hg];exact (aU bl):w.heap.size≤ai));have ej:=aks;replace HB:=k0 (aI bl hb);clear hb aK hg)|((with_reducible refine cZ (f:=151) rfl ?_);refine c_ (some 13) rfl rfl Try.func151 (by kernel_rfl) rfl #[.slice A1 l1.length c1] rfl gm ?_;(with_reducible refine (nW.calls _ _ l1 t102 _ ?akn ?aT A4.out).mono ?_);(case akn=>exact aC (Kd.bA ek.out HB.out));(case aT=>exact jZ.out);rintro e w7 ⟨dx,rfl,ake,hb⟩;refine ⟨_,rfl,?_⟩;have bh:=k0 (Kd.dL ake (aU bl));replace ag:=k0 (akj (g:=ai) (o:=sO af aq aa ak 31) bk hb);replace HB:=k0 (aI bl hb);(try clear hb);(try clear ake);have yz:w7.cell? ⟨ai,0,none⟩=some (.int .i64 af):=(av ag.out 0).trans rfl;have yA:w7.cell? ⟨ai,1,none⟩=some (.slice aq aa.length ak):=(av ag.out 1).trans rfl;have yE:=aH ag.out 0;have yF:=aH ag.out 1)|((with_reducible refine cZ (f:=195) rfl ?_);refine c_ (some 15) rfl rfl Try.func195 (by kernel_rfl) rfl #[.agg #[.int .i64 af,.slice aq aa.length ak]] rfl gm ?_;(with_reducible refine (cC.calls k af _ _ aa t105 _ ?akn ?aT A5.out).mono ?_);(case akn=>exact aC (Kd.bA bU.out HB.out));(case aT=>exact cG.out);rintro e w9 ⟨fY,rfl,ake,hb⟩;refine ⟨_,rfl,?_⟩;have cN:=k0 (Kd.ak0 (Kd.lO ake (Kd.cE (aR bh.out))) (aU bl));replace bh:=k0 (Kd.di (aR bh.out) hb);replace ag:=k0 (akj (g:=ai) (o:=sO af aq aa ak 31) bk hb);replace HB:=k0 (aI bl hb);(try clear hb);(try clear ake);obtain ⟨ams,pn,qa⟩:=Kd.oK cN.out;subst qa))
 go_loopg [17] k (fun kq v17 w'=>∃ (iw:List Int) (fB:Int),v17=.int .i64 fB∧au (cF.l0 kq l2 iw t105 (t105.length:Int) fB=some r)∧au (kq≤k)∧au (Kd.R (Kd.int .i64) 2 w' w.heap.size (fun _=>True) dx iw)∧au (Kd.S (Kd.slice 2 (Kd.int .i64)) 28 w' w.heap.size (fun k_=>some k_ ≠ (dx:Value).ownBlock) (.slice ams t105.length pn) t105)∧au (w'.heap[ai]?=some (sO af aq aa ak 31))∧au (Below w.heap.size w w'))
 case atStart=>exact ⟨(t102),(0),rs,H',⟨Nat.le_refl _⟩,⟨aR (bh.out)⟩,⟨aS (Kd.iK cN.out (fun _ hk=>hk.2))⟩,⟨bk⟩,⟨bl⟩⟩
 case round =>
  clear H'
  (try clear yz);(try clear yA);(try clear yE);(try clear yF)
  obtain ⟨iw,fB,rfl,HA,akl,cO,mT,ag,HB⟩:=hrel
  cases gk with
  | zero=>exact absurd HA.out (by simp [cF.l0])
  | succ k1 =>
   have H:=HA.out
   clear HA
   simp only [cF.l0] at H
   by_cases c11:fB < (t105.length:Int)
   case neg =>
    rw [if_neg c11] at H
    have mz:decide (fB < (t105.length:Int))=false:=decide_eq_false c11
    clear c11
    obtain rfl:=Option.some.inj H
    go_wp2
    go_ret
    exact ⟨_,by first|rfl|(simp [bq,bt]<;>rfl)|(simp [*,bq,bt]<;>rfl),by (with_reducible repeat (first|apply Kd.bN|apply Kd.bQ|apply Kd.bn));exact cO.out,bl⟩
   rw [if_pos c11] at H
   have mz:=decide_eq_true c11
   clear c11
   replace H:=iS H;obtain ⟨c12,H⟩:=H
   have rG:=decide_eq_true c12
   clear c12
   replace H:=iS H;obtain ⟨c13,H⟩:=H
   have kQ:=decide_eq_true c13
   clear c13
   have H':=k0 H
   clear H
   have ec:0≤(fB:Int):=oD
   have dS:fB < (t105.length:Int):=oD
   obtain ⟨akU,DX,Ez,e108,fu,sX,sQ⟩:=cW (Kd.bY mT.out).2.2 fB ec dS
   cases e108
   obtain ⟨af8,ZM,Zj,O8⟩:=Kd.mj mT.out [] fB ec (by first|exact dS|exact oD|(have e_:=(Kd.bY mT.out).1;omega))
   obtain ⟨ajL,rfl,IC⟩:=Zj
   have CN:=O8 0 _ rfl
   rw [Nat.add_zero,show ((Kd.slice 2 (Kd.int .i64))).sz=1 from rfl,Nat.mul_one] at CN
   replace CN:=Option.some.inj (CN.symm.trans fu)
   rw [CN] at IC
   have afu:=k0 (show Kd.R (Kd.int .i64) 2 _ _ _ _ (ah t105 fB) from IC)
   clear CN IC
   have MP:=k0 fu
   clear O8 ZM
   have zK:=k0 sQ
   have GO:=k0 sX
   clear sQ sX
   replace ec:=eq_true ec
   replace dS:=eq_true dS
   go_wp2
   generalize P5:(.slice DX (ah t105 fB).length Ez:Value)=aeM
   have D_:=k0 P5
   clear P5
   go_loopg [24] k1 (fun kq v24 w'=>∃ (dG:List Int) (bC:Int),v24=.int .i64 bC∧au (cF.l1 kq l2 dG fB t105 (t105.length:Int) fB ((ah t105 fB).length:Int) bC=some r)∧au (kq≤k1)∧au (iC w' (.slice (some akU) t105.length pn) fB aeM)∧au (Kd.R (Kd.int .i64) 2 w' w.heap.size (fun _=>True) dx dG)∧au (Kd.S (Kd.slice 2 (Kd.int .i64)) 28 w' w.heap.size (fun k_=>some k_ ≠ (dx:Value).ownBlock) (.slice (some akU) t105.length pn) t105)∧au (w'.heap[ai]?=some (sO af aq aa ak 31))∧au (Below w.heap.size w w'))
   case atStart=>exact ⟨(iw),(0),rs,H',⟨Nat.le_refl _⟩,⟨by (with_reducible repeat (first|apply iC.alloc|apply iC.drewN|apply iC.drew));first|exact ⟨_,_,_,rfl,(by first|exact of_eq_true ec|exact rP nE.out|omega),(by first|exact of_eq_true dS|exact mF nE.out|(have h_:=of_eq_true dS;omega)|(have h_:=mF nE.out;omega)),MP.out⟩|(rw [← D_.out];exact ⟨_,_,_,rfl,(by first|exact of_eq_true ec|exact rP nE.out|omega),(by first|exact of_eq_true dS|exact mF nE.out|(have h_:=of_eq_true dS;omega)|(have h_:=mF nE.out;omega)),MP.out⟩)⟩,⟨aR (cO.out)⟩,⟨aS (mT.out)⟩,⟨bk⟩,⟨bl⟩⟩
   case round =>
    clear H'
    (try clear c11);(try clear mz);(try clear c12);(try clear rG);(try clear c13);(try clear kQ);(try clear yz);(try clear yA);(try clear yE);(try clear yF);(try clear fu);(try clear ec);(try clear dS)
    obtain ⟨dG,bC,rfl,HA,bz,nE,cO,mT,ag,HB⟩:=hrel
    cases gk with
    | zero=>exact absurd HA.out (by simp [cF.l1])
    | succ k2 =>
     have H:=HA.out
     clear HA
     simp only [cF.l1] at H
     by_cases c14:bC < ((ah t105 fB).length:Int)
     case neg =>
      rw [if_neg c14] at H
      have ku:decide (bC < ((ah t105 fB).length:Int))=false:=decide_eq_false c14
      clear c14
      have H':=k0 H
      clear H
      have abI:decide (0≤fB)=true:=decide_eq_true (rP nE.out)
      have abK:decide (fB < (t105.length:Int))=true:=decide_eq_true (by have h_:=mF nE.out;have e_:=(Kd.bY mT.out).1;omega)
      have eG:0≤(fB:Int):=oD
      have ew:fB < (t105.length:Int):=oD
      obtain ⟨lQ,Gt,EA,e109,akF,sY,sR⟩:=cW (Kd.bY mT.out).2.2 fB eG ew
      obtain rfl:akU=lQ:=(by injection e109)
      obtain ⟨NH,Cg,amo,wW⟩:=Kd.mj mT.out [] fB eG (by first|exact ew|exact oD|(have e_:=(Kd.bY mT.out).1;omega))
      obtain ⟨Sp,rfl,sD⟩:=amo
      have ov:=wW 0 _ rfl
      rw [Nat.add_zero,show ((Kd.slice 2 (Kd.int .i64))).sz=1 from rfl,Nat.mul_one] at ov
      replace ov:=Option.some.inj (ov.symm.trans akF)
      rw [ov] at sD
      have uO:=k0 (show Kd.R (Kd.int .i64) 2 _ _ _ _ (ah t105 fB) from sD)
      clear ov sD
      have ru:=k0 akF
      clear wW Cg
      have nY:=k0 sR
      have GP:=k0 sY
      clear sR sY
      replace eG:=eq_true eG
      replace ew:=eq_true ew
      obtain rfl:=E5 nE.out ru.out
      go_wp2
      first|go_roundg k2|((try (have e_:=D_.out;injection e_ with ya Ir yb;subst ya yb));go_roundg k2)
      case measure=>have:=akl.out;have:=bz.out;omega
      case rel=>exact ⟨(dG),(wrap64 (fB+1)),rs,H',⟨by have:=akl.out;have:=bz.out;omega⟩,⟨aR (cO.out)⟩,⟨aS (mT.out)⟩,⟨bk⟩,⟨bl⟩⟩
     rw [if_pos c14] at H
     have ku:=decide_eq_true c14
     clear c14
     replace H:=iS H;obtain ⟨c15,H⟩:=H
     have kR:=decide_eq_true c15
     clear c15
     replace H:=iS H;obtain ⟨c16,H⟩:=H
     have qN:=decide_eq_true c16
     clear c16
     replace H:=iS H;obtain ⟨c17,H⟩:=H
     have oN:=decide_eq_true c17
     clear c17
     replace H:=iS H;obtain ⟨c18,H⟩:=H
     have tY:=decide_eq_true c18
     clear c18
     replace H:=iS H;obtain ⟨c19,H⟩:=H
     have mA:=decide_eq_true c19
     clear c19
     obtain ⟨al9,alr⟩:∃ y_:List Int,y_=(dG.set (bC:Int).toNat (wrap64 ((rd dG bC) - (wrap64 ((rd (ah t105 fB) bC) * (rd l2 fB)))))):=⟨_,rfl⟩
     replace H:(cF.l1 k2 l2 al9 fB t105 (t105.length:Int) fB ((ah t105 fB).length:Int) (wrap64 (bC+1)))=some r:=by first|(rw [alr];with_reducible exact H)|(have ay:=(Option.bind_some _ _).symm.trans H;rw [alr];with_reducible exact ay)|(have ay:=(Option.bind_some _ _).symm.trans H;with_reducible exact ay)|with_reducible exact H|(rw [alr];exact H)|exact H
     have amE:=k0 alr
     clear alr
     have H':=k0 H
     clear H
     have abI:decide (0≤fB)=true:=decide_eq_true (rP nE.out)
     have abK:decide (fB < (t105.length:Int))=true:=decide_eq_true (by have h_:=mF nE.out;have e_:=(Kd.bY mT.out).1;omega)
     have eG:0≤(fB:Int):=oD
     have ew:fB < (t105.length:Int):=oD
     obtain ⟨lQ,Gt,EA,e109,akF,sY,sR⟩:=cW (Kd.bY mT.out).2.2 fB eG ew
     obtain rfl:akU=lQ:=(by injection e109)
     obtain ⟨NH,Cg,amo,wW⟩:=Kd.mj mT.out [] fB eG (by first|exact ew|exact oD|(have e_:=(Kd.bY mT.out).1;omega))
     obtain ⟨Sp,rfl,sD⟩:=amo
     have ov:=wW 0 _ rfl
     rw [Nat.add_zero,show ((Kd.slice 2 (Kd.int .i64))).sz=1 from rfl,Nat.mul_one] at ov
     replace ov:=Option.some.inj (ov.symm.trans akF)
     rw [ov] at sD
     have uO:=k0 (show Kd.R (Kd.int .i64) 2 _ _ _ _ (ah t105 fB) from sD)
     clear ov sD
     have ru:=k0 akF
     clear wW Cg
     have nY:=k0 sR
     have GP:=k0 sY
     clear sR sY
     replace eG:=eq_true eG
     replace ew:=eq_true ew
     obtain rfl:=E5 nE.out ru.out
     have jw:0≤(bC:Int):=oD
     have jx:bC < ((ah t105 fB).length:Int):=oD
     obtain ⟨akV,e110,kD⟩:=Kd.bH (by repeat (first|(with_reducible exact nY.out)|(with_reducible refine Kd.kK ?_ _)|(with_reducible refine Kd.kY ?_ _)|(with_reducible refine Kd.jY ?_)|exact nY.out)) bC jw jx
     cases e110
     replace jw:=eq_true jw
     replace jx:=eq_true jx
     try go_wp2
     replace cO:=k0 (Kd.bn cO.out);replace mT:=k0 (Kd.eT mT.out);replace uO:=k0 (Kd.bn uO.out);replace ag:=k0 (ct ag.out);replace nY:=k0 (Kd.jY nY.out);replace ru:=k0 ((show (wr.drew).cell? _=some _ from ru.out));replace HB:=k0 (cP HB.out)
     obtain ⟨LX,Ii,yd⟩:=Kd.eK cO.out
     (first|subst yd|(injection yd with akL k9 gU;have akW:=akL.symm;have akX:=gU.symm;clear akL k9 gU;subst akW;subst akX))
     have gi:0≤(bC:Int):=oD
     have gl:bC < (dG.length:Int):=oD
     obtain ⟨mX,e111,gM⟩:=Kd.bH (Kd.bu cO.out).2.2 bC gi gl
     cases e111
     replace gi:=eq_true gi
     replace gl:=eq_true gl
     have oy:0≤(fB:Int):=oD
     have oz:fB < (l2.length:Int):=oD
     obtain ⟨xY,e112,lG⟩:=Kd.bH rq.out fB oy oz
     have abv:=lG
     cases e112
     replace lG:=hbc HB lG
     replace oy:=eq_true oy
     replace oz:=eq_true oz
     have KE:0≤(bC:Int):=oD
     have KU:(bC:Int) < ((dG.length:Int):Int):=oD
     obtain ⟨nI,Xh,BN,BV,IV,W3,Bc⟩:=Kd.akT cO.out (by omega)
     (first|cases BN|(injection BN with bf dn dm;(first|subst bf|(injection bf with bf;subst bf));subst dm;clear dn))
     have amf:=k0 BV
     have Md:=k0 Bc
     clear BV IV Bc
     (first|simp only [add_plain] at gM|skip)
     obtain ⟨abA,aaB⟩:=Kd.jD 0 cO.out (bC:Int) KE KU
     replace KE:=eq_true KE
     replace KU:=eq_true KU
     have G5:=Kd.al2 cO.out (bC:Int) (wrap64 ((rd dG bC) - (wrap64 ((rd (ah t105 fB) bC) * (rd l2 fB)))))
     rw [← amE.out] at G5
     have ME:=k0 G5
     clear G5
     refine lJ (n:=13) (S:=fun w'=>w'.cell? ⟨nI,(bC).toNat,none⟩=some (.int .i64 (rd dG bC))∧w'.cell? (xY.add (fB).toNat)=some (.int .i64 (rd l2 fB))) (ds:=[12]) (ba 13 0) (by kernel_rfl) rfl rfl ⟨gM,(hbc HB abv)⟩ (fun hHeld=>?_);refine qu cF.DJ cF.Bv (fun aA dh=>?_)
     generalize wr.drew=w21 at cO mT uO ag nY ru HB Md ME aaB gM lG abA hHeld ⊢
     refine pu 0 (some 29) (ba 13 1) aA (h:=?_)
     refine pu 1 (some 30) (ba 13 3) aA (h:=?_)
     refine pu 2 (some 31) (ba 13 7) aA (h:=?_)
     refine pu 4 (some 33) (ba 13 23) aA (h:=?_)
     refine pu 5 (some 34) (ba 13 55) aA (h:=?_)
     refine pu 6 (some 35) (ba 13 119) aA (h:=?_)
     refine pu 7 (some 36) (ba 13 247) aA (h:=?_)
     refine ta 3 (some 32) (ba 13 255) aA dh hHeld (hy:=Or.inl ⟨by rfl,by rintro w' ⟨s0,s1⟩;go_simp;with_reducible rfl⟩) (h:=?_)
     refine ta 8 (some 37) (ba 13 511) aA dh hHeld (hy:=Or.inl ⟨by rfl,by rintro w' ⟨s0,s1⟩;go_simp;with_reducible rfl⟩) (h:=?_)
     refine pu 9 (some 38) (ba 13 1023) aA (h:=?_)
     refine pu 10 (some 39) (ba 13 2047) aA (h:=?_)
     refine pu 11 (some 40) (ba 13 4095) aA (h:=?_)
     refine rU (i:=12) (N:=none) (ba 13 8191) rfl rfl (kF aA.out (by kernel_rfl)) (by decide) (fun K hK=>?_)
     refine pP (w1:=?_) (by rfl) rfl ?_ ?_
     rotate_left;· go_simp;rfl
     refine hK.out _ _ ?_
     clear hK K
     refine lC (p_ aA.out (by kernel_rfl)) ?_
     try go_wp2
     first|go_roundg k2|((try (have e_:=D_.out;injection e_ with ya Ir yb;subst ya yb));go_roundg k2)
     case measure=>have:=akl.out;have:=bz.out;omega
     case rel=>exact ⟨(al9),(wrap64 (bC+1)),rs,H',⟨by have:=akl.out;have:=bz.out;omega⟩,⟨by (with_reducible repeat (first|apply iC.alloc|apply iC.drewN|apply iC.drew));(try refine iC.set ?_ (Kd.akQ mT.out) (Kd.M4 cO.out) rfl (by decide));first|exact ⟨_,_,_,rfl,(by first|exact of_eq_true eG|exact rP nE.out|omega),(by first|exact of_eq_true ew|exact mF nE.out|(have h_:=of_eq_true ew;omega)|(have h_:=mF nE.out;omega)),ru.out⟩|(rw [← D_.out];exact ⟨_,_,_,rfl,(by first|exact of_eq_true eG|exact rP nE.out|omega),(by first|exact of_eq_true ew|exact mF nE.out|(have h_:=of_eq_true ew;omega)|(have h_:=mF nE.out;omega)),ru.out⟩)⟩,⟨aR (ME.out)⟩,⟨aS (Kd.iK (Kd.tW (p:=⟨nI,(bC:Int).toNat,none⟩) (Kd.iK mT.out (fun k_ hk=>(⟨hk,fun e_=>hk (by rw [e_];rfl)⟩:_∧k_ ≠ nI))) (fun _ hk=>hk.2) (.int .i64 (wrap64 ((rd dG bC) - (wrap64 ((rd (ah t105 fB) bC) * (rd l2 fB))))))) (fun _ hk=>hk.1))⟩,⟨by (with_reducible repeat (first|refine ee ?_ _|refine ct ?_|refine dX ?_ _));refine fX ?_ (by have h_:=Kd.iD cO.out ag.out (by decide);intro e_;exact h_ (by rw [e_];rfl)) _;exact bk⟩,⟨by repeat (first|(with_reducible first|exact HB.out|apply dA|apply akz|apply cP|refine dM ?_ amf.out|refine dM ?_ ej.out)|exact HB.out)⟩⟩
/-! ### F222: function 222 -/
theorem Vo {α : Type} {d : Kd α} {e base g n c : Nat} {ok : Nat → Prop} {W : World} {xs : List α} (h : d.R e W base ok (.slice (some ⟨g, 0, none⟩) n c) xs) (j : Nat) (hj : n * d.sz ≤ j) (hjc : j < c * d.sz) (u : Value) :
  (W.cell? ⟨g,j,none⟩).isSome=true∧W.frozen? ⟨g,j,none⟩=false∧d.R e (W.setCell ⟨g,j,none⟩ u) base ok (.slice (some ⟨g,0,none⟩) n c) xs∧W.grownBy (W.setCell ⟨g,j,none⟩ u) (some g):=by
 obtain ⟨hn,hnc,_⟩:=Kd.bu h
 obtain ⟨hok,inner,ho,hr⟩:=h
 obtain ⟨vH,qj⟩:=ho
 rcases qj with ⟨hv,_⟩|⟨g',cap',cur,hv,hb,hh,JQ,rM,hcs,ht⟩
 ·cases hv
 injection hv with ha _ hc
 injection ha with ha
 injection ha with hg
 subst hg;subst hc
 have vB:∀ k,k ≠ g→(W.setCell ⟨g,j,none⟩ u).heap[k]?=W.heap[k]?:=fun k hk=>Below.heap_setCell W ⟨g,j,none⟩ u k hk
 have abo:=Ew hh j u
 have hgr:W.grownBy (W.setCell ⟨g,j,none⟩ u) (some g):=⟨rfl,rfl,rfl,by simp [World.setCell],fun k _ hk=>vB k (fun he=>hk (by rw [he]))⟩
 refine ⟨?_,aH hh j,⟨hok,inner,⟨vH,.inr ⟨g,c,cur.setIfInBounds j u,by rw [hn],hb,abo,JQ,rM,by rw [Array.size_setIfInBounds];exact hcs,?_⟩⟩,?_⟩,hgr⟩
 ·rw [av hh j,Array.getElem?_eq_getElem (by omega)];rfl
 ·rw [Array.toList_setIfInBounds,List.take_set_of_le (by rw [← hn];exact hj)];exact ht
 ·exact hr.jT (fun x cs hM=>d.kZ (fun k hk=>vB k (fun he=>hk.2 (by rw [he];rfl))) hM)
set_option maxHeartbeats 8000000 in
set_option maxRecDepth 100000 in
theorem Tx.calls (ok : Nat → Prop) (g n c : Nat) (l0 : List Int) (i : Int) (b : Nat) (w0 w : World) (hB : Below b w0 w) (hb : b ≤ w.heap.size) (ho : Kd.R (Kd.int .i64) 2 w b ok (.slice (some ⟨g, 0, none⟩) n c) l0) (h0 : 0 ≤ i) (h1 : i < (n : Int)) :
  Calls Try.prog 222 #[.slice (some ⟨g,0,none⟩) n c,.int .i64 i,.int .i64 (wrap64 (i+1))] w fun e w'=>e=.returned (.slice (some ⟨g,0,none⟩) (n - 1) c)∧Kd.R (Kd.int .i64) 2 w' b ok (.slice (some ⟨g,0,none⟩) (n - 1) c) (l0.eraseIdx i.toNat)∧Below b w0 w'∧w.grownBy w' (some g):=by
 obtain ⟨hn,hnc,hC⟩:=Kd.bu ho
 obtain ⟨k,rfl⟩:∃ k:Nat,i=(k:Int):=⟨i.toNat,by omega⟩
 have hk:k < n:=by omega
 have aa_:n≤9223372036854775807:=by rw [hn];exact hC.2.1
 have hJ:wrap64 ((k:Int)+1)=((k+1:Nat):Int):=by unfold wrap64;omega
 rw [hJ,Int.toNat_natCast]
 have HO:=k0 ho
 have HB:=k0 hB
 have HL:=k0 hn
 clear ho hB hC hJ hn
 have Qn:decide ((0:Int)≤(k:Int))=true:=decide_eq_true (by omega)
 have e1:((k:Int) == ((k+1:Nat):Int))=false:=by simp;omega
 have hkc:k≤c:=by omega
 have yL:k+1≤n:=hk
 have vI:(0:Int)≤(k:Int)+1:=by omega
 have hp1:(k:Int)+1≤(n:Int):=by omega
 go_enter Try.func222,Try.ntmps222
 go_wp2
 go_region_law (refine Kd.Vm (Kd.int .i64) b (by simp [Region.wanted]) (.tmp 22) (.tmp 25) 28 2 rfl Try.underlying28 (by kernel_rfl) (g:=g) (n:=n) (c:=c) (k:=k) rfl rfl ?hA ?hm (Kd.bn HO.out) hk (by first|exact HB.out|(apply cP;exact HB.out)) hb ?_;(case hA=>have e_:(Kd.int .i64).sz=1:=rfl;rw [e_,Nat.mul_one];split<;>simp_all [Addr.add]);(case hm=>rfl);intro w2 qj hb2 P2;have ez:=k0 qj;have fO:=k0 hb2;have Mj:=k0 P2;clear qj hb2 P2)
 have hsz:(Kd.int .i64).sz=1:=rfl
 obtain ⟨hs1,CK,QK,QL⟩:=Vo ez.out (n - 1) (by rw [hsz];omega) (by rw [hsz];omega) (.int .i64 0)
 have Mz:=k0 QK
 have Mn:=k0 QL
 clear QK QL
 have hcl:∀ ty,(Builtin.clear_ #[28] ty #[.slice (some ⟨g,n - 1,none⟩) 1 (c - (n - 1))]).run Try.prog w2=.ok (.tuple #[]) (w2.setCell ⟨g,n - 1,none⟩ (.int .i64 0)) :=
  fun ty=>Lib.run_clear_slice w2 28 2 ty (.int .i64 0) Try.underlying28 (fun w=>by first|rfl|(go_simp;done)) rfl rfl g (n - 1) 1 _ (by omega) (fun j hj=>by obtain rfl:j=0:=(by omega);exact hs1) (fun j hj=>by obtain rfl:j=0:=(by omega);exact CK)
 have vu:¬ (c=n - 1):=by omega
 have al6:n - (n - 1)=1:=by omega
 have hp2:n - 1≤n:=by omega
 go_wp2
 all_goals go_ret
 all_goals (try (have Jh:c=k+1:=(by assumption);subst Jh))
 all_goals (have HG:=World.grownBy.trans Mj.out Mn.out)
 all_goals exact ⟨rfl,Mz.out,fO.out.grown Mn.out (Nat.le_trans hb Mj.out.size) (fun k_ jQ=>Kd.bW Mz.out k_ jQ),⟨HG.os,HG.tape,HG.output,HG.size,HG.block⟩⟩
-- NOT PRINTED: function 220 (slices_IndexFunc_int64_int64_220)
/-! ### F238: function 238 -/
theorem aeQ {b1 : Nat} (A : Option Addr) (c : Nat) (l : List Int) (a : Int) (r : Bool) (w : World) (hr : Kd.C (Kd.int .i64) w A l.length l) (hb : w.heap[b1]? = some (.cells #[.int .i64 a] 3 (0, 0))) (h : (if 0 ≤ a then (if a < (l.length : Int) then some (rd l a != 0) else none) else none) = some r) :
  Calls Try.prog 238 #[.slice A l.length c,.pointer (some ⟨b1,0,none⟩)] w fun e w'=>e=.returned (.bool r)∧bP w w':=by
 by_cases h0:0≤a
 case neg =>
  rw [if_neg h0] at h;cases h
 rw [if_pos h0] at h
 by_cases h1:a < (l.length:Int)
 case neg =>
  rw [if_neg h1] at h;cases h
 rw [if_pos h1] at h
 obtain rfl:=Option.some.inj h
 obtain ⟨ad,e,hcell⟩:=Kd.bH hr a h0 h1
 subst e
 have yT:w.cell? ⟨b1,0,none⟩=some (.int .i64 a):=(av hb 0).trans rfl
 have E6:=aH hb 0
 have Wk:=decide_eq_true h0
 have H6:=decide_eq_true h1
 have Wl:=eq_true h0
 have Ws:=eq_true h1
 clear hr hb h h0 h1
 go_enter Try.func238,Try.ntmps238
 go_wp2
 go_ret
 exact ⟨by first|rfl|(simp;done)|(simp [*];done),by repeat (first|exact bP.refl _|apply bP.step)⟩
theorem aeP (p : List Int → Option Bool) (b1 : Nat) (A : Option Addr) (c : Nat) (l : List (List Int)) (R : Int) (w : World) (hr : Kd.C (Kd.slice 2 (Kd.int .i64)) w A l.length l)
 (hp:∀ (A':Option Addr) (c':Nat) (x:List Int) (b:Bool) w1,Below w.heap.size w w1→Kd.C (Kd.int .i64) w1 A' x.length x→x.length≤c'→p x=some b→Calls Try.prog 238 #[.slice A' x.length c',.pointer (some ⟨b1,0,none⟩)] w1 fun e w'=>e=.returned (.bool b)∧Below w1.heap.size w1 w') (h:mJ p l 0=some R) :
 Calls Try.prog 220 #[.slice A l.length c,.func (.func 238) #[] #[.pointer (some ⟨b1,0,none⟩)]] w fun e w'=>e=.returned (.int .i64 R)∧Below w.heap.size w w':=by
 have HR:=k0 hr
 have HP:=k0 hp
 have H':=k0 h
 have hlen:l.length≤9223372036854775807:=hr.2.1
 clear hr hp h
 go_enter Try.func220,Try.ntmps220
 go_wp2_with fail
 go_loopw [8] (fun i wr=>∃ k:Nat,k≤l.length∧i=.int .i64 k∧au (mJ p (l.drop k) k=some R)∧au (Below w.heap.size w wr)) (fun i _=>l.length - (intOf i).toNat)
 case atStart=>exact ⟨0,Nat.zero_le _,rfl,⟨by simpa using H'.out⟩,⟨Below.refl _ _⟩⟩
 case round =>
  clear H'
  obtain ⟨k,hk,rfl,HI,HB⟩:=hrel
  by_cases hlt:k < l.length
  case neg =>
   have hI:=HI.out
   rw [List.drop_of_length_le (by omega)] at hI
   simp only [mJ,Option.some.injEq] at hI
   subst hI
   have hb:decide (k < l.length)=false:=by simp;omega
   go_wp2
   go_ret
   exact ⟨rfl,HB.out⟩
  have hI:=HI.out
  rw [List.drop_eq_getElem_cons hlt] at hI
  simp only [mJ] at hI
  obtain ⟨b,hb,hI⟩:=Option.bind_eq_some_iff.mp hI
  obtain ⟨ad,A',c',e,hcell,hlc,hC⟩:=cW (Kd.bA HR.out HB.out) (k:Int) (by omega) (by omega)
  cases e
  rw [Int.toNat_natCast] at hcell
  have hx:ah l (k:Int)=l[k]:=by simp [ah,List.getD_eq_getElem?_getD,hlt]
  rw [hx] at hcell hlc hC
  have Ba:=k0 hC
  have Be:=k0 hlc
  have amh:=k0 hb
  clear hC hlc hb hx
  cases b with
  | true =>
   simp only [if_true,Option.some.injEq] at hI
   subst hI
   go_wp2_with (go_at_call 238;refine (HP.out _ _ _ true _ HB.out Ba.out Be.out amh.out).mono ?_;rintro e w' ⟨rfl,cB⟩;have fO:=k0 (aI HB.out cB);clear cB)
   go_ret
   exact ⟨rfl,fO.out⟩
  | false =>
   simp only [Bool.false_eq_true,if_false] at hI
   have HD:=k0 hI
   clear hI
   go_wp2_with (go_at_call 238;refine (HP.out _ _ _ false _ HB.out Ba.out Be.out amh.out).mono ?_;rintro e w' ⟨rfl,cB⟩;have fO:=k0 (aI HB.out cB);clear cB)
   go_roundw
   case rel=>exact ⟨k+1,by omega,by go_num,HD,fO⟩
   case measure=>simp [intOf];omega
def oZ.f (k:Nat) (l0:List (List Int)) (a1:Int):Option Int:=mJ (fun x=>if 0≤a1 then (if a1 < (x.length:Int) then some (rd x a1 != 0) else none) else none) l0 0
theorem oZ.mono:∀ a0 a1 k,aj (oZ.f k a0 a1) (oZ.f (k+1) a0 a1):=fun _ _ _ _ h=>h
set_option maxHeartbeats 8000000 in
set_option maxRecDepth 100000 in
theorem oZ.calls {b1 : Nat} (k : Nat) (A0 : Option Addr) (c0 : Nat) (l0 : List (List Int)) (a1 : Int) (r : Int) (w : World) (dB : Kd.C (Kd.slice 2 (Kd.int .i64)) w A0 l0.length l0) (hc0 : l0.length ≤ c0) (hb1 : w.heap[b1]? = some (.cells #[.int .i64 a1] 3 (0, 0))) (h : oZ.f k l0 a1 = some r) :
  Calls Try.prog 220 #[.slice A0 l0.length c0,.func (.func 238) #[] #[.pointer (some ⟨b1,0,none⟩)]] w fun e w'=>e=.returned (.int .i64 r)∧Below w.heap.size w w':=by
 unfold oZ.f at h
 refine aeP (fun x=>if 0≤a1 then (if a1 < (x.length:Int) then some (rd x a1 != 0) else none) else none) b1 A0 c0 l0 r w dB (fun A' c' x b w1 hw1 hC hc hx=>?_) h
 exact (aeQ A' c' x a1 b w1 hC (akj hb1 hw1) hx).mono fun e w' ⟨h1,h2⟩=>⟨h1,h2.below⟩
end Go.Proofs.Ytoebojnhchocaaa.C
/- Set with little white space, by a program. -/
