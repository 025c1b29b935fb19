/- The functions that one law reaches, each as a Lean function, and that Go's call comes to what it says. Condition of each: that the Lean function answers (is not none). -/
import Derived.Test.YtoebojnhchocaaaEx0
import Derived.Test.YtoebojnhchocaaaEx9
namespace Go.Proofs.Ytoebojnhchocaaa.E
open Go.RowKit Go.Proofs.bY.apf Go.Proofs.bY.ko Go.Proofs.bY.kN
attribute [local go_sem] max2_int min2_int max_two min_two max_three min_three max_four min_four   -- for this text's walks alone
set_option linter.unusedVariables false
set_option linter.unusedSimpArgs false
set_option maxHeartbeats 8000000
set_option maxRecDepth 100000
/-! ### F113: function 113 -/
mutual
def cA.l0 : Nat → Int → Int → Bool → Int → List Int → Int → Int → Int → List (List Int) → Option (Int × (List (List Int)) × Int × Int)
 | 0,_,_,_,_,_,_,_,_,_=>none
 | k+1,x1,x2,x8,x9,k8,o6,o7,apR,mU=>if x9 < x1 then (if x8=true then (cA.j1 k x1 x2 x8 x9 (decide ((mU.length:Int) < x2)) k8 o6 o7 apR mU) else (cA.j1 k x1 x2 x8 x9 false k8 o6 o7 apR mU)) else (cA.j1 k x1 x2 x8 x9 false k8 o6 o7 apR mU)
def cA.j1 : Nat → Int → Int → Bool → Int → Bool → List Int → Int → Int → Int → List (List Int) → Option (Int × (List (List Int)) × Int × Int)
 | 0,_,_,_,_,_,_,_,_,_,_=>none
 | k+1,x1,x2,x8,x9,x32,k8,o6,o7,apR,mU=>if x32=true then ((dg.f k8 o6 o7 x9).bind fun js=>((dg.f k8 js.2.1 js.2.2 2).bind fun fM=>(if fM.1=0 then (if mU.length < 5864062014805 then (cA.l0 k x1 x2 x8 (wrap64 (x9+1)) k8 fM.2.1 fM.2.2 apR (mU ++ [(([x9,js.1]:List Int))])) else (none)) else (if mU.length < 5864062014805 then (cA.l0 k x1 x2 x8 (wrap64 (x9+1)) k8 fM.2.1 fM.2.2 apR (mU ++ [(([js.1,x9]:List Int))])) else (none))))) else ((dg.f k8 o6 o7 (wrap64 (x2+1))).bind fun fo=>(cA.l1 k x1 x2 fo.1 k8 fo.2.1 fo.2.2 apR mU))
def cA.l1 : Nat → Int → Int → Int → List Int → Int → Int → Int → List (List Int) → Option (Int × (List (List Int)) × Int × Int)
 | 0,_,_,_,_,_,_,_,_=>none
 | k+1,x1,x2,lQ,k8,o6,o7,apR,mU=>if lQ > 0 then (cA.j3 k x1 x2 lQ (decide ((mU.length:Int) < x2)) k8 o6 o7 apR mU) else (cA.j3 k x1 x2 lQ false k8 o6 o7 apR mU)
def cA.j3 : Nat → Int → Int → Int → Bool → List Int → Int → Int → Int → List (List Int) → Option (Int × (List (List Int)) × Int × Int)
 | 0,_,_,_,_,_,_,_,_,_=>none
 | k+1,x1,x2,lQ,x69,k8,o6,o7,apR,mU=>if x69=true then ((dg.f k8 o6 o7 x1).bind fun gU=>((dg.f k8 gU.2.1 gU.2.2 x1).bind fun ew=>(if gU.1=ew.1 then ((dg.f k8 ew.2.1 ew.2.2 3).bind fun mm=>(if mm.1 > 0 then (if x1=0 then (none) else (if mU.length < 5864062014805 then (cA.l1 k x1 x2 (wrap64 (lQ - 1)) k8 mm.2.1 mm.2.2 apR (mU ++ [(([gU.1,Int.tmod (wrap64 (gU.1+1)) x1]:List Int))])) else (none))) else (if mU.length < 5864062014805 then (cA.l1 k x1 x2 (wrap64 (lQ - 1)) k8 mm.2.1 mm.2.2 apR (mU ++ [(([gU.1,ew.1]:List Int))])) else (none)))) else (if mU.length < 5864062014805 then (cA.l1 k x1 x2 (wrap64 (lQ - 1)) k8 ew.2.1 ew.2.2 apR (mU ++ [(([gU.1,ew.1]:List Int))])) else (none))))) else (some (apR,mU,o6,o7))
end
def cA.f (k:Nat) (aI:List Int) (bV:Int) (ao5:Int) (a1:Int) (a2:Int):Option (Int × (List (List Int)) × Int × Int):=(dg.f aI bV ao5 3).bind fun fD=>(cA.l0 k a1 a2 (decide (fD.1 > 0)) 1 aI fD.2.1 fD.2.2 a1 (([]:List (List Int))))
theorem cA.calls (k : Nat) (g : Nat) (aI : List Int) (bV : Int) (ao5 : Int) (a1 : Int) (a2 : Int) (r1 : Int) (r2 : List (List Int)) (r3 : Int) (r4 : Int) (w0 w : World) (hI : ag w0 w g aI bV ao5) (hB : Below w0.heap.size w0 w) (h : cA.f k aI bV ao5 a1 a2 = some (r1, r2, r3, r4)) :
  Calls Try.prog 113 #[.pointer (some ⟨g,0,none⟩),.int .i64 a1,.int .i64 a2] w fun e w'=>∃ eM:Value,e=.returned (.agg #[.int .i64 r1,eM])∧Kd.S (Kd.slice 2 (Kd.int .i64)) 28 w' w.heap.size (fun _=>True) eM r2∧ag w0 w' g aI r3 r4∧Below w0.heap.size w0 w'∧aoR w w' g none:=by
 have iX:=Try.underlying31
 have ai:=k0 hI
 have HK:=k0 (aoR.refl w g none)
 have HL:=k0 hB.size
 clear hI
 have apt:=k0 hB.size
 have HB:=k0 hB
 clear hB
 have H:((dg.f aI bV ao5 3).bind fun fD=>(cA.l0 k a1 a2 (decide (fD.1 > 0)) 1 aI fD.2.1 fD.2.2 a1 (([]:List (List Int)))))=some (r1,r2,r3,r4):=h
 clear h
 obtain ⟨oA,qU⟩:∃ y_:List (List Int),y_=(([]:List (List Int))):=⟨_,rfl⟩
 replace H:((dg.f aI bV ao5 3).bind fun fD=>(cA.l0 k a1 a2 (decide (fD.1 > 0)) 1 aI fD.2.1 fD.2.2 a1 oA))=some (r1,r2,r3,r4):=rH qU H
 have ug:=k0 qU
 clear qU
 replace H:=Option.bind_eq_some_iff.mp H
 obtain ⟨⟨t106,t107,t108⟩,fu,H⟩:=H
 replace H:(cA.l0 k a1 a2 (decide (t106 > 0)) 1 aI t107 t108 a1 oA)=some (r1,r2,r3,r4):=H
 have A4:=k0 fu
 clear fu
 have H':=k0 H
 clear H
 go_enter Try.func113,Try.ntmps113
 go_wp2_with (first|((with_reducible refine bp (N:=6) rfl ?_);(try (refine jC (by rfl) ?_;dsimp only));refine bR 6 #[.int .i64 0,.slice none 0 0] 31 ?_;intro aoV hg w5 aE hb;replace HB:=k0 (aH (by repeat (first|(with_reducible first|exact HB.z|apply a_|apply bf|apply aZ|refine aoO ?_ (ag.ge ai.z))|exact HB.z)) hb);have aa:=k0 (aE);have bB:=gW hg (dU (aK HK.z));have aX:=k0 (Nat.le_trans apt.z bB.z);replace HK:=k0 (aoR.trans (aK HK.z) (aoR.iq hb g none) (.inl rfl));have dH:=k0 ((by rw [hg];exact Nat.ne_of_lt (ag.lt (show ag w0 _ g aI bV ao5 from aoZ ai.z)):g ≠ aoV));have dI:=k0 ((by rw [hg];exact Nat.ne_of_gt (ag.lt (show ag w0 _ g aI bV ao5 from aoZ ai.z)):aoV ≠ g));replace ai:=k0 (ag.below (aoZ ai.z) hb);clear hb aE hg)|((with_reducible refine bp (N:=15) rfl ?_);(try (refine jC (by rfl) ?_;dsimp only));refine Kd.DH (Kd.slice 2 (Kd.int .i64)) _ 28 ?hg (N:=15) ?hd (xs:=([]:List (List Int))) (inner:=[]) (ok:=fun _=>True) (b_:=fun _=>True) ?hr ?hp (fun _ hk=>hk) trivial (Below.refl _ _) (Nat.le_refl _) (by simp) ?_;(case hd=>rfl);(case hg=>rfl);(case hr=>first|(go_simp;done)|(go_simp;rfl));(case hp=>exact (bh.none _ _));intro CK w6 pQ hb cJ cK;clear cJ cK;(first|rw [← ug.z] at pQ|(simp only [Int.reduceToNat] at pQ;rw [← ug.z] at pQ));have hJ:=k0 (Kd.ig pQ (dU (aK HK.z)));replace aa:=kB aa hb;replace HK:=k0 (aoR.trans (aK HK.z) (aoR.iq hb g none) (.inl rfl));replace HB:=k0 (aH (by repeat (first|(with_reducible first|exact HB.z|apply a_|apply bf|apply aZ|refine aoO ?_ (ag.ge ai.z)|refine aoO ?_ aX.z)|exact HB.z)) hb);replace ai:=k0 (ag.below (aoZ ai.z) hb);clear hb pQ;obtain ⟨aqq,yq,D_⟩:=Kd.apc hJ.z;subst D_)|((with_reducible refine bp (N:=7) rfl ?_);(try (refine jC (by rfl) ?_;dsimp only));refine bR 7 #[.int .i64 0,.slice none 0 0] 31 ?_;intro z8 hg w9 aE hb;replace hJ:=k0 (Kd.gB (aS hJ.z) hb);replace HB:=k0 (aH (by repeat (first|(with_reducible first|exact HB.z|apply a_|apply bf|apply aZ|refine aoO ?_ (ag.ge ai.z)|refine aoO ?_ aX.z)|exact HB.z)) hb);have bG:=k0 (aE);have VC:=gW hg (dU (aK HK.z));have iT:=k0 (Nat.le_trans apt.z VC.z);replace HK:=k0 (aoR.trans (aK HK.z) (aoR.iq hb g none) (.inl rfl));have mb:=nL hg aa;have qA:=nG mb;replace aa:=kB aa hb;have l_:=k0 ((by rw [hg];exact Nat.ne_of_lt (ag.lt (show ag w0 _ g aI bV ao5 from aoZ ai.z)):g ≠ z8));have mg:=k0 ((by rw [hg];exact Nat.ne_of_gt (ag.lt (show ag w0 _ g aI bV ao5 from aoZ ai.z)):z8 ≠ g));replace ai:=k0 (ag.below (aoZ ai.z) hb);clear hb aE hg;have G8:=qA.z;have He:=mb.z;have R1:=mg.z;have Sd:=l_.z;have KH:=aQ bG;have KI:=aoT bG;have K3:=bF bG 0;have K4:=bF bG 1)|((with_reducible refine bg (f:=112) rfl ?_);refine gC (some 18) Try.func112 #[.pointer (some ⟨g,0,none⟩),.int .i64 3] ?_;(with_reducible refine (dg.calls g aI bV ao5 3 t106 t107 t108 w0 _ ?aoN ?aoP A4.z).mono ?_);(case aoN=>repeat (first|(with_reducible first|exact ai.z|apply ag.alloc|apply ag.drewN|apply ag.drew|apply ag.fZ|apply ag.f_|refine ag.ao' ?_ dH.z _|refine ag.ao' ?_ l_.z _)|exact ai.z));(case aoP=>repeat (first|(with_reducible first|exact HB.z|apply a_|apply bf|apply aZ|refine aoO ?_ (ag.ge ai.z)|refine aoO ?_ aX.z|refine aoO ?_ iT.z)|exact HB.z));rintro e tK ⟨rfl,hi,hb,hk⟩;refine ⟨_,rfl,?_⟩;replace aa:=k0 (aoR.blk hk (g':=aoV) (o:=.cells #[.int .i64 0,.slice none 0 0] 31 (0,0)) (by (with_reducible repeat (first|refine aoU ?_ _|refine aJ ?_|refine aoQ ?_ _));refine bW ?_ mb.z _;(with_reducible repeat (first|refine aoU ?_ _|refine aJ ?_|refine aoQ ?_ _));refine bW ?_ mb.z _;exact bk) dI.z (by simp));replace hJ:=k0 (Kd.bq (Kd.p_ (ag.pI (show ag w0 _ g aI bV ao5 from aoZ ai.z) (by (with_reducible repeat (first|apply Kd.cM|apply Kd.cI|apply Kd.cr));exact (Kd.bq (gS 1 (.slice aqq oA.length yq) (gS 0 (.int .i64 a1) (tS hJ bG))) (fun _ h_=>h_.1))) (by decide)) hk (fun _ h=>h.2)) (fun _ h=>h.1));replace bG:=k0 (aoR.blk hk (g':=z8) (o:=sO a1 aqq oA yq 31) (by (with_reducible repeat (first|refine aoU ?_ _|refine aJ ?_|refine aoQ ?_ _));refine bE (cs:=#[.int .i64 a1,.slice none 0 0]) ?_ 1 _ rfl;(with_reducible repeat (first|refine aoU ?_ _|refine aJ ?_|refine aoQ ?_ _));refine bE (cs:=#[.int .i64 0,.slice none 0 0]) ?_ 0 _ rfl;exact bk) mg.z (by simp));replace HK:=k0 (aoR.trans (aK HK.z) hk (.inl rfl));replace HB:=k0 (hb);replace ai:=k0 (hi);))
 go_loopg [9] k (fun kq v9 w'=>∃ (iI:Int) (kJ:Int) (kK:Int) (kL:List (List Int)) (u106001:Value),v9=.int .i64 iI∧aj (cA.l0 kq a1 a2 (decide (t106 > 0)) iI aI kJ kK a1 kL=some (r1,r2,r3,r4))∧aj (kq≤k)∧aj (Kd.S (Kd.slice 2 (Kd.int .i64)) 28 w' w.heap.size (fun _=>True) u106001 kL)∧aj (w'.heap[aoV]?=some (.cells #[.int .i64 0,(.slice none 0 0)] 31 (0,0)))∧aj (w'.heap[z8]?=some (.cells #[.int .i64 a1,u106001] 31 (0,0)))∧aj (ag w0 w' g aI kJ kK)∧aj (aoR w w' g none)∧aj (Below w0.heap.size w0 w'))
 case atStart=>exact ⟨(1),(t107),(t108),(oA),(.slice aqq oA.length yq),rs,H',⟨Nat.le_refl _⟩,⟨aS (hJ.z)⟩,⟨bk⟩,⟨bk⟩,⟨aoZ ai.z⟩,⟨aK HK.z⟩,⟨by repeat (first|(with_reducible first|exact HB.z|apply a_|apply bf|apply aZ|refine aoO ?_ (ag.ge ai.z)|refine aoO ?_ aX.z|refine aoO ?_ iT.z)|exact HB.z)⟩⟩
 case round =>
  clear H'
  obtain ⟨iI,kJ,kK,kL,u106001,rfl,HA,bx,cl,aa,bG,ai,HK,HB⟩:=hrel
  cases gk with
  | zero=>exact absurd HA.z (by simp [cA.l0])
  | succ k1 =>
   have H:=HA.z
   clear HA
   simp only [cA.l0] at H
   have I7:=k0 H
   clear H
   go_upto_region 4 with (fail)
   go_cut [32] (fun v32 wc=>∃ (kq:Nat) (Iv:Bool),v32=.bool Iv∧aj (cA.j1 kq a1 a2 (decide (t106 > 0)) iI Iv aI kJ kK a1 kL=some (r1,r2,r3,r4))∧aj (kq≤k1)∧aj (Kd.S (Kd.slice 2 (Kd.int .i64)) 28 wc w.heap.size (fun _=>True) u106001 kL)∧aj (wc.heap[aoV]?=some (.cells #[.int .i64 0,(.slice none 0 0)] 31 (0,0)))∧aj (wc.heap[z8]?=some (.cells #[.int .i64 a1,u106001] 31 (0,0)))∧aj (ag w0 wc g aI kJ kK)∧aj (aoR w wc g none)∧aj (Below w0.heap.size w0 wc))
   case first =>
    have H:=I7.z
    clear I7
    by_cases c15:iI < a1
    case neg =>
     rw [if_neg c15] at H
     have oN:decide (iI < a1)=false:=decide_eq_false c15
     clear c15
     (first|rw [oN]|(simp only [cm,cO];rw [oN])|skip)
     have H':=k0 H
     clear H
     go_wp2
     go_meet
     case rel=>exact ⟨_,(false),rs,H',⟨by have:=bx.z;first|omega|exact Nat.le_refl _⟩,⟨aS (cl.z)⟩,⟨bk⟩,⟨bk⟩,⟨aoZ ai.z⟩,⟨aK HK.z⟩,⟨by repeat (first|(with_reducible first|exact HB.z|apply a_|apply bf|apply aZ|refine aoO ?_ (ag.ge ai.z)|refine aoO ?_ aX.z|refine aoO ?_ iT.z)|exact HB.z)⟩⟩
    rw [if_pos c15] at H
    have oN:=decide_eq_true c15
    clear c15
    (first|rw [oN]|(simp only [cm,cO];rw [oN])|skip)
    by_cases c16:(decide (t106 > 0))=true
    case neg =>
     rw [if_neg c16] at H
     have qK:(decide (t106 > 0))=false:=by simpa using c16
     clear c16
     have H':=k0 H
     clear H
     go_wp2
     go_meet
     case rel=>exact ⟨_,(false),rs,H',⟨by have:=bx.z;first|omega|exact Nat.le_refl _⟩,⟨aS (cl.z)⟩,⟨bk⟩,⟨bk⟩,⟨aoZ ai.z⟩,⟨aK HK.z⟩,⟨by repeat (first|(with_reducible first|exact HB.z|apply a_|apply bf|apply aZ|refine aoO ?_ (ag.ge ai.z)|refine aoO ?_ aX.z|refine aoO ?_ iT.z)|exact HB.z)⟩⟩
    rw [if_pos c16] at H
    have qK:(decide (t106 > 0))=true:=c16
    clear c16
    have H':=k0 H
    clear H
    have G9:=qA.z
    have Hf:=mb.z
    have R6:=mg.z
    have Si:=l_.z
    have BV:=aQ bG
    have BW:=aoT bG
    have aqQ:=bF bG 0
    have B6:=bF bG 1
    obtain ⟨C6,BH,xh⟩:=Kd.apc cl.z
    subst xh
    go_wp2
    go_meet
    case rel=>exact ⟨_,(decide ((kL.length:Int) < a2)),rs,H',⟨by have:=bx.z;first|omega|exact Nat.le_refl _⟩,⟨aS (cl.z)⟩,⟨bk⟩,⟨bk⟩,⟨aoZ ai.z⟩,⟨aK HK.z⟩,⟨by repeat (first|(with_reducible first|exact HB.z|apply a_|apply bf|apply aZ|refine aoO ?_ (ag.ge ai.z)|refine aoO ?_ aX.z|refine aoO ?_ iT.z)|exact HB.z)⟩⟩
   case rest =>
    clear I7
    obtain ⟨kq,Iv,rfl,HA,sR,cl,aa,bG,ai,HK,HB⟩:=hcut
    cases kq with
    | zero=>exact absurd HA.z (by simp [cA.j1])
    | succ qi =>
     have H:=HA.z
     clear HA
     simp only [cA.j1] at H
     by_cases c21:Iv=true
     case neg =>
      replace c21:=Bool.eq_false_iff.mpr c21
      subst c21
      have H1:((dg.f aI kJ kK (wrap64 (a2+1))).bind fun fo=>(cA.l1 qi a1 a2 fo.1 aI fo.2.1 fo.2.2 a1 kL))=some (r1,r2,r3,r4):=by rw [if_neg (show ¬ (false=true) by decide)] at H;exact H
      clear H
      have H:=H1
      clear H1
      replace H:=Option.bind_eq_some_iff.mp H
      obtain ⟨⟨t127,t128,t129⟩,NQ,H⟩:=H
      replace H:(cA.l1 qi a1 a2 t127 aI t128 t129 a1 kL)=some (r1,r2,r3,r4):=H
      have UO:=k0 NQ
      clear NQ
      have H':=k0 H
      clear H
      go_wp2_with (first|((with_reducible refine bg (f:=112) rfl ?_);refine gC (some 60) Try.func112 #[.pointer (some ⟨g,0,none⟩),.int .i64 (wrap64 (a2+1))] ?_;(with_reducible refine (dg.calls g aI kJ kK (wrap64 (a2+1)) t127 t128 t129 w0 _ ?aoN ?aoP UO.z).mono ?_);(case aoN=>repeat (first|(with_reducible first|exact ai.z|apply ag.alloc|apply ag.drewN|apply ag.drew|apply ag.fZ|apply ag.f_|refine ag.ao' ?_ dH.z _|refine ag.ao' ?_ l_.z _)|exact ai.z));(case aoP=>repeat (first|(with_reducible first|exact HB.z|apply a_|apply bf|apply aZ|refine aoO ?_ (ag.ge ai.z)|refine aoO ?_ aX.z|refine aoO ?_ iT.z)|exact HB.z));rintro e w50 ⟨rfl,hi,hb,hk⟩;refine ⟨_,rfl,?_⟩;have aq:=k0 (Kd.bq (Kd.p_ (ag.pI (show ag w0 _ g aI kJ kK from aoZ ai.z) (aS cl.z) (by decide)) hk (fun _ h=>h.2)) (fun _ h=>h.1));have au:=k0 (aoR.blk hk (aB aa.z) dI.z (by simp));have ax:=k0 (aoR.blk hk (aB bG.z) mg.z (by simp));have aA:=k0 (aoR.trans (aK HK.z) hk (.inl rfl));have aG:=k0 (hb);have aM:=k0 (hi);clear cl;clear aa;clear bG;clear HK;clear HB;clear ai;have cl:=aq;have aa:=au;have bG:=ax;have HK:=aA;have HB:=aG;have ai:=aM;clear aq au ax aA aG aM;))
      go_loopg [11] qi (fun kq v11 w'=>∃ (lu:Int) (sG:Int) (sH:Int) (gX:List (List Int)) (u106001:Value),v11=.int .i64 lu∧aj (cA.l1 kq a1 a2 lu aI sG sH a1 gX=some (r1,r2,r3,r4))∧aj (kq≤qi)∧aj (Kd.S (Kd.slice 2 (Kd.int .i64)) 28 w' w.heap.size (fun _=>True) u106001 gX)∧aj (w'.heap[aoV]?=some (.cells #[.int .i64 0,(.slice none 0 0)] 31 (0,0)))∧aj (w'.heap[z8]?=some (.cells #[.int .i64 a1,u106001] 31 (0,0)))∧aj (ag w0 w' g aI sG sH)∧aj (aoR w w' g none)∧aj (Below w0.heap.size w0 w'))
      case atStart=>exact ⟨(t127),(t128),(t129),(kL),(u106001),rs,H',⟨Nat.le_refl _⟩,⟨aS (cl.z)⟩,⟨bk⟩,⟨bk⟩,⟨aoZ ai.z⟩,⟨aK HK.z⟩,⟨by repeat (first|(with_reducible first|exact HB.z|apply a_|apply bf|apply aZ|refine aoO ?_ (ag.ge ai.z)|refine aoO ?_ aX.z|refine aoO ?_ iT.z)|exact HB.z)⟩⟩
      case round =>
       clear H'
       obtain ⟨lu,sG,sH,gX,u106001,rfl,HA,iK,cl,aa,bG,ai,HK,HB⟩:=hrel
       cases gk with
       | zero=>exact absurd HA.z (by simp [cA.l1])
       | succ k3 =>
        have H:=HA.z
        clear HA
        simp only [cA.l1] at H
        have I_:=k0 H
        clear H
        go_upto_region 11 with (fail)
        go_cut [69] (fun v69 wc=>∃ (kq:Nat) (Ix:Bool),v69=.bool Ix∧aj (cA.j3 kq a1 a2 lu Ix aI sG sH a1 gX=some (r1,r2,r3,r4))∧aj (kq≤k3)∧aj (Kd.S (Kd.slice 2 (Kd.int .i64)) 28 wc w.heap.size (fun _=>True) u106001 gX)∧aj (wc.heap[aoV]?=some (.cells #[.int .i64 0,(.slice none 0 0)] 31 (0,0)))∧aj (wc.heap[z8]?=some (.cells #[.int .i64 a1,u106001] 31 (0,0)))∧aj (ag w0 wc g aI sG sH)∧aj (aoR w wc g none)∧aj (Below w0.heap.size w0 wc))
        case first =>
         have H:=I_.z
         clear I_
         by_cases c52:lu > 0
         case neg =>
          rw [if_neg c52] at H
          have BC:decide (0 < lu)=false:=decide_eq_false c52
          clear c52
          (first|rw [BC]|(simp only [cm,cO];rw [BC])|skip)
          have H':=k0 H
          clear H
          go_wp2
          go_meet
          case rel=>exact ⟨_,(false),rs,H',⟨by have:=bx.z;have:=sR.out;have:=iK.z;first|omega|exact Nat.le_refl _⟩,⟨aS (cl.z)⟩,⟨bk⟩,⟨bk⟩,⟨aoZ ai.z⟩,⟨aK HK.z⟩,⟨by repeat (first|(with_reducible first|exact HB.z|apply a_|apply bf|apply aZ|refine aoO ?_ (ag.ge ai.z)|refine aoO ?_ aX.z|refine aoO ?_ iT.z)|exact HB.z)⟩⟩
         rw [if_pos c52] at H
         have BC:=decide_eq_true c52
         clear c52
         (first|rw [BC]|(simp only [cm,cO];rw [BC])|skip)
         have H':=k0 H
         clear H
         have acg:=qA.z
         have acG:=mb.z
         have ach:=mg.z
         have acH:=l_.z
         have Rg:=aQ bG
         have Rh:=aoT bG
         have RB:=bF bG 0
         have RC:=bF bG 1
         obtain ⟨UW,Yt,Ka⟩:=Kd.apc cl.z
         subst Ka
         go_wp2
         go_meet
         case rel=>exact ⟨_,(decide ((gX.length:Int) < a2)),rs,H',⟨by have:=bx.z;have:=sR.out;have:=iK.z;first|omega|exact Nat.le_refl _⟩,⟨aS (cl.z)⟩,⟨bk⟩,⟨bk⟩,⟨aoZ ai.z⟩,⟨aK HK.z⟩,⟨by repeat (first|(with_reducible first|exact HB.z|apply a_|apply bf|apply aZ|refine aoO ?_ (ag.ge ai.z)|refine aoO ?_ aX.z|refine aoO ?_ iT.z)|exact HB.z)⟩⟩
        case rest =>
         clear I_
         obtain ⟨kq,Ix,rfl,HA,Bn,cl,aa,bG,ai,HK,HB⟩:=hcut
         cases kq with
         | zero=>exact absurd HA.z (by simp [cA.j3])
         | succ nO =>
          have H:=HA.z
          clear HA
          simp only [cA.j3] at H
          by_cases c57:Ix=true
          case neg =>
           replace c57:=Bool.eq_false_iff.mpr c57
           subst c57
           have H1:(some (a1,gX,sG,sH))=some (r1,r2,r3,r4):=by rw [if_neg (show ¬ (false=true) by decide)] at H;exact H
           clear H
           have H:=H1
           clear H1
           simp only [Option.some.injEq,Prod.mk.injEq] at H
           obtain ⟨rfl,rfl,rfl,rfl⟩:=H
           have ab0:=qA.z
           have acp:=mb.z
           have ab1:=mg.z
           have acq:=l_.z
           have ahW:=aQ bG
           have ahX:=aoT bG
           have aj7:=bF bG 0
           have aj8:=bF bG 1
           have ab2:=dI.z
           have acr:=dH.z
           have aar:=aQ aa
           have aas:=aoT aa
           have abc:=bF aa 0
           have abd:=bF aa 1
           obtain ⟨NY,PW,Zg⟩:=Kd.apc cl.z
           subst Zg
           go_wp2
           refine bodyPost_ret (results_cell_row rfl _ _ aoV 31 #[.int .i64 a1,.slice NY gX.length PW] (0,0) _ rfl (by (with_reducible repeat (first|refine aoU ?_ _|refine aJ ?_|refine aoQ ?_ _));refine bE (cs:=#[.int .i64 a1,.slice none 0 0]) ?_ 1 _ rfl;(with_reducible repeat (first|refine aoU ?_ _|refine aJ ?_|refine aoQ ?_ _));refine bE (cs:=#[.int .i64 0,.slice none 0 0]) ?_ 0 _ rfl;exact bk) Try.underlying31 rfl (by kernel_rfl)) rfl ?_
           exact ⟨_,eR,by (with_reducible repeat (first|apply Kd.cM|apply Kd.cI|apply Kd.cr));exact Kd.bq (gS 1 (.slice NY gX.length PW) (gS 0 (.int .i64 a1) (tS cl aa))) (fun _ hk=>trivial),aoZ ai.z,by repeat (first|(with_reducible first|exact HB.z|apply a_|apply bf|apply aZ|refine aoO ?_ (ag.ge ai.z)|refine aoO ?_ aX.z|refine aoO ?_ iT.z)|exact HB.z),aK HK.z⟩
          subst c57
          have H1:((dg.f aI sG sH a1).bind fun gU=>((dg.f aI gU.2.1 gU.2.2 a1).bind fun ew=>(if gU.1=ew.1 then ((dg.f aI ew.2.1 ew.2.2 3).bind fun mm=>(if mm.1 > 0 then (if a1=0 then (none) else (if gX.length < 5864062014805 then (cA.l1 nO a1 a2 (wrap64 (lu - 1)) aI mm.2.1 mm.2.2 a1 (gX ++ [(([gU.1,Int.tmod (wrap64 (gU.1+1)) a1]:List Int))])) else (none))) else (if gX.length < 5864062014805 then (cA.l1 nO a1 a2 (wrap64 (lu - 1)) aI mm.2.1 mm.2.2 a1 (gX ++ [(([gU.1,ew.1]:List Int))])) else (none)))) else (if gX.length < 5864062014805 then (cA.l1 nO a1 a2 (wrap64 (lu - 1)) aI ew.2.1 ew.2.2 a1 (gX ++ [(([gU.1,ew.1]:List Int))])) else (none)))))=some (r1,r2,r3,r4):=by rw [if_pos rfl] at H;exact H
          clear H
          have H:=H1
          clear H1
          replace H:=Option.bind_eq_some_iff.mp H
          obtain ⟨⟨t130,t131,t132⟩,NR,H⟩:=H
          replace H:((dg.f aI t131 t132 a1).bind fun ew=>(if t130=ew.1 then ((dg.f aI ew.2.1 ew.2.2 3).bind fun mm=>(if mm.1 > 0 then (if a1=0 then (none) else (if gX.length < 5864062014805 then (cA.l1 nO a1 a2 (wrap64 (lu - 1)) aI mm.2.1 mm.2.2 a1 (gX ++ [(([t130,Int.tmod (wrap64 (t130+1)) a1]:List Int))])) else (none))) else (if gX.length < 5864062014805 then (cA.l1 nO a1 a2 (wrap64 (lu - 1)) aI mm.2.1 mm.2.2 a1 (gX ++ [(([t130,ew.1]:List Int))])) else (none)))) else (if gX.length < 5864062014805 then (cA.l1 nO a1 a2 (wrap64 (lu - 1)) aI ew.2.1 ew.2.2 a1 (gX ++ [(([t130,ew.1]:List Int))])) else (none))))=some (r1,r2,r3,r4):=H
          have IM:=k0 NR
          clear NR
          replace H:=Option.bind_eq_some_iff.mp H
          obtain ⟨⟨t133,t134,t135⟩,NS,H⟩:=H
          replace H:(if t130=t133 then ((dg.f aI t134 t135 3).bind fun mm=>(if mm.1 > 0 then (if a1=0 then (none) else (if gX.length < 5864062014805 then (cA.l1 nO a1 a2 (wrap64 (lu - 1)) aI mm.2.1 mm.2.2 a1 (gX ++ [(([t130,Int.tmod (wrap64 (t130+1)) a1]:List Int))])) else (none))) else (if gX.length < 5864062014805 then (cA.l1 nO a1 a2 (wrap64 (lu - 1)) aI mm.2.1 mm.2.2 a1 (gX ++ [(([t130,t133]:List Int))])) else (none)))) else (if gX.length < 5864062014805 then (cA.l1 nO a1 a2 (wrap64 (lu - 1)) aI t134 t135 a1 (gX ++ [(([t130,t133]:List Int))])) else (none)))=some (r1,r2,r3,r4):=H
          have IP:=k0 NS
          clear NS
          by_cases c60:t130=t133
          case neg =>
           rw [if_neg c60] at H
           have X3:(t130 == t133)=false:=beq_eq_false_iff_ne.mpr c60
           have X4:(t130 != t133)=true:=bne_iff_ne.mpr c60
           obtain ⟨FF,L5⟩:∃ y_:List Int,y_=(([t130,t133]:List Int)):=⟨_,rfl⟩
           replace H:(if gX.length < 5864062014805 then (cA.l1 nO a1 a2 (wrap64 (lu - 1)) aI t134 t135 a1 (gX ++ [FF])) else (none))=some (r1,r2,r3,r4):=rH L5 H
           have OQ:=k0 L5
           clear L5
           replace H:=iS H;obtain ⟨c90,H⟩:=H
           have Jx:=k0 c90
           clear c90
           obtain ⟨IG,L6⟩:∃ y_:List (List Int),y_=(gX ++ [FF]):=⟨_,rfl⟩
           replace H:(cA.l1 nO a1 a2 (wrap64 (lu - 1)) aI t134 t135 a1 IG)=some (r1,r2,r3,r4):=rH L6 H
           have WG:=k0 L6
           clear L6
           have H':=k0 H
           clear H
           go_wp2_with (first|((with_reducible refine bg (f:=112) rfl ?_);refine gC (some 74) Try.func112 #[.pointer (some ⟨g,0,none⟩),.int .i64 a1] ?_;(with_reducible refine (dg.calls g aI sG sH a1 t130 t131 t132 w0 _ ?aoN ?aoP IM.z).mono ?_);(case aoN=>repeat (first|(with_reducible first|exact ai.z|apply ag.alloc|apply ag.drewN|apply ag.drew|apply ag.fZ|apply ag.f_|refine ag.ao' ?_ dH.z _|refine ag.ao' ?_ l_.z _)|exact ai.z));(case aoP=>repeat (first|(with_reducible first|exact HB.z|apply a_|apply bf|apply aZ|refine aoO ?_ (ag.ge ai.z)|refine aoO ?_ aX.z|refine aoO ?_ iT.z)|exact HB.z));rintro e w91 ⟨rfl,hi,hb,hk⟩;refine ⟨_,rfl,?_⟩;have aq:=k0 (Kd.bq (Kd.p_ (ag.pI (show ag w0 _ g aI sG sH from aoZ ai.z) (aS cl.z) (by decide)) hk (fun _ h=>h.2)) (fun _ h=>h.1));have au:=k0 (aoR.blk hk (aB aa.z) dI.z (by simp));have ax:=k0 (aoR.blk hk (aB bG.z) mg.z (by simp));have aA:=k0 (aoR.trans (aK HK.z) hk (.inl rfl));have aG:=k0 (hb);have aM:=k0 (hi);clear cl;clear aa;clear bG;clear HK;clear HB;clear ai;have cl:=aq;have aa:=au;have bG:=ax;have HK:=aA;have HB:=aG;have ai:=aM;clear aq au ax aA aG aM;)|((with_reducible refine bg (f:=112) rfl ?_);refine gC (some 77) Try.func112 #[.pointer (some ⟨g,0,none⟩),.int .i64 a1] ?_;(with_reducible refine (dg.calls g aI t131 t132 a1 t133 t134 t135 w0 _ ?aoN ?aoP IP.z).mono ?_);(case aoN=>repeat (first|(with_reducible first|exact ai.z|apply ag.alloc|apply ag.drewN|apply ag.drew|apply ag.fZ|apply ag.f_|refine ag.ao' ?_ dH.z _|refine ag.ao' ?_ l_.z _)|exact ai.z));(case aoP=>repeat (first|(with_reducible first|exact HB.z|apply a_|apply bf|apply aZ|refine aoO ?_ (ag.ge ai.z)|refine aoO ?_ aX.z|refine aoO ?_ iT.z)|exact HB.z));rintro e w92 ⟨rfl,hi,hb,hk⟩;refine ⟨_,rfl,?_⟩;have aq:=k0 (Kd.bq (Kd.p_ (ag.pI (show ag w0 _ g aI t131 t132 from aoZ ai.z) (aS cl.z) (by decide)) hk (fun _ h=>h.2)) (fun _ h=>h.1));have au:=k0 (aoR.blk hk (aB aa.z) dI.z (by simp));have ax:=k0 (aoR.blk hk (aB bG.z) mg.z (by simp));have aA:=k0 (aoR.trans (aK HK.z) hk (.inl rfl));have aG:=k0 (hb);have aM:=k0 (hi);clear cl;clear aa;clear bG;clear HK;clear HB;clear ai;have cl:=aq;have aa:=au;have bG:=ax;have HK:=aA;have HB:=aG;have ai:=aM;clear aq au ax aA aG aM;have am2:=qA.z;have anM:=mb.z;have aco:=mg.z;have acN:=l_.z;have ajN:=aQ bG;have ajO:=aoT bG;have alZ:=bF bG 0;have al0:=bF bG 1)|((with_reducible refine bp (N:=94) rfl ?_);(try (refine jC (by rfl) ?_;dsimp only));refine Kd.jr (Kd.int .i64) _ 2 ?hg (N:=94) ?hd (xs:=([t130,t133]:List Int)) (inner:=[.int .i64 t130,.int .i64 t133]) (ok:=fun _=>True) (b_:=fun _=>True) ?hr ?hp (fun _ hk=>hk) trivial (Below.refl _ _) (Nat.le_refl _) (by simp) ?_;(case hd=>rfl);(case hg=>rfl);(case hr=>first|(go_simp;done)|(go_simp;rfl));(case hp=>exact (bh.one (show Kd.M (Kd.int .i64) _ _ _ t130 [.int .i64 t130] from rfl) (bh.one (show Kd.M (Kd.int .i64) _ _ _ t133 [.int .i64 t133] from rfl) (bh.none _ _))));intro v152 w96 Co hb cJ cK;clear cJ cK;(first|rw [← OQ.z] at Co|(simp only [Int.reduceToNat] at Co;rw [← OQ.z] at Co));have aq:=k0 (Kd.cC (aS cl.z) (Kd.aU Co) hb);have au:=k0 (Kd.cU Co (dU (aK HK.z)));have ax:=kB aa hb;have aA:=kB bG hb;have aG:=k0 (ag.below (aoZ ai.z) hb);have aM:=k0 (aoR.trans (aK HK.z) (aoR.iq hb g none) (.inl rfl));have bu:=k0 (aH (by repeat (first|(with_reducible first|exact HB.z|apply a_|apply bf|apply aZ|refine aoO ?_ (ag.ge ai.z)|refine aoO ?_ aX.z|refine aoO ?_ iT.z)|exact HB.z)) hb);clear cl;clear aa;clear bG;clear ai;clear HK;clear HB;have cl:=aq;have FX:=au;have aa:=ax;have bG:=aA;have ai:=aG;have HK:=aM;have HB:=bu;clear aq au ax aA aG aM bu;clear hb Co;obtain ⟨C_,D1,Kh⟩:=Kd.dM FX.z;subst Kh)|((with_reducible refine kQ (b:=.append) (xs:=#[.tmp 91,.tmp 95]) rfl ?_);(try (refine jC (by rfl) ?_;dsimp only));at_builtin;refine Kd.uj (Kd.slice 2 (Kd.int .i64)) w.heap.size rfl (.tmp 91) (.tmp 95) 22 28 (.slice none 0 0) 24 rfl Try.underlying22 qX rfl (by decide) (by omega) u106001 gX FF [.slice C_ FF.length D1] (fun _=>True) (fun k_=>some k_=(.slice C_ FF.length D1:Value).ownBlock) rfl rfl ?aP (fun k_ bZ=>((Kd.aoY (ok':=fun k_=>((fun _=>True)) k_∧some k_ ≠ (u106001:Value).ownBlock) (Kd.iU (FX.z) (Kd.iE cl.z) (by decide)) (fun k_ hk=>⟨trivial,hk.2⟩))).1 k_ bZ.symm) ?aF ?aO (Below.refl _ _) ?aS ?aL ?_;(case aP=>exact Kd.apB (Kd.aoY (Kd.mh rfl (Kd.aoY (ok':=fun k_=>((fun _=>True)) k_∧some k_ ≠ (u106001:Value).ownBlock) (Kd.iU (FX.z) (Kd.iE cl.z) (by decide)) (fun k_ hk=>⟨trivial,hk.2⟩))) (fun _ h_=>h_)));(case aF=>exact (fun _ _=>trivial));(case aO=>exact (by (with_reducible repeat (first|apply Kd.cM|apply Kd.cI|apply Kd.cr));exact Kd.bq cl.z (fun k_ hk=>⟨trivial,fun e_=>hk.2 e_⟩)));(case aS=>exact (dU (aK HK.z)));(case aL=>have:=Jx.out;omega);intro aoi w98 ho hb hg ao1;rw [← WG.z] at ho;have aq:=k0 (fl (aB aa.z) hg (Kd.jz cl.z aa.z (by decide)));have au:=k0 (fl (aB bG.z) hg (Kd.jz cl.z bG.z (by decide)));have ax:=k0 (ag.grown (aoZ ai.z) hg (ag.AI ai.z cl.z (by decide)));have aA:=k0 (vW (by repeat (first|(with_reducible first|exact HB.z|apply a_|apply bf|apply aZ|refine aoO ?_ (ag.ge ai.z)|refine aoO ?_ aX.z|refine aoO ?_ iT.z)|exact HB.z)) HL.z hb);have aG:=k0 (aoR.trans (aK HK.z) (aoR.u_ hg g) (Kd.zJ cl.z));have aM:=k0 (ho);clear aa;clear bG;clear ai;clear HB;clear HK;clear cl;clear FX;have aa:=aq;have bG:=au;have ai:=ax;have HB:=aA;have HK:=aG;have Ov:=aM;clear aq au ax aA aG aM;clear ho hb hg ao1;obtain ⟨NW,PU,Ze⟩:=Kd.apc Ov.z;subst Ze;have aap:=aQ bG;have aaq:=aoT bG;have aba:=bF bG 0;have abb:=bF bG 1))
           go_roundg nO
           case measure=>have:=bx.z;have:=sR.out;have:=iK.z;have:=Bn.out;omega
           case rel=>exact ⟨(wrap64 (lu - 1)),(t134),(t135),(IG),(.slice NW IG.length PU),rs,H',⟨by have:=bx.z;have:=sR.out;have:=iK.z;have:=Bn.out;omega⟩,⟨aS (Kd.bq (gS 1 (.slice NW IG.length PU) (tS Ov bG)) (fun _ hk=>trivial))⟩,⟨by (with_reducible repeat (first|refine aoU ?_ _|refine aJ ?_|refine aoQ ?_ _));refine bW ?_ mb.z _;exact bk⟩,⟨by (with_reducible repeat (first|refine aoU ?_ _|refine aJ ?_|refine aoQ ?_ _));refine bE (cs:=#[.int .i64 a1,u106001]) ?_ 1 _ rfl;exact bk⟩,⟨aoZ ai.z⟩,⟨aK HK.z⟩,⟨by repeat (first|(with_reducible first|exact HB.z|apply a_|apply bf|apply aZ|refine aoO ?_ (ag.ge ai.z)|refine aoO ?_ aX.z|refine aoO ?_ iT.z)|exact HB.z)⟩⟩
          rw [if_pos c60] at H
          have X3:(t130 == t133)=true:=beq_iff_eq.mpr c60
          have X4:(t130 != t133)=false:=bne_eq_false_iff_eq.mpr c60
          clear c60
          replace H:=Option.bind_eq_some_iff.mp H
          obtain ⟨⟨t136,t137,t138⟩,xX,H⟩:=H
          replace H:(if t136 > 0 then (if a1=0 then (none) else (if gX.length < 5864062014805 then (cA.l1 nO a1 a2 (wrap64 (lu - 1)) aI t137 t138 a1 (gX ++ [(([t130,Int.tmod (wrap64 (t130+1)) a1]:List Int))])) else (none))) else (if gX.length < 5864062014805 then (cA.l1 nO a1 a2 (wrap64 (lu - 1)) aI t137 t138 a1 (gX ++ [(([t130,t133]:List Int))])) else (none)))=some (r1,r2,r3,r4):=H
          have sM:=k0 xX
          clear xX
          by_cases c62:t136 > 0
          case neg =>
           rw [if_neg c62] at H
           have JY:decide (0 < t136)=false:=decide_eq_false c62
           clear c62
           obtain ⟨FE,L3⟩:∃ y_:List Int,y_=(([t130,t133]:List Int)):=⟨_,rfl⟩
           replace H:(if gX.length < 5864062014805 then (cA.l1 nO a1 a2 (wrap64 (lu - 1)) aI t137 t138 a1 (gX ++ [FE])) else (none))=some (r1,r2,r3,r4):=rH L3 H
           have OP:=k0 L3
           clear L3
           replace H:=iS H;obtain ⟨c77,H⟩:=H
           have Wl:=k0 c77
           clear c77
           obtain ⟨IF,L4⟩:∃ y_:List (List Int),y_=(gX ++ [FE]):=⟨_,rfl⟩
           replace H:(cA.l1 nO a1 a2 (wrap64 (lu - 1)) aI t137 t138 a1 IF)=some (r1,r2,r3,r4):=rH L4 H
           have WE:=k0 L4
           clear L4
           have H':=k0 H
           clear H
           go_wp2_with (first|((with_reducible refine bg (f:=112) rfl ?_);refine gC (some 74) Try.func112 #[.pointer (some ⟨g,0,none⟩),.int .i64 a1] ?_;(with_reducible refine (dg.calls g aI sG sH a1 t130 t131 t132 w0 _ ?aoN ?aoP IM.z).mono ?_);(case aoN=>repeat (first|(with_reducible first|exact ai.z|apply ag.alloc|apply ag.drewN|apply ag.drew|apply ag.fZ|apply ag.f_|refine ag.ao' ?_ dH.z _|refine ag.ao' ?_ l_.z _)|exact ai.z));(case aoP=>repeat (first|(with_reducible first|exact HB.z|apply a_|apply bf|apply aZ|refine aoO ?_ (ag.ge ai.z)|refine aoO ?_ aX.z|refine aoO ?_ iT.z)|exact HB.z));rintro e w78 ⟨rfl,hi,hb,hk⟩;refine ⟨_,rfl,?_⟩;have aq:=k0 (Kd.bq (Kd.p_ (ag.pI (show ag w0 _ g aI sG sH from aoZ ai.z) (aS cl.z) (by decide)) hk (fun _ h=>h.2)) (fun _ h=>h.1));have au:=k0 (aoR.blk hk (aB aa.z) dI.z (by simp));have ax:=k0 (aoR.blk hk (aB bG.z) mg.z (by simp));have aA:=k0 (aoR.trans (aK HK.z) hk (.inl rfl));have aG:=k0 (hb);have aM:=k0 (hi);clear cl;clear aa;clear bG;clear HK;clear HB;clear ai;have cl:=aq;have aa:=au;have bG:=ax;have HK:=aA;have HB:=aG;have ai:=aM;clear aq au ax aA aG aM;)|((with_reducible refine bg (f:=112) rfl ?_);refine gC (some 77) Try.func112 #[.pointer (some ⟨g,0,none⟩),.int .i64 a1] ?_;(with_reducible refine (dg.calls g aI t131 t132 a1 t133 t134 t135 w0 _ ?aoN ?aoP IP.z).mono ?_);(case aoN=>repeat (first|(with_reducible first|exact ai.z|apply ag.alloc|apply ag.drewN|apply ag.drew|apply ag.fZ|apply ag.f_|refine ag.ao' ?_ dH.z _|refine ag.ao' ?_ l_.z _)|exact ai.z));(case aoP=>repeat (first|(with_reducible first|exact HB.z|apply a_|apply bf|apply aZ|refine aoO ?_ (ag.ge ai.z)|refine aoO ?_ aX.z|refine aoO ?_ iT.z)|exact HB.z));rintro e w79 ⟨rfl,hi,hb,hk⟩;refine ⟨_,rfl,?_⟩;have aq:=k0 (Kd.bq (Kd.p_ (ag.pI (show ag w0 _ g aI t131 t132 from aoZ ai.z) (aS cl.z) (by decide)) hk (fun _ h=>h.2)) (fun _ h=>h.1));have au:=k0 (aoR.blk hk (aB aa.z) dI.z (by simp));have ax:=k0 (aoR.blk hk (aB bG.z) mg.z (by simp));have aA:=k0 (aoR.trans (aK HK.z) hk (.inl rfl));have aG:=k0 (hb);have aM:=k0 (hi);clear cl;clear aa;clear bG;clear HK;clear HB;clear ai;have cl:=aq;have aa:=au;have bG:=ax;have HK:=aA;have HB:=aG;have ai:=aM;clear aq au ax aA aG aM;)|(go_at_call 112;(with_reducible refine (dg.calls g aI t134 t135 3 t136 t137 t138 w0 _ ?aoN ?aoP sM.z).mono ?_);(case aoN=>repeat (first|(with_reducible first|exact ai.z|apply ag.alloc|apply ag.drewN|apply ag.drew|apply ag.fZ|apply ag.f_|refine ag.ao' ?_ dH.z _|refine ag.ao' ?_ l_.z _)|exact ai.z));(case aoP=>repeat (first|(with_reducible first|exact HB.z|apply a_|apply bf|apply aZ|refine aoO ?_ (ag.ge ai.z)|refine aoO ?_ aX.z|refine aoO ?_ iT.z)|exact HB.z));rintro e w80 ⟨rfl,hi,hb,hk⟩;have aq:=k0 (Kd.bq (Kd.p_ (ag.pI (show ag w0 _ g aI t134 t135 from aoZ ai.z) (aS cl.z) (by decide)) hk (fun _ h=>h.2)) (fun _ h=>h.1));have au:=k0 (aoR.blk hk (aB aa.z) dI.z (by simp));have ax:=k0 (aoR.blk hk (aB bG.z) mg.z (by simp));have aA:=k0 (aoR.trans (aK HK.z) hk (.inl rfl));have aG:=k0 (hb);have aM:=k0 (hi);clear cl;clear aa;clear bG;clear HK;clear HB;clear ai;have cl:=aq;have aa:=au;have bG:=ax;have HK:=aA;have HB:=aG;have ai:=aM;clear aq au ax aA aG aM;have amX:=qA.z;have anH:=mb.z;have ack:=mg.z;have acK:=l_.z;have ajv:=aQ bG;have ajw:=aoT bG;have alH:=bF bG 0;have alI:=bF bG 1)|((with_reducible refine bp (N:=94) rfl ?_);(try (refine jC (by rfl) ?_;dsimp only));refine Kd.jr (Kd.int .i64) _ 2 ?hg (N:=94) ?hd (xs:=([t130,t133]:List Int)) (inner:=[.int .i64 t130,.int .i64 t133]) (ok:=fun _=>True) (b_:=fun _=>True) ?hr ?hp (fun _ hk=>hk) trivial (Below.refl _ _) (Nat.le_refl _) (by simp) ?_;(case hd=>rfl);(case hg=>rfl);(case hr=>first|(go_simp;done)|(go_simp;rfl));(case hp=>exact (bh.one (show Kd.M (Kd.int .i64) _ _ _ t130 [.int .i64 t130] from rfl) (bh.one (show Kd.M (Kd.int .i64) _ _ _ t133 [.int .i64 t133] from rfl) (bh.none _ _))));intro v146 w84 Cl hb cJ cK;clear cJ cK;(first|rw [← OP.z] at Cl|(simp only [Int.reduceToNat] at Cl;rw [← OP.z] at Cl));have aq:=k0 (Kd.cC (aS cl.z) (Kd.aU Cl) hb);have au:=k0 (Kd.cU Cl (dU (aK HK.z)));have ax:=kB aa hb;have aA:=kB bG hb;have aG:=k0 (ag.below (aoZ ai.z) hb);have aM:=k0 (aoR.trans (aK HK.z) (aoR.iq hb g none) (.inl rfl));have bu:=k0 (aH (by repeat (first|(with_reducible first|exact HB.z|apply a_|apply bf|apply aZ|refine aoO ?_ (ag.ge ai.z)|refine aoO ?_ aX.z|refine aoO ?_ iT.z)|exact HB.z)) hb);clear cl;clear aa;clear bG;clear ai;clear HK;clear HB;have cl:=aq;have FW:=au;have aa:=ax;have bG:=aA;have ai:=aG;have HK:=aM;have HB:=bu;clear aq au ax aA aG aM bu;clear hb Cl;obtain ⟨IX,J5,Ke⟩:=Kd.dM FW.z;subst Ke)|((with_reducible refine kQ (b:=.append) (xs:=#[.tmp 91,.tmp 95]) rfl ?_);(try (refine jC (by rfl) ?_;dsimp only));at_builtin;refine Kd.uj (Kd.slice 2 (Kd.int .i64)) w.heap.size rfl (.tmp 91) (.tmp 95) 22 28 (.slice none 0 0) 24 rfl Try.underlying22 qX rfl (by decide) (by omega) u106001 gX FE [.slice IX FE.length J5] (fun _=>True) (fun k_=>some k_=(.slice IX FE.length J5:Value).ownBlock) rfl rfl ?aP (fun k_ bZ=>((Kd.aoY (ok':=fun k_=>((fun _=>True)) k_∧some k_ ≠ (u106001:Value).ownBlock) (Kd.iU (FW.z) (Kd.iE cl.z) (by decide)) (fun k_ hk=>⟨trivial,hk.2⟩))).1 k_ bZ.symm) ?aF ?aO (Below.refl _ _) ?aS ?aL ?_;(case aP=>exact Kd.apB (Kd.aoY (Kd.mh rfl (Kd.aoY (ok':=fun k_=>((fun _=>True)) k_∧some k_ ≠ (u106001:Value).ownBlock) (Kd.iU (FW.z) (Kd.iE cl.z) (by decide)) (fun k_ hk=>⟨trivial,hk.2⟩))) (fun _ h_=>h_)));(case aF=>exact (fun _ _=>trivial));(case aO=>exact (by (with_reducible repeat (first|apply Kd.cM|apply Kd.cI|apply Kd.cr));exact Kd.bq cl.z (fun k_ hk=>⟨trivial,fun e_=>hk.2 e_⟩)));(case aS=>exact (dU (aK HK.z)));(case aL=>have:=Wl.out;omega);intro Fo w86 ho hb hg ao1;rw [← WE.z] at ho;have aq:=k0 (fl (aB aa.z) hg (Kd.jz cl.z aa.z (by decide)));have au:=k0 (fl (aB bG.z) hg (Kd.jz cl.z bG.z (by decide)));have ax:=k0 (ag.grown (aoZ ai.z) hg (ag.AI ai.z cl.z (by decide)));have aA:=k0 (vW (by repeat (first|(with_reducible first|exact HB.z|apply a_|apply bf|apply aZ|refine aoO ?_ (ag.ge ai.z)|refine aoO ?_ aX.z|refine aoO ?_ iT.z)|exact HB.z)) HL.z hb);have aG:=k0 (aoR.trans (aK HK.z) (aoR.u_ hg g) (Kd.zJ cl.z));have aM:=k0 (ho);clear aa;clear bG;clear ai;clear HB;clear HK;clear cl;clear FW;have aa:=aq;have bG:=au;have ai:=ax;have HB:=aA;have HK:=aG;have jy:=aM;clear aq au ax aA aG aM;clear ho hb hg ao1;obtain ⟨C9,D0,Kf⟩:=Kd.apc jy.z;subst Kf;have ajD:=aQ bG;have ajE:=aoT bG;have alP:=bF bG 0;have alQ:=bF bG 1))
           go_roundg nO
           case measure=>have:=bx.z;have:=sR.out;have:=iK.z;have:=Bn.out;omega
           case rel=>exact ⟨(wrap64 (lu - 1)),(t137),(t138),(IF),(.slice C9 IF.length D0),rs,H',⟨by have:=bx.z;have:=sR.out;have:=iK.z;have:=Bn.out;omega⟩,⟨aS (Kd.bq (gS 1 (.slice C9 IF.length D0) (tS jy bG)) (fun _ hk=>trivial))⟩,⟨by (with_reducible repeat (first|refine aoU ?_ _|refine aJ ?_|refine aoQ ?_ _));refine bW ?_ mb.z _;exact bk⟩,⟨by (with_reducible repeat (first|refine aoU ?_ _|refine aJ ?_|refine aoQ ?_ _));refine bE (cs:=#[.int .i64 a1,u106001]) ?_ 1 _ rfl;exact bk⟩,⟨aoZ ai.z⟩,⟨aK HK.z⟩,⟨by repeat (first|(with_reducible first|exact HB.z|apply a_|apply bf|apply aZ|refine aoO ?_ (ag.ge ai.z)|refine aoO ?_ aX.z|refine aoO ?_ iT.z)|exact HB.z)⟩⟩
          rw [if_pos c62] at H
          have JY:=decide_eq_true c62
          clear c62
          by_cases c63:a1=0
          case neg =>
           rw [if_neg c63] at H
           have PC:(a1 == 0)=false:=beq_eq_false_iff_ne.mpr c63
           have PD:(a1 != 0)=true:=bne_iff_ne.mpr c63
           obtain ⟨FD,L1⟩:∃ y_:List Int,y_=(([t130,Int.tmod (wrap64 (t130+1)) a1]:List Int)):=⟨_,rfl⟩
           replace H:(if gX.length < 5864062014805 then (cA.l1 nO a1 a2 (wrap64 (lu - 1)) aI t137 t138 a1 (gX ++ [FD])) else (none))=some (r1,r2,r3,r4):=rH L1 H
           have OO:=k0 L1
           clear L1
           replace H:=iS H;obtain ⟨c64,H⟩:=H
           have Wj:=k0 c64
           clear c64
           obtain ⟨IE,L2⟩:∃ y_:List (List Int),y_=(gX ++ [FD]):=⟨_,rfl⟩
           replace H:(cA.l1 nO a1 a2 (wrap64 (lu - 1)) aI t137 t138 a1 IE)=some (r1,r2,r3,r4):=rH L2 H
           have WD:=k0 L2
           clear L2
           have H':=k0 H
           clear H
           go_wp2_with (first|((with_reducible refine bg (f:=112) rfl ?_);refine gC (some 74) Try.func112 #[.pointer (some ⟨g,0,none⟩),.int .i64 a1] ?_;(with_reducible refine (dg.calls g aI sG sH a1 t130 t131 t132 w0 _ ?aoN ?aoP IM.z).mono ?_);(case aoN=>repeat (first|(with_reducible first|exact ai.z|apply ag.alloc|apply ag.drewN|apply ag.drew|apply ag.fZ|apply ag.f_|refine ag.ao' ?_ dH.z _|refine ag.ao' ?_ l_.z _)|exact ai.z));(case aoP=>repeat (first|(with_reducible first|exact HB.z|apply a_|apply bf|apply aZ|refine aoO ?_ (ag.ge ai.z)|refine aoO ?_ aX.z|refine aoO ?_ iT.z)|exact HB.z));rintro e w65 ⟨rfl,hi,hb,hk⟩;refine ⟨_,rfl,?_⟩;have aq:=k0 (Kd.bq (Kd.p_ (ag.pI (show ag w0 _ g aI sG sH from aoZ ai.z) (aS cl.z) (by decide)) hk (fun _ h=>h.2)) (fun _ h=>h.1));have au:=k0 (aoR.blk hk (aB aa.z) dI.z (by simp));have ax:=k0 (aoR.blk hk (aB bG.z) mg.z (by simp));have aA:=k0 (aoR.trans (aK HK.z) hk (.inl rfl));have aG:=k0 (hb);have aM:=k0 (hi);clear cl;clear aa;clear bG;clear HK;clear HB;clear ai;have cl:=aq;have aa:=au;have bG:=ax;have HK:=aA;have HB:=aG;have ai:=aM;clear aq au ax aA aG aM;)|((with_reducible refine bg (f:=112) rfl ?_);refine gC (some 77) Try.func112 #[.pointer (some ⟨g,0,none⟩),.int .i64 a1] ?_;(with_reducible refine (dg.calls g aI t131 t132 a1 t133 t134 t135 w0 _ ?aoN ?aoP IP.z).mono ?_);(case aoN=>repeat (first|(with_reducible first|exact ai.z|apply ag.alloc|apply ag.drewN|apply ag.drew|apply ag.fZ|apply ag.f_|refine ag.ao' ?_ dH.z _|refine ag.ao' ?_ l_.z _)|exact ai.z));(case aoP=>repeat (first|(with_reducible first|exact HB.z|apply a_|apply bf|apply aZ|refine aoO ?_ (ag.ge ai.z)|refine aoO ?_ aX.z|refine aoO ?_ iT.z)|exact HB.z));rintro e w66 ⟨rfl,hi,hb,hk⟩;refine ⟨_,rfl,?_⟩;have aq:=k0 (Kd.bq (Kd.p_ (ag.pI (show ag w0 _ g aI t131 t132 from aoZ ai.z) (aS cl.z) (by decide)) hk (fun _ h=>h.2)) (fun _ h=>h.1));have au:=k0 (aoR.blk hk (aB aa.z) dI.z (by simp));have ax:=k0 (aoR.blk hk (aB bG.z) mg.z (by simp));have aA:=k0 (aoR.trans (aK HK.z) hk (.inl rfl));have aG:=k0 (hb);have aM:=k0 (hi);clear cl;clear aa;clear bG;clear HK;clear HB;clear ai;have cl:=aq;have aa:=au;have bG:=ax;have HK:=aA;have HB:=aG;have ai:=aM;clear aq au ax aA aG aM;)|(go_at_call 112;(with_reducible refine (dg.calls g aI t134 t135 3 t136 t137 t138 w0 _ ?aoN ?aoP sM.z).mono ?_);(case aoN=>repeat (first|(with_reducible first|exact ai.z|apply ag.alloc|apply ag.drewN|apply ag.drew|apply ag.fZ|apply ag.f_|refine ag.ao' ?_ dH.z _|refine ag.ao' ?_ l_.z _)|exact ai.z));(case aoP=>repeat (first|(with_reducible first|exact HB.z|apply a_|apply bf|apply aZ|refine aoO ?_ (ag.ge ai.z)|refine aoO ?_ aX.z|refine aoO ?_ iT.z)|exact HB.z));rintro e w67 ⟨rfl,hi,hb,hk⟩;have aq:=k0 (Kd.bq (Kd.p_ (ag.pI (show ag w0 _ g aI t134 t135 from aoZ ai.z) (aS cl.z) (by decide)) hk (fun _ h=>h.2)) (fun _ h=>h.1));have au:=k0 (aoR.blk hk (aB aa.z) dI.z (by simp));have ax:=k0 (aoR.blk hk (aB bG.z) mg.z (by simp));have aA:=k0 (aoR.trans (aK HK.z) hk (.inl rfl));have aG:=k0 (hb);have aM:=k0 (hi);clear cl;clear aa;clear bG;clear HK;clear HB;clear ai;have cl:=aq;have aa:=au;have bG:=ax;have HK:=aA;have HB:=aG;have ai:=aM;clear aq au ax aA aG aM;have aci:=qA.z;have acI:=mb.z;have amQ:=mg.z;have anA:=l_.z;have aje:=aQ bG;have ajf:=aoT bG;have alp:=bF bG 0;have alq:=bF bG 1)|((with_reducible refine bp (N:=94) rfl ?_);(try (refine jC (by rfl) ?_;dsimp only));refine Kd.jr (Kd.int .i64) _ 2 ?hg (N:=94) ?hd (xs:=([t130,Int.tmod (wrap64 (t130+1)) a1]:List Int)) (inner:=[.int .i64 t130,.int .i64 (Int.tmod (wrap64 (t130+1)) a1)]) (ok:=fun _=>True) (b_:=fun _=>True) ?hr ?hp (fun _ hk=>hk) trivial (Below.refl _ _) (Nat.le_refl _) (by simp) ?_;(case hd=>rfl);(case hg=>rfl);(case hr=>first|(go_simp;done)|(go_simp;rfl));(case hp=>exact (bh.one (show Kd.M (Kd.int .i64) _ _ _ t130 [.int .i64 t130] from rfl) (bh.one (show Kd.M (Kd.int .i64) _ _ _ (Int.tmod (wrap64 (t130+1)) a1) [.int .i64 (Int.tmod (wrap64 (t130+1)) a1)] from rfl) (bh.none _ _))));intro aog w71 Cj hb cJ cK;clear cJ cK;(first|rw [← OO.z] at Cj|(simp only [Int.reduceToNat] at Cj;rw [← OO.z] at Cj));have aq:=k0 (Kd.cC (aS cl.z) (Kd.aU Cj) hb);have au:=k0 (Kd.cU Cj (dU (aK HK.z)));have ax:=kB aa hb;have aA:=kB bG hb;have aG:=k0 (ag.below (aoZ ai.z) hb);have aM:=k0 (aoR.trans (aK HK.z) (aoR.iq hb g none) (.inl rfl));have bu:=k0 (aH (by repeat (first|(with_reducible first|exact HB.z|apply a_|apply bf|apply aZ|refine aoO ?_ (ag.ge ai.z)|refine aoO ?_ aX.z|refine aoO ?_ iT.z)|exact HB.z)) hb);clear cl;clear aa;clear bG;clear ai;clear HK;clear HB;have cl:=aq;have FV:=au;have aa:=ax;have bG:=aA;have ai:=aG;have HK:=aM;have HB:=bu;clear aq au ax aA aG aM bu;clear hb Cj;obtain ⟨aqU,Gp,aq9⟩:=Kd.dM FV.z;subst aq9)|((with_reducible refine kQ (b:=.append) (xs:=#[.tmp 91,.tmp 95]) rfl ?_);(try (refine jC (by rfl) ?_;dsimp only));at_builtin;refine Kd.uj (Kd.slice 2 (Kd.int .i64)) w.heap.size rfl (.tmp 91) (.tmp 95) 22 28 (.slice none 0 0) 24 rfl Try.underlying22 qX rfl (by decide) (by omega) u106001 gX FD [.slice aqU FD.length Gp] (fun _=>True) (fun k_=>some k_=(.slice aqU FD.length Gp:Value).ownBlock) rfl rfl ?aP (fun k_ bZ=>((Kd.aoY (ok':=fun k_=>((fun _=>True)) k_∧some k_ ≠ (u106001:Value).ownBlock) (Kd.iU (FV.z) (Kd.iE cl.z) (by decide)) (fun k_ hk=>⟨trivial,hk.2⟩))).1 k_ bZ.symm) ?aF ?aO (Below.refl _ _) ?aS ?aL ?_;(case aP=>exact Kd.apB (Kd.aoY (Kd.mh rfl (Kd.aoY (ok':=fun k_=>((fun _=>True)) k_∧some k_ ≠ (u106001:Value).ownBlock) (Kd.iU (FV.z) (Kd.iE cl.z) (by decide)) (fun k_ hk=>⟨trivial,hk.2⟩))) (fun _ h_=>h_)));(case aF=>exact (fun _ _=>trivial));(case aO=>exact (by (with_reducible repeat (first|apply Kd.cM|apply Kd.cI|apply Kd.cr));exact Kd.bq cl.z (fun k_ hk=>⟨trivial,fun e_=>hk.2 e_⟩)));(case aS=>exact (dU (aK HK.z)));(case aL=>have:=Wj.out;omega);intro v143 Uh ho hb hg ao1;rw [← WD.z] at ho;have aq:=k0 (fl (aB aa.z) hg (Kd.jz cl.z aa.z (by decide)));have au:=k0 (fl (aB bG.z) hg (Kd.jz cl.z bG.z (by decide)));have ax:=k0 (ag.grown (aoZ ai.z) hg (ag.AI ai.z cl.z (by decide)));have aA:=k0 (vW (by repeat (first|(with_reducible first|exact HB.z|apply a_|apply bf|apply aZ|refine aoO ?_ (ag.ge ai.z)|refine aoO ?_ aX.z|refine aoO ?_ iT.z)|exact HB.z)) HL.z hb);have aG:=k0 (aoR.trans (aK HK.z) (aoR.u_ hg g) (Kd.zJ cl.z));have aM:=k0 (ho);clear aa;clear bG;clear ai;clear HB;clear HK;clear cl;clear FV;have aa:=aq;have bG:=au;have ai:=ax;have HB:=aA;have HK:=aG;have rT:=aM;clear aq au ax aA aG aM;clear ho hb hg ao1;obtain ⟨vF,aqd,z7⟩:=Kd.apc rT.z;subst z7;have ajm:=aQ bG;have ajn:=aoT bG;have aly:=bF bG 0;have alz:=bF bG 1))
           go_roundg nO
           case measure=>have:=bx.z;have:=sR.out;have:=iK.z;have:=Bn.out;omega
           case rel=>exact ⟨(wrap64 (lu - 1)),(t137),(t138),(IE),(.slice vF IE.length aqd),rs,H',⟨by have:=bx.z;have:=sR.out;have:=iK.z;have:=Bn.out;omega⟩,⟨aS (Kd.bq (gS 1 (.slice vF IE.length aqd) (tS rT bG)) (fun _ hk=>trivial))⟩,⟨by (with_reducible repeat (first|refine aoU ?_ _|refine aJ ?_|refine aoQ ?_ _));refine bW ?_ mb.z _;exact bk⟩,⟨by (with_reducible repeat (first|refine aoU ?_ _|refine aJ ?_|refine aoQ ?_ _));refine bE (cs:=#[.int .i64 a1,u106001]) ?_ 1 _ rfl;exact bk⟩,⟨aoZ ai.z⟩,⟨aK HK.z⟩,⟨by repeat (first|(with_reducible first|exact HB.z|apply a_|apply bf|apply aZ|refine aoO ?_ (ag.ge ai.z)|refine aoO ?_ aX.z|refine aoO ?_ iT.z)|exact HB.z)⟩⟩
          rw [if_pos c63] at H
          exact absurd H (by simp)
     subst c21
     have H1:((dg.f aI kJ kK iI).bind fun js=>((dg.f aI js.2.1 js.2.2 2).bind fun fM=>(if fM.1=0 then (if kL.length < 5864062014805 then (cA.l0 qi a1 a2 (decide (t106 > 0)) (wrap64 (iI+1)) aI fM.2.1 fM.2.2 a1 (kL ++ [(([iI,js.1]:List Int))])) else (none)) else (if kL.length < 5864062014805 then (cA.l0 qi a1 a2 (decide (t106 > 0)) (wrap64 (iI+1)) aI fM.2.1 fM.2.2 a1 (kL ++ [(([js.1,iI]:List Int))])) else (none)))))=some (r1,r2,r3,r4):=by rw [if_pos rfl] at H;exact H
     clear H
     have H:=H1
     clear H1
     replace H:=Option.bind_eq_some_iff.mp H
     obtain ⟨⟨t109,t110,t111⟩,xV,H⟩:=H
     replace H:((dg.f aI t110 t111 2).bind fun fM=>(if fM.1=0 then (if kL.length < 5864062014805 then (cA.l0 qi a1 a2 (decide (t106 > 0)) (wrap64 (iI+1)) aI fM.2.1 fM.2.2 a1 (kL ++ [(([iI,t109]:List Int))])) else (none)) else (if kL.length < 5864062014805 then (cA.l0 qi a1 a2 (decide (t106 > 0)) (wrap64 (iI+1)) aI fM.2.1 fM.2.2 a1 (kL ++ [(([t109,iI]:List Int))])) else (none))))=some (r1,r2,r3,r4):=H
     have Bc:=k0 xV
     clear xV
     replace H:=Option.bind_eq_some_iff.mp H
     obtain ⟨⟨t112,t113,t114⟩,apS,H⟩:=H
     replace H:(if t112=0 then (if kL.length < 5864062014805 then (cA.l0 qi a1 a2 (decide (t106 > 0)) (wrap64 (iI+1)) aI t113 t114 a1 (kL ++ [(([iI,t109]:List Int))])) else (none)) else (if kL.length < 5864062014805 then (cA.l0 qi a1 a2 (decide (t106 > 0)) (wrap64 (iI+1)) aI t113 t114 a1 (kL ++ [(([t109,iI]:List Int))])) else (none)))=some (r1,r2,r3,r4):=H
     have vC:=k0 apS
     clear apS
     by_cases c24:t112=0
     case neg =>
      rw [if_neg c24] at H
      have BB:(t112 == 0)=false:=beq_eq_false_iff_ne.mpr c24
      have Gi:(t112 != 0)=true:=bne_iff_ne.mpr c24
      obtain ⟨xO,Ax⟩:∃ y_:List Int,y_=(([t109,iI]:List Int)):=⟨_,rfl⟩
      replace H:(if kL.length < 5864062014805 then (cA.l0 qi a1 a2 (decide (t106 > 0)) (wrap64 (iI+1)) aI t113 t114 a1 (kL ++ [xO])) else (none))=some (r1,r2,r3,r4):=rH Ax H
      have DC:=k0 Ax
      clear Ax
      replace H:=iS H;obtain ⟨c37,H⟩:=H
      have Wf:=k0 c37
      clear c37
      obtain ⟨ID,LQ⟩:∃ y_:List (List Int),y_=(kL ++ [xO]):=⟨_,rfl⟩
      replace H:(cA.l0 qi a1 a2 (decide (t106 > 0)) (wrap64 (iI+1)) aI t113 t114 a1 ID)=some (r1,r2,r3,r4):=rH LQ H
      have Wx:=k0 LQ
      clear LQ
      have H':=k0 H
      clear H
      go_wp2_with (first|((with_reducible refine bg (f:=112) rfl ?_);refine gC (some 37) Try.func112 #[.pointer (some ⟨g,0,none⟩),.int .i64 iI] ?_;(with_reducible refine (dg.calls g aI kJ kK iI t109 t110 t111 w0 _ ?aoN ?aoP Bc.z).mono ?_);(case aoN=>repeat (first|(with_reducible first|exact ai.z|apply ag.alloc|apply ag.drewN|apply ag.drew|apply ag.fZ|apply ag.f_|refine ag.ao' ?_ dH.z _|refine ag.ao' ?_ l_.z _)|exact ai.z));(case aoP=>repeat (first|(with_reducible first|exact HB.z|apply a_|apply bf|apply aZ|refine aoO ?_ (ag.ge ai.z)|refine aoO ?_ aX.z|refine aoO ?_ iT.z)|exact HB.z));rintro e w38 ⟨rfl,hi,hb,hk⟩;refine ⟨_,rfl,?_⟩;have aq:=k0 (Kd.bq (Kd.p_ (ag.pI (show ag w0 _ g aI kJ kK from aoZ ai.z) (aS cl.z) (by decide)) hk (fun _ h=>h.2)) (fun _ h=>h.1));have au:=k0 (aoR.blk hk (aB aa.z) dI.z (by simp));have ax:=k0 (aoR.blk hk (aB bG.z) mg.z (by simp));have aA:=k0 (aoR.trans (aK HK.z) hk (.inl rfl));have aG:=k0 (hb);have aM:=k0 (hi);clear cl;clear aa;clear bG;clear HK;clear HB;clear ai;have cl:=aq;have aa:=au;have bG:=ax;have HK:=aA;have HB:=aG;have ai:=aM;clear aq au ax aA aG aM;)|((with_reducible refine bg (f:=112) rfl ?_);refine gC (some 39) Try.func112 #[.pointer (some ⟨g,0,none⟩),.int .i64 2] ?_;(with_reducible refine (dg.calls g aI t110 t111 2 t112 t113 t114 w0 _ ?aoN ?aoP vC.z).mono ?_);(case aoN=>repeat (first|(with_reducible first|exact ai.z|apply ag.alloc|apply ag.drewN|apply ag.drew|apply ag.fZ|apply ag.f_|refine ag.ao' ?_ dH.z _|refine ag.ao' ?_ l_.z _)|exact ai.z));(case aoP=>repeat (first|(with_reducible first|exact HB.z|apply a_|apply bf|apply aZ|refine aoO ?_ (ag.ge ai.z)|refine aoO ?_ aX.z|refine aoO ?_ iT.z)|exact HB.z));rintro e Nr ⟨rfl,hi,hb,hk⟩;refine ⟨_,rfl,?_⟩;have aq:=k0 (Kd.bq (Kd.p_ (ag.pI (show ag w0 _ g aI t110 t111 from aoZ ai.z) (aS cl.z) (by decide)) hk (fun _ h=>h.2)) (fun _ h=>h.1));have au:=k0 (aoR.blk hk (aB aa.z) dI.z (by simp));have ax:=k0 (aoR.blk hk (aB bG.z) mg.z (by simp));have aA:=k0 (aoR.trans (aK HK.z) hk (.inl rfl));have aG:=k0 (hb);have aM:=k0 (hi);clear cl;clear aa;clear bG;clear HK;clear HB;clear ai;have cl:=aq;have aa:=au;have bG:=ax;have HK:=aA;have HB:=aG;have ai:=aM;clear aq au ax aA aG aM;have amK:=qA.z;have ant:=mb.z;have ab8:=mg.z;have acz:=l_.z;have aiM:=aQ bG;have aiN:=aoT bG;have akW:=bF bG 0;have akX:=bF bG 1)|((with_reducible refine bp (N:=53) rfl ?_);(try (refine jC (by rfl) ?_;dsimp only));refine Kd.jr (Kd.int .i64) _ 2 ?hg (N:=53) ?hd (xs:=([t109,iI]:List Int)) (inner:=[.int .i64 t109,.int .i64 iI]) (ok:=fun _=>True) (b_:=fun _=>True) ?hr ?hp (fun _ hk=>hk) trivial (Below.refl _ _) (Nat.le_refl _) (by simp) ?_;(case hd=>rfl);(case hg=>rfl);(case hr=>first|(go_simp;done)|(go_simp;rfl));(case hp=>exact (bh.one (show Kd.M (Kd.int .i64) _ _ _ t109 [.int .i64 t109] from rfl) (bh.one (show Kd.M (Kd.int .i64) _ _ _ iI [.int .i64 iI] from rfl) (bh.none _ _))));intro Nk w43 qR hb cJ cK;clear cJ cK;(first|rw [← DC.z] at qR|(simp only [Int.reduceToNat] at qR;rw [← DC.z] at qR));have aq:=k0 (Kd.cC (aS cl.z) (Kd.aU qR) hb);have au:=k0 (Kd.cU qR (dU (aK HK.z)));have ax:=kB aa hb;have aA:=kB bG hb;have aG:=k0 (ag.below (aoZ ai.z) hb);have aM:=k0 (aoR.trans (aK HK.z) (aoR.iq hb g none) (.inl rfl));have bu:=k0 (aH (by repeat (first|(with_reducible first|exact HB.z|apply a_|apply bf|apply aZ|refine aoO ?_ (ag.ge ai.z)|refine aoO ?_ aX.z|refine aoO ?_ iT.z)|exact HB.z)) hb);clear cl;clear aa;clear bG;clear ai;clear HK;clear HB;have cl:=aq;have jn:=au;have aa:=ax;have bG:=aA;have ai:=aG;have HK:=aM;have HB:=bu;clear aq au ax aA aG aM bu;clear hb qR;obtain ⟨ej,ee,aqD⟩:=Kd.dM jn.z;subst aqD)|((with_reducible refine kQ (b:=.append) (xs:=#[.tmp 50,.tmp 54]) rfl ?_);(try (refine jC (by rfl) ?_;dsimp only));at_builtin;refine Kd.uj (Kd.slice 2 (Kd.int .i64)) w.heap.size rfl (.tmp 50) (.tmp 54) 22 28 (.slice none 0 0) 24 rfl Try.underlying22 qX rfl (by decide) (by omega) u106001 kL xO [.slice ej xO.length ee] (fun _=>True) (fun k_=>some k_=(.slice ej xO.length ee:Value).ownBlock) rfl rfl ?aP (fun k_ bZ=>((Kd.aoY (ok':=fun k_=>((fun _=>True)) k_∧some k_ ≠ (u106001:Value).ownBlock) (Kd.iU (jn.z) (Kd.iE cl.z) (by decide)) (fun k_ hk=>⟨trivial,hk.2⟩))).1 k_ bZ.symm) ?aF ?aO (Below.refl _ _) ?aS ?aL ?_;(case aP=>exact Kd.apB (Kd.aoY (Kd.mh rfl (Kd.aoY (ok':=fun k_=>((fun _=>True)) k_∧some k_ ≠ (u106001:Value).ownBlock) (Kd.iU (jn.z) (Kd.iE cl.z) (by decide)) (fun k_ hk=>⟨trivial,hk.2⟩))) (fun _ h_=>h_)));(case aF=>exact (fun _ _=>trivial));(case aO=>exact (by (with_reducible repeat (first|apply Kd.cM|apply Kd.cI|apply Kd.cr));exact Kd.bq cl.z (fun k_ hk=>⟨trivial,fun e_=>hk.2 e_⟩)));(case aS=>exact (dU (aK HK.z)));(case aL=>have:=Wf.out;omega);intro aoc w45 ho hb hg ao1;rw [← Wx.z] at ho;have aq:=k0 (fl (aB aa.z) hg (Kd.jz cl.z aa.z (by decide)));have au:=k0 (fl (aB bG.z) hg (Kd.jz cl.z bG.z (by decide)));have ax:=k0 (ag.grown (aoZ ai.z) hg (ag.AI ai.z cl.z (by decide)));have aA:=k0 (vW (by repeat (first|(with_reducible first|exact HB.z|apply a_|apply bf|apply aZ|refine aoO ?_ (ag.ge ai.z)|refine aoO ?_ aX.z|refine aoO ?_ iT.z)|exact HB.z)) HL.z hb);have aG:=k0 (aoR.trans (aK HK.z) (aoR.u_ hg g) (Kd.zJ cl.z));have aM:=k0 (ho);clear aa;clear bG;clear ai;clear HB;clear HK;clear cl;clear jn;have aa:=aq;have bG:=au;have ai:=ax;have HB:=aA;have HK:=aG;have On:=aM;clear aq au ax aA aG aM;clear ho hb hg ao1;obtain ⟨N1,PZ,Zs⟩:=Kd.apc On.z;subst Zs;have aaU:=aQ bG;have aaV:=aoT bG;have abG:=bF bG 0;have abH:=bF bG 1))
      go_roundg qi
      case measure=>have:=bx.z;have:=sR.out;omega
      case rel=>exact ⟨(wrap64 (iI+1)),(t113),(t114),(ID),(.slice N1 ID.length PZ),rs,H',⟨by have:=bx.z;have:=sR.out;omega⟩,⟨aS (Kd.bq (gS 1 (.slice N1 ID.length PZ) (tS On bG)) (fun _ hk=>trivial))⟩,⟨by (with_reducible repeat (first|refine aoU ?_ _|refine aJ ?_|refine aoQ ?_ _));refine bW ?_ mb.z _;exact bk⟩,⟨by (with_reducible repeat (first|refine aoU ?_ _|refine aJ ?_|refine aoQ ?_ _));refine bE (cs:=#[.int .i64 a1,u106001]) ?_ 1 _ rfl;exact bk⟩,⟨aoZ ai.z⟩,⟨aK HK.z⟩,⟨by repeat (first|(with_reducible first|exact HB.z|apply a_|apply bf|apply aZ|refine aoO ?_ (ag.ge ai.z)|refine aoO ?_ aX.z|refine aoO ?_ iT.z)|exact HB.z)⟩⟩
     rw [if_pos c24] at H
     have BB:(t112 == 0)=true:=beq_iff_eq.mpr c24
     have Gi:(t112 != 0)=false:=bne_eq_false_iff_eq.mpr c24
     clear c24
     obtain ⟨nD,ot⟩:∃ y_:List Int,y_=(([iI,t109]:List Int)):=⟨_,rfl⟩
     replace H:(if kL.length < 5864062014805 then (cA.l0 qi a1 a2 (decide (t106 > 0)) (wrap64 (iI+1)) aI t113 t114 a1 (kL ++ [nD])) else (none))=some (r1,r2,r3,r4):=rH ot H
     have vQ:=k0 ot
     clear ot
     replace H:=iS H;obtain ⟨c25,H⟩:=H
     have Ju:=k0 c25
     clear c25
     obtain ⟨sL,uR⟩:∃ y_:List (List Int),y_=(kL ++ [nD]):=⟨_,rfl⟩
     replace H:(cA.l0 qi a1 a2 (decide (t106 > 0)) (wrap64 (iI+1)) aI t113 t114 a1 sL)=some (r1,r2,r3,r4):=rH uR H
     have DA:=k0 uR
     clear uR
     have H':=k0 H
     clear H
     go_wp2_with (first|((with_reducible refine bg (f:=112) rfl ?_);refine gC (some 37) Try.func112 #[.pointer (some ⟨g,0,none⟩),.int .i64 iI] ?_;(with_reducible refine (dg.calls g aI kJ kK iI t109 t110 t111 w0 _ ?aoN ?aoP Bc.z).mono ?_);(case aoN=>repeat (first|(with_reducible first|exact ai.z|apply ag.alloc|apply ag.drewN|apply ag.drew|apply ag.fZ|apply ag.f_|refine ag.ao' ?_ dH.z _|refine ag.ao' ?_ l_.z _)|exact ai.z));(case aoP=>repeat (first|(with_reducible first|exact HB.z|apply a_|apply bf|apply aZ|refine aoO ?_ (ag.ge ai.z)|refine aoO ?_ aX.z|refine aoO ?_ iT.z)|exact HB.z));rintro e aqF ⟨rfl,hi,hb,hk⟩;refine ⟨_,rfl,?_⟩;have aq:=k0 (Kd.bq (Kd.p_ (ag.pI (show ag w0 _ g aI kJ kK from aoZ ai.z) (aS cl.z) (by decide)) hk (fun _ h=>h.2)) (fun _ h=>h.1));have au:=k0 (aoR.blk hk (aB aa.z) dI.z (by simp));have ax:=k0 (aoR.blk hk (aB bG.z) mg.z (by simp));have aA:=k0 (aoR.trans (aK HK.z) hk (.inl rfl));have aG:=k0 (hb);have aM:=k0 (hi);clear cl;clear aa;clear bG;clear HK;clear HB;clear ai;have cl:=aq;have aa:=au;have bG:=ax;have HK:=aA;have HB:=aG;have ai:=aM;clear aq au ax aA aG aM;)|((with_reducible refine bg (f:=112) rfl ?_);refine gC (some 39) Try.func112 #[.pointer (some ⟨g,0,none⟩),.int .i64 2] ?_;(with_reducible refine (dg.calls g aI t110 t111 2 t112 t113 t114 w0 _ ?aoN ?aoP vC.z).mono ?_);(case aoN=>repeat (first|(with_reducible first|exact ai.z|apply ag.alloc|apply ag.drewN|apply ag.drew|apply ag.fZ|apply ag.f_|refine ag.ao' ?_ dH.z _|refine ag.ao' ?_ l_.z _)|exact ai.z));(case aoP=>repeat (first|(with_reducible first|exact HB.z|apply a_|apply bf|apply aZ|refine aoO ?_ (ag.ge ai.z)|refine aoO ?_ aX.z|refine aoO ?_ iT.z)|exact HB.z));rintro e xG ⟨rfl,hi,hb,hk⟩;refine ⟨_,rfl,?_⟩;have aq:=k0 (Kd.bq (Kd.p_ (ag.pI (show ag w0 _ g aI t110 t111 from aoZ ai.z) (aS cl.z) (by decide)) hk (fun _ h=>h.2)) (fun _ h=>h.1));have au:=k0 (aoR.blk hk (aB aa.z) dI.z (by simp));have ax:=k0 (aoR.blk hk (aB bG.z) mg.z (by simp));have aA:=k0 (aoR.trans (aK HK.z) hk (.inl rfl));have aG:=k0 (hb);have aM:=k0 (hi);clear cl;clear aa;clear bG;clear HK;clear HB;clear ai;have cl:=aq;have aa:=au;have bG:=ax;have HK:=aA;have HB:=aG;have ai:=aM;clear aq au ax aA aG aM;have Sa:=qA.z;have Sn:=mb.z;have Lw:=mg.z;have LA:=l_.z;have Ra:=aQ bG;have Rb:=aoT bG;have Rv:=bF bG 0;have Rw:=bF bG 1)|((with_reducible refine bp (N:=45) rfl ?_);(try (refine jC (by rfl) ?_;dsimp only));refine Kd.jr (Kd.int .i64) _ 2 ?hg (N:=45) ?hd (xs:=([iI,t109]:List Int)) (inner:=[.int .i64 iI,.int .i64 t109]) (ok:=fun _=>True) (b_:=fun _=>True) ?hr ?hp (fun _ hk=>hk) trivial (Below.refl _ _) (Nat.le_refl _) (by simp) ?_;(case hd=>rfl);(case hg=>rfl);(case hr=>first|(go_simp;done)|(go_simp;rfl));(case hp=>exact (bh.one (show Kd.M (Kd.int .i64) _ _ _ iI [.int .i64 iI] from rfl) (bh.one (show Kd.M (Kd.int .i64) _ _ _ t109 [.int .i64 t109] from rfl) (bh.none _ _))));intro Nj CP mQ hb cJ cK;clear cJ cK;(first|rw [← vQ.z] at mQ|(simp only [Int.reduceToNat] at mQ;rw [← vQ.z] at mQ));have aq:=k0 (Kd.cC (aS cl.z) (Kd.aU mQ) hb);have au:=k0 (Kd.cU mQ (dU (aK HK.z)));have ax:=kB aa hb;have aA:=kB bG hb;have aG:=k0 (ag.below (aoZ ai.z) hb);have aM:=k0 (aoR.trans (aK HK.z) (aoR.iq hb g none) (.inl rfl));have bu:=k0 (aH (by repeat (first|(with_reducible first|exact HB.z|apply a_|apply bf|apply aZ|refine aoO ?_ (ag.ge ai.z)|refine aoO ?_ aX.z|refine aoO ?_ iT.z)|exact HB.z)) hb);clear cl;clear aa;clear bG;clear ai;clear HK;clear HB;have cl:=aq;have sV:=au;have aa:=ax;have bG:=aA;have ai:=aG;have HK:=aM;have HB:=bu;clear aq au ax aA aG aM bu;clear hb mQ;obtain ⟨vE,vZ,D7⟩:=Kd.dM sV.z;subst D7)|((with_reducible refine kQ (b:=.append) (xs:=#[.tmp 42,.tmp 46]) rfl ?_);(try (refine jC (by rfl) ?_;dsimp only));at_builtin;refine Kd.uj (Kd.slice 2 (Kd.int .i64)) w.heap.size rfl (.tmp 42) (.tmp 46) 22 28 (.slice none 0 0) 24 rfl Try.underlying22 qX rfl (by decide) (by omega) u106001 kL nD [.slice vE nD.length vZ] (fun _=>True) (fun k_=>some k_=(.slice vE nD.length vZ:Value).ownBlock) rfl rfl ?aP (fun k_ bZ=>((Kd.aoY (ok':=fun k_=>((fun _=>True)) k_∧some k_ ≠ (u106001:Value).ownBlock) (Kd.iU (sV.z) (Kd.iE cl.z) (by decide)) (fun k_ hk=>⟨trivial,hk.2⟩))).1 k_ bZ.symm) ?aF ?aO (Below.refl _ _) ?aS ?aL ?_;(case aP=>exact Kd.apB (Kd.aoY (Kd.mh rfl (Kd.aoY (ok':=fun k_=>((fun _=>True)) k_∧some k_ ≠ (u106001:Value).ownBlock) (Kd.iU (sV.z) (Kd.iE cl.z) (by decide)) (fun k_ hk=>⟨trivial,hk.2⟩))) (fun _ h_=>h_)));(case aF=>exact (fun _ _=>trivial));(case aO=>exact (by (with_reducible repeat (first|apply Kd.cM|apply Kd.cI|apply Kd.cr));exact Kd.bq cl.z (fun k_ hk=>⟨trivial,fun e_=>hk.2 e_⟩)));(case aS=>exact (dU (aK HK.z)));(case aL=>have:=Ju.out;omega);intro Ua xH ho hb hg ao1;rw [← DA.z] at ho;have aq:=k0 (fl (aB aa.z) hg (Kd.jz cl.z aa.z (by decide)));have au:=k0 (fl (aB bG.z) hg (Kd.jz cl.z bG.z (by decide)));have ax:=k0 (ag.grown (aoZ ai.z) hg (ag.AI ai.z cl.z (by decide)));have aA:=k0 (vW (by repeat (first|(with_reducible first|exact HB.z|apply a_|apply bf|apply aZ|refine aoO ?_ (ag.ge ai.z)|refine aoO ?_ aX.z|refine aoO ?_ iT.z)|exact HB.z)) HL.z hb);have aG:=k0 (aoR.trans (aK HK.z) (aoR.u_ hg g) (Kd.zJ cl.z));have aM:=k0 (ho);clear aa;clear bG;clear ai;clear HB;clear HK;clear cl;clear sV;have aa:=aq;have bG:=au;have ai:=ax;have HB:=aA;have HK:=aG;have aqw:=aM;clear aq au ax aA aG aM;clear ho hb hg ao1;obtain ⟨xZ,yp,D8⟩:=Kd.apc aqw.z;subst D8;have GH:=aQ bG;have GI:=aoT bG;have GS:=bF bG 0;have GU:=bF bG 1))
     go_roundg qi
     case measure=>have:=bx.z;have:=sR.out;omega
     case rel=>exact ⟨(wrap64 (iI+1)),(t113),(t114),(sL),(.slice xZ sL.length yp),rs,H',⟨by have:=bx.z;have:=sR.out;omega⟩,⟨aS (Kd.bq (gS 1 (.slice xZ sL.length yp) (tS aqw bG)) (fun _ hk=>trivial))⟩,⟨by (with_reducible repeat (first|refine aoU ?_ _|refine aJ ?_|refine aoQ ?_ _));refine bW ?_ mb.z _;exact bk⟩,⟨by (with_reducible repeat (first|refine aoU ?_ _|refine aJ ?_|refine aoQ ?_ _));refine bE (cs:=#[.int .i64 a1,u106001]) ?_ 1 _ rfl;exact bk⟩,⟨aoZ ai.z⟩,⟨aK HK.z⟩,⟨by repeat (first|(with_reducible first|exact HB.z|apply a_|apply bf|apply aZ|refine aoO ?_ (ag.ge ai.z)|refine aoO ?_ aX.z|refine aoO ?_ iT.z)|exact HB.z)⟩⟩
/-! ### F232: function 232 -/
def aqs.f  : Option (List ByteArray):=some (([(⟨#[112,111,105,110,116]⟩:ByteArray),(⟨#[101,100,103,101]⟩:ByteArray),(⟨#[108,111,111,112]⟩:ByteArray),(⟨#[98,111,117,113,117,101,116]⟩:ByteArray),(⟨#[116,104,101,116,97]⟩:ByteArray),(⟨#[100,117,109,98,98,101,108,108]⟩:ByteArray),(⟨#[116,114,105,97,110,103,108,101]⟩:ByteArray),(⟨#[115,113,117,97,114,101]⟩:ByteArray),(⟨#[112,101,110,116,97,103,111,110]⟩:ByteArray),(⟨#[115,116,97,114]⟩:ByteArray),(⟨#[100,105,97,109,111,110,100]⟩:ByteArray),(⟨#[116,101,116,114,97,104,101,100,114,111,110]⟩:ByteArray),(⟨#[112,114,105,115,109]⟩:ByteArray),(⟨#[104,111,117,115,101,115]⟩:ByteArray)]:List ByteArray))
theorem aqs.calls  (r : List ByteArray) (w : World) (h : aqs.f  = some r) :
  Calls Try.prog 232 #[] w fun e w'=>∃ eE:Value,e=.returned (eE)∧Kd.R Kd.string 9 w' w.heap.size (fun _=>True) eE r∧Below w.heap.size w w':=by
 have HB:=k0 (Below.refl w.heap.size w)
 have H:(some (([(⟨#[112,111,105,110,116]⟩:ByteArray),(⟨#[101,100,103,101]⟩:ByteArray),(⟨#[108,111,111,112]⟩:ByteArray),(⟨#[98,111,117,113,117,101,116]⟩:ByteArray),(⟨#[116,104,101,116,97]⟩:ByteArray),(⟨#[100,117,109,98,98,101,108,108]⟩:ByteArray),(⟨#[116,114,105,97,110,103,108,101]⟩:ByteArray),(⟨#[115,113,117,97,114,101]⟩:ByteArray),(⟨#[112,101,110,116,97,103,111,110]⟩:ByteArray),(⟨#[115,116,97,114]⟩:ByteArray),(⟨#[100,105,97,109,111,110,100]⟩:ByteArray),(⟨#[116,101,116,114,97,104,101,100,114,111,110]⟩:ByteArray),(⟨#[112,114,105,115,109]⟩:ByteArray),(⟨#[104,111,117,115,101,115]⟩:ByteArray)]:List ByteArray)))=some r:=h
 clear h
 obtain ⟨iJ,j7⟩:∃ y_:List ByteArray,y_=(([(⟨#[112,111,105,110,116]⟩:ByteArray),(⟨#[101,100,103,101]⟩:ByteArray),(⟨#[108,111,111,112]⟩:ByteArray),(⟨#[98,111,117,113,117,101,116]⟩:ByteArray),(⟨#[116,104,101,116,97]⟩:ByteArray),(⟨#[100,117,109,98,98,101,108,108]⟩:ByteArray),(⟨#[116,114,105,97,110,103,108,101]⟩:ByteArray),(⟨#[115,113,117,97,114,101]⟩:ByteArray),(⟨#[112,101,110,116,97,103,111,110]⟩:ByteArray),(⟨#[115,116,97,114]⟩:ByteArray),(⟨#[100,105,97,109,111,110,100]⟩:ByteArray),(⟨#[116,101,116,114,97,104,101,100,114,111,110]⟩:ByteArray),(⟨#[112,114,105,115,109]⟩:ByteArray),(⟨#[104,111,117,115,101,115]⟩:ByteArray)]:List ByteArray)):=⟨_,rfl⟩
 replace H:(some iJ)=some r:=rH j7 H
 have jX:=k0 j7
 clear j7
 obtain rfl:=Option.some.inj H
 go_enter Try.func232,Try.ntmps232
 go_wp2_with (first|((with_reducible refine bp (N:=1) rfl ?_);refine Kd.jr Kd.string _ 9 ?hg (N:=1) ?hd (xs:=([(⟨#[112,111,105,110,116]⟩:ByteArray),(⟨#[101,100,103,101]⟩:ByteArray),(⟨#[108,111,111,112]⟩:ByteArray),(⟨#[98,111,117,113,117,101,116]⟩:ByteArray),(⟨#[116,104,101,116,97]⟩:ByteArray),(⟨#[100,117,109,98,98,101,108,108]⟩:ByteArray),(⟨#[116,114,105,97,110,103,108,101]⟩:ByteArray),(⟨#[115,113,117,97,114,101]⟩:ByteArray),(⟨#[112,101,110,116,97,103,111,110]⟩:ByteArray),(⟨#[115,116,97,114]⟩:ByteArray),(⟨#[100,105,97,109,111,110,100]⟩:ByteArray),(⟨#[116,101,116,114,97,104,101,100,114,111,110]⟩:ByteArray),(⟨#[112,114,105,115,109]⟩:ByteArray),(⟨#[104,111,117,115,101,115]⟩:ByteArray)]:List ByteArray)) (inner:=[.string (⟨#[112,111,105,110,116]⟩:ByteArray),.string (⟨#[101,100,103,101]⟩:ByteArray),.string (⟨#[108,111,111,112]⟩:ByteArray),.string (⟨#[98,111,117,113,117,101,116]⟩:ByteArray),.string (⟨#[116,104,101,116,97]⟩:ByteArray),.string (⟨#[100,117,109,98,98,101,108,108]⟩:ByteArray),.string (⟨#[116,114,105,97,110,103,108,101]⟩:ByteArray),.string (⟨#[115,113,117,97,114,101]⟩:ByteArray),.string (⟨#[112,101,110,116,97,103,111,110]⟩:ByteArray),.string (⟨#[115,116,97,114]⟩:ByteArray),.string (⟨#[100,105,97,109,111,110,100]⟩:ByteArray),.string (⟨#[116,101,116,114,97,104,101,100,114,111,110]⟩:ByteArray),.string (⟨#[112,114,105,115,109]⟩:ByteArray),.string (⟨#[104,111,117,115,101,115]⟩:ByteArray)]) (ok:=fun _=>True) (b_:=fun _=>True) ?hr ?hp (fun _ hk=>hk) trivial (Below.refl _ _) (Nat.le_refl _) (by simp) ?_;(case hd=>rfl);(case hg=>rfl);(case hr=>first|(go_simp;done)|(go_simp;rfl));(case hp=>exact (bh.one (show Kd.M Kd.string _ _ _ (⟨#[112,111,105,110,116]⟩:ByteArray) [.string (⟨#[112,111,105,110,116]⟩:ByteArray)] from rfl) (bh.one (show Kd.M Kd.string _ _ _ (⟨#[101,100,103,101]⟩:ByteArray) [.string (⟨#[101,100,103,101]⟩:ByteArray)] from rfl) (bh.one (show Kd.M Kd.string _ _ _ (⟨#[108,111,111,112]⟩:ByteArray) [.string (⟨#[108,111,111,112]⟩:ByteArray)] from rfl) (bh.one (show Kd.M Kd.string _ _ _ (⟨#[98,111,117,113,117,101,116]⟩:ByteArray) [.string (⟨#[98,111,117,113,117,101,116]⟩:ByteArray)] from rfl) (bh.one (show Kd.M Kd.string _ _ _ (⟨#[116,104,101,116,97]⟩:ByteArray) [.string (⟨#[116,104,101,116,97]⟩:ByteArray)] from rfl) (bh.one (show Kd.M Kd.string _ _ _ (⟨#[100,117,109,98,98,101,108,108]⟩:ByteArray) [.string (⟨#[100,117,109,98,98,101,108,108]⟩:ByteArray)] from rfl) (bh.one (show Kd.M Kd.string _ _ _ (⟨#[116,114,105,97,110,103,108,101]⟩:ByteArray) [.string (⟨#[116,114,105,97,110,103,108,101]⟩:ByteArray)] from rfl) (bh.one (show Kd.M Kd.string _ _ _ (⟨#[115,113,117,97,114,101]⟩:ByteArray) [.string (⟨#[115,113,117,97,114,101]⟩:ByteArray)] from rfl) (bh.one (show Kd.M Kd.string _ _ _ (⟨#[112,101,110,116,97,103,111,110]⟩:ByteArray) [.string (⟨#[112,101,110,116,97,103,111,110]⟩:ByteArray)] from rfl) (bh.one (show Kd.M Kd.string _ _ _ (⟨#[115,116,97,114]⟩:ByteArray) [.string (⟨#[115,116,97,114]⟩:ByteArray)] from rfl) (bh.one (show Kd.M Kd.string _ _ _ (⟨#[100,105,97,109,111,110,100]⟩:ByteArray) [.string (⟨#[100,105,97,109,111,110,100]⟩:ByteArray)] from rfl) (bh.one (show Kd.M Kd.string _ _ _ (⟨#[116,101,116,114,97,104,101,100,114,111,110]⟩:ByteArray) [.string (⟨#[116,101,116,114,97,104,101,100,114,111,110]⟩:ByteArray)] from rfl) (bh.one (show Kd.M Kd.string _ _ _ (⟨#[112,114,105,115,109]⟩:ByteArray) [.string (⟨#[112,114,105,115,109]⟩:ByteArray)] from rfl) (bh.one (show Kd.M Kd.string _ _ _ (⟨#[104,111,117,115,101,115]⟩:ByteArray) [.string (⟨#[104,111,117,115,101,115]⟩:ByteArray)] from rfl) (bh.none _ _))))))))))))))));intro o5 w1 Am hb cJ cK;clear cJ cK;(first|rw [← jX.z] at Am|(simp only [Int.reduceToNat] at Am;rw [← jX.z] at Am));have eJ:=k0 (Kd.cU Am (aoS bl));replace HB:=k0 (aH bl hb);clear hb Am))
 go_ret
 exact ⟨_,eR,by (with_reducible repeat (first|apply Kd.dK|apply Kd.dD|apply Kd.cB));exact eJ.z,bl⟩
/-! ### F172: function 172 -/
def jm.f (a0:Int) (a1:Int) (a2:Int):Option (Bool):=if a0 ≥ a1 then (some (decide (a0≤a2))) else (some false)
theorem jm.calls (a0 : Int) (a1 : Int) (a2 : Int) (r : Bool) (w : World) (h : jm.f a0 a1 a2 = some r) :
  Calls Try.prog 172 #[.int .i64 a0,.int .i64 a1,.int .i64 a2] w fun e w'=>e=.returned (.bool r)∧iR w w':=by
 have H:(if a0 ≥ a1 then (some (decide (a0≤a2))) else (some false))=some r:=h
 clear h
 by_cases c4:a0 ≥ a1
 case neg =>
  rw [if_neg c4] at H
  have fX:decide (a1≤a0)=false:=decide_eq_false c4
  clear c4
  obtain rfl:=Option.some.inj H
  go_enter Try.func172,Try.ntmps172
  go_wp2
  go_ret
  exact ⟨rs,dW⟩
 rw [if_pos c4] at H
 have fX:=decide_eq_true c4
 clear c4
 obtain rfl:=Option.some.inj H
 go_enter Try.func172,Try.ntmps172
 go_wp2
 go_ret
 exact ⟨rs,dW⟩
end Go.Proofs.Ytoebojnhchocaaa.E
/- Set with little white space, by a program. -/
