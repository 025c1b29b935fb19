/- The functions that one law reaches, each as a Lean function, and that Go's call comes to what it says. Condition of each: that the Lean function answers (is not none). -/
import Derived.Test.YtoebojnhchocaaaGx0
import Derived.Test.YtoebojnhchocaaaGx1
namespace Go.Proofs.Ytoebojnhchocaaa.G
open Go.RowKit Go.Proofs.cx.fq Go.Proofs.cx.jX Go.Proofs.cx.lu
attribute [local go_sem] max2_int min2_int max_two min_two max_three min_three max_four min_four   -- for this text's walks alone
set_option linter.unusedVariables false
set_option linter.unusedSimpArgs false
set_option maxHeartbeats 8000000
set_option maxRecDepth 100000
/-! ### F113: function 113 -/
mutual
def bV.l0 : Nat → Int → Int → Bool → Int → List Int → Int → Int → Int → List (List Int) → Option (Int × (List (List Int)) × Int × Int)
 | 0,_,_,_,_,_,_,_,_,_=>none
 | k+1,x1,x2,x8,x9,lK,pQ,pR,pS,lM=>if x9 < x1 then (if x8=true then (bV.j1 k x1 x2 x8 x9 (decide ((lM.length:Int) < x2)) lK pQ pR pS lM) else (bV.j1 k x1 x2 x8 x9 false lK pQ pR pS lM)) else (bV.j1 k x1 x2 x8 x9 false lK pQ pR pS lM)
def bV.j1 : Nat → Int → Int → Bool → Int → Bool → List Int → Int → Int → Int → List (List Int) → Option (Int × (List (List Int)) × Int × Int)
 | 0,_,_,_,_,_,_,_,_,_,_=>none
 | k+1,x1,x2,x8,x9,x32,lK,pQ,pR,pS,lM=>if x32=true then ((dn.f lK pQ pR x9).bind fun ko=>((dn.f lK ko.2.1 ko.2.2 2).bind fun fD=>(if fD.1=0 then (if lM.length < 5864062014805 then (bV.l0 k x1 x2 x8 (wrap64 (x9+1)) lK fD.2.1 fD.2.2 pS (lM ++ [(([x9,ko.1]:List Int))])) else (none)) else (if lM.length < 5864062014805 then (bV.l0 k x1 x2 x8 (wrap64 (x9+1)) lK fD.2.1 fD.2.2 pS (lM ++ [(([ko.1,x9]:List Int))])) else (none))))) else ((dn.f lK pQ pR (wrap64 (x2+1))).bind fun xB=>(bV.l1 k x1 x2 xB.1 lK xB.2.1 xB.2.2 pS lM))
def bV.l1 : Nat → Int → Int → Int → List Int → Int → Int → Int → List (List Int) → Option (Int × (List (List Int)) × Int × Int)
 | 0,_,_,_,_,_,_,_,_=>none
 | k+1,x1,x2,gM,lK,pQ,pR,pS,lM=>if gM > 0 then (bV.j3 k x1 x2 gM (decide ((lM.length:Int) < x2)) lK pQ pR pS lM) else (bV.j3 k x1 x2 gM false lK pQ pR pS lM)
def bV.j3 : Nat → Int → Int → Int → Bool → List Int → Int → Int → Int → List (List Int) → Option (Int × (List (List Int)) × Int × Int)
 | 0,_,_,_,_,_,_,_,_,_=>none
 | k+1,x1,x2,gM,x69,lK,pQ,pR,pS,lM=>if x69=true then ((dn.f lK pQ pR x1).bind fun eg=>((dn.f lK eg.2.1 eg.2.2 x1).bind fun an0=>(if eg.1=an0.1 then ((dn.f lK an0.2.1 an0.2.2 3).bind fun kX=>(if kX.1 > 0 then (if x1=0 then (none) else (if lM.length < 5864062014805 then (bV.l1 k x1 x2 (wrap64 (gM - 1)) lK kX.2.1 kX.2.2 pS (lM ++ [(([eg.1,Int.tmod (wrap64 (eg.1+1)) x1]:List Int))])) else (none))) else (if lM.length < 5864062014805 then (bV.l1 k x1 x2 (wrap64 (gM - 1)) lK kX.2.1 kX.2.2 pS (lM ++ [(([eg.1,an0.1]:List Int))])) else (none)))) else (if lM.length < 5864062014805 then (bV.l1 k x1 x2 (wrap64 (gM - 1)) lK an0.2.1 an0.2.2 pS (lM ++ [(([eg.1,an0.1]:List Int))])) else (none))))) else (some (pS,lM,pQ,pR))
end
def bV.f (k:Nat) (anK:List Int) (cD:Int) (cI:Int) (a1:Int) (a2:Int):Option (Int × (List (List Int)) × Int × Int):=(dn.f anK cD cI 3).bind fun an3=>(bV.l0 k a1 a2 (decide (an3.1 > 0)) 1 anK an3.2.1 an3.2.2 a1 (([]:List (List Int))))
theorem bV.cC : ∀ k, (∀ y0 y1 y2 y3 y4 y5 y6 y7 y8, ag (bV.l0 k y0 y1 y2 y3 y4 y5 y6 y7 y8) (bV.l0 (k + 1) y0 y1 y2 y3 y4 y5 y6 y7 y8)) ∧ (∀ y0 y1 y2 y3 y4 y5 y6 y7 y8 y9, ag (bV.j1 k y0 y1 y2 y3 y4 y5 y6 y7 y8 y9) (bV.j1 (k + 1) y0 y1 y2 y3 y4 y5 y6 y7 y8 y9)) ∧ (∀ y0 y1 y2 y3 y4 y5 y6 y7, ag (bV.l1 k y0 y1 y2 y3 y4 y5 y6 y7) (bV.l1 (k + 1) y0 y1 y2 y3 y4 y5 y6 y7)) ∧ (∀ y0 y1 y2 y3 y4 y5 y6 y7 y8, ag (bV.j3 k y0 y1 y2 y3 y4 y5 y6 y7 y8) (bV.j3 (k + 1) y0 y1 y2 y3 y4 y5 y6 y7 y8))
 | 0=>⟨fun _ _ _ _ _ _ _ _ _ r h=>by simp [bV.l0] at h,fun _ _ _ _ _ _ _ _ _ _ r h=>by simp [bV.j1] at h,fun _ _ _ _ _ _ _ _ r h=>by simp [bV.l1] at h,fun _ _ _ _ _ _ _ _ _ r h=>by simp [bV.j3] at h⟩
 | k+1=>by
  obtain ⟨a_,ih1,ih2,ih3⟩:=bV.cC k
  refine ⟨?_, ?_, ?_, ?_⟩ <;> intros <;> (first | unfold bV.l0 | unfold bV.j1 | unfold bV.l1 | unfold bV.j3) <;> repeat' first
   | (with_reducible first|exact a_ _ _ _ _ _ _ _ _ _|exact ih1 _ _ _ _ _ _ _ _ _ _|exact ih2 _ _ _ _ _ _ _ _|exact ih3 _ _ _ _ _ _ _ _ _|exact ag.refl _|exact ag.none _|refine ag.ite ?_ ?_|refine ag.bind ?_ (fun _=>?_))
   | exact a_ _ _ _ _ _ _ _ _ _|exact ih1 _ _ _ _ _ _ _ _ _ _|exact ih2 _ _ _ _ _ _ _ _|exact ih3 _ _ _ _ _ _ _ _ _|exact ag.none _|refine ag.ite ?_ ?_|refine ag.bind ?_ (fun _=>?_)
theorem bV.mono:∀ a0 a1 a2 a3 a4 k,ag (bV.f k a0 a1 a2 a3 a4) (bV.f (k+1) a0 a1 a2 a3 a4):=by
 intro a0 a1 a2 a3 a4 k
 obtain ⟨a_,ih1,ih2,ih3⟩:=bV.cC k
 unfold bV.f
 repeat' first
  | (with_reducible first|exact a_ _ _ _ _ _ _ _ _ _|exact ih1 _ _ _ _ _ _ _ _ _ _|exact ih2 _ _ _ _ _ _ _ _|exact ih3 _ _ _ _ _ _ _ _ _|exact ag.refl _|exact ag.none _|refine ag.ite ?_ ?_|refine ag.bind ?_ (fun _=>?_))
  | exact a_ _ _ _ _ _ _ _ _ _|exact ih1 _ _ _ _ _ _ _ _ _ _|exact ih2 _ _ _ _ _ _ _ _|exact ih3 _ _ _ _ _ _ _ _ _|exact ag.none _|refine ag.ite ?_ ?_|refine ag.bind ?_ (fun _=>?_)
theorem bV.calls (k : Nat) (g : Nat) (anK : List Int) (cD : Int) (cI : Int) (a1 : Int) (a2 : Int) (r1 : Int) (r2 : List (List Int)) (r3 : Int) (r4 : Int) (w0 w : World) (hI : af w0 w g anK cD cI) (hB : Below w0.heap.size w0 w) (h : bV.f k anK cD cI a1 a2 = some (r1, r2, r3, r4)) :
  Calls Try.prog 113 #[.pointer (some ⟨g,0,none⟩),.int .i64 a1,.int .i64 a2] w fun e w'=>∃ iw:Value,e=.returned (.agg #[.int .i64 r1,iw])∧Kd.S (Kd.slice 2 (Kd.int .i64)) 28 w' w.heap.size (fun _=>True) iw r2∧af w0 w' g anK r3 r4∧Below w0.heap.size w0 w'∧aM w w' g none:=by
 have jS:=Try.underlying31
 have aj:=k0 hI
 have HK:=k0 (aM.refl w g none)
 have HL:=k0 hB.size
 clear hI
 have ki:=k0 hB.size
 have HB:=k0 hB
 clear hB
 have H:((dn.f anK cD cI 3).bind fun an3=>(bV.l0 k a1 a2 (decide (an3.1 > 0)) 1 anK an3.2.1 an3.2.2 a1 (([]:List (List Int)))))=some (r1,r2,r3,r4):=h
 clear h
 obtain ⟨kA,mV⟩:∃ y_:List (List Int),y_=(([]:List (List Int))):=⟨_,rfl⟩
 replace H:((dn.f anK cD cI 3).bind fun an3=>(bV.l0 k a1 a2 (decide (an3.1 > 0)) 1 anK an3.2.1 an3.2.2 a1 kA))=some (r1,r2,r3,r4):=rH mV H
 have aoI:=k0 mV
 clear mV
 replace H:=Option.bind_eq_some_iff.mp H
 obtain ⟨⟨t106,t107,t108⟩,jt,H⟩:=H
 replace H:(bV.l0 k a1 a2 (decide (t106 > 0)) 1 anK t107 t108 a1 kA)=some (r1,r2,r3,r4):=H
 have A4:=k0 jt
 clear jt
 have H':=k0 H
 clear H
 go_enter Try.func113,Try.ntmps113
 go_wp2_with (first|((with_reducible refine bN (N:=6) rfl ?_);(try (refine fV (by rfl) ?_;dsimp only));refine cE 6 #[.int .i64 0,.slice none 0 0] 31 ?_;intro aW hg w5 aG hb;replace HB:=k0 (anH (by repeat (first|(with_reducible first|exact HB.z|apply bn|apply bq|apply anS|refine az ?_ (af.ge aj.z))|exact HB.z)) hb);have aa:=k0 (aG);have cu:=gW hg (ew (aK HK.z));have anQ:=k0 (Nat.le_trans ki.z cu.z);replace HK:=k0 (aM.trans (aK HK.z) (aM.gy hb g none) (.inl rfl));have eV:=k0 ((by rw [hg];exact Nat.ne_of_lt (af.lt (show af w0 _ g anK cD cI from bB aj.z)):g ≠ aW));have eW:=k0 ((by rw [hg];exact Nat.ne_of_gt (af.lt (show af w0 _ g anK cD cI from bB aj.z)):aW ≠ g));replace aj:=k0 (af.below (bB aj.z) hb);clear hb aG hg)|((with_reducible refine bN (N:=15) rfl ?_);(try (refine fV (by rfl) ?_;dsimp only));refine Kd.z_ (Kd.slice 2 (Kd.int .i64)) _ 28 ?hg (N:=15) ?hd (xs:=([]:List (List Int))) (inner:=[]) (ok:=fun _=>True) (anX:=fun _=>True) ?hr ?hp (fun _ hk=>hk) trivial (Below.refl _ _) (Nat.le_refl _) (by simp) ?_;(case hd=>rfl);(case hg=>rfl);(case hr=>first|(go_simp;done)|(go_simp;rfl));(case hp=>exact (bu.none _ _));intro iF w6 mz hb c_ dc;clear c_ dc;(first|rw [← aoI.z] at mz|(simp only [Int.reduceToNat] at mz;rw [← aoI.z] at mz));have eP:=k0 (Kd.gD mz (ew (aK HK.z)));replace aa:=kB aa hb;replace HK:=k0 (aM.trans (aK HK.z) (aM.gy hb g none) (.inl rfl));replace HB:=k0 (anH (by repeat (first|(with_reducible first|exact HB.z|apply bn|apply bq|apply anS|refine az ?_ (af.ge aj.z)|refine az ?_ anQ.z)|exact HB.z)) hb);replace aj:=k0 (af.below (bB aj.z) hb);clear hb mz;obtain ⟨vD,wh,Cs⟩:=Kd.eH eP.z;subst Cs)|((with_reducible refine bN (N:=7) rfl ?_);(try (refine fV (by rfl) ?_;dsimp only));refine cE 7 #[.int .i64 0,.slice none 0 0] 31 ?_;intro xP hg w9 aG hb;replace eP:=k0 (Kd.kn (aS eP.z) hb);replace HB:=k0 (anH (by repeat (first|(with_reducible first|exact HB.z|apply bn|apply bq|apply anS|refine az ?_ (af.ge aj.z)|refine az ?_ anQ.z)|exact HB.z)) hb);have bE:=k0 (aG);have U3:=gW hg (ew (aK HK.z));have gK:=k0 (Nat.le_trans ki.z U3.z);replace HK:=k0 (aM.trans (aK HK.z) (aM.gy hb g none) (.inl rfl));have hU:=nL hg aa;have jR:=nG hU;replace aa:=kB aa hb;have kU:=k0 ((by rw [hg];exact Nat.ne_of_lt (af.lt (show af w0 _ g anK cD cI from bB aj.z)):g ≠ xP));have kV:=k0 ((by rw [hg];exact Nat.ne_of_gt (af.lt (show af w0 _ g anK cD cI from bB aj.z)):xP ≠ g));replace aj:=k0 (af.below (bB aj.z) hb);clear hb aG hg;have JZ:=jR.z;have J3:=hU.z;have abS:=kV.z;have ab5:=kU.z;have aaH:=aX bE;have aaI:=aY bE;have abj:=bF bE 0;have abk:=bF bE 1)|((with_reducible refine bS (f:=112) rfl ?_);refine gC (some 18) Try.func112 #[.pointer (some ⟨g,0,none⟩),.int .i64 3] ?_;(with_reducible refine (dn.calls g anK cD cI 3 t106 t107 t108 w0 _ ?aA ?anD A4.z).mono ?_);(case aA=>repeat (first|(with_reducible first|exact aj.z|apply af.alloc|apply af.drewN|apply af.drew|apply af.gq|apply af.gu|refine af.dM ?_ eV.z _|refine af.dM ?_ kU.z _)|exact aj.z));(case anD=>repeat (first|(with_reducible first|exact HB.z|apply bn|apply bq|apply anS|refine az ?_ (af.ge aj.z)|refine az ?_ anQ.z|refine az ?_ gK.z)|exact HB.z));rintro e wP ⟨rfl,hi,hb,hk⟩;refine ⟨_,rfl,?_⟩;replace aa:=k0 (aM.blk hk (g':=aW) (o:=.cells #[.int .i64 0,.slice none 0 0] 31 (0,0)) (by (with_reducible repeat (first|refine anF ?_ _|refine aH ?_|refine aI ?_ _));refine anU ?_ hU.z _;(with_reducible repeat (first|refine anF ?_ _|refine aH ?_|refine aI ?_ _));refine anU ?_ hU.z _;exact bk) eW.z (by simp));replace eP:=k0 (Kd.anW (Kd.aoH (af.nW (show af w0 _ g anK cD cI from bB aj.z) (by (with_reducible repeat (first|apply Kd.di|apply Kd.dm|apply Kd.cS));exact (Kd.anW (gS 1 (.slice vD kA.length wh) (gS 0 (.int .i64 a1) (tS eP bE))) (fun _ h_=>h_.1))) (by decide)) hk (fun _ h=>h.2)) (fun _ h=>h.1));replace bE:=k0 (aM.blk hk (g':=xP) (o:=sO a1 vD kA wh 31) (by (with_reducible repeat (first|refine anF ?_ _|refine aH ?_|refine aI ?_ _));refine anV (cs:=#[.int .i64 a1,.slice none 0 0]) ?_ 1 _ rfl;(with_reducible repeat (first|refine anF ?_ _|refine aH ?_|refine aI ?_ _));refine anV (cs:=#[.int .i64 0,.slice none 0 0]) ?_ 0 _ rfl;exact bk) kV.z (by simp));replace HK:=k0 (aM.trans (aK HK.z) hk (.inl rfl));replace HB:=k0 (hb);replace aj:=k0 (hi);))
 go_loopg [9] k (fun kq v9 w'=>∃ (an9:Int) (qO:Int) (qQ:Int) (jF:List (List Int)) (u106001:Value),v9=.int .i64 an9∧ak (bV.l0 kq a1 a2 (decide (t106 > 0)) an9 anK qO qQ a1 jF=some (r1,r2,r3,r4))∧ak (kq≤k)∧ak (Kd.S (Kd.slice 2 (Kd.int .i64)) 28 w' w.heap.size (fun _=>True) u106001 jF)∧ak (w'.heap[aW]?=some (.cells #[.int .i64 0,(.slice none 0 0)] 31 (0,0)))∧ak (w'.heap[xP]?=some (.cells #[.int .i64 a1,u106001] 31 (0,0)))∧ak (af w0 w' g anK qO qQ)∧ak (aM w w' g none)∧ak (Below w0.heap.size w0 w'))
 case atStart=>exact ⟨(1),(t107),(t108),(kA),(.slice vD kA.length wh),rs,H',⟨Nat.le_refl _⟩,⟨aS (eP.z)⟩,⟨bk⟩,⟨bk⟩,⟨bB aj.z⟩,⟨aK HK.z⟩,⟨by repeat (first|(with_reducible first|exact HB.z|apply bn|apply bq|apply anS|refine az ?_ (af.ge aj.z)|refine az ?_ anQ.z|refine az ?_ gK.z)|exact HB.z)⟩⟩
 case round =>
  clear H'
  obtain ⟨an9,qO,qQ,jF,u106001,rfl,HA,bH,cl,aa,bE,aj,HK,HB⟩:=hrel
  cases gk with
  | zero=>exact absurd HA.z (by simp [bV.l0])
  | succ k1 =>
   have H:=HA.z
   clear HA
   simp only [bV.l0] at H
   have G4:=k0 H
   clear H
   go_upto_region 4 with (fail)
   go_cut [32] (fun v32 wc=>∃ (kq:Nat) (Gy:Bool),v32=.bool Gy∧ak (bV.j1 kq a1 a2 (decide (t106 > 0)) an9 Gy anK qO qQ a1 jF=some (r1,r2,r3,r4))∧ak (kq≤k1)∧ak (Kd.S (Kd.slice 2 (Kd.int .i64)) 28 wc w.heap.size (fun _=>True) u106001 jF)∧ak (wc.heap[aW]?=some (.cells #[.int .i64 0,(.slice none 0 0)] 31 (0,0)))∧ak (wc.heap[xP]?=some (.cells #[.int .i64 a1,u106001] 31 (0,0)))∧ak (af w0 wc g anK qO qQ)∧ak (aM w wc g none)∧ak (Below w0.heap.size w0 wc))
   case first =>
    have H:=G4.z
    clear G4
    by_cases c15:an9 < a1
    case neg =>
     rw [if_neg c15] at H
     have lD:decide (an9 < a1)=false:=decide_eq_false c15
     clear c15
     (first|rw [lD]|(simp only [dX,eZ];rw [lD])|skip)
     have H':=k0 H
     clear H
     go_wp2
     go_meet
     case rel=>exact ⟨_,(false),rs,H',⟨by have:=bH.z;first|omega|exact Nat.le_refl _⟩,⟨aS (cl.z)⟩,⟨bk⟩,⟨bk⟩,⟨bB aj.z⟩,⟨aK HK.z⟩,⟨by repeat (first|(with_reducible first|exact HB.z|apply bn|apply bq|apply anS|refine az ?_ (af.ge aj.z)|refine az ?_ anQ.z|refine az ?_ gK.z)|exact HB.z)⟩⟩
    rw [if_pos c15] at H
    have lD:=decide_eq_true c15
    clear c15
    (first|rw [lD]|(simp only [dX,eZ];rw [lD])|skip)
    by_cases c16:(decide (t106 > 0))=true
    case neg =>
     rw [if_neg c16] at H
     have Iw:(decide (t106 > 0))=false:=by simpa using c16
     clear c16
     have H':=k0 H
     clear H
     go_wp2
     go_meet
     case rel=>exact ⟨_,(false),rs,H',⟨by have:=bH.z;first|omega|exact Nat.le_refl _⟩,⟨aS (cl.z)⟩,⟨bk⟩,⟨bk⟩,⟨bB aj.z⟩,⟨aK HK.z⟩,⟨by repeat (first|(with_reducible first|exact HB.z|apply bn|apply bq|apply anS|refine az ?_ (af.ge aj.z)|refine az ?_ anQ.z|refine az ?_ gK.z)|exact HB.z)⟩⟩
    rw [if_pos c16] at H
    have Iw:(decide (t106 > 0))=true:=c16
    clear c16
    have H':=k0 H
    clear H
    have Fu:=jR.z
    have Fv:=hU.z
    have J0:=kV.z
    have J4:=kU.z
    have CL:=aX bE
    have CM:=aY bE
    have CT:=bF bE 0
    have CU:=bF bE 1
    obtain ⟨oP,nC,pg⟩:=Kd.eH cl.z
    subst pg
    go_wp2
    go_meet
    case rel=>exact ⟨_,(decide ((jF.length:Int) < a2)),rs,H',⟨by have:=bH.z;first|omega|exact Nat.le_refl _⟩,⟨aS (cl.z)⟩,⟨bk⟩,⟨bk⟩,⟨bB aj.z⟩,⟨aK HK.z⟩,⟨by repeat (first|(with_reducible first|exact HB.z|apply bn|apply bq|apply anS|refine az ?_ (af.ge aj.z)|refine az ?_ anQ.z|refine az ?_ gK.z)|exact HB.z)⟩⟩
   case rest =>
    clear G4
    obtain ⟨kq,Gy,rfl,HA,aoM,cl,aa,bE,aj,HK,HB⟩:=hcut
    cases kq with
    | zero=>exact absurd HA.z (by simp [bV.j1])
    | succ oJ =>
     have H:=HA.z
     clear HA
     simp only [bV.j1] at H
     by_cases c21:Gy=true
     case neg =>
      replace c21:=Bool.eq_false_iff.mpr c21
      subst c21
      have H1:((dn.f anK qO qQ (wrap64 (a2+1))).bind fun xB=>(bV.l1 oJ a1 a2 xB.1 anK xB.2.1 xB.2.2 a1 jF))=some (r1,r2,r3,r4):=by rw [if_neg (show ¬ (false=true) by decide)] at H;exact H
      clear H
      have H:=H1
      clear H1
      replace H:=Option.bind_eq_some_iff.mp H
      obtain ⟨⟨t127,t128,t129⟩,Mr,H⟩:=H
      replace H:(bV.l1 oJ a1 a2 t127 anK t128 t129 a1 jF)=some (r1,r2,r3,r4):=H
      have Up:=k0 Mr
      clear Mr
      have H':=k0 H
      clear H
      go_wp2_with (first|((with_reducible refine bS (f:=112) rfl ?_);refine gC (some 60) Try.func112 #[.pointer (some ⟨g,0,none⟩),.int .i64 (wrap64 (a2+1))] ?_;(with_reducible refine (dn.calls g anK qO qQ (wrap64 (a2+1)) t127 t128 t129 w0 _ ?aA ?anD Up.z).mono ?_);(case aA=>repeat (first|(with_reducible first|exact aj.z|apply af.alloc|apply af.drewN|apply af.drew|apply af.gq|apply af.gu|refine af.dM ?_ eV.z _|refine af.dM ?_ kU.z _)|exact aj.z));(case anD=>repeat (first|(with_reducible first|exact HB.z|apply bn|apply bq|apply anS|refine az ?_ (af.ge aj.z)|refine az ?_ anQ.z|refine az ?_ gK.z)|exact HB.z));rintro e w50 ⟨rfl,hi,hb,hk⟩;refine ⟨_,rfl,?_⟩;have av:=k0 (Kd.anW (Kd.aoH (af.nW (show af w0 _ g anK qO qQ from bB aj.z) (aS cl.z) (by decide)) hk (fun _ h=>h.2)) (fun _ h=>h.1));have ax:=k0 (aM.blk hk (aB aa.z) eW.z (by simp));have ay:=k0 (aM.blk hk (aB bE.z) kV.z (by simp));have anC:=k0 (aM.trans (aK HK.z) hk (.inl rfl));have aD:=k0 (hb);have anE:=k0 (hi);clear cl;clear aa;clear bE;clear HK;clear HB;clear aj;have cl:=av;have aa:=ax;have bE:=ay;have HK:=anC;have HB:=aD;have aj:=anE;clear av ax ay anC aD anE;))
      go_loopg [11] oJ (fun kq v11 w'=>∃ (j9:Int) (qP:Int) (qR:Int) (fY:List (List Int)) (u106001:Value),v11=.int .i64 j9∧ak (bV.l1 kq a1 a2 j9 anK qP qR a1 fY=some (r1,r2,r3,r4))∧ak (kq≤oJ)∧ak (Kd.S (Kd.slice 2 (Kd.int .i64)) 28 w' w.heap.size (fun _=>True) u106001 fY)∧ak (w'.heap[aW]?=some (.cells #[.int .i64 0,(.slice none 0 0)] 31 (0,0)))∧ak (w'.heap[xP]?=some (.cells #[.int .i64 a1,u106001] 31 (0,0)))∧ak (af w0 w' g anK qP qR)∧ak (aM w w' g none)∧ak (Below w0.heap.size w0 w'))
      case atStart=>exact ⟨(t127),(t128),(t129),(jF),(u106001),rs,H',⟨Nat.le_refl _⟩,⟨aS (cl.z)⟩,⟨bk⟩,⟨bk⟩,⟨bB aj.z⟩,⟨aK HK.z⟩,⟨by repeat (first|(with_reducible first|exact HB.z|apply bn|apply bq|apply anS|refine az ?_ (af.ge aj.z)|refine az ?_ anQ.z|refine az ?_ gK.z)|exact HB.z)⟩⟩
      case round =>
       clear H'
       obtain ⟨j9,qP,qR,fY,u106001,rfl,HA,iK,cl,aa,bE,aj,HK,HB⟩:=hrel
       cases gk with
       | zero=>exact absurd HA.z (by simp [bV.l1])
       | succ k3 =>
        have H:=HA.z
        clear HA
        simp only [bV.l1] at H
        have G7:=k0 H
        clear H
        go_upto_region 11 with (fail)
        go_cut [69] (fun v69 wc=>∃ (kq:Nat) (GA:Bool),v69=.bool GA∧ak (bV.j3 kq a1 a2 j9 GA anK qP qR a1 fY=some (r1,r2,r3,r4))∧ak (kq≤k3)∧ak (Kd.S (Kd.slice 2 (Kd.int .i64)) 28 wc w.heap.size (fun _=>True) u106001 fY)∧ak (wc.heap[aW]?=some (.cells #[.int .i64 0,(.slice none 0 0)] 31 (0,0)))∧ak (wc.heap[xP]?=some (.cells #[.int .i64 a1,u106001] 31 (0,0)))∧ak (af w0 wc g anK qP qR)∧ak (aM w wc g none)∧ak (Below w0.heap.size w0 wc))
        case first =>
         have H:=G7.z
         clear G7
         by_cases c52:j9 > 0
         case neg =>
          rw [if_neg c52] at H
          have Aj:decide (0 < j9)=false:=decide_eq_false c52
          clear c52
          (first|rw [Aj]|(simp only [dX,eZ];rw [Aj])|skip)
          have H':=k0 H
          clear H
          go_wp2
          go_meet
          case rel=>exact ⟨_,(false),rs,H',⟨by have:=bH.z;have:=aoM.out;have:=iK.z;first|omega|exact Nat.le_refl _⟩,⟨aS (cl.z)⟩,⟨bk⟩,⟨bk⟩,⟨bB aj.z⟩,⟨aK HK.z⟩,⟨by repeat (first|(with_reducible first|exact HB.z|apply bn|apply bq|apply anS|refine az ?_ (af.ge aj.z)|refine az ?_ anQ.z|refine az ?_ gK.z)|exact HB.z)⟩⟩
         rw [if_pos c52] at H
         have Aj:=decide_eq_true c52
         clear c52
         (first|rw [Aj]|(simp only [dX,eZ];rw [Aj])|skip)
         have H':=k0 H
         clear H
         have alo:=jR.z
         have ami:=hU.z
         have alp:=kV.z
         have amj:=kU.z
         have aiR:=aX bE
         have aiS:=aY bE
         have akg:=bF bE 0
         have akh:=bF bE 1
         obtain ⟨Ut,YE,I4⟩:=Kd.eH cl.z
         subst I4
         go_wp2
         go_meet
         case rel=>exact ⟨_,(decide ((fY.length:Int) < a2)),rs,H',⟨by have:=bH.z;have:=aoM.out;have:=iK.z;first|omega|exact Nat.le_refl _⟩,⟨aS (cl.z)⟩,⟨bk⟩,⟨bk⟩,⟨bB aj.z⟩,⟨aK HK.z⟩,⟨by repeat (first|(with_reducible first|exact HB.z|apply bn|apply bq|apply anS|refine az ?_ (af.ge aj.z)|refine az ?_ anQ.z|refine az ?_ gK.z)|exact HB.z)⟩⟩
        case rest =>
         clear G7
         obtain ⟨kq,GA,rfl,HA,zO,cl,aa,bE,aj,HK,HB⟩:=hcut
         cases kq with
         | zero=>exact absurd HA.z (by simp [bV.j3])
         | succ mB =>
          have H:=HA.z
          clear HA
          simp only [bV.j3] at H
          by_cases c57:GA=true
          case neg =>
           replace c57:=Bool.eq_false_iff.mpr c57
           subst c57
           have H1:(some (a1,fY,qP,qR))=some (r1,r2,r3,r4):=by rw [if_neg (show ¬ (false=true) by decide)] at H;exact H
           clear H
           have H:=H1
           clear H1
           simp only [Option.some.injEq,Prod.mk.injEq] at H
           obtain ⟨rfl,rfl,rfl,rfl⟩:=H
           have abR:=jR.z
           have ab4:=hU.z
           have akV:=kV.z
           have alQ:=kU.z
           have ah2:=aX bE
           have ah3:=aY bE
           have ajs:=bF bE 0
           have ajt:=bF bE 1
           have Ro:=eW.z
           have RI:=eV.z
           have aaF:=aX aa
           have aaG:=aY aa
           have abh:=bF aa 0
           have abi:=bF aa 1
           obtain ⟨MC,OO,Y9⟩:=Kd.eH cl.z
           subst Y9
           go_wp2
           refine bodyPost_ret (results_cell_row rfl _ _ aW 31 #[.int .i64 a1,.slice MC fY.length OO] (0,0) _ rfl (by (with_reducible repeat (first|refine anF ?_ _|refine aH ?_|refine aI ?_ _));refine anV (cs:=#[.int .i64 a1,.slice none 0 0]) ?_ 1 _ rfl;(with_reducible repeat (first|refine anF ?_ _|refine aH ?_|refine aI ?_ _));refine anV (cs:=#[.int .i64 0,.slice none 0 0]) ?_ 0 _ rfl;exact bk) Try.underlying31 rfl (by kernel_rfl)) rfl ?_
           exact ⟨_,eR,by (with_reducible repeat (first|apply Kd.di|apply Kd.dm|apply Kd.cS));exact Kd.anW (gS 1 (.slice MC fY.length OO) (gS 0 (.int .i64 a1) (tS cl aa))) (fun _ hk=>trivial),bB aj.z,by repeat (first|(with_reducible first|exact HB.z|apply bn|apply bq|apply anS|refine az ?_ (af.ge aj.z)|refine az ?_ anQ.z|refine az ?_ gK.z)|exact HB.z),aK HK.z⟩
          subst c57
          have H1:((dn.f anK qP qR a1).bind fun eg=>((dn.f anK eg.2.1 eg.2.2 a1).bind fun an0=>(if eg.1=an0.1 then ((dn.f anK an0.2.1 an0.2.2 3).bind fun kX=>(if kX.1 > 0 then (if a1=0 then (none) else (if fY.length < 5864062014805 then (bV.l1 mB a1 a2 (wrap64 (j9 - 1)) anK kX.2.1 kX.2.2 a1 (fY ++ [(([eg.1,Int.tmod (wrap64 (eg.1+1)) a1]:List Int))])) else (none))) else (if fY.length < 5864062014805 then (bV.l1 mB a1 a2 (wrap64 (j9 - 1)) anK kX.2.1 kX.2.2 a1 (fY ++ [(([eg.1,an0.1]:List Int))])) else (none)))) else (if fY.length < 5864062014805 then (bV.l1 mB a1 a2 (wrap64 (j9 - 1)) anK an0.2.1 an0.2.2 a1 (fY ++ [(([eg.1,an0.1]:List Int))])) else (none)))))=some (r1,r2,r3,r4):=by rw [if_pos rfl] at H;exact H
          clear H
          have H:=H1
          clear H1
          replace H:=Option.bind_eq_some_iff.mp H
          obtain ⟨⟨t130,t131,t132⟩,Mt,H⟩:=H
          replace H:((dn.f anK t131 t132 a1).bind fun an0=>(if t130=an0.1 then ((dn.f anK an0.2.1 an0.2.2 3).bind fun kX=>(if kX.1 > 0 then (if a1=0 then (none) else (if fY.length < 5864062014805 then (bV.l1 mB a1 a2 (wrap64 (j9 - 1)) anK kX.2.1 kX.2.2 a1 (fY ++ [(([t130,Int.tmod (wrap64 (t130+1)) a1]:List Int))])) else (none))) else (if fY.length < 5864062014805 then (bV.l1 mB a1 a2 (wrap64 (j9 - 1)) anK kX.2.1 kX.2.2 a1 (fY ++ [(([t130,an0.1]:List Int))])) else (none)))) else (if fY.length < 5864062014805 then (bV.l1 mB a1 a2 (wrap64 (j9 - 1)) anK an0.2.1 an0.2.2 a1 (fY ++ [(([t130,an0.1]:List Int))])) else (none))))=some (r1,r2,r3,r4):=H
          have GQ:=k0 Mt
          clear Mt
          replace H:=Option.bind_eq_some_iff.mp H
          obtain ⟨⟨t133,t134,t135⟩,Mu,H⟩:=H
          replace H:(if t130=t133 then ((dn.f anK t134 t135 3).bind fun kX=>(if kX.1 > 0 then (if a1=0 then (none) else (if fY.length < 5864062014805 then (bV.l1 mB a1 a2 (wrap64 (j9 - 1)) anK kX.2.1 kX.2.2 a1 (fY ++ [(([t130,Int.tmod (wrap64 (t130+1)) a1]:List Int))])) else (none))) else (if fY.length < 5864062014805 then (bV.l1 mB a1 a2 (wrap64 (j9 - 1)) anK kX.2.1 kX.2.2 a1 (fY ++ [(([t130,t133]:List Int))])) else (none)))) else (if fY.length < 5864062014805 then (bV.l1 mB a1 a2 (wrap64 (j9 - 1)) anK t134 t135 a1 (fY ++ [(([t130,t133]:List Int))])) else (none)))=some (r1,r2,r3,r4):=H
          have GR:=k0 Mu
          clear Mu
          by_cases c60:t130=t133
          case neg =>
           rw [if_neg c60] at H
           have X4:(t130 == t133)=false:=beq_eq_false_iff_ne.mpr c60
           have X5:(t130 != t133)=true:=bne_iff_ne.mpr c60
           obtain ⟨Ed,Kz⟩:∃ y_:List Int,y_=(([t130,t133]:List Int)):=⟨_,rfl⟩
           replace H:(if fY.length < 5864062014805 then (bV.l1 mB a1 a2 (wrap64 (j9 - 1)) anK t134 t135 a1 (fY ++ [Ed])) else (none))=some (r1,r2,r3,r4):=rH Kz H
           have NZ:=k0 Kz
           clear Kz
           replace H:=iS H;obtain ⟨c90,H⟩:=H
           have HP:=k0 c90
           clear c90
           obtain ⟨GH,KA⟩:∃ y_:List (List Int),y_=(fY ++ [Ed]):=⟨_,rfl⟩
           replace H:(bV.l1 mB a1 a2 (wrap64 (j9 - 1)) anK t134 t135 a1 GH)=some (r1,r2,r3,r4):=rH KA H
           have Wj:=k0 KA
           clear KA
           have H':=k0 H
           clear H
           go_wp2_with (first|((with_reducible refine bS (f:=112) rfl ?_);refine gC (some 74) Try.func112 #[.pointer (some ⟨g,0,none⟩),.int .i64 a1] ?_;(with_reducible refine (dn.calls g anK qP qR a1 t130 t131 t132 w0 _ ?aA ?anD GQ.z).mono ?_);(case aA=>repeat (first|(with_reducible first|exact aj.z|apply af.alloc|apply af.drewN|apply af.drew|apply af.gq|apply af.gu|refine af.dM ?_ eV.z _|refine af.dM ?_ kU.z _)|exact aj.z));(case anD=>repeat (first|(with_reducible first|exact HB.z|apply bn|apply bq|apply anS|refine az ?_ (af.ge aj.z)|refine az ?_ anQ.z|refine az ?_ gK.z)|exact HB.z));rintro e w91 ⟨rfl,hi,hb,hk⟩;refine ⟨_,rfl,?_⟩;have av:=k0 (Kd.anW (Kd.aoH (af.nW (show af w0 _ g anK qP qR from bB aj.z) (aS cl.z) (by decide)) hk (fun _ h=>h.2)) (fun _ h=>h.1));have ax:=k0 (aM.blk hk (aB aa.z) eW.z (by simp));have ay:=k0 (aM.blk hk (aB bE.z) kV.z (by simp));have anC:=k0 (aM.trans (aK HK.z) hk (.inl rfl));have aD:=k0 (hb);have anE:=k0 (hi);clear cl;clear aa;clear bE;clear HK;clear HB;clear aj;have cl:=av;have aa:=ax;have bE:=ay;have HK:=anC;have HB:=aD;have aj:=anE;clear av ax ay anC aD anE;)|((with_reducible refine bS (f:=112) rfl ?_);refine gC (some 77) Try.func112 #[.pointer (some ⟨g,0,none⟩),.int .i64 a1] ?_;(with_reducible refine (dn.calls g anK t131 t132 a1 t133 t134 t135 w0 _ ?aA ?anD GR.z).mono ?_);(case aA=>repeat (first|(with_reducible first|exact aj.z|apply af.alloc|apply af.drewN|apply af.drew|apply af.gq|apply af.gu|refine af.dM ?_ eV.z _|refine af.dM ?_ kU.z _)|exact aj.z));(case anD=>repeat (first|(with_reducible first|exact HB.z|apply bn|apply bq|apply anS|refine az ?_ (af.ge aj.z)|refine az ?_ anQ.z|refine az ?_ gK.z)|exact HB.z));rintro e w92 ⟨rfl,hi,hb,hk⟩;refine ⟨_,rfl,?_⟩;have av:=k0 (Kd.anW (Kd.aoH (af.nW (show af w0 _ g anK t131 t132 from bB aj.z) (aS cl.z) (by decide)) hk (fun _ h=>h.2)) (fun _ h=>h.1));have ax:=k0 (aM.blk hk (aB aa.z) eW.z (by simp));have ay:=k0 (aM.blk hk (aB bE.z) kV.z (by simp));have anC:=k0 (aM.trans (aK HK.z) hk (.inl rfl));have aD:=k0 (hb);have anE:=k0 (hi);clear cl;clear aa;clear bE;clear HK;clear HB;clear aj;have cl:=av;have aa:=ax;have bE:=ay;have HK:=anC;have HB:=aD;have aj:=anE;clear av ax ay anC aD anE;have ab2:=jR.z;have acg:=hU.z;have ab3:=kV.z;have ach:=kU.z;have aa7:=aX bE;have aa8:=aY bE;have abL:=bF bE 0;have abM:=bF bE 1)|((with_reducible refine bN (N:=94) rfl ?_);(try (refine fV (by rfl) ?_;dsimp only));refine Kd.jd (Kd.int .i64) _ 2 ?hg (N:=94) ?hd (xs:=([t130,t133]:List Int)) (inner:=[.int .i64 t130,.int .i64 t133]) (ok:=fun _=>True) (anX:=fun _=>True) ?hr ?hp (fun _ hk=>hk) trivial (Below.refl _ _) (Nat.le_refl _) (by simp) ?_;(case hd=>rfl);(case hg=>rfl);(case hr=>first|(go_simp;done)|(go_simp;rfl));(case hp=>exact (bu.one (show Kd.M (Kd.int .i64) _ _ _ t130 [.int .i64 t130] from rfl) (bu.one (show Kd.M (Kd.int .i64) _ _ _ t133 [.int .i64 t133] from rfl) (bu.none _ _))));intro v152 w96 AL hb c_ dc;clear c_ dc;(first|rw [← NZ.z] at AL|(simp only [Int.reduceToNat] at AL;rw [← NZ.z] at AL));have av:=k0 (Kd.an6 (aS cl.z) (Kd.aU AL) hb);have ax:=k0 (Kd.cH AL (ew (aK HK.z)));have ay:=kB aa hb;have anC:=kB bE hb;have aD:=k0 (af.below (bB aj.z) hb);have anE:=k0 (aM.trans (aK HK.z) (aM.gy hb g none) (.inl rfl));have anP:=k0 (anH (by repeat (first|(with_reducible first|exact HB.z|apply bn|apply bq|apply anS|refine az ?_ (af.ge aj.z)|refine az ?_ anQ.z|refine az ?_ gK.z)|exact HB.z)) hb);clear cl;clear aa;clear bE;clear aj;clear HK;clear HB;have cl:=av;have tj:=ax;have aa:=ay;have bE:=anC;have aj:=aD;have HK:=anE;have HB:=anP;clear av ax ay anC aD anE anP;clear hb AL;obtain ⟨Bo,Ch,I7⟩:=Kd.cK tj.z;subst I7)|((with_reducible refine aoi (b:=.append) (xs:=#[.tmp 91,.tmp 95]) rfl ?_);(try (refine fV (by rfl) ?_;dsimp only));at_builtin;refine Kd.tA (Kd.slice 2 (Kd.int .i64)) w.heap.size rfl (.tmp 91) (.tmp 95) 22 28 (.slice none 0 0) 24 rfl Try.underlying22 qI rfl (by decide) (by omega) u106001 fY Ed [.slice Bo Ed.length Ch] (fun _=>True) (fun k_=>some k_=(.slice Bo Ed.length Ch:Value).ownBlock) rfl rfl ?aP (fun k_ b9=>((Kd.aT (ok':=fun k_=>((fun _=>True)) k_∧some k_ ≠ (u106001:Value).ownBlock) (Kd.jx (tj.z) (Kd.iR cl.z) (by decide)) (fun k_ hk=>⟨trivial,hk.2⟩))).1 k_ b9.symm) ?aF ?aO (Below.refl _ _) ?aS ?aL ?_;(case aP=>exact Kd.lg (Kd.aT (Kd.oB rfl (Kd.aT (ok':=fun k_=>((fun _=>True)) k_∧some k_ ≠ (u106001:Value).ownBlock) (Kd.jx (tj.z) (Kd.iR cl.z) (by decide)) (fun k_ hk=>⟨trivial,hk.2⟩))) (fun _ h_=>h_)));(case aF=>exact (fun _ _=>trivial));(case aO=>exact (by (with_reducible repeat (first|apply Kd.di|apply Kd.dm|apply Kd.cS));exact Kd.anW cl.z (fun k_ hk=>⟨trivial,fun e_=>hk.2 e_⟩)));(case aS=>exact (ew (aK HK.z)));(case aL=>have:=HP.out;omega);intro anj w98 ho hb hg bz;rw [← Wj.z] at ho;have av:=k0 (gh (aB aa.z) hg (Kd.kD cl.z aa.z (by decide)));have ax:=k0 (gh (aB bE.z) hg (Kd.kD cl.z bE.z (by decide)));have ay:=k0 (af.grown (bB aj.z) hg (af.yH aj.z cl.z (by decide)));have anC:=k0 (vX (by repeat (first|(with_reducible first|exact HB.z|apply bn|apply bq|apply anS|refine az ?_ (af.ge aj.z)|refine az ?_ anQ.z|refine az ?_ gK.z)|exact HB.z)) HL.z hb);have aD:=k0 (aM.trans (aK HK.z) (aM.sP hg g) (Kd.xp cl.z));have anE:=k0 (ho);clear aa;clear bE;clear aj;clear HB;clear HK;clear cl;clear tj;have aa:=av;have bE:=ax;have aj:=ay;have HB:=anC;have HK:=aD;have Nw:=anE;clear av ax ay anC aD anE;clear ho hb hg bz;obtain ⟨MA,OL,Y6⟩:=Kd.eH Nw.z;subst Y6;have ahY:=aX bE;have ahZ:=aY bE;have ajo:=bF bE 0;have ajp:=bF bE 1))
           go_roundg mB
           case measure=>have:=bH.z;have:=aoM.out;have:=iK.z;have:=zO.out;omega
           case rel=>exact ⟨(wrap64 (j9 - 1)),(t134),(t135),(GH),(.slice MA GH.length OL),rs,H',⟨by have:=bH.z;have:=aoM.out;have:=iK.z;have:=zO.out;omega⟩,⟨aS (Kd.anW (gS 1 (.slice MA GH.length OL) (tS Nw bE)) (fun _ hk=>trivial))⟩,⟨by (with_reducible repeat (first|refine anF ?_ _|refine aH ?_|refine aI ?_ _));refine anU ?_ hU.z _;exact bk⟩,⟨by (with_reducible repeat (first|refine anF ?_ _|refine aH ?_|refine aI ?_ _));refine anV (cs:=#[.int .i64 a1,u106001]) ?_ 1 _ rfl;exact bk⟩,⟨bB aj.z⟩,⟨aK HK.z⟩,⟨by repeat (first|(with_reducible first|exact HB.z|apply bn|apply bq|apply anS|refine az ?_ (af.ge aj.z)|refine az ?_ anQ.z|refine az ?_ gK.z)|exact HB.z)⟩⟩
          rw [if_pos c60] at H
          have X4:(t130 == t133)=true:=beq_iff_eq.mpr c60
          have X5:(t130 != t133)=false:=bne_eq_false_iff_eq.mpr c60
          clear c60
          replace H:=Option.bind_eq_some_iff.mp H
          obtain ⟨⟨t136,t137,t138⟩,Mx,H⟩:=H
          replace H:(if t136 > 0 then (if a1=0 then (none) else (if fY.length < 5864062014805 then (bV.l1 mB a1 a2 (wrap64 (j9 - 1)) anK t137 t138 a1 (fY ++ [(([t130,Int.tmod (wrap64 (t130+1)) a1]:List Int))])) else (none))) else (if fY.length < 5864062014805 then (bV.l1 mB a1 a2 (wrap64 (j9 - 1)) anK t137 t138 a1 (fY ++ [(([t130,t133]:List Int))])) else (none)))=some (r1,r2,r3,r4):=H
          have Mw:=k0 Mx
          clear Mx
          by_cases c62:t136 > 0
          case neg =>
           rw [if_neg c62] at H
           have X6:decide (0 < t136)=false:=decide_eq_false c62
           clear c62
           obtain ⟨Ec,Kw⟩:∃ y_:List Int,y_=(([t130,t133]:List Int)):=⟨_,rfl⟩
           replace H:(if fY.length < 5864062014805 then (bV.l1 mB a1 a2 (wrap64 (j9 - 1)) anK t137 t138 a1 (fY ++ [Ec])) else (none))=some (r1,r2,r3,r4):=rH Kw H
           have NY:=k0 Kw
           clear Kw
           replace H:=iS H;obtain ⟨c77,H⟩:=H
           have V3:=k0 c77
           clear c77
           obtain ⟨GG,Ky⟩:∃ y_:List (List Int),y_=(fY ++ [Ec]):=⟨_,rfl⟩
           replace H:(bV.l1 mB a1 a2 (wrap64 (j9 - 1)) anK t137 t138 a1 GG)=some (r1,r2,r3,r4):=rH Ky H
           have Wi:=k0 Ky
           clear Ky
           have H':=k0 H
           clear H
           go_wp2_with (first|((with_reducible refine bS (f:=112) rfl ?_);refine gC (some 74) Try.func112 #[.pointer (some ⟨g,0,none⟩),.int .i64 a1] ?_;(with_reducible refine (dn.calls g anK qP qR a1 t130 t131 t132 w0 _ ?aA ?anD GQ.z).mono ?_);(case aA=>repeat (first|(with_reducible first|exact aj.z|apply af.alloc|apply af.drewN|apply af.drew|apply af.gq|apply af.gu|refine af.dM ?_ eV.z _|refine af.dM ?_ kU.z _)|exact aj.z));(case anD=>repeat (first|(with_reducible first|exact HB.z|apply bn|apply bq|apply anS|refine az ?_ (af.ge aj.z)|refine az ?_ anQ.z|refine az ?_ gK.z)|exact HB.z));rintro e w78 ⟨rfl,hi,hb,hk⟩;refine ⟨_,rfl,?_⟩;have av:=k0 (Kd.anW (Kd.aoH (af.nW (show af w0 _ g anK qP qR from bB aj.z) (aS cl.z) (by decide)) hk (fun _ h=>h.2)) (fun _ h=>h.1));have ax:=k0 (aM.blk hk (aB aa.z) eW.z (by simp));have ay:=k0 (aM.blk hk (aB bE.z) kV.z (by simp));have anC:=k0 (aM.trans (aK HK.z) hk (.inl rfl));have aD:=k0 (hb);have anE:=k0 (hi);clear cl;clear aa;clear bE;clear HK;clear HB;clear aj;have cl:=av;have aa:=ax;have bE:=ay;have HK:=anC;have HB:=aD;have aj:=anE;clear av ax ay anC aD anE;)|((with_reducible refine bS (f:=112) rfl ?_);refine gC (some 77) Try.func112 #[.pointer (some ⟨g,0,none⟩),.int .i64 a1] ?_;(with_reducible refine (dn.calls g anK t131 t132 a1 t133 t134 t135 w0 _ ?aA ?anD GR.z).mono ?_);(case aA=>repeat (first|(with_reducible first|exact aj.z|apply af.alloc|apply af.drewN|apply af.drew|apply af.gq|apply af.gu|refine af.dM ?_ eV.z _|refine af.dM ?_ kU.z _)|exact aj.z));(case anD=>repeat (first|(with_reducible first|exact HB.z|apply bn|apply bq|apply anS|refine az ?_ (af.ge aj.z)|refine az ?_ anQ.z|refine az ?_ gK.z)|exact HB.z));rintro e w79 ⟨rfl,hi,hb,hk⟩;refine ⟨_,rfl,?_⟩;have av:=k0 (Kd.anW (Kd.aoH (af.nW (show af w0 _ g anK t131 t132 from bB aj.z) (aS cl.z) (by decide)) hk (fun _ h=>h.2)) (fun _ h=>h.1));have ax:=k0 (aM.blk hk (aB aa.z) eW.z (by simp));have ay:=k0 (aM.blk hk (aB bE.z) kV.z (by simp));have anC:=k0 (aM.trans (aK HK.z) hk (.inl rfl));have aD:=k0 (hb);have anE:=k0 (hi);clear cl;clear aa;clear bE;clear HK;clear HB;clear aj;have cl:=av;have aa:=ax;have bE:=ay;have HK:=anC;have HB:=aD;have aj:=anE;clear av ax ay anC aD anE;)|(go_at_call 112;(with_reducible refine (dn.calls g anK t134 t135 3 t136 t137 t138 w0 _ ?aA ?anD Mw.z).mono ?_);(case aA=>repeat (first|(with_reducible first|exact aj.z|apply af.alloc|apply af.drewN|apply af.drew|apply af.gq|apply af.gu|refine af.dM ?_ eV.z _|refine af.dM ?_ kU.z _)|exact aj.z));(case anD=>repeat (first|(with_reducible first|exact HB.z|apply bn|apply bq|apply anS|refine az ?_ (af.ge aj.z)|refine az ?_ anQ.z|refine az ?_ gK.z)|exact HB.z));rintro e w80 ⟨rfl,hi,hb,hk⟩;have av:=k0 (Kd.anW (Kd.aoH (af.nW (show af w0 _ g anK t134 t135 from bB aj.z) (aS cl.z) (by decide)) hk (fun _ h=>h.2)) (fun _ h=>h.1));have ax:=k0 (aM.blk hk (aB aa.z) eW.z (by simp));have ay:=k0 (aM.blk hk (aB bE.z) kV.z (by simp));have anC:=k0 (aM.trans (aK HK.z) hk (.inl rfl));have aD:=k0 (hb);have anE:=k0 (hi);clear cl;clear aa;clear bE;clear HK;clear HB;clear aj;have cl:=av;have aa:=ax;have bE:=ay;have HK:=anC;have HB:=aD;have aj:=anE;clear av ax ay anC aD anE;have alC:=jR.z;have amw:=hU.z;have alD:=kV.z;have amx:=kU.z;have ai':=aX bE;have ai_:=aY bE;have akz:=bF bE 0;have akA:=bF bE 1)|((with_reducible refine bN (N:=94) rfl ?_);(try (refine fV (by rfl) ?_;dsimp only));refine Kd.jd (Kd.int .i64) _ 2 ?hg (N:=94) ?hd (xs:=([t130,t133]:List Int)) (inner:=[.int .i64 t130,.int .i64 t133]) (ok:=fun _=>True) (anX:=fun _=>True) ?hr ?hp (fun _ hk=>hk) trivial (Below.refl _ _) (Nat.le_refl _) (by simp) ?_;(case hd=>rfl);(case hg=>rfl);(case hr=>first|(go_simp;done)|(go_simp;rfl));(case hp=>exact (bu.one (show Kd.M (Kd.int .i64) _ _ _ t130 [.int .i64 t130] from rfl) (bu.one (show Kd.M (Kd.int .i64) _ _ _ t133 [.int .i64 t133] from rfl) (bu.none _ _))));intro v146 w84 AI hb c_ dc;clear c_ dc;(first|rw [← NY.z] at AI|(simp only [Int.reduceToNat] at AI;rw [← NY.z] at AI));have av:=k0 (Kd.an6 (aS cl.z) (Kd.aU AI) hb);have ax:=k0 (Kd.cH AI (ew (aK HK.z)));have ay:=kB aa hb;have anC:=kB bE hb;have aD:=k0 (af.below (bB aj.z) hb);have anE:=k0 (aM.trans (aK HK.z) (aM.gy hb g none) (.inl rfl));have anP:=k0 (anH (by repeat (first|(with_reducible first|exact HB.z|apply bn|apply bq|apply anS|refine az ?_ (af.ge aj.z)|refine az ?_ anQ.z|refine az ?_ gK.z)|exact HB.z)) hb);clear cl;clear aa;clear bE;clear aj;clear HK;clear HB;have cl:=av;have Eu:=ax;have aa:=ay;have bE:=anC;have aj:=aD;have HK:=anE;have HB:=anP;clear av ax ay anC aD anE anP;clear hb AI;obtain ⟨MQ,O2,ZI⟩:=Kd.cK Eu.z;subst ZI)|((with_reducible refine aoi (b:=.append) (xs:=#[.tmp 91,.tmp 95]) rfl ?_);(try (refine fV (by rfl) ?_;dsimp only));at_builtin;refine Kd.tA (Kd.slice 2 (Kd.int .i64)) w.heap.size rfl (.tmp 91) (.tmp 95) 22 28 (.slice none 0 0) 24 rfl Try.underlying22 qI rfl (by decide) (by omega) u106001 fY Ec [.slice MQ Ec.length O2] (fun _=>True) (fun k_=>some k_=(.slice MQ Ec.length O2:Value).ownBlock) rfl rfl ?aP (fun k_ b9=>((Kd.aT (ok':=fun k_=>((fun _=>True)) k_∧some k_ ≠ (u106001:Value).ownBlock) (Kd.jx (Eu.z) (Kd.iR cl.z) (by decide)) (fun k_ hk=>⟨trivial,hk.2⟩))).1 k_ b9.symm) ?aF ?aO (Below.refl _ _) ?aS ?aL ?_;(case aP=>exact Kd.lg (Kd.aT (Kd.oB rfl (Kd.aT (ok':=fun k_=>((fun _=>True)) k_∧some k_ ≠ (u106001:Value).ownBlock) (Kd.jx (Eu.z) (Kd.iR cl.z) (by decide)) (fun k_ hk=>⟨trivial,hk.2⟩))) (fun _ h_=>h_)));(case aF=>exact (fun _ _=>trivial));(case aO=>exact (by (with_reducible repeat (first|apply Kd.di|apply Kd.dm|apply Kd.cS));exact Kd.anW cl.z (fun k_ hk=>⟨trivial,fun e_=>hk.2 e_⟩)));(case aS=>exact (ew (aK HK.z)));(case aL=>have:=V3.out;omega);intro ani w86 ho hb hg bz;rw [← Wi.z] at ho;have av:=k0 (gh (aB aa.z) hg (Kd.kD cl.z aa.z (by decide)));have ax:=k0 (gh (aB bE.z) hg (Kd.kD cl.z bE.z (by decide)));have ay:=k0 (af.grown (bB aj.z) hg (af.yH aj.z cl.z (by decide)));have anC:=k0 (vX (by repeat (first|(with_reducible first|exact HB.z|apply bn|apply bq|apply anS|refine az ?_ (af.ge aj.z)|refine az ?_ anQ.z|refine az ?_ gK.z)|exact HB.z)) HL.z hb);have aD:=k0 (aM.trans (aK HK.z) (aM.sP hg g) (Kd.xp cl.z));have anE:=k0 (ho);clear aa;clear bE;clear aj;clear HB;clear HK;clear cl;clear Eu;have aa:=av;have bE:=ax;have aj:=ay;have HB:=anC;have HK:=aD;have Nv:=anE;clear av ax ay anC aD anE;clear ho hb hg bz;obtain ⟨zD,At,Ct⟩:=Kd.eH Nv.z;subst Ct;have ajc:=aX bE;have ajd:=aY bE;have akD:=bF bE 0;have akE:=bF bE 1))
           go_roundg mB
           case measure=>have:=bH.z;have:=aoM.out;have:=iK.z;have:=zO.out;omega
           case rel=>exact ⟨(wrap64 (j9 - 1)),(t137),(t138),(GG),(.slice zD GG.length At),rs,H',⟨by have:=bH.z;have:=aoM.out;have:=iK.z;have:=zO.out;omega⟩,⟨aS (Kd.anW (gS 1 (.slice zD GG.length At) (tS Nv bE)) (fun _ hk=>trivial))⟩,⟨by (with_reducible repeat (first|refine anF ?_ _|refine aH ?_|refine aI ?_ _));refine anU ?_ hU.z _;exact bk⟩,⟨by (with_reducible repeat (first|refine anF ?_ _|refine aH ?_|refine aI ?_ _));refine anV (cs:=#[.int .i64 a1,u106001]) ?_ 1 _ rfl;exact bk⟩,⟨bB aj.z⟩,⟨aK HK.z⟩,⟨by repeat (first|(with_reducible first|exact HB.z|apply bn|apply bq|apply anS|refine az ?_ (af.ge aj.z)|refine az ?_ anQ.z|refine az ?_ gK.z)|exact HB.z)⟩⟩
          rw [if_pos c62] at H
          have X6:=decide_eq_true c62
          clear c62
          by_cases c63:a1=0
          case neg =>
           rw [if_neg c63] at H
           have Ak:(a1 == 0)=false:=beq_eq_false_iff_ne.mpr c63
           have Oy:(a1 != 0)=true:=bne_iff_ne.mpr c63
           obtain ⟨Eb,Ku⟩:∃ y_:List Int,y_=(([t130,Int.tmod (wrap64 (t130+1)) a1]:List Int)):=⟨_,rfl⟩
           replace H:(if fY.length < 5864062014805 then (bV.l1 mB a1 a2 (wrap64 (j9 - 1)) anK t137 t138 a1 (fY ++ [Eb])) else (none))=some (r1,r2,r3,r4):=rH Ku H
           have NX:=k0 Ku
           clear Ku
           replace H:=iS H;obtain ⟨c64,H⟩:=H
           have V2:=k0 c64
           clear c64
           obtain ⟨GF,Kv⟩:∃ y_:List (List Int),y_=(fY ++ [Eb]):=⟨_,rfl⟩
           replace H:(bV.l1 mB a1 a2 (wrap64 (j9 - 1)) anK t137 t138 a1 GF)=some (r1,r2,r3,r4):=rH Kv H
           have Wh:=k0 Kv
           clear Kv
           have H':=k0 H
           clear H
           go_wp2_with (first|((with_reducible refine bS (f:=112) rfl ?_);refine gC (some 74) Try.func112 #[.pointer (some ⟨g,0,none⟩),.int .i64 a1] ?_;(with_reducible refine (dn.calls g anK qP qR a1 t130 t131 t132 w0 _ ?aA ?anD GQ.z).mono ?_);(case aA=>repeat (first|(with_reducible first|exact aj.z|apply af.alloc|apply af.drewN|apply af.drew|apply af.gq|apply af.gu|refine af.dM ?_ eV.z _|refine af.dM ?_ kU.z _)|exact aj.z));(case anD=>repeat (first|(with_reducible first|exact HB.z|apply bn|apply bq|apply anS|refine az ?_ (af.ge aj.z)|refine az ?_ anQ.z|refine az ?_ gK.z)|exact HB.z));rintro e w65 ⟨rfl,hi,hb,hk⟩;refine ⟨_,rfl,?_⟩;have av:=k0 (Kd.anW (Kd.aoH (af.nW (show af w0 _ g anK qP qR from bB aj.z) (aS cl.z) (by decide)) hk (fun _ h=>h.2)) (fun _ h=>h.1));have ax:=k0 (aM.blk hk (aB aa.z) eW.z (by simp));have ay:=k0 (aM.blk hk (aB bE.z) kV.z (by simp));have anC:=k0 (aM.trans (aK HK.z) hk (.inl rfl));have aD:=k0 (hb);have anE:=k0 (hi);clear cl;clear aa;clear bE;clear HK;clear HB;clear aj;have cl:=av;have aa:=ax;have bE:=ay;have HK:=anC;have HB:=aD;have aj:=anE;clear av ax ay anC aD anE;)|((with_reducible refine bS (f:=112) rfl ?_);refine gC (some 77) Try.func112 #[.pointer (some ⟨g,0,none⟩),.int .i64 a1] ?_;(with_reducible refine (dn.calls g anK t131 t132 a1 t133 t134 t135 w0 _ ?aA ?anD GR.z).mono ?_);(case aA=>repeat (first|(with_reducible first|exact aj.z|apply af.alloc|apply af.drewN|apply af.drew|apply af.gq|apply af.gu|refine af.dM ?_ eV.z _|refine af.dM ?_ kU.z _)|exact aj.z));(case anD=>repeat (first|(with_reducible first|exact HB.z|apply bn|apply bq|apply anS|refine az ?_ (af.ge aj.z)|refine az ?_ anQ.z|refine az ?_ gK.z)|exact HB.z));rintro e w66 ⟨rfl,hi,hb,hk⟩;refine ⟨_,rfl,?_⟩;have av:=k0 (Kd.anW (Kd.aoH (af.nW (show af w0 _ g anK t131 t132 from bB aj.z) (aS cl.z) (by decide)) hk (fun _ h=>h.2)) (fun _ h=>h.1));have ax:=k0 (aM.blk hk (aB aa.z) eW.z (by simp));have ay:=k0 (aM.blk hk (aB bE.z) kV.z (by simp));have anC:=k0 (aM.trans (aK HK.z) hk (.inl rfl));have aD:=k0 (hb);have anE:=k0 (hi);clear cl;clear aa;clear bE;clear HK;clear HB;clear aj;have cl:=av;have aa:=ax;have bE:=ay;have HK:=anC;have HB:=aD;have aj:=anE;clear av ax ay anC aD anE;)|(go_at_call 112;(with_reducible refine (dn.calls g anK t134 t135 3 t136 t137 t138 w0 _ ?aA ?anD Mw.z).mono ?_);(case aA=>repeat (first|(with_reducible first|exact aj.z|apply af.alloc|apply af.drewN|apply af.drew|apply af.gq|apply af.gu|refine af.dM ?_ eV.z _|refine af.dM ?_ kU.z _)|exact aj.z));(case anD=>repeat (first|(with_reducible first|exact HB.z|apply bn|apply bq|apply anS|refine az ?_ (af.ge aj.z)|refine az ?_ anQ.z|refine az ?_ gK.z)|exact HB.z));rintro e w67 ⟨rfl,hi,hb,hk⟩;have av:=k0 (Kd.anW (Kd.aoH (af.nW (show af w0 _ g anK t134 t135 from bB aj.z) (aS cl.z) (by decide)) hk (fun _ h=>h.2)) (fun _ h=>h.1));have ax:=k0 (aM.blk hk (aB aa.z) eW.z (by simp));have ay:=k0 (aM.blk hk (aB bE.z) kV.z (by simp));have anC:=k0 (aM.trans (aK HK.z) hk (.inl rfl));have aD:=k0 (hb);have anE:=k0 (hi);clear cl;clear aa;clear bE;clear HK;clear HB;clear aj;have cl:=av;have aa:=ax;have bE:=ay;have HK:=anC;have HB:=aD;have aj:=anE;clear av ax ay anC aD anE;have alv:=jR.z;have amo:=hU.z;have abY:=kV.z;have ab_:=kU.z;have aiX:=aX bE;have aiY:=aY bE;have akm:=bF bE 0;have akn:=bF bE 1)|((with_reducible refine bN (N:=94) rfl ?_);(try (refine fV (by rfl) ?_;dsimp only));refine Kd.jd (Kd.int .i64) _ 2 ?hg (N:=94) ?hd (xs:=([t130,Int.tmod (wrap64 (t130+1)) a1]:List Int)) (inner:=[.int .i64 t130,.int .i64 (Int.tmod (wrap64 (t130+1)) a1)]) (ok:=fun _=>True) (anX:=fun _=>True) ?hr ?hp (fun _ hk=>hk) trivial (Below.refl _ _) (Nat.le_refl _) (by simp) ?_;(case hd=>rfl);(case hg=>rfl);(case hr=>first|(go_simp;done)|(go_simp;rfl));(case hp=>exact (bu.one (show Kd.M (Kd.int .i64) _ _ _ t130 [.int .i64 t130] from rfl) (bu.one (show Kd.M (Kd.int .i64) _ _ _ (Int.tmod (wrap64 (t130+1)) a1) [.int .i64 (Int.tmod (wrap64 (t130+1)) a1)] from rfl) (bu.none _ _))));intro LN w71 AH hb c_ dc;clear c_ dc;(first|rw [← NX.z] at AH|(simp only [Int.reduceToNat] at AH;rw [← NX.z] at AH));have av:=k0 (Kd.an6 (aS cl.z) (Kd.aU AH) hb);have ax:=k0 (Kd.cH AH (ew (aK HK.z)));have ay:=kB aa hb;have anC:=kB bE hb;have aD:=k0 (af.below (bB aj.z) hb);have anE:=k0 (aM.trans (aK HK.z) (aM.gy hb g none) (.inl rfl));have anP:=k0 (anH (by repeat (first|(with_reducible first|exact HB.z|apply bn|apply bq|apply anS|refine az ?_ (af.ge aj.z)|refine az ?_ anQ.z|refine az ?_ gK.z)|exact HB.z)) hb);clear cl;clear aa;clear bE;clear aj;clear HK;clear HB;have cl:=av;have pX:=ax;have aa:=ay;have bE:=anC;have aj:=aD;have HK:=anE;have HB:=anP;clear av ax ay anC aD anE anP;clear hb AH;obtain ⟨MP,O1,ZG⟩:=Kd.cK pX.z;subst ZG)|((with_reducible refine aoi (b:=.append) (xs:=#[.tmp 91,.tmp 95]) rfl ?_);(try (refine fV (by rfl) ?_;dsimp only));at_builtin;refine Kd.tA (Kd.slice 2 (Kd.int .i64)) w.heap.size rfl (.tmp 91) (.tmp 95) 22 28 (.slice none 0 0) 24 rfl Try.underlying22 qI rfl (by decide) (by omega) u106001 fY Eb [.slice MP Eb.length O1] (fun _=>True) (fun k_=>some k_=(.slice MP Eb.length O1:Value).ownBlock) rfl rfl ?aP (fun k_ b9=>((Kd.aT (ok':=fun k_=>((fun _=>True)) k_∧some k_ ≠ (u106001:Value).ownBlock) (Kd.jx (pX.z) (Kd.iR cl.z) (by decide)) (fun k_ hk=>⟨trivial,hk.2⟩))).1 k_ b9.symm) ?aF ?aO (Below.refl _ _) ?aS ?aL ?_;(case aP=>exact Kd.lg (Kd.aT (Kd.oB rfl (Kd.aT (ok':=fun k_=>((fun _=>True)) k_∧some k_ ≠ (u106001:Value).ownBlock) (Kd.jx (pX.z) (Kd.iR cl.z) (by decide)) (fun k_ hk=>⟨trivial,hk.2⟩))) (fun _ h_=>h_)));(case aF=>exact (fun _ _=>trivial));(case aO=>exact (by (with_reducible repeat (first|apply Kd.di|apply Kd.dm|apply Kd.cS));exact Kd.anW cl.z (fun k_ hk=>⟨trivial,fun e_=>hk.2 e_⟩)));(case aS=>exact (ew (aK HK.z)));(case aL=>have:=V2.out;omega);intro v143 w73 ho hb hg bz;rw [← Wh.z] at ho;have av:=k0 (gh (aB aa.z) hg (Kd.kD cl.z aa.z (by decide)));have ax:=k0 (gh (aB bE.z) hg (Kd.kD cl.z bE.z (by decide)));have ay:=k0 (af.grown (bB aj.z) hg (af.yH aj.z cl.z (by decide)));have anC:=k0 (vX (by repeat (first|(with_reducible first|exact HB.z|apply bn|apply bq|apply anS|refine az ?_ (af.ge aj.z)|refine az ?_ anQ.z|refine az ?_ gK.z)|exact HB.z)) HL.z hb);have aD:=k0 (aM.trans (aK HK.z) (aM.sP hg g) (Kd.xp cl.z));have anE:=k0 (ho);clear aa;clear bE;clear aj;clear HB;clear HK;clear cl;clear pX;have aa:=av;have bE:=ax;have aj:=ay;have HB:=anC;have HK:=aD;have Nu:=anE;clear av ax ay anC aD anE;clear ho hb hg bz;obtain ⟨zC,Ar,I6⟩:=Kd.eH Nu.z;subst I6;have ai3:=aX bE;have ai4:=aY bE;have aks:=bF bE 0;have akt:=bF bE 1))
           go_roundg mB
           case measure=>have:=bH.z;have:=aoM.out;have:=iK.z;have:=zO.out;omega
           case rel=>exact ⟨(wrap64 (j9 - 1)),(t137),(t138),(GF),(.slice zC GF.length Ar),rs,H',⟨by have:=bH.z;have:=aoM.out;have:=iK.z;have:=zO.out;omega⟩,⟨aS (Kd.anW (gS 1 (.slice zC GF.length Ar) (tS Nu bE)) (fun _ hk=>trivial))⟩,⟨by (with_reducible repeat (first|refine anF ?_ _|refine aH ?_|refine aI ?_ _));refine anU ?_ hU.z _;exact bk⟩,⟨by (with_reducible repeat (first|refine anF ?_ _|refine aH ?_|refine aI ?_ _));refine anV (cs:=#[.int .i64 a1,u106001]) ?_ 1 _ rfl;exact bk⟩,⟨bB aj.z⟩,⟨aK HK.z⟩,⟨by repeat (first|(with_reducible first|exact HB.z|apply bn|apply bq|apply anS|refine az ?_ (af.ge aj.z)|refine az ?_ anQ.z|refine az ?_ gK.z)|exact HB.z)⟩⟩
          rw [if_pos c63] at H
          exact absurd H (by simp)
     subst c21
     have H1:((dn.f anK qO qQ an9).bind fun ko=>((dn.f anK ko.2.1 ko.2.2 2).bind fun fD=>(if fD.1=0 then (if jF.length < 5864062014805 then (bV.l0 oJ a1 a2 (decide (t106 > 0)) (wrap64 (an9+1)) anK fD.2.1 fD.2.2 a1 (jF ++ [(([an9,ko.1]:List Int))])) else (none)) else (if jF.length < 5864062014805 then (bV.l0 oJ a1 a2 (decide (t106 > 0)) (wrap64 (an9+1)) anK fD.2.1 fD.2.2 a1 (jF ++ [(([ko.1,an9]:List Int))])) else (none)))))=some (r1,r2,r3,r4):=by rw [if_pos rfl] at H;exact H
     clear H
     have H:=H1
     clear H1
     replace H:=Option.bind_eq_some_iff.mp H
     obtain ⟨⟨t109,t110,t111⟩,vv,H⟩:=H
     replace H:((dn.f anK t110 t111 2).bind fun fD=>(if fD.1=0 then (if jF.length < 5864062014805 then (bV.l0 oJ a1 a2 (decide (t106 > 0)) (wrap64 (an9+1)) anK fD.2.1 fD.2.2 a1 (jF ++ [(([an9,t109]:List Int))])) else (none)) else (if jF.length < 5864062014805 then (bV.l0 oJ a1 a2 (decide (t106 > 0)) (wrap64 (an9+1)) anK fD.2.1 fD.2.2 a1 (jF ++ [(([t109,an9]:List Int))])) else (none))))=some (r1,r2,r3,r4):=H
     have vu:=k0 vv
     clear vv
     replace H:=Option.bind_eq_some_iff.mp H
     obtain ⟨⟨t112,t113,t114⟩,vw,H⟩:=H
     replace H:(if t112=0 then (if jF.length < 5864062014805 then (bV.l0 oJ a1 a2 (decide (t106 > 0)) (wrap64 (an9+1)) anK t113 t114 a1 (jF ++ [(([an9,t109]:List Int))])) else (none)) else (if jF.length < 5864062014805 then (bV.l0 oJ a1 a2 (decide (t106 > 0)) (wrap64 (an9+1)) anK t113 t114 a1 (jF ++ [(([t109,an9]:List Int))])) else (none)))=some (r1,r2,r3,r4):=H
     have zv:=k0 vw
     clear vw
     by_cases c24:t112=0
     case neg =>
      rw [if_neg c24] at H
      have apN:(t112 == 0)=false:=beq_eq_false_iff_ne.mpr c24
      have IB:(t112 != 0)=true:=bne_iff_ne.mpr c24
      obtain ⟨vq,yp⟩:∃ y_:List Int,y_=(([t109,an9]:List Int)):=⟨_,rfl⟩
      replace H:(if jF.length < 5864062014805 then (bV.l0 oJ a1 a2 (decide (t106 > 0)) (wrap64 (an9+1)) anK t113 t114 a1 (jF ++ [vq])) else (none))=some (r1,r2,r3,r4):=rH yp H
      have BN:=k0 yp
      clear yp
      replace H:=iS H;obtain ⟨c37,H⟩:=H
      have VZ:=k0 c37
      clear c37
      obtain ⟨GD,Kn⟩:∃ y_:List (List Int),y_=(jF ++ [vq]):=⟨_,rfl⟩
      replace H:(bV.l0 oJ a1 a2 (decide (t106 > 0)) (wrap64 (an9+1)) anK t113 t114 a1 GD)=some (r1,r2,r3,r4):=rH Kn H
      have We:=k0 Kn
      clear Kn
      have H':=k0 H
      clear H
      go_wp2_with (first|((with_reducible refine bS (f:=112) rfl ?_);refine gC (some 37) Try.func112 #[.pointer (some ⟨g,0,none⟩),.int .i64 an9] ?_;(with_reducible refine (dn.calls g anK qO qQ an9 t109 t110 t111 w0 _ ?aA ?anD vu.z).mono ?_);(case aA=>repeat (first|(with_reducible first|exact aj.z|apply af.alloc|apply af.drewN|apply af.drew|apply af.gq|apply af.gu|refine af.dM ?_ eV.z _|refine af.dM ?_ kU.z _)|exact aj.z));(case anD=>repeat (first|(with_reducible first|exact HB.z|apply bn|apply bq|apply anS|refine az ?_ (af.ge aj.z)|refine az ?_ anQ.z|refine az ?_ gK.z)|exact HB.z));rintro e w38 ⟨rfl,hi,hb,hk⟩;refine ⟨_,rfl,?_⟩;have av:=k0 (Kd.anW (Kd.aoH (af.nW (show af w0 _ g anK qO qQ from bB aj.z) (aS cl.z) (by decide)) hk (fun _ h=>h.2)) (fun _ h=>h.1));have ax:=k0 (aM.blk hk (aB aa.z) eW.z (by simp));have ay:=k0 (aM.blk hk (aB bE.z) kV.z (by simp));have anC:=k0 (aM.trans (aK HK.z) hk (.inl rfl));have aD:=k0 (hb);have anE:=k0 (hi);clear cl;clear aa;clear bE;clear HK;clear HB;clear aj;have cl:=av;have aa:=ax;have bE:=ay;have HK:=anC;have HB:=aD;have aj:=anE;clear av ax ay anC aD anE;)|((with_reducible refine bS (f:=112) rfl ?_);refine gC (some 39) Try.func112 #[.pointer (some ⟨g,0,none⟩),.int .i64 2] ?_;(with_reducible refine (dn.calls g anK t110 t111 2 t112 t113 t114 w0 _ ?aA ?anD zv.z).mono ?_);(case aA=>repeat (first|(with_reducible first|exact aj.z|apply af.alloc|apply af.drewN|apply af.drew|apply af.gq|apply af.gu|refine af.dM ?_ eV.z _|refine af.dM ?_ kU.z _)|exact aj.z));(case anD=>repeat (first|(with_reducible first|exact HB.z|apply bn|apply bq|apply anS|refine az ?_ (af.ge aj.z)|refine az ?_ anQ.z|refine az ?_ gK.z)|exact HB.z));rintro e w39 ⟨rfl,hi,hb,hk⟩;refine ⟨_,rfl,?_⟩;have av:=k0 (Kd.anW (Kd.aoH (af.nW (show af w0 _ g anK t110 t111 from bB aj.z) (aS cl.z) (by decide)) hk (fun _ h=>h.2)) (fun _ h=>h.1));have ax:=k0 (aM.blk hk (aB aa.z) eW.z (by simp));have ay:=k0 (aM.blk hk (aB bE.z) kV.z (by simp));have anC:=k0 (aM.trans (aK HK.z) hk (.inl rfl));have aD:=k0 (hb);have anE:=k0 (hi);clear cl;clear aa;clear bE;clear HK;clear HB;clear aj;have cl:=av;have aa:=ax;have bE:=ay;have HK:=anC;have HB:=aD;have aj:=anE;clear av ax ay anC aD anE;have alh:=jR.z;have amc:=hU.z;have RE:=kV.z;have RW:=kU.z;have aaT:=aX bE;have aaU:=aY bE;have abw:=bF bE 0;have abx:=bF bE 1)|((with_reducible refine bN (N:=53) rfl ?_);(try (refine fV (by rfl) ?_;dsimp only));refine Kd.jd (Kd.int .i64) _ 2 ?hg (N:=53) ?hd (xs:=([t109,an9]:List Int)) (inner:=[.int .i64 t109,.int .i64 an9]) (ok:=fun _=>True) (anX:=fun _=>True) ?hr ?hp (fun _ hk=>hk) trivial (Below.refl _ _) (Nat.le_refl _) (by simp) ?_;(case hd=>rfl);(case hg=>rfl);(case hr=>first|(go_simp;done)|(go_simp;rfl));(case hp=>exact (bu.one (show Kd.M (Kd.int .i64) _ _ _ t109 [.int .i64 t109] from rfl) (bu.one (show Kd.M (Kd.int .i64) _ _ _ an9 [.int .i64 an9] from rfl) (bu.none _ _))));intro lJ w43 pE hb c_ dc;clear c_ dc;(first|rw [← BN.z] at pE|(simp only [Int.reduceToNat] at pE;rw [← BN.z] at pE));have av:=k0 (Kd.an6 (aS cl.z) (Kd.aU pE) hb);have ax:=k0 (Kd.cH pE (ew (aK HK.z)));have ay:=kB aa hb;have anC:=kB bE hb;have aD:=k0 (af.below (bB aj.z) hb);have anE:=k0 (aM.trans (aK HK.z) (aM.gy hb g none) (.inl rfl));have anP:=k0 (anH (by repeat (first|(with_reducible first|exact HB.z|apply bn|apply bq|apply anS|refine az ?_ (af.ge aj.z)|refine az ?_ anQ.z|refine az ?_ gK.z)|exact HB.z)) hb);clear cl;clear aa;clear bE;clear aj;clear HK;clear HB;have cl:=av;have eu:=ax;have aa:=ay;have bE:=anC;have aj:=aD;have HK:=anE;have HB:=anP;clear av ax ay anC aD anE anP;clear hb pE;obtain ⟨d_,dQ,uC⟩:=Kd.cK eu.z;subst uC)|((with_reducible refine aoi (b:=.append) (xs:=#[.tmp 50,.tmp 54]) rfl ?_);(try (refine fV (by rfl) ?_;dsimp only));at_builtin;refine Kd.tA (Kd.slice 2 (Kd.int .i64)) w.heap.size rfl (.tmp 50) (.tmp 54) 22 28 (.slice none 0 0) 24 rfl Try.underlying22 qI rfl (by decide) (by omega) u106001 jF vq [.slice d_ vq.length dQ] (fun _=>True) (fun k_=>some k_=(.slice d_ vq.length dQ:Value).ownBlock) rfl rfl ?aP (fun k_ b9=>((Kd.aT (ok':=fun k_=>((fun _=>True)) k_∧some k_ ≠ (u106001:Value).ownBlock) (Kd.jx (eu.z) (Kd.iR cl.z) (by decide)) (fun k_ hk=>⟨trivial,hk.2⟩))).1 k_ b9.symm) ?aF ?aO (Below.refl _ _) ?aS ?aL ?_;(case aP=>exact Kd.lg (Kd.aT (Kd.oB rfl (Kd.aT (ok':=fun k_=>((fun _=>True)) k_∧some k_ ≠ (u106001:Value).ownBlock) (Kd.jx (eu.z) (Kd.iR cl.z) (by decide)) (fun k_ hk=>⟨trivial,hk.2⟩))) (fun _ h_=>h_)));(case aF=>exact (fun _ _=>trivial));(case aO=>exact (by (with_reducible repeat (first|apply Kd.di|apply Kd.dm|apply Kd.cS));exact Kd.anW cl.z (fun k_ hk=>⟨trivial,fun e_=>hk.2 e_⟩)));(case aS=>exact (ew (aK HK.z)));(case aL=>have:=VZ.out;omega);intro anb w45 ho hb hg bz;rw [← We.z] at ho;have av:=k0 (gh (aB aa.z) hg (Kd.kD cl.z aa.z (by decide)));have ax:=k0 (gh (aB bE.z) hg (Kd.kD cl.z bE.z (by decide)));have ay:=k0 (af.grown (bB aj.z) hg (af.yH aj.z cl.z (by decide)));have anC:=k0 (vX (by repeat (first|(with_reducible first|exact HB.z|apply bn|apply bq|apply anS|refine az ?_ (af.ge aj.z)|refine az ?_ anQ.z|refine az ?_ gK.z)|exact HB.z)) HL.z hb);have aD:=k0 (aM.trans (aK HK.z) (aM.sP hg g) (Kd.xp cl.z));have anE:=k0 (ho);clear aa;clear bE;clear aj;clear HB;clear HK;clear cl;clear eu;have aa:=av;have bE:=ax;have aj:=ay;have HB:=anC;have HK:=aD;have Nr:=anE;clear av ax ay anC aD anE;clear ho hb hg bz;obtain ⟨MM,OZ,Zu⟩:=Kd.eH Nr.z;subst Zu;have JE:=aX bE;have JF:=aY bE;have JT:=bF bE 0;have JU:=bF bE 1))
      go_roundg oJ
      case measure=>have:=bH.z;have:=aoM.out;omega
      case rel=>exact ⟨(wrap64 (an9+1)),(t113),(t114),(GD),(.slice MM GD.length OZ),rs,H',⟨by have:=bH.z;have:=aoM.out;omega⟩,⟨aS (Kd.anW (gS 1 (.slice MM GD.length OZ) (tS Nr bE)) (fun _ hk=>trivial))⟩,⟨by (with_reducible repeat (first|refine anF ?_ _|refine aH ?_|refine aI ?_ _));refine anU ?_ hU.z _;exact bk⟩,⟨by (with_reducible repeat (first|refine anF ?_ _|refine aH ?_|refine aI ?_ _));refine anV (cs:=#[.int .i64 a1,u106001]) ?_ 1 _ rfl;exact bk⟩,⟨bB aj.z⟩,⟨aK HK.z⟩,⟨by repeat (first|(with_reducible first|exact HB.z|apply bn|apply bq|apply anS|refine az ?_ (af.ge aj.z)|refine az ?_ anQ.z|refine az ?_ gK.z)|exact HB.z)⟩⟩
     rw [if_pos c24] at H
     have apN:(t112 == 0)=true:=beq_iff_eq.mpr c24
     have IB:(t112 != 0)=false:=bne_eq_false_iff_eq.mpr c24
     clear c24
     obtain ⟨gN,pJ⟩:∃ y_:List Int,y_=(([an9,t109]:List Int)):=⟨_,rfl⟩
     replace H:(if jF.length < 5864062014805 then (bV.l0 oJ a1 a2 (decide (t106 > 0)) (wrap64 (an9+1)) anK t113 t114 a1 (jF ++ [gN])) else (none))=some (r1,r2,r3,r4):=rH pJ H
     have uk:=k0 pJ
     clear pJ
     replace H:=iS H;obtain ⟨c25,H⟩:=H
     have VV:=k0 c25
     clear c25
     obtain ⟨s5,sK⟩:∃ y_:List (List Int),y_=(jF ++ [gN]):=⟨_,rfl⟩
     replace H:(bV.l0 oJ a1 a2 (decide (t106 > 0)) (wrap64 (an9+1)) anK t113 t114 a1 s5)=some (r1,r2,r3,r4):=rH sK H
     have BL:=k0 sK
     clear sK
     have H':=k0 H
     clear H
     go_wp2_with (first|((with_reducible refine bS (f:=112) rfl ?_);refine gC (some 37) Try.func112 #[.pointer (some ⟨g,0,none⟩),.int .i64 an9] ?_;(with_reducible refine (dn.calls g anK qO qQ an9 t109 t110 t111 w0 _ ?aA ?anD vu.z).mono ?_);(case aA=>repeat (first|(with_reducible first|exact aj.z|apply af.alloc|apply af.drewN|apply af.drew|apply af.gq|apply af.gu|refine af.dM ?_ eV.z _|refine af.dM ?_ kU.z _)|exact aj.z));(case anD=>repeat (first|(with_reducible first|exact HB.z|apply bn|apply bq|apply anS|refine az ?_ (af.ge aj.z)|refine az ?_ anQ.z|refine az ?_ gK.z)|exact HB.z));rintro e zg ⟨rfl,hi,hb,hk⟩;refine ⟨_,rfl,?_⟩;have av:=k0 (Kd.anW (Kd.aoH (af.nW (show af w0 _ g anK qO qQ from bB aj.z) (aS cl.z) (by decide)) hk (fun _ h=>h.2)) (fun _ h=>h.1));have ax:=k0 (aM.blk hk (aB aa.z) eW.z (by simp));have ay:=k0 (aM.blk hk (aB bE.z) kV.z (by simp));have anC:=k0 (aM.trans (aK HK.z) hk (.inl rfl));have aD:=k0 (hb);have anE:=k0 (hi);clear cl;clear aa;clear bE;clear HK;clear HB;clear aj;have cl:=av;have aa:=ax;have bE:=ay;have HK:=anC;have HB:=aD;have aj:=anE;clear av ax ay anC aD anE;)|((with_reducible refine bS (f:=112) rfl ?_);refine gC (some 39) Try.func112 #[.pointer (some ⟨g,0,none⟩),.int .i64 2] ?_;(with_reducible refine (dn.calls g anK t110 t111 2 t112 t113 t114 w0 _ ?aA ?anD zv.z).mono ?_);(case aA=>repeat (first|(with_reducible first|exact aj.z|apply af.alloc|apply af.drewN|apply af.drew|apply af.gq|apply af.gu|refine af.dM ?_ eV.z _|refine af.dM ?_ kU.z _)|exact aj.z));(case anD=>repeat (first|(with_reducible first|exact HB.z|apply bn|apply bq|apply anS|refine az ?_ (af.ge aj.z)|refine az ?_ anQ.z|refine az ?_ gK.z)|exact HB.z));rintro e Gs ⟨rfl,hi,hb,hk⟩;refine ⟨_,rfl,?_⟩;have av:=k0 (Kd.anW (Kd.aoH (af.nW (show af w0 _ g anK t110 t111 from bB aj.z) (aS cl.z) (by decide)) hk (fun _ h=>h.2)) (fun _ h=>h.1));have ax:=k0 (aM.blk hk (aB aa.z) eW.z (by simp));have ay:=k0 (aM.blk hk (aB bE.z) kV.z (by simp));have anC:=k0 (aM.trans (aK HK.z) hk (.inl rfl));have aD:=k0 (hb);have anE:=k0 (hi);clear cl;clear aa;clear bE;clear HK;clear HB;clear aj;have cl:=av;have aa:=ax;have bE:=ay;have HK:=anC;have HB:=aD;have aj:=anE;clear av ax ay anC aD anE;have ale:=jR.z;have al_:=hU.z;have abV:=kV.z;have ab8:=kU.z;have CP:=aX bE;have CQ:=aY bE;have CX:=bF bE 0;have CY:=bF bE 1)|((with_reducible refine bN (N:=45) rfl ?_);(try (refine fV (by rfl) ?_;dsimp only));refine Kd.jd (Kd.int .i64) _ 2 ?hg (N:=45) ?hd (xs:=([an9,t109]:List Int)) (inner:=[.int .i64 an9,.int .i64 t109]) (ok:=fun _=>True) (anX:=fun _=>True) ?hr ?hp (fun _ hk=>hk) trivial (Below.refl _ _) (Nat.le_refl _) (by simp) ?_;(case hd=>rfl);(case hg=>rfl);(case hr=>first|(go_simp;done)|(go_simp;rfl));(case hp=>exact (bu.one (show Kd.M (Kd.int .i64) _ _ _ an9 [.int .i64 an9] from rfl) (bu.one (show Kd.M (Kd.int .i64) _ _ _ t109 [.int .i64 t109] from rfl) (bu.none _ _))));intro am9 D0 qj hb c_ dc;clear c_ dc;(first|rw [← uk.z] at qj|(simp only [Int.reduceToNat] at qj;rw [← uk.z] at qj));have av:=k0 (Kd.an6 (aS cl.z) (Kd.aU qj) hb);have ax:=k0 (Kd.cH qj (ew (aK HK.z)));have ay:=kB aa hb;have anC:=kB bE hb;have aD:=k0 (af.below (bB aj.z) hb);have anE:=k0 (aM.trans (aK HK.z) (aM.gy hb g none) (.inl rfl));have anP:=k0 (anH (by repeat (first|(with_reducible first|exact HB.z|apply bn|apply bq|apply anS|refine az ?_ (af.ge aj.z)|refine az ?_ anQ.z|refine az ?_ gK.z)|exact HB.z)) hb);clear cl;clear aa;clear bE;clear aj;clear HK;clear HB;have cl:=av;have Er:=ax;have aa:=ay;have bE:=anC;have aj:=aD;have HK:=anE;have HB:=anP;clear av ax ay anC aD anE anP;clear hb qj;obtain ⟨wZ,xJ,Cr⟩:=Kd.cK Er.z;subst Cr)|((with_reducible refine aoi (b:=.append) (xs:=#[.tmp 42,.tmp 46]) rfl ?_);(try (refine fV (by rfl) ?_;dsimp only));at_builtin;refine Kd.tA (Kd.slice 2 (Kd.int .i64)) w.heap.size rfl (.tmp 42) (.tmp 46) 22 28 (.slice none 0 0) 24 rfl Try.underlying22 qI rfl (by decide) (by omega) u106001 jF gN [.slice wZ gN.length xJ] (fun _=>True) (fun k_=>some k_=(.slice wZ gN.length xJ:Value).ownBlock) rfl rfl ?aP (fun k_ b9=>((Kd.aT (ok':=fun k_=>((fun _=>True)) k_∧some k_ ≠ (u106001:Value).ownBlock) (Kd.jx (Er.z) (Kd.iR cl.z) (by decide)) (fun k_ hk=>⟨trivial,hk.2⟩))).1 k_ b9.symm) ?aF ?aO (Below.refl _ _) ?aS ?aL ?_;(case aP=>exact Kd.lg (Kd.aT (Kd.oB rfl (Kd.aT (ok':=fun k_=>((fun _=>True)) k_∧some k_ ≠ (u106001:Value).ownBlock) (Kd.jx (Er.z) (Kd.iR cl.z) (by decide)) (fun k_ hk=>⟨trivial,hk.2⟩))) (fun _ h_=>h_)));(case aF=>exact (fun _ _=>trivial));(case aO=>exact (by (with_reducible repeat (first|apply Kd.di|apply Kd.dm|apply Kd.cS));exact Kd.anW cl.z (fun k_ hk=>⟨trivial,fun e_=>hk.2 e_⟩)));(case aS=>exact (ew (aK HK.z)));(case aL=>have:=VV.out;omega);intro am_ LV ho hb hg bz;rw [← BL.z] at ho;have av:=k0 (gh (aB aa.z) hg (Kd.kD cl.z aa.z (by decide)));have ax:=k0 (gh (aB bE.z) hg (Kd.kD cl.z bE.z (by decide)));have ay:=k0 (af.grown (bB aj.z) hg (af.yH aj.z cl.z (by decide)));have anC:=k0 (vX (by repeat (first|(with_reducible first|exact HB.z|apply bn|apply bq|apply anS|refine az ?_ (af.ge aj.z)|refine az ?_ anQ.z|refine az ?_ gK.z)|exact HB.z)) HL.z hb);have aD:=k0 (aM.trans (aK HK.z) (aM.sP hg g) (Kd.xp cl.z));have anE:=k0 (ho);clear aa;clear bE;clear aj;clear HB;clear HK;clear cl;clear Er;have aa:=av;have bE:=ax;have aj:=ay;have HB:=anC;have HK:=aD;have Nq:=anE;clear av ax ay anC aD anE;clear ho hb hg bz;obtain ⟨tZ,uA,xM⟩:=Kd.eH Nq.z;subst xM;have aaP:=aX bE;have aaQ:=aY bE;have abr:=bF bE 0;have abt:=bF bE 1))
     go_roundg oJ
     case measure=>have:=bH.z;have:=aoM.out;omega
     case rel=>exact ⟨(wrap64 (an9+1)),(t113),(t114),(s5),(.slice tZ s5.length uA),rs,H',⟨by have:=bH.z;have:=aoM.out;omega⟩,⟨aS (Kd.anW (gS 1 (.slice tZ s5.length uA) (tS Nq bE)) (fun _ hk=>trivial))⟩,⟨by (with_reducible repeat (first|refine anF ?_ _|refine aH ?_|refine aI ?_ _));refine anU ?_ hU.z _;exact bk⟩,⟨by (with_reducible repeat (first|refine anF ?_ _|refine aH ?_|refine aI ?_ _));refine anV (cs:=#[.int .i64 a1,u106001]) ?_ 1 _ rfl;exact bk⟩,⟨bB aj.z⟩,⟨aK HK.z⟩,⟨by repeat (first|(with_reducible first|exact HB.z|apply bn|apply bq|apply anS|refine az ?_ (af.ge aj.z)|refine az ?_ anQ.z|refine az ?_ gK.z)|exact HB.z)⟩⟩
/-! ### F232: function 232 -/
def vE.f  : Option (List ByteArray):=some (([(⟨#[112,111,105,110,116]⟩:ByteArray),(⟨#[101,100,103,101]⟩:ByteArray),(⟨#[108,111,111,112]⟩:ByteArray),(⟨#[98,111,117,113,117,101,116]⟩:ByteArray),(⟨#[116,104,101,116,97]⟩:ByteArray),(⟨#[100,117,109,98,98,101,108,108]⟩:ByteArray),(⟨#[116,114,105,97,110,103,108,101]⟩:ByteArray),(⟨#[115,113,117,97,114,101]⟩:ByteArray),(⟨#[112,101,110,116,97,103,111,110]⟩:ByteArray),(⟨#[115,116,97,114]⟩:ByteArray),(⟨#[100,105,97,109,111,110,100]⟩:ByteArray),(⟨#[116,101,116,114,97,104,101,100,114,111,110]⟩:ByteArray),(⟨#[112,114,105,115,109]⟩:ByteArray),(⟨#[104,111,117,115,101,115]⟩:ByteArray)]:List ByteArray))
theorem vE.calls  (r : List ByteArray) (w : World) (h : vE.f  = some r) :
  Calls Try.prog 232 #[] w fun e w'=>∃ dw:Value,e=.returned (dw)∧Kd.R Kd.string 9 w' w.heap.size (fun _=>True) dw r∧Below w.heap.size w w':=by
 have HB:=k0 (Below.refl w.heap.size w)
 have H:(some (([(⟨#[112,111,105,110,116]⟩:ByteArray),(⟨#[101,100,103,101]⟩:ByteArray),(⟨#[108,111,111,112]⟩:ByteArray),(⟨#[98,111,117,113,117,101,116]⟩:ByteArray),(⟨#[116,104,101,116,97]⟩:ByteArray),(⟨#[100,117,109,98,98,101,108,108]⟩:ByteArray),(⟨#[116,114,105,97,110,103,108,101]⟩:ByteArray),(⟨#[115,113,117,97,114,101]⟩:ByteArray),(⟨#[112,101,110,116,97,103,111,110]⟩:ByteArray),(⟨#[115,116,97,114]⟩:ByteArray),(⟨#[100,105,97,109,111,110,100]⟩:ByteArray),(⟨#[116,101,116,114,97,104,101,100,114,111,110]⟩:ByteArray),(⟨#[112,114,105,115,109]⟩:ByteArray),(⟨#[104,111,117,115,101,115]⟩:ByteArray)]:List ByteArray)))=some r:=h
 clear h
 obtain ⟨iH,jh⟩:∃ y_:List ByteArray,y_=(([(⟨#[112,111,105,110,116]⟩:ByteArray),(⟨#[101,100,103,101]⟩:ByteArray),(⟨#[108,111,111,112]⟩:ByteArray),(⟨#[98,111,117,113,117,101,116]⟩:ByteArray),(⟨#[116,104,101,116,97]⟩:ByteArray),(⟨#[100,117,109,98,98,101,108,108]⟩:ByteArray),(⟨#[116,114,105,97,110,103,108,101]⟩:ByteArray),(⟨#[115,113,117,97,114,101]⟩:ByteArray),(⟨#[112,101,110,116,97,103,111,110]⟩:ByteArray),(⟨#[115,116,97,114]⟩:ByteArray),(⟨#[100,105,97,109,111,110,100]⟩:ByteArray),(⟨#[116,101,116,114,97,104,101,100,114,111,110]⟩:ByteArray),(⟨#[112,114,105,115,109]⟩:ByteArray),(⟨#[104,111,117,115,101,115]⟩:ByteArray)]:List ByteArray)):=⟨_,rfl⟩
 replace H:(some iH)=some r:=rH jh H
 have kW:=k0 jh
 clear jh
 obtain rfl:=Option.some.inj H
 go_enter Try.func232,Try.ntmps232
 go_wp2_with (first|((with_reducible refine bN (N:=1) rfl ?_);refine Kd.jd Kd.string _ 9 ?hg (N:=1) ?hd (xs:=([(⟨#[112,111,105,110,116]⟩:ByteArray),(⟨#[101,100,103,101]⟩:ByteArray),(⟨#[108,111,111,112]⟩:ByteArray),(⟨#[98,111,117,113,117,101,116]⟩:ByteArray),(⟨#[116,104,101,116,97]⟩:ByteArray),(⟨#[100,117,109,98,98,101,108,108]⟩:ByteArray),(⟨#[116,114,105,97,110,103,108,101]⟩:ByteArray),(⟨#[115,113,117,97,114,101]⟩:ByteArray),(⟨#[112,101,110,116,97,103,111,110]⟩:ByteArray),(⟨#[115,116,97,114]⟩:ByteArray),(⟨#[100,105,97,109,111,110,100]⟩:ByteArray),(⟨#[116,101,116,114,97,104,101,100,114,111,110]⟩:ByteArray),(⟨#[112,114,105,115,109]⟩:ByteArray),(⟨#[104,111,117,115,101,115]⟩:ByteArray)]:List ByteArray)) (inner:=[.string (⟨#[112,111,105,110,116]⟩:ByteArray),.string (⟨#[101,100,103,101]⟩:ByteArray),.string (⟨#[108,111,111,112]⟩:ByteArray),.string (⟨#[98,111,117,113,117,101,116]⟩:ByteArray),.string (⟨#[116,104,101,116,97]⟩:ByteArray),.string (⟨#[100,117,109,98,98,101,108,108]⟩:ByteArray),.string (⟨#[116,114,105,97,110,103,108,101]⟩:ByteArray),.string (⟨#[115,113,117,97,114,101]⟩:ByteArray),.string (⟨#[112,101,110,116,97,103,111,110]⟩:ByteArray),.string (⟨#[115,116,97,114]⟩:ByteArray),.string (⟨#[100,105,97,109,111,110,100]⟩:ByteArray),.string (⟨#[116,101,116,114,97,104,101,100,114,111,110]⟩:ByteArray),.string (⟨#[112,114,105,115,109]⟩:ByteArray),.string (⟨#[104,111,117,115,101,115]⟩:ByteArray)]) (ok:=fun _=>True) (anX:=fun _=>True) ?hr ?hp (fun _ hk=>hk) trivial (Below.refl _ _) (Nat.le_refl _) (by simp) ?_;(case hd=>rfl);(case hg=>rfl);(case hr=>first|(go_simp;done)|(go_simp;rfl));(case hp=>exact (bu.one (show Kd.M Kd.string _ _ _ (⟨#[112,111,105,110,116]⟩:ByteArray) [.string (⟨#[112,111,105,110,116]⟩:ByteArray)] from rfl) (bu.one (show Kd.M Kd.string _ _ _ (⟨#[101,100,103,101]⟩:ByteArray) [.string (⟨#[101,100,103,101]⟩:ByteArray)] from rfl) (bu.one (show Kd.M Kd.string _ _ _ (⟨#[108,111,111,112]⟩:ByteArray) [.string (⟨#[108,111,111,112]⟩:ByteArray)] from rfl) (bu.one (show Kd.M Kd.string _ _ _ (⟨#[98,111,117,113,117,101,116]⟩:ByteArray) [.string (⟨#[98,111,117,113,117,101,116]⟩:ByteArray)] from rfl) (bu.one (show Kd.M Kd.string _ _ _ (⟨#[116,104,101,116,97]⟩:ByteArray) [.string (⟨#[116,104,101,116,97]⟩:ByteArray)] from rfl) (bu.one (show Kd.M Kd.string _ _ _ (⟨#[100,117,109,98,98,101,108,108]⟩:ByteArray) [.string (⟨#[100,117,109,98,98,101,108,108]⟩:ByteArray)] from rfl) (bu.one (show Kd.M Kd.string _ _ _ (⟨#[116,114,105,97,110,103,108,101]⟩:ByteArray) [.string (⟨#[116,114,105,97,110,103,108,101]⟩:ByteArray)] from rfl) (bu.one (show Kd.M Kd.string _ _ _ (⟨#[115,113,117,97,114,101]⟩:ByteArray) [.string (⟨#[115,113,117,97,114,101]⟩:ByteArray)] from rfl) (bu.one (show Kd.M Kd.string _ _ _ (⟨#[112,101,110,116,97,103,111,110]⟩:ByteArray) [.string (⟨#[112,101,110,116,97,103,111,110]⟩:ByteArray)] from rfl) (bu.one (show Kd.M Kd.string _ _ _ (⟨#[115,116,97,114]⟩:ByteArray) [.string (⟨#[115,116,97,114]⟩:ByteArray)] from rfl) (bu.one (show Kd.M Kd.string _ _ _ (⟨#[100,105,97,109,111,110,100]⟩:ByteArray) [.string (⟨#[100,105,97,109,111,110,100]⟩:ByteArray)] from rfl) (bu.one (show Kd.M Kd.string _ _ _ (⟨#[116,101,116,114,97,104,101,100,114,111,110]⟩:ByteArray) [.string (⟨#[116,101,116,114,97,104,101,100,114,111,110]⟩:ByteArray)] from rfl) (bu.one (show Kd.M Kd.string _ _ _ (⟨#[112,114,105,115,109]⟩:ByteArray) [.string (⟨#[112,114,105,115,109]⟩:ByteArray)] from rfl) (bu.one (show Kd.M Kd.string _ _ _ (⟨#[104,111,117,115,101,115]⟩:ByteArray) [.string (⟨#[104,111,117,115,101,115]⟩:ByteArray)] from rfl) (bu.none _ _))))))))))))))));intro aoK w1 uK hb c_ dc;clear c_ dc;(first|rw [← kW.z] at uK|(simp only [Int.reduceToNat] at uK;rw [← kW.z] at uK));have jQ:=k0 (Kd.cH uK (anG bl));replace HB:=k0 (anH bl hb);clear hb uK))
 go_ret
 exact ⟨_,eR,by (with_reducible repeat (first|apply Kd.b_|apply Kd.bZ|apply Kd.bP));exact jQ.z,bl⟩
/-! ### F172: function 172 -/
def jc.f (a0:Int) (a1:Int) (a2:Int):Option (Bool):=if a0 ≥ a1 then (some (decide (a0≤a2))) else (some false)
theorem jc.calls (a0 : Int) (a1 : Int) (a2 : Int) (r : Bool) (w : World) (h : jc.f a0 a1 a2 = some r) :
  Calls Try.prog 172 #[.int .i64 a0,.int .i64 a1,.int .i64 a2] w fun e w'=>e=.returned (.bool r)∧aod w w':=by
 have H:(if a0 ≥ a1 then (some (decide (a0≤a2))) else (some false))=some r:=h
 clear h
 by_cases c4:a0 ≥ a1
 case neg =>
  rw [if_neg c4] at H
  have gT:decide (a1≤a0)=false:=decide_eq_false c4
  clear c4
  obtain rfl:=Option.some.inj H
  go_enter Try.func172,Try.ntmps172
  go_wp2
  go_ret
  exact ⟨rs,dW⟩
 rw [if_pos c4] at H
 have gT:=decide_eq_true c4
 clear c4
 obtain rfl:=Option.some.inj H
 go_enter Try.func172,Try.ntmps172
 go_wp2
 go_ret
 exact ⟨rs,dW⟩
end Go.Proofs.Ytoebojnhchocaaa.G
/- Set with little white space, by a program. -/
