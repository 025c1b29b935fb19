/- The functions that one law reaches, each as a Lean function, and that Go's call comes to what it says. Condition of each: that the Lean function answers (is not none). -/
import Derived.Test.YtoebojnhchocaaaGx0
import Derived.Test.YtoebojnhchocaaaGx1
namespace Go.Proofs.Ytoebojnhchocaaa.G
open Go.RowKit Go.Proofs.cx.fq Go.Proofs.cx.jX Go.Proofs.cx.lu
attribute [local go_sem] max2_int min2_int max_two min_two max_three min_three max_four min_four   -- for this text's walks alone
set_option linter.unusedVariables false
set_option linter.unusedSimpArgs false
/-! ### F197: function 197 -/
def fQ.l0 : Nat → List Int → Int → Int → Int → List (List Int) → Option (Int × (List (List Int)) × Int × Int)
 | 0,_,_,_,_,_=>none
 | k+1,lK,pQ,pR,iN,iy=>if (iy.length:Int)≤10 then (if iy.length < 5864062014805 then (fQ.l0 k lK pQ pR iN (iy ++ [(([0,0]:List Int))])) else (none)) else (some (iN,iy,pQ,pR))
def fQ.f (k:Nat) (anK:List Int) (cD:Int) (cI:Int) (fU:Int) (fB:List (List Int)):Option (Int × (List (List Int)) × Int × Int):=(dn.f anK cD cI 40).bind fun fN=>(if fN.1=0 then ((kR.f anK fN.2.1 fN.2.2 (([0,9,wrap64 (fU - 1)]:List Int))).bind fun ko=>(some (ko.1,fB,ko.2.1,ko.2.2))) else (if fN.1=1 then ((eO.f k fU fB).bind fun fD=>(if fD.2.length < 5864062014805 then (some (fD.1,(fD.2 ++ [(([0,fD.1]:List Int))]),fN.2.1,fN.2.2)) else (none))) else (if fN.1=2 then ((eO.f k fU fB).bind fun jz=>(if (jz.2.length:Int) > 0 then ((dn.f anK fN.2.1 fN.2.2 (jz.2.length:Int)).bind fun je=>(if 0≤je.1 then (if je.1 < (jz.2.length:Int) then (if (ai jz.2 je.1).length < 17592186044416 then (some (jz.1,(jz.2.set (je.1:Int).toNat ((ai jz.2 je.1) ++ [0])),je.2.1,je.2.2)) else (none)) else (none)) else (none))) else (some (jz.1,jz.2,fN.2.1,fN.2.2)))) else (if fN.1=3 then ((eO.f k fU fB).bind fun vY=>(fQ.l0 k anK fN.2.1 fN.2.2 vY.1 vY.2)) else (some (fU,fB,fN.2.1,fN.2.2))))))
theorem fQ.cC : ∀ k, (∀ y0 y1 y2 y3 y4, ag (fQ.l0 k y0 y1 y2 y3 y4) (fQ.l0 (k + 1) y0 y1 y2 y3 y4))
 | 0=>fun _ _ _ _ _ r h=>by simp [fQ.l0] at h
 | k+1=>by
  have a_:=fQ.cC k
  ·intro y0 y1 y2 y3 y4
   unfold fQ.l0
   repeat' first
    | (with_reducible first|exact a_ _ _ _ _ _|exact eO.mono _ _ _|exact ag.refl _|exact ag.none _|refine ag.ite ?_ ?_|refine ag.bind ?_ (fun _=>?_))
    | exact a_ _ _ _ _ _|exact eO.mono _ _ _|exact ag.none _|refine ag.ite ?_ ?_|refine ag.bind ?_ (fun _=>?_)
theorem fQ.mono:∀ a0 a1 a2 a3 a4 k,ag (fQ.f k a0 a1 a2 a3 a4) (fQ.f (k+1) a0 a1 a2 a3 a4):=by
 intro a0 a1 a2 a3 a4 k
 have a_:=fQ.cC k
 unfold fQ.f
 repeat' first
  | (with_reducible first|exact a_ _ _ _ _ _|exact eO.mono _ _ _|exact ag.refl _|exact ag.none _|refine ag.ite ?_ ?_|refine ag.bind ?_ (fun _=>?_))
  | exact a_ _ _ _ _ _|exact eO.mono _ _ _|exact ag.none _|refine ag.ite ?_ ?_|refine ag.bind ?_ (fun _=>?_)
def fQ.Ob:Bool × List (List Nat × List Nat):=(true,[([],[]),([0],[0]),([],[]),([],[]),([3],[3]),([],[]),([4,5],[4,5]),([6],[6]),([],[]),([7,8],[7,8]),([1,2,0,1,2,3,4,5,6,7,8,9],[1,2]),([10,9,9,0,1,2,3,4,5,6,7,8,9],[9,10])])
def fQ.Uw:List Nat:=[0,1,0,0,8,0,56,120,0,504,1023,2047]
theorem fQ.aeY:fh .any (opsOf Try.f197 12)=fQ.Ob:=by kernel_rfl
theorem fQ.Xk:kN fQ.Ob.2 fQ.Uw=true:=by kernel_rfl
set_option maxHeartbeats 8000000 in
set_option maxRecDepth 100000 in
theorem fQ.calls (k : Nat) (g : Nat) (anK : List Int) (cD : Int) (cI : Int) (fU : Int) (aoR : Nat → Prop) (kP : Option Addr) (kY : Nat) (fB : List (List Int)) (r1 : Int) (r2 : List (List Int)) (r3 : Int) (r4 : Int) (w0 w : World) (hI : af w0 w g anK cD cI) (hB : Below w0.heap.size w0 w) (aco : Kd.V (Kd.slice 2 (Kd.int .i64)) 28 w w.heap.size (fun k_ => aoR k_ ∧ k_ ≠ g) (.slice kP fB.length kY) fB) (h : fQ.f k anK cD cI fU fB = some (r1, r2, r3, r4)) :
  Calls Try.prog 197 #[.pointer (some ⟨g,0,none⟩),.agg #[.int .i64 fU,.slice kP fB.length kY]] w fun e w'=>∃ iw:Value,e=.returned (.agg #[.int .i64 r1,iw])∧Kd.V (Kd.slice 2 (Kd.int .i64)) 28 w' w.heap.size (fun k_=>(aoR k_∨w.heap.size≤k_)) iw r2∧af w0 w' g anK r3 r4∧Below w0.heap.size w0 w'∧aM w w' g none:=by
 have jS:=Try.underlying31
 have cU:=k0 (show Kd.V (Kd.slice 2 (Kd.int .i64)) 28 w w.heap.size (fun k_=>(aoR k_∨w.heap.size≤k_)∧k_ ≠ g) (.slice kP fB.length kY) fB from Kd.anJ aco (fun k_ hk=>⟨.inl hk.1,hk.2⟩))
 have aj:=k0 hI
 have HK:=k0 (aM.refl w g none)
 have HL:=k0 hB.size
 clear hI
 have ki:=k0 hB.size
 have HB:=k0 hB
 clear hB
 have H:((dn.f anK cD cI 40).bind fun fN=>(if fN.1=0 then ((kR.f anK fN.2.1 fN.2.2 (([0,9,wrap64 (fU - 1)]:List Int))).bind fun ko=>(some (ko.1,fB,ko.2.1,ko.2.2))) else (if fN.1=1 then ((eO.f k fU fB).bind fun fD=>(if fD.2.length < 5864062014805 then (some (fD.1,(fD.2 ++ [(([0,fD.1]:List Int))]),fN.2.1,fN.2.2)) else (none))) else (if fN.1=2 then ((eO.f k fU fB).bind fun jz=>(if (jz.2.length:Int) > 0 then ((dn.f anK fN.2.1 fN.2.2 (jz.2.length:Int)).bind fun je=>(if 0≤je.1 then (if je.1 < (jz.2.length:Int) then (if (ai jz.2 je.1).length < 17592186044416 then (some (jz.1,(jz.2.set (je.1:Int).toNat ((ai jz.2 je.1) ++ [0])),je.2.1,je.2.2)) else (none)) else (none)) else (none))) else (some (jz.1,jz.2,fN.2.1,fN.2.2)))) else (if fN.1=3 then ((eO.f k fU fB).bind fun vY=>(fQ.l0 k anK fN.2.1 fN.2.2 vY.1 vY.2)) else (some (fU,fB,fN.2.1,fN.2.2)))))))=some (r1,r2,r3,r4):=h
 clear h
 replace H:=Option.bind_eq_some_iff.mp H
 obtain ⟨⟨t103,t104,t105⟩,fS,H⟩:=H
 replace H:(if t103=0 then ((kR.f anK t104 t105 (([0,9,wrap64 (fU - 1)]:List Int))).bind fun ko=>(some (ko.1,fB,ko.2.1,ko.2.2))) else (if t103=1 then ((eO.f k fU fB).bind fun fD=>(if fD.2.length < 5864062014805 then (some (fD.1,(fD.2 ++ [(([0,fD.1]:List Int))]),t104,t105)) else (none))) else (if t103=2 then ((eO.f k fU fB).bind fun jz=>(if (jz.2.length:Int) > 0 then ((dn.f anK t104 t105 (jz.2.length:Int)).bind fun je=>(if 0≤je.1 then (if je.1 < (jz.2.length:Int) then (if (ai jz.2 je.1).length < 17592186044416 then (some (jz.1,(jz.2.set (je.1:Int).toNat ((ai jz.2 je.1) ++ [0])),je.2.1,je.2.2)) else (none)) else (none)) else (none))) else (some (jz.1,jz.2,t104,t105)))) else (if t103=3 then ((eO.f k fU fB).bind fun vY=>(fQ.l0 k anK t104 t105 vY.1 vY.2)) else (some (fU,fB,t104,t105))))))=some (r1,r2,r3,r4):=H
 have A3:=k0 fS
 clear fS
 by_cases c4:t103=0
 case neg =>
  rw [if_neg c4] at H
  have gT:(t103 == 0)=false:=beq_eq_false_iff_ne.mpr c4
  have tE:(t103 != 0)=true:=bne_iff_ne.mpr c4
  by_cases c19:t103=1
  case neg =>
   rw [if_neg c19] at H
   have ux:(t103 == 1)=false:=beq_eq_false_iff_ne.mpr c19
   have Iz:(t103 != 1)=true:=bne_iff_ne.mpr c19
   by_cases c39:t103=2
   case neg =>
    rw [if_neg c39] at H
    have XW:(t103 == 2)=false:=beq_eq_false_iff_ne.mpr c39
    have XX:(t103 != 2)=true:=bne_iff_ne.mpr c39
    by_cases c78:t103=3
    case neg =>
     rw [if_neg c78] at H
     have Ye:(t103 == 3)=false:=beq_eq_false_iff_ne.mpr c78
     have Yf:(t103 != 3)=true:=bne_iff_ne.mpr c78
     simp only [Option.some.injEq,Prod.mk.injEq] at H
     obtain ⟨rfl,rfl,rfl,rfl⟩:=H
     go_enter Try.func197,Try.ntmps197
     go_wp2_with (first|((with_reducible refine bN (N:=3) rfl ?_);refine cE 3 #[.int .i64 fU,.slice kP fB.length kY] 31 ?_;intro aW hg anz aG hb;replace cU:=k0 (Kd.dz (Kd.ej (aV cU.z) aW (Nat.le_of_eq hg.symm)) hb);replace HB:=k0 (anH (by repeat (first|(with_reducible first|exact HB.z|apply bn|apply bq|apply anS|refine az ?_ (af.ge aj.z))|exact HB.z)) hb);have aa:=k0 (aG);have cu:=gW hg (ew (aK HK.z));have anQ:=k0 (Nat.le_trans ki.z cu.z);replace HK:=k0 (aM.trans (aK HK.z) (aM.gy hb g none) (.inl rfl));have eV:=k0 ((by rw [hg];exact Nat.ne_of_lt (af.lt (show af w0 _ g anK cD cI from bB aj.z)):g ≠ aW));have eW:=k0 ((by rw [hg];exact Nat.ne_of_gt (af.lt (show af w0 _ g anK cD cI from bB aj.z)):aW ≠ g));replace aj:=k0 (af.below (bB aj.z) hb);clear hb aG hg)|((with_reducible refine bN (N:=4) rfl ?_);refine cE 4 #[.int .i64 0,.slice none 0 0] 31 ?_;intro dJ hg anA aG hb;replace cU:=k0 (Kd.dz (Kd.ej (aV cU.z) dJ (Nat.le_of_eq hg.symm)) hb);replace HB:=k0 (anH (by repeat (first|(with_reducible first|exact HB.z|apply bn|apply bq|apply anS|refine az ?_ (af.ge aj.z)|refine az ?_ anQ.z)|exact HB.z)) hb);have bp:=k0 (aG);have mI:=gW hg (ew (aK HK.z));have gQ:=k0 (Nat.le_trans ki.z mI.z);replace HK:=k0 (aM.trans (aK HK.z) (aM.gy hb g none) (.inl rfl));have iB:=nL hg aa;have aof:=nG iB;replace aa:=kB aa hb;have mK:=k0 ((by rw [hg];exact Nat.ne_of_lt (af.lt (show af w0 _ g anK cD cI from bB aj.z)):g ≠ dJ));have mL:=k0 ((by rw [hg];exact Nat.ne_of_gt (af.lt (show af w0 _ g anK cD cI from bB aj.z)):dJ ≠ g));replace aj:=k0 (af.below (bB aj.z) hb);clear hb aG hg)|((with_reducible refine bS (f:=112) rfl ?_);refine gC (some 8) Try.func112 #[.pointer (some ⟨g,0,none⟩),.int .i64 40] ?_;(with_reducible refine (dn.calls g anK cD cI 40 t103 t104 t105 w0 _ ?aA ?anD A3.z).mono ?_);(case aA=>repeat (first|(with_reducible first|exact aj.z|apply af.alloc|apply af.drewN|apply af.drew|apply af.gq|apply af.gu|refine af.dM ?_ eV.z _|refine af.dM ?_ mK.z _)|exact aj.z));(case anD=>repeat (first|(with_reducible first|exact HB.z|apply bn|apply bq|apply anS|refine az ?_ (af.ge aj.z)|refine az ?_ anQ.z|refine az ?_ gQ.z)|exact HB.z));rintro e anB ⟨rfl,hi,hb,hk⟩;refine ⟨_,rfl,?_⟩;have av:=k0 (Kd.anJ (Kd.tC (Kd.anJ (ok:=fun k_=>(((((aoR k_∨w.heap.size≤k_))∧k_ ≠ g)∧k_ ≠ aW)∧k_ ≠ dJ)) (aV cU.z) (fun k_ b9=>(⟨b9,b9.1.1.2⟩:_∧k_ ≠ g))) hk (fun _ h=>h.2)) (fun _ h=>h.1));have ax:=k0 (aM.blk hk (aB aa.z) eW.z (by simp));have ay:=k0 (aM.blk hk (aB bp.z) mL.z (by simp));have anC:=k0 (aM.trans (aK HK.z) hk (.inl rfl));have aD:=k0 (hb);have anE:=k0 (hi);clear cU;clear aa;clear bp;clear HK;clear HB;clear aj;have cU:=av;have aa:=ax;have bp:=ay;have HK:=anC;have HB:=aD;have aj:=anE;clear av ax ay anC aD anE;have abT:=iB.z;have ab6:=aof.z;have akY:=eW.z;have alT:=eV.z;have ah8:=aX aa;have ah9:=aY aa;have ajy:=bF aa 0;have ajz:=bF aa 1;have abU:=mL.z;have ab7:=mK.z;have ah':=aX bp;have ah_:=aY bp;have ajA:=bF bp 0;have ajB:=bF bp 1))
     refine bodyPost_ret (results_cell_row rfl _ _ dJ 31 #[.int .i64 fU,.slice kP fB.length kY] (0,0) _ rfl (by (with_reducible repeat (first|refine anF ?_ _|refine aH ?_|refine aI ?_ _));refine anV (cs:=#[.int .i64 fU,.slice none 0 0]) ?_ 1 _ rfl;(with_reducible repeat (first|refine anF ?_ _|refine aH ?_|refine aI ?_ _));refine anV (cs:=#[.int .i64 0,.slice none 0 0]) ?_ 0 _ rfl;exact bk) Try.underlying31 rfl (by kernel_rfl)) rfl ?_
     exact ⟨_,eR,by (with_reducible repeat (first|apply Kd.cW|apply Kd.cX|apply Kd.cV));exact Kd.anJ (Kd.bG (p:=⟨dJ,1,none⟩) (Kd.bG (p:=⟨dJ,0,none⟩) (Kd.anJ cU.z (fun k_ hk=>(⟨hk,hk.2⟩:_∧k_ ≠ dJ))) (fun _ hk=>hk.2) (.int .i64 fU)) (fun _ hk=>hk.2) (.slice kP fB.length kY)) (fun _ hk=>hk.1.1.1.1),bB aj.z,by repeat (first|(with_reducible first|exact HB.z|apply bn|apply bq|apply anS|refine az ?_ (af.ge aj.z)|refine az ?_ anQ.z|refine az ?_ gQ.z)|exact HB.z),aK HK.z⟩
    rw [if_pos c78] at H
    have Ye:(t103 == 3)=true:=beq_iff_eq.mpr c78
    have Yf:(t103 != 3)=false:=bne_eq_false_iff_eq.mpr c78
    clear c78
    replace H:=Option.bind_eq_some_iff.mp H
    obtain ⟨⟨t134,t135⟩,Mz,H⟩:=H
    replace H:(fQ.l0 k anK t104 t105 t134 t135)=some (r1,r2,r3,r4):=H
    have Ur:=k0 Mz
    clear Mz
    have H':=k0 H
    clear H
    go_enter Try.func197,Try.ntmps197
    go_wp2_with (first|((with_reducible refine bN (N:=3) rfl ?_);refine cE 3 #[.int .i64 fU,.slice kP fB.length kY] 31 ?_;intro aW hg w80 aG hb;replace cU:=k0 (Kd.dz (Kd.ej (aV cU.z) aW (Nat.le_of_eq hg.symm)) hb);replace HB:=k0 (anH (by repeat (first|(with_reducible first|exact HB.z|apply bn|apply bq|apply anS|refine az ?_ (af.ge aj.z))|exact HB.z)) hb);have aa:=k0 (aG);have cu:=gW hg (ew (aK HK.z));have anQ:=k0 (Nat.le_trans ki.z cu.z);replace HK:=k0 (aM.trans (aK HK.z) (aM.gy hb g none) (.inl rfl));have eV:=k0 ((by rw [hg];exact Nat.ne_of_lt (af.lt (show af w0 _ g anK cD cI from bB aj.z)):g ≠ aW));have eW:=k0 ((by rw [hg];exact Nat.ne_of_gt (af.lt (show af w0 _ g anK cD cI from bB aj.z)):aW ≠ g));replace aj:=k0 (af.below (bB aj.z) hb);clear hb aG hg)|((with_reducible refine bN (N:=4) rfl ?_);refine cE 4 #[.int .i64 0,.slice none 0 0] 31 ?_;intro dJ hg w81 aG hb;replace cU:=k0 (Kd.dz (Kd.ej (aV cU.z) dJ (Nat.le_of_eq hg.symm)) hb);replace HB:=k0 (anH (by repeat (first|(with_reducible first|exact HB.z|apply bn|apply bq|apply anS|refine az ?_ (af.ge aj.z)|refine az ?_ anQ.z)|exact HB.z)) hb);have bp:=k0 (aG);have mI:=gW hg (ew (aK HK.z));have gQ:=k0 (Nat.le_trans ki.z mI.z);replace HK:=k0 (aM.trans (aK HK.z) (aM.gy hb g none) (.inl rfl));have iB:=nL hg aa;have aof:=nG iB;replace aa:=kB aa hb;have mK:=k0 ((by rw [hg];exact Nat.ne_of_lt (af.lt (show af w0 _ g anK cD cI from bB aj.z)):g ≠ dJ));have mL:=k0 ((by rw [hg];exact Nat.ne_of_gt (af.lt (show af w0 _ g anK cD cI from bB aj.z)):dJ ≠ g));replace aj:=k0 (af.below (bB aj.z) hb);clear hb aG hg)|((with_reducible refine bS (f:=112) rfl ?_);refine gC (some 8) Try.func112 #[.pointer (some ⟨g,0,none⟩),.int .i64 40] ?_;(with_reducible refine (dn.calls g anK cD cI 40 t103 t104 t105 w0 _ ?aA ?anD A3.z).mono ?_);(case aA=>repeat (first|(with_reducible first|exact aj.z|apply af.alloc|apply af.drewN|apply af.drew|apply af.gq|apply af.gu|refine af.dM ?_ eV.z _|refine af.dM ?_ mK.z _)|exact aj.z));(case anD=>repeat (first|(with_reducible first|exact HB.z|apply bn|apply bq|apply anS|refine az ?_ (af.ge aj.z)|refine az ?_ anQ.z|refine az ?_ gQ.z)|exact HB.z));rintro e w82 ⟨rfl,hi,hb,hk⟩;refine ⟨_,rfl,?_⟩;have av:=k0 (Kd.anJ (Kd.tC (Kd.anJ (ok:=fun k_=>(((((aoR k_∨w.heap.size≤k_))∧k_ ≠ g)∧k_ ≠ aW)∧k_ ≠ dJ)) (aV cU.z) (fun k_ b9=>(⟨b9,b9.1.1.2⟩:_∧k_ ≠ g))) hk (fun _ h=>h.2)) (fun _ h=>h.1));have ax:=k0 (aM.blk hk (aB aa.z) eW.z (by simp));have ay:=k0 (aM.blk hk (aB bp.z) mL.z (by simp));have anC:=k0 (aM.trans (aK HK.z) hk (.inl rfl));have aD:=k0 (hb);have anE:=k0 (hi);clear cU;clear aa;clear bp;clear HK;clear HB;clear aj;have cU:=av;have aa:=ax;have bp:=ay;have HK:=anC;have HB:=aD;have aj:=anE;clear av ax ay anC aD anE;have alE:=iB.z;have amy:=aof.z;have alF:=eW.z;have amz:=eV.z;have aja:=aX aa;have ajb:=aY aa;have akB:=bF aa 0;have akC:=bF aa 1)|((with_reducible refine bS (f:=231) rfl ?_);refine gC (some 56) Try.func231 #[.agg #[.int .i64 fU,.slice kP fB.length kY]] ?_;(with_reducible refine (eO.calls k fU _ _ fB t134 t135 _ ?aA ?anD Ur.z).mono ?_);(case aA=>exact aC ((Kd.cN cU.z).2.2));(case anD=>exact (Kd.cN cU.z).2.1);rintro e w86 ⟨aov,rfl,aq,hb⟩;refine ⟨_,rfl,?_⟩;have av:=k0 (Kd.b8 (aV cU.z) (Kd.an_ aq) hb);have ax:=k0 (Kd.gD (Kd.Aa (M:=fun k_=>(w.heap.size≤k_)) aq (ew (aK HK.z)) (fun k_ h_=>h_)) (ew (aK HK.z)));have ay:=k0 (af.below (bB aj.z) hb);have anC:=kB aa hb;have aD:=kB bp hb;have anE:=k0 (aM.trans (aK HK.z) (aM.gy hb g none) (.inl rfl));have anP:=k0 (anH (by repeat (first|(with_reducible first|exact HB.z|apply bn|apply bq|apply anS|refine az ?_ (af.ge aj.z)|refine az ?_ anQ.z|refine az ?_ gQ.z)|exact HB.z)) hb);clear cU;clear aj;clear aa;clear bp;clear HK;clear HB;have cU:=av;have jH:=ax;have aj:=ay;have aa:=anC;have bp:=aD;have HK:=anE;have HB:=anP;clear av ax ay anC aD anE anP;have aa5:=aX aa;have aa6:=aY aa;have abJ:=bF aa 0;have abK:=bF aa 1;obtain ⟨zD,At,Ct⟩:=Kd.eH jH.z;subst Ct))
    go_loopg [] k (fun kq w'=>∃ (oo:List (List Int)) (u102001:Value),ak (fQ.l0 kq anK t104 t105 t134 oo=some (r1,r2,r3,r4))∧ak (kq≤k)∧ak (Kd.S (Kd.slice 2 (Kd.int .i64)) 28 w' w.heap.size (fun k_=>(w.heap.size≤k_)) u102001 oo)∧ak (w'.heap[aW]?=some (.cells #[.int .i64 t134,u102001] 31 (0,0)))∧ak (w'.heap[dJ]?=some (.cells #[.int .i64 0,(.slice none 0 0)] 31 (0,0)))∧ak (af w0 w' g anK t104 t105)∧ak (aM w w' g none)∧ak (Below w0.heap.size w0 w'))
    case atStart=>exact ⟨(t135),(.slice zD t135.length At),H',⟨Nat.le_refl _⟩,⟨aS (Kd.anW (gS 1 (.slice zD t135.length At) (gS 0 (.int .i64 t134) (tS jH aa))) (fun _ hk=>hk.1.1))⟩,⟨by (with_reducible repeat (first|refine anF ?_ _|refine aH ?_|refine aI ?_ _));refine anV (cs:=#[.int .i64 t134,.slice kP fB.length kY]) ?_ 1 _ rfl;(with_reducible repeat (first|refine anF ?_ _|refine aH ?_|refine aI ?_ _));refine anV (cs:=#[.int .i64 fU,.slice kP fB.length kY]) ?_ 0 _ rfl;exact bk⟩,⟨by (with_reducible repeat (first|refine anF ?_ _|refine aH ?_|refine aI ?_ _));refine anU ?_ aof.z _;(with_reducible repeat (first|refine anF ?_ _|refine aH ?_|refine aI ?_ _));refine anU ?_ aof.z _;exact bk⟩,⟨bB aj.z⟩,⟨aK HK.z⟩,⟨by repeat (first|(with_reducible first|exact HB.z|apply bn|apply bq|apply anS|refine az ?_ (af.ge aj.z)|refine az ?_ anQ.z|refine az ?_ gQ.z)|exact HB.z)⟩⟩
    case round =>
     clear H'
     obtain ⟨oo,u102001,HA,bH,pY,aa,bp,aj,HK,HB⟩:=hrel
     cases gk with
     | zero=>exact absurd HA.z (by simp [fQ.l0])
     | succ k1 =>
      have H:=HA.z
      clear HA
      simp only [fQ.l0] at H
      by_cases c89:(oo.length:Int)≤10
      case neg =>
       rw [if_neg c89] at H
       have Yk:decide ((oo.length:Int)≤10)=false:=decide_eq_false c89
       have Yl:decide (oo.length≤10)=false:=decide_eq_false (by omega)
       clear c89
       simp only [Option.some.injEq,Prod.mk.injEq] at H
       obtain ⟨rfl,rfl,rfl,rfl⟩:=H
       have akU:=iB.z
       have alP:=aof.z
       have abR:=eW.z
       have ab4:=eV.z
       have ah0:=aX aa
       have ah1:=aY aa
       have ajq:=bF aa 0
       have ajr:=bF aa 1
       obtain ⟨MB,OM,Y8⟩:=Kd.eH pY.z
       subst Y8
       have Ro:=mL.z
       have RI:=mK.z
       have aaF:=aX bp
       have aaG:=aY bp
       have abh:=bF bp 0
       have abi:=bF bp 1
       go_wp2
       refine bodyPost_ret (results_cell_row rfl _ _ dJ 31 #[.int .i64 t134,.slice MB oo.length OM] (0,0) _ rfl (by (with_reducible repeat (first|refine anF ?_ _|refine aH ?_|refine aI ?_ _));refine anV (cs:=#[.int .i64 t134,.slice none 0 0]) ?_ 1 _ rfl;(with_reducible repeat (first|refine anF ?_ _|refine aH ?_|refine aI ?_ _));refine anV (cs:=#[.int .i64 0,.slice none 0 0]) ?_ 0 _ rfl;exact bk) Try.underlying31 rfl (by kernel_rfl)) rfl ?_
       exact ⟨_,eR,Kd.anJ (Kd.z8 (by (with_reducible repeat (first|apply Kd.di|apply Kd.dm|apply Kd.cS));exact Kd.anW (gS 1 (.slice MB oo.length OM) (gS 0 (.int .i64 t134) (tS pY bp))) (fun _ hk=>hk.1))) (fun k_ hk=>by first|exact ⟨(.inr (hk.1)),hk.2⟩|exact (.inr (hk))),bB aj.z,by repeat (first|(with_reducible first|exact HB.z|apply bn|apply bq|apply anS|refine az ?_ (af.ge aj.z)|refine az ?_ anQ.z|refine az ?_ gQ.z)|exact HB.z),aK HK.z⟩
      rw [if_pos c89] at H
      have Yk:=decide_eq_true c89
      have Yl:decide (oo.length≤10)=true:=decide_eq_true (by omega)
      clear c89
      obtain ⟨Ea,Kt⟩:∃ y_:List Int,y_=(([0,0]:List Int)):=⟨_,rfl⟩
      replace H:(if oo.length < 5864062014805 then (fQ.l0 k1 anK t104 t105 t134 (oo ++ [Ea])) else (none))=some (r1,r2,r3,r4):=rH Kt H
      have NW:=k0 Kt
      clear Kt
      replace H:=iS H;obtain ⟨c90,H⟩:=H
      have HP:=k0 c90
      clear c90
      obtain ⟨zn,yu⟩:∃ y_:List (List Int),y_=(oo ++ [Ea]):=⟨_,rfl⟩
      replace H:(fQ.l0 k1 anK t104 t105 t134 zn)=some (r1,r2,r3,r4):=rH yu H
      have ap5:=k0 yu
      clear yu
      have H':=k0 H
      clear H
      have alK:=iB.z
      have amE:=aof.z
      have alL:=eW.z
      have amF:=eV.z
      have ajg:=aX aa
      have ajh:=aY aa
      have akH:=bF aa 0
      have akI:=bF aa 1
      obtain ⟨Ei,E2,ZK⟩:=Kd.eH pY.z
      subst ZK
      go_wp2_with (first|((with_reducible refine bN (N:=63) rfl ?_);refine Kd.jd (Kd.int .i64) _ 2 ?hg (N:=63) ?hd (xs:=([0,0]:List Int)) (inner:=[.int .i64 0,.int .i64 0]) (ok:=fun _=>True) (anX:=fun _=>True) ?hr ?hp (fun _ hk=>hk) trivial (Below.refl _ _) (Nat.le_refl _) (by simp) ?_;(case hd=>rfl);(case hg=>rfl);(case hr=>first|(go_simp;done)|(go_simp;rfl));(case hp=>exact (bu.one (show Kd.M (Kd.int .i64) _ _ _ 0 [.int .i64 0] from rfl) (bu.one (show Kd.M (Kd.int .i64) _ _ _ 0 [.int .i64 0] from rfl) (bu.none _ _))));intro v139 w95 AK hb c_ dc;clear c_ dc;(first|rw [← NW.z] at AK|(simp only [Int.reduceToNat] at AK;rw [← NW.z] at AK));have av:=k0 (Kd.an6 (aS pY.z) (Kd.aU AK) hb);have ax:=k0 (Kd.cH (Kd.BO (M:=fun k_=>(w.heap.size≤k_)) AK (ew (aK HK.z)) (fun k_ h_=>h_)) (ew (aK HK.z)));have ay:=kB aa hb;have anC:=kB bp hb;have aD:=k0 (af.below (bB aj.z) hb);have anE:=k0 (aM.trans (aK HK.z) (aM.gy hb g none) (.inl rfl));have anP:=k0 (anH (by repeat (first|(with_reducible first|exact HB.z|apply bn|apply bq|apply anS|refine az ?_ (af.ge aj.z)|refine az ?_ anQ.z|refine az ?_ gQ.z)|exact HB.z)) hb);clear pY;clear aa;clear bp;clear aj;clear HK;clear HB;have pY:=av;have Et:=ax;have aa:=ay;have bp:=anC;have aj:=aD;have HK:=anE;have HB:=anP;clear av ax ay anC aD anE anP;clear hb AK;obtain ⟨MR,O3,ZM⟩:=Kd.cK Et.z;subst ZM)|((with_reducible refine aoi (b:=.append) (xs:=#[.tmp 62,.tmp 64]) rfl ?_);at_builtin;refine Kd.tA (Kd.slice 2 (Kd.int .i64)) w.heap.size rfl (.tmp 62) (.tmp 64) 22 28 (.slice none 0 0) 24 rfl Try.underlying22 qI rfl (by decide) (by omega) (.slice Ei oo.length E2) oo Ea [.slice MR Ea.length O3] (fun k_=>(w.heap.size≤k_)) (fun k_=>some k_=(.slice MR Ea.length O3:Value).ownBlock) rfl rfl ?aP (fun k_ b9=>((Kd.aT (ok':=fun k_=>((fun k_=>(w.heap.size≤k_))) k_∧some k_ ≠ (.slice Ei oo.length E2:Value).ownBlock) (Kd.jx (Et.z) (Kd.iR pY.z) (by decide)) (fun k_ hk=>⟨hk.1.1,hk.2⟩))).1 k_ b9.symm) ?aF ?aO (Below.refl _ _) ?aS ?aL ?_;(case aP=>exact Kd.lg (Kd.aT (Kd.oB rfl (Kd.aT (ok':=fun k_=>((fun k_=>(w.heap.size≤k_))) k_∧some k_ ≠ (.slice Ei oo.length E2:Value).ownBlock) (Kd.jx (Et.z) (Kd.iR pY.z) (by decide)) (fun k_ hk=>⟨hk.1.1,hk.2⟩))) (fun _ h_=>h_)));(case aF=>exact (fun k_ hk=>(Nat.le_trans (ew (aK HK.z)) hk)));(case aO=>exact (by (with_reducible repeat (first|apply Kd.di|apply Kd.dm|apply Kd.cS));exact Kd.anW pY.z (fun k_ hk=>⟨hk.1,fun e_=>hk.2 e_⟩)));(case aS=>exact (ew (aK HK.z)));(case aL=>have:=HP.out;omega);intro anh w97 ho hb hg bz;rw [← ap5.z] at ho;have av:=k0 (gh (aB aa.z) hg (Kd.kD pY.z aa.z (by decide)));have ax:=k0 (gh (aB bp.z) hg (Kd.kD pY.z bp.z (by decide)));have ay:=k0 (af.grown (bB aj.z) hg (af.yH aj.z pY.z (by decide)));have anC:=k0 (vX (by repeat (first|(with_reducible first|exact HB.z|apply bn|apply bq|apply anS|refine az ?_ (af.ge aj.z)|refine az ?_ anQ.z|refine az ?_ gQ.z)|exact HB.z)) HL.z hb);have aD:=k0 (aM.trans (aK HK.z) (aM.sP hg g) (Kd.xp pY.z));have anE:=k0 (ho);clear aa;clear bp;clear aj;clear HB;clear HK;clear pY;clear Et;have aa:=av;have bp:=ax;have aj:=ay;have HB:=anC;have HK:=aD;have Nt:=anE;clear av ax ay anC aD anE;clear ho hb hg bz;obtain ⟨Bo,Ch,I7⟩:=Kd.eH Nt.z;subst I7;have aaD:=aX aa;have aaE:=aY aa;have abf:=bF aa 0;have abg:=bF aa 1))
      go_roundg k1
      case measure=>have:=bH.z;omega
      case rel=>exact ⟨(zn),(.slice Bo zn.length Ch),H',⟨by have:=bH.z;omega⟩,⟨aS (Kd.anW (gS 1 (.slice Bo zn.length Ch) (tS Nt aa)) (fun _ hk=>hk.1))⟩,⟨by (with_reducible repeat (first|refine anF ?_ _|refine aH ?_|refine aI ?_ _));refine anV (cs:=#[.int .i64 t134,.slice Ei oo.length E2]) ?_ 1 _ rfl;exact bk⟩,⟨by (with_reducible repeat (first|refine anF ?_ _|refine aH ?_|refine aI ?_ _));refine anU ?_ aof.z _;exact bk⟩,⟨bB aj.z⟩,⟨aK HK.z⟩,⟨by repeat (first|(with_reducible first|exact HB.z|apply bn|apply bq|apply anS|refine az ?_ (af.ge aj.z)|refine az ?_ anQ.z|refine az ?_ gQ.z)|exact HB.z)⟩⟩
   rw [if_pos c39] at H
   have XW:(t103 == 2)=true:=beq_iff_eq.mpr c39
   have XX:(t103 != 2)=false:=bne_eq_false_iff_eq.mpr c39
   clear c39
   replace H:=Option.bind_eq_some_iff.mp H
   obtain ⟨⟨t122,t123⟩,Mn,H⟩:=H
   replace H:(if (t123.length:Int) > 0 then ((dn.f anK t104 t105 (t123.length:Int)).bind fun je=>(if 0≤je.1 then (if je.1 < (t123.length:Int) then (if (ai t123 je.1).length < 17592186044416 then (some (t122,(t123.set (je.1:Int).toNat ((ai t123 je.1) ++ [0])),je.2.1,je.2.2)) else (none)) else (none)) else (none))) else (some (t122,t123,t104,t105)))=some (r1,r2,r3,r4):=H
   have jt:=k0 Mn
   clear Mn
   by_cases c41:(t123.length:Int) > 0
   case neg =>
    rw [if_neg c41] at H
    have Ow:decide (0 < (t123.length:Int))=false:=decide_eq_false c41
    have Ox:decide (0 < t123.length)=false:=decide_eq_false (by omega)
    clear c41
    simp only [Option.some.injEq,Prod.mk.injEq] at H
    obtain ⟨rfl,rfl,rfl,rfl⟩:=H
    go_enter Try.func197,Try.ntmps197
    go_wp2_with (first|((with_reducible refine bN (N:=3) rfl ?_);refine cE 3 #[.int .i64 fU,.slice kP fB.length kY] 31 ?_;intro aW hg w67 aG hb;replace cU:=k0 (Kd.dz (Kd.ej (aV cU.z) aW (Nat.le_of_eq hg.symm)) hb);replace HB:=k0 (anH (by repeat (first|(with_reducible first|exact HB.z|apply bn|apply bq|apply anS|refine az ?_ (af.ge aj.z))|exact HB.z)) hb);have aa:=k0 (aG);have cu:=gW hg (ew (aK HK.z));have anQ:=k0 (Nat.le_trans ki.z cu.z);replace HK:=k0 (aM.trans (aK HK.z) (aM.gy hb g none) (.inl rfl));have eV:=k0 ((by rw [hg];exact Nat.ne_of_lt (af.lt (show af w0 _ g anK cD cI from bB aj.z)):g ≠ aW));have eW:=k0 ((by rw [hg];exact Nat.ne_of_gt (af.lt (show af w0 _ g anK cD cI from bB aj.z)):aW ≠ g));replace aj:=k0 (af.below (bB aj.z) hb);clear hb aG hg)|((with_reducible refine bN (N:=4) rfl ?_);refine cE 4 #[.int .i64 0,.slice none 0 0] 31 ?_;intro dJ hg w68 aG hb;replace cU:=k0 (Kd.dz (Kd.ej (aV cU.z) dJ (Nat.le_of_eq hg.symm)) hb);replace HB:=k0 (anH (by repeat (first|(with_reducible first|exact HB.z|apply bn|apply bq|apply anS|refine az ?_ (af.ge aj.z)|refine az ?_ anQ.z)|exact HB.z)) hb);have bp:=k0 (aG);have mI:=gW hg (ew (aK HK.z));have gQ:=k0 (Nat.le_trans ki.z mI.z);replace HK:=k0 (aM.trans (aK HK.z) (aM.gy hb g none) (.inl rfl));have iB:=nL hg aa;have aof:=nG iB;replace aa:=kB aa hb;have mK:=k0 ((by rw [hg];exact Nat.ne_of_lt (af.lt (show af w0 _ g anK cD cI from bB aj.z)):g ≠ dJ));have mL:=k0 ((by rw [hg];exact Nat.ne_of_gt (af.lt (show af w0 _ g anK cD cI from bB aj.z)):dJ ≠ g));replace aj:=k0 (af.below (bB aj.z) hb);clear hb aG hg)|((with_reducible refine bS (f:=112) rfl ?_);refine gC (some 8) Try.func112 #[.pointer (some ⟨g,0,none⟩),.int .i64 40] ?_;(with_reducible refine (dn.calls g anK cD cI 40 t103 t104 t105 w0 _ ?aA ?anD A3.z).mono ?_);(case aA=>repeat (first|(with_reducible first|exact aj.z|apply af.alloc|apply af.drewN|apply af.drew|apply af.gq|apply af.gu|refine af.dM ?_ eV.z _|refine af.dM ?_ mK.z _)|exact aj.z));(case anD=>repeat (first|(with_reducible first|exact HB.z|apply bn|apply bq|apply anS|refine az ?_ (af.ge aj.z)|refine az ?_ anQ.z|refine az ?_ gQ.z)|exact HB.z));rintro e w69 ⟨rfl,hi,hb,hk⟩;refine ⟨_,rfl,?_⟩;have av:=k0 (Kd.anJ (Kd.tC (Kd.anJ (ok:=fun k_=>(((((aoR k_∨w.heap.size≤k_))∧k_ ≠ g)∧k_ ≠ aW)∧k_ ≠ dJ)) (aV cU.z) (fun k_ b9=>(⟨b9,b9.1.1.2⟩:_∧k_ ≠ g))) hk (fun _ h=>h.2)) (fun _ h=>h.1));have ax:=k0 (aM.blk hk (aB aa.z) eW.z (by simp));have ay:=k0 (aM.blk hk (aB bp.z) mL.z (by simp));have anC:=k0 (aM.trans (aK HK.z) hk (.inl rfl));have aD:=k0 (hb);have anE:=k0 (hi);clear cU;clear aa;clear bp;clear HK;clear HB;clear aj;have cU:=av;have aa:=ax;have bp:=ay;have HK:=anC;have HB:=aD;have aj:=anE;clear av ax ay anC aD anE;have abZ:=iB.z;have acd:=aof.z;have alw:=eW.z;have amq:=eV.z;have ai1:=aX aa;have ai2:=aY aa;have akq:=bF aa 0;have akr:=bF aa 1)|((with_reducible refine bS (f:=231) rfl ?_);refine gC (some 33) Try.func231 #[.agg #[.int .i64 fU,.slice kP fB.length kY]] ?_;(with_reducible refine (eO.calls k fU _ _ fB t122 t123 _ ?aA ?anD jt.z).mono ?_);(case aA=>exact aC ((Kd.cN cU.z).2.2));(case anD=>exact (Kd.cN cU.z).2.1);rintro e w73 ⟨v124,rfl,aq,hb⟩;refine ⟨_,rfl,?_⟩;have av:=k0 (Kd.b8 (aV cU.z) (Kd.an_ aq) hb);have ax:=k0 (Kd.gD (Kd.Aa (M:=fun k_=>(w.heap.size≤k_)) aq (ew (aK HK.z)) (fun k_ h_=>h_)) (ew (aK HK.z)));have ay:=k0 (af.below (bB aj.z) hb);have anC:=kB aa hb;have aD:=kB bp hb;have anE:=k0 (aM.trans (aK HK.z) (aM.gy hb g none) (.inl rfl));have anP:=k0 (anH (by repeat (first|(with_reducible first|exact HB.z|apply bn|apply bq|apply anS|refine az ?_ (af.ge aj.z)|refine az ?_ anQ.z|refine az ?_ gQ.z)|exact HB.z)) hb);clear cU;clear aj;clear aa;clear bp;clear HK;clear HB;have cU:=av;have jw:=ax;have aj:=ay;have aa:=anC;have bp:=aD;have HK:=anE;have HB:=anP;clear av ax ay anC aD anE anP;have aa3:=aX aa;have aa4:=aY aa;have abG:=bF aa 0;have abH:=bF aa 1;obtain ⟨zC,Ar,I6⟩:=Kd.eH jw.z;subst I6;have alz:=mL.z;have amt:=mK.z;have ai5:=aX bp;have ai6:=aY bp;have aku:=bF bp 0;have akv:=bF bp 1))
    refine bodyPost_ret (results_cell_row rfl _ _ dJ 31 #[.int .i64 t122,.slice zC t123.length Ar] (0,0) _ rfl (by (with_reducible repeat (first|refine anF ?_ _|refine aH ?_|refine aI ?_ _));refine anV (cs:=#[.int .i64 t122,.slice none 0 0]) ?_ 1 _ rfl;(with_reducible repeat (first|refine anF ?_ _|refine aH ?_|refine aI ?_ _));refine anV (cs:=#[.int .i64 0,.slice none 0 0]) ?_ 0 _ rfl;(with_reducible repeat (first|refine anF ?_ _|refine aH ?_|refine aI ?_ _));refine anU ?_ aof.z _;(with_reducible repeat (first|refine anF ?_ _|refine aH ?_|refine aI ?_ _));refine anU ?_ aof.z _;exact bk) Try.underlying31 rfl (by kernel_rfl)) rfl ?_
    exact ⟨_,eR,Kd.anJ (Kd.z8 (by (with_reducible repeat (first|apply Kd.di|apply Kd.dm|apply Kd.cS));exact Kd.anW (Kd.oC (p:=⟨dJ,1,none⟩) (Kd.oC (p:=⟨dJ,0,none⟩) (Kd.oC (p:=⟨aW,1,none⟩) (Kd.oC (p:=⟨aW,0,none⟩) (Kd.xu (tS jw aa) bp.z (by decide)) (fun _ hk=>hk.1.2) (.int .i64 t122)) (fun _ hk=>hk.1.2) (.slice zC t123.length Ar)) (fun _ hk=>hk.2) (.int .i64 t122)) (fun _ hk=>hk.2) (.slice zC t123.length Ar)) (fun _ hk=>hk.1.1.1))) (fun k_ hk=>by first|exact ⟨(.inr (hk.1)),hk.2⟩|exact (.inr (hk))),bB aj.z,by repeat (first|(with_reducible first|exact HB.z|apply bn|apply bq|apply anS|refine az ?_ (af.ge aj.z)|refine az ?_ anQ.z|refine az ?_ gQ.z)|exact HB.z),aK HK.z⟩
   rw [if_pos c41] at H
   have Ow:=decide_eq_true c41
   have Ox:decide (0 < t123.length)=true:=decide_eq_true (by omega)
   clear c41
   replace H:=Option.bind_eq_some_iff.mp H
   obtain ⟨⟨t126,t127,t128⟩,Mo,H⟩:=H
   replace H:(if 0≤t126 then (if t126 < (t123.length:Int) then (if (ai t123 t126).length < 17592186044416 then (some (t122,(t123.set (t126:Int).toNat ((ai t123 t126) ++ [0])),t127,t128)) else (none)) else (none)) else (none))=some (r1,r2,r3,r4):=H
   have Uo:=k0 Mo
   clear Mo
   replace H:=iS H;obtain ⟨c43,H⟩:=H
   have agW:=decide_eq_true c43
   clear c43
   replace H:=iS H;obtain ⟨c44,H⟩:=H
   have agX:=decide_eq_true c44
   clear c44
   replace H:=iS H;obtain ⟨c45,H⟩:=H
   have V1:=k0 c45
   clear c45
   obtain ⟨lZ,yq⟩:∃ y_:List Int,y_=((ai t123 t126) ++ [0]):=⟨_,rfl⟩
   replace H:(some (t122,(t123.set (t126:Int).toNat lZ),t127,t128))=some (r1,r2,r3,r4):=rH yq H
   have HU:=k0 yq
   clear yq
   obtain ⟨D_,yt⟩:∃ y_:List (List Int),y_=(t123.set (t126:Int).toNat lZ):=⟨_,rfl⟩
   replace H:(some (t122,D_,t127,t128))=some (r1,r2,r3,r4):=rH yt H
   have HV:=k0 yt
   clear yt
   simp only [Option.some.injEq,Prod.mk.injEq] at H
   obtain ⟨rfl,rfl,rfl,rfl⟩:=H
   go_enter Try.func197,Try.ntmps197
   try go_wp2_with (first|((with_reducible refine bN (N:=3) rfl ?_);refine cE 3 #[.int .i64 fU,.slice kP fB.length kY] 31 ?_;intro aW hg LX aG hb;replace cU:=k0 (Kd.dz (Kd.ej (aV cU.z) aW (Nat.le_of_eq hg.symm)) hb);replace HB:=k0 (anH (by repeat (first|(with_reducible first|exact HB.z|apply bn|apply bq|apply anS|refine az ?_ (af.ge aj.z))|exact HB.z)) hb);have aa:=k0 (aG);have cu:=gW hg (ew (aK HK.z));have anQ:=k0 (Nat.le_trans ki.z cu.z);replace HK:=k0 (aM.trans (aK HK.z) (aM.gy hb g none) (.inl rfl));have eV:=k0 ((by rw [hg];exact Nat.ne_of_lt (af.lt (show af w0 _ g anK cD cI from bB aj.z)):g ≠ aW));have eW:=k0 ((by rw [hg];exact Nat.ne_of_gt (af.lt (show af w0 _ g anK cD cI from bB aj.z)):aW ≠ g));replace aj:=k0 (af.below (bB aj.z) hb);clear hb aG hg)|((with_reducible refine bN (N:=4) rfl ?_);refine cE 4 #[.int .i64 0,.slice none 0 0] 31 ?_;intro dJ hg w48 aG hb;replace cU:=k0 (Kd.dz (Kd.ej (aV cU.z) dJ (Nat.le_of_eq hg.symm)) hb);replace HB:=k0 (anH (by repeat (first|(with_reducible first|exact HB.z|apply bn|apply bq|apply anS|refine az ?_ (af.ge aj.z)|refine az ?_ anQ.z)|exact HB.z)) hb);have bp:=k0 (aG);have mI:=gW hg (ew (aK HK.z));have gQ:=k0 (Nat.le_trans ki.z mI.z);replace HK:=k0 (aM.trans (aK HK.z) (aM.gy hb g none) (.inl rfl));have iB:=nL hg aa;have aof:=nG iB;replace aa:=kB aa hb;have mK:=k0 ((by rw [hg];exact Nat.ne_of_lt (af.lt (show af w0 _ g anK cD cI from bB aj.z)):g ≠ dJ));have mL:=k0 ((by rw [hg];exact Nat.ne_of_gt (af.lt (show af w0 _ g anK cD cI from bB aj.z)):dJ ≠ g));replace aj:=k0 (af.below (bB aj.z) hb);clear hb aG hg)|((with_reducible refine bS (f:=112) rfl ?_);refine gC (some 8) Try.func112 #[.pointer (some ⟨g,0,none⟩),.int .i64 40] ?_;(with_reducible refine (dn.calls g anK cD cI 40 t103 t104 t105 w0 _ ?aA ?anD A3.z).mono ?_);(case aA=>repeat (first|(with_reducible first|exact aj.z|apply af.alloc|apply af.drewN|apply af.drew|apply af.gq|apply af.gu|refine af.dM ?_ eV.z _|refine af.dM ?_ mK.z _)|exact aj.z));(case anD=>repeat (first|(with_reducible first|exact HB.z|apply bn|apply bq|apply anS|refine az ?_ (af.ge aj.z)|refine az ?_ anQ.z|refine az ?_ gQ.z)|exact HB.z));rintro e LY ⟨rfl,hi,hb,hk⟩;refine ⟨_,rfl,?_⟩;have av:=k0 (Kd.anJ (Kd.tC (Kd.anJ (ok:=fun k_=>(((((aoR k_∨w.heap.size≤k_))∧k_ ≠ g)∧k_ ≠ aW)∧k_ ≠ dJ)) (aV cU.z) (fun k_ b9=>(⟨b9,b9.1.1.2⟩:_∧k_ ≠ g))) hk (fun _ h=>h.2)) (fun _ h=>h.1));have ax:=k0 (aM.blk hk (aB aa.z) eW.z (by simp));have ay:=k0 (aM.blk hk (aB bp.z) mL.z (by simp));have anC:=k0 (aM.trans (aK HK.z) hk (.inl rfl));have aD:=k0 (hb);have anE:=k0 (hi);clear cU;clear aa;clear bp;clear HK;clear HB;clear aj;have cU:=av;have aa:=ax;have bp:=ay;have HK:=anC;have HB:=aD;have aj:=anE;clear av ax ay anC aD anE;have aln:=iB.z;have amh:=aof.z;have abX:=eW.z;have ab':=eV.z;have aaV:=aX aa;have aaW:=aY aa;have aby:=bF aa 0;have abz:=bF aa 1)|((with_reducible refine bS (f:=231) rfl ?_);refine gC (some 33) Try.func231 #[.agg #[.int .i64 fU,.slice kP fB.length kY]] ?_;(with_reducible refine (eO.calls k fU _ _ fB t122 t123 _ ?aA ?anD jt.z).mono ?_);(case aA=>exact aC ((Kd.cN cU.z).2.2));(case anD=>exact (Kd.cN cU.z).2.1);rintro e w53 ⟨v124,rfl,aq,hb⟩;refine ⟨_,rfl,?_⟩;have av:=k0 (Kd.b8 (aV cU.z) (Kd.an_ aq) hb);have ax:=k0 (Kd.gD (Kd.Aa (M:=fun k_=>(w.heap.size≤k_)) aq (ew (aK HK.z)) (fun k_ h_=>h_)) (ew (aK HK.z)));have ay:=k0 (af.below (bB aj.z) hb);have anC:=kB aa hb;have aD:=kB bp hb;have anE:=k0 (aM.trans (aK HK.z) (aM.gy hb g none) (.inl rfl));have anP:=k0 (anH (by repeat (first|(with_reducible first|exact HB.z|apply bn|apply bq|apply anS|refine az ?_ (af.ge aj.z)|refine az ?_ anQ.z|refine az ?_ gQ.z)|exact HB.z)) hb);clear cU;clear aj;clear aa;clear bp;clear HK;clear HB;have cU:=av;have jw:=ax;have aj:=ay;have aa:=anC;have bp:=aD;have HK:=anE;have HB:=anP;clear av ax ay anC aD anE anP;have aaX:=aX aa;have aaY:=aY aa;have abA:=bF aa 0;have abB:=bF aa 1;obtain ⟨Bn,sg,Ax⟩:=Kd.eH jw.z;subst Ax)|((with_reducible refine bS (f:=112) rfl ?_);refine gC (some 41) Try.func112 #[.pointer (some ⟨g,0,none⟩),.int .i64 (t123.length:Int)] ?_;(with_reducible refine (dn.calls g anK t104 t105 (t123.length:Int) t126 t127 t128 w0 _ ?aA ?anD Uo.z).mono ?_);(case aA=>repeat (first|(with_reducible first|exact aj.z|apply af.alloc|apply af.drewN|apply af.drew|apply af.gq|apply af.gu|refine af.dM ?_ eV.z _|refine af.dM ?_ mK.z _)|exact aj.z));(case anD=>repeat (first|(with_reducible first|exact HB.z|apply bn|apply bq|apply anS|refine az ?_ (af.ge aj.z)|refine az ?_ anQ.z|refine az ?_ gQ.z)|exact HB.z));rintro e w56 ⟨rfl,hi,hb,hk⟩;refine ⟨_,rfl,?_⟩;replace cU:=k0 (Kd.anJ (Kd.tC (Kd.anJ (ok:=fun k_=>((((((aoR k_∨w.heap.size≤k_))∧k_ ≠ g)∧k_ ≠ aW)∧k_ ≠ dJ)∧some k_ ≠ (.slice Bn t123.length sg:Value).ownBlock)) (by (with_reducible repeat (first|apply Kd.cW|apply Kd.cX|apply Kd.cV));exact (Kd.anJ (Kd.bG (p:=⟨aW,1,none⟩) (Kd.bG (p:=⟨aW,0,none⟩) (Kd.anJ cU.z (fun k_ hk=>(⟨hk,hk.1.1.2⟩:_∧k_ ≠ aW))) (fun _ hk=>hk.2) (.int .i64 t122)) (fun _ hk=>hk.2) (.slice Bn t123.length sg)) (fun _ h_=>h_.1))) (fun k_ b9=>(⟨b9,b9.1.1.1.2⟩:_∧k_ ≠ g))) hk (fun _ h=>h.2)) (fun _ h=>h.1));replace bp:=k0 (aM.blk hk (g':=dJ) (o:=.cells #[.int .i64 0,.slice none 0 0] 31 (0,0)) (by (with_reducible repeat (first|refine anF ?_ _|refine aH ?_|refine aI ?_ _));refine anU ?_ aof.z _;(with_reducible repeat (first|refine anF ?_ _|refine aH ?_|refine aI ?_ _));refine anU ?_ aof.z _;exact bk) mL.z (by simp));replace jw:=k0 (Kd.anW (Kd.aoH (af.nW (show af w0 _ g anK t104 t105 from bB aj.z) (by (with_reducible repeat (first|apply Kd.di|apply Kd.dm|apply Kd.cS));exact (Kd.anW (gS 1 (.slice Bn t123.length sg) (gS 0 (.int .i64 t122) (tS jw aa))) (fun _ h_=>h_.1))) (by decide)) hk (fun _ h=>h.2)) (fun _ h=>h.1));replace aa:=k0 (aM.blk hk (g':=aW) (o:=sO t122 Bn t123 sg 31) (by (with_reducible repeat (first|refine anF ?_ _|refine aH ?_|refine aI ?_ _));refine anV (cs:=#[.int .i64 t122,.slice kP fB.length kY]) ?_ 1 _ rfl;(with_reducible repeat (first|refine anF ?_ _|refine aH ?_|refine aI ?_ _));refine anV (cs:=#[.int .i64 fU,.slice kP fB.length kY]) ?_ 0 _ rfl;exact bk) eW.z (by simp));replace HK:=k0 (aM.trans (aK HK.z) hk (.inl rfl));replace HB:=k0 (hb);replace aj:=k0 (hi);))
   replace cU:=k0 (Kd.cV cU.z);replace jw:=k0 (Kd.cS jw.z);replace aa:=k0 (aH aa.z);replace bp:=k0 (aH bp.z);replace aj:=k0 (af.drew aj.z);replace HK:=k0 (Sv HK.z);replace HB:=k0 (anS HB.z)
   have wJ:0≤(t126:Int):=oD
   have wL:t126 < (t123.length:Int):=oD
   obtain ⟨Oh,Ef,apL,e129,tL,Da,C4⟩:=fu (Kd.anY jw.z).2.2 t126 wJ wL
   cases e129
   obtain ⟨ahg,aar,aai,P3⟩:=Kd.o4 jw.z [] t126 wJ (by first|exact wL|exact oD|(have e_:=(Kd.anY jw.z).1;omega))
   obtain ⟨anp,rfl,Je⟩:=aai
   have Du:=P3 0 _ rfl
   rw [Nat.add_zero,show ((Kd.slice 2 (Kd.int .i64))).sz=1 from rfl,Nat.mul_one] at Du
   replace Du:=Option.some.inj (Du.symm.trans tL)
   rw [Du] at Je
   have aoN:=k0 (show Kd.R (Kd.int .i64) 2 _ _ _ _ (ai t123 t126) from Je)
   clear Du Je
   have NI:=k0 tL
   clear P3 aar
   have apP:=k0 C4
   have Vc:=k0 Da
   clear C4 Da
   replace wJ:=eq_true wJ
   replace wL:=eq_true wL
   have n_:=k0 (Kd.anW (ok':=(fun k_=>(w.heap.size≤k_))) jw.z (fun k_ hk=>hk.1))
   clear jw
   have jw:=n_
   clear n_
   obtain ⟨oa,IP,xN,PC,Z3,ahs,Ni⟩:=Kd.WG jw.z (by have h_:(t126:Int) < ((t123.length:Int):Int):=oD;have E_:0≤(t126:Int):=oD;omega)
   (first|cases xN|(injection xN with dH jB jA;(first|subst dH|(injection dH with dH;subst dH));subst jA;clear jB))
   have UW:=k0 PC
   have U2:=k0 Ni
   clear PC Z3 Ni
   (first|simp only [add_plain] at tL|skip)
   obtain ⟨S0,ahm,aay,aac,P9,_,_,PL⟩:=Kd.WE jw.z [] (t126:Int) oD (by have h_:(t126:Int) < ((t123.length:Int):Int):=oD;first|exact h_|(have e_:=(Kd.anY jw.z).1;omega)|simpa using h_)
   obtain ⟨anv,rfl,PD⟩:=aac
   have Dv:=P9 0 _ rfl
   have Jp:=NI.z
   (try simp only [add_plain] at Jp)
   (try simp only [Nat.add_zero] at Dv)
   (try rw [show ((Kd.slice 2 (Kd.int .i64))).sz=1 from rfl,Nat.mul_one] at Dv)
   replace Dv:=Option.some.inj (Dv.symm.trans Jp)
   subst Dv
   clear Jp P9 aay
   have EJ:=k0 (show Kd.R (Kd.int .i64) 2 _ w.heap.size S0 (.slice Ef (ai t123 t126).length apL) (ai t123 t126) from PD)
   have ao_:=k0 PL
   have Ho:=k0 (Kd.anY jw.z).1
   clear PL PD
   refine oO (n:=12) (S:=fun w'=>w'.cell? ⟨aW,0,none⟩=some (.int .i64 t122)∧w'.cell? ⟨aW,1,none⟩=some (.slice (some ⟨oa,0,none⟩) t123.length sg)∧w'.cell? ⟨oa,(t126).toNat,none⟩=some (.slice Ef (ai t123 t126).length apL)) (ds:=[11]) (ba 12 0) (by kernel_rfl) rfl rfl ⟨aX aa,aY aa,tL⟩ (fun hHeld=>?_);refine qt fQ.aeY fQ.Xk (fun anM eE=>?_)
   generalize w56.drew=aqa at cU jw aa bp aj HK HB U2 ao_ aoN apP NI EJ tL hHeld ⊢
   refine pu 0 (some 42) (ba 12 1) anM (h:=?_)
   refine pu 2 (some 44) (ba 12 5) anM (h:=?_)
   refine pu 3 (some 45) (ba 12 13) anM (h:=?_)
   refine pu 5 (some 47) (ba 12 45) anM (h:=?_)
   refine ta 1 (some 43) (ba 12 47) anM eE hHeld (hy:=Or.inl ⟨by rfl,by rintro w' ⟨s0,s1,s2⟩;go_simp;with_reducible rfl⟩) (h:=?_)
   refine ta 4 (some 46) (ba 12 63) anM eE hHeld (hy:=Or.inl ⟨by rfl,by rintro w' ⟨s0,s1,s2⟩;go_simp;with_reducible rfl⟩) (h:=?_)
   refine pu 6 (some 48) (ba 12 127) anM (h:=?_)
   refine ta 7 (some 49) (ba 12 255) anM eE hHeld (hy:=Or.inl ⟨by rfl,by rintro w' ⟨s0,s1,s2⟩;go_simp;with_reducible rfl⟩) (h:=?_)
   refine nF (i:=8) (N:=some 50) (ba 12 511) rfl rfl (j7 anM.out (by kernel_rfl)) (by decide) (fun K hK=>?_)
   refine ao2 (w1:=?_) (v:=?_) (by rfl) rfl ?_ ?_
   rotate_left 2
   ·go_simp
    constructor
    ·rfl
    ·rfl
   refine hK.out _ _ ⟨(eX (aI aa.z _) 0).trans rfl,(eX (aI aa.z _) 1).trans rfl,(World.cell?_alloc_lt _ _ _ (World.block_lt_of_cell? _ _ (hHeld.2.2))).trans (hHeld.2.2)⟩ (fun hHeld=>?_)
   clear hK K
   refine mY (a':=?_) ?_ ?_
   rotate_left;· show Act.put _ (some 50) _=_;simp only [Act.put,zI,zZ,zS,dX,eZ];rfl
   refine nF (i:=9) (N:=some 51) (ba 12 1023) rfl rfl (j7 anM.out (by kernel_rfl)) (by decide) (fun K hK=>?_)
   refine Kd.H6 (Kd.int .i64) w.heap.size (by rfl) (.tmp 49) (.tmp 50) 28 2 (.int .i64 0) 8 rfl Try.underlying28 aoj rfl (by decide) (by omega) (.slice Ef (ai t123 t126).length apL) (ai t123 t126) 0 [.int .i64 0] (fun k_=>S0 k_∨((fun k_=>(w.heap.size≤k_))) k_∧aqa.heap.size≤k_) (fun _=>False) rfl rfl ?aP (fun _ hk=>hk.elim) ?aF ?aO (Below.refl _ _) ?aS ?aL ?_
   (case aP=>exact rfl)
   (case aF=>exact (fun k_ hk=>.inr ⟨by first|trivial|exact Nat.le_trans (ew (aK HK.z)) hk,hk⟩))
   (case aO=>exact (by (with_reducible repeat (first|apply Kd.b_|apply Kd.bZ|apply Kd.bP));exact Kd.aT EJ.out (fun _ hk=>.inl hk)))
   (case aS=>exact (ew (aK HK.z)))
   (case aL=>have:=V1.out;omega)
   intro v131 wQ ho hb hg bz
   (first|have Ew:=uz hg (hHeld.2.2) (by first|(rw [add_block];exact (fun e_=>((aoN.z.1 _ e_.symm).2) rfl))|(show some (Addr.add _ _).block ≠ _;rw [add_block];exact (fun e_=>((aoN.z.1 _ e_.symm).2) rfl))|exact (fun e_=>((aoN.z.1 _ e_.symm).2) rfl))|have Ew:=uz hg (Yw (hHeld.2.2) (by first|(rw [add_block];exact Kd.vU jw.z _ rfl)|(show (Addr.add _ _).block < _;rw [add_block];exact Kd.vU jw.z _ rfl)|exact Kd.vU jw.z _ rfl)) (by first|(rw [add_block];exact (fun e_=>((aoN.z.1 _ e_.symm).2) rfl))|(show some (Addr.add _ _).block ≠ _;rw [add_block];exact (fun e_=>((aoN.z.1 _ e_.symm).2) rfl))|exact (fun e_=>((aoN.z.1 _ e_.symm).2) rfl)))
   rw [← HU.z] at ho
   have av:=k0 (af.grown (bB aj.z) hg (af.wH aj.z aoN.z (by decide)))
   have ax:=k0 (gh (aB aa.z) hg (Kd.iM aoN.z aa.z (by decide)))
   have ay:=k0 (gh (aB bp.z) hg (Kd.iM aoN.z bp.z (by decide)))
   have anC:=k0 (vX (by repeat (first|(with_reducible first|exact HB.z|apply bn|apply bq|apply anS|refine az ?_ (af.ge aj.z)|refine az ?_ anQ.z|refine az ?_ gQ.z)|exact HB.z)) HL.z hb)
   have aD:=k0 (aM.trans (aK HK.z) (aM.sP hg g) (Kd.N3 aoN.z))
   have anE:=k0 (Kd.NK (Kd.VO (by repeat (first|exact ao_.out|refine Kd.VH ?_ _|refine Kd.VK ?_ _|refine Kd.VJ ?_))) hg (fun k_ e_=>.inl (EJ.out.1 k_ e_)))
   have anP:=k0 (ho)
   clear aj
   clear aa
   clear bp
   clear HB
   clear HK
   clear ao_
   clear jw
   clear EJ
   clear aoN
   have aj:=av
   have aa:=ax
   have bp:=ay
   have HB:=anC
   have HK:=aD
   have ao_:=anE
   have apa:=anP
   clear av ax ay anC aD anE anP
   clear ho hb hg bz
   have S6:0≤(t126:Int):=oD
   have Tb:(t126:Int) < ((t123.length:Int):Int):=oD
   replace S6:=eq_true S6
   replace Tb:=eq_true Tb
   obtain ⟨t_,uB,E7⟩:=Kd.cK apa.z
   (first|subst E7|(injection E7 with ig aoq ij;have aor:=ig.symm;have aos:=ij.symm;clear ig aoq ij;subst aor;subst aos))
   obtain ⟨_,_,FA,_,_,P_,_⟩:=Kd.HJ ao_.out oD (by have h_:(t126:Int) < ((t123.length:Int):Int):=oD;first|exact h_|(have e_:=(Ho.out);omega)|simpa using h_)
   obtain ⟨_,Qz⟩:=Kd.VI ao_.out oD (by have h_:(t126:Int) < ((t123.length:Int):Int):=oD;first|exact h_|(have e_:=(Ho.out);omega)|simpa using h_)
   have Sm:=P_ 0 _ rfl
   have Qy:=Qz 0
   (try simp only [Nat.add_zero] at Sm Qy)
   (try rw [show ((Kd.slice 2 (Kd.int .i64))).sz=1 from rfl,Nat.mul_one] at Sm)
   (try rw [show ((Kd.slice 2 (Kd.int .i64))).sz=1 from rfl,Nat.mul_one] at Qy)
   have Hw:=Kd.WM ao_.out oD (by have h_:(t126:Int) < ((t123.length:Int):Int):=oD;first|exact h_|(have e_:=(Ho.out);omega)|simpa using h_) (seg:=[.slice t_ lZ.length uB]) (j:=0) (show 1≤1 from by decide) (x':=lZ) (Kd.lg apa.z) (fun _ hk=>hk)
   (try simp only [show ((Kd.slice 2 (Kd.int .i64))).sz=1 from rfl,Nat.mul_one,Nat.add_zero] at Hw)
   clear P_ Qz
   have agt:=k0 (show g ≠ oa from by have h_:=af.wH aj.z FA (by decide);intro e_;exact h_ (by rw [e_];rfl))
   have Vl:=k0 (show aW ≠ oa from by have h_:=Kd.iM FA aa.z (by decide);intro e_;exact h_ (by rw [e_];rfl))
   have Vm:=k0 (show dJ ≠ oa from by have h_:=Kd.iM FA bp.z (by decide);intro e_;exact h_ (by rw [e_];rfl))
   have HE:=Hw.1
   rw [← HV.z] at HE
   have Vu:=k0 HE
   obtain ⟨_,QY⟩:=Kd.N9 FA oa rfl
   have age:=k0 QY
   clear Hw HE QY
   refine hK.out _ _ ⟨aX aa,aY aa,Ew⟩ (fun hHeld=>?_)
   clear hK K
   refine mY (a':=?_) ?_ ?_
   rotate_left;· show Act.put _ (some 51) _=_;simp only [Act.put,zI,zZ,zS,dX,eZ];rfl
   refine pu 10 (some 52) (ba 12 2047) anM (h:=?_)
   refine rC (i:=11) (N:=none) (ba 12 4095) rfl rfl (j7 anM.out (by kernel_rfl)) (by decide) (fun K hK=>?_)
   refine sZ (w1:=?_) (by rfl) rfl ?_ ?_
   rotate_left;· go_simp;rfl
   refine hK.out _ _ ?_
   clear hK K
   refine o_ (qF anM.out (by kernel_rfl)) ?_
   have av:ak (Kd.S (Kd.slice 2 (Kd.int .i64)) 28 (wQ.setCell ⟨oa,(t126:Int).toNat,none⟩ (.slice t_ lZ.length uB)) w.heap.size (fun k_=>(w.heap.size≤k_)) (.slice (some ⟨oa,0,none⟩) t123.length sg) D_):=⟨aS (Vu.out)⟩
   have ax:ak ((wQ.setCell ⟨oa,(t126:Int).toNat,none⟩ (.slice t_ lZ.length uB)).heap[aW]?=some (.cells #[.int .i64 t122,.slice (some ⟨oa,0,none⟩) t123.length sg] 31 (0,0))):=⟨by (with_reducible repeat (first|refine anF ?_ _|refine aH ?_|refine aI ?_ _));refine anU ?_ Vl.out _;exact bk⟩
   have ay:ak ((wQ.setCell ⟨oa,(t126:Int).toNat,none⟩ (.slice t_ lZ.length uB)).heap[dJ]?=some (.cells #[.int .i64 0,.slice none 0 0] 31 (0,0))):=⟨by (with_reducible repeat (first|refine anF ?_ _|refine aH ?_|refine aI ?_ _));refine anU ?_ Vm.out _;exact bk⟩
   have anC:ak (af w0 (wQ.setCell ⟨oa,(t126:Int).toNat,none⟩ (.slice t_ lZ.length uB)) g anK t127 t128):=⟨bB aj.z⟩
   have aD:ak (aM w (wQ.setCell ⟨oa,(t126:Int).toNat,none⟩ (.slice t_ lZ.length uB)) g none):=⟨aK HK.z⟩
   have anE:ak (Below w0.heap.size w0 (wQ.setCell ⟨oa,(t126:Int).toNat,none⟩ (.slice t_ lZ.length uB))):=⟨by repeat (first|(with_reducible first|exact HB.z|apply bn|apply bq|apply anS|refine az ?_ (Nat.le_trans HL.z UW.out)|refine az ?_ (af.ge aj.z)|refine az ?_ anQ.z|refine az ?_ gQ.z)|exact HB.z)⟩
   generalize (wQ.setCell ⟨oa,(t126:Int).toNat,none⟩ (.slice t_ lZ.length uB))=w63 at av ax ay anC aD anE ⊢
   have jw:=av
   have aa:=ax
   have bp:=ay
   have aj:=anC
   have HK:=aD
   have HB:=anE
   clear av ax ay anC aD anE
   have aa1:=aX aa
   have aa2:=aY aa
   have abE:=bF aa 0
   have abF:=bF aa 1
   have alu:=mL.z
   have amn:=mK.z
   have aiV:=aX bp
   have aiW:=aY bp
   have akk:=bF bp 0
   have akl:=bF bp 1
   try go_wp2
   refine bodyPost_ret (results_cell_row rfl _ _ dJ 31 #[.int .i64 t122,.slice (some ⟨oa,0,none⟩) t123.length sg] (0,0) _ rfl (by (with_reducible repeat (first|refine anF ?_ _|refine aH ?_|refine aI ?_ _));refine anV (cs:=#[.int .i64 t122,.slice none 0 0]) ?_ 1 _ rfl;(with_reducible repeat (first|refine anF ?_ _|refine aH ?_|refine aI ?_ _));refine anV (cs:=#[.int .i64 0,.slice none 0 0]) ?_ 0 _ rfl;exact bk) Try.underlying31 rfl (by kernel_rfl)) rfl ?_
   exact ⟨_,eR,Kd.anJ (Kd.z8 (by (with_reducible repeat (first|apply Kd.di|apply Kd.dm|apply Kd.cS));exact Kd.anW (gS 1 (.slice (some ⟨oa,0,none⟩) t123.length sg) (gS 0 (.int .i64 t122) (tS jw bp))) (fun _ hk=>hk.1))) (fun k_ hk=>by first|exact ⟨(.inr (hk.1)),hk.2⟩|exact (.inr (hk))),bB aj.z,by repeat (first|(with_reducible first|exact HB.z|apply bn|apply bq|apply anS|refine az ?_ (af.ge aj.z)|refine az ?_ anQ.z|refine az ?_ gQ.z)|exact HB.z),aK HK.z⟩
  rw [if_pos c19] at H
  have ux:(t103 == 1)=true:=beq_iff_eq.mpr c19
  have Iz:(t103 != 1)=false:=bne_eq_false_iff_eq.mpr c19
  clear c19
  replace H:=Option.bind_eq_some_iff.mp H
  obtain ⟨⟨t112,t113⟩,Bi,H⟩:=H
  replace H:(if t113.length < 5864062014805 then (some (t112,(t113 ++ [(([0,t112]:List Int))]),t104,t105)) else (none))=some (r1,r2,r3,r4):=H
  have eD:=k0 Bi
  clear Bi
  obtain ⟨qU,sJ⟩:∃ y_:List Int,y_=(([0,t112]:List Int)):=⟨_,rfl⟩
  replace H:(if t113.length < 5864062014805 then (some (t112,(t113 ++ [qU]),t104,t105)) else (none))=some (r1,r2,r3,r4):=rH sJ H
  have xj:=k0 sJ
  clear sJ
  replace H:=iS H;obtain ⟨c21,H⟩:=H
  have HN:=k0 c21
  clear c21
  obtain ⟨gJ,sL⟩:∃ y_:List (List Int),y_=(t113 ++ [qU]):=⟨_,rfl⟩
  replace H:(some (t112,gJ,t104,t105))=some (r1,r2,r3,r4):=rH sL H
  have BM:=k0 sL
  clear sL
  simp only [Option.some.injEq,Prod.mk.injEq] at H
  obtain ⟨rfl,rfl,rfl,rfl⟩:=H
  go_enter Try.func197,Try.ntmps197
  go_wp2_with (first|((with_reducible refine bN (N:=3) rfl ?_);refine cE 3 #[.int .i64 fU,.slice kP fB.length kY] 31 ?_;intro aW hg tT aG hb;replace cU:=k0 (Kd.dz (Kd.ej (aV cU.z) aW (Nat.le_of_eq hg.symm)) hb);replace HB:=k0 (anH (by repeat (first|(with_reducible first|exact HB.z|apply bn|apply bq|apply anS|refine az ?_ (af.ge aj.z))|exact HB.z)) hb);have aa:=k0 (aG);have cu:=gW hg (ew (aK HK.z));have anQ:=k0 (Nat.le_trans ki.z cu.z);replace HK:=k0 (aM.trans (aK HK.z) (aM.gy hb g none) (.inl rfl));have eV:=k0 ((by rw [hg];exact Nat.ne_of_lt (af.lt (show af w0 _ g anK cD cI from bB aj.z)):g ≠ aW));have eW:=k0 ((by rw [hg];exact Nat.ne_of_gt (af.lt (show af w0 _ g anK cD cI from bB aj.z)):aW ≠ g));replace aj:=k0 (af.below (bB aj.z) hb);clear hb aG hg)|((with_reducible refine bN (N:=4) rfl ?_);refine cE 4 #[.int .i64 0,.slice none 0 0] 31 ?_;intro dJ hg Gq aG hb;replace cU:=k0 (Kd.dz (Kd.ej (aV cU.z) dJ (Nat.le_of_eq hg.symm)) hb);replace HB:=k0 (anH (by repeat (first|(with_reducible first|exact HB.z|apply bn|apply bq|apply anS|refine az ?_ (af.ge aj.z)|refine az ?_ anQ.z)|exact HB.z)) hb);have bp:=k0 (aG);have mI:=gW hg (ew (aK HK.z));have gQ:=k0 (Nat.le_trans ki.z mI.z);replace HK:=k0 (aM.trans (aK HK.z) (aM.gy hb g none) (.inl rfl));have iB:=nL hg aa;have aof:=nG iB;replace aa:=kB aa hb;have mK:=k0 ((by rw [hg];exact Nat.ne_of_lt (af.lt (show af w0 _ g anK cD cI from bB aj.z)):g ≠ dJ));have mL:=k0 ((by rw [hg];exact Nat.ne_of_gt (af.lt (show af w0 _ g anK cD cI from bB aj.z)):dJ ≠ g));replace aj:=k0 (af.below (bB aj.z) hb);clear hb aG hg)|((with_reducible refine bS (f:=112) rfl ?_);refine gC (some 8) Try.func112 #[.pointer (some ⟨g,0,none⟩),.int .i64 40] ?_;(with_reducible refine (dn.calls g anK cD cI 40 t103 t104 t105 w0 _ ?aA ?anD A3.z).mono ?_);(case aA=>repeat (first|(with_reducible first|exact aj.z|apply af.alloc|apply af.drewN|apply af.drew|apply af.gq|apply af.gu|refine af.dM ?_ eV.z _|refine af.dM ?_ mK.z _)|exact aj.z));(case anD=>repeat (first|(with_reducible first|exact HB.z|apply bn|apply bq|apply anS|refine az ?_ (af.ge aj.z)|refine az ?_ anQ.z|refine az ?_ gQ.z)|exact HB.z));rintro e apF ⟨rfl,hi,hb,hk⟩;refine ⟨_,rfl,?_⟩;have av:=k0 (Kd.anJ (Kd.tC (Kd.anJ (ok:=fun k_=>(((((aoR k_∨w.heap.size≤k_))∧k_ ≠ g)∧k_ ≠ aW)∧k_ ≠ dJ)) (aV cU.z) (fun k_ b9=>(⟨b9,b9.1.1.2⟩:_∧k_ ≠ g))) hk (fun _ h=>h.2)) (fun _ h=>h.1));have ax:=k0 (aM.blk hk (aB aa.z) eW.z (by simp));have ay:=k0 (aM.blk hk (aB bp.z) mL.z (by simp));have anC:=k0 (aM.trans (aK HK.z) hk (.inl rfl));have aD:=k0 (hb);have anE:=k0 (hi);clear cU;clear aa;clear bp;clear HK;clear HB;clear aj;have cU:=av;have aa:=ax;have bp:=ay;have HK:=anC;have HB:=aD;have aj:=anE;clear av ax ay anC aD anE;have RB:=iB.z;have RT:=aof.z;have De:=eW.z;have Df:=eV.z;have CN:=aX aa;have CO:=aY aa;have CV:=bF aa 0;have CW:=bF aa 1)|((with_reducible refine bS (f:=231) rfl ?_);refine gC (some 21) Try.func231 #[.agg #[.int .i64 fU,.slice kP fB.length kY]] ?_;(with_reducible refine (eO.calls k fU _ _ fB t112 t113 _ ?aA ?anD eD.z).mono ?_);(case aA=>exact aC ((Kd.cN cU.z).2.2));(case anD=>exact (Kd.cN cU.z).2.1);rintro e Gt ⟨TA,rfl,aq,hb⟩;refine ⟨_,rfl,?_⟩;have av:=k0 (Kd.b8 (aV cU.z) (Kd.an_ aq) hb);have ax:=k0 (Kd.gD (Kd.Aa (M:=fun k_=>(w.heap.size≤k_)) aq (ew (aK HK.z)) (fun k_ h_=>h_)) (ew (aK HK.z)));have ay:=k0 (af.below (bB aj.z) hb);have anC:=kB aa hb;have aD:=kB bp hb;have anE:=k0 (aM.trans (aK HK.z) (aM.gy hb g none) (.inl rfl));have anP:=k0 (anH (by repeat (first|(with_reducible first|exact HB.z|apply bn|apply bq|apply anS|refine az ?_ (af.ge aj.z)|refine az ?_ anQ.z|refine az ?_ gQ.z)|exact HB.z)) hb);clear cU;clear aj;clear aa;clear bp;clear HK;clear HB;have cU:=av;have nk:=ax;have aj:=ay;have aa:=anC;have bp:=aD;have HK:=anE;have HB:=anP;clear av ax ay anC aD anE anP;have aiv:=aX aa;have aiw:=aY aa;have ajW:=bF aa 0;have ajX:=bF aa 1;obtain ⟨tY,tF,Aw⟩:=Kd.eH nk.z;subst Aw)|((with_reducible refine bN (N:=26) rfl ?_);refine Kd.jd (Kd.int .i64) _ 2 ?hg (N:=26) ?hd (xs:=([0,t112]:List Int)) (inner:=[.int .i64 0,.int .i64 t112]) (ok:=fun _=>True) (anX:=fun _=>True) ?hr ?hp (fun _ hk=>hk) trivial (Below.refl _ _) (Nat.le_refl _) (by simp) ?_;(case hd=>rfl);(case hg=>rfl);(case hr=>first|(go_simp;done)|(go_simp;rfl));(case hp=>exact (bu.one (show Kd.M (Kd.int .i64) _ _ _ 0 [.int .i64 0] from rfl) (bu.one (show Kd.M (Kd.int .i64) _ _ _ t112 [.int .i64 t112] from rfl) (bu.none _ _))));intro v117 D0 qj hb c_ dc;clear c_ dc;(first|rw [← xj.z] at qj|(simp only [Int.reduceToNat] at qj;rw [← xj.z] at qj));replace cU:=k0 (Kd.b8 (by (with_reducible repeat (first|apply Kd.cW|apply Kd.cX|apply Kd.cV));exact (Kd.anJ (Kd.bG (p:=⟨aW,1,none⟩) (Kd.bG (p:=⟨aW,0,none⟩) (Kd.anJ cU.z (fun k_ hk=>(⟨hk,hk.1.1.2⟩:_∧k_ ≠ aW))) (fun _ hk=>hk.2) (.int .i64 t112)) (fun _ hk=>hk.2) (.slice tY t113.length tF)) (fun _ h_=>h_.1))) (Kd.aU qj) hb);replace nk:=k0 (Kd.an6 (by (with_reducible repeat (first|apply Kd.di|apply Kd.dm|apply Kd.cS));exact (Kd.anW (gS 1 (.slice tY t113.length tF) (gS 0 (.int .i64 t112) (tS nk aa))) (fun _ h_=>h_.1))) (Kd.aU qj) hb);have zQ:=k0 (Kd.cH (Kd.BO (M:=fun k_=>(w.heap.size≤k_)) qj (ew (aK HK.z)) (fun k_ h_=>h_)) (ew (aK HK.z)));replace aa:=k0 (cB (g:=aW) (o:=sO t112 tY t113 tF 31) (by (with_reducible repeat (first|refine anF ?_ _|refine aH ?_|refine aI ?_ _));refine anV (cs:=#[.int .i64 t112,.slice kP fB.length kY]) ?_ 1 _ rfl;(with_reducible repeat (first|refine anF ?_ _|refine aH ?_|refine aI ?_ _));refine anV (cs:=#[.int .i64 fU,.slice kP fB.length kY]) ?_ 0 _ rfl;exact bk) hb);replace bp:=k0 (cB (g:=dJ) (o:=.cells #[.int .i64 0,.slice none 0 0] 31 (0,0)) (by (with_reducible repeat (first|refine anF ?_ _|refine aH ?_|refine aI ?_ _));refine anU ?_ aof.z _;(with_reducible repeat (first|refine anF ?_ _|refine aH ?_|refine aI ?_ _));refine anU ?_ aof.z _;exact bk) hb);replace HK:=k0 (aM.trans (aK HK.z) (aM.gy hb g none) (.inl rfl));replace HB:=k0 (anH (by repeat (first|(with_reducible first|exact HB.z|apply bn|apply bq|apply anS|refine az ?_ (af.ge aj.z)|refine az ?_ anQ.z|refine az ?_ gQ.z)|exact HB.z)) hb);replace aj:=k0 (af.below (show af w0 ((Gt.setCell ⟨aW,0,none⟩ (.int .i64 t112)).setCell ⟨aW,1,none⟩ (.slice tY t113.length tF)) g anK t104 t105 from bB aj.z) hb);clear hb qj;obtain ⟨wZ,xJ,Cr⟩:=Kd.cK zQ.z;subst Cr)|((with_reducible refine aoi (b:=.append) (xs:=#[.tmp 23,.tmp 27]) rfl ?_);at_builtin;refine Kd.tA (Kd.slice 2 (Kd.int .i64)) w.heap.size rfl (.tmp 23) (.tmp 27) 22 28 (.slice none 0 0) 24 rfl Try.underlying22 qI rfl (by decide) (by omega) (.slice tY t113.length tF) t113 qU [.slice wZ qU.length xJ] (fun k_=>(w.heap.size≤k_)) (fun k_=>some k_=(.slice wZ qU.length xJ:Value).ownBlock) rfl rfl ?aP (fun k_ b9=>((Kd.aT (ok':=fun k_=>((fun k_=>(w.heap.size≤k_))) k_∧some k_ ≠ (.slice tY t113.length tF:Value).ownBlock) (Kd.jx (zQ.z) (Kd.iR nk.z) (by decide)) (fun k_ hk=>⟨hk.1.1,hk.2⟩))).1 k_ b9.symm) ?aF ?aO (Below.refl _ _) ?aS ?aL ?_;(case aP=>exact Kd.lg (Kd.aT (Kd.oB rfl (Kd.aT (ok':=fun k_=>((fun k_=>(w.heap.size≤k_))) k_∧some k_ ≠ (.slice tY t113.length tF:Value).ownBlock) (Kd.jx (zQ.z) (Kd.iR nk.z) (by decide)) (fun k_ hk=>⟨hk.1.1,hk.2⟩))) (fun _ h_=>h_)));(case aF=>exact (fun k_ hk=>(Nat.le_trans (ew (aK HK.z)) hk)));(case aO=>exact (by (with_reducible repeat (first|apply Kd.di|apply Kd.dm|apply Kd.cS));exact Kd.anW nk.z (fun k_ hk=>⟨hk.1.1,fun e_=>hk.2 e_⟩)));(case aS=>exact (ew (aK HK.z)));(case aL=>have:=HN.out;omega);intro TB LV ho hb hg bz;rw [← BM.z] at ho;have av:=k0 (af.grown (bB aj.z) hg (af.yH aj.z nk.z (by decide)));have ax:=k0 (Kd.tB (ok:=(fun k_=>(aoR k_∨w.heap.size≤k_)∧some k_ ≠ (.slice wZ qU.length xJ:Value).ownBlock∧k_ ≠ g∧k_ ≠ aW∧k_ ≠ dJ)) (by (with_reducible repeat (first|apply Kd.cW|apply Kd.cX|apply Kd.cV));exact Kd.anJ cU.z (fun _ hk=>⟨⟨hk.1.1.1.1.1,⟨hk.2,⟨hk.1.1.1.1.2,⟨hk.1.1.1.2,hk.1.1.2⟩⟩⟩⟩,hk.1.2⟩)) hg bz);have ay:=k0 (gh (aB aa.z) hg (Kd.kD nk.z aa.z (by decide)));have anC:=k0 (gh (aB bp.z) hg (Kd.kD nk.z bp.z (by decide)));have aD:=k0 (vX (by repeat (first|(with_reducible first|exact HB.z|apply bn|apply bq|apply anS|refine az ?_ (af.ge aj.z)|refine az ?_ anQ.z|refine az ?_ gQ.z)|exact HB.z)) HL.z hb);have anE:=k0 (aM.trans (aK HK.z) (aM.sP hg g) (Kd.xp nk.z));have anP:=k0 (ho);clear aj;clear cU;clear aa;clear bp;clear HB;clear HK;clear nk;clear zQ;have aj:=av;have cU:=ax;have aa:=ay;have bp:=anC;have HB:=aD;have HK:=anE;have kT:=anP;clear av ax ay anC aD anE anP;clear ho hb hg bz;obtain ⟨tZ,uA,xM⟩:=Kd.eH kT.z;subst xM;have aaP:=aX aa;have aaQ:=aY aa;have abr:=bF aa 0;have abt:=bF aa 1;have RC:=mL.z;have RU:=mK.z;have aiD:=aX bp;have aiE:=aY bp;have aj4:=bF bp 0;have aj5:=bF bp 1))
  refine bodyPost_ret (results_cell_row rfl _ _ dJ 31 #[.int .i64 t112,.slice tZ gJ.length uA] (0,0) _ rfl (by (with_reducible repeat (first|refine anF ?_ _|refine aH ?_|refine aI ?_ _));refine anV (cs:=#[.int .i64 t112,.slice none 0 0]) ?_ 1 _ rfl;(with_reducible repeat (first|refine anF ?_ _|refine aH ?_|refine aI ?_ _));refine anV (cs:=#[.int .i64 0,.slice none 0 0]) ?_ 0 _ rfl;(with_reducible repeat (first|refine anF ?_ _|refine aH ?_|refine aI ?_ _));refine anU ?_ aof.z _;exact bk) Try.underlying31 rfl (by kernel_rfl)) rfl ?_
  exact ⟨_,eR,Kd.anJ (Kd.z8 (by (with_reducible repeat (first|apply Kd.di|apply Kd.dm|apply Kd.cS));exact Kd.anW (Kd.oC (p:=⟨dJ,1,none⟩) (Kd.oC (p:=⟨dJ,0,none⟩) (Kd.oC (p:=⟨aW,1,none⟩) (Kd.xu (tS kT aa) bp.z (by decide)) (fun _ hk=>hk.1.2) (.slice tZ gJ.length uA)) (fun _ hk=>hk.2) (.int .i64 t112)) (fun _ hk=>hk.2) (.slice tZ gJ.length uA)) (fun _ hk=>hk.1.1))) (fun k_ hk=>by first|exact ⟨(.inr (hk.1)),hk.2⟩|exact (.inr (hk))),bB aj.z,by repeat (first|(with_reducible first|exact HB.z|apply bn|apply bq|apply anS|refine az ?_ (af.ge aj.z)|refine az ?_ anQ.z|refine az ?_ gQ.z)|exact HB.z),aK HK.z⟩
 rw [if_pos c4] at H
 have gT:(t103 == 0)=true:=beq_iff_eq.mpr c4
 have tE:(t103 != 0)=false:=bne_eq_false_iff_eq.mpr c4
 clear c4
 obtain ⟨zl,yj⟩:∃ y_:List Int,y_=(([0,9,wrap64 (fU - 1)]:List Int)):=⟨_,rfl⟩
 replace H:((kR.f anK t104 t105 zl).bind fun ko=>(some (ko.1,fB,ko.2.1,ko.2.2)))=some (r1,r2,r3,r4):=rH yj H
 have EF:=k0 yj
 clear yj
 replace H:=Option.bind_eq_some_iff.mp H
 obtain ⟨⟨t109,t110,t111⟩,aox,H⟩:=H
 replace H:(some (t109,fB,t110,t111))=some (r1,r2,r3,r4):=H
 have A5:=k0 aox
 clear aox
 simp only [Option.some.injEq,Prod.mk.injEq] at H
 obtain ⟨rfl,rfl,rfl,rfl⟩:=H
 go_enter Try.func197,Try.ntmps197
 go_wp2_with (first|((with_reducible refine bN (N:=3) rfl ?_);refine cE 3 #[.int .i64 fU,.slice kP fB.length kY] 31 ?_;intro aW hg w6 aG hb;replace cU:=k0 (Kd.dz (Kd.ej (aV cU.z) aW (Nat.le_of_eq hg.symm)) hb);replace HB:=k0 (anH (by repeat (first|(with_reducible first|exact HB.z|apply bn|apply bq|apply anS|refine az ?_ (af.ge aj.z))|exact HB.z)) hb);have aa:=k0 (aG);have cu:=gW hg (ew (aK HK.z));have anQ:=k0 (Nat.le_trans ki.z cu.z);replace HK:=k0 (aM.trans (aK HK.z) (aM.gy hb g none) (.inl rfl));have eV:=k0 ((by rw [hg];exact Nat.ne_of_lt (af.lt (show af w0 _ g anK cD cI from bB aj.z)):g ≠ aW));have eW:=k0 ((by rw [hg];exact Nat.ne_of_gt (af.lt (show af w0 _ g anK cD cI from bB aj.z)):aW ≠ g));replace aj:=k0 (af.below (bB aj.z) hb);clear hb aG hg)|((with_reducible refine bN (N:=4) rfl ?_);refine cE 4 #[.int .i64 0,.slice none 0 0] 31 ?_;intro dJ hg w7 aG hb;replace cU:=k0 (Kd.dz (Kd.ej (aV cU.z) dJ (Nat.le_of_eq hg.symm)) hb);replace HB:=k0 (anH (by repeat (first|(with_reducible first|exact HB.z|apply bn|apply bq|apply anS|refine az ?_ (af.ge aj.z)|refine az ?_ anQ.z)|exact HB.z)) hb);have bp:=k0 (aG);have mI:=gW hg (ew (aK HK.z));have gQ:=k0 (Nat.le_trans ki.z mI.z);replace HK:=k0 (aM.trans (aK HK.z) (aM.gy hb g none) (.inl rfl));have iB:=nL hg aa;have aof:=nG iB;replace aa:=kB aa hb;have mK:=k0 ((by rw [hg];exact Nat.ne_of_lt (af.lt (show af w0 _ g anK cD cI from bB aj.z)):g ≠ dJ));have mL:=k0 ((by rw [hg];exact Nat.ne_of_gt (af.lt (show af w0 _ g anK cD cI from bB aj.z)):dJ ≠ g));replace aj:=k0 (af.below (bB aj.z) hb);clear hb aG hg)|((with_reducible refine bS (f:=112) rfl ?_);refine gC (some 8) Try.func112 #[.pointer (some ⟨g,0,none⟩),.int .i64 40] ?_;(with_reducible refine (dn.calls g anK cD cI 40 t103 t104 t105 w0 _ ?aA ?anD A3.z).mono ?_);(case aA=>repeat (first|(with_reducible first|exact aj.z|apply af.alloc|apply af.drewN|apply af.drew|apply af.gq|apply af.gu|refine af.dM ?_ eV.z _|refine af.dM ?_ mK.z _)|exact aj.z));(case anD=>repeat (first|(with_reducible first|exact HB.z|apply bn|apply bq|apply anS|refine az ?_ (af.ge aj.z)|refine az ?_ anQ.z|refine az ?_ gQ.z)|exact HB.z));rintro e w8 ⟨rfl,hi,hb,hk⟩;refine ⟨_,rfl,?_⟩;have av:=k0 (Kd.anJ (Kd.tC (Kd.anJ (ok:=fun k_=>(((((aoR k_∨w.heap.size≤k_))∧k_ ≠ g)∧k_ ≠ aW)∧k_ ≠ dJ)) (aV cU.z) (fun k_ b9=>(⟨b9,b9.1.1.2⟩:_∧k_ ≠ g))) hk (fun _ h=>h.2)) (fun _ h=>h.1));have ax:=k0 (aM.blk hk (aB aa.z) eW.z (by simp));have ay:=k0 (aM.blk hk (aB bp.z) mL.z (by simp));have anC:=k0 (aM.trans (aK HK.z) hk (.inl rfl));have aD:=k0 (hb);have anE:=k0 (hi);clear cU;clear aa;clear bp;clear HK;clear HB;clear aj;have cU:=av;have aa:=ax;have bp:=ay;have HK:=anC;have HB:=aD;have aj:=anE;clear av ax ay anC aD anE;have ab1:=iB.z;have acf:=aof.z;have JZ:=eW.z;have J3:=eV.z;have Fc:=aX aa;have Fe:=aY aa;have Fi:=bF aa 0;have Fj:=bF aa 1)|((with_reducible refine bN (N:=15) rfl ?_);refine Kd.jd (Kd.int .i64) _ 2 ?hg (N:=15) ?hd (xs:=([0,9,wrap64 (fU - 1)]:List Int)) (inner:=[.int .i64 0,.int .i64 9,.int .i64 (wrap64 (fU - 1))]) (ok:=fun _=>True) (anX:=fun _=>True) ?hr ?hp (fun _ hk=>hk) trivial (Below.refl _ _) (Nat.le_refl _) (by simp) ?_;(case hd=>rfl);(case hg=>rfl);(case hr=>first|(go_simp;done)|(go_simp;rfl));(case hp=>exact (bu.one (show Kd.M (Kd.int .i64) _ _ _ 0 [.int .i64 0] from rfl) (bu.one (show Kd.M (Kd.int .i64) _ _ _ 9 [.int .i64 9] from rfl) (bu.one (show Kd.M (Kd.int .i64) _ _ _ (wrap64 (fU - 1)) [.int .i64 (wrap64 (fU - 1))] from rfl) (bu.none _ _)))));intro v107 ao0 rz hb c_ dc;clear c_ dc;(first|rw [← EF.z] at rz|(simp only [Int.reduceToNat] at rz;rw [← EF.z] at rz));have av:=k0 (Kd.b8 (aV cU.z) (Kd.aU rz) hb);have ax:=k0 (Kd.cH (Kd.BO (M:=fun k_=>(w.heap.size≤k_)) rz (ew (aK HK.z)) (fun k_ h_=>h_)) (ew (aK HK.z)));have ay:=k0 (af.below (bB aj.z) hb);have anC:=kB aa hb;have aD:=kB bp hb;have anE:=k0 (aM.trans (aK HK.z) (aM.gy hb g none) (.inl rfl));have anP:=k0 (anH (by repeat (first|(with_reducible first|exact HB.z|apply bn|apply bq|apply anS|refine az ?_ (af.ge aj.z)|refine az ?_ anQ.z|refine az ?_ gQ.z)|exact HB.z)) hb);clear cU;clear aj;clear aa;clear bp;clear HK;clear HB;have cU:=av;have kC:=ax;have aj:=ay;have aa:=anC;have bp:=aD;have HK:=anE;have HB:=anP;clear av ax ay anC aD anE anP;clear hb rz;obtain ⟨rO,r_,IY⟩:=Kd.cK kC.z;subst IY)|((with_reducible refine bS (f:=202) rfl ?_);refine gC (some 16) Try.func202 #[.pointer (some ⟨g,0,none⟩),.slice rO zl.length r_] ?_;(with_reducible refine (kR.calls g anK t104 t105 _ _ zl t109 t110 t111 w0 _ ?aA ?anD ?cP ?dB ?u_ A5.z).mono ?_);(case aA=>repeat (first|(with_reducible first|exact aj.z|apply af.alloc|apply af.drewN|apply af.drew|apply af.gq|apply af.gu|refine af.dM ?_ eV.z _|refine af.dM ?_ mK.z _)|exact aj.z));(case anD=>repeat (first|(with_reducible first|exact HB.z|apply bn|apply bq|apply anS|refine az ?_ (af.ge aj.z)|refine az ?_ anQ.z|refine az ?_ gQ.z)|exact HB.z));(case cP=>exact aC ((Kd.anT kC.z).2.2));(case dB=>exact (Kd.anT kC.z).2.1);(case u_=>exact I8 (af.wH aj.z kC.z (by decide)));rintro e apE ⟨rfl,hi,hb,hk⟩;refine ⟨_,rfl,?_⟩;have av:=k0 (Kd.anJ (Kd.tC (Kd.anJ (ok:=fun k_=>((((((aoR k_∨w.heap.size≤k_))∧k_ ≠ g)∧k_ ≠ aW)∧k_ ≠ dJ)∧some k_ ≠ (.slice rO zl.length r_:Value).ownBlock)) (aV cU.z) (fun k_ b9=>(⟨b9,b9.1.1.1.2⟩:_∧k_ ≠ g))) hk (fun _ h=>h.2)) (fun _ h=>h.1));have ax:=k0 (aM.blk hk (aB aa.z) eW.z (by simp));have ay:=k0 (aM.blk hk (aB bp.z) mL.z (by simp));have anC:=k0 (Kd.aT (Kd.xm (af.apart (show af w0 _ g anK t104 t105 from bB aj.z) (aR kC.z) (by decide)) hk (fun _ h=>h.2)) (fun _ h=>h.1));have aD:=k0 (aM.trans (aK HK.z) hk (.inl rfl));have anE:=k0 (hb);have anP:=k0 (hi);clear cU;clear aa;clear bp;clear kC;clear HK;clear HB;clear aj;have cU:=av;have aa:=ax;have bp:=ay;have kC:=anC;have HK:=aD;have HB:=anE;have aj:=anP;clear av ax ay anC aD anE anP;have Qe:=aX aa;have Qf:=aY aa;have QC:=bF aa 0;have QD:=bF aa 1;have Fu:=mL.z;have Fv:=mK.z;have Qk:=aX bp;have Ql:=aY bp;have QI:=bF bp 0;have QJ:=bF bp 1))
 refine bodyPost_ret (results_cell_row rfl _ _ dJ 31 #[.int .i64 t109,.slice kP fB.length kY] (0,0) _ rfl (by (with_reducible repeat (first|refine anF ?_ _|refine aH ?_|refine aI ?_ _));refine anV (cs:=#[.int .i64 t109,.slice none 0 0]) ?_ 1 _ rfl;(with_reducible repeat (first|refine anF ?_ _|refine aH ?_|refine aI ?_ _));refine anV (cs:=#[.int .i64 0,.slice none 0 0]) ?_ 0 _ rfl;(with_reducible repeat (first|refine anF ?_ _|refine aH ?_|refine aI ?_ _));refine anU ?_ aof.z _;exact bk) Try.underlying31 rfl (by kernel_rfl)) rfl ?_
 exact ⟨_,eR,by (with_reducible repeat (first|apply Kd.cW|apply Kd.cX|apply Kd.cV));exact Kd.anJ (Kd.bG (p:=⟨dJ,1,none⟩) (Kd.bG (p:=⟨dJ,0,none⟩) (Kd.bG (p:=⟨aW,0,none⟩) (Kd.anJ (Kd.anJ cU.z (fun k_ hk=>(⟨hk,hk.1.1.2⟩:_∧k_ ≠ aW))) (fun k_ hk=>(⟨hk,hk.1.1.2⟩:_∧k_ ≠ dJ))) (fun _ hk=>hk.1.2) (.int .i64 t109)) (fun _ hk=>hk.2) (.int .i64 t109)) (fun _ hk=>hk.2) (.slice kP fB.length kY)) (fun _ hk=>hk.1.1.1.1.1.1),bB aj.z,by repeat (first|(with_reducible first|exact HB.z|apply bn|apply bq|apply anS|refine az ?_ (af.ge aj.z)|refine az ?_ anQ.z|refine az ?_ gQ.z)|exact HB.z),aK HK.z⟩
end Go.Proofs.Ytoebojnhchocaaa.G
/- Set with little white space, by a program. -/
