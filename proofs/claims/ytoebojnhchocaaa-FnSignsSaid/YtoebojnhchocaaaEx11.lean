/- The functions that one law reaches, each as a Lean function, and that Go's call comes to what it says. Condition of each: that the Lean function answers (is not none). -/
import Derived.Test.YtoebojnhchocaaaEx0
import Derived.Test.YtoebojnhchocaaaEx9
import Derived.Test.YtoebojnhchocaaaEx10
namespace Go.Proofs.Ytoebojnhchocaaa.E
open Go.RowKit Go.Proofs.bY.apf Go.Proofs.bY.ko Go.Proofs.bY.kN
attribute [local go_sem] max2_int min2_int max_two min_two max_three min_three max_four min_four   -- for this text's walks alone
set_option linter.unusedVariables false
set_option linter.unusedSimpArgs false
/-! ### F197: function 197 -/
def jV.l0 : Nat → List Int → Int → Int → Int → List (List Int) → Option (Int × (List (List Int)) × Int × Int)
 | 0,_,_,_,_,_=>none
 | k+1,k8,o6,o7,fG,eH=>if (eH.length:Int)≤10 then (if eH.length < 5864062014805 then (jV.l0 k k8 o6 o7 fG (eH ++ [(([0,0]:List Int))])) else (none)) else (some (fG,eH,o6,o7))
def jV.f (k:Nat) (aI:List Int) (bV:Int) (ao5:Int) (cg:Int) (bN:List (List Int)):Option (Int × (List (List Int)) × Int × Int):=(dg.f aI bV ao5 40).bind fun fc=>(if fc.1=0 then ((kj.f aI fc.2.1 fc.2.2 (([0,9,wrap64 (cg - 1)]:List Int))).bind fun js=>(some (js.1,bN,js.2.1,js.2.2))) else (if fc.1=1 then ((ie.f k cg bN).bind fun fM=>(if fM.2.length < 5864062014805 then (some (fM.1,(fM.2 ++ [(([0,fM.1]:List Int))]),fc.2.1,fc.2.2)) else (none))) else (if fc.1=2 then ((ie.f k cg bN).bind fun jc=>(if (jc.2.length:Int) > 0 then ((dg.f aI fc.2.1 fc.2.2 (jc.2.length:Int)).bind fun jZ=>(if 0≤jZ.1 then (if jZ.1 < (jc.2.length:Int) then (if (av jc.2 jZ.1).length < 17592186044416 then (some (jc.1,(jc.2.set (jZ.1:Int).toNat ((av jc.2 jZ.1) ++ [0])),jZ.2.1,jZ.2.2)) else (none)) else (none)) else (none))) else (some (jc.1,jc.2,fc.2.1,fc.2.2)))) else (if fc.1=3 then ((ie.f k cg bN).bind fun yf=>(jV.l0 k aI fc.2.1 fc.2.2 yf.1 yf.2)) else (some (cg,bN,fc.2.1,fc.2.2))))))
def jV.DI:Bool × List (List Nat × List Nat):=(true,[([],[]),([0],[0]),([],[]),([],[]),([3],[3]),([],[]),([4,5],[4,5]),([6],[6]),([],[]),([7,8],[7,8]),([1,2,0,1,2,3,4,5,6,7,8,9],[1,2]),([10,9,9,0,1,2,3,4,5,6,7,8,9],[9,10])])
def jV.IY:List Nat:=[0,1,0,0,8,0,56,120,0,504,1023,2047]
theorem jV.Nd:iP .any (opsOf Try.f197 12)=jV.DI:=by kernel_rfl
theorem jV.JP:nA jV.DI.2 jV.IY=true:=by kernel_rfl
set_option maxHeartbeats 8000000 in
set_option maxRecDepth 100000 in
theorem jV.calls (k : Nat) (g : Nat) (aI : List Int) (bV : Int) (ao5 : Int) (cg : Int) (ap4 : Nat → Prop) (eu : Option Addr) (ey : Nat) (bN : List (List Int)) (r1 : Int) (r2 : List (List Int)) (r3 : Int) (r4 : Int) (w0 w : World) (hI : ag w0 w g aI bV ao5) (hB : Below w0.heap.size w0 w) (acU : Kd.V (Kd.slice 2 (Kd.int .i64)) 28 w w.heap.size (fun k_ => ap4 k_ ∧ k_ ≠ g) (.slice eu bN.length ey) bN) (h : jV.f k aI bV ao5 cg bN = some (r1, r2, r3, r4)) :
  Calls Try.prog 197 #[.pointer (some ⟨g,0,none⟩),.agg #[.int .i64 cg,.slice eu bN.length ey]] w fun e w'=>∃ eM:Value,e=.returned (.agg #[.int .i64 r1,eM])∧Kd.V (Kd.slice 2 (Kd.int .i64)) 28 w' w.heap.size (fun k_=>(ap4 k_∨w.heap.size≤k_)) eM r2∧ag w0 w' g aI r3 r4∧Below w0.heap.size w0 w'∧aoR w w' g none:=by
 have iX:=Try.underlying31
 have dn:=k0 (show Kd.V (Kd.slice 2 (Kd.int .i64)) 28 w w.heap.size (fun k_=>(ap4 k_∨w.heap.size≤k_)∧k_ ≠ g) (.slice eu bN.length ey) bN from Kd.bP acU (fun k_ hk=>⟨.inl hk.1,hk.2⟩))
 have ai:=k0 hI
 have HK:=k0 (aoR.refl w g none)
 have HL:=k0 hB.size
 clear hI
 have apt:=k0 hB.size
 have HB:=k0 hB
 clear hB
 have H:((dg.f aI bV ao5 40).bind fun fc=>(if fc.1=0 then ((kj.f aI fc.2.1 fc.2.2 (([0,9,wrap64 (cg - 1)]:List Int))).bind fun js=>(some (js.1,bN,js.2.1,js.2.2))) else (if fc.1=1 then ((ie.f k cg bN).bind fun fM=>(if fM.2.length < 5864062014805 then (some (fM.1,(fM.2 ++ [(([0,fM.1]:List Int))]),fc.2.1,fc.2.2)) else (none))) else (if fc.1=2 then ((ie.f k cg bN).bind fun jc=>(if (jc.2.length:Int) > 0 then ((dg.f aI fc.2.1 fc.2.2 (jc.2.length:Int)).bind fun jZ=>(if 0≤jZ.1 then (if jZ.1 < (jc.2.length:Int) then (if (av jc.2 jZ.1).length < 17592186044416 then (some (jc.1,(jc.2.set (jZ.1:Int).toNat ((av jc.2 jZ.1) ++ [0])),jZ.2.1,jZ.2.2)) else (none)) else (none)) else (none))) else (some (jc.1,jc.2,fc.2.1,fc.2.2)))) else (if fc.1=3 then ((ie.f k cg bN).bind fun yf=>(jV.l0 k aI fc.2.1 fc.2.2 yf.1 yf.2)) else (some (cg,bN,fc.2.1,fc.2.2)))))))=some (r1,r2,r3,r4):=h
 clear h
 replace H:=Option.bind_eq_some_iff.mp H
 obtain ⟨⟨t103,t104,t105⟩,fJ,H⟩:=H
 replace H:(if t103=0 then ((kj.f aI t104 t105 (([0,9,wrap64 (cg - 1)]:List Int))).bind fun js=>(some (js.1,bN,js.2.1,js.2.2))) else (if t103=1 then ((ie.f k cg bN).bind fun fM=>(if fM.2.length < 5864062014805 then (some (fM.1,(fM.2 ++ [(([0,fM.1]:List Int))]),t104,t105)) else (none))) else (if t103=2 then ((ie.f k cg bN).bind fun jc=>(if (jc.2.length:Int) > 0 then ((dg.f aI t104 t105 (jc.2.length:Int)).bind fun jZ=>(if 0≤jZ.1 then (if jZ.1 < (jc.2.length:Int) then (if (av jc.2 jZ.1).length < 17592186044416 then (some (jc.1,(jc.2.set (jZ.1:Int).toNat ((av jc.2 jZ.1) ++ [0])),jZ.2.1,jZ.2.2)) else (none)) else (none)) else (none))) else (some (jc.1,jc.2,t104,t105)))) else (if t103=3 then ((ie.f k cg bN).bind fun yf=>(jV.l0 k aI t104 t105 yf.1 yf.2)) else (some (cg,bN,t104,t105))))))=some (r1,r2,r3,r4):=H
 have A3:=k0 fJ
 clear fJ
 by_cases c4:t103=0
 case neg =>
  rw [if_neg c4] at H
  have fX:(t103 == 0)=false:=beq_eq_false_iff_ne.mpr c4
  have qa:(t103 != 0)=true:=bne_iff_ne.mpr c4
  by_cases c19:t103=1
  case neg =>
   rw [if_neg c19] at H
   have aqp:(t103 == 1)=false:=beq_eq_false_iff_ne.mpr c19
   have Gh:(t103 != 1)=true:=bne_iff_ne.mpr c19
   by_cases c39:t103=2
   case neg =>
    rw [if_neg c39] at H
    have XV:(t103 == 2)=false:=beq_eq_false_iff_ne.mpr c39
    have XW:(t103 != 2)=true:=bne_iff_ne.mpr c39
    by_cases c78:t103=3
    case neg =>
     rw [if_neg c78] at H
     have X6:(t103 == 3)=false:=beq_eq_false_iff_ne.mpr c78
     have X7:(t103 != 3)=true:=bne_iff_ne.mpr c78
     simp only [Option.some.injEq,Prod.mk.injEq] at H
     obtain ⟨rfl,rfl,rfl,rfl⟩:=H
     go_enter Try.func197,Try.ntmps197
     go_wp2_with (first|((with_reducible refine bp (N:=3) rfl ?_);refine bR 3 #[.int .i64 cg,.slice eu bN.length ey] 31 ?_;intro aoV hg aoA aE hb;replace dn:=k0 (Kd.gI (Kd.ng (aV dn.z) aoV (Nat.le_of_eq hg.symm)) hb);replace HB:=k0 (aH (by repeat (first|(with_reducible first|exact HB.z|apply a_|apply bf|apply aZ|refine aoO ?_ (ag.ge ai.z))|exact HB.z)) hb);have aa:=k0 (aE);have bB:=gW hg (dU (aK HK.z));have aX:=k0 (Nat.le_trans apt.z bB.z);replace HK:=k0 (aoR.trans (aK HK.z) (aoR.iq hb g none) (.inl rfl));have dH:=k0 ((by rw [hg];exact Nat.ne_of_lt (ag.lt (show ag w0 _ g aI bV ao5 from aoZ ai.z)):g ≠ aoV));have dI:=k0 ((by rw [hg];exact Nat.ne_of_gt (ag.lt (show ag w0 _ g aI bV ao5 from aoZ ai.z)):aoV ≠ g));replace ai:=k0 (ag.below (aoZ ai.z) hb);clear hb aE hg)|((with_reducible refine bp (N:=4) rfl ?_);refine bR 4 #[.int .i64 0,.slice none 0 0] 31 ?_;intro ct hg aoB aE hb;replace dn:=k0 (Kd.gI (Kd.ng (aV dn.z) ct (Nat.le_of_eq hg.symm)) hb);replace HB:=k0 (aH (by repeat (first|(with_reducible first|exact HB.z|apply a_|apply bf|apply aZ|refine aoO ?_ (ag.ge ai.z)|refine aoO ?_ aX.z)|exact HB.z)) hb);have ak:=k0 (aE);have fA:=gW hg (dU (aK HK.z));have fy:=k0 (Nat.le_trans apt.z fA.z);replace HK:=k0 (aoR.trans (aK HK.z) (aoR.iq hb g none) (.inl rfl));have cP:=nL hg aa;have dJ:=nG cP;replace aa:=kB aa hb;have nW:=k0 ((by rw [hg];exact Nat.ne_of_lt (ag.lt (show ag w0 _ g aI bV ao5 from aoZ ai.z)):g ≠ ct));have nY:=k0 ((by rw [hg];exact Nat.ne_of_gt (ag.lt (show ag w0 _ g aI bV ao5 from aoZ ai.z)):ct ≠ g));replace ai:=k0 (ag.below (aoZ ai.z) hb);clear hb aE hg)|((with_reducible refine bg (f:=112) rfl ?_);refine gC (some 8) Try.func112 #[.pointer (some ⟨g,0,none⟩),.int .i64 40] ?_;(with_reducible refine (dg.calls g aI bV ao5 40 t103 t104 t105 w0 _ ?aoN ?aoP A3.z).mono ?_);(case aoN=>repeat (first|(with_reducible first|exact ai.z|apply ag.alloc|apply ag.drewN|apply ag.drew|apply ag.fZ|apply ag.f_|refine ag.ao' ?_ dH.z _|refine ag.ao' ?_ nW.z _)|exact ai.z));(case aoP=>repeat (first|(with_reducible first|exact HB.z|apply a_|apply bf|apply aZ|refine aoO ?_ (ag.ge ai.z)|refine aoO ?_ aX.z|refine aoO ?_ fy.z)|exact HB.z));rintro e aoC ⟨rfl,hi,hb,hk⟩;refine ⟨_,rfl,?_⟩;have aq:=k0 (Kd.bP (Kd.aqm (Kd.bP (ok:=fun k_=>(((((ap4 k_∨w.heap.size≤k_))∧k_ ≠ g)∧k_ ≠ aoV)∧k_ ≠ ct)) (aV dn.z) (fun k_ bZ=>(⟨bZ,bZ.1.1.2⟩:_∧k_ ≠ g))) hk (fun _ h=>h.2)) (fun _ h=>h.1));have au:=k0 (aoR.blk hk (aB aa.z) dI.z (by simp));have ax:=k0 (aoR.blk hk (aB ak.z) nY.z (by simp));have aA:=k0 (aoR.trans (aK HK.z) hk (.inl rfl));have aG:=k0 (hb);have aM:=k0 (hi);clear dn;clear aa;clear ak;clear HK;clear HB;clear ai;have dn:=aq;have aa:=au;have ak:=ax;have HK:=aA;have HB:=aG;have ai:=aM;clear aq au ax aA aG aM;have amu:=cP.z;have anc:=dJ.z;have amv:=dI.z;have ane:=dH.z;have ah4:=aQ aa;have ah5:=aoT aa;have akd:=bF aa 0;have ake:=bF aa 1;have ab3:=nY.z;have acs:=nW.z;have aav:=aQ ak;have aaw:=aoT ak;have abg:=bF ak 0;have abh:=bF ak 1))
     refine bodyPost_ret (results_cell_row rfl _ _ ct 31 #[.int .i64 cg,.slice eu bN.length ey] (0,0) _ rfl (by (with_reducible repeat (first|refine aoU ?_ _|refine aJ ?_|refine aoQ ?_ _));refine bE (cs:=#[.int .i64 cg,.slice none 0 0]) ?_ 1 _ rfl;(with_reducible repeat (first|refine aoU ?_ _|refine aJ ?_|refine aoQ ?_ _));refine bE (cs:=#[.int .i64 0,.slice none 0 0]) ?_ 0 _ rfl;exact bk) Try.underlying31 rfl (by kernel_rfl)) rfl ?_
     exact ⟨_,eR,by (with_reducible repeat (first|apply Kd.nc|apply Kd.mN|apply Kd.kE));exact Kd.bP (Kd.ape (p:=⟨ct,1,none⟩) (Kd.ape (p:=⟨ct,0,none⟩) (Kd.bP dn.z (fun k_ hk=>(⟨hk,hk.2⟩:_∧k_ ≠ ct))) (fun _ hk=>hk.2) (.int .i64 cg)) (fun _ hk=>hk.2) (.slice eu bN.length ey)) (fun _ hk=>hk.1.1.1.1),aoZ ai.z,by repeat (first|(with_reducible first|exact HB.z|apply a_|apply bf|apply aZ|refine aoO ?_ (ag.ge ai.z)|refine aoO ?_ aX.z|refine aoO ?_ fy.z)|exact HB.z),aK HK.z⟩
    rw [if_pos c78] at H
    have X6:(t103 == 3)=true:=beq_iff_eq.mpr c78
    have X7:(t103 != 3)=false:=bne_eq_false_iff_eq.mpr c78
    clear c78
    replace H:=Option.bind_eq_some_iff.mp H
    obtain ⟨⟨t134,t135⟩,NV,H⟩:=H
    replace H:(jV.l0 k aI t104 t105 t134 t135)=some (r1,r2,r3,r4):=H
    have UP:=k0 NV
    clear NV
    have H':=k0 H
    clear H
    go_enter Try.func197,Try.ntmps197
    go_wp2_with (first|((with_reducible refine bp (N:=3) rfl ?_);refine bR 3 #[.int .i64 cg,.slice eu bN.length ey] 31 ?_;intro aoV hg w80 aE hb;replace dn:=k0 (Kd.gI (Kd.ng (aV dn.z) aoV (Nat.le_of_eq hg.symm)) hb);replace HB:=k0 (aH (by repeat (first|(with_reducible first|exact HB.z|apply a_|apply bf|apply aZ|refine aoO ?_ (ag.ge ai.z))|exact HB.z)) hb);have aa:=k0 (aE);have bB:=gW hg (dU (aK HK.z));have aX:=k0 (Nat.le_trans apt.z bB.z);replace HK:=k0 (aoR.trans (aK HK.z) (aoR.iq hb g none) (.inl rfl));have dH:=k0 ((by rw [hg];exact Nat.ne_of_lt (ag.lt (show ag w0 _ g aI bV ao5 from aoZ ai.z)):g ≠ aoV));have dI:=k0 ((by rw [hg];exact Nat.ne_of_gt (ag.lt (show ag w0 _ g aI bV ao5 from aoZ ai.z)):aoV ≠ g));replace ai:=k0 (ag.below (aoZ ai.z) hb);clear hb aE hg)|((with_reducible refine bp (N:=4) rfl ?_);refine bR 4 #[.int .i64 0,.slice none 0 0] 31 ?_;intro ct hg w81 aE hb;replace dn:=k0 (Kd.gI (Kd.ng (aV dn.z) ct (Nat.le_of_eq hg.symm)) hb);replace HB:=k0 (aH (by repeat (first|(with_reducible first|exact HB.z|apply a_|apply bf|apply aZ|refine aoO ?_ (ag.ge ai.z)|refine aoO ?_ aX.z)|exact HB.z)) hb);have ak:=k0 (aE);have fA:=gW hg (dU (aK HK.z));have fy:=k0 (Nat.le_trans apt.z fA.z);replace HK:=k0 (aoR.trans (aK HK.z) (aoR.iq hb g none) (.inl rfl));have cP:=nL hg aa;have dJ:=nG cP;replace aa:=kB aa hb;have nW:=k0 ((by rw [hg];exact Nat.ne_of_lt (ag.lt (show ag w0 _ g aI bV ao5 from aoZ ai.z)):g ≠ ct));have nY:=k0 ((by rw [hg];exact Nat.ne_of_gt (ag.lt (show ag w0 _ g aI bV ao5 from aoZ ai.z)):ct ≠ g));replace ai:=k0 (ag.below (aoZ ai.z) hb);clear hb aE hg)|((with_reducible refine bg (f:=112) rfl ?_);refine gC (some 8) Try.func112 #[.pointer (some ⟨g,0,none⟩),.int .i64 40] ?_;(with_reducible refine (dg.calls g aI bV ao5 40 t103 t104 t105 w0 _ ?aoN ?aoP A3.z).mono ?_);(case aoN=>repeat (first|(with_reducible first|exact ai.z|apply ag.alloc|apply ag.drewN|apply ag.drew|apply ag.fZ|apply ag.f_|refine ag.ao' ?_ dH.z _|refine ag.ao' ?_ nW.z _)|exact ai.z));(case aoP=>repeat (first|(with_reducible first|exact HB.z|apply a_|apply bf|apply aZ|refine aoO ?_ (ag.ge ai.z)|refine aoO ?_ aX.z|refine aoO ?_ fy.z)|exact HB.z));rintro e w82 ⟨rfl,hi,hb,hk⟩;refine ⟨_,rfl,?_⟩;have aq:=k0 (Kd.bP (Kd.aqm (Kd.bP (ok:=fun k_=>(((((ap4 k_∨w.heap.size≤k_))∧k_ ≠ g)∧k_ ≠ aoV)∧k_ ≠ ct)) (aV dn.z) (fun k_ bZ=>(⟨bZ,bZ.1.1.2⟩:_∧k_ ≠ g))) hk (fun _ h=>h.2)) (fun _ h=>h.1));have au:=k0 (aoR.blk hk (aB aa.z) dI.z (by simp));have ax:=k0 (aoR.blk hk (aB ak.z) nY.z (by simp));have aA:=k0 (aoR.trans (aK HK.z) hk (.inl rfl));have aG:=k0 (hb);have aM:=k0 (hi);clear dn;clear aa;clear ak;clear HK;clear HB;clear ai;have dn:=aq;have aa:=au;have ak:=ax;have HK:=aA;have HB:=aG;have ai:=aM;clear aq au ax aA aG aM;have acm:=cP.z;have acL:=dJ.z;have amY:=dI.z;have anI:=dH.z;have ajz:=aQ aa;have ajA:=aoT aa;have alL:=bF aa 0;have alM:=bF aa 1)|((with_reducible refine bg (f:=231) rfl ?_);refine gC (some 56) Try.func231 #[.agg #[.int .i64 cg,.slice eu bN.length ey]] ?_;(with_reducible refine (ie.calls k cg _ _ bN t134 t135 _ ?aoN ?aoP UP.z).mono ?_);(case aoN=>exact aC ((Kd.dm dn.z).2.2));(case aoP=>exact (Kd.dm dn.z).2.1);rintro e w86 ⟨Ij,rfl,aD,hb⟩;refine ⟨_,rfl,?_⟩;have aq:=k0 (Kd.dV (aV dn.z) (Kd.nZ aD) hb);have au:=k0 (Kd.ig (Kd.Bw (M:=fun k_=>(w.heap.size≤k_)) aD (dU (aK HK.z)) (fun k_ h_=>h_)) (dU (aK HK.z)));have ax:=k0 (ag.below (aoZ ai.z) hb);have aA:=kB aa hb;have aG:=kB ak hb;have aM:=k0 (aoR.trans (aK HK.z) (aoR.iq hb g none) (.inl rfl));have bu:=k0 (aH (by repeat (first|(with_reducible first|exact HB.z|apply a_|apply bf|apply aZ|refine aoO ?_ (ag.ge ai.z)|refine aoO ?_ aX.z|refine aoO ?_ fy.z)|exact HB.z)) hb);clear dn;clear ai;clear aa;clear ak;clear HK;clear HB;have dn:=aq;have FU:=au;have ai:=ax;have aa:=aA;have ak:=aG;have HK:=aM;have HB:=bu;clear aq au ax aA aG aM bu;have ajB:=aQ aa;have ajC:=aoT aa;have alN:=bF aa 0;have alO:=bF aa 1;obtain ⟨C9,D0,Kf⟩:=Kd.apc FU.z;subst Kf))
    go_loopg [] k (fun kq w'=>∃ (pV:List (List Int)) (u102001:Value),aj (jV.l0 kq aI t104 t105 t134 pV=some (r1,r2,r3,r4))∧aj (kq≤k)∧aj (Kd.S (Kd.slice 2 (Kd.int .i64)) 28 w' w.heap.size (fun k_=>(w.heap.size≤k_)) u102001 pV)∧aj (w'.heap[aoV]?=some (.cells #[.int .i64 t134,u102001] 31 (0,0)))∧aj (w'.heap[ct]?=some (.cells #[.int .i64 0,(.slice none 0 0)] 31 (0,0)))∧aj (ag w0 w' g aI t104 t105)∧aj (aoR w w' g none)∧aj (Below w0.heap.size w0 w'))
    case atStart=>exact ⟨(t135),(.slice C9 t135.length D0),H',⟨Nat.le_refl _⟩,⟨aS (Kd.bq (gS 1 (.slice C9 t135.length D0) (gS 0 (.int .i64 t134) (tS FU aa))) (fun _ hk=>hk.1.1))⟩,⟨by (with_reducible repeat (first|refine aoU ?_ _|refine aJ ?_|refine aoQ ?_ _));refine bE (cs:=#[.int .i64 t134,.slice eu bN.length ey]) ?_ 1 _ rfl;(with_reducible repeat (first|refine aoU ?_ _|refine aJ ?_|refine aoQ ?_ _));refine bE (cs:=#[.int .i64 cg,.slice eu bN.length ey]) ?_ 0 _ rfl;exact bk⟩,⟨by (with_reducible repeat (first|refine aoU ?_ _|refine aJ ?_|refine aoQ ?_ _));refine bW ?_ dJ.z _;(with_reducible repeat (first|refine aoU ?_ _|refine aJ ?_|refine aoQ ?_ _));refine bW ?_ dJ.z _;exact bk⟩,⟨aoZ ai.z⟩,⟨aK HK.z⟩,⟨by repeat (first|(with_reducible first|exact HB.z|apply a_|apply bf|apply aZ|refine aoO ?_ (ag.ge ai.z)|refine aoO ?_ aX.z|refine aoO ?_ fy.z)|exact HB.z)⟩⟩
    case round =>
     clear H'
     obtain ⟨pV,u102001,HA,bx,q8,aa,ak,ai,HK,HB⟩:=hrel
     cases gk with
     | zero=>exact absurd HA.z (by simp [jV.l0])
     | succ k1 =>
      have H:=HA.z
      clear HA
      simp only [jV.l0] at H
      by_cases c89:(pV.length:Int)≤10
      case neg =>
       rw [if_neg c89] at H
       have X_:decide ((pV.length:Int)≤10)=false:=decide_eq_false c89
       have Ya:decide (pV.length≤10)=false:=decide_eq_false (by omega)
       clear c89
       simp only [Option.some.injEq,Prod.mk.injEq] at H
       obtain ⟨rfl,rfl,rfl,rfl⟩:=H
       have amp:=cP.z
       have am8:=dJ.z
       have ab0:=dI.z
       have acp:=dH.z
       have ahU:=aQ aa
       have ahV:=aoT aa
       have aj5:=bF aa 0
       have aj6:=bF aa 1
       obtain ⟨NX,PV,Zf⟩:=Kd.apc q8.z
       subst Zf
       have ab2:=nY.z
       have acr:=nW.z
       have aar:=aQ ak
       have aas:=aoT ak
       have abc:=bF ak 0
       have abd:=bF ak 1
       go_wp2
       refine bodyPost_ret (results_cell_row rfl _ _ ct 31 #[.int .i64 t134,.slice NX pV.length PV] (0,0) _ rfl (by (with_reducible repeat (first|refine aoU ?_ _|refine aJ ?_|refine aoQ ?_ _));refine bE (cs:=#[.int .i64 t134,.slice none 0 0]) ?_ 1 _ rfl;(with_reducible repeat (first|refine aoU ?_ _|refine aJ ?_|refine aoQ ?_ _));refine bE (cs:=#[.int .i64 0,.slice none 0 0]) ?_ 0 _ rfl;exact bk) Try.underlying31 rfl (by kernel_rfl)) rfl ?_
       exact ⟨_,eR,Kd.bP (Kd.Bv (by (with_reducible repeat (first|apply Kd.cM|apply Kd.cI|apply Kd.cr));exact Kd.bq (gS 1 (.slice NX pV.length PV) (gS 0 (.int .i64 t134) (tS q8 ak))) (fun _ hk=>hk.1))) (fun k_ hk=>by first|exact ⟨(.inr (hk.1)),hk.2⟩|exact (.inr (hk))),aoZ ai.z,by repeat (first|(with_reducible first|exact HB.z|apply a_|apply bf|apply aZ|refine aoO ?_ (ag.ge ai.z)|refine aoO ?_ aX.z|refine aoO ?_ fy.z)|exact HB.z),aK HK.z⟩
      rw [if_pos c89] at H
      have X_:=decide_eq_true c89
      have Ya:decide (pV.length≤10)=true:=decide_eq_true (by omega)
      clear c89
      obtain ⟨FC,L0⟩:∃ y_:List Int,y_=(([0,0]:List Int)):=⟨_,rfl⟩
      replace H:(if pV.length < 5864062014805 then (jV.l0 k1 aI t104 t105 t134 (pV ++ [FC])) else (none))=some (r1,r2,r3,r4):=rH L0 H
      have OM:=k0 L0
      clear L0
      replace H:=iS H;obtain ⟨c90,H⟩:=H
      have Jx:=k0 c90
      clear c90
      obtain ⟨aqN,Az⟩:∃ y_:List (List Int),y_=(pV ++ [FC]):=⟨_,rfl⟩
      replace H:(jV.l0 k1 aI t104 t105 t134 aqN)=some (r1,r2,r3,r4):=rH Az H
      have JD:=k0 Az
      clear Az
      have H':=k0 H
      clear H
      have acn:=cP.z
      have acM:=dJ.z
      have am1:=dI.z
      have anL:=dH.z
      have ajL:=aQ aa
      have ajM:=aoT aa
      have alX:=bF aa 0
      have alY:=bF aa 1
      obtain ⟨FM,Gq,ZI⟩:=Kd.apc q8.z
      subst ZI
      go_wp2_with (first|((with_reducible refine bp (N:=63) rfl ?_);refine Kd.jr (Kd.int .i64) _ 2 ?hg (N:=63) ?hd (xs:=([0,0]:List Int)) (inner:=[.int .i64 0,.int .i64 0]) (ok:=fun _=>True) (b_:=fun _=>True) ?hr ?hp (fun _ hk=>hk) trivial (Below.refl _ _) (Nat.le_refl _) (by simp) ?_;(case hd=>rfl);(case hg=>rfl);(case hr=>first|(go_simp;done)|(go_simp;rfl));(case hp=>exact (bh.one (show Kd.M (Kd.int .i64) _ _ _ 0 [.int .i64 0] from rfl) (bh.one (show Kd.M (Kd.int .i64) _ _ _ 0 [.int .i64 0] from rfl) (bh.none _ _))));intro v139 w95 Cn hb cJ cK;clear cJ cK;(first|rw [← OM.z] at Cn|(simp only [Int.reduceToNat] at Cn;rw [← OM.z] at Cn));have aq:=k0 (Kd.cC (aS q8.z) (Kd.aU Cn) hb);have au:=k0 (Kd.cU (Kd.rj (M:=fun k_=>(w.heap.size≤k_)) Cn (dU (aK HK.z)) (fun k_ h_=>h_)) (dU (aK HK.z)));have ax:=kB aa hb;have aA:=kB ak hb;have aG:=k0 (ag.below (aoZ ai.z) hb);have aM:=k0 (aoR.trans (aK HK.z) (aoR.iq hb g none) (.inl rfl));have bu:=k0 (aH (by repeat (first|(with_reducible first|exact HB.z|apply a_|apply bf|apply aZ|refine aoO ?_ (ag.ge ai.z)|refine aoO ?_ aX.z|refine aoO ?_ fy.z)|exact HB.z)) hb);clear q8;clear aa;clear ak;clear ai;clear HK;clear HB;have q8:=aq;have qy:=au;have aa:=ax;have ak:=aA;have ai:=aG;have HK:=aM;have HB:=bu;clear aq au ax aA aG aM bu;clear hb Cn;obtain ⟨N5,P2,ZJ⟩:=Kd.dM qy.z;subst ZJ)|((with_reducible refine kQ (b:=.append) (xs:=#[.tmp 62,.tmp 64]) rfl ?_);at_builtin;refine Kd.uj (Kd.slice 2 (Kd.int .i64)) w.heap.size rfl (.tmp 62) (.tmp 64) 22 28 (.slice none 0 0) 24 rfl Try.underlying22 qX rfl (by decide) (by omega) (.slice FM pV.length Gq) pV FC [.slice N5 FC.length P2] (fun k_=>(w.heap.size≤k_)) (fun k_=>some k_=(.slice N5 FC.length P2:Value).ownBlock) rfl rfl ?aP (fun k_ bZ=>((Kd.aoY (ok':=fun k_=>((fun k_=>(w.heap.size≤k_))) k_∧some k_ ≠ (.slice FM pV.length Gq:Value).ownBlock) (Kd.iU (qy.z) (Kd.iE q8.z) (by decide)) (fun k_ hk=>⟨hk.1.1,hk.2⟩))).1 k_ bZ.symm) ?aF ?aO (Below.refl _ _) ?aS ?aL ?_;(case aP=>exact Kd.apB (Kd.aoY (Kd.mh rfl (Kd.aoY (ok':=fun k_=>((fun k_=>(w.heap.size≤k_))) k_∧some k_ ≠ (.slice FM pV.length Gq:Value).ownBlock) (Kd.iU (qy.z) (Kd.iE q8.z) (by decide)) (fun k_ hk=>⟨hk.1.1,hk.2⟩))) (fun _ h_=>h_)));(case aF=>exact (fun k_ hk=>(Nat.le_trans (dU (aK HK.z)) hk)));(case aO=>exact (by (with_reducible repeat (first|apply Kd.cM|apply Kd.cI|apply Kd.cr));exact Kd.bq q8.z (fun k_ hk=>⟨hk.1,fun e_=>hk.2 e_⟩)));(case aS=>exact (dU (aK HK.z)));(case aL=>have:=Jx.out;omega);intro aoh w97 ho hb hg ao1;rw [← JD.z] at ho;have aq:=k0 (fl (aB aa.z) hg (Kd.jz q8.z aa.z (by decide)));have au:=k0 (fl (aB ak.z) hg (Kd.jz q8.z ak.z (by decide)));have ax:=k0 (ag.grown (aoZ ai.z) hg (ag.AI ai.z q8.z (by decide)));have aA:=k0 (vW (by repeat (first|(with_reducible first|exact HB.z|apply a_|apply bf|apply aZ|refine aoO ?_ (ag.ge ai.z)|refine aoO ?_ aX.z|refine aoO ?_ fy.z)|exact HB.z)) HL.z hb);have aG:=k0 (aoR.trans (aK HK.z) (aoR.u_ hg g) (Kd.zJ q8.z));have aM:=k0 (ho);clear aa;clear ak;clear ai;clear HB;clear HK;clear q8;clear qy;have aa:=aq;have ak:=au;have ai:=ax;have HB:=aA;have HK:=aG;have Ou:=aM;clear aq au ax aA aG aM;clear ho hb hg ao1;obtain ⟨C_,D1,Kh⟩:=Kd.apc Ou.z;subst Kh;have ahQ:=aQ aa;have ahR:=aoT aa;have aj1:=bF aa 0;have aj2:=bF aa 1))
      go_roundg k1
      case measure=>have:=bx.z;omega
      case rel=>exact ⟨(aqN),(.slice C_ aqN.length D1),H',⟨by have:=bx.z;omega⟩,⟨aS (Kd.bq (gS 1 (.slice C_ aqN.length D1) (tS Ou aa)) (fun _ hk=>hk.1))⟩,⟨by (with_reducible repeat (first|refine aoU ?_ _|refine aJ ?_|refine aoQ ?_ _));refine bE (cs:=#[.int .i64 t134,.slice FM pV.length Gq]) ?_ 1 _ rfl;exact bk⟩,⟨by (with_reducible repeat (first|refine aoU ?_ _|refine aJ ?_|refine aoQ ?_ _));refine bW ?_ dJ.z _;exact bk⟩,⟨aoZ ai.z⟩,⟨aK HK.z⟩,⟨by repeat (first|(with_reducible first|exact HB.z|apply a_|apply bf|apply aZ|refine aoO ?_ (ag.ge ai.z)|refine aoO ?_ aX.z|refine aoO ?_ fy.z)|exact HB.z)⟩⟩
   rw [if_pos c39] at H
   have XV:(t103 == 2)=true:=beq_iff_eq.mpr c39
   have XW:(t103 != 2)=false:=bne_eq_false_iff_eq.mpr c39
   clear c39
   replace H:=Option.bind_eq_some_iff.mp H
   obtain ⟨⟨t122,t123⟩,NI,H⟩:=H
   replace H:(if (t123.length:Int) > 0 then ((dg.f aI t104 t105 (t123.length:Int)).bind fun jZ=>(if 0≤jZ.1 then (if jZ.1 < (t123.length:Int) then (if (av t123 jZ.1).length < 17592186044416 then (some (t122,(t123.set (jZ.1:Int).toNat ((av t123 jZ.1) ++ [0])),jZ.2.1,jZ.2.2)) else (none)) else (none)) else (none))) else (some (t122,t123,t104,t105)))=some (r1,r2,r3,r4):=H
   have fu:=k0 NI
   clear NI
   by_cases c41:(t123.length:Int) > 0
   case neg =>
    rw [if_neg c41] at H
    have Gk:decide (0 < (t123.length:Int))=false:=decide_eq_false c41
    have PA:decide (0 < t123.length)=false:=decide_eq_false (by omega)
    clear c41
    simp only [Option.some.injEq,Prod.mk.injEq] at H
    obtain ⟨rfl,rfl,rfl,rfl⟩:=H
    go_enter Try.func197,Try.ntmps197
    go_wp2_with (first|((with_reducible refine bp (N:=3) rfl ?_);refine bR 3 #[.int .i64 cg,.slice eu bN.length ey] 31 ?_;intro aoV hg w67 aE hb;replace dn:=k0 (Kd.gI (Kd.ng (aV dn.z) aoV (Nat.le_of_eq hg.symm)) hb);replace HB:=k0 (aH (by repeat (first|(with_reducible first|exact HB.z|apply a_|apply bf|apply aZ|refine aoO ?_ (ag.ge ai.z))|exact HB.z)) hb);have aa:=k0 (aE);have bB:=gW hg (dU (aK HK.z));have aX:=k0 (Nat.le_trans apt.z bB.z);replace HK:=k0 (aoR.trans (aK HK.z) (aoR.iq hb g none) (.inl rfl));have dH:=k0 ((by rw [hg];exact Nat.ne_of_lt (ag.lt (show ag w0 _ g aI bV ao5 from aoZ ai.z)):g ≠ aoV));have dI:=k0 ((by rw [hg];exact Nat.ne_of_gt (ag.lt (show ag w0 _ g aI bV ao5 from aoZ ai.z)):aoV ≠ g));replace ai:=k0 (ag.below (aoZ ai.z) hb);clear hb aE hg)|((with_reducible refine bp (N:=4) rfl ?_);refine bR 4 #[.int .i64 0,.slice none 0 0] 31 ?_;intro ct hg w68 aE hb;replace dn:=k0 (Kd.gI (Kd.ng (aV dn.z) ct (Nat.le_of_eq hg.symm)) hb);replace HB:=k0 (aH (by repeat (first|(with_reducible first|exact HB.z|apply a_|apply bf|apply aZ|refine aoO ?_ (ag.ge ai.z)|refine aoO ?_ aX.z)|exact HB.z)) hb);have ak:=k0 (aE);have fA:=gW hg (dU (aK HK.z));have fy:=k0 (Nat.le_trans apt.z fA.z);replace HK:=k0 (aoR.trans (aK HK.z) (aoR.iq hb g none) (.inl rfl));have cP:=nL hg aa;have dJ:=nG cP;replace aa:=kB aa hb;have nW:=k0 ((by rw [hg];exact Nat.ne_of_lt (ag.lt (show ag w0 _ g aI bV ao5 from aoZ ai.z)):g ≠ ct));have nY:=k0 ((by rw [hg];exact Nat.ne_of_gt (ag.lt (show ag w0 _ g aI bV ao5 from aoZ ai.z)):ct ≠ g));replace ai:=k0 (ag.below (aoZ ai.z) hb);clear hb aE hg)|((with_reducible refine bg (f:=112) rfl ?_);refine gC (some 8) Try.func112 #[.pointer (some ⟨g,0,none⟩),.int .i64 40] ?_;(with_reducible refine (dg.calls g aI bV ao5 40 t103 t104 t105 w0 _ ?aoN ?aoP A3.z).mono ?_);(case aoN=>repeat (first|(with_reducible first|exact ai.z|apply ag.alloc|apply ag.drewN|apply ag.drew|apply ag.fZ|apply ag.f_|refine ag.ao' ?_ dH.z _|refine ag.ao' ?_ nW.z _)|exact ai.z));(case aoP=>repeat (first|(with_reducible first|exact HB.z|apply a_|apply bf|apply aZ|refine aoO ?_ (ag.ge ai.z)|refine aoO ?_ aX.z|refine aoO ?_ fy.z)|exact HB.z));rintro e w69 ⟨rfl,hi,hb,hk⟩;refine ⟨_,rfl,?_⟩;have aq:=k0 (Kd.bP (Kd.aqm (Kd.bP (ok:=fun k_=>(((((ap4 k_∨w.heap.size≤k_))∧k_ ≠ g)∧k_ ≠ aoV)∧k_ ≠ ct)) (aV dn.z) (fun k_ bZ=>(⟨bZ,bZ.1.1.2⟩:_∧k_ ≠ g))) hk (fun _ h=>h.2)) (fun _ h=>h.1));have au:=k0 (aoR.blk hk (aB aa.z) dI.z (by simp));have ax:=k0 (aoR.blk hk (aB ak.z) nY.z (by simp));have aA:=k0 (aoR.trans (aK HK.z) hk (.inl rfl));have aG:=k0 (hb);have aM:=k0 (hi);clear dn;clear aa;clear ak;clear HK;clear HB;clear ai;have dn:=aq;have aa:=au;have ak:=ax;have HK:=aA;have HB:=aG;have ai:=aM;clear aq au ax aA aG aM;have amR:=cP.z;have anB:=dJ.z;have acj:=dI.z;have acJ:=dH.z;have ajg:=aQ aa;have ajh:=aoT aa;have alr:=bF aa 0;have als:=bF aa 1)|((with_reducible refine bg (f:=231) rfl ?_);refine gC (some 33) Try.func231 #[.agg #[.int .i64 cg,.slice eu bN.length ey]] ?_;(with_reducible refine (ie.calls k cg _ _ bN t122 t123 _ ?aoN ?aoP fu.z).mono ?_);(case aoN=>exact aC ((Kd.dm dn.z).2.2));(case aoP=>exact (Kd.dm dn.z).2.1);rintro e Uh ⟨v124,rfl,aD,hb⟩;refine ⟨_,rfl,?_⟩;have aq:=k0 (Kd.dV (aV dn.z) (Kd.nZ aD) hb);have au:=k0 (Kd.ig (Kd.Bw (M:=fun k_=>(w.heap.size≤k_)) aD (dU (aK HK.z)) (fun k_ h_=>h_)) (dU (aK HK.z)));have ax:=k0 (ag.below (aoZ ai.z) hb);have aA:=kB aa hb;have aG:=kB ak hb;have aM:=k0 (aoR.trans (aK HK.z) (aoR.iq hb g none) (.inl rfl));have bu:=k0 (aH (by repeat (first|(with_reducible first|exact HB.z|apply a_|apply bf|apply aZ|refine aoO ?_ (ag.ge ai.z)|refine aoO ?_ aX.z|refine aoO ?_ fy.z)|exact HB.z)) hb);clear dn;clear ai;clear aa;clear ak;clear HK;clear HB;have dn:=aq;have ei:=au;have ai:=ax;have aa:=aA;have ak:=aG;have HK:=aM;have HB:=bu;clear aq au ax aA aG aM bu;have ajk:=aQ aa;have ajl:=aoT aa;have alw:=bF aa 0;have alx:=bF aa 1;obtain ⟨vF,aqd,z7⟩:=Kd.apc ei.z;subst z7;have amT:=nY.z;have anD:=nW.z;have ajo:=aQ ak;have ajp:=aoT ak;have alA:=bF ak 0;have alB:=bF ak 1))
    refine bodyPost_ret (results_cell_row rfl _ _ ct 31 #[.int .i64 t122,.slice vF t123.length aqd] (0,0) _ rfl (by (with_reducible repeat (first|refine aoU ?_ _|refine aJ ?_|refine aoQ ?_ _));refine bE (cs:=#[.int .i64 t122,.slice none 0 0]) ?_ 1 _ rfl;(with_reducible repeat (first|refine aoU ?_ _|refine aJ ?_|refine aoQ ?_ _));refine bE (cs:=#[.int .i64 0,.slice none 0 0]) ?_ 0 _ rfl;(with_reducible repeat (first|refine aoU ?_ _|refine aJ ?_|refine aoQ ?_ _));refine bW ?_ dJ.z _;(with_reducible repeat (first|refine aoU ?_ _|refine aJ ?_|refine aoQ ?_ _));refine bW ?_ dJ.z _;exact bk) Try.underlying31 rfl (by kernel_rfl)) rfl ?_
    exact ⟨_,eR,Kd.bP (Kd.Bv (by (with_reducible repeat (first|apply Kd.cM|apply Kd.cI|apply Kd.cr));exact Kd.bq (Kd.nI (p:=⟨ct,1,none⟩) (Kd.nI (p:=⟨ct,0,none⟩) (Kd.nI (p:=⟨aoV,1,none⟩) (Kd.nI (p:=⟨aoV,0,none⟩) (Kd.zK (tS ei aa) ak.z (by decide)) (fun _ hk=>hk.1.2) (.int .i64 t122)) (fun _ hk=>hk.1.2) (.slice vF t123.length aqd)) (fun _ hk=>hk.2) (.int .i64 t122)) (fun _ hk=>hk.2) (.slice vF t123.length aqd)) (fun _ hk=>hk.1.1.1))) (fun k_ hk=>by first|exact ⟨(.inr (hk.1)),hk.2⟩|exact (.inr (hk))),aoZ ai.z,by repeat (first|(with_reducible first|exact HB.z|apply a_|apply bf|apply aZ|refine aoO ?_ (ag.ge ai.z)|refine aoO ?_ aX.z|refine aoO ?_ fy.z)|exact HB.z),aK HK.z⟩
   rw [if_pos c41] at H
   have Gk:=decide_eq_true c41
   have PA:decide (0 < t123.length)=true:=decide_eq_true (by omega)
   clear c41
   replace H:=Option.bind_eq_some_iff.mp H
   obtain ⟨⟨t126,t127,t128⟩,NJ,H⟩:=H
   replace H:(if 0≤t126 then (if t126 < (t123.length:Int) then (if (av t123 t126).length < 17592186044416 then (some (t122,(t123.set (t126:Int).toNat ((av t123 t126) ++ [0])),t127,t128)) else (none)) else (none)) else (none))=some (r1,r2,r3,r4):=H
   have UM:=k0 NJ
   clear NJ
   replace H:=iS H;obtain ⟨c43,H⟩:=H
   have XY:=decide_eq_true c43
   clear c43
   replace H:=iS H;obtain ⟨c44,H⟩:=H
   have ahb:=decide_eq_true c44
   clear c44
   replace H:=iS H;obtain ⟨c45,H⟩:=H
   have Wh:=k0 c45
   clear c45
   obtain ⟨vz,LV⟩:∃ y_:List Int,y_=((av t123 t126) ++ [0]):=⟨_,rfl⟩
   replace H:(some (t122,(t123.set (t126:Int).toNat vz),t127,t128))=some (r1,r2,r3,r4):=rH LV H
   have Wz:=k0 LV
   clear LV
   obtain ⟨Uy,LY⟩:∃ y_:List (List Int),y_=(t123.set (t126:Int).toNat vz):=⟨_,rfl⟩
   replace H:(some (t122,Uy,t127,t128))=some (r1,r2,r3,r4):=rH LY H
   have WC:=k0 LY
   clear LY
   simp only [Option.some.injEq,Prod.mk.injEq] at H
   obtain ⟨rfl,rfl,rfl,rfl⟩:=H
   go_enter Try.func197,Try.ntmps197
   try go_wp2_with (first|((with_reducible refine bp (N:=3) rfl ?_);refine bR 3 #[.int .i64 cg,.slice eu bN.length ey] 31 ?_;intro aoV hg w47 aE hb;replace dn:=k0 (Kd.gI (Kd.ng (aV dn.z) aoV (Nat.le_of_eq hg.symm)) hb);replace HB:=k0 (aH (by repeat (first|(with_reducible first|exact HB.z|apply a_|apply bf|apply aZ|refine aoO ?_ (ag.ge ai.z))|exact HB.z)) hb);have aa:=k0 (aE);have bB:=gW hg (dU (aK HK.z));have aX:=k0 (Nat.le_trans apt.z bB.z);replace HK:=k0 (aoR.trans (aK HK.z) (aoR.iq hb g none) (.inl rfl));have dH:=k0 ((by rw [hg];exact Nat.ne_of_lt (ag.lt (show ag w0 _ g aI bV ao5 from aoZ ai.z)):g ≠ aoV));have dI:=k0 ((by rw [hg];exact Nat.ne_of_gt (ag.lt (show ag w0 _ g aI bV ao5 from aoZ ai.z)):aoV ≠ g));replace ai:=k0 (ag.below (aoZ ai.z) hb);clear hb aE hg)|((with_reducible refine bp (N:=4) rfl ?_);refine bR 4 #[.int .i64 0,.slice none 0 0] 31 ?_;intro ct hg w48 aE hb;replace dn:=k0 (Kd.gI (Kd.ng (aV dn.z) ct (Nat.le_of_eq hg.symm)) hb);replace HB:=k0 (aH (by repeat (first|(with_reducible first|exact HB.z|apply a_|apply bf|apply aZ|refine aoO ?_ (ag.ge ai.z)|refine aoO ?_ aX.z)|exact HB.z)) hb);have ak:=k0 (aE);have fA:=gW hg (dU (aK HK.z));have fy:=k0 (Nat.le_trans apt.z fA.z);replace HK:=k0 (aoR.trans (aK HK.z) (aoR.iq hb g none) (.inl rfl));have cP:=nL hg aa;have dJ:=nG cP;replace aa:=kB aa hb;have nW:=k0 ((by rw [hg];exact Nat.ne_of_lt (ag.lt (show ag w0 _ g aI bV ao5 from aoZ ai.z)):g ≠ ct));have nY:=k0 ((by rw [hg];exact Nat.ne_of_gt (ag.lt (show ag w0 _ g aI bV ao5 from aoZ ai.z)):ct ≠ g));replace ai:=k0 (ag.below (aoZ ai.z) hb);clear hb aE hg)|((with_reducible refine bg (f:=112) rfl ?_);refine gC (some 8) Try.func112 #[.pointer (some ⟨g,0,none⟩),.int .i64 40] ?_;(with_reducible refine (dg.calls g aI bV ao5 40 t103 t104 t105 w0 _ ?aoN ?aoP A3.z).mono ?_);(case aoN=>repeat (first|(with_reducible first|exact ai.z|apply ag.alloc|apply ag.drewN|apply ag.drew|apply ag.fZ|apply ag.f_|refine ag.ao' ?_ dH.z _|refine ag.ao' ?_ nW.z _)|exact ai.z));(case aoP=>repeat (first|(with_reducible first|exact HB.z|apply a_|apply bf|apply aZ|refine aoO ?_ (ag.ge ai.z)|refine aoO ?_ aX.z|refine aoO ?_ fy.z)|exact HB.z));rintro e w49 ⟨rfl,hi,hb,hk⟩;refine ⟨_,rfl,?_⟩;have aq:=k0 (Kd.bP (Kd.aqm (Kd.bP (ok:=fun k_=>(((((ap4 k_∨w.heap.size≤k_))∧k_ ≠ g)∧k_ ≠ aoV)∧k_ ≠ ct)) (aV dn.z) (fun k_ bZ=>(⟨bZ,bZ.1.1.2⟩:_∧k_ ≠ g))) hk (fun _ h=>h.2)) (fun _ h=>h.1));have au:=k0 (aoR.blk hk (aB aa.z) dI.z (by simp));have ax:=k0 (aoR.blk hk (aB ak.z) nY.z (by simp));have aA:=k0 (aoR.trans (aK HK.z) hk (.inl rfl));have aG:=k0 (hb);have aM:=k0 (hi);clear dn;clear aa;clear ak;clear HK;clear HB;clear ai;have dn:=aq;have aa:=au;have ak:=ax;have HK:=aA;have HB:=aG;have ai:=aM;clear aq au ax aA aG aM;have ace:=cP.z;have acE:=dJ.z;have acf:=dI.z;have acF:=dH.z;have aaW:=aQ aa;have aaX:=aoT aa;have abI:=bF aa 0;have abJ:=bF aa 1)|((with_reducible refine bg (f:=231) rfl ?_);refine gC (some 33) Try.func231 #[.agg #[.int .i64 cg,.slice eu bN.length ey]] ?_;(with_reducible refine (ie.calls k cg _ _ bN t122 t123 _ ?aoN ?aoP fu.z).mono ?_);(case aoN=>exact aC ((Kd.dm dn.z).2.2));(case aoP=>exact (Kd.dm dn.z).2.1);rintro e w53 ⟨v124,rfl,aD,hb⟩;refine ⟨_,rfl,?_⟩;have aq:=k0 (Kd.dV (aV dn.z) (Kd.nZ aD) hb);have au:=k0 (Kd.ig (Kd.Bw (M:=fun k_=>(w.heap.size≤k_)) aD (dU (aK HK.z)) (fun k_ h_=>h_)) (dU (aK HK.z)));have ax:=k0 (ag.below (aoZ ai.z) hb);have aA:=kB aa hb;have aG:=kB ak hb;have aM:=k0 (aoR.trans (aK HK.z) (aoR.iq hb g none) (.inl rfl));have bu:=k0 (aH (by repeat (first|(with_reducible first|exact HB.z|apply a_|apply bf|apply aZ|refine aoO ?_ (ag.ge ai.z)|refine aoO ?_ aX.z|refine aoO ?_ fy.z)|exact HB.z)) hb);clear dn;clear ai;clear aa;clear ak;clear HK;clear HB;have dn:=aq;have ei:=au;have ai:=ax;have aa:=aA;have ak:=aG;have HK:=aM;have HB:=bu;clear aq au ax aA aG aM bu;have aa0:=aQ aa;have aa1:=aoT aa;have abM:=bF aa 0;have abN:=bF aa 1;obtain ⟨C8,ux,BO⟩:=Kd.apc ei.z;subst BO)|((with_reducible refine bg (f:=112) rfl ?_);refine gC (some 41) Try.func112 #[.pointer (some ⟨g,0,none⟩),.int .i64 (t123.length:Int)] ?_;(with_reducible refine (dg.calls g aI t104 t105 (t123.length:Int) t126 t127 t128 w0 _ ?aoN ?aoP UM.z).mono ?_);(case aoN=>repeat (first|(with_reducible first|exact ai.z|apply ag.alloc|apply ag.drewN|apply ag.drew|apply ag.fZ|apply ag.f_|refine ag.ao' ?_ dH.z _|refine ag.ao' ?_ nW.z _)|exact ai.z));(case aoP=>repeat (first|(with_reducible first|exact HB.z|apply a_|apply bf|apply aZ|refine aoO ?_ (ag.ge ai.z)|refine aoO ?_ aX.z|refine aoO ?_ fy.z)|exact HB.z));rintro e Ug ⟨rfl,hi,hb,hk⟩;refine ⟨_,rfl,?_⟩;replace dn:=k0 (Kd.bP (Kd.aqm (Kd.bP (ok:=fun k_=>((((((ap4 k_∨w.heap.size≤k_))∧k_ ≠ g)∧k_ ≠ aoV)∧k_ ≠ ct)∧some k_ ≠ (.slice C8 t123.length ux:Value).ownBlock)) (by (with_reducible repeat (first|apply Kd.nc|apply Kd.mN|apply Kd.kE));exact (Kd.bP (Kd.ape (p:=⟨aoV,1,none⟩) (Kd.ape (p:=⟨aoV,0,none⟩) (Kd.bP dn.z (fun k_ hk=>(⟨hk,hk.1.1.2⟩:_∧k_ ≠ aoV))) (fun _ hk=>hk.2) (.int .i64 t122)) (fun _ hk=>hk.2) (.slice C8 t123.length ux)) (fun _ h_=>h_.1))) (fun k_ bZ=>(⟨bZ,bZ.1.1.1.2⟩:_∧k_ ≠ g))) hk (fun _ h=>h.2)) (fun _ h=>h.1));replace ak:=k0 (aoR.blk hk (g':=ct) (o:=.cells #[.int .i64 0,.slice none 0 0] 31 (0,0)) (by (with_reducible repeat (first|refine aoU ?_ _|refine aJ ?_|refine aoQ ?_ _));refine bW ?_ dJ.z _;(with_reducible repeat (first|refine aoU ?_ _|refine aJ ?_|refine aoQ ?_ _));refine bW ?_ dJ.z _;exact bk) nY.z (by simp));replace ei:=k0 (Kd.bq (Kd.p_ (ag.pI (show ag w0 _ g aI t104 t105 from aoZ ai.z) (by (with_reducible repeat (first|apply Kd.cM|apply Kd.cI|apply Kd.cr));exact (Kd.bq (gS 1 (.slice C8 t123.length ux) (gS 0 (.int .i64 t122) (tS ei aa))) (fun _ h_=>h_.1))) (by decide)) hk (fun _ h=>h.2)) (fun _ h=>h.1));replace aa:=k0 (aoR.blk hk (g':=aoV) (o:=sO t122 C8 t123 ux 31) (by (with_reducible repeat (first|refine aoU ?_ _|refine aJ ?_|refine aoQ ?_ _));refine bE (cs:=#[.int .i64 t122,.slice eu bN.length ey]) ?_ 1 _ rfl;(with_reducible repeat (first|refine aoU ?_ _|refine aJ ?_|refine aoQ ?_ _));refine bE (cs:=#[.int .i64 cg,.slice eu bN.length ey]) ?_ 0 _ rfl;exact bk) dI.z (by simp));replace HK:=k0 (aoR.trans (aK HK.z) hk (.inl rfl));replace HB:=k0 (hb);replace ai:=k0 (hi);))
   replace dn:=k0 (Kd.kE dn.z);replace ei:=k0 (Kd.cr ei.z);replace aa:=k0 (aJ aa.z);replace ak:=k0 (aJ ak.z);replace ai:=k0 (ag.drew ai.z);replace HK:=k0 (SX HK.z);replace HB:=k0 (aZ HB.z)
   have yU:0≤(t126:Int):=oD
   have yX:t126 < (t123.length:Int):=oD
   obtain ⟨Pe,FG,DR,e129,wq,EL,EG⟩:=fW (Kd.cQ ei.z).2.2 t126 yU yX
   cases e129
   obtain ⟨ahr,aaj,Z_,Q0⟩:=Kd.vS ei.z [] t126 yU (by first|exact yX|exact oD|(have e_:=(Kd.cQ ei.z).1;omega))
   obtain ⟨aoq,rfl,Ko⟩:=Z_
   have E1:=Q0 0 _ rfl
   rw [Nat.add_zero,show ((Kd.slice 2 (Kd.int .i64))).sz=1 from rfl,Nat.mul_one] at E1
   replace E1:=Option.some.inj (E1.symm.trans wq)
   rw [E1] at Ko
   have sS:=k0 (show Kd.R (Kd.int .i64) 2 _ _ _ _ (av t123 t126) from Ko)
   clear E1 Ko
   have OC:=k0 wq
   clear Q0 aaj
   have FY:=k0 EG
   have VJ:=k0 EL
   clear EG EL
   replace yU:=eq_true yU
   replace yX:=eq_true yX
   have n_:=k0 (Kd.bq (ok':=(fun k_=>(w.heap.size≤k_))) ei.z (fun k_ hk=>hk.1))
   clear ei
   have ei:=n_
   clear n_
   obtain ⟨pM,J4,z6,QJ,ZX,ahB,Ol⟩:=Kd.WT ei.z (by have h_:(t126:Int) < ((t123.length:Int):Int):=oD;have h2_:0≤(t126:Int):=oD;omega)
   (first|cases z6|(injection z6 with er apw apv;(first|subst er|(injection er with er;subst er));subst apv;clear apw))
   have Vv:=k0 QJ
   have VB:=k0 Ol
   clear QJ ZX Ol
   (first|simp only [add_plain] at wq|skip)
   obtain ⟨Tr,ahu,aam,Z4,Q3,_,_,QN⟩:=Kd.WS ei.z [] (t126:Int) oD (by have h_:(t126:Int) < ((t123.length:Int):Int):=oD;first|exact h_|(have e_:=(Kd.cQ ei.z).1;omega)|simpa using h_)
   obtain ⟨aot,rfl,QK⟩:=Z4
   have E2:=Q3 0 _ rfl
   have Kz:=OC.z
   (try simp only [add_plain] at Kz)
   (try simp only [Nat.add_zero] at E2)
   (try rw [show ((Kd.slice 2 (Kd.int .i64))).sz=1 from rfl,Nat.mul_one] at E2)
   replace E2:=Option.some.inj (E2.symm.trans Kz)
   subst E2
   clear Kz Q3 aam
   have F8:=k0 (show Kd.R (Kd.int .i64) 2 _ w.heap.size Tr (.slice FG (av t123 t126).length DR) (av t123 t126) from QK)
   have zq:=k0 QN
   have Je:=k0 (Kd.cQ ei.z).1
   clear QN QK
   refine apA (n:=12) (S:=fun w'=>w'.cell? ⟨aoV,0,none⟩=some (.int .i64 t122)∧w'.cell? ⟨aoV,1,none⟩=some (.slice (some ⟨pM,0,none⟩) t123.length ux)∧w'.cell? ⟨pM,(t126).toNat,none⟩=some (.slice FG (av t123 t126).length DR)) (ds:=[11]) (ba 12 0) (by kernel_rfl) rfl rfl ⟨aQ aa,aoT aa,wq⟩ (fun hHeld=>?_);refine nB jV.Nd jV.JP (fun az dA=>?_)
   generalize Ug.drew=Ns at dn ei aa ak ai HK HB VB zq sS FY OC F8 wq hHeld ⊢
   refine pu 0 (some 42) (ba 12 1) az (h:=?_)
   refine pu 2 (some 44) (ba 12 5) az (h:=?_)
   refine pu 3 (some 45) (ba 12 13) az (h:=?_)
   refine pu 5 (some 47) (ba 12 45) az (h:=?_)
   refine ta 1 (some 43) (ba 12 47) az dA hHeld (hy:=Or.inl ⟨by rfl,by rintro w' ⟨s0,s1,s2⟩;go_simp;with_reducible rfl⟩) (h:=?_)
   refine ta 4 (some 46) (ba 12 63) az dA hHeld (hy:=Or.inl ⟨by rfl,by rintro w' ⟨s0,s1,s2⟩;go_simp;with_reducible rfl⟩) (h:=?_)
   refine pu 6 (some 48) (ba 12 127) az (h:=?_)
   refine ta 7 (some 49) (ba 12 255) az dA hHeld (hy:=Or.inl ⟨by rfl,by rintro w' ⟨s0,s1,s2⟩;go_simp;with_reducible rfl⟩) (h:=?_)
   refine ja (i:=8) (N:=some 50) (ba 12 511) rfl rfl (hO az.out (by kernel_rfl)) (by decide) (fun K hK=>?_)
   refine Fq (w1:=?_) (v:=?_) (by rfl) rfl ?_ ?_
   rotate_left 2
   ·go_simp
    constructor
    ·rfl
    ·rfl
   refine hK.out _ _ ⟨(fq (aoQ aa.z _) 0).trans rfl,(fq (aoQ aa.z _) 1).trans rfl,(World.cell?_alloc_lt _ _ _ (World.block_lt_of_cell? _ _ (hHeld.2.2))).trans (hHeld.2.2)⟩ (fun hHeld=>?_)
   clear hK K
   refine jh (a':=?_) ?_ ?_
   rotate_left;· show Act.put _ (some 50) _=_;simp only [Act.put,zI,zZ,zS,cm,cO];rfl
   refine ja (i:=9) (N:=some 51) (ba 12 1023) rfl rfl (hO az.out (by kernel_rfl)) (by decide) (fun K hK=>?_)
   refine Kd.OU (Kd.int .i64) w.heap.size (by rfl) (.tmp 49) (.tmp 50) 28 2 (.int .i64 0) 8 rfl Try.underlying28 mR rfl (by decide) (by omega) (.slice FG (av t123 t126).length DR) (av t123 t126) 0 [.int .i64 0] (fun k_=>Tr k_∨((fun k_=>(w.heap.size≤k_))) k_∧Ns.heap.size≤k_) (fun _=>False) rfl rfl ?aP (fun _ hk=>hk.elim) ?aF ?aO (Below.refl _ _) ?aS ?aL ?_
   (case aP=>exact rfl)
   (case aF=>exact (fun k_ hk=>.inr ⟨by first|trivial|exact Nat.le_trans (dU (aK HK.z)) hk,hk⟩))
   (case aO=>exact (by (with_reducible repeat (first|apply Kd.dK|apply Kd.dD|apply Kd.cB));exact Kd.aoY F8.out (fun _ hk=>.inl hk)))
   (case aS=>exact (dU (aK HK.z)))
   (case aL=>have:=Wh.out;omega)
   intro v131 y6 ho hb hg ao1
   (first|have FZ:=zQ hg (hHeld.2.2) (by first|(rw [add_block];exact (fun e_=>((sS.z.1 _ e_.symm).2) rfl))|(show some (Addr.add _ _).block ≠ _;rw [add_block];exact (fun e_=>((sS.z.1 _ e_.symm).2) rfl))|exact (fun e_=>((sS.z.1 _ e_.symm).2) rfl))|have FZ:=zQ hg (Yf (hHeld.2.2) (by first|(rw [add_block];exact Kd.ap6 ei.z _ rfl)|(show (Addr.add _ _).block < _;rw [add_block];exact Kd.ap6 ei.z _ rfl)|exact Kd.ap6 ei.z _ rfl)) (by first|(rw [add_block];exact (fun e_=>((sS.z.1 _ e_.symm).2) rfl))|(show some (Addr.add _ _).block ≠ _;rw [add_block];exact (fun e_=>((sS.z.1 _ e_.symm).2) rfl))|exact (fun e_=>((sS.z.1 _ e_.symm).2) rfl)))
   rw [← Wz.z] at ho
   have aq:=k0 (ag.grown (aoZ ai.z) hg (ag.tD ai.z sS.z (by decide)))
   have au:=k0 (fl (aB aa.z) hg (Kd.kr sS.z aa.z (by decide)))
   have ax:=k0 (fl (aB ak.z) hg (Kd.kr sS.z ak.z (by decide)))
   have aA:=k0 (vW (by repeat (first|(with_reducible first|exact HB.z|apply a_|apply bf|apply aZ|refine aoO ?_ (ag.ge ai.z)|refine aoO ?_ aX.z|refine aoO ?_ fy.z)|exact HB.z)) HL.z hb)
   have aG:=k0 (aoR.trans (aK HK.z) (aoR.u_ hg g) (Kd.DD sS.z))
   have aM:=k0 (Kd.OE (Kd.V5 (by repeat (first|exact zq.out|refine Kd.agT ?_ _|refine Kd.agV ?_ _|refine Kd.agU ?_))) hg (fun k_ e_=>.inl (F8.out.1 k_ e_)))
   have bu:=k0 (ho)
   clear ai
   clear aa
   clear ak
   clear HB
   clear HK
   clear zq
   clear ei
   clear F8
   clear sS
   have ai:=aq
   have aa:=au
   have ak:=ax
   have HB:=aA
   have HK:=aG
   have zq:=aM
   have Oo:=bu
   clear aq au ax aA aG aM bu
   clear ho hb hg ao1
   have Ty:0≤(t126:Int):=oD
   have TE:(t126:Int) < ((t123.length:Int):Int):=oD
   replace Ty:=eq_true Ty
   replace TE:=eq_true TE
   obtain ⟨wK,xe,Gu⟩:=Kd.dM Oo.z
   (first|subst Gu|(injection Gu with gv apr gw;have j4:=gv.symm;have j5:=gw.symm;clear gv apr gw;subst j4;subst j5))
   obtain ⟨_,_,Hl,_,_,Q4,_⟩:=Kd.Jr zq.out oD (by have h_:(t126:Int) < ((t123.length:Int):Int):=oD;first|exact h_|(have e_:=(Je.out);omega)|simpa using h_)
   obtain ⟨_,Rp⟩:=Kd.V0 zq.out oD (by have h_:(t126:Int) < ((t123.length:Int):Int):=oD;first|exact h_|(have e_:=(Je.out);omega)|simpa using h_)
   have SJ:=Q4 0 _ rfl
   have Ro:=Rp 0
   (try simp only [Nat.add_zero] at SJ Ro)
   (try rw [show ((Kd.slice 2 (Kd.int .i64))).sz=1 from rfl,Nat.mul_one] at SJ)
   (try rw [show ((Kd.slice 2 (Kd.int .i64))).sz=1 from rfl,Nat.mul_one] at Ro)
   have Jj:=Kd.WX zq.out oD (by have h_:(t126:Int) < ((t123.length:Int):Int):=oD;first|exact h_|(have e_:=(Je.out);omega)|simpa using h_) (seg:=[.slice wK vz.length xe]) (j:=0) (show 1≤1 from by decide) (x':=vz) (Kd.apB Oo.z) (fun _ hk=>hk)
   (try simp only [show ((Kd.slice 2 (Kd.int .i64))).sz=1 from rfl,Nat.mul_one,Nat.add_zero] at Jj)
   clear Q4 Rp
   have agN:=k0 (show g ≠ pM from by have h_:=ag.tD ai.z Hl (by decide);intro e_;exact h_ (by rw [e_];rfl))
   have VN:=k0 (show aoV ≠ pM from by have h_:=Kd.kr Hl aa.z (by decide);intro e_;exact h_ (by rw [e_];rfl))
   have VO:=k0 (show ct ≠ pM from by have h_:=Kd.kr Hl ak.z (by decide);intro e_;exact h_ (by rw [e_];rfl))
   have Jo:=Jj.1
   rw [← WC.z] at Jo
   have VS:=k0 Jo
   obtain ⟨_,RG⟩:=Kd.OZ Hl pM rfl
   have agw:=k0 RG
   clear Jj Jo RG
   refine hK.out _ _ ⟨aQ aa,aoT aa,FZ⟩ (fun hHeld=>?_)
   clear hK K
   refine jh (a':=?_) ?_ ?_
   rotate_left;· show Act.put _ (some 51) _=_;simp only [Act.put,zI,zZ,zS,cm,cO];rfl
   refine pu 10 (some 52) (ba 12 2047) az (h:=?_)
   refine uW (i:=11) (N:=none) (ba 12 4095) rfl rfl (hO az.out (by kernel_rfl)) (by decide) (fun K hK=>?_)
   refine tG (w1:=?_) (by rfl) rfl ?_ ?_
   rotate_left;· go_simp;rfl
   refine hK.out _ _ ?_
   clear hK K
   refine lY (nj az.out (by kernel_rfl)) ?_
   have aq:aj (Kd.S (Kd.slice 2 (Kd.int .i64)) 28 (y6.setCell ⟨pM,(t126:Int).toNat,none⟩ (.slice wK vz.length xe)) w.heap.size (fun k_=>(w.heap.size≤k_)) (.slice (some ⟨pM,0,none⟩) t123.length ux) Uy):=⟨aS (VS.out)⟩
   have au:aj ((y6.setCell ⟨pM,(t126:Int).toNat,none⟩ (.slice wK vz.length xe)).heap[aoV]?=some (.cells #[.int .i64 t122,.slice (some ⟨pM,0,none⟩) t123.length ux] 31 (0,0))):=⟨by (with_reducible repeat (first|refine aoU ?_ _|refine aJ ?_|refine aoQ ?_ _));refine bW ?_ VN.out _;exact bk⟩
   have ax:aj ((y6.setCell ⟨pM,(t126:Int).toNat,none⟩ (.slice wK vz.length xe)).heap[ct]?=some (.cells #[.int .i64 0,.slice none 0 0] 31 (0,0))):=⟨by (with_reducible repeat (first|refine aoU ?_ _|refine aJ ?_|refine aoQ ?_ _));refine bW ?_ VO.out _;exact bk⟩
   have aA:aj (ag w0 (y6.setCell ⟨pM,(t126:Int).toNat,none⟩ (.slice wK vz.length xe)) g aI t127 t128):=⟨aoZ ai.z⟩
   have aG:aj (aoR w (y6.setCell ⟨pM,(t126:Int).toNat,none⟩ (.slice wK vz.length xe)) g none):=⟨aK HK.z⟩
   have aM:aj (Below w0.heap.size w0 (y6.setCell ⟨pM,(t126:Int).toNat,none⟩ (.slice wK vz.length xe))):=⟨by repeat (first|(with_reducible first|exact HB.z|apply a_|apply bf|apply aZ|refine aoO ?_ (Nat.le_trans HL.z Vv.out)|refine aoO ?_ (ag.ge ai.z)|refine aoO ?_ aX.z|refine aoO ?_ fy.z)|exact HB.z)⟩
   generalize (y6.setCell ⟨pM,(t126:Int).toNat,none⟩ (.slice wK vz.length xe))=w63 at aq au ax aA aG aM ⊢
   have ei:=aq
   have aa:=au
   have ak:=ax
   have ai:=aA
   have HK:=aG
   have HB:=aM
   clear aq au ax aA aG aM
   have aa2:=aQ aa
   have aa3:=aoT aa
   have abO:=bF aa 0
   have abP:=bF aa 1
   have amN:=nY.z
   have anw:=nW.z
   have ai':=aQ ak
   have ai_:=aoT ak
   have ali:=bF ak 0
   have alj:=bF ak 1
   try go_wp2
   refine bodyPost_ret (results_cell_row rfl _ _ ct 31 #[.int .i64 t122,.slice (some ⟨pM,0,none⟩) t123.length ux] (0,0) _ rfl (by (with_reducible repeat (first|refine aoU ?_ _|refine aJ ?_|refine aoQ ?_ _));refine bE (cs:=#[.int .i64 t122,.slice none 0 0]) ?_ 1 _ rfl;(with_reducible repeat (first|refine aoU ?_ _|refine aJ ?_|refine aoQ ?_ _));refine bE (cs:=#[.int .i64 0,.slice none 0 0]) ?_ 0 _ rfl;exact bk) Try.underlying31 rfl (by kernel_rfl)) rfl ?_
   exact ⟨_,eR,Kd.bP (Kd.Bv (by (with_reducible repeat (first|apply Kd.cM|apply Kd.cI|apply Kd.cr));exact Kd.bq (gS 1 (.slice (some ⟨pM,0,none⟩) t123.length ux) (gS 0 (.int .i64 t122) (tS ei ak))) (fun _ hk=>hk.1))) (fun k_ hk=>by first|exact ⟨(.inr (hk.1)),hk.2⟩|exact (.inr (hk))),aoZ ai.z,by repeat (first|(with_reducible first|exact HB.z|apply a_|apply bf|apply aZ|refine aoO ?_ (ag.ge ai.z)|refine aoO ?_ aX.z|refine aoO ?_ fy.z)|exact HB.z),aK HK.z⟩
  rw [if_pos c19] at H
  have aqp:(t103 == 1)=true:=beq_iff_eq.mpr c19
  have Gh:(t103 != 1)=false:=bne_eq_false_iff_eq.mpr c19
  clear c19
  replace H:=Option.bind_eq_some_iff.mp H
  obtain ⟨⟨t112,t113⟩,C0,H⟩:=H
  replace H:(if t113.length < 5864062014805 then (some (t112,(t113 ++ [(([0,t112]:List Int))]),t104,t105)) else (none))=some (r1,r2,r3,r4):=H
  have fI:=k0 C0
  clear C0
  obtain ⟨qv,qW⟩:∃ y_:List Int,y_=(([0,t112]:List Int)):=⟨_,rfl⟩
  replace H:(if t113.length < 5864062014805 then (some (t112,(t113 ++ [qv]),t104,t105)) else (none))=some (r1,r2,r3,r4):=rH qW H
  have aqk:=k0 qW
  clear qW
  replace H:=iS H;obtain ⟨c21,H⟩:=H
  have Wb:=k0 c21
  clear c21
  obtain ⟨IC,LP⟩:∃ y_:List (List Int),y_=(t113 ++ [qv]):=⟨_,rfl⟩
  replace H:(some (t112,IC,t104,t105))=some (r1,r2,r3,r4):=rH LP H
  have Ww:=k0 LP
  clear LP
  simp only [Option.some.injEq,Prod.mk.injEq] at H
  obtain ⟨rfl,rfl,rfl,rfl⟩:=H
  go_enter Try.func197,Try.ntmps197
  go_wp2_with (first|((with_reducible refine bp (N:=3) rfl ?_);refine bR 3 #[.int .i64 cg,.slice eu bN.length ey] 31 ?_;intro aoV hg tM aE hb;replace dn:=k0 (Kd.gI (Kd.ng (aV dn.z) aoV (Nat.le_of_eq hg.symm)) hb);replace HB:=k0 (aH (by repeat (first|(with_reducible first|exact HB.z|apply a_|apply bf|apply aZ|refine aoO ?_ (ag.ge ai.z))|exact HB.z)) hb);have aa:=k0 (aE);have bB:=gW hg (dU (aK HK.z));have aX:=k0 (Nat.le_trans apt.z bB.z);replace HK:=k0 (aoR.trans (aK HK.z) (aoR.iq hb g none) (.inl rfl));have dH:=k0 ((by rw [hg];exact Nat.ne_of_lt (ag.lt (show ag w0 _ g aI bV ao5 from aoZ ai.z)):g ≠ aoV));have dI:=k0 ((by rw [hg];exact Nat.ne_of_gt (ag.lt (show ag w0 _ g aI bV ao5 from aoZ ai.z)):aoV ≠ g));replace ai:=k0 (ag.below (aoZ ai.z) hb);clear hb aE hg)|((with_reducible refine bp (N:=4) rfl ?_);refine bR 4 #[.int .i64 0,.slice none 0 0] 31 ?_;intro ct hg CO aE hb;replace dn:=k0 (Kd.gI (Kd.ng (aV dn.z) ct (Nat.le_of_eq hg.symm)) hb);replace HB:=k0 (aH (by repeat (first|(with_reducible first|exact HB.z|apply a_|apply bf|apply aZ|refine aoO ?_ (ag.ge ai.z)|refine aoO ?_ aX.z)|exact HB.z)) hb);have ak:=k0 (aE);have fA:=gW hg (dU (aK HK.z));have fy:=k0 (Nat.le_trans apt.z fA.z);replace HK:=k0 (aoR.trans (aK HK.z) (aoR.iq hb g none) (.inl rfl));have cP:=nL hg aa;have dJ:=nG cP;replace aa:=kB aa hb;have nW:=k0 ((by rw [hg];exact Nat.ne_of_lt (ag.lt (show ag w0 _ g aI bV ao5 from aoZ ai.z)):g ≠ ct));have nY:=k0 ((by rw [hg];exact Nat.ne_of_gt (ag.lt (show ag w0 _ g aI bV ao5 from aoZ ai.z)):ct ≠ g));replace ai:=k0 (ag.below (aoZ ai.z) hb);clear hb aE hg)|((with_reducible refine bg (f:=112) rfl ?_);refine gC (some 8) Try.func112 #[.pointer (some ⟨g,0,none⟩),.int .i64 40] ?_;(with_reducible refine (dg.calls g aI bV ao5 40 t103 t104 t105 w0 _ ?aoN ?aoP A3.z).mono ?_);(case aoN=>repeat (first|(with_reducible first|exact ai.z|apply ag.alloc|apply ag.drewN|apply ag.drew|apply ag.fZ|apply ag.f_|refine ag.ao' ?_ dH.z _|refine ag.ao' ?_ nW.z _)|exact ai.z));(case aoP=>repeat (first|(with_reducible first|exact HB.z|apply a_|apply bf|apply aZ|refine aoO ?_ (ag.ge ai.z)|refine aoO ?_ aX.z|refine aoO ?_ fy.z)|exact HB.z));rintro e Fs ⟨rfl,hi,hb,hk⟩;refine ⟨_,rfl,?_⟩;have aq:=k0 (Kd.bP (Kd.aqm (Kd.bP (ok:=fun k_=>(((((ap4 k_∨w.heap.size≤k_))∧k_ ≠ g)∧k_ ≠ aoV)∧k_ ≠ ct)) (aV dn.z) (fun k_ bZ=>(⟨bZ,bZ.1.1.2⟩:_∧k_ ≠ g))) hk (fun _ h=>h.2)) (fun _ h=>h.1));have au:=k0 (aoR.blk hk (aB aa.z) dI.z (by simp));have ax:=k0 (aoR.blk hk (aB ak.z) nY.z (by simp));have aA:=k0 (aoR.trans (aK HK.z) hk (.inl rfl));have aG:=k0 (hb);have aM:=k0 (hi);clear dn;clear aa;clear ak;clear HK;clear HB;clear ai;have dn:=aq;have aa:=au;have ak:=ax;have HK:=aA;have HB:=aG;have ai:=aM;clear aq au ax aA aG aM;have G_:=cP.z;have Hg:=dJ.z;have R9:=dI.z;have Sl:=dH.z;have KP:=aQ aa;have KQ:=aoT aa;have La:=bF aa 0;have Lb:=bF aa 1)|((with_reducible refine bg (f:=231) rfl ?_);refine gC (some 21) Try.func231 #[.agg #[.int .i64 cg,.slice eu bN.length ey]] ?_;(with_reducible refine (ie.calls k cg _ _ bN t112 t113 _ ?aoN ?aoP fI.z).mono ?_);(case aoN=>exact aC ((Kd.dm dn.z).2.2));(case aoP=>exact (Kd.dm dn.z).2.1);rintro e aqG ⟨Fm,rfl,aD,hb⟩;refine ⟨_,rfl,?_⟩;have aq:=k0 (Kd.dV (aV dn.z) (Kd.nZ aD) hb);have au:=k0 (Kd.ig (Kd.Bw (M:=fun k_=>(w.heap.size≤k_)) aD (dU (aK HK.z)) (fun k_ h_=>h_)) (dU (aK HK.z)));have ax:=k0 (ag.below (aoZ ai.z) hb);have aA:=kB aa hb;have aG:=kB ak hb;have aM:=k0 (aoR.trans (aK HK.z) (aoR.iq hb g none) (.inl rfl));have bu:=k0 (aH (by repeat (first|(with_reducible first|exact HB.z|apply a_|apply bf|apply aZ|refine aoO ?_ (ag.ge ai.z)|refine aoO ?_ aX.z|refine aoO ?_ fy.z)|exact HB.z)) hb);clear dn;clear ai;clear aa;clear ak;clear HK;clear HB;have dn:=aq;have lF:=au;have ai:=ax;have aa:=aA;have ak:=aG;have HK:=aM;have HB:=bu;clear aq au ax aA aG aM bu;have Q9:=aQ aa;have Q_:=aoT aa;have Rt:=bF aa 0;have Ru:=bF aa 1;obtain ⟨hU,gK,aqe⟩:=Kd.apc lF.z;subst aqe)|((with_reducible refine bp (N:=26) rfl ?_);refine Kd.jr (Kd.int .i64) _ 2 ?hg (N:=26) ?hd (xs:=([0,t112]:List Int)) (inner:=[.int .i64 0,.int .i64 t112]) (ok:=fun _=>True) (b_:=fun _=>True) ?hr ?hp (fun _ hk=>hk) trivial (Below.refl _ _) (Nat.le_refl _) (by simp) ?_;(case hd=>rfl);(case hg=>rfl);(case hr=>first|(go_simp;done)|(go_simp;rfl));(case hp=>exact (bh.one (show Kd.M (Kd.int .i64) _ _ _ 0 [.int .i64 0] from rfl) (bh.one (show Kd.M (Kd.int .i64) _ _ _ t112 [.int .i64 t112] from rfl) (bh.none _ _))));intro v117 CP mQ hb cJ cK;clear cJ cK;(first|rw [← aqk.z] at mQ|(simp only [Int.reduceToNat] at mQ;rw [← aqk.z] at mQ));replace dn:=k0 (Kd.dV (by (with_reducible repeat (first|apply Kd.nc|apply Kd.mN|apply Kd.kE));exact (Kd.bP (Kd.ape (p:=⟨aoV,1,none⟩) (Kd.ape (p:=⟨aoV,0,none⟩) (Kd.bP dn.z (fun k_ hk=>(⟨hk,hk.1.1.2⟩:_∧k_ ≠ aoV))) (fun _ hk=>hk.2) (.int .i64 t112)) (fun _ hk=>hk.2) (.slice hU t113.length gK)) (fun _ h_=>h_.1))) (Kd.aU mQ) hb);replace lF:=k0 (Kd.cC (by (with_reducible repeat (first|apply Kd.cM|apply Kd.cI|apply Kd.cr));exact (Kd.bq (gS 1 (.slice hU t113.length gK) (gS 0 (.int .i64 t112) (tS lF aa))) (fun _ h_=>h_.1))) (Kd.aU mQ) hb);have aqv:=k0 (Kd.cU (Kd.rj (M:=fun k_=>(w.heap.size≤k_)) mQ (dU (aK HK.z)) (fun k_ h_=>h_)) (dU (aK HK.z)));replace aa:=k0 (cZ (g:=aoV) (o:=sO t112 hU t113 gK 31) (by (with_reducible repeat (first|refine aoU ?_ _|refine aJ ?_|refine aoQ ?_ _));refine bE (cs:=#[.int .i64 t112,.slice eu bN.length ey]) ?_ 1 _ rfl;(with_reducible repeat (first|refine aoU ?_ _|refine aJ ?_|refine aoQ ?_ _));refine bE (cs:=#[.int .i64 cg,.slice eu bN.length ey]) ?_ 0 _ rfl;exact bk) hb);replace ak:=k0 (cZ (g:=ct) (o:=.cells #[.int .i64 0,.slice none 0 0] 31 (0,0)) (by (with_reducible repeat (first|refine aoU ?_ _|refine aJ ?_|refine aoQ ?_ _));refine bW ?_ dJ.z _;(with_reducible repeat (first|refine aoU ?_ _|refine aJ ?_|refine aoQ ?_ _));refine bW ?_ dJ.z _;exact bk) hb);replace HK:=k0 (aoR.trans (aK HK.z) (aoR.iq hb g none) (.inl rfl));replace HB:=k0 (aH (by repeat (first|(with_reducible first|exact HB.z|apply a_|apply bf|apply aZ|refine aoO ?_ (ag.ge ai.z)|refine aoO ?_ aX.z|refine aoO ?_ fy.z)|exact HB.z)) hb);replace ai:=k0 (ag.below (show ag w0 ((aqG.setCell ⟨aoV,0,none⟩ (.int .i64 t112)).setCell ⟨aoV,1,none⟩ (.slice hU t113.length gK)) g aI t104 t105 from aoZ ai.z) hb);clear hb mQ;obtain ⟨vE,vZ,D7⟩:=Kd.dM aqv.z;subst D7)|((with_reducible refine kQ (b:=.append) (xs:=#[.tmp 23,.tmp 27]) rfl ?_);at_builtin;refine Kd.uj (Kd.slice 2 (Kd.int .i64)) w.heap.size rfl (.tmp 23) (.tmp 27) 22 28 (.slice none 0 0) 24 rfl Try.underlying22 qX rfl (by decide) (by omega) (.slice hU t113.length gK) t113 qv [.slice vE qv.length vZ] (fun k_=>(w.heap.size≤k_)) (fun k_=>some k_=(.slice vE qv.length vZ:Value).ownBlock) rfl rfl ?aP (fun k_ bZ=>((Kd.aoY (ok':=fun k_=>((fun k_=>(w.heap.size≤k_))) k_∧some k_ ≠ (.slice hU t113.length gK:Value).ownBlock) (Kd.iU (aqv.z) (Kd.iE lF.z) (by decide)) (fun k_ hk=>⟨hk.1.1,hk.2⟩))).1 k_ bZ.symm) ?aF ?aO (Below.refl _ _) ?aS ?aL ?_;(case aP=>exact Kd.apB (Kd.aoY (Kd.mh rfl (Kd.aoY (ok':=fun k_=>((fun k_=>(w.heap.size≤k_))) k_∧some k_ ≠ (.slice hU t113.length gK:Value).ownBlock) (Kd.iU (aqv.z) (Kd.iE lF.z) (by decide)) (fun k_ hk=>⟨hk.1.1,hk.2⟩))) (fun _ h_=>h_)));(case aF=>exact (fun k_ hk=>(Nat.le_trans (dU (aK HK.z)) hk)));(case aO=>exact (by (with_reducible repeat (first|apply Kd.cM|apply Kd.cI|apply Kd.cr));exact Kd.bq lF.z (fun k_ hk=>⟨hk.1.1,fun e_=>hk.2 e_⟩)));(case aS=>exact (dU (aK HK.z)));(case aL=>have:=Wb.out;omega);intro Ii xH ho hb hg ao1;rw [← Ww.z] at ho;have aq:=k0 (ag.grown (aoZ ai.z) hg (ag.AI ai.z lF.z (by decide)));have au:=k0 (Kd.DJ (ok:=(fun k_=>(ap4 k_∨w.heap.size≤k_)∧some k_ ≠ (.slice vE qv.length vZ:Value).ownBlock∧k_ ≠ g∧k_ ≠ aoV∧k_ ≠ ct)) (by (with_reducible repeat (first|apply Kd.nc|apply Kd.mN|apply Kd.kE));exact Kd.bP dn.z (fun _ hk=>⟨⟨hk.1.1.1.1.1,⟨hk.2,⟨hk.1.1.1.1.2,⟨hk.1.1.1.2,hk.1.1.2⟩⟩⟩⟩,hk.1.2⟩)) hg ao1);have ax:=k0 (fl (aB aa.z) hg (Kd.jz lF.z aa.z (by decide)));have aA:=k0 (fl (aB ak.z) hg (Kd.jz lF.z ak.z (by decide)));have aG:=k0 (vW (by repeat (first|(with_reducible first|exact HB.z|apply a_|apply bf|apply aZ|refine aoO ?_ (ag.ge ai.z)|refine aoO ?_ aX.z|refine aoO ?_ fy.z)|exact HB.z)) HL.z hb);have aM:=k0 (aoR.trans (aK HK.z) (aoR.u_ hg g) (Kd.zJ lF.z));have bu:=k0 (ho);clear ai;clear dn;clear aa;clear ak;clear HB;clear HK;clear lF;clear aqv;have ai:=aq;have dn:=au;have aa:=ax;have ak:=aA;have HB:=aG;have HK:=aM;have jW:=bu;clear aq au ax aA aG aM bu;clear ho hb hg ao1;obtain ⟨xZ,yp,D8⟩:=Kd.apc jW.z;subst D8;have GH:=aQ aa;have GI:=aoT aa;have GS:=bF aa 0;have GU:=bF aa 1;have ab7:=nY.z;have acy:=nW.z;have Re:=aQ ak;have Rf:=aoT ak;have Rz:=bF ak 0;have RA:=bF ak 1))
  refine bodyPost_ret (results_cell_row rfl _ _ ct 31 #[.int .i64 t112,.slice xZ IC.length yp] (0,0) _ rfl (by (with_reducible repeat (first|refine aoU ?_ _|refine aJ ?_|refine aoQ ?_ _));refine bE (cs:=#[.int .i64 t112,.slice none 0 0]) ?_ 1 _ rfl;(with_reducible repeat (first|refine aoU ?_ _|refine aJ ?_|refine aoQ ?_ _));refine bE (cs:=#[.int .i64 0,.slice none 0 0]) ?_ 0 _ rfl;(with_reducible repeat (first|refine aoU ?_ _|refine aJ ?_|refine aoQ ?_ _));refine bW ?_ dJ.z _;exact bk) Try.underlying31 rfl (by kernel_rfl)) rfl ?_
  exact ⟨_,eR,Kd.bP (Kd.Bv (by (with_reducible repeat (first|apply Kd.cM|apply Kd.cI|apply Kd.cr));exact Kd.bq (Kd.nI (p:=⟨ct,1,none⟩) (Kd.nI (p:=⟨ct,0,none⟩) (Kd.nI (p:=⟨aoV,1,none⟩) (Kd.zK (tS jW aa) ak.z (by decide)) (fun _ hk=>hk.1.2) (.slice xZ IC.length yp)) (fun _ hk=>hk.2) (.int .i64 t112)) (fun _ hk=>hk.2) (.slice xZ IC.length yp)) (fun _ hk=>hk.1.1))) (fun k_ hk=>by first|exact ⟨(.inr (hk.1)),hk.2⟩|exact (.inr (hk))),aoZ ai.z,by repeat (first|(with_reducible first|exact HB.z|apply a_|apply bf|apply aZ|refine aoO ?_ (ag.ge ai.z)|refine aoO ?_ aX.z|refine aoO ?_ fy.z)|exact HB.z),aK HK.z⟩
 rw [if_pos c4] at H
 have fX:(t103 == 0)=true:=beq_iff_eq.mpr c4
 have qa:(t103 != 0)=false:=bne_eq_false_iff_eq.mpr c4
 clear c4
 obtain ⟨Iz,LM⟩:∃ y_:List Int,y_=(([0,9,wrap64 (cg - 1)]:List Int)):=⟨_,rfl⟩
 replace H:((kj.f aI t104 t105 Iz).bind fun js=>(some (js.1,bN,js.2.1,js.2.2)))=some (r1,r2,r3,r4):=rH LM H
 have OI:=k0 LM
 clear LM
 replace H:=Option.bind_eq_some_iff.mp H
 obtain ⟨⟨t109,t110,t111⟩,kC,H⟩:=H
 replace H:(some (t109,bN,t110,t111))=some (r1,r2,r3,r4):=H
 have A5:=k0 kC
 clear kC
 simp only [Option.some.injEq,Prod.mk.injEq] at H
 obtain ⟨rfl,rfl,rfl,rfl⟩:=H
 go_enter Try.func197,Try.ntmps197
 go_wp2_with (first|((with_reducible refine bp (N:=3) rfl ?_);refine bR 3 #[.int .i64 cg,.slice eu bN.length ey] 31 ?_;intro aoV hg w6 aE hb;replace dn:=k0 (Kd.gI (Kd.ng (aV dn.z) aoV (Nat.le_of_eq hg.symm)) hb);replace HB:=k0 (aH (by repeat (first|(with_reducible first|exact HB.z|apply a_|apply bf|apply aZ|refine aoO ?_ (ag.ge ai.z))|exact HB.z)) hb);have aa:=k0 (aE);have bB:=gW hg (dU (aK HK.z));have aX:=k0 (Nat.le_trans apt.z bB.z);replace HK:=k0 (aoR.trans (aK HK.z) (aoR.iq hb g none) (.inl rfl));have dH:=k0 ((by rw [hg];exact Nat.ne_of_lt (ag.lt (show ag w0 _ g aI bV ao5 from aoZ ai.z)):g ≠ aoV));have dI:=k0 ((by rw [hg];exact Nat.ne_of_gt (ag.lt (show ag w0 _ g aI bV ao5 from aoZ ai.z)):aoV ≠ g));replace ai:=k0 (ag.below (aoZ ai.z) hb);clear hb aE hg)|((with_reducible refine bp (N:=4) rfl ?_);refine bR 4 #[.int .i64 0,.slice none 0 0] 31 ?_;intro ct hg w7 aE hb;replace dn:=k0 (Kd.gI (Kd.ng (aV dn.z) ct (Nat.le_of_eq hg.symm)) hb);replace HB:=k0 (aH (by repeat (first|(with_reducible first|exact HB.z|apply a_|apply bf|apply aZ|refine aoO ?_ (ag.ge ai.z)|refine aoO ?_ aX.z)|exact HB.z)) hb);have ak:=k0 (aE);have fA:=gW hg (dU (aK HK.z));have fy:=k0 (Nat.le_trans apt.z fA.z);replace HK:=k0 (aoR.trans (aK HK.z) (aoR.iq hb g none) (.inl rfl));have cP:=nL hg aa;have dJ:=nG cP;replace aa:=kB aa hb;have nW:=k0 ((by rw [hg];exact Nat.ne_of_lt (ag.lt (show ag w0 _ g aI bV ao5 from aoZ ai.z)):g ≠ ct));have nY:=k0 ((by rw [hg];exact Nat.ne_of_gt (ag.lt (show ag w0 _ g aI bV ao5 from aoZ ai.z)):ct ≠ g));replace ai:=k0 (ag.below (aoZ ai.z) hb);clear hb aE hg)|((with_reducible refine bg (f:=112) rfl ?_);refine gC (some 8) Try.func112 #[.pointer (some ⟨g,0,none⟩),.int .i64 40] ?_;(with_reducible refine (dg.calls g aI bV ao5 40 t103 t104 t105 w0 _ ?aoN ?aoP A3.z).mono ?_);(case aoN=>repeat (first|(with_reducible first|exact ai.z|apply ag.alloc|apply ag.drewN|apply ag.drew|apply ag.fZ|apply ag.f_|refine ag.ao' ?_ dH.z _|refine ag.ao' ?_ nW.z _)|exact ai.z));(case aoP=>repeat (first|(with_reducible first|exact HB.z|apply a_|apply bf|apply aZ|refine aoO ?_ (ag.ge ai.z)|refine aoO ?_ aX.z|refine aoO ?_ fy.z)|exact HB.z));rintro e w8 ⟨rfl,hi,hb,hk⟩;refine ⟨_,rfl,?_⟩;have aq:=k0 (Kd.bP (Kd.aqm (Kd.bP (ok:=fun k_=>(((((ap4 k_∨w.heap.size≤k_))∧k_ ≠ g)∧k_ ≠ aoV)∧k_ ≠ ct)) (aV dn.z) (fun k_ bZ=>(⟨bZ,bZ.1.1.2⟩:_∧k_ ≠ g))) hk (fun _ h=>h.2)) (fun _ h=>h.1));have au:=k0 (aoR.blk hk (aB aa.z) dI.z (by simp));have ax:=k0 (aoR.blk hk (aB ak.z) nY.z (by simp));have aA:=k0 (aoR.trans (aK HK.z) hk (.inl rfl));have aG:=k0 (hb);have aM:=k0 (hi);clear dn;clear aa;clear ak;clear HK;clear HB;clear ai;have dn:=aq;have aa:=au;have ak:=ax;have HK:=aA;have HB:=aG;have ai:=aM;clear aq au ax aA aG aM;have Cc:=cP.z;have Ce:=dJ.z;have G8:=dI.z;have He:=dH.z;have BQ:=aQ aa;have BR:=aoT aa;have aqO:=bF aa 0;have B2:=bF aa 1)|((with_reducible refine bp (N:=15) rfl ?_);refine Kd.jr (Kd.int .i64) _ 2 ?hg (N:=15) ?hd (xs:=([0,9,wrap64 (cg - 1)]:List Int)) (inner:=[.int .i64 0,.int .i64 9,.int .i64 (wrap64 (cg - 1))]) (ok:=fun _=>True) (b_:=fun _=>True) ?hr ?hp (fun _ hk=>hk) trivial (Below.refl _ _) (Nat.le_refl _) (by simp) ?_;(case hd=>rfl);(case hg=>rfl);(case hr=>first|(go_simp;done)|(go_simp;rfl));(case hp=>exact (bh.one (show Kd.M (Kd.int .i64) _ _ _ 0 [.int .i64 0] from rfl) (bh.one (show Kd.M (Kd.int .i64) _ _ _ 9 [.int .i64 9] from rfl) (bh.one (show Kd.M (Kd.int .i64) _ _ _ (wrap64 (cg - 1)) [.int .i64 (wrap64 (cg - 1))] from rfl) (bh.none _ _)))));intro v107 vq oP hb cJ cK;clear cJ cK;(first|rw [← OI.z] at oP|(simp only [Int.reduceToNat] at oP;rw [← OI.z] at oP));have aq:=k0 (Kd.dV (aV dn.z) (Kd.aU oP) hb);have au:=k0 (Kd.cU (Kd.rj (M:=fun k_=>(w.heap.size≤k_)) oP (dU (aK HK.z)) (fun k_ h_=>h_)) (dU (aK HK.z)));have ax:=k0 (ag.below (aoZ ai.z) hb);have aA:=kB aa hb;have aG:=kB ak hb;have aM:=k0 (aoR.trans (aK HK.z) (aoR.iq hb g none) (.inl rfl));have bu:=k0 (aH (by repeat (first|(with_reducible first|exact HB.z|apply a_|apply bf|apply aZ|refine aoO ?_ (ag.ge ai.z)|refine aoO ?_ aX.z|refine aoO ?_ fy.z)|exact HB.z)) hb);clear dn;clear ai;clear aa;clear ak;clear HK;clear HB;have dn:=aq;have kM:=au;have ai:=ax;have aa:=aA;have ak:=aG;have HK:=aM;have HB:=bu;clear aq au ax aA aG aM bu;clear hb oP;obtain ⟨nS,og,zX⟩:=Kd.dM kM.z;subst zX)|((with_reducible refine bg (f:=202) rfl ?_);refine gC (some 16) Try.func202 #[.pointer (some ⟨g,0,none⟩),.slice nS Iz.length og] ?_;(with_reducible refine (kj.calls g aI t104 t105 _ _ Iz t109 t110 t111 w0 _ ?aoN ?aoP ?bA ?bH ?apC A5.z).mono ?_);(case aoN=>repeat (first|(with_reducible first|exact ai.z|apply ag.alloc|apply ag.drewN|apply ag.drew|apply ag.fZ|apply ag.f_|refine ag.ao' ?_ dH.z _|refine ag.ao' ?_ nW.z _)|exact ai.z));(case aoP=>repeat (first|(with_reducible first|exact HB.z|apply a_|apply bf|apply aZ|refine aoO ?_ (ag.ge ai.z)|refine aoO ?_ aX.z|refine aoO ?_ fy.z)|exact HB.z));(case bA=>exact aC ((Kd.cx kM.z).2.2));(case bH=>exact (Kd.cx kM.z).2.1);(case apC=>exact Ea (ag.tD ai.z kM.z (by decide)));rintro e qq ⟨rfl,hi,hb,hk⟩;refine ⟨_,rfl,?_⟩;have aq:=k0 (Kd.bP (Kd.aqm (Kd.bP (ok:=fun k_=>((((((ap4 k_∨w.heap.size≤k_))∧k_ ≠ g)∧k_ ≠ aoV)∧k_ ≠ ct)∧some k_ ≠ (.slice nS Iz.length og:Value).ownBlock)) (aV dn.z) (fun k_ bZ=>(⟨bZ,bZ.1.1.1.2⟩:_∧k_ ≠ g))) hk (fun _ h=>h.2)) (fun _ h=>h.1));have au:=k0 (aoR.blk hk (aB aa.z) dI.z (by simp));have ax:=k0 (aoR.blk hk (aB ak.z) nY.z (by simp));have aA:=k0 (Kd.aoY (Kd.qE (ag.apart (show ag w0 _ g aI t104 t105 from aoZ ai.z) (aR kM.z) (by decide)) hk (fun _ h=>h.2)) (fun _ h=>h.1));have aG:=k0 (aoR.trans (aK HK.z) hk (.inl rfl));have aM:=k0 (hb);have bu:=k0 (hi);clear dn;clear aa;clear ak;clear kM;clear HK;clear HB;clear ai;have dn:=aq;have aa:=au;have ak:=ax;have kM:=aA;have HK:=aG;have HB:=aM;have ai:=bu;clear aq au ax aA aG aM bu;have BS:=aQ aa;have BU:=aoT aa;have B3:=bF aa 0;have aqP:=bF aa 1;have G9:=nY.z;have Hf:=nW.z;have Er:=aQ ak;have Es:=aoT ak;have Ex:=bF ak 0;have Ey:=bF ak 1))
 refine bodyPost_ret (results_cell_row rfl _ _ ct 31 #[.int .i64 t109,.slice eu bN.length ey] (0,0) _ rfl (by (with_reducible repeat (first|refine aoU ?_ _|refine aJ ?_|refine aoQ ?_ _));refine bE (cs:=#[.int .i64 t109,.slice none 0 0]) ?_ 1 _ rfl;(with_reducible repeat (first|refine aoU ?_ _|refine aJ ?_|refine aoQ ?_ _));refine bE (cs:=#[.int .i64 0,.slice none 0 0]) ?_ 0 _ rfl;(with_reducible repeat (first|refine aoU ?_ _|refine aJ ?_|refine aoQ ?_ _));refine bW ?_ dJ.z _;exact bk) Try.underlying31 rfl (by kernel_rfl)) rfl ?_
 exact ⟨_,eR,by (with_reducible repeat (first|apply Kd.nc|apply Kd.mN|apply Kd.kE));exact Kd.bP (Kd.ape (p:=⟨ct,1,none⟩) (Kd.ape (p:=⟨ct,0,none⟩) (Kd.ape (p:=⟨aoV,0,none⟩) (Kd.bP (Kd.bP dn.z (fun k_ hk=>(⟨hk,hk.1.1.2⟩:_∧k_ ≠ aoV))) (fun k_ hk=>(⟨hk,hk.1.1.2⟩:_∧k_ ≠ ct))) (fun _ hk=>hk.1.2) (.int .i64 t109)) (fun _ hk=>hk.2) (.int .i64 t109)) (fun _ hk=>hk.2) (.slice eu bN.length ey)) (fun _ hk=>hk.1.1.1.1.1.1),aoZ ai.z,by repeat (first|(with_reducible first|exact HB.z|apply a_|apply bf|apply aZ|refine aoO ?_ (ag.ge ai.z)|refine aoO ?_ aX.z|refine aoO ?_ fy.z)|exact HB.z),aK HK.z⟩
end Go.Proofs.Ytoebojnhchocaaa.E
/- Set with little white space, by a program. -/
