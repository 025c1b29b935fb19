/- The functions that one law reaches, each as a Lean function, and that Go's call comes to what it says. Condition of each: that the Lean function answers (is not none). -/
import Derived.Test.YtoebojnhchocaaaEx0
import Derived.Test.YtoebojnhchocaaaEx1
import Derived.Test.YtoebojnhchocaaaEx9
import Derived.Test.YtoebojnhchocaaaEx10
import Derived.Test.YtoebojnhchocaaaEx11
import Derived.Test.YtoebojnhchocaaaEx12
import Derived.Test.YtoebojnhchocaaaEx14
namespace Go.Proofs.Ytoebojnhchocaaa.E
open Go.RowKit Go.Proofs.bY.apf Go.Proofs.bY.ko Go.Proofs.bY.kN
attribute [local go_sem] max2_int min2_int max_two min_two max_three min_three max_four min_four   -- for this text's walks alone
set_option linter.unusedVariables false
set_option linter.unusedSimpArgs false
set_option maxHeartbeats 8000000
set_option maxRecDepth 100000
/-! ### F198: function 198 -/
def zj.f (k:Nat) (aI:List Int) (bV:Int) (ao5:Int):Option (Int × (List (List Int)) × Int × Int):=(dg.f aI bV ao5 4).bind fun ao2=>(if ao2.1=0 then ((aqs.f).bind fun t105=>((dg.f aI ao2.2.1 ao2.2.2 (t105.length:Int)).bind fun fL=>(if 0≤fL.1 then (if fL.1 < (t105.length:Int) then ((pZ.f k (fj ByteArray.empty t105 fL.1)).bind fun fM=>(some (fM.1,fM.2.1,fL.2.1,fL.2.2))) else (none)) else (none)))) else ((dg.f aI ao2.2.1 ao2.2.2 8).bind fun uo=>((kj.f aI uo.2.1 uo.2.2 (([1,2,3,3,4,4,5,6,wrap64 (1+uo.1)]:List Int))).bind fun oa=>((kj.f aI oa.2.1 oa.2.2 (([2,4,6,6,8,10]:List Int))).bind fun gU=>((cA.f k aI gU.2.1 gU.2.2 oa.1 gU.1).bind fun ew=>(some (ew.1,ew.2.1,ew.2.2.1,ew.2.2.2)))))))
theorem zj.calls (k : Nat) (g : Nat) (aI : List Int) (bV : Int) (ao5 : Int) (r1 : Int) (r2 : List (List Int)) (r3 : Int) (r4 : Int) (w0 w : World) (hI : ag w0 w g aI bV ao5) (hB : Below w0.heap.size w0 w) (h : zj.f k aI bV ao5 = some (r1, r2, r3, r4)) :
  Calls Try.prog 198 #[.pointer (some ⟨g,0,none⟩)] w fun e w'=>∃ eM:Value,e=.returned (.agg #[.int .i64 r1,eM])∧Kd.S (Kd.slice 2 (Kd.int .i64)) 28 w' w.heap.size (fun _=>True) eM r2∧ag w0 w' g aI r3 r4∧Below w0.heap.size w0 w'∧aoR w w' g none:=by
 have iX:=Try.underlying31
 have ai:=k0 hI
 have HK:=k0 (aoR.refl w g none)
 have HL:=k0 hB.size
 clear hI
 have apt:=k0 hB.size
 have HB:=k0 hB
 clear hB
 have H:((dg.f aI bV ao5 4).bind fun ao2=>(if ao2.1=0 then ((aqs.f).bind fun t105=>((dg.f aI ao2.2.1 ao2.2.2 (t105.length:Int)).bind fun fL=>(if 0≤fL.1 then (if fL.1 < (t105.length:Int) then ((pZ.f k (fj ByteArray.empty t105 fL.1)).bind fun fM=>(some (fM.1,fM.2.1,fL.2.1,fL.2.2))) else (none)) else (none)))) else ((dg.f aI ao2.2.1 ao2.2.2 8).bind fun uo=>((kj.f aI uo.2.1 uo.2.2 (([1,2,3,3,4,4,5,6,wrap64 (1+uo.1)]:List Int))).bind fun oa=>((kj.f aI oa.2.1 oa.2.2 (([2,4,6,6,8,10]:List Int))).bind fun gU=>((cA.f k aI gU.2.1 gU.2.2 oa.1 gU.1).bind fun ew=>(some (ew.1,ew.2.1,ew.2.2.1,ew.2.2.2))))))))=some (r1,r2,r3,r4):=h
 clear h
 replace H:=Option.bind_eq_some_iff.mp H
 obtain ⟨⟨t102,t103,t104⟩,fI,H⟩:=H
 replace H:(if t102=0 then ((aqs.f).bind fun t105=>((dg.f aI t103 t104 (t105.length:Int)).bind fun fL=>(if 0≤fL.1 then (if fL.1 < (t105.length:Int) then ((pZ.f k (fj ByteArray.empty t105 fL.1)).bind fun fM=>(some (fM.1,fM.2.1,fL.2.1,fL.2.2))) else (none)) else (none)))) else ((dg.f aI t103 t104 8).bind fun uo=>((kj.f aI uo.2.1 uo.2.2 (([1,2,3,3,4,4,5,6,wrap64 (1+uo.1)]:List Int))).bind fun oa=>((kj.f aI oa.2.1 oa.2.2 (([2,4,6,6,8,10]:List Int))).bind fun gU=>((cA.f k aI gU.2.1 gU.2.2 oa.1 gU.1).bind fun ew=>(some (ew.1,ew.2.1,ew.2.2.1,ew.2.2.2)))))))=some (r1,r2,r3,r4):=H
 have A2:=k0 fI
 clear fI
 by_cases c3:t102=0
 case neg =>
  rw [if_neg c3] at H
  have jd:(t102 == 0)=false:=beq_eq_false_iff_ne.mpr c3
  have oc:(t102 != 0)=true:=bne_iff_ne.mpr c3
  replace H:=Option.bind_eq_some_iff.mp H
  obtain ⟨⟨t118,t119,t120⟩,xV,H⟩:=H
  replace H:((kj.f aI t119 t120 (([1,2,3,3,4,4,5,6,wrap64 (1+t118)]:List Int))).bind fun oa=>((kj.f aI oa.2.1 oa.2.2 (([2,4,6,6,8,10]:List Int))).bind fun gU=>((cA.f k aI gU.2.1 gU.2.2 oa.1 gU.1).bind fun ew=>(some (ew.1,ew.2.1,ew.2.2.1,ew.2.2.2)))))=some (r1,r2,r3,r4):=H
  have Bc:=k0 xV
  clear xV
  obtain ⟨xO,Ax⟩:∃ y_:List Int,y_=(([1,2,3,3,4,4,5,6,wrap64 (1+t118)]:List Int)):=⟨_,rfl⟩
  replace H:((kj.f aI t119 t120 xO).bind fun oa=>((kj.f aI oa.2.1 oa.2.2 (([2,4,6,6,8,10]:List Int))).bind fun gU=>((cA.f k aI gU.2.1 gU.2.2 oa.1 gU.1).bind fun ew=>(some (ew.1,ew.2.1,ew.2.2.1,ew.2.2.2)))))=some (r1,r2,r3,r4):=rH Ax H
  have DC:=k0 Ax
  clear Ax
  replace H:=Option.bind_eq_some_iff.mp H
  obtain ⟨⟨t124,t125,t126⟩,apS,H⟩:=H
  replace H:((kj.f aI t125 t126 (([2,4,6,6,8,10]:List Int))).bind fun gU=>((cA.f k aI gU.2.1 gU.2.2 t124 gU.1).bind fun ew=>(some (ew.1,ew.2.1,ew.2.2.1,ew.2.2.2))))=some (r1,r2,r3,r4):=H
  have vC:=k0 apS
  clear apS
  obtain ⟨Nv,LS⟩:∃ y_:List Int,y_=(([2,4,6,6,8,10]:List Int)):=⟨_,rfl⟩
  replace H:((kj.f aI t125 t126 Nv).bind fun gU=>((cA.f k aI gU.2.1 gU.2.2 t124 gU.1).bind fun ew=>(some (ew.1,ew.2.1,ew.2.2.1,ew.2.2.2))))=some (r1,r2,r3,r4):=rH LS H
  have OJ:=k0 LS
  clear LS
  replace H:=Option.bind_eq_some_iff.mp H
  obtain ⟨⟨t130,t131,t132⟩,xW,H⟩:=H
  replace H:((cA.f k aI t131 t132 t124 t130).bind fun ew=>(some (ew.1,ew.2.1,ew.2.2.1,ew.2.2.2)))=some (r1,r2,r3,r4):=H
  have Bd:=k0 xW
  clear xW
  replace H:=Option.bind_eq_some_iff.mp H
  obtain ⟨⟨t133,t134,t137,t138⟩,C2,H⟩:=H
  replace H:(some (t133,t134,t137,t138))=some (r1,r2,r3,r4):=H
  have IL:=k0 C2
  clear C2
  simp only [Option.some.injEq,Prod.mk.injEq] at H
  obtain ⟨rfl,rfl,rfl,rfl⟩:=H
  go_enter Try.func198,Try.ntmps198
  go_wp2_with (first|((with_reducible refine bp (N:=2) rfl ?_);refine bR 2 #[.int .i64 0,.slice none 0 0] 31 ?_;intro aoV hg aqF aE hb;replace HB:=k0 (aH (by repeat (first|(with_reducible first|exact HB.z|apply a_|apply bf|apply aZ|refine aoO ?_ (ag.ge ai.z))|exact HB.z)) hb);have aa:=k0 (aE);have bB:=gW hg (dU (aK HK.z));have aX:=k0 (Nat.le_trans apt.z bB.z);replace HK:=k0 (aoR.trans (aK HK.z) (aoR.iq hb g none) (.inl rfl));have dH:=k0 ((by rw [hg];exact Nat.ne_of_lt (ag.lt (show ag w0 _ g aI bV ao5 from aoZ ai.z)):g ≠ aoV));have dI:=k0 ((by rw [hg];exact Nat.ne_of_gt (ag.lt (show ag w0 _ g aI bV ao5 from aoZ ai.z)):aoV ≠ g));replace ai:=k0 (ag.below (aoZ ai.z) hb);clear hb aE hg)|((with_reducible refine bg (f:=112) rfl ?_);refine gC (some 7) Try.func112 #[.pointer (some ⟨g,0,none⟩),.int .i64 4] ?_;(with_reducible refine (dg.calls g aI bV ao5 4 t102 t103 t104 w0 _ ?aoN ?aoP A2.z).mono ?_);(case aoN=>repeat (first|(with_reducible first|exact ai.z|apply ag.alloc|apply ag.drewN|apply ag.drew|apply ag.fZ|apply ag.f_|refine ag.ao' ?_ dH.z _)|exact ai.z));(case aoP=>repeat (first|(with_reducible first|exact HB.z|apply a_|apply bf|apply aZ|refine aoO ?_ (ag.ge ai.z)|refine aoO ?_ aX.z)|exact HB.z));rintro e xG ⟨rfl,hi,hb,hk⟩;refine ⟨_,rfl,?_⟩;replace aa:=k0 (aoR.blk hk (aB aa.z) dI.z (by simp));replace HK:=k0 (aoR.trans (aK HK.z) hk (.inl rfl));replace HB:=k0 (hb);replace ai:=k0 (hi);)|((with_reducible refine bg (f:=112) rfl ?_);refine gC (some 25) Try.func112 #[.pointer (some ⟨g,0,none⟩),.int .i64 8] ?_;(with_reducible refine (dg.calls g aI t103 t104 8 t118 t119 t120 w0 _ ?aoN ?aoP Bc.z).mono ?_);(case aoN=>repeat (first|(with_reducible first|exact ai.z|apply ag.alloc|apply ag.drewN|apply ag.drew|apply ag.fZ|apply ag.f_|refine ag.ao' ?_ dH.z _)|exact ai.z));(case aoP=>repeat (first|(with_reducible first|exact HB.z|apply a_|apply bf|apply aZ|refine aoO ?_ (ag.ge ai.z)|refine aoO ?_ aX.z)|exact HB.z));rintro e aqG ⟨rfl,hi,hb,hk⟩;refine ⟨_,rfl,?_⟩;replace aa:=k0 (aoR.blk hk (aB aa.z) dI.z (by simp));replace HK:=k0 (aoR.trans (aK HK.z) hk (.inl rfl));replace HB:=k0 (hb);replace ai:=k0 (hi);)|((with_reducible refine bp (N:=27) rfl ?_);refine Kd.jr (Kd.int .i64) _ 2 ?hg (N:=27) ?hd (xs:=([1,2,3,3,4,4,5,6,wrap64 (1+t118)]:List Int)) (inner:=[.int .i64 1,.int .i64 2,.int .i64 3,.int .i64 3,.int .i64 4,.int .i64 4,.int .i64 5,.int .i64 6,.int .i64 (wrap64 (1+t118))]) (ok:=fun _=>True) (b_:=fun _=>True) ?hr ?hp (fun _ hk=>hk) trivial (Below.refl _ _) (Nat.le_refl _) (by simp) ?_;(case hd=>rfl);(case hg=>rfl);(case hr=>first|(go_simp;done)|(go_simp;rfl));(case hp=>exact (bh.one (show Kd.M (Kd.int .i64) _ _ _ 1 [.int .i64 1] from rfl) (bh.one (show Kd.M (Kd.int .i64) _ _ _ 2 [.int .i64 2] from rfl) (bh.one (show Kd.M (Kd.int .i64) _ _ _ 3 [.int .i64 3] from rfl) (bh.one (show Kd.M (Kd.int .i64) _ _ _ 3 [.int .i64 3] from rfl) (bh.one (show Kd.M (Kd.int .i64) _ _ _ 4 [.int .i64 4] from rfl) (bh.one (show Kd.M (Kd.int .i64) _ _ _ 4 [.int .i64 4] from rfl) (bh.one (show Kd.M (Kd.int .i64) _ _ _ 5 [.int .i64 5] from rfl) (bh.one (show Kd.M (Kd.int .i64) _ _ _ 6 [.int .i64 6] from rfl) (bh.one (show Kd.M (Kd.int .i64) _ _ _ (wrap64 (1+t118)) [.int .i64 (wrap64 (1+t118))] from rfl) (bh.none _ _)))))))))));intro Nk Nq EP hb cJ cK;clear cJ cK;(first|rw [← DC.z] at EP|(simp only [Int.reduceToNat] at EP;rw [← DC.z] at EP));have jn:=k0 (Kd.cU EP (dU (aK HK.z)));replace aa:=kB aa hb;replace HK:=k0 (aoR.trans (aK HK.z) (aoR.iq hb g none) (.inl rfl));replace HB:=k0 (aH (by repeat (first|(with_reducible first|exact HB.z|apply a_|apply bf|apply aZ|refine aoO ?_ (ag.ge ai.z)|refine aoO ?_ aX.z)|exact HB.z)) hb);replace ai:=k0 (ag.below (aoZ ai.z) hb);clear hb EP;obtain ⟨zg,uw,xk⟩:=Kd.dM jn.z;subst xk)|((with_reducible refine bg (f:=202) rfl ?_);refine gC (some 28) Try.func202 #[.pointer (some ⟨g,0,none⟩),.slice zg xO.length uw] ?_;(with_reducible refine (kj.calls g aI t119 t120 _ _ xO t124 t125 t126 w0 _ ?aoN ?aoP ?bA ?bH ?apC vC.z).mono ?_);(case aoN=>repeat (first|(with_reducible first|exact ai.z|apply ag.alloc|apply ag.drewN|apply ag.drew|apply ag.fZ|apply ag.f_|refine ag.ao' ?_ dH.z _)|exact ai.z));(case aoP=>repeat (first|(with_reducible first|exact HB.z|apply a_|apply bf|apply aZ|refine aoO ?_ (ag.ge ai.z)|refine aoO ?_ aX.z)|exact HB.z));(case bA=>exact aC ((Kd.cx jn.z).2.2));(case bH=>exact (Kd.cx jn.z).2.1);(case apC=>exact Ea (ag.tD ai.z jn.z (by decide)));rintro e CQ ⟨rfl,hi,hb,hk⟩;refine ⟨_,rfl,?_⟩;replace aa:=k0 (aoR.blk hk (aB aa.z) dI.z (by simp));replace jn:=k0 (Kd.aoY (Kd.qE (ag.apart (show ag w0 _ g aI t119 t120 from aoZ ai.z) (aR jn.z) (by decide)) hk (fun _ h=>h.2)) (fun _ h=>h.1));replace HK:=k0 (aoR.trans (aK HK.z) hk (.inl rfl));replace HB:=k0 (hb);replace ai:=k0 (hi);)|((with_reducible refine bp (N:=30) rfl ?_);refine Kd.jr (Kd.int .i64) _ 2 ?hg (N:=30) ?hd (xs:=([2,4,6,6,8,10]:List Int)) (inner:=[.int .i64 2,.int .i64 4,.int .i64 6,.int .i64 6,.int .i64 8,.int .i64 10]) (ok:=fun _=>True) (b_:=fun _=>True) ?hr ?hp (fun _ hk=>hk) trivial (Below.refl _ _) (Nat.le_refl _) (by simp) ?_;(case hd=>rfl);(case hg=>rfl);(case hr=>first|(go_simp;done)|(go_simp;rfl));(case hp=>exact (bh.one (show Kd.M (Kd.int .i64) _ _ _ 2 [.int .i64 2] from rfl) (bh.one (show Kd.M (Kd.int .i64) _ _ _ 4 [.int .i64 4] from rfl) (bh.one (show Kd.M (Kd.int .i64) _ _ _ 6 [.int .i64 6] from rfl) (bh.one (show Kd.M (Kd.int .i64) _ _ _ 6 [.int .i64 6] from rfl) (bh.one (show Kd.M (Kd.int .i64) _ _ _ 8 [.int .i64 8] from rfl) (bh.one (show Kd.M (Kd.int .i64) _ _ _ 10 [.int .i64 10] from rfl) (bh.none _ _))))))));intro aod xH Ch hb cJ cK;clear cJ cK;(first|rw [← OJ.z] at Ch|(simp only [Int.reduceToNat] at Ch;rw [← OJ.z] at Ch));have wV:=k0 (Kd.cU (Kd.cT Ch (Kd.bT (aR jn.z))) (dU (aK HK.z)));replace jn:=k0 (Kd.ao9 (aR jn.z) (Kd.aU Ch) hb);replace aa:=kB aa hb;replace HK:=k0 (aoR.trans (aK HK.z) (aoR.iq hb g none) (.inl rfl));replace HB:=k0 (aH (by repeat (first|(with_reducible first|exact HB.z|apply a_|apply bf|apply aZ|refine aoO ?_ (ag.ge ai.z)|refine aoO ?_ aX.z)|exact HB.z)) hb);replace ai:=k0 (ag.below (aoZ ai.z) hb);clear hb Ch;obtain ⟨xZ,yp,D8⟩:=Kd.dM wV.z;subst D8)|((with_reducible refine bg (f:=202) rfl ?_);refine gC (some 31) Try.func202 #[.pointer (some ⟨g,0,none⟩),.slice xZ Nv.length yp] ?_;(with_reducible refine (kj.calls g aI t125 t126 _ _ Nv t130 t131 t132 w0 _ ?aoN ?aoP ?bA ?bH ?apC Bd.z).mono ?_);(case aoN=>repeat (first|(with_reducible first|exact ai.z|apply ag.alloc|apply ag.drewN|apply ag.drew|apply ag.fZ|apply ag.f_|refine ag.ao' ?_ dH.z _)|exact ai.z));(case aoP=>repeat (first|(with_reducible first|exact HB.z|apply a_|apply bf|apply aZ|refine aoO ?_ (ag.ge ai.z)|refine aoO ?_ aX.z)|exact HB.z));(case bA=>exact aC ((Kd.cx wV.z).2.2));(case bH=>exact (Kd.cx wV.z).2.1);(case apC=>exact Ea (ag.tD ai.z wV.z (by decide)));rintro e Uf ⟨rfl,hi,hb,hk⟩;refine ⟨_,rfl,?_⟩;replace aa:=k0 (aoR.blk hk (aB aa.z) dI.z (by simp));replace jn:=k0 (Kd.aoY (Kd.qE (ag.apart (show ag w0 _ g aI t125 t126 from aoZ ai.z) (aR jn.z) (by decide)) hk (fun _ h=>h.2)) (fun _ h=>h.1));replace wV:=k0 (Kd.aoY (Kd.qE (ag.apart (show ag w0 _ g aI t125 t126 from aoZ ai.z) (aR wV.z) (by decide)) hk (fun _ h=>h.2)) (fun _ h=>h.1));replace HK:=k0 (aoR.trans (aK HK.z) hk (.inl rfl));replace HB:=k0 (hb);replace ai:=k0 (hi);)|((with_reducible refine bg (f:=113) rfl ?_);refine gC (some 32) Try.func113 #[.pointer (some ⟨g,0,none⟩),.int .i64 t124,.int .i64 t130] ?_;(with_reducible refine (cA.calls k g aI t131 t132 t124 t130 t133 t134 t137 t138 w0 _ ?aoN ?aoP IL.z).mono ?_);(case aoN=>repeat (first|(with_reducible first|exact ai.z|apply ag.alloc|apply ag.drewN|apply ag.drew|apply ag.fZ|apply ag.f_|refine ag.ao' ?_ dH.z _)|exact ai.z));(case aoP=>repeat (first|(with_reducible first|exact HB.z|apply a_|apply bf|apply aZ|refine aoO ?_ (ag.ge ai.z)|refine aoO ?_ aX.z)|exact HB.z));rintro e aqH ⟨aof,rfl,aD,hi,hb,hk⟩;refine ⟨_,rfl,?_⟩;replace aa:=k0 (aoR.blk hk (aB aa.z) dI.z (by simp));have Ot:=k0 (Kd.ig (Kd.kP (Kd.kP aD (Kd.bT (aR jn.z))) (Kd.bT (aR wV.z))) (dU (aK HK.z)));replace jn:=k0 (Kd.aoY (Kd.qE (ag.apart (show ag w0 _ g aI t131 t132 from aoZ ai.z) (aR jn.z) (by decide)) hk (fun _ h=>h.2)) (fun _ h=>h.1));replace wV:=k0 (Kd.aoY (Kd.qE (ag.apart (show ag w0 _ g aI t131 t132 from aoZ ai.z) (aR wV.z) (by decide)) hk (fun _ h=>h.2)) (fun _ h=>h.1));replace HK:=k0 (aoR.trans (aK HK.z) hk (.inl rfl));replace HB:=k0 (hb);replace ai:=k0 (hi);have Ly:=dI.z;have LC:=dH.z;have KT:=aQ aa;have KU:=aoT aa;have Le:=bF aa 0;have Lf:=bF aa 1;obtain ⟨Bg,BJ,J'⟩:=Kd.apc Ot.z;subst J'))
  refine bodyPost_ret (results_cell_row rfl _ _ aoV 31 #[.int .i64 t133,.slice Bg t134.length BJ] (0,0) _ rfl (by (with_reducible repeat (first|refine aoU ?_ _|refine aJ ?_|refine aoQ ?_ _));refine bE (cs:=#[.int .i64 t133,.slice none 0 0]) ?_ 1 _ rfl;(with_reducible repeat (first|refine aoU ?_ _|refine aJ ?_|refine aoQ ?_ _));refine bE (cs:=#[.int .i64 0,.slice none 0 0]) ?_ 0 _ rfl;exact bk) Try.underlying31 rfl (by kernel_rfl)) rfl ?_
  exact ⟨_,eR,by (with_reducible repeat (first|apply Kd.cM|apply Kd.cI|apply Kd.cr));exact Kd.bq (gS 1 (.slice Bg t134.length BJ) (gS 0 (.int .i64 t133) (tS Ot aa))) (fun _ hk=>trivial),aoZ ai.z,by repeat (first|(with_reducible first|exact HB.z|apply a_|apply bf|apply aZ|refine aoO ?_ (ag.ge ai.z)|refine aoO ?_ aX.z)|exact HB.z),aK HK.z⟩
 rw [if_pos c3] at H
 have jd:(t102 == 0)=true:=beq_iff_eq.mpr c3
 have oc:(t102 != 0)=false:=bne_eq_false_iff_eq.mpr c3
 clear c3
 replace H:=Option.bind_eq_some_iff.mp H
 obtain ⟨t105,fu,H⟩:=H
 replace H:((dg.f aI t103 t104 (t105.length:Int)).bind fun fL=>(if 0≤fL.1 then (if fL.1 < (t105.length:Int) then ((pZ.f k (fj ByteArray.empty t105 fL.1)).bind fun fM=>(some (fM.1,fM.2.1,fL.2.1,fL.2.2))) else (none)) else (none)))=some (r1,r2,r3,r4):=H
 have A4:=k0 fu
 clear fu
 replace H:=Option.bind_eq_some_iff.mp H
 obtain ⟨⟨t108,t109,t110⟩,kC,H⟩:=H
 replace H:(if 0≤t108 then (if t108 < (t105.length:Int) then ((pZ.f k (fj ByteArray.empty t105 t108)).bind fun fM=>(some (fM.1,fM.2.1,t109,t110))) else (none)) else (none))=some (r1,r2,r3,r4):=H
 have A5:=k0 kC
 clear kC
 replace H:=iS H;obtain ⟨c6,H⟩:=H
 have kG:=decide_eq_true c6
 clear c6
 replace H:=iS H;obtain ⟨c7,H⟩:=H
 have oO:=decide_eq_true c7
 clear c7
 replace H:=Option.bind_eq_some_iff.mp H
 obtain ⟨⟨t112,t113,t116⟩,xY,H⟩:=H
 replace H:(some (t112,t113,t109,t110))=some (r1,r2,r3,r4):=H
 have A8:=k0 xY
 clear xY
 simp only [Option.some.injEq,Prod.mk.injEq] at H
 obtain ⟨rfl,rfl,rfl,rfl⟩:=H
 go_enter Try.func198,Try.ntmps198
 go_wp2_with (first|((with_reducible refine bp (N:=2) rfl ?_);refine bR 2 #[.int .i64 0,.slice none 0 0] 31 ?_;intro aoV hg w9 aE hb;replace HB:=k0 (aH (by repeat (first|(with_reducible first|exact HB.z|apply a_|apply bf|apply aZ|refine aoO ?_ (ag.ge ai.z))|exact HB.z)) hb);have aa:=k0 (aE);have bB:=gW hg (dU (aK HK.z));have aX:=k0 (Nat.le_trans apt.z bB.z);replace HK:=k0 (aoR.trans (aK HK.z) (aoR.iq hb g none) (.inl rfl));have dH:=k0 ((by rw [hg];exact Nat.ne_of_lt (ag.lt (show ag w0 _ g aI bV ao5 from aoZ ai.z)):g ≠ aoV));have dI:=k0 ((by rw [hg];exact Nat.ne_of_gt (ag.lt (show ag w0 _ g aI bV ao5 from aoZ ai.z)):aoV ≠ g));replace ai:=k0 (ag.below (aoZ ai.z) hb);clear hb aE hg)|((with_reducible refine bg (f:=112) rfl ?_);refine gC (some 7) Try.func112 #[.pointer (some ⟨g,0,none⟩),.int .i64 4] ?_;(with_reducible refine (dg.calls g aI bV ao5 4 t102 t103 t104 w0 _ ?aoN ?aoP A2.z).mono ?_);(case aoN=>repeat (first|(with_reducible first|exact ai.z|apply ag.alloc|apply ag.drewN|apply ag.drew|apply ag.fZ|apply ag.f_|refine ag.ao' ?_ dH.z _)|exact ai.z));(case aoP=>repeat (first|(with_reducible first|exact HB.z|apply a_|apply bf|apply aZ|refine aoO ?_ (ag.ge ai.z)|refine aoO ?_ aX.z)|exact HB.z));rintro e mH ⟨rfl,hi,hb,hk⟩;refine ⟨_,rfl,?_⟩;replace aa:=k0 (aoR.blk hk (aB aa.z) dI.z (by simp));replace HK:=k0 (aoR.trans (aK HK.z) hk (.inl rfl));replace HB:=k0 (hb);replace ai:=k0 (hi);)|((with_reducible refine bg (f:=232) rfl ?_);refine gC (some 9) Try.func232 #[] ?_;(with_reducible refine (aqs.calls  t105 _ A4.z).mono ?_);rintro e vp ⟨vn,rfl,aD,hb⟩;refine ⟨_,rfl,?_⟩;have eP:=k0 (Kd.cU aD (dU (aK HK.z)));replace aa:=kB aa hb;replace HK:=k0 (aoR.trans (aK HK.z) (aoR.iq hb g none) (.inl rfl));replace HB:=k0 (aH (by repeat (first|(with_reducible first|exact HB.z|apply a_|apply bf|apply aZ|refine aoO ?_ (ag.ge ai.z)|refine aoO ?_ aX.z)|exact HB.z)) hb);replace ai:=k0 (ag.below (aoZ ai.z) hb);obtain ⟨dc,cW,uA⟩:=Kd.dM eP.z;subst uA)|((with_reducible refine bg (f:=112) rfl ?_);refine gC (some 15) Try.func112 #[.pointer (some ⟨g,0,none⟩),.int .i64 (t105.length:Int)] ?_;(with_reducible refine (dg.calls g aI t103 t104 (t105.length:Int) t108 t109 t110 w0 _ ?aoN ?aoP A5.z).mono ?_);(case aoN=>repeat (first|(with_reducible first|exact ai.z|apply ag.alloc|apply ag.drewN|apply ag.drew|apply ag.fZ|apply ag.f_|refine ag.ao' ?_ dH.z _)|exact ai.z));(case aoP=>repeat (first|(with_reducible first|exact HB.z|apply a_|apply bf|apply aZ|refine aoO ?_ (ag.ge ai.z)|refine aoO ?_ aX.z)|exact HB.z));rintro e tK ⟨rfl,hi,hb,hk⟩;refine ⟨_,rfl,?_⟩;replace aa:=k0 (aoR.blk hk (aB aa.z) dI.z (by simp));replace eP:=k0 (Kd.aoY (Kd.qE (ag.apart (show ag w0 _ g aI t103 t104 from aoZ ai.z) (aR eP.z) (by decide)) hk (fun _ h=>h.2)) (fun _ h=>h.1));replace HK:=k0 (aoR.trans (aK HK.z) hk (.inl rfl));replace HB:=k0 (hb);replace ai:=k0 (hi);have apG:0≤(t108:Int):=oD;have ox:t108 < (t105.length:Int):=oD;obtain ⟨zL,e111,oQ⟩:=Kd.ye (Kd.cx eP.z).2.2 t108 apG ox;cases e111;replace apG:=eq_true apG;replace ox:=eq_true ox)|((with_reducible refine bg (f:=233) rfl ?_);refine gC (some 18) Try.func233 #[.string (fj ByteArray.empty t105 t108)] ?_;(with_reducible refine (pZ.calls k (fj ByteArray.empty t105 t108) t112 t113 t116 _ A8.z).mono ?_);rintro e tL ⟨Fm,rfl,aD,hb⟩;refine ⟨_,rfl,?_⟩;replace eP:=k0 (Kd.apn (aR eP.z) hb);have lF:=k0 (Kd.ig aD (dU (aK HK.z)));replace aa:=kB aa hb;replace HK:=k0 (aoR.trans (aK HK.z) (aoR.iq hb g none) (.inl rfl));replace HB:=k0 (aH (by repeat (first|(with_reducible first|exact HB.z|apply a_|apply bf|apply aZ|refine aoO ?_ (ag.ge ai.z)|refine aoO ?_ aX.z)|exact HB.z)) hb);replace ai:=k0 (ag.below (aoZ ai.z) hb);)|((with_reducible refine bp (N:=4) rfl ?_);refine bR 4 #[.int .i64 0,.slice none 0 0] 31 ?_;intro Gx hg qq aE hb;replace eP:=k0 (Kd.apn (aR eP.z) hb);replace lF:=k0 (Kd.gB (aS lF.z) hb);replace HB:=k0 (aH (by repeat (first|(with_reducible first|exact HB.z|apply a_|apply bf|apply aZ|refine aoO ?_ (ag.ge ai.z)|refine aoO ?_ aX.z)|exact HB.z)) hb);have Da:=k0 (aE);have VF:=gW hg (dU (aK HK.z));have Vx:=k0 (Nat.le_trans apt.z VF.z);replace HK:=k0 (aoR.trans (aK HK.z) (aoR.iq hb g none) (.inl rfl));have F2:=nL hg aa;have Wq:=nG F2;replace aa:=kB aa hb;have Wo:=k0 ((by rw [hg];exact Nat.ne_of_lt (ag.lt (show ag w0 _ g aI t109 t110 from aoZ ai.z)):g ≠ Gx));have Wp:=k0 ((by rw [hg];exact Nat.ne_of_gt (ag.lt (show ag w0 _ g aI t109 t110 from aoZ ai.z)):Gx ≠ g));replace ai:=k0 (ag.below (aoZ ai.z) hb);clear hb aE hg;have R5:=Wq.z;have Sh:=F2.z;have G9:=Wp.z;have Hf:=Wo.z;have Er:=aQ Da;have Es:=aoT Da;have Ex:=bF Da 0;have Ey:=bF Da 1;obtain ⟨vD,ap9,qO⟩:=Kd.apc lF.z;subst qO;have amH:=dI.z;have anq:=dH.z;have GC:=aQ aa;have GD:=aoT aa;have GO:=bF aa 0;have GP:=bF aa 1))
 refine bodyPost_ret (results_cell_row rfl _ _ aoV 31 #[.int .i64 t112,.slice vD t113.length ap9] (0,0) _ rfl (by (with_reducible repeat (first|refine aoU ?_ _|refine aJ ?_|refine aoQ ?_ _));refine bE (cs:=#[.int .i64 t112,.slice none 0 0]) ?_ 1 _ rfl;(with_reducible repeat (first|refine aoU ?_ _|refine aJ ?_|refine aoQ ?_ _));refine bE (cs:=#[.int .i64 0,.slice none 0 0]) ?_ 0 _ rfl;(with_reducible repeat (first|refine aoU ?_ _|refine aJ ?_|refine aoQ ?_ _));refine bW ?_ F2.z _;(with_reducible repeat (first|refine aoU ?_ _|refine aJ ?_|refine aoQ ?_ _));refine bW ?_ F2.z _;exact bk) Try.underlying31 rfl (by kernel_rfl)) rfl ?_
 exact ⟨_,eR,by (with_reducible repeat (first|apply Kd.cM|apply Kd.cI|apply Kd.cr));exact Kd.bq (Kd.nI (p:=⟨aoV,1,none⟩) (Kd.nI (p:=⟨aoV,0,none⟩) (Kd.nI (p:=⟨Gx,1,none⟩) (Kd.nI (p:=⟨Gx,0,none⟩) (Kd.zK (tS lF Da) aa.z (by decide)) (fun _ hk=>hk.1.2) (.int .i64 t112)) (fun _ hk=>hk.1.2) (.slice vD t113.length ap9)) (fun _ hk=>hk.2) (.int .i64 t112)) (fun _ hk=>hk.2) (.slice vD t113.length ap9)) (fun _ hk=>trivial),aoZ ai.z,by repeat (first|(with_reducible first|exact HB.z|apply a_|apply bf|apply aZ|refine aoO ?_ (ag.ge ai.z)|refine aoO ?_ aX.z|refine aoO ?_ Vx.z)|exact HB.z),aK HK.z⟩
/-! ### F111: function 111 -/
def tW.f (k:Nat) (aI:List Int) (bV:Int) (ao5:Int):Option (Int × (List (List Int)) × Int × Int):=(zj.f k aI bV ao5).bind fun ao2=>((jV.f k aI ao2.2.2.1 ao2.2.2.2 ao2.1 ao2.2.1).bind fun fL=>(some (fL.1,fL.2.1,fL.2.2.1,fL.2.2.2)))
theorem tW.calls (k : Nat) (g : Nat) (aI : List Int) (bV : Int) (ao5 : Int) (r1 : Int) (r2 : List (List Int)) (r3 : Int) (r4 : Int) (w0 w : World) (hI : ag w0 w g aI bV ao5) (hB : Below w0.heap.size w0 w) (h : tW.f k aI bV ao5 = some (r1, r2, r3, r4)) :
  Calls Try.prog 111 #[.pointer (some ⟨g,0,none⟩)] w fun e w'=>∃ eM:Value,e=.returned (.agg #[.int .i64 r1,eM])∧Kd.V (Kd.slice 2 (Kd.int .i64)) 28 w' w.heap.size (fun k_=>(w.heap.size≤k_)) eM r2∧ag w0 w' g aI r3 r4∧Below w0.heap.size w0 w'∧aoR w w' g none:=by
 have iX:=Try.underlying31
 have ai:=k0 hI
 have HK:=k0 (aoR.refl w g none)
 have HL:=k0 hB.size
 clear hI
 have apt:=k0 hB.size
 have HB:=k0 hB
 clear hB
 have H:((zj.f k aI bV ao5).bind fun ao2=>((jV.f k aI ao2.2.2.1 ao2.2.2.2 ao2.1 ao2.2.1).bind fun fL=>(some (fL.1,fL.2.1,fL.2.2.1,fL.2.2.2))))=some (r1,r2,r3,r4):=h
 clear h
 replace H:=Option.bind_eq_some_iff.mp H
 obtain ⟨⟨t102,t103,t106,t107⟩,fI,H⟩:=H
 replace H:((jV.f k aI t106 t107 t102 t103).bind fun fL=>(some (fL.1,fL.2.1,fL.2.2.1,fL.2.2.2)))=some (r1,r2,r3,r4):=H
 have A2:=k0 fI
 clear fI
 replace H:=Option.bind_eq_some_iff.mp H
 obtain ⟨⟨t108,t109,t112,t113⟩,fJ,H⟩:=H
 replace H:(some (t108,t109,t112,t113))=some (r1,r2,r3,r4):=H
 have A3:=k0 fJ
 clear fJ
 simp only [Option.some.injEq,Prod.mk.injEq] at H
 obtain ⟨rfl,rfl,rfl,rfl⟩:=H
 go_enter Try.func111,Try.ntmps111
 go_wp2_with (first|((with_reducible refine bp (N:=2) rfl ?_);refine bR 2 #[.int .i64 0,.slice none 0 0] 31 ?_;intro aoV hg w4 aE hb;replace HB:=k0 (aH (by repeat (first|(with_reducible first|exact HB.z|apply a_|apply bf|apply aZ|refine aoO ?_ (ag.ge ai.z))|exact HB.z)) hb);have aa:=k0 (aE);have bB:=gW hg (dU (aK HK.z));have aX:=k0 (Nat.le_trans apt.z bB.z);replace HK:=k0 (aoR.trans (aK HK.z) (aoR.iq hb g none) (.inl rfl));have dH:=k0 ((by rw [hg];exact Nat.ne_of_lt (ag.lt (show ag w0 _ g aI bV ao5 from aoZ ai.z)):g ≠ aoV));have dI:=k0 ((by rw [hg];exact Nat.ne_of_gt (ag.lt (show ag w0 _ g aI bV ao5 from aoZ ai.z)):aoV ≠ g));replace ai:=k0 (ag.below (aoZ ai.z) hb);clear hb aE hg)|((with_reducible refine bg (f:=198) rfl ?_);refine gC (some 5) Try.func198 #[.pointer (some ⟨g,0,none⟩)] ?_;(with_reducible refine (zj.calls k g aI bV ao5 t102 t103 t106 t107 w0 _ ?aoN ?aoP A2.z).mono ?_);(case aoN=>repeat (first|(with_reducible first|exact ai.z|apply ag.alloc|apply ag.drewN|apply ag.drew|apply ag.fZ|apply ag.f_|refine ag.ao' ?_ dH.z _)|exact ai.z));(case aoP=>repeat (first|(with_reducible first|exact HB.z|apply a_|apply bf|apply aZ|refine aoO ?_ (ag.ge ai.z)|refine aoO ?_ aX.z)|exact HB.z));rintro e w5 ⟨tI,rfl,aD,hi,hb,hk⟩;refine ⟨_,rfl,?_⟩;replace aa:=k0 (aoR.blk hk (aB aa.z) dI.z (by simp));have apd:=k0 (Kd.ig (Kd.Bw (M:=fun k_=>(w.heap.size≤k_)) aD (dU (aK HK.z)) (fun k_ h_=>h_)) (dU (aK HK.z)));replace HK:=k0 (aoR.trans (aK HK.z) hk (.inl rfl));replace HB:=k0 (hb);replace ai:=k0 (hi);obtain ⟨UX,Yu,Zv⟩:=Kd.apc apd.z;subst Zv)|((with_reducible refine bg (f:=197) rfl ?_);refine gC (some 6) Try.func197 #[.pointer (some ⟨g,0,none⟩),.agg #[.int .i64 t102,.slice UX t103.length Yu]] ?_;(with_reducible refine (jV.calls k g aI t106 t107 t102 (fun k_=>((((w.heap.size≤k_)∧True)∧k_ ≠ aoV)∧k_ ≠ g)) _ _ t103 t108 t109 t112 t113 w0 _ ?aoN ?aoP ?bA A3.z).mono ?_);(case aoN=>repeat (first|(with_reducible first|exact ai.z|apply ag.alloc|apply ag.drewN|apply ag.drew|apply ag.fZ|apply ag.f_|refine ag.ao' ?_ dH.z _)|exact ai.z));(case aoP=>repeat (first|(with_reducible first|exact HB.z|apply a_|apply bf|apply aZ|refine aoO ?_ (ag.ge ai.z)|refine aoO ?_ aX.z)|exact HB.z));(case bA=>exact Kd.bP (Kd.Bv (ag.pI ai.z (Kd.zK (apd.z) aa.z (by decide)) (by decide))) (fun k_ bZ=>⟨bZ,bZ.2⟩));rintro e w7 ⟨wD,rfl,aD,hi,hb,hk⟩;refine ⟨_,rfl,?_⟩;replace apd:=k0 (Kd.bq (Kd.p_ (ag.pI (show ag w0 _ g aI t106 t107 from aoZ ai.z) (aS apd.z) (by decide)) hk (fun _ h=>h.2)) (fun _ h=>h.1));have nT:=k0 (Kd.Bx (Kd.bP (ok':=fun k_=>(w.heap.size≤k_)∧k_ ≠ aoV∧k_ ≠ g) aD (fun k_ bZ=>⟨Or.elim bZ (fun hs_=>hs_.1.1.1) (fun EM=>(Nat.le_trans (dU (aK HK.z)) EM)),Or.elim bZ (fun hs_=>hs_.1.2) (fun EM=>(Kd.BP (aB aa.z) k_ EM)),Or.elim bZ (fun hs_=>hs_.2) (fun EM=>(ag.fresh (aoZ ai.z) k_ EM))⟩)) (dU (aK HK.z)));replace aa:=k0 (aoR.blk hk (aB aa.z) dI.z (by simp));replace HK:=k0 (aoR.trans (aK HK.z) hk (.inl rfl));replace HB:=k0 (hb);replace ai:=k0 (hi);have Cb:=dI.z;have Cd:=dH.z;have v_:=aQ aa;have we:=aoT aa;have xp:=bF aa 0;have wh:=bF aa 1;obtain ⟨jl,ju,zW⟩:=Kd.aqn nT.z;subst zW))
 refine bodyPost_ret (results_cell_row rfl _ _ aoV 31 #[.int .i64 t108,.slice jl t109.length ju] (0,0) _ rfl (by (with_reducible repeat (first|refine aoU ?_ _|refine aJ ?_|refine aoQ ?_ _));refine bE (cs:=#[.int .i64 t108,.slice none 0 0]) ?_ 1 _ rfl;(with_reducible repeat (first|refine aoU ?_ _|refine aJ ?_|refine aoQ ?_ _));refine bE (cs:=#[.int .i64 0,.slice none 0 0]) ?_ 0 _ rfl;exact bk) Try.underlying31 rfl (by kernel_rfl)) rfl ?_
 exact ⟨_,eR,by (with_reducible repeat (first|apply Kd.nc|apply Kd.mN|apply Kd.kE));exact Kd.bP (Kd.ape (p:=⟨aoV,1,none⟩) (Kd.ape (p:=⟨aoV,0,none⟩) (Kd.bP nT.z (fun k_ hk=>(⟨hk,hk.2.1⟩:_∧k_ ≠ aoV))) (fun _ hk=>hk.2) (.int .i64 t108)) (fun _ hk=>hk.2) (.slice jl t109.length ju)) (fun _ hk=>hk.1.1),aoZ ai.z,by repeat (first|(with_reducible first|exact HB.z|apply a_|apply bf|apply aZ|refine aoO ?_ (ag.ge ai.z)|refine aoO ?_ aX.z)|exact HB.z),aK HK.z⟩
/-! ### F129: function 129 -/
def ki.l0 : Nat → List Int → Int → List Int → Int → Int → Int → List (List Int) → Option (List Int × Int × Int)
 | 0,_,_,_,_,_,_,_=>none
 | k+1,x5,x6,k8,o6,o7,fG,eH=>if x6 < (eH.length:Int) then ((kj.f k8 o6 o7 (([1,(-1)]:List Int))).bind fun fL=>(if x5.length < 17592186044416 then (ki.l0 k (x5 ++ [fL.1]) (wrap64 (x6+1)) k8 fL.2.1 fL.2.2 fG eH) else (none))) else ((dg.f k8 o6 o7 24).bind fun eS=>(if eS.1=0 then (if x5.length < 17592186044416 then (some ((x5 ++ [1]),eS.2.1,eS.2.2)) else (none)) else (if eS.1=1 then (if (x5.length:Int) > 0 then ((kj.f k8 eS.2.1 eS.2.2 (([0,2]:List Int))).bind fun uq=>(if 0 < (x5.length:Int) then (some ((x5.set (0:Int).toNat uq.1),uq.2.1,uq.2.2)) else (none))) else (some (x5,eS.2.1,eS.2.2))) else (some (x5,eS.2.1,eS.2.2)))))
def ki.f (k:Nat) (aI:List Int) (bV:Int) (ao5:Int) (cg:Int) (bN:List (List Int)):Option (List Int × Int × Int):=ki.l0 k (([]:List Int)) 0 aI bV ao5 cg bN
theorem ki.calls (k : Nat) (g : Nat) (aI : List Int) (bV : Int) (ao5 : Int) (cg : Int) (eu : Option Addr) (ey : Nat) (bN : List (List Int)) (r1 : List Int) (r2 : Int) (r3 : Int) (w0 w : World) (hI : ag w0 w g aI bV ao5) (hB : Below w0.heap.size w0 w) (qg : ∀ W_, aoR w W_ g none → Kd.C (Kd.slice 2 (Kd.int .i64)) W_ eu bN.length bN) (ap0 : bN.length ≤ ey) (h : ki.f k aI bV ao5 cg bN = some (r1, r2, r3)) :
  Calls Try.prog 129 #[.pointer (some ⟨g,0,none⟩),.agg #[.int .i64 cg,.slice eu bN.length ey]] w fun e w'=>∃ eE:Value,e=.returned (eE)∧Kd.R (Kd.int .i64) 2 w' w.heap.size (fun _=>True) eE r1∧ag w0 w' g aI r2 r3∧Below w0.heap.size w0 w'∧aoR w w' g none:=by
 have iX:=Try.underlying31
 have Br:=k0 qg
 have Bk:=k0 ap0
 clear qg ap0
 have ai:=k0 hI
 have HK:=k0 (aoR.refl w g none)
 have HL:=k0 hB.size
 clear hI
 have apt:=k0 hB.size
 have HB:=k0 hB
 clear hB
 have H:(ki.l0 k (([]:List Int)) 0 aI bV ao5 cg bN)=some (r1,r2,r3):=h
 clear h
 obtain ⟨oA,qU⟩:∃ y_:List Int,y_=(([]:List Int)):=⟨_,rfl⟩
 replace H:(ki.l0 k oA 0 aI bV ao5 cg bN)=some (r1,r2,r3):=rH qU H
 have ug:=k0 qU
 clear qU
 have H':=k0 H
 clear H
 go_enter Try.func129,Try.ntmps129
 go_wp2_with (first|((with_reducible refine bp (N:=3) rfl ?_);refine bR 3 #[.int .i64 cg,.slice eu bN.length ey] 31 ?_;intro aoV hg w3 aE hb;replace HB:=k0 (aH (by repeat (first|(with_reducible first|exact HB.z|apply a_|apply bf|apply aZ|refine aoO ?_ (ag.ge ai.z))|exact HB.z)) hb);have aa:=k0 (aE);have bB:=gW hg (dU (aK HK.z));have aX:=k0 (Nat.le_trans apt.z bB.z);replace HK:=k0 (aoR.trans (aK HK.z) (aoR.iq hb g none) (.inl rfl));have dH:=k0 ((by rw [hg];exact Nat.ne_of_lt (ag.lt (show ag w0 _ g aI bV ao5 from aoZ ai.z)):g ≠ aoV));have dI:=k0 ((by rw [hg];exact Nat.ne_of_gt (ag.lt (show ag w0 _ g aI bV ao5 from aoZ ai.z)):aoV ≠ g));replace ai:=k0 (ag.below (aoZ ai.z) hb);clear hb aE hg)|((with_reducible refine bp (N:=7) rfl ?_);refine Kd.jr (Kd.int .i64) _ 2 ?hg (N:=7) ?hd (xs:=([]:List Int)) (inner:=[]) (ok:=fun _=>True) (b_:=fun _=>True) ?hr ?hp (fun _ hk=>hk) trivial (Below.refl _ _) (Nat.le_refl _) (by simp) ?_;(case hd=>rfl);(case hg=>rfl);(case hr=>first|(go_simp;done)|(go_simp;rfl));(case hp=>exact (bh.none _ _));intro CK w4 uK hb cJ cK;clear cJ cK;(first|rw [← ug.z] at uK|(simp only [Int.reduceToNat] at uK;rw [← ug.z] at uK));have hJ:=k0 (Kd.cU uK (dU (aK HK.z)));replace aa:=kB aa hb;replace HK:=k0 (aoR.trans (aK HK.z) (aoR.iq hb g none) (.inl rfl));replace HB:=k0 (aH (by repeat (first|(with_reducible first|exact HB.z|apply a_|apply bf|apply aZ|refine aoO ?_ (ag.ge ai.z)|refine aoO ?_ aX.z)|exact HB.z)) hb);replace ai:=k0 (ag.below (aoZ ai.z) hb);clear hb uK))
 go_loopg [5,6] k (fun kq v5 v6 w'=>∃ (aY:List Int) (gY:Int) (kJ:Int) (kK:Int),v6=.int .i64 gY∧aj (ki.l0 kq aY gY aI kJ kK cg bN=some (r1,r2,r3))∧aj (kq≤k)∧aj (Kd.R (Kd.int .i64) 2 w' w.heap.size (fun _=>True) v5 aY)∧aj (w'.heap[aoV]?=some (sO cg eu bN ey 31))∧aj (ag w0 w' g aI kJ kK)∧aj (aoR w w' g none)∧aj (Below w0.heap.size w0 w'))
 case atStart=>exact ⟨(oA),(0),(bV),(ao5),rs,H',⟨Nat.le_refl _⟩,⟨aR (hJ.z)⟩,⟨bk⟩,⟨aoZ ai.z⟩,⟨aK HK.z⟩,⟨by repeat (first|(with_reducible first|exact HB.z|apply a_|apply bf|apply aZ|refine aoO ?_ (ag.ge ai.z)|refine aoO ?_ aX.z)|exact HB.z)⟩⟩
 case round =>
  clear H'
  obtain ⟨aY,gY,kJ,kK,rfl,HA,bx,aoX,aa,ai,HK,HB⟩:=hrel
  cases gk with
  | zero=>exact absurd HA.z (by simp [ki.l0])
  | succ k1 =>
   have H:=HA.z
   clear HA
   simp only [ki.l0] at H
   by_cases c6:gY < (bN.length:Int)
   case neg =>
    rw [if_neg c6] at H
    have kG:decide (gY < (bN.length:Int))=false:=decide_eq_false c6
    clear c6
    replace H:=Option.bind_eq_some_iff.mp H
    obtain ⟨⟨t114,t115,t116⟩,xS,H⟩:=H
    replace H:(if t114=0 then (if aY.length < 17592186044416 then (some ((aY ++ [1]),t115,t116)) else (none)) else (if t114=1 then (if (aY.length:Int) > 0 then ((kj.f aI t115 t116 (([0,2]:List Int))).bind fun uq=>(if 0 < (aY.length:Int) then (some ((aY.set (0:Int).toNat uq.1),uq.2.1,uq.2.2)) else (none))) else (some (aY,t115,t116))) else (some (aY,t115,t116))))=some (r1,r2,r3):=H
    have qx:=k0 xS
    clear xS
    by_cases c17:t114=0
    case neg =>
     rw [if_neg c17] at H
     have ur:(t114 == 0)=false:=beq_eq_false_iff_ne.mpr c17
     have JT:(t114 != 0)=true:=bne_iff_ne.mpr c17
     by_cases c23:t114=1
     case neg =>
      rw [if_neg c23] at H
      have DT:(t114 == 1)=false:=beq_eq_false_iff_ne.mpr c23
      have XR:(t114 != 1)=true:=bne_iff_ne.mpr c23
      simp only [Option.some.injEq,Prod.mk.injEq] at H
      obtain ⟨rfl,rfl,rfl⟩:=H
      have ab9:=dI.z
      have acA:=dH.z
      have aiO:=aQ aa
      have aiP:=aoT aa
      have akY:=bF aa 0
      have akZ:=bF aa 1
      go_wp2_with (first|((with_reducible refine bg (f:=112) rfl ?_);refine gC (some 22) Try.func112 #[.pointer (some ⟨g,0,none⟩),.int .i64 24] ?_;(with_reducible refine (dg.calls g aI kJ kK 24 t114 t115 t116 w0 _ ?aoN ?aoP qx.z).mono ?_);(case aoN=>repeat (first|(with_reducible first|exact ai.z|apply ag.alloc|apply ag.drewN|apply ag.drew|apply ag.fZ|apply ag.f_|refine ag.ao' ?_ dH.z _)|exact ai.z));(case aoP=>repeat (first|(with_reducible first|exact HB.z|apply a_|apply bf|apply aZ|refine aoO ?_ (ag.ge ai.z)|refine aoO ?_ aX.z)|exact HB.z));rintro e w44 ⟨rfl,hi,hb,hk⟩;refine ⟨_,rfl,?_⟩;replace aoX:=k0 (Kd.aoY (Kd.qE (ag.apart (show ag w0 _ g aI kJ kK from aoZ ai.z) (aR aoX.z) (by decide)) hk (fun _ h=>h.2)) (fun _ h=>h.1));replace aa:=k0 (aoR.blk hk (aB aa.z) dI.z (by simp));replace HK:=k0 (aoR.trans (aK HK.z) hk (.inl rfl));replace HB:=k0 (hb);replace ai:=k0 (hi);))
      go_ret
      exact ⟨_,eR,by (with_reducible repeat (first|apply Kd.dK|apply Kd.dD|apply Kd.cB));exact aoX.z,aoZ ai.z,by repeat (first|(with_reducible first|exact HB.z|apply a_|apply bf|apply aZ|refine aoO ?_ (ag.ge ai.z)|refine aoO ?_ aX.z)|exact HB.z),aK HK.z⟩
     rw [if_pos c23] at H
     have DT:(t114 == 1)=true:=beq_iff_eq.mpr c23
     have XR:(t114 != 1)=false:=bne_eq_false_iff_eq.mpr c23
     clear c23
     by_cases c24:(aY.length:Int) > 0
     case neg =>
      rw [if_neg c24] at H
      have BB:decide (0 < (aY.length:Int))=false:=decide_eq_false c24
      have Gi:decide (0 < aY.length)=false:=decide_eq_false (by omega)
      clear c24
      simp only [Option.some.injEq,Prod.mk.injEq] at H
      obtain ⟨rfl,rfl,rfl⟩:=H
      have Ly:=dI.z
      have LC:=dH.z
      have KT:=aQ aa
      have KU:=aoT aa
      have Le:=bF aa 0
      have Lf:=bF aa 1
      go_wp2_with (first|((with_reducible refine bg (f:=112) rfl ?_);refine gC (some 22) Try.func112 #[.pointer (some ⟨g,0,none⟩),.int .i64 24] ?_;(with_reducible refine (dg.calls g aI kJ kK 24 t114 t115 t116 w0 _ ?aoN ?aoP qx.z).mono ?_);(case aoN=>repeat (first|(with_reducible first|exact ai.z|apply ag.alloc|apply ag.drewN|apply ag.drew|apply ag.fZ|apply ag.f_|refine ag.ao' ?_ dH.z _)|exact ai.z));(case aoP=>repeat (first|(with_reducible first|exact HB.z|apply a_|apply bf|apply aZ|refine aoO ?_ (ag.ge ai.z)|refine aoO ?_ aX.z)|exact HB.z));rintro e w40 ⟨rfl,hi,hb,hk⟩;refine ⟨_,rfl,?_⟩;replace aoX:=k0 (Kd.aoY (Kd.qE (ag.apart (show ag w0 _ g aI kJ kK from aoZ ai.z) (aR aoX.z) (by decide)) hk (fun _ h=>h.2)) (fun _ h=>h.1));replace aa:=k0 (aoR.blk hk (aB aa.z) dI.z (by simp));replace HK:=k0 (aoR.trans (aK HK.z) hk (.inl rfl));replace HB:=k0 (hb);replace ai:=k0 (hi);obtain ⟨UU,Yr,J_⟩:=Kd.dM aoX.z;subst J_))
      go_ret
      exact ⟨_,eR,by (with_reducible repeat (first|apply Kd.dK|apply Kd.dD|apply Kd.cB));exact aoX.z,aoZ ai.z,by repeat (first|(with_reducible first|exact HB.z|apply a_|apply bf|apply aZ|refine aoO ?_ (ag.ge ai.z)|refine aoO ?_ aX.z)|exact HB.z),aK HK.z⟩
     rw [if_pos c24] at H
     have BB:=decide_eq_true c24
     have Gi:decide (0 < aY.length)=true:=decide_eq_true (by omega)
     clear c24
     obtain ⟨zb,Aw⟩:∃ y_:List Int,y_=(([0,2]:List Int)):=⟨_,rfl⟩
     replace H:((kj.f aI t115 t116 zb).bind fun uq=>(if 0 < (aY.length:Int) then (some ((aY.set (0:Int).toNat uq.1),uq.2.1,uq.2.2)) else (none)))=some (r1,r2,r3):=rH Aw H
     have DB:=k0 Aw
     clear Aw
     replace H:=Option.bind_eq_some_iff.mp H
     obtain ⟨⟨t123,t124,t125⟩,C2,H⟩:=H
     replace H:(if 0 < (aY.length:Int) then (some ((aY.set (0:Int).toNat t123),t124,t125)) else (none))=some (r1,r2,r3):=H
     have IL:=k0 C2
     clear C2
     replace H:=iS H;obtain ⟨c26,H⟩:=H
     have JV:=decide_eq_true c26
     have XS:decide (0 < aY.length)=true:=decide_eq_true (by omega)
     clear c26
     obtain ⟨Uw,LR⟩:∃ y_:List Int,y_=(aY.set (0:Int).toNat t123):=⟨_,rfl⟩
     replace H:(some (Uw,t124,t125))=some (r1,r2,r3):=rH LR H
     have Wy:=k0 LR
     clear LR
     simp only [Option.some.injEq,Prod.mk.injEq] at H
     obtain ⟨rfl,rfl,rfl⟩:=H
     have Sa:=dI.z
     have Sn:=dH.z
     have Q9:=aQ aa
     have Q_:=aoT aa
     have Rt:=bF aa 0
     have Ru:=bF aa 1
     go_wp2_with (first|((with_reducible refine bg (f:=112) rfl ?_);refine gC (some 22) Try.func112 #[.pointer (some ⟨g,0,none⟩),.int .i64 24] ?_;(with_reducible refine (dg.calls g aI kJ kK 24 t114 t115 t116 w0 _ ?aoN ?aoP qx.z).mono ?_);(case aoN=>repeat (first|(with_reducible first|exact ai.z|apply ag.alloc|apply ag.drewN|apply ag.drew|apply ag.fZ|apply ag.f_|refine ag.ao' ?_ dH.z _)|exact ai.z));(case aoP=>repeat (first|(with_reducible first|exact HB.z|apply a_|apply bf|apply aZ|refine aoO ?_ (ag.ge ai.z)|refine aoO ?_ aX.z)|exact HB.z));rintro e Im ⟨rfl,hi,hb,hk⟩;refine ⟨_,rfl,?_⟩;replace aoX:=k0 (Kd.aoY (Kd.qE (ag.apart (show ag w0 _ g aI kJ kK from aoZ ai.z) (aR aoX.z) (by decide)) hk (fun _ h=>h.2)) (fun _ h=>h.1));replace aa:=k0 (aoR.blk hk (aB aa.z) dI.z (by simp));replace HK:=k0 (aoR.trans (aK HK.z) hk (.inl rfl));replace HB:=k0 (hb);replace ai:=k0 (hi);obtain ⟨zg,uw,xk⟩:=Kd.dM aoX.z;subst xk)|((with_reducible refine bp (N:=35) rfl ?_);refine Kd.jr (Kd.int .i64) _ 2 ?hg (N:=35) ?hd (xs:=([0,2]:List Int)) (inner:=[.int .i64 0,.int .i64 2]) (ok:=fun _=>True) (b_:=fun _=>True) ?hr ?hp (fun _ hk=>hk) trivial (Below.refl _ _) (Nat.le_refl _) (by simp) ?_;(case hd=>rfl);(case hg=>rfl);(case hr=>first|(go_simp;done)|(go_simp;rfl));(case hp=>exact (bh.one (show Kd.M (Kd.int .i64) _ _ _ 0 [.int .i64 0] from rfl) (bh.one (show Kd.M (Kd.int .i64) _ _ _ 2 [.int .i64 2] from rfl) (bh.none _ _))));intro Ub CQ Cg hb cJ cK;clear cJ cK;(first|rw [← DB.z] at Cg|(simp only [Int.reduceToNat] at Cg;rw [← DB.z] at Cg));have jI:=k0 (Kd.cU (Kd.cT Cg (Kd.bT (aR aoX.z))) (dU (aK HK.z)));replace aoX:=k0 (Kd.ao9 (aR aoX.z) (Kd.aU Cg) hb);replace aa:=kB aa hb;replace HK:=k0 (aoR.trans (aK HK.z) (aoR.iq hb g none) (.inl rfl));replace HB:=k0 (aH (by repeat (first|(with_reducible first|exact HB.z|apply a_|apply bf|apply aZ|refine aoO ?_ (ag.ge ai.z)|refine aoO ?_ aX.z)|exact HB.z)) hb);replace ai:=k0 (ag.below (aoZ ai.z) hb);clear hb Cg;obtain ⟨vE,vZ,D7⟩:=Kd.dM jI.z;subst D7)|((with_reducible refine bg (f:=202) rfl ?_);refine gC (some 36) Try.func202 #[.pointer (some ⟨g,0,none⟩),.slice vE zb.length vZ] ?_;(with_reducible refine (kj.calls g aI t115 t116 _ _ zb t123 t124 t125 w0 _ ?aoN ?aoP ?bA ?bH ?apC IL.z).mono ?_);(case aoN=>repeat (first|(with_reducible first|exact ai.z|apply ag.alloc|apply ag.drewN|apply ag.drew|apply ag.fZ|apply ag.f_|refine ag.ao' ?_ dH.z _)|exact ai.z));(case aoP=>repeat (first|(with_reducible first|exact HB.z|apply a_|apply bf|apply aZ|refine aoO ?_ (ag.ge ai.z)|refine aoO ?_ aX.z)|exact HB.z));(case bA=>exact aC ((Kd.cx jI.z).2.2));(case bH=>exact (Kd.cx jI.z).2.1);(case apC=>exact Ea (ag.tD ai.z jI.z (by decide)));rintro e CR ⟨rfl,hi,hb,hk⟩;refine ⟨_,rfl,?_⟩;replace aoX:=k0 (Kd.aoY (Kd.qE (ag.apart (show ag w0 _ g aI t115 t116 from aoZ ai.z) (aR aoX.z) (by decide)) hk (fun _ h=>h.2)) (fun _ h=>h.1));replace aa:=k0 (aoR.blk hk (aB aa.z) dI.z (by simp));replace jI:=k0 (Kd.aoY (Kd.qE (ag.apart (show ag w0 _ g aI t115 t116 from aoZ ai.z) (aR jI.z) (by decide)) hk (fun _ h=>h.2)) (fun _ h=>h.1));replace HK:=k0 (aoR.trans (aK HK.z) hk (.inl rfl));replace HB:=k0 (hb);replace ai:=k0 (hi);have MD:0≤(0:Int):=(by omega);have MY:(0:Int) < ((aY.length:Int):Int):=oD;have aob:(0 < aY.length)=True:=eq_true (by omega);obtain ⟨Ei,Gn,BN,QG,ZU,ahy,Oi⟩:=Kd.aql aoX.z (by omega);(first|cases BN|(injection BN with er apw apv;(first|subst er|(injection er with er;subst er));subst apv;clear apw));have Vt:=k0 QG;have agu:=k0 Oi;clear QG ZU Oi;obtain ⟨SI,Rn⟩:=Kd.vR 0 aoX.z (0:Int) MD MY;(try rw [show ((0:Int)).toNat=0 from rfl] at SI);(try simp only [Nat.reduceMul,Nat.zero_mul,Nat.zero_add,Nat.reduceAdd] at SI);(try rw [show ((0:Int)).toNat=0 from rfl] at Rn);(try simp only [Nat.reduceMul,Nat.zero_mul,Nat.zero_add,Nat.reduceAdd] at Rn);replace MD:=eq_true MD;replace MY:=eq_true MY;have n_:=k0 (Kd.aoY (ok':=(fun k_=>some k_ ≠ (.slice vE zb.length vZ:Value).ownBlock)) aoX.z (fun k_ hk=>hk.2));clear aoX;have aoX:=n_;clear n_;obtain ⟨SL,SM⟩:=Kd.vR 0 aoX.z (0:Int) (by omega) oD;(try simp only [Int.reduceToNat,Int.toNat_zero,Int.toNat_ofNat,Nat.reduceMul,Nat.zero_mul,Nat.zero_add] at SL SM);(try rw [show ((0:Int)).toNat=0 from rfl] at SL);(try rw [show ((0:Int)).toNat=0 from rfl] at SM);have Jh:=Kd.zH aoX.z (0:Int) t123)|((with_reducible refine Gw (t:=2) (p:=37) rfl ?_);refine Ib (t:=2) (p:=37) (v:=?aox) (w1:=(CR.setCell ⟨Ei,(0:Int).toNat,none⟩ (.int .i64 t123))) ?hg ?ho ?hn ?hr ?_;(case ho=>rfl);(case hg=>rfl);(case hn=>rfl);(case hr=>first|(go_simp;done)|(go_simp;rfl));intro aqH hw;have hg:CR.grownBy aqH (some Ei):=(by rw [hw];exact Jh.2);have uL:Kd.R (Kd.int .i64) 2 aqH w.heap.size (fun k_=>some k_ ≠ (.slice vE zb.length vZ:Value).ownBlock) (.slice (some ⟨Ei,0,none⟩) aY.length uw) Uw:=(by rw [hw,Wy.z];exact Jh.1);clear Jh;replace aa:=k0 (fl (aB aa.z) hg (Kd.kr aoX.z aa.z (by decide)));replace ai:=k0 (ag.grown (aoZ ai.z) hg (ag.tD ai.z aoX.z (by decide)));replace jI:=k0 (Kd.ap5 (v:=(.slice (some ⟨Ei,0,none⟩) aY.length uw)) (v1:=(.slice (some ⟨Ei,0,none⟩) aY.length uw)) (ok:=(fun _=>True)) (aR jI.z) hg (.inl rfl));replace HB:=k0 ((by rw [hw];exact aoO (HB.z) (Nat.le_trans HL.z Vt.out):Below w0.heap.size w0 aqH));replace HK:=k0 (aoR.trans (aK HK.z) (aoR.u_ hg g) (Kd.DD aoX.z));replace aoX:=k0 (uL);clear hg hw uL))
     go_ret
     exact ⟨_,eR,by (with_reducible repeat (first|apply Kd.dK|apply Kd.dD|apply Kd.cB));exact Kd.aoY aoX.z (fun _ hk=>trivial),aoZ ai.z,by repeat (first|(with_reducible first|exact HB.z|apply a_|apply bf|apply aZ|refine aoO ?_ (ag.ge ai.z)|refine aoO ?_ aX.z)|exact HB.z),aK HK.z⟩
    rw [if_pos c17] at H
    have ur:(t114 == 0)=true:=beq_iff_eq.mpr c17
    have JT:(t114 != 0)=false:=bne_eq_false_iff_eq.mpr c17
    clear c17
    replace H:=iS H;obtain ⟨c18,H⟩:=H
    have V_:=k0 c18
    clear c18
    obtain ⟨IB,Av⟩:∃ y_:List Int,y_=(aY ++ [1]):=⟨_,rfl⟩
    replace H:(some (IB,t115,t116))=some (r1,r2,r3):=rH Av H
    have JB:=k0 Av
    clear Av
    simp only [Option.some.injEq,Prod.mk.injEq] at H
    obtain ⟨rfl,rfl,rfl⟩:=H
    have R7:=dI.z
    have Sj:=dH.z
    have GA:=aQ aa
    have GB:=aoT aa
    have GM:=bF aa 0
    have GN:=bF aa 1
    go_wp2_with (first|((with_reducible refine bg (f:=112) rfl ?_);refine gC (some 22) Try.func112 #[.pointer (some ⟨g,0,none⟩),.int .i64 24] ?_;(with_reducible refine (dg.calls g aI kJ kK 24 t114 t115 t116 w0 _ ?aoN ?aoP qx.z).mono ?_);(case aoN=>repeat (first|(with_reducible first|exact ai.z|apply ag.alloc|apply ag.drewN|apply ag.drew|apply ag.fZ|apply ag.f_|refine ag.ao' ?_ dH.z _)|exact ai.z));(case aoP=>repeat (first|(with_reducible first|exact HB.z|apply a_|apply bf|apply aZ|refine aoO ?_ (ag.ge ai.z)|refine aoO ?_ aX.z)|exact HB.z));rintro e CN ⟨rfl,hi,hb,hk⟩;refine ⟨_,rfl,?_⟩;replace aoX:=k0 (Kd.aoY (Kd.qE (ag.apart (show ag w0 _ g aI kJ kK from aoZ ai.z) (aR aoX.z) (by decide)) hk (fun _ h=>h.2)) (fun _ h=>h.1));replace aa:=k0 (aoR.blk hk (aB aa.z) dI.z (by simp));replace HK:=k0 (aoR.trans (aK HK.z) hk (.inl rfl));replace HB:=k0 (hb);replace ai:=k0 (hi);)|((with_reducible refine kQ (b:=.append) (xs:=#[.tmp 25,.tmp 26]) rfl ?_);at_builtin;refine Kd.p9 (Kd.int .i64) w.heap.size rfl (.tmp 25) (.tmp 26) 28 2 (.int .i64 0) 8 rfl Try.underlying28 mR rfl (by decide) (by omega) u5 aY 1 [.int .i64 1] (fun _=>True) (fun _=>False) rfl rfl ?aP (fun _ hk=>hk.elim) ?aF ?aO (Below.refl _ _) ?aS ?aL ?_;(case aP=>exact rfl);(case aF=>exact (fun _ _=>trivial));(case aO=>exact (aR aoX.z));(case aS=>exact (dU (aK HK.z)));(case aL=>have:=V_.out;omega);intro T_ tM ho hb hg ao1;rw [← JB.z] at ho;have aq:=k0 (fl (aB aa.z) hg (Kd.kr aoX.z aa.z (by decide)));have au:=k0 (ag.grown (aoZ ai.z) hg (ag.tD ai.z aoX.z (by decide)));have ax:=k0 (vW (by repeat (first|(with_reducible first|exact HB.z|apply a_|apply bf|apply aZ|refine aoO ?_ (ag.ge ai.z)|refine aoO ?_ aX.z)|exact HB.z)) HL.z hb);have aA:=k0 (aoR.trans (aK HK.z) (aoR.u_ hg g) (Kd.DD aoX.z));have aG:=k0 (ho);clear aa;clear ai;clear HB;clear HK;clear aoX;have aa:=aq;have ai:=au;have HB:=ax;have HK:=aA;have Bo:=aG;clear aq au ax aA aG;clear ho hb hg ao1))
    go_ret
    exact ⟨_,eR,by (with_reducible repeat (first|apply Kd.dK|apply Kd.dD|apply Kd.cB));exact Bo.z,aoZ ai.z,by repeat (first|(with_reducible first|exact HB.z|apply a_|apply bf|apply aZ|refine aoO ?_ (ag.ge ai.z)|refine aoO ?_ aX.z)|exact HB.z),aK HK.z⟩
   rw [if_pos c6] at H
   have kG:=decide_eq_true c6
   clear c6
   obtain ⟨vw,uP⟩:∃ y_:List Int,y_=(([1,(-1)]:List Int)):=⟨_,rfl⟩
   replace H:((kj.f aI kJ kK vw).bind fun fL=>(if aY.length < 17592186044416 then (ki.l0 k1 (aY ++ [fL.1]) (wrap64 (gY+1)) aI fL.2.1 fL.2.2 cg bN) else (none)))=some (r1,r2,r3):=rH uP H
   have yd:=k0 uP
   clear uP
   replace H:=Option.bind_eq_some_iff.mp H
   obtain ⟨⟨t108,t109,t110⟩,nE,H⟩:=H
   replace H:(if aY.length < 17592186044416 then (ki.l0 k1 (aY ++ [t108]) (wrap64 (gY+1)) aI t109 t110 cg bN) else (none))=some (r1,r2,r3):=H
   have A7:=k0 nE
   clear nE
   replace H:=iS H;obtain ⟨c8,H⟩:=H
   have Wm:=k0 c8
   clear c8
   obtain ⟨qu,oo⟩:∃ y_:List Int,y_=(aY ++ [t108]):=⟨_,rfl⟩
   replace H:(ki.l0 k1 qu (wrap64 (gY+1)) aI t109 t110 cg bN)=some (r1,r2,r3):=rH oo H
   have vO:=k0 oo
   clear oo
   have H':=k0 H
   clear H
   have Cc:=dI.z
   have Ce:=dH.z
   have uD:=aQ aa
   have uE:=aoT aa
   have uF:=bF aa 0
   have uG:=bF aa 1
   go_wp2_with (first|((with_reducible refine bp (N:=17) rfl ?_);refine Kd.jr (Kd.int .i64) _ 2 ?hg (N:=17) ?hd (xs:=([1,(-1)]:List Int)) (inner:=[.int .i64 1,.int .i64 (-1)]) (ok:=fun _=>True) (b_:=fun _=>True) ?hr ?hp (fun _ hk=>hk) trivial (Below.refl _ _) (Nat.le_refl _) (by simp) ?_;(case hd=>rfl);(case hg=>rfl);(case hr=>first|(go_simp;done)|(go_simp;rfl));(case hp=>exact (bh.one (show Kd.M (Kd.int .i64) _ _ _ 1 [.int .i64 1] from rfl) (bh.one (show Kd.M (Kd.int .i64) _ _ _ (-1) [.int .i64 (-1)] from rfl) (bh.none _ _))));intro vn vp nr hb cJ cK;clear cJ cK;(first|rw [← yd.z] at nr|(simp only [Int.reduceToNat] at nr;rw [← yd.z] at nr));have eP:=k0 (Kd.cU (Kd.cT nr (Kd.bT (aR aoX.z))) (dU (aK HK.z)));replace aoX:=k0 (Kd.ao9 (aR aoX.z) (Kd.aU nr) hb);replace aa:=kB aa hb;replace HK:=k0 (aoR.trans (aK HK.z) (aoR.iq hb g none) (.inl rfl));replace HB:=k0 (aH (by repeat (first|(with_reducible first|exact HB.z|apply a_|apply bf|apply aZ|refine aoO ?_ (ag.ge ai.z)|refine aoO ?_ aX.z)|exact HB.z)) hb);replace ai:=k0 (ag.below (aoZ ai.z) hb);clear hb nr;obtain ⟨iQ,iF,xg⟩:=Kd.dM eP.z;subst xg)|((with_reducible refine bg (f:=202) rfl ?_);refine gC (some 18) Try.func202 #[.pointer (some ⟨g,0,none⟩),.slice iQ vw.length iF] ?_;(with_reducible refine (kj.calls g aI kJ kK _ _ vw t108 t109 t110 w0 _ ?aoN ?aoP ?bA ?bH ?apC A7.z).mono ?_);(case aoN=>repeat (first|(with_reducible first|exact ai.z|apply ag.alloc|apply ag.drewN|apply ag.drew|apply ag.fZ|apply ag.f_|refine ag.ao' ?_ dH.z _)|exact ai.z));(case aoP=>repeat (first|(with_reducible first|exact HB.z|apply a_|apply bf|apply aZ|refine aoO ?_ (ag.ge ai.z)|refine aoO ?_ aX.z)|exact HB.z));(case bA=>exact aC ((Kd.cx eP.z).2.2));(case bH=>exact (Kd.cx eP.z).2.1);(case apC=>exact Ea (ag.tD ai.z eP.z (by decide)));rintro e tL ⟨rfl,hi,hb,hk⟩;refine ⟨_,rfl,?_⟩;replace aoX:=k0 (Kd.aoY (Kd.qE (ag.apart (show ag w0 _ g aI kJ kK from aoZ ai.z) (aR aoX.z) (by decide)) hk (fun _ h=>h.2)) (fun _ h=>h.1));replace aa:=k0 (aoR.blk hk (aB aa.z) dI.z (by simp));replace eP:=k0 (Kd.aoY (Kd.qE (ag.apart (show ag w0 _ g aI kJ kK from aoZ ai.z) (aR eP.z) (by decide)) hk (fun _ h=>h.2)) (fun _ h=>h.1));replace HK:=k0 (aoR.trans (aK HK.z) hk (.inl rfl));replace HB:=k0 (hb);replace ai:=k0 (hi);)|((with_reducible refine kQ (b:=.append) (xs:=#[.tmp 15,.tmp 19]) rfl ?_);at_builtin;refine Kd.p9 (Kd.int .i64) w.heap.size rfl (.tmp 15) (.tmp 19) 28 2 (.int .i64 0) 8 rfl Try.underlying28 mR rfl (by decide) (by omega) u5 aY t108 [.int .i64 t108] (fun k_=>some k_ ≠ (.slice iQ vw.length iF:Value).ownBlock) (fun _=>False) rfl rfl ?aP (fun _ hk=>hk.elim) ?aF ?aO (Below.refl _ _) ?aS ?aL ?_;(case aP=>exact rfl);(case aF=>exact (fun k_ hk=>Kd.fresh' (Kd.bT (aR eP.z)) k_ hk));(case aO=>exact (by (with_reducible repeat (first|apply Kd.dK|apply Kd.dD|apply Kd.cB));exact Kd.aoY aoX.z (fun _ hk=>hk.2)));(case aS=>exact (dU (aK HK.z)));(case aL=>have:=Wm.out;omega);intro Fl qq ho hb hg ao1;rw [← vO.z] at ho;have aq:=k0 (fl (aB aa.z) hg (Kd.kr aoX.z aa.z (by decide)));have au:=k0 (ag.grown (aoZ ai.z) hg (ag.tD ai.z aoX.z (by decide)));have ax:=k0 (Kd.ap5 (ok:=(fun _=>True)) (aR eP.z) hg ao1);have aA:=k0 (vW (by repeat (first|(with_reducible first|exact HB.z|apply a_|apply bf|apply aZ|refine aoO ?_ (ag.ge ai.z)|refine aoO ?_ aX.z)|exact HB.z)) HL.z hb);have aG:=k0 (aoR.trans (aK HK.z) (aoR.u_ hg g) (Kd.DD aoX.z));have aM:=k0 (ho);clear aa;clear ai;clear eP;clear HB;clear HK;clear aoX;have aa:=aq;have ai:=au;have eP:=ax;have HB:=aA;have HK:=aG;have oI:=aM;clear aq au ax aA aG aM;clear ho hb hg ao1))
   go_roundg k1
   case measure=>have:=bx.z;omega
   case rel=>exact ⟨(qu),(wrap64 (gY+1)),(t109),(t110),rs,H',⟨by have:=bx.z;omega⟩,⟨aR (Kd.aoY oI.z (fun _ hk=>trivial))⟩,⟨bk⟩,⟨aoZ ai.z⟩,⟨aK HK.z⟩,⟨by repeat (first|(with_reducible first|exact HB.z|apply a_|apply bf|apply aZ|refine aoO ?_ (ag.ge ai.z)|refine aoO ?_ aX.z)|exact HB.z)⟩⟩
/-! ### F52: function 52 -/
def aqt.f (k:Nat) (l0:List Int):Option (Int × (List (List Int)) × List Int):=(kg.f k l0).bind fun ao2=>((tW.f k ao2.1 ao2.2.1 ao2.2.2).bind fun fD=>((ki.f k ao2.1 fD.2.2.1 fD.2.2.2 fD.1 fD.2.1).bind fun lV=>(some (fD.1,fD.2.1,lV.1))))
theorem aqt.calls (k : Nat) (A0 : Option Addr) (c0 : Nat) (l0 : List Int) (r1 : Int) (r2 : List (List Int)) (r3 : List Int) (w : World) (cY : Kd.C (Kd.int .u8) w A0 l0.length l0) (hc0 : l0.length ≤ c0) (h : aqt.f k l0 = some (r1, r2, r3)) :
  Calls Try.prog 52 #[.slice A0 l0.length c0] w fun e w'=>∃ eM aqE:Value,e=.returned (.tuple #[.agg #[.int .i64 r1,eM],aqE])∧Kd.V (Kd.slice 2 (Kd.int .i64)) 28 w' w.heap.size (fun k_=>(w.heap.size≤k_)∧some k_ ≠ (aqE:Value).ownBlock) eM r2∧Kd.R (Kd.int .i64) 2 w' w.heap.size (fun k_=>(w.heap.size≤k_)) aqE r3∧Below w.heap.size w w':=by
 have iX:=Try.underlying31
 have ek:=k0 cY
 have jx:=k0 hc0
 clear cY hc0
 have HB:=k0 (Below.refl w.heap.size w)
 have H:((kg.f k l0).bind fun ao2=>((tW.f k ao2.1 ao2.2.1 ao2.2.2).bind fun fD=>((ki.f k ao2.1 fD.2.2.1 fD.2.2.2 fD.1 fD.2.1).bind fun lV=>(some (fD.1,fD.2.1,lV.1)))))=some (r1,r2,r3):=h
 clear h
 replace H:=Option.bind_eq_some_iff.mp H
 obtain ⟨⟨t102,t103,t104⟩,fI,H⟩:=H
 replace H:((tW.f k t102 t103 t104).bind fun fD=>((ki.f k t102 fD.2.2.1 fD.2.2.2 fD.1 fD.2.1).bind fun lV=>(some (fD.1,fD.2.1,lV.1))))=some (r1,r2,r3):=H
 have A2:=k0 fI
 clear fI
 replace H:=Option.bind_eq_some_iff.mp H
 obtain ⟨⟨t106,t107,t110,t111⟩,fJ,H⟩:=H
 replace H:((ki.f k t102 t110 t111 t106 t107).bind fun lV=>(some (t106,t107,lV.1)))=some (r1,r2,r3):=H
 have A3:=k0 fJ
 clear fJ
 replace H:=Option.bind_eq_some_iff.mp H
 obtain ⟨⟨t113,t116,t117⟩,fu,H⟩:=H
 replace H:(some (t106,t107,t113))=some (r1,r2,r3):=H
 have A4:=k0 fu
 clear fu
 simp only [Option.some.injEq,Prod.mk.injEq] at H
 obtain ⟨rfl,rfl,rfl⟩:=H
 go_enter Try.func52,Try.ntmps52
 try go_wp2_with (first|((with_reducible refine bp (N:=2) rfl ?_);refine bR 2 #[.int .i64 0,.slice none 0 0] 31 ?_;intro aoV hg w5 aE hb;have aa:=k0 (aE);have bB:=gW hg (aoS bl);have aX:=bB;replace HB:=k0 (aH bl hb);clear hb aE hg)|((with_reducible refine bg (f:=110) rfl ?_);refine gC (some 7) Try.func110 #[.slice A0 l0.length c0] ?_;(with_reducible refine (kg.calls k _ _ l0 t102 t103 t104 w _ ?aoN ?aoP ?bA A2.z).mono ?_);(case aoN=>repeat (first|(with_reducible first|exact HB.z|apply a_|apply bf|apply aZ|refine aoO ?_ aX.z)|exact HB.z));(case aoP=>exact ek.z);(case bA=>exact jx.z);rintro e w6 ⟨g105,rfl,hi,hb,hb2⟩;refine ⟨_,rfl,?_⟩;replace HB:=k0 (hb);have eZ:=k0 (hi);have qA:=k0 (ag.aq6 hi (cZ (aB aa.z) hb2) (by decide));have mb:=k0 (Ne.symm (ag.aq6 hi (cZ (aB aa.z) hb2) (by decide)));replace aa:=kB aa hb2;)|((with_reducible refine bg (f:=111) rfl ?_);refine gC (some 9) Try.func111 #[.pointer (some ⟨g105,0,none⟩)] ?_;(with_reducible refine (tW.calls k g105 t102 t103 t104 t106 t107 t110 t111 w _ ?aoN ?aoP A3.z).mono ?_);(case aoN=>repeat (first|(with_reducible first|exact eZ.z|apply ag.alloc|apply ag.drewN|apply ag.drew|apply ag.fZ|apply ag.f_|refine ag.ao' ?_ qA.z _)|exact eZ.z));(case aoP=>repeat (first|(with_reducible first|exact HB.z|apply a_|apply bf|apply aZ|refine aoO ?_ (ag.ge eZ.z)|refine aoO ?_ aX.z)|exact HB.z));rintro e w7 ⟨vo,rfl,aD,hi,hb,hk⟩;refine ⟨_,rfl,?_⟩;have eB:=k0 (Kd.Bx (Kd.bP (ok':=fun k_=>(w.heap.size≤k_)∧k_ ≠ aoV∧k_ ≠ g105) aD (fun k_ bZ=>⟨(Nat.le_trans (aoS (by repeat (first|(with_reducible first|exact HB.z|apply a_|apply bf|apply aZ|refine aoO ?_ (ag.ge eZ.z)|refine aoO ?_ aX.z)|exact HB.z))) bZ),(Kd.BP (aB aa.z) k_ bZ),(ag.fresh (aoZ eZ.z) k_ bZ)⟩)) (aoS (by repeat (first|(with_reducible first|exact HB.z|apply a_|apply bf|apply aZ|refine aoO ?_ (ag.ge eZ.z)|refine aoO ?_ aX.z)|exact HB.z))));replace aa:=k0 (aoR.blk hk (aB aa.z) mb.z (by simp));replace HB:=k0 (hb);replace eZ:=k0 (hi);)|((with_reducible refine bp (N:=5) rfl ?_);refine bR 5 #[.int .i64 0,.slice none 0 0] 31 ?_;intro fE hg w8 aE hb;replace eB:=k0 (Kd.gI (Kd.ng (aV eB.z) fE (Nat.le_of_eq hg.symm)) hb);have jS:=k0 (aE);have VE:=k0 ((by rw [hg];exact (aoS (by repeat (first|(with_reducible first|exact HB.z|apply a_|apply bf|apply aZ|refine aoO ?_ (ag.ge eZ.z)|refine aoO ?_ aX.z)|exact HB.z))):w.heap.size≤fE));have tX:=k0 ((by rw [hg];exact (aoS (by repeat (first|(with_reducible first|exact HB.z|apply a_|apply bf|apply aZ|refine aoO ?_ (ag.ge eZ.z)|refine aoO ?_ aX.z)|exact HB.z))):w.heap.size≤fE));replace HB:=k0 (aH (by repeat (first|(with_reducible first|exact HB.z|apply a_|apply bf|apply aZ|refine aoO ?_ (ag.ge eZ.z)|refine aoO ?_ aX.z)|exact HB.z)) hb);have rV:=nL hg aa;have qB:=nG rV;replace aa:=kB aa hb;have Dr:=k0 ((by rw [hg];exact Nat.ne_of_lt (ag.lt (show ag w _ g105 t102 t110 t111 from aoZ eZ.z)):g105 ≠ fE));have Dt:=k0 ((by rw [hg];exact Nat.ne_of_gt (ag.lt (show ag w _ g105 t102 t110 t111 from aoZ eZ.z)):fE ≠ g105));replace eZ:=k0 (ag.below (aoZ eZ.z) hb);clear hb aE hg;have Cc:=qB.z;have Ce:=rV.z;have G8:=Dt.z;have He:=Dr.z;have BQ:=aQ jS;have BR:=aoT jS;have aqO:=bF jS 0;have B2:=bF jS 1;obtain ⟨dc,cW,uA⟩:=Kd.aqn eB.z;subst uA))
 have aq:aj (Kd.V (Kd.slice 2 (Kd.int .i64)) 28 ((w8.setCell ⟨fE,0,none⟩ (.int .i64 t106)).setCell ⟨fE,1,none⟩ (.slice dc t107.length cW)) w.heap.size (fun k_=>(w.heap.size≤k_)∧k_ ≠ aoV∧k_ ≠ g105∧k_ ≠ fE) (.slice dc t107.length cW) t107):=⟨aV (Kd.bP (Kd.ape (p:=⟨fE,1,none⟩) (Kd.ape (p:=⟨fE,0,none⟩) (Kd.bP eB.z (fun k_ hk=>(⟨hk,hk.2⟩:_∧k_ ≠ fE))) (fun _ hk=>hk.2) (.int .i64 t106)) (fun _ hk=>hk.2) (.slice dc t107.length cW)) (fun _ hk=>⟨hk.1.1.1,⟨hk.1.1.2.1,⟨hk.1.1.2.2,hk.1.2⟩⟩⟩))⟩
 have au:aj (((w8.setCell ⟨fE,0,none⟩ (.int .i64 t106)).setCell ⟨fE,1,none⟩ (.slice dc t107.length cW)).heap[aoV]?=some (.cells #[.int .i64 0,.slice none 0 0] 31 (0,0))):=⟨by (with_reducible repeat (first|refine aoU ?_ _|refine aJ ?_|refine aoQ ?_ _));refine bW ?_ rV.z _;(with_reducible repeat (first|refine aoU ?_ _|refine aJ ?_|refine aoQ ?_ _));refine bW ?_ rV.z _;exact bk⟩
 have ax:aj (((w8.setCell ⟨fE,0,none⟩ (.int .i64 t106)).setCell ⟨fE,1,none⟩ (.slice dc t107.length cW)).heap[fE]?=some (sO t106 dc t107 cW 31)):=⟨by (with_reducible repeat (first|refine aoU ?_ _|refine aJ ?_|refine aoQ ?_ _));refine bE (cs:=#[.int .i64 t106,.slice none 0 0]) ?_ 1 _ rfl;(with_reducible repeat (first|refine aoU ?_ _|refine aJ ?_|refine aoQ ?_ _));refine bE (cs:=#[.int .i64 0,.slice none 0 0]) ?_ 0 _ rfl;exact bk⟩
 have aA:aj (ag w ((w8.setCell ⟨fE,0,none⟩ (.int .i64 t106)).setCell ⟨fE,1,none⟩ (.slice dc t107.length cW)) g105 t102 t110 t111):=⟨aoZ eZ.z⟩
 have aG:aj (Below w.heap.size w ((w8.setCell ⟨fE,0,none⟩ (.int .i64 t106)).setCell ⟨fE,1,none⟩ (.slice dc t107.length cW))):=⟨by repeat (first|(with_reducible first|exact HB.z|apply a_|apply bf|apply aZ|refine aoO ?_ (ag.ge eZ.z)|refine aoO ?_ aX.z|refine aoO ?_ tX.z)|exact HB.z)⟩
 generalize ((w8.setCell ⟨fE,0,none⟩ (.int .i64 t106)).setCell ⟨fE,1,none⟩ (.slice dc t107.length cW))=tK at aq au ax aA aG ⊢
 have eB:=aq
 have aa:=au
 have jS:=ax
 have eZ:=aA
 have HB:=aG
 clear aq au ax aA aG
 replace eB:=k0 (Kd.kE eB.z);replace aa:=k0 (aJ aa.z);replace jS:=k0 (aJ jS.z);replace eZ:=k0 (ag.drew eZ.z);replace HB:=k0 (aZ HB.z)
 refine apA (n:=6) (S:=fun w'=>w'.cell? ⟨fE,0,none⟩=some (.int .i64 t106)∧w'.cell? ⟨fE,1,none⟩=some (.slice dc t107.length cW)) (ds:=[]) (ba 6 0) (by kernel_rfl) rfl rfl ⟨aQ jS,aoT jS⟩ (fun hHeld=>?_)
 generalize tK.drew=tL at eB aa jS eZ HB hHeld ⊢
 refine kT (i:=1) (N:=some 11) (v:=?_) (a':=?_) (ba 6 2) rfl rfl (by kernel_rfl) (fun _ _ _ h=>h) (Or.inl ⟨by rfl,?_⟩) ?_ ?_
 rotate_left;· intro w';go_simp;with_reducible rfl
 rotate_left;· simp only [Act.put,zI,zZ,zS,cm,cO];rfl
 refine aqy (i:=0) (N:=some 10) (v:=?_) (a':=?_) (ba 6 3) rfl rfl (by kernel_rfl) (fun _ _ _ h=>h) (Or.inl ⟨by rfl,?_⟩) hHeld ?_ ?_
 rotate_left;· rintro w' ⟨s0,s1⟩;go_simp;with_reducible rfl
 rotate_left;· simp only [Act.put,zI,zZ,zS,cm,cO];rfl
 refine aqy (i:=2) (N:=some 12) (v:=?_) (a':=?_) (ba 6 7) rfl rfl (by kernel_rfl) (fun _ _ _ h=>h) (Or.inl ⟨by rfl,?_⟩) hHeld ?_ ?_
 rotate_left;· rintro w' ⟨s0,s1⟩;go_simp;with_reducible rfl
 rotate_left;· simp only [Act.put,zI,zZ,zS,cm,cO];rfl
 refine ja (i:=3) (N:=some 13) (ba 6 15) rfl rfl (by kernel_rfl) (by decide) (fun K hK=>?_)
 refine mP Try.func129 (by kernel_rfl) rfl #[.pointer (some ⟨g105,0,none⟩),.agg #[.int .i64 t106,.slice dc t107.length cW]] (by rfl) rfl rfl gm ?_
 with_reducible refine (ki.calls k g105 t102 t110 t111 t106 _ _ t107 t113 t116 t117 w _ ?aoN ?aoP ?bA ?bH A4.z).mono ?_
 (case aoN=>repeat (first|(with_reducible first|exact eZ.z|apply ag.alloc|apply ag.drewN|apply ag.drew|apply ag.fZ|apply ag.f_|refine ag.ao' ?_ qA.z _|refine ag.ao' ?_ Dr.z _)|exact eZ.z))
 (case aoP=>repeat (first|(with_reducible first|exact HB.z|apply a_|apply bf|apply aZ|refine aoO ?_ (ag.ge eZ.z)|refine aoO ?_ aX.z|refine aoO ?_ tX.z)|exact HB.z))
 (case bA=>exact Kd.N6 (base:=0) (e:=0) (Kd.bP (ok:=fun k_=>(((w.heap.size≤k_))∧(k_ ≠ aoV∧(k_ ≠ g105∧k_ ≠ fE)))) (aV eB.z) (fun k_ bZ=>(⟨bZ,bZ.2.2.1⟩:_∧k_ ≠ g105))) (fun _ h_=>h_.2))
 (case bH=>exact (Kd.dm eB.z).2.1)
 rintro e qq ⟨Fm,rfl,aD,hi,hb,hk⟩
 refine ⟨_,rfl,?_⟩
 have aq:=k0 (aoR.blk hk (aB aa.z) mb.z (by simp))
 have au:=k0 (Kd.bP (Kd.vU (Kd.Pb (Kd.bP (ok:=fun k_=>(((w.heap.size≤k_))∧(k_ ≠ aoV∧(k_ ≠ g105∧k_ ≠ fE)))) (aV eB.z) (fun k_ bZ=>(⟨bZ,bZ.2.2.1⟩:_∧k_ ≠ g105))) hk) (Kd.aU aD)) (fun _ h_=>h_.1))
 have ax:=k0 (aoR.blk hk (aB jS.z) Dt.z (by simp))
 have aA:=k0 (Kd.cU (Kd.rj (M:=fun k_=>(w.heap.size≤k_)) aD (aoS (by repeat (first|(with_reducible first|exact HB.z|apply a_|apply bf|apply aZ|refine aoO ?_ (ag.ge eZ.z)|refine aoO ?_ aX.z|refine aoO ?_ tX.z)|exact HB.z))) (fun k_ h_=>h_)) (aoS (by repeat (first|(with_reducible first|exact HB.z|apply a_|apply bf|apply aZ|refine aoO ?_ (ag.ge eZ.z)|refine aoO ?_ aX.z|refine aoO ?_ tX.z)|exact HB.z))))
 have aG:=k0 (hb)
 have aM:=k0 (hi)
 clear aa
 clear eB
 clear jS
 clear HB
 clear eZ
 have aa:=aq
 have eB:=au
 have jS:=ax
 have lF:=aA
 have HB:=aG
 have eZ:=aM
 clear aq au ax aA aG aM
 refine hK.out _ _ ⟨aQ jS,aoT jS⟩ (fun hHeld=>?_)
 clear hK K
 refine jh (a':=?_) ?_ ?_
 rotate_left;· show Act.put _ (some 13) _=_;simp only [Act.put,zI,zZ,zS,cm,cO];rfl
 refine ja (i:=4) (N:=none) (ba 6 31) rfl rfl (by kernel_rfl) (by decide) (fun K hK=>?_)
 have acS:=aQ aa
 have aa':=bF aa 0
 have acO:=qB.z
 have abX:=rV.z
 have acT:=aoT aa
 have aa_:=bF aa 1
 have acP:=qB.z
 have abY:=rV.z
 refine tG (w1:=?_) (by rfl) rfl ?_ ?_
 rotate_left;· go_simp;rfl
 refine hK.out _ _ ⟨((cell_far (p:=⟨aoV,_,none⟩) qB.z _).trans (((cell_far (p:=⟨aoV,_,none⟩) qB.z _).trans (hHeld.1)))),((cell_far (p:=⟨aoV,_,none⟩) qB.z _).trans (((cell_far (p:=⟨aoV,_,none⟩) qB.z _).trans (hHeld.2))))⟩ (fun hHeld=>?_)
 clear hK K
 refine kT (i:=5) (N:=some 3) (v:=?_) (a':=?_) (ba 6 63) rfl rfl (by kernel_rfl) (fun _ _ _ h=>h) (Or.inl ⟨by rfl,?_⟩) ?_ ?_
 rotate_left;· intro w';go_simp;with_reducible rfl
 rotate_left;· simp only [Act.put,zI,zZ,zS,cm,cO];rfl
 refine lY (by kernel_rfl) ?_
 try go_wp2
 refine bodyPost_ret (apP rfl _ _ aoV 31 #[.int .i64 t106,.slice dc t107.length cW] (0,0) _ rfl (by (with_reducible repeat (first|refine aoU ?_ _|refine aJ ?_|refine aoQ ?_ _));refine bE (cs:=#[.int .i64 t106,.slice none 0 0]) ?_ 1 _ rfl;(with_reducible repeat (first|refine aoU ?_ _|refine aJ ?_|refine aoQ ?_ _));refine bE (cs:=#[.int .i64 0,.slice none 0 0]) ?_ 0 _ rfl;exact bk) Try.underlying31 rfl (by kernel_rfl)) rfl ?_
 exact ⟨_,_,eR,by (with_reducible repeat (first|apply Kd.nc|apply Kd.mN|apply Kd.kE));exact Kd.bP (Kd.ape (p:=⟨aoV,1,none⟩) (Kd.ape (p:=⟨aoV,0,none⟩) (Kd.bP eB.z (fun k_ hk=>(⟨hk,hk.1.2.1⟩:_∧k_ ≠ aoV))) (fun _ hk=>hk.2) (.int .i64 t106)) (fun _ hk=>hk.2) (.slice dc t107.length cW)) (fun _ hk=>⟨hk.1.1.1,hk.1.2⟩),by (with_reducible repeat (first|apply Kd.dK|apply Kd.dD|apply Kd.cB));exact Kd.aoY (gR 1 (.slice dc t107.length cW) (gR 0 (.int .i64 t106) (tR lF aa))) (fun _ hk=>hk.1.1),by repeat (first|(with_reducible first|exact HB.z|apply a_|apply bf|apply aZ|refine aoO ?_ (ag.ge eZ.z)|refine aoO ?_ aX.z|refine aoO ?_ tX.z)|exact HB.z)⟩
-- NOT PRINTED: function 125 (impl_graphCode)
/-! ### F131: function 131 -/
def oM (x:Int):Bool:=x != 1 && x != -1
theorem ae_ (x:Int) (w1:World):Calls Try.prog 203 #[.int .i64 x] w1 fun e w'=>e=.returned (.bool (oM x))∧iR w1 w':=by
 by_cases h1:(x != 1)=true
 case neg =>
  have h2:(x != 1)=false:=by simpa using h1
  have HX:aj (oM x=false):=⟨by unfold oM;rw [h2];rfl⟩
  clear h1
  go_enter Try.func203,Try.ntmps203
  go_wp2
  go_ret
  exact ⟨by rw [HX.z];rfl,dW⟩
 have HX:aj (oM x=(x != -1)):=⟨by unfold oM;rw [h1];rfl⟩
 go_enter Try.func203,Try.ntmps203
 go_wp2
 go_ret
 exact ⟨by rw [HX.z];rfl,dW⟩
theorem ae' (p : Int → Bool) (A : Option Addr) (c : Nat) (l : List Int) (w : World) (hr : Kd.C (Kd.int .i64) w A l.length l)
 (hp:∀ x w1,Below w.heap.size w w1→Calls Try.prog 203 #[.int .i64 x] w1 fun e w'=>e=.returned (.bool (p x))∧Below w1.heap.size w1 w') :
 Calls Try.prog 188 #[.slice A l.length c,.func (.func 203) #[] #[]] w fun e w'=>e=.returned (.int .i64 (idxFrom p l 0))∧Below w.heap.size w w':=by
 have HR:=k0 hr
 have HP:=k0 hp
 have hlen:l.length≤9223372036854775807:=hr.2.1
 clear hr hp
 go_enter Try.func188,Try.ntmps188
 go_wp2_with fail
 go_loopw [8] (fun i wr=>∃ k:Nat,k≤l.length∧i=.int .i64 k∧aj (idxFrom p (l.drop k) k=idxFrom p l 0)∧aj (Below w.heap.size w wr)) (fun i _=>l.length - (intOf i).toNat)
 case atStart=>exact ⟨0,Nat.zero_le _,rfl,⟨by simp⟩,⟨Below.refl _ _⟩⟩
 case round =>
  obtain ⟨k,hk,rfl,HI,HB⟩:=hrel
  by_cases hlt:k < l.length
  case neg =>
   have HD:aj (idxFrom p l 0=-1):=⟨by rw [← HI.z,List.drop_of_length_le (by omega)];rfl⟩
   have hb:decide (k < l.length)=false:=by simp;omega
   go_wp2
   go_ret
   exact ⟨by rw [HD.out];rfl,HB.z⟩
  obtain ⟨ad,e,hcell⟩:=Kd.cN (Kd.ao4 HR.z HB.z) k (by omega) (by omega)
  cases e
  rw [Int.toNat_natCast] at hcell
  cases hpx:p (rd l k) with
  | true =>
   have HD:aj (idxFrom p l 0=k):=⟨by rw [← HI.z,SN p l k hlt,hpx];rfl⟩
   have HX:=k0 hpx
   clear hpx
   go_wp2_with (go_at_call 203;refine (HP.out _ _ HB.z).mono ?_;rw [HX.z];rintro e w' ⟨rfl,gN⟩;have fB:=k0 (aH HB.z gN);clear gN)
   go_ret
   exact ⟨by rw [HD.out];rfl,fB.z⟩
  | false =>
   have HD:aj (idxFrom p (l.drop (k+1)) (k+1)=idxFrom p l 0):=⟨by rw [← HI.z,SN p l k hlt,hpx];rfl⟩
   have HX:=k0 hpx
   clear hpx
   go_wp2_with (go_at_call 203;refine (HP.out _ _ HB.z).mono ?_;rw [HX.z];rintro e w' ⟨rfl,gN⟩;have fB:=k0 (aH HB.z gN);clear gN)
   go_roundw
   case rel=>exact ⟨k+1,by omega,by go_num,HD,fB⟩
   case measure=>simp [intOf];omega
theorem ae9 (p : Int → Bool) (A : Option Addr) (c : Nat) (l : List Int) (w : World) (hr : Kd.C (Kd.int .i64) w A l.length l)
 (hp:∀ x w1,Below w.heap.size w w1→Calls Try.prog 203 #[.int .i64 x] w1 fun e w'=>e=.returned (.bool (p x))∧Below w1.heap.size w1 w') :
 Calls Try.prog 98 #[.slice A l.length c,.func (.func 203) #[] #[]] w fun e w'=>e=.returned (.bool (l.any p))∧Below w.heap.size w w':=by
 have HC:=ae' p A c l w hr hp
 have HX:aj (l.any p=decide (0≤idxFrom p l 0)):=⟨(ada p l 0).symm⟩
 have wT:=k0 HC
 clear HC hr hp
 go_enter Try.func98,Try.ntmps98
 go_wp2_with (go_at_call 188;refine wT.z.mono ?_;rintro e w' ⟨rfl,gN⟩;have fB:=k0 gN;clear gN)
 go_ret
 exact ⟨by rw [HX.z];rfl,fB.z⟩
def aqr.f (ah:Int) (af:List (List Int)) (l1:List Int):Option Bool:=some (decide ((l1.length:Int)=(af.length:Int)) && !(l1.any oM))
theorem aqr.calls (ah : Int) (aT : Option Addr) (aoW : Nat) (af : List (List Int)) (A1 : Option Addr) (c1 : Nat) (l1 : List Int) (r : Bool) (w : World) (cR : Kd.C (Kd.slice 2 (Kd.int .i64)) w aT af.length af) (cX : af.length ≤ aoW) (fY : Kd.C (Kd.int .i64) w A1 l1.length l1) (gi : l1.length ≤ c1) (h : aqr.f ah af l1 = some r) :
  Calls Try.prog 131 #[.agg #[.int .i64 ah,.slice aT af.length aoW],.slice A1 l1.length c1] w fun e w'=>e=.returned (.bool r)∧Below w.heap.size w w':=by
 have HR:=k0 fY
 clear cR fY
 obtain rfl:=Option.some.inj h
 clear h
 by_cases hl:((l1.length:Int) == (af.length:Int))=true
 case neg =>
  have hl':((l1.length:Int) == (af.length:Int))=false:=by simpa using hl
  have HX:aj ((decide ((l1.length:Int)=(af.length:Int)) && !(l1.any oM))=false):=⟨by simp at hl;simp [hl]⟩
  clear hl
  go_enter Try.func131,Try.ntmps131
  go_wp2
  go_ret
  exact ⟨by rw [HX.z];rfl,((Below.refl _ _).alloc (Nat.le_refl _) _)⟩
 have HX:aj ((decide ((l1.length:Int)=(af.length:Int)) && !(l1.any oM))=!(l1.any oM)):=⟨by simp at hl;simp [hl]⟩
 have HC:=fun W h=>ae9 oM A1 c1 l1 W h (fun x w1 _=>(ae_ x w1).mono fun e w' ⟨h1,h2⟩=>⟨h1,h2.below⟩)
 have wT:=k0 HC
 clear HC
 go_enter Try.func131,Try.ntmps131
 go_wp2_with (go_at_call 98;refine (wT.z _ (Kd.wL HR.z _)).mono ?_;rintro e w' ⟨rfl,gN⟩;have fB:=k0 (aH ((Below.refl _ _).alloc (Nat.le_refl _) _) gN);clear gN)
 go_ret
 exact ⟨by rw [HX.z];rfl,fB.z⟩
/-! ### F130: function 130 -/
def aqi.f (k:Nat) (ah:Int) (af:List (List Int)) (cg:Int) (bN:List (List Int)) (l2:List Int):Option Int :=
 (jG.f k ah af).bind fun b=>if b=true then ((aqr.f cg bN l2).bind fun q0=>if q0=true then some 0 else some 2) else some 1
theorem aqi.calls {b1 : Nat} {b2 : Nat} (k : Nat) (ah : Int) (aT : Option Addr) (aoW : Nat) (af : List (List Int)) (cg : Int) (eu : Option Addr) (ey : Nat) (bN : List (List Int)) (A2 : Option Addr) (c2 : Nat) (l2 : List Int) (r : Int) (w : World) (cR : Kd.C (Kd.slice 2 (Kd.int .i64)) w aT af.length af) (cX : af.length ≤ aoW) (qg : Kd.C (Kd.slice 2 (Kd.int .i64)) w eu bN.length bN) (ap0 : bN.length ≤ ey) (su : Kd.C (Kd.int .i64) w A2 l2.length l2) (uC : l2.length ≤ c2) (hb1 : w.heap[b1]? = some (sO cg eu bN ey 31)) (hb2 : w.heap[b2]? = some (.cells #[.slice A2 l2.length c2] 28 (0, 0))) (h : aqi.f k ah af cg bN l2 = some r) :
  Calls Try.prog 125 #[.agg #[.int .i64 ah,.slice aT af.length aoW],.func (.func 130) #[] #[.pointer (some ⟨b1,0,none⟩),.pointer (some ⟨b2,0,none⟩)]] w fun e w'=>e=.returned (.int .i64 r)∧Below w.heap.size w w':=by
 have ek:=k0 cR
 clear cR
 have gq:=k0 qg
 clear qg
 have zx:=k0 su
 clear su
 have apo:=k0 hb1
 have U9:=qH hb1
 clear hb1
 have mX:=k0 hb2
 have U':=qH hb2
 clear hb2
 unfold aqi.f at h
 obtain ⟨b,hb,h⟩:=Option.bind_eq_some_iff.mp h
 have HG:=fun W (hw:Below w.heap.size w W)=>jG.calls k ah aT aoW af b W (Kd.ao4 ek.z hw) cX hb
 have zo:=k0 HG
 clear HG hb
 cases b with
 | false =>
  simp only [Bool.false_eq_true,if_false,Option.some.injEq] at h
  subst h
  go_enter Try.func125,Try.ntmps125
  go_wp2_with (first|(go_at_call 106;refine (zo.out _ (by repeat (first|exact Below.refl _ _|apply a_|apply bf))).mono ?_;rintro e w1 ⟨rfl,hb1⟩;have fQ:=k0 (aH (by repeat (first|exact Below.refl _ _|apply a_|apply bf)) hb1:Below w.heap.size w w1);clear hb1;have Et:w1.cell? ⟨b1,0,none⟩=some (.int .i64 cg):=(fq (cZ apo.z fQ.z) 0).trans rfl;have Ez:=iV (cZ apo.z fQ.z) 0;have Eu:w1.cell? ⟨b1,1,none⟩=some (.slice eu bN.length ey):=(fq (cZ apo.z fQ.z) 1).trans rfl;have EA:=iV (cZ apo.z fQ.z) 1;have aqT:w1.cell? ⟨b2,0,none⟩=some (.slice A2 l2.length c2):=(fq (cZ mX.z fQ.z) 0).trans rfl;have EB:=iV (cZ mX.z fQ.z) 0)|go_in)
  go_ret
  exact ⟨rs,by repeat (first|exact fQ.z|apply a_|apply bf|apply aZ)⟩
 | true =>
  simp only [if_true] at h
  obtain ⟨q0,ES,h⟩:=Option.bind_eq_some_iff.mp h
  have Dl:=fun W (hw:Below w.heap.size w W)=>aqr.calls cg eu ey bN A2 c2 l2 q0 W (Kd.ao4 gq.z hw) ap0 (Kd.ao4 zx.z hw) uC ES
  have Dm:=k0 Dl
  clear Dl ES
  cases q0 with
  | false =>
   simp only [Bool.false_eq_true,if_false,Option.some.injEq] at h
   subst h
   go_enter Try.func125,Try.ntmps125
   go_wp2_with (first|(go_at_call 106;refine (zo.out _ (by repeat (first|exact Below.refl _ _|apply a_|apply bf))).mono ?_;rintro e w1 ⟨rfl,hb1⟩;have fQ:=k0 (aH (by repeat (first|exact Below.refl _ _|apply a_|apply bf)) hb1:Below w.heap.size w w1);clear hb1;have Et:w1.cell? ⟨b1,0,none⟩=some (.int .i64 cg):=(fq (cZ apo.z fQ.z) 0).trans rfl;have Ez:=iV (cZ apo.z fQ.z) 0;have Eu:w1.cell? ⟨b1,1,none⟩=some (.slice eu bN.length ey):=(fq (cZ apo.z fQ.z) 1).trans rfl;have EA:=iV (cZ apo.z fQ.z) 1;have aqT:w1.cell? ⟨b2,0,none⟩=some (.slice A2 l2.length c2):=(fq (cZ mX.z fQ.z) 0).trans rfl;have EB:=iV (cZ mX.z fQ.z) 0)|(go_at_call 131;refine (Dm.out _ (by repeat (first|exact fQ.z|apply a_|apply bf))).mono ?_;rintro e w2 ⟨rfl,gN⟩;have fB:=k0 (aH (by repeat (first|exact fQ.z|apply a_|apply bf)) gN:Below w.heap.size w w2);clear gN;have KX:w2.cell? ⟨b1,0,none⟩=some (.int .i64 cg):=(fq (cZ apo.z fB.z) 0).trans rfl;have Li:=iV (cZ apo.z fB.z) 0;have KY:w2.cell? ⟨b1,1,none⟩=some (.slice eu bN.length ey):=(fq (cZ apo.z fB.z) 1).trans rfl;have Lj:=iV (cZ apo.z fB.z) 1;have KZ:w2.cell? ⟨b2,0,none⟩=some (.slice A2 l2.length c2):=(fq (cZ mX.z fB.z) 0).trans rfl;have Lk:=iV (cZ mX.z fB.z) 0)|go_in)
   go_ret
   exact ⟨rs,by repeat (first|exact fB.z|apply a_|apply bf|apply aZ)⟩
  | true =>
   simp only [if_true] at h
   simp only [Option.some.injEq] at h
   subst h
   go_enter Try.func125,Try.ntmps125
   go_wp2_with (first|(go_at_call 106;refine (zo.out _ (by repeat (first|exact Below.refl _ _|apply a_|apply bf))).mono ?_;rintro e w1 ⟨rfl,hb1⟩;have fQ:=k0 (aH (by repeat (first|exact Below.refl _ _|apply a_|apply bf)) hb1:Below w.heap.size w w1);clear hb1;have Et:w1.cell? ⟨b1,0,none⟩=some (.int .i64 cg):=(fq (cZ apo.z fQ.z) 0).trans rfl;have Ez:=iV (cZ apo.z fQ.z) 0;have Eu:w1.cell? ⟨b1,1,none⟩=some (.slice eu bN.length ey):=(fq (cZ apo.z fQ.z) 1).trans rfl;have EA:=iV (cZ apo.z fQ.z) 1;have aqT:w1.cell? ⟨b2,0,none⟩=some (.slice A2 l2.length c2):=(fq (cZ mX.z fQ.z) 0).trans rfl;have EB:=iV (cZ mX.z fQ.z) 0)|(go_at_call 131;refine (Dm.out _ (by repeat (first|exact fQ.z|apply a_|apply bf))).mono ?_;rintro e w2 ⟨rfl,gN⟩;have fB:=k0 (aH (by repeat (first|exact fQ.z|apply a_|apply bf)) gN:Below w.heap.size w w2);clear gN;have KX:w2.cell? ⟨b1,0,none⟩=some (.int .i64 cg):=(fq (cZ apo.z fB.z) 0).trans rfl;have Li:=iV (cZ apo.z fB.z) 0;have KY:w2.cell? ⟨b1,1,none⟩=some (.slice eu bN.length ey):=(fq (cZ apo.z fB.z) 1).trans rfl;have Lj:=iV (cZ apo.z fB.z) 1;have KZ:w2.cell? ⟨b2,0,none⟩=some (.slice A2 l2.length c2):=(fq (cZ mX.z fB.z) 0).trans rfl;have Lk:=iV (cZ mX.z fB.z) 0)|go_in)
   go_ret
   exact ⟨rs,by repeat (first|exact fB.z|apply a_|apply bf|apply aZ)⟩
end Go.Proofs.Ytoebojnhchocaaa.E
/- Set with little white space, by a program. -/
