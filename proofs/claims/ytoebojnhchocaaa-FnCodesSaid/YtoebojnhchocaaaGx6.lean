/- The functions that one law reaches, each as a Lean function, and that Go's call comes to what it says. Condition of each: that the Lean function answers (is not none). -/
import Derived.Test.YtoebojnhchocaaaGx0
import Derived.Test.YtoebojnhchocaaaGx1
import Derived.Test.YtoebojnhchocaaaGx2
import Derived.Test.YtoebojnhchocaaaGx3
import Derived.Test.YtoebojnhchocaaaGx5
namespace Go.Proofs.Ytoebojnhchocaaa.G
open Go.RowKit Go.Proofs.cx.fq Go.Proofs.cx.jX Go.Proofs.cx.lu
attribute [local go_sem] max2_int min2_int max_two min_two max_three min_three max_four min_four   -- for this text's walks alone
set_option linter.unusedVariables false
set_option linter.unusedSimpArgs false
set_option maxHeartbeats 8000000
set_option maxRecDepth 100000
/-! ### F198: function 198 -/
def qx.f (k:Nat) (anK:List Int) (cD:Int) (cI:Int):Option (Int × (List (List Int)) × Int × Int):=(dn.f anK cD cI 4).bind fun cO=>(if cO.1=0 then ((vE.f).bind fun t105=>((dn.f anK cO.2.1 cO.2.2 (t105.length:Int)).bind fun gF=>(if 0≤gF.1 then (if gF.1 < (t105.length:Int) then ((ng.f k (eB ByteArray.empty t105 gF.1)).bind fun fD=>(some (fD.1,fD.2.1,gF.2.1,gF.2.2))) else (none)) else (none)))) else ((dn.f anK cO.2.1 cO.2.2 8).bind fun r5=>((kR.f anK r5.2.1 r5.2.2 (([1,2,3,3,4,4,5,6,wrap64 (1+r5.1)]:List Int))).bind fun mO=>((kR.f anK mO.2.1 mO.2.2 (([2,4,6,6,8,10]:List Int))).bind fun eg=>((bV.f k anK eg.2.1 eg.2.2 mO.1 eg.1).bind fun an0=>(some (an0.1,an0.2.1,an0.2.2.1,an0.2.2.2)))))))
theorem qx.mono:∀ a0 a1 a2 k,ag (qx.f k a0 a1 a2) (qx.f (k+1) a0 a1 a2):=by
 intro a0 a1 a2 k
 unfold qx.f
 repeat' first
  | (with_reducible first|exact bV.mono _ _ _ _ _ _|exact ng.mono _ _|exact ag.refl _|exact ag.none _|refine ag.ite ?_ ?_|refine ag.bind ?_ (fun _=>?_))
  | exact bV.mono _ _ _ _ _ _|exact ng.mono _ _|exact ag.none _|refine ag.ite ?_ ?_|refine ag.bind ?_ (fun _=>?_)
theorem qx.calls (k : Nat) (g : Nat) (anK : List Int) (cD : Int) (cI : Int) (r1 : Int) (r2 : List (List Int)) (r3 : Int) (r4 : Int) (w0 w : World) (hI : af w0 w g anK cD cI) (hB : Below w0.heap.size w0 w) (h : qx.f k anK cD cI = some (r1, r2, r3, r4)) :
  Calls Try.prog 198 #[.pointer (some ⟨g,0,none⟩)] w fun e w'=>∃ iw:Value,e=.returned (.agg #[.int .i64 r1,iw])∧Kd.S (Kd.slice 2 (Kd.int .i64)) 28 w' w.heap.size (fun _=>True) iw r2∧af w0 w' g anK r3 r4∧Below w0.heap.size w0 w'∧aM w w' g none:=by
 have jS:=Try.underlying31
 have aj:=k0 hI
 have HK:=k0 (aM.refl w g none)
 have HL:=k0 hB.size
 clear hI
 have ki:=k0 hB.size
 have HB:=k0 hB
 clear hB
 have H:((dn.f anK cD cI 4).bind fun cO=>(if cO.1=0 then ((vE.f).bind fun t105=>((dn.f anK cO.2.1 cO.2.2 (t105.length:Int)).bind fun gF=>(if 0≤gF.1 then (if gF.1 < (t105.length:Int) then ((ng.f k (eB ByteArray.empty t105 gF.1)).bind fun fD=>(some (fD.1,fD.2.1,gF.2.1,gF.2.2))) else (none)) else (none)))) else ((dn.f anK cO.2.1 cO.2.2 8).bind fun r5=>((kR.f anK r5.2.1 r5.2.2 (([1,2,3,3,4,4,5,6,wrap64 (1+r5.1)]:List Int))).bind fun mO=>((kR.f anK mO.2.1 mO.2.2 (([2,4,6,6,8,10]:List Int))).bind fun eg=>((bV.f k anK eg.2.1 eg.2.2 mO.1 eg.1).bind fun an0=>(some (an0.1,an0.2.1,an0.2.2.1,an0.2.2.2))))))))=some (r1,r2,r3,r4):=h
 clear h
 replace H:=Option.bind_eq_some_iff.mp H
 obtain ⟨⟨t102,t103,t104⟩,eD,H⟩:=H
 replace H:(if t102=0 then ((vE.f).bind fun t105=>((dn.f anK t103 t104 (t105.length:Int)).bind fun gF=>(if 0≤gF.1 then (if gF.1 < (t105.length:Int) then ((ng.f k (eB ByteArray.empty t105 gF.1)).bind fun fD=>(some (fD.1,fD.2.1,gF.2.1,gF.2.2))) else (none)) else (none)))) else ((dn.f anK t103 t104 8).bind fun r5=>((kR.f anK r5.2.1 r5.2.2 (([1,2,3,3,4,4,5,6,wrap64 (1+r5.1)]:List Int))).bind fun mO=>((kR.f anK mO.2.1 mO.2.2 (([2,4,6,6,8,10]:List Int))).bind fun eg=>((bV.f k anK eg.2.1 eg.2.2 mO.1 eg.1).bind fun an0=>(some (an0.1,an0.2.1,an0.2.2.1,an0.2.2.2)))))))=some (r1,r2,r3,r4):=H
 have A2:=k0 eD
 clear eD
 by_cases c3:t102=0
 case neg =>
  rw [if_neg c3] at H
  have jZ:(t102 == 0)=false:=beq_eq_false_iff_ne.mpr c3
  have uy:(t102 != 0)=true:=bne_iff_ne.mpr c3
  replace H:=Option.bind_eq_some_iff.mp H
  obtain ⟨⟨t118,t119,t120⟩,vv,H⟩:=H
  replace H:((kR.f anK t119 t120 (([1,2,3,3,4,4,5,6,wrap64 (1+t118)]:List Int))).bind fun mO=>((kR.f anK mO.2.1 mO.2.2 (([2,4,6,6,8,10]:List Int))).bind fun eg=>((bV.f k anK eg.2.1 eg.2.2 mO.1 eg.1).bind fun an0=>(some (an0.1,an0.2.1,an0.2.2.1,an0.2.2.2)))))=some (r1,r2,r3,r4):=H
  have vu:=k0 vv
  clear vv
  obtain ⟨vq,yp⟩:∃ y_:List Int,y_=(([1,2,3,3,4,4,5,6,wrap64 (1+t118)]:List Int)):=⟨_,rfl⟩
  replace H:((kR.f anK t119 t120 vq).bind fun mO=>((kR.f anK mO.2.1 mO.2.2 (([2,4,6,6,8,10]:List Int))).bind fun eg=>((bV.f k anK eg.2.1 eg.2.2 mO.1 eg.1).bind fun an0=>(some (an0.1,an0.2.1,an0.2.2.1,an0.2.2.2)))))=some (r1,r2,r3,r4):=rH yp H
  have BN:=k0 yp
  clear yp
  replace H:=Option.bind_eq_some_iff.mp H
  obtain ⟨⟨t124,t125,t126⟩,vw,H⟩:=H
  replace H:((kR.f anK t125 t126 (([2,4,6,6,8,10]:List Int))).bind fun eg=>((bV.f k anK eg.2.1 eg.2.2 t124 eg.1).bind fun an0=>(some (an0.1,an0.2.1,an0.2.2.1,an0.2.2.2))))=some (r1,r2,r3,r4):=H
  have zv:=k0 vw
  clear vw
  obtain ⟨L4,Ko⟩:∃ y_:List Int,y_=(([2,4,6,6,8,10]:List Int)):=⟨_,rfl⟩
  replace H:((kR.f anK t125 t126 L4).bind fun eg=>((bV.f k anK eg.2.1 eg.2.2 t124 eg.1).bind fun an0=>(some (an0.1,an0.2.1,an0.2.2.1,an0.2.2.2))))=some (r1,r2,r3,r4):=rH Ko H
  have NT:=k0 Ko
  clear Ko
  replace H:=Option.bind_eq_some_iff.mp H
  obtain ⟨⟨t130,t131,t132⟩,vA,H⟩:=H
  replace H:((bV.f k anK t131 t132 t124 t130).bind fun an0=>(some (an0.1,an0.2.1,an0.2.2.1,an0.2.2.2)))=some (r1,r2,r3,r4):=H
  have vz:=k0 vA
  clear vA
  replace H:=Option.bind_eq_some_iff.mp H
  obtain ⟨⟨t133,t134,t137,t138⟩,Bj,H⟩:=H
  replace H:(some (t133,t134,t137,t138))=some (r1,r2,r3,r4):=H
  have Eg:=k0 Bj
  clear Bj
  simp only [Option.some.injEq,Prod.mk.injEq] at H
  obtain ⟨rfl,rfl,rfl,rfl⟩:=H
  go_enter Try.func198,Try.ntmps198
  go_wp2_with (first|((with_reducible refine bN (N:=2) rfl ?_);refine cE 2 #[.int .i64 0,.slice none 0 0] 31 ?_;intro aW hg zg aG hb;replace HB:=k0 (anH (by repeat (first|(with_reducible first|exact HB.z|apply bn|apply bq|apply anS|refine az ?_ (af.ge aj.z))|exact HB.z)) hb);have aa:=k0 (aG);have cu:=gW hg (ew (aK HK.z));have anQ:=k0 (Nat.le_trans ki.z cu.z);replace HK:=k0 (aM.trans (aK HK.z) (aM.gy hb g none) (.inl rfl));have eV:=k0 ((by rw [hg];exact Nat.ne_of_lt (af.lt (show af w0 _ g anK cD cI from bB aj.z)):g ≠ aW));have eW:=k0 ((by rw [hg];exact Nat.ne_of_gt (af.lt (show af w0 _ g anK cD cI from bB aj.z)):aW ≠ g));replace aj:=k0 (af.below (bB aj.z) hb);clear hb aG hg)|((with_reducible refine bS (f:=112) rfl ?_);refine gC (some 7) Try.func112 #[.pointer (some ⟨g,0,none⟩),.int .i64 4] ?_;(with_reducible refine (dn.calls g anK cD cI 4 t102 t103 t104 w0 _ ?aA ?anD A2.z).mono ?_);(case aA=>repeat (first|(with_reducible first|exact aj.z|apply af.alloc|apply af.drewN|apply af.drew|apply af.gq|apply af.gu|refine af.dM ?_ eV.z _)|exact aj.z));(case anD=>repeat (first|(with_reducible first|exact HB.z|apply bn|apply bq|apply anS|refine az ?_ (af.ge aj.z)|refine az ?_ anQ.z)|exact HB.z));rintro e Gs ⟨rfl,hi,hb,hk⟩;refine ⟨_,rfl,?_⟩;replace aa:=k0 (aM.blk hk (aB aa.z) eW.z (by simp));replace HK:=k0 (aM.trans (aK HK.z) hk (.inl rfl));replace HB:=k0 (hb);replace aj:=k0 (hi);)|((with_reducible refine bS (f:=112) rfl ?_);refine gC (some 25) Try.func112 #[.pointer (some ⟨g,0,none⟩),.int .i64 8] ?_;(with_reducible refine (dn.calls g anK t103 t104 8 t118 t119 t120 w0 _ ?aA ?anD vu.z).mono ?_);(case aA=>repeat (first|(with_reducible first|exact aj.z|apply af.alloc|apply af.drewN|apply af.drew|apply af.gq|apply af.gu|refine af.dM ?_ eV.z _)|exact aj.z));(case anD=>repeat (first|(with_reducible first|exact HB.z|apply bn|apply bq|apply anS|refine az ?_ (af.ge aj.z)|refine az ?_ anQ.z)|exact HB.z));rintro e Gt ⟨rfl,hi,hb,hk⟩;refine ⟨_,rfl,?_⟩;replace aa:=k0 (aM.blk hk (aB aa.z) eW.z (by simp));replace HK:=k0 (aM.trans (aK HK.z) hk (.inl rfl));replace HB:=k0 (hb);replace aj:=k0 (hi);)|((with_reducible refine bN (N:=27) rfl ?_);refine Kd.jd (Kd.int .i64) _ 2 ?hg (N:=27) ?hd (xs:=([1,2,3,3,4,4,5,6,wrap64 (1+t118)]:List Int)) (inner:=[.int .i64 1,.int .i64 2,.int .i64 3,.int .i64 3,.int .i64 4,.int .i64 4,.int .i64 5,.int .i64 6,.int .i64 (wrap64 (1+t118))]) (ok:=fun _=>True) (anX:=fun _=>True) ?hr ?hp (fun _ hk=>hk) trivial (Below.refl _ _) (Nat.le_refl _) (by simp) ?_;(case hd=>rfl);(case hg=>rfl);(case hr=>first|(go_simp;done)|(go_simp;rfl));(case hp=>exact (bu.one (show Kd.M (Kd.int .i64) _ _ _ 1 [.int .i64 1] from rfl) (bu.one (show Kd.M (Kd.int .i64) _ _ _ 2 [.int .i64 2] from rfl) (bu.one (show Kd.M (Kd.int .i64) _ _ _ 3 [.int .i64 3] from rfl) (bu.one (show Kd.M (Kd.int .i64) _ _ _ 3 [.int .i64 3] from rfl) (bu.one (show Kd.M (Kd.int .i64) _ _ _ 4 [.int .i64 4] from rfl) (bu.one (show Kd.M (Kd.int .i64) _ _ _ 4 [.int .i64 4] from rfl) (bu.one (show Kd.M (Kd.int .i64) _ _ _ 5 [.int .i64 5] from rfl) (bu.one (show Kd.M (Kd.int .i64) _ _ _ 6 [.int .i64 6] from rfl) (bu.one (show Kd.M (Kd.int .i64) _ _ _ (wrap64 (1+t118)) [.int .i64 (wrap64 (1+t118))] from rfl) (bu.none _ _)))))))))));intro lJ DZ Dg hb c_ dc;clear c_ dc;(first|rw [← BN.z] at Dg|(simp only [Int.reduceToNat] at Dg;rw [← BN.z] at Dg));have eu:=k0 (Kd.cH Dg (ew (aK HK.z)));replace aa:=kB aa hb;replace HK:=k0 (aM.trans (aK HK.z) (aM.gy hb g none) (.inl rfl));replace HB:=k0 (anH (by repeat (first|(with_reducible first|exact HB.z|apply bn|apply bq|apply anS|refine az ?_ (af.ge aj.z)|refine az ?_ anQ.z)|exact HB.z)) hb);replace aj:=k0 (af.below (bB aj.z) hb);clear hb Dg;obtain ⟨qX,rq,xL⟩:=Kd.cK eu.z;subst xL)|((with_reducible refine bS (f:=202) rfl ?_);refine gC (some 28) Try.func202 #[.pointer (some ⟨g,0,none⟩),.slice qX vq.length rq] ?_;(with_reducible refine (kR.calls g anK t119 t120 _ _ vq t124 t125 t126 w0 _ ?aA ?anD ?cP ?dB ?u_ zv.z).mono ?_);(case aA=>repeat (first|(with_reducible first|exact aj.z|apply af.alloc|apply af.drewN|apply af.drew|apply af.gq|apply af.gu|refine af.dM ?_ eV.z _)|exact aj.z));(case anD=>repeat (first|(with_reducible first|exact HB.z|apply bn|apply bq|apply anS|refine az ?_ (af.ge aj.z)|refine az ?_ anQ.z)|exact HB.z));(case cP=>exact aC ((Kd.anT eu.z).2.2));(case dB=>exact (Kd.anT eu.z).2.1);(case u_=>exact I8 (af.wH aj.z eu.z (by decide)));rintro e Gu ⟨rfl,hi,hb,hk⟩;refine ⟨_,rfl,?_⟩;replace aa:=k0 (aM.blk hk (aB aa.z) eW.z (by simp));replace eu:=k0 (Kd.aT (Kd.xm (af.apart (show af w0 _ g anK t119 t120 from bB aj.z) (aR eu.z) (by decide)) hk (fun _ h=>h.2)) (fun _ h=>h.1));replace HK:=k0 (aM.trans (aK HK.z) hk (.inl rfl));replace HB:=k0 (hb);replace aj:=k0 (hi);)|((with_reducible refine bN (N:=30) rfl ?_);refine Kd.jd (Kd.int .i64) _ 2 ?hg (N:=30) ?hd (xs:=([2,4,6,6,8,10]:List Int)) (inner:=[.int .i64 2,.int .i64 4,.int .i64 6,.int .i64 6,.int .i64 8,.int .i64 10]) (ok:=fun _=>True) (anX:=fun _=>True) ?hr ?hp (fun _ hk=>hk) trivial (Below.refl _ _) (Nat.le_refl _) (by simp) ?_;(case hd=>rfl);(case hg=>rfl);(case hr=>first|(go_simp;done)|(go_simp;rfl));(case hp=>exact (bu.one (show Kd.M (Kd.int .i64) _ _ _ 2 [.int .i64 2] from rfl) (bu.one (show Kd.M (Kd.int .i64) _ _ _ 4 [.int .i64 4] from rfl) (bu.one (show Kd.M (Kd.int .i64) _ _ _ 6 [.int .i64 6] from rfl) (bu.one (show Kd.M (Kd.int .i64) _ _ _ 6 [.int .i64 6] from rfl) (bu.one (show Kd.M (Kd.int .i64) _ _ _ 8 [.int .i64 8] from rfl) (bu.one (show Kd.M (Kd.int .i64) _ _ _ 10 [.int .i64 10] from rfl) (bu.none _ _))))))));intro TD LV AF hb c_ dc;clear c_ dc;(first|rw [← NT.z] at AF|(simp only [Int.reduceToNat] at AF;rw [← NT.z] at AF));have aoO:=k0 (Kd.cH (Kd.cR AF (Kd.bK (aR eu.z))) (ew (aK HK.z)));replace eu:=k0 (Kd.cQ (aR eu.z) (Kd.aU AF) hb);replace aa:=kB aa hb;replace HK:=k0 (aM.trans (aK HK.z) (aM.gy hb g none) (.inl rfl));replace HB:=k0 (anH (by repeat (first|(with_reducible first|exact HB.z|apply bn|apply bq|apply anS|refine az ?_ (af.ge aj.z)|refine az ?_ anQ.z)|exact HB.z)) hb);replace aj:=k0 (af.below (bB aj.z) hb);clear hb AF;obtain ⟨tZ,uA,xM⟩:=Kd.cK aoO.z;subst xM)|((with_reducible refine bS (f:=202) rfl ?_);refine gC (some 31) Try.func202 #[.pointer (some ⟨g,0,none⟩),.slice tZ L4.length uA] ?_;(with_reducible refine (kR.calls g anK t125 t126 _ _ L4 t130 t131 t132 w0 _ ?aA ?anD ?cP ?dB ?u_ vz.z).mono ?_);(case aA=>repeat (first|(with_reducible first|exact aj.z|apply af.alloc|apply af.drewN|apply af.drew|apply af.gq|apply af.gu|refine af.dM ?_ eV.z _)|exact aj.z));(case anD=>repeat (first|(with_reducible first|exact HB.z|apply bn|apply bq|apply anS|refine az ?_ (af.ge aj.z)|refine az ?_ anQ.z)|exact HB.z));(case cP=>exact aC ((Kd.anT aoO.z).2.2));(case dB=>exact (Kd.anT aoO.z).2.1);(case u_=>exact I8 (af.wH aj.z aoO.z (by decide)));rintro e TX ⟨rfl,hi,hb,hk⟩;refine ⟨_,rfl,?_⟩;replace aa:=k0 (aM.blk hk (aB aa.z) eW.z (by simp));replace eu:=k0 (Kd.aT (Kd.xm (af.apart (show af w0 _ g anK t125 t126 from bB aj.z) (aR eu.z) (by decide)) hk (fun _ h=>h.2)) (fun _ h=>h.1));replace aoO:=k0 (Kd.aT (Kd.xm (af.apart (show af w0 _ g anK t125 t126 from bB aj.z) (aR aoO.z) (by decide)) hk (fun _ h=>h.2)) (fun _ h=>h.1));replace HK:=k0 (aM.trans (aK HK.z) hk (.inl rfl));replace HB:=k0 (hb);replace aj:=k0 (hi);)|((with_reducible refine bS (f:=113) rfl ?_);refine gC (some 32) Try.func113 #[.pointer (some ⟨g,0,none⟩),.int .i64 t124,.int .i64 t130] ?_;(with_reducible refine (bV.calls k g anK t131 t132 t124 t130 t133 t134 t137 t138 w0 _ ?aA ?anD Eg.z).mono ?_);(case aA=>repeat (first|(with_reducible first|exact aj.z|apply af.alloc|apply af.drewN|apply af.drew|apply af.gq|apply af.gu|refine af.dM ?_ eV.z _)|exact aj.z));(case anD=>repeat (first|(with_reducible first|exact HB.z|apply bn|apply bq|apply anS|refine az ?_ (af.ge aj.z)|refine az ?_ anQ.z)|exact HB.z));rintro e TY ⟨ang,rfl,aq,hi,hb,hk⟩;refine ⟨_,rfl,?_⟩;replace aa:=k0 (aM.blk hk (aB aa.z) eW.z (by simp));have Ns:=k0 (Kd.gD (Kd.jy (Kd.jy aq (Kd.bK (aR eu.z))) (Kd.bK (aR aoO.z))) (ew (aK HK.z)));replace eu:=k0 (Kd.aT (Kd.xm (af.apart (show af w0 _ g anK t131 t132 from bB aj.z) (aR eu.z) (by decide)) hk (fun _ h=>h.2)) (fun _ h=>h.1));replace aoO:=k0 (Kd.aT (Kd.xm (af.apart (show af w0 _ g anK t131 t132 from bB aj.z) (aR aoO.z) (by decide)) hk (fun _ h=>h.2)) (fun _ h=>h.1));replace HK:=k0 (aM.trans (aK HK.z) hk (.inl rfl));replace HB:=k0 (hb);replace aj:=k0 (hi);have RD:=eW.z;have RV:=eV.z;have aaR:=aX aa;have aaS:=aY aa;have abu:=bF aa 0;have abv:=bF aa 1;obtain ⟨zB,Aq,I3⟩:=Kd.eH Ns.z;subst I3))
  refine bodyPost_ret (results_cell_row rfl _ _ aW 31 #[.int .i64 t133,.slice zB t134.length Aq] (0,0) _ rfl (by (with_reducible repeat (first|refine anF ?_ _|refine aH ?_|refine aI ?_ _));refine anV (cs:=#[.int .i64 t133,.slice none 0 0]) ?_ 1 _ rfl;(with_reducible repeat (first|refine anF ?_ _|refine aH ?_|refine aI ?_ _));refine anV (cs:=#[.int .i64 0,.slice none 0 0]) ?_ 0 _ rfl;exact bk) Try.underlying31 rfl (by kernel_rfl)) rfl ?_
  exact ⟨_,eR,by (with_reducible repeat (first|apply Kd.di|apply Kd.dm|apply Kd.cS));exact Kd.anW (gS 1 (.slice zB t134.length Aq) (gS 0 (.int .i64 t133) (tS Ns aa))) (fun _ hk=>trivial),bB aj.z,by repeat (first|(with_reducible first|exact HB.z|apply bn|apply bq|apply anS|refine az ?_ (af.ge aj.z)|refine az ?_ anQ.z)|exact HB.z),aK HK.z⟩
 rw [if_pos c3] at H
 have jZ:(t102 == 0)=true:=beq_iff_eq.mpr c3
 have uy:(t102 != 0)=false:=bne_eq_false_iff_eq.mpr c3
 clear c3
 replace H:=Option.bind_eq_some_iff.mp H
 obtain ⟨t105,jt,H⟩:=H
 replace H:((dn.f anK t103 t104 (t105.length:Int)).bind fun gF=>(if 0≤gF.1 then (if gF.1 < (t105.length:Int) then ((ng.f k (eB ByteArray.empty t105 gF.1)).bind fun fD=>(some (fD.1,fD.2.1,gF.2.1,gF.2.2))) else (none)) else (none)))=some (r1,r2,r3,r4):=H
 have A4:=k0 jt
 clear jt
 replace H:=Option.bind_eq_some_iff.mp H
 obtain ⟨⟨t108,t109,t110⟩,aox,H⟩:=H
 replace H:(if 0≤t108 then (if t108 < (t105.length:Int) then ((ng.f k (eB ByteArray.empty t105 t108)).bind fun fD=>(some (fD.1,fD.2.1,t109,t110))) else (none)) else (none))=some (r1,r2,r3,r4):=H
 have A5:=k0 aox
 clear aox
 replace H:=iS H;obtain ⟨c6,H⟩:=H
 have iD:=decide_eq_true c6
 clear c6
 replace H:=iS H;obtain ⟨c7,H⟩:=H
 have o7:=decide_eq_true c7
 clear c7
 replace H:=Option.bind_eq_some_iff.mp H
 obtain ⟨⟨t112,t113,t116⟩,Bl,H⟩:=H
 replace H:(some (t112,t113,t109,t110))=some (r1,r2,r3,r4):=H
 have A8:=k0 Bl
 clear Bl
 simp only [Option.some.injEq,Prod.mk.injEq] at H
 obtain ⟨rfl,rfl,rfl,rfl⟩:=H
 go_enter Try.func198,Try.ntmps198
 go_wp2_with (first|((with_reducible refine bN (N:=2) rfl ?_);refine cE 2 #[.int .i64 0,.slice none 0 0] 31 ?_;intro aW hg w9 aG hb;replace HB:=k0 (anH (by repeat (first|(with_reducible first|exact HB.z|apply bn|apply bq|apply anS|refine az ?_ (af.ge aj.z))|exact HB.z)) hb);have aa:=k0 (aG);have cu:=gW hg (ew (aK HK.z));have anQ:=k0 (Nat.le_trans ki.z cu.z);replace HK:=k0 (aM.trans (aK HK.z) (aM.gy hb g none) (.inl rfl));have eV:=k0 ((by rw [hg];exact Nat.ne_of_lt (af.lt (show af w0 _ g anK cD cI from bB aj.z)):g ≠ aW));have eW:=k0 ((by rw [hg];exact Nat.ne_of_gt (af.lt (show af w0 _ g anK cD cI from bB aj.z)):aW ≠ g));replace aj:=k0 (af.below (bB aj.z) hb);clear hb aG hg)|((with_reducible refine bS (f:=112) rfl ?_);refine gC (some 7) Try.func112 #[.pointer (some ⟨g,0,none⟩),.int .i64 4] ?_;(with_reducible refine (dn.calls g anK cD cI 4 t102 t103 t104 w0 _ ?aA ?anD A2.z).mono ?_);(case aA=>repeat (first|(with_reducible first|exact aj.z|apply af.alloc|apply af.drewN|apply af.drew|apply af.gq|apply af.gu|refine af.dM ?_ eV.z _)|exact aj.z));(case anD=>repeat (first|(with_reducible first|exact HB.z|apply bn|apply bq|apply anS|refine az ?_ (af.ge aj.z)|refine az ?_ anQ.z)|exact HB.z));rintro e qN ⟨rfl,hi,hb,hk⟩;refine ⟨_,rfl,?_⟩;replace aa:=k0 (aM.blk hk (aB aa.z) eW.z (by simp));replace HK:=k0 (aM.trans (aK HK.z) hk (.inl rfl));replace HB:=k0 (hb);replace aj:=k0 (hi);)|((with_reducible refine bS (f:=232) rfl ?_);refine gC (some 9) Try.func232 #[] ?_;(with_reducible refine (vE.calls  t105 _ A4.z).mono ?_);rintro e TG ⟨jm,rfl,aq,hb⟩;refine ⟨_,rfl,?_⟩;have jv:=k0 (Kd.cH aq (ew (aK HK.z)));replace aa:=kB aa hb;replace HK:=k0 (aM.trans (aK HK.z) (aM.gy hb g none) (.inl rfl));replace HB:=k0 (anH (by repeat (first|(with_reducible first|exact HB.z|apply bn|apply bq|apply anS|refine az ?_ (af.ge aj.z)|refine az ?_ anQ.z)|exact HB.z)) hb);replace aj:=k0 (af.below (bB aj.z) hb);obtain ⟨Us,OP,IX⟩:=Kd.cK jv.z;subst IX)|((with_reducible refine bS (f:=112) rfl ?_);refine gC (some 15) Try.func112 #[.pointer (some ⟨g,0,none⟩),.int .i64 (t105.length:Int)] ?_;(with_reducible refine (dn.calls g anK t103 t104 (t105.length:Int) t108 t109 t110 w0 _ ?aA ?anD A5.z).mono ?_);(case aA=>repeat (first|(with_reducible first|exact aj.z|apply af.alloc|apply af.drewN|apply af.drew|apply af.gq|apply af.gu|refine af.dM ?_ eV.z _)|exact aj.z));(case anD=>repeat (first|(with_reducible first|exact HB.z|apply bn|apply bq|apply anS|refine az ?_ (af.ge aj.z)|refine az ?_ anQ.z)|exact HB.z));rintro e wP ⟨rfl,hi,hb,hk⟩;refine ⟨_,rfl,?_⟩;replace aa:=k0 (aM.blk hk (aB aa.z) eW.z (by simp));replace jv:=k0 (Kd.aT (Kd.xm (af.apart (show af w0 _ g anK t103 t104 from bB aj.z) (aR jv.z) (by decide)) hk (fun _ h=>h.2)) (fun _ h=>h.1));replace HK:=k0 (aM.trans (aK HK.z) hk (.inl rfl));replace HB:=k0 (hb);replace aj:=k0 (hi);have oL:0≤(t108:Int):=oD;have oM:t108 < (t105.length:Int):=oD;obtain ⟨Ac,e111,oH⟩:=Kd.vW (Kd.anT jv.z).2.2 t108 oL oM;cases e111;replace oL:=eq_true oL;replace oM:=eq_true oM)|((with_reducible refine bS (f:=233) rfl ?_);refine gC (some 18) Try.func233 #[.string (eB ByteArray.empty t105 t108)] ?_;(with_reducible refine (ng.calls k (eB ByteArray.empty t105 t108) t112 t113 t116 _ A8.z).mono ?_);rintro e Gp ⟨TA,rfl,aq,hb⟩;refine ⟨_,rfl,?_⟩;replace jv:=k0 (Kd.dg (aR jv.z) hb);have nk:=k0 (Kd.gD aq (ew (aK HK.z)));replace aa:=kB aa hb;replace HK:=k0 (aM.trans (aK HK.z) (aM.gy hb g none) (.inl rfl));replace HB:=k0 (anH (by repeat (first|(with_reducible first|exact HB.z|apply bn|apply bq|apply anS|refine az ?_ (af.ge aj.z)|refine az ?_ anQ.z)|exact HB.z)) hb);replace aj:=k0 (af.below (bB aj.z) hb);)|((with_reducible refine bN (N:=4) rfl ?_);refine cE 4 #[.int .i64 0,.slice none 0 0] 31 ?_;intro E9 hg apE aG hb;replace jv:=k0 (Kd.dg (aR jv.z) hb);replace nk:=k0 (Kd.kn (aS nk.z) hb);replace HB:=k0 (anH (by repeat (first|(with_reducible first|exact HB.z|apply bn|apply bq|apply anS|refine az ?_ (af.ge aj.z)|refine az ?_ anQ.z)|exact HB.z)) hb);have Br:=k0 (aG);have U6:=gW hg (ew (aK HK.z));have UX:=k0 (Nat.le_trans ki.z U6.z);replace HK:=k0 (aM.trans (aK HK.z) (aM.gy hb g none) (.inl rfl));have EA:=nL hg aa;have V8:=nG EA;replace aa:=kB aa hb;have V5:=k0 ((by rw [hg];exact Nat.ne_of_lt (af.lt (show af w0 _ g anK t109 t110 from bB aj.z)):g ≠ E9));have V7:=k0 ((by rw [hg];exact Nat.ne_of_gt (af.lt (show af w0 _ g anK t109 t110 from bB aj.z)):E9 ≠ g));replace aj:=k0 (af.below (bB aj.z) hb);clear hb aG hg;have Rp:=V8.z;have RJ:=EA.z;have Fu:=V7.z;have Fv:=V5.z;have Qk:=aX Br;have Ql:=aY Br;have QI:=bF Br 0;have QJ:=bF Br 1;obtain ⟨zz,we,tG⟩:=Kd.eH nk.z;subst tG;have ala:=eW.z;have al7:=eV.z;have Qm:=aX aa;have Qn:=aY aa;have QK:=bF aa 0;have QL:=bF aa 1))
 refine bodyPost_ret (results_cell_row rfl _ _ aW 31 #[.int .i64 t112,.slice zz t113.length we] (0,0) _ rfl (by (with_reducible repeat (first|refine anF ?_ _|refine aH ?_|refine aI ?_ _));refine anV (cs:=#[.int .i64 t112,.slice none 0 0]) ?_ 1 _ rfl;(with_reducible repeat (first|refine anF ?_ _|refine aH ?_|refine aI ?_ _));refine anV (cs:=#[.int .i64 0,.slice none 0 0]) ?_ 0 _ rfl;(with_reducible repeat (first|refine anF ?_ _|refine aH ?_|refine aI ?_ _));refine anU ?_ EA.z _;(with_reducible repeat (first|refine anF ?_ _|refine aH ?_|refine aI ?_ _));refine anU ?_ EA.z _;exact bk) Try.underlying31 rfl (by kernel_rfl)) rfl ?_
 exact ⟨_,eR,by (with_reducible repeat (first|apply Kd.di|apply Kd.dm|apply Kd.cS));exact Kd.anW (Kd.oC (p:=⟨aW,1,none⟩) (Kd.oC (p:=⟨aW,0,none⟩) (Kd.oC (p:=⟨E9,1,none⟩) (Kd.oC (p:=⟨E9,0,none⟩) (Kd.xu (tS nk Br) aa.z (by decide)) (fun _ hk=>hk.1.2) (.int .i64 t112)) (fun _ hk=>hk.1.2) (.slice zz t113.length we)) (fun _ hk=>hk.2) (.int .i64 t112)) (fun _ hk=>hk.2) (.slice zz t113.length we)) (fun _ hk=>trivial),bB aj.z,by repeat (first|(with_reducible first|exact HB.z|apply bn|apply bq|apply anS|refine az ?_ (af.ge aj.z)|refine az ?_ anQ.z|refine az ?_ UX.z)|exact HB.z),aK HK.z⟩
/-! ### F111: function 111 -/
def jO.f (k:Nat) (anK:List Int) (cD:Int) (cI:Int):Option (Int × (List (List Int)) × Int × Int):=(qx.f k anK cD cI).bind fun cO=>((fQ.f k anK cO.2.2.1 cO.2.2.2 cO.1 cO.2.1).bind fun gF=>(some (gF.1,gF.2.1,gF.2.2.1,gF.2.2.2)))
theorem jO.mono:∀ a0 a1 a2 k,ag (jO.f k a0 a1 a2) (jO.f (k+1) a0 a1 a2):=by
 intro a0 a1 a2 k
 unfold jO.f
 repeat' first
  | (with_reducible first|exact fQ.mono _ _ _ _ _ _|exact qx.mono _ _ _ _|exact ag.refl _|exact ag.none _|refine ag.ite ?_ ?_|refine ag.bind ?_ (fun _=>?_))
  | exact fQ.mono _ _ _ _ _ _|exact qx.mono _ _ _ _|exact ag.none _|refine ag.ite ?_ ?_|refine ag.bind ?_ (fun _=>?_)
theorem jO.calls (k : Nat) (g : Nat) (anK : List Int) (cD : Int) (cI : Int) (r1 : Int) (r2 : List (List Int)) (r3 : Int) (r4 : Int) (w0 w : World) (hI : af w0 w g anK cD cI) (hB : Below w0.heap.size w0 w) (h : jO.f k anK cD cI = some (r1, r2, r3, r4)) :
  Calls Try.prog 111 #[.pointer (some ⟨g,0,none⟩)] w fun e w'=>∃ iw:Value,e=.returned (.agg #[.int .i64 r1,iw])∧Kd.V (Kd.slice 2 (Kd.int .i64)) 28 w' w.heap.size (fun k_=>(w.heap.size≤k_)) iw r2∧af w0 w' g anK r3 r4∧Below w0.heap.size w0 w'∧aM w w' g none:=by
 have jS:=Try.underlying31
 have aj:=k0 hI
 have HK:=k0 (aM.refl w g none)
 have HL:=k0 hB.size
 clear hI
 have ki:=k0 hB.size
 have HB:=k0 hB
 clear hB
 have H:((qx.f k anK cD cI).bind fun cO=>((fQ.f k anK cO.2.2.1 cO.2.2.2 cO.1 cO.2.1).bind fun gF=>(some (gF.1,gF.2.1,gF.2.2.1,gF.2.2.2))))=some (r1,r2,r3,r4):=h
 clear h
 replace H:=Option.bind_eq_some_iff.mp H
 obtain ⟨⟨t102,t103,t106,t107⟩,eD,H⟩:=H
 replace H:((fQ.f k anK t106 t107 t102 t103).bind fun gF=>(some (gF.1,gF.2.1,gF.2.2.1,gF.2.2.2)))=some (r1,r2,r3,r4):=H
 have A2:=k0 eD
 clear eD
 replace H:=Option.bind_eq_some_iff.mp H
 obtain ⟨⟨t108,t109,t112,t113⟩,fS,H⟩:=H
 replace H:(some (t108,t109,t112,t113))=some (r1,r2,r3,r4):=H
 have A3:=k0 fS
 clear fS
 simp only [Option.some.injEq,Prod.mk.injEq] at H
 obtain ⟨rfl,rfl,rfl,rfl⟩:=H
 go_enter Try.func111,Try.ntmps111
 go_wp2_with (first|((with_reducible refine bN (N:=2) rfl ?_);refine cE 2 #[.int .i64 0,.slice none 0 0] 31 ?_;intro aW hg w4 aG hb;replace HB:=k0 (anH (by repeat (first|(with_reducible first|exact HB.z|apply bn|apply bq|apply anS|refine az ?_ (af.ge aj.z))|exact HB.z)) hb);have aa:=k0 (aG);have cu:=gW hg (ew (aK HK.z));have anQ:=k0 (Nat.le_trans ki.z cu.z);replace HK:=k0 (aM.trans (aK HK.z) (aM.gy hb g none) (.inl rfl));have eV:=k0 ((by rw [hg];exact Nat.ne_of_lt (af.lt (show af w0 _ g anK cD cI from bB aj.z)):g ≠ aW));have eW:=k0 ((by rw [hg];exact Nat.ne_of_gt (af.lt (show af w0 _ g anK cD cI from bB aj.z)):aW ≠ g));replace aj:=k0 (af.below (bB aj.z) hb);clear hb aG hg)|((with_reducible refine bS (f:=198) rfl ?_);refine gC (some 5) Try.func198 #[.pointer (some ⟨g,0,none⟩)] ?_;(with_reducible refine (qx.calls k g anK cD cI t102 t103 t106 t107 w0 _ ?aA ?anD A2.z).mono ?_);(case aA=>repeat (first|(with_reducible first|exact aj.z|apply af.alloc|apply af.drewN|apply af.drew|apply af.gq|apply af.gu|refine af.dM ?_ eV.z _)|exact aj.z));(case anD=>repeat (first|(with_reducible first|exact HB.z|apply bn|apply bq|apply anS|refine az ?_ (af.ge aj.z)|refine az ?_ anQ.z)|exact HB.z));rintro e w5 ⟨aoZ,rfl,aq,hi,hb,hk⟩;refine ⟨_,rfl,?_⟩;replace aa:=k0 (aM.blk hk (aB aa.z) eW.z (by simp));have cZ:=k0 (Kd.gD (Kd.Aa (M:=fun k_=>(w.heap.size≤k_)) aq (ew (aK HK.z)) (fun k_ h_=>h_)) (ew (aK HK.z)));replace HK:=k0 (aM.trans (aK HK.z) hk (.inl rfl));replace HB:=k0 (hb);replace aj:=k0 (hi);obtain ⟨Uu,YF,ZB⟩:=Kd.eH cZ.z;subst ZB)|((with_reducible refine bS (f:=197) rfl ?_);refine gC (some 6) Try.func197 #[.pointer (some ⟨g,0,none⟩),.agg #[.int .i64 t102,.slice Uu t103.length YF]] ?_;(with_reducible refine (fQ.calls k g anK t106 t107 t102 (fun k_=>((((w.heap.size≤k_)∧True)∧k_ ≠ aW)∧k_ ≠ g)) _ _ t103 t108 t109 t112 t113 w0 _ ?aA ?anD ?cP A3.z).mono ?_);(case aA=>repeat (first|(with_reducible first|exact aj.z|apply af.alloc|apply af.drewN|apply af.drew|apply af.gq|apply af.gu|refine af.dM ?_ eV.z _)|exact aj.z));(case anD=>repeat (first|(with_reducible first|exact HB.z|apply bn|apply bq|apply anS|refine az ?_ (af.ge aj.z)|refine az ?_ anQ.z)|exact HB.z));(case cP=>exact Kd.anJ (Kd.z8 (af.nW aj.z (Kd.xu (cZ.z) aa.z (by decide)) (by decide))) (fun k_ b9=>⟨b9,b9.2⟩));rintro e w7 ⟨zc,rfl,aq,hi,hb,hk⟩;refine ⟨_,rfl,?_⟩;replace cZ:=k0 (Kd.anW (Kd.aoH (af.nW (show af w0 _ g anK t106 t107 from bB aj.z) (aS cZ.z) (by decide)) hk (fun _ h=>h.2)) (fun _ h=>h.1));have qz:=k0 (Kd.o5 (Kd.anJ (ok':=fun k_=>(w.heap.size≤k_)∧k_ ≠ aW∧k_ ≠ g) aq (fun k_ b9=>⟨Or.elim b9 (fun hs_=>hs_.1.1.1) (fun Dd=>(Nat.le_trans (ew (aK HK.z)) Dd)),Or.elim b9 (fun hs_=>hs_.1.2) (fun Dd=>(Kd.oG (aB aa.z) k_ Dd)),Or.elim b9 (fun hs_=>hs_.2) (fun Dd=>(af.fresh (bB aj.z) k_ Dd))⟩)) (ew (aK HK.z)));replace aa:=k0 (aM.blk hk (aB aa.z) eW.z (by simp));replace HK:=k0 (aM.trans (aK HK.z) hk (.inl rfl));replace HB:=k0 (hb);replace aj:=k0 (hi);have ab0:=eW.z;have ace:=eV.z;have JG:=aX aa;have JH:=aY aa;have QS:=bF aa 0;have JV:=bF aa 1;obtain ⟨tX,lF,Cj⟩:=Kd.nA qz.z;subst Cj))
 refine bodyPost_ret (results_cell_row rfl _ _ aW 31 #[.int .i64 t108,.slice tX t109.length lF] (0,0) _ rfl (by (with_reducible repeat (first|refine anF ?_ _|refine aH ?_|refine aI ?_ _));refine anV (cs:=#[.int .i64 t108,.slice none 0 0]) ?_ 1 _ rfl;(with_reducible repeat (first|refine anF ?_ _|refine aH ?_|refine aI ?_ _));refine anV (cs:=#[.int .i64 0,.slice none 0 0]) ?_ 0 _ rfl;exact bk) Try.underlying31 rfl (by kernel_rfl)) rfl ?_
 exact ⟨_,eR,by (with_reducible repeat (first|apply Kd.cW|apply Kd.cX|apply Kd.cV));exact Kd.anJ (Kd.bG (p:=⟨aW,1,none⟩) (Kd.bG (p:=⟨aW,0,none⟩) (Kd.anJ qz.z (fun k_ hk=>(⟨hk,hk.2.1⟩:_∧k_ ≠ aW))) (fun _ hk=>hk.2) (.int .i64 t108)) (fun _ hk=>hk.2) (.slice tX t109.length lF)) (fun _ hk=>hk.1.1),bB aj.z,by repeat (first|(with_reducible first|exact HB.z|apply bn|apply bq|apply anS|refine az ?_ (af.ge aj.z)|refine az ?_ anQ.z)|exact HB.z),aK HK.z⟩
/-! ### F41: function 41 -/
def lO.f (k:Nat) (l0:List Int):Option (Int × (List (List Int))):=(eT.f k l0).bind fun cO=>((jO.f k cO.1 cO.2.1 cO.2.2).bind fun an3=>(if an3.1=6 then ((dn.f cO.1 an3.2.2.1 an3.2.2.2 4).bind fun o6=>(if o6.1 > 0 then ((bV.f k cO.1 o6.2.1 o6.2.2 4 6).bind fun iT=>(some (iT.1,iT.2.1))) else (some (an3.1,an3.2.1)))) else (some (an3.1,an3.2.1))))
theorem lO.mono:∀ a0 k,ag (lO.f k a0) (lO.f (k+1) a0):=by
 intro a0 k
 unfold lO.f
 repeat' first
  | (with_reducible first|exact bV.mono _ _ _ _ _ _|exact eT.mono _ _|exact jO.mono _ _ _ _|exact ag.refl _|exact ag.none _|refine ag.ite ?_ ?_|refine ag.bind ?_ (fun _=>?_))
  | exact bV.mono _ _ _ _ _ _|exact eT.mono _ _|exact jO.mono _ _ _ _|exact ag.none _|refine ag.ite ?_ ?_|refine ag.bind ?_ (fun _=>?_)
theorem lO.calls (k : Nat) (A0 : Option Addr) (c0 : Nat) (l0 : List Int) (r1 : Int) (r2 : List (List Int)) (w : World) (cL : Kd.C (Kd.int .u8) w A0 l0.length l0) (hc0 : l0.length ≤ c0) (h : lO.f k l0 = some (r1, r2)) :
  Calls Try.prog 41 #[.slice A0 l0.length c0] w fun e w'=>∃ iw:Value,e=.returned (.agg #[.int .i64 r1,iw])∧Kd.V (Kd.slice 2 (Kd.int .i64)) 28 w' w.heap.size (fun k_=>(w.heap.size≤k_)) iw r2∧Below w.heap.size w w':=by
 have jS:=Try.underlying31
 have dh:=k0 cL
 have fI:=k0 hc0
 clear cL hc0
 have HB:=k0 (Below.refl w.heap.size w)
 have H:((eT.f k l0).bind fun cO=>((jO.f k cO.1 cO.2.1 cO.2.2).bind fun an3=>(if an3.1=6 then ((dn.f cO.1 an3.2.2.1 an3.2.2.2 4).bind fun o6=>(if o6.1 > 0 then ((bV.f k cO.1 o6.2.1 o6.2.2 4 6).bind fun iT=>(some (iT.1,iT.2.1))) else (some (an3.1,an3.2.1)))) else (some (an3.1,an3.2.1)))))=some (r1,r2):=h
 clear h
 replace H:=Option.bind_eq_some_iff.mp H
 obtain ⟨⟨t102,t103,t104⟩,eD,H⟩:=H
 replace H:((jO.f k t102 t103 t104).bind fun an3=>(if an3.1=6 then ((dn.f t102 an3.2.2.1 an3.2.2.2 4).bind fun o6=>(if o6.1 > 0 then ((bV.f k t102 o6.2.1 o6.2.2 4 6).bind fun iT=>(some (iT.1,iT.2.1))) else (some (an3.1,an3.2.1)))) else (some (an3.1,an3.2.1))))=some (r1,r2):=H
 have A2:=k0 eD
 clear eD
 replace H:=Option.bind_eq_some_iff.mp H
 obtain ⟨⟨t106,t107,t110,t111⟩,fS,H⟩:=H
 replace H:(if t106=6 then ((dn.f t102 t110 t111 4).bind fun o6=>(if o6.1 > 0 then ((bV.f k t102 o6.2.1 o6.2.2 4 6).bind fun iT=>(some (iT.1,iT.2.1))) else (some (t106,t107)))) else (some (t106,t107)))=some (r1,r2):=H
 have A3:=k0 fS
 clear fS
 by_cases c4:t106=6
 case neg =>
  rw [if_neg c4] at H
  have gT:(t106 == 6)=false:=beq_eq_false_iff_ne.mpr c4
  have tE:(t106 != 6)=true:=bne_iff_ne.mpr c4
  simp only [Option.some.injEq,Prod.mk.injEq] at H
  obtain ⟨rfl,rfl⟩:=H
  go_enter Try.func41,Try.ntmps41
  go_wp2_with (first|((with_reducible refine bN (N:=2) rfl ?_);refine cE 2 #[.int .i64 0,.slice none 0 0] 31 ?_;intro aW hg LV aG hb;have aa:=k0 (aG);have cu:=gW hg (anG bl);have anQ:=cu;replace HB:=k0 (anH bl hb);clear hb aG hg)|((with_reducible refine bS (f:=110) rfl ?_);refine gC (some 6) Try.func110 #[.slice A0 l0.length c0] ?_;(with_reducible refine (eT.calls k _ _ l0 t102 t103 t104 w _ ?aA ?anD ?cP A2.z).mono ?_);(case aA=>repeat (first|(with_reducible first|exact HB.z|apply bn|apply bq|apply anS|refine az ?_ anQ.z)|exact HB.z));(case anD=>exact dh.z);(case cP=>exact fI.z);rintro e TV ⟨g105,rfl,hi,hb,iU⟩;refine ⟨_,rfl,?_⟩;replace HB:=k0 (hb);have cT:=k0 (hi);have jR:=k0 (af.tO hi (cB (aB aa.z) iU) (by decide));have hU:=k0 (Ne.symm (af.tO hi (cB (aB aa.z) iU) (by decide)));replace aa:=kB aa iU;)|((with_reducible refine bS (f:=111) rfl ?_);refine gC (some 8) Try.func111 #[.pointer (some ⟨g105,0,none⟩)] ?_;(with_reducible refine (jO.calls k g105 t102 t103 t104 t106 t107 t110 t111 w _ ?aA ?anD A3.z).mono ?_);(case aA=>repeat (first|(with_reducible first|exact cT.z|apply af.alloc|apply af.drewN|apply af.drew|apply af.gq|apply af.gu|refine af.dM ?_ jR.z _)|exact cT.z));(case anD=>repeat (first|(with_reducible first|exact HB.z|apply bn|apply bq|apply anS|refine az ?_ (af.ge cT.z)|refine az ?_ anQ.z)|exact HB.z));rintro e TW ⟨cw,rfl,aq,hi,hb,hk⟩;refine ⟨_,rfl,?_⟩;have dy:=k0 (Kd.o5 (Kd.anJ (ok':=fun k_=>(w.heap.size≤k_)∧k_ ≠ aW∧k_ ≠ g105) aq (fun k_ b9=>⟨(Nat.le_trans (anG (by repeat (first|(with_reducible first|exact HB.z|apply bn|apply bq|apply anS|refine az ?_ (af.ge cT.z)|refine az ?_ anQ.z)|exact HB.z))) b9),(Kd.oG (aB aa.z) k_ b9),(af.fresh (bB cT.z) k_ b9)⟩)) (anG (by repeat (first|(with_reducible first|exact HB.z|apply bn|apply bq|apply anS|refine az ?_ (af.ge cT.z)|refine az ?_ anQ.z)|exact HB.z))));replace aa:=k0 (aM.blk hk (aB aa.z) hU.z (by simp));replace HB:=k0 (hb);replace cT:=k0 (hi);)|((with_reducible refine bN (N:=4) rfl ?_);refine cE 4 #[.int .i64 0,.slice none 0 0] 31 ?_;intro aoh hg TX aG hb;replace dy:=k0 (Kd.dz (Kd.ej (aV dy.z) aoh (Nat.le_of_eq hg.symm)) hb);have kQ:=k0 (aG);have M7:=k0 ((by rw [hg];exact (anG (by repeat (first|(with_reducible first|exact HB.z|apply bn|apply bq|apply anS|refine az ?_ (af.ge cT.z)|refine az ?_ anQ.z)|exact HB.z))):w.heap.size≤aoh));have s_:=k0 ((by rw [hg];exact (anG (by repeat (first|(with_reducible first|exact HB.z|apply bn|apply bq|apply anS|refine az ?_ (af.ge cT.z)|refine az ?_ anQ.z)|exact HB.z))):w.heap.size≤aoh));replace HB:=k0 (anH (by repeat (first|(with_reducible first|exact HB.z|apply bn|apply bq|apply anS|refine az ?_ (af.ge cT.z)|refine az ?_ anQ.z)|exact HB.z)) hb);have pZ:=nL hg aa;have BI:=nG pZ;replace aa:=kB aa hb;have vL:=k0 ((by rw [hg];exact Nat.ne_of_lt (af.lt (show af w _ g105 t102 t110 t111 from bB cT.z)):g105 ≠ aoh));have vM:=k0 ((by rw [hg];exact Nat.ne_of_gt (af.lt (show af w _ g105 t102 t110 t111 from bB cT.z)):aoh ≠ g105));replace cT:=k0 (af.below (bB cT.z) hb);clear hb aG hg;have RC:=BI.z;have RU:=pZ.z;have RD:=vM.z;have RV:=vL.z;have aaR:=aX kQ;have aaS:=aY kQ;have abu:=bF kQ 0;have abv:=bF kQ 1;obtain ⟨zB,Aq,I3⟩:=Kd.nA dy.z;subst I3;have RE:=hU.z;have RW:=jR.z;have aaT:=aX aa;have aaU:=aY aa;have abw:=bF aa 0;have abx:=bF aa 1))
  refine bodyPost_ret (results_cell_row rfl _ _ aW 31 #[.int .i64 t106,.slice zB t107.length Aq] (0,0) _ rfl (by (with_reducible repeat (first|refine anF ?_ _|refine aH ?_|refine aI ?_ _));refine anV (cs:=#[.int .i64 t106,.slice none 0 0]) ?_ 1 _ rfl;(with_reducible repeat (first|refine anF ?_ _|refine aH ?_|refine aI ?_ _));refine anV (cs:=#[.int .i64 0,.slice none 0 0]) ?_ 0 _ rfl;(with_reducible repeat (first|refine anF ?_ _|refine aH ?_|refine aI ?_ _));refine anU ?_ pZ.z _;(with_reducible repeat (first|refine anF ?_ _|refine aH ?_|refine aI ?_ _));refine anU ?_ pZ.z _;exact bk) Try.underlying31 rfl (by kernel_rfl)) rfl ?_
  exact ⟨_,eR,by (with_reducible repeat (first|apply Kd.cW|apply Kd.cX|apply Kd.cV));exact Kd.anJ (Kd.bG (p:=⟨aW,1,none⟩) (Kd.bG (p:=⟨aW,0,none⟩) (Kd.bG (p:=⟨aoh,1,none⟩) (Kd.bG (p:=⟨aoh,0,none⟩) (Kd.anJ (Kd.anJ dy.z (fun k_ hk=>(⟨hk,hk.2⟩:_∧k_ ≠ aoh))) (fun k_ hk=>(⟨hk,hk.1.1.2.1⟩:_∧k_ ≠ aW))) (fun _ hk=>hk.1.2) (.int .i64 t106)) (fun _ hk=>hk.1.2) (.slice zB t107.length Aq)) (fun _ hk=>hk.2) (.int .i64 t106)) (fun _ hk=>hk.2) (.slice zB t107.length Aq)) (fun _ hk=>hk.1.1.1.1),by repeat (first|(with_reducible first|exact HB.z|apply bn|apply bq|apply anS|refine az ?_ (af.ge cT.z)|refine az ?_ anQ.z|refine az ?_ s_.z)|exact HB.z)⟩
 rw [if_pos c4] at H
 have gT:(t106 == 6)=true:=beq_iff_eq.mpr c4
 have tE:(t106 != 6)=false:=bne_eq_false_iff_eq.mpr c4
 clear c4
 replace H:=Option.bind_eq_some_iff.mp H
 obtain ⟨⟨t113,t114,t115⟩,aox,H⟩:=H
 replace H:(if t113 > 0 then ((bV.f k t102 t114 t115 4 6).bind fun iT=>(some (iT.1,iT.2.1))) else (some (t106,t107)))=some (r1,r2):=H
 have A5:=k0 aox
 clear aox
 by_cases c6:t113 > 0
 case neg =>
  rw [if_neg c6] at H
  have iD:decide (0 < t113)=false:=decide_eq_false c6
  clear c6
  simp only [Option.some.injEq,Prod.mk.injEq] at H
  obtain ⟨rfl,rfl⟩:=H
  go_enter Try.func41,Try.ntmps41
  go_wp2_with (first|((with_reducible refine bN (N:=2) rfl ?_);refine cE 2 #[.int .i64 0,.slice none 0 0] 31 ?_;intro aW hg w21 aG hb;have aa:=k0 (aG);have cu:=gW hg (anG bl);have anQ:=cu;replace HB:=k0 (anH bl hb);clear hb aG hg)|((with_reducible refine bS (f:=110) rfl ?_);refine gC (some 6) Try.func110 #[.slice A0 l0.length c0] ?_;(with_reducible refine (eT.calls k _ _ l0 t102 t103 t104 w _ ?aA ?anD ?cP A2.z).mono ?_);(case aA=>repeat (first|(with_reducible first|exact HB.z|apply bn|apply bq|apply anS|refine az ?_ anQ.z)|exact HB.z));(case anD=>exact dh.z);(case cP=>exact fI.z);rintro e tT ⟨g105,rfl,hi,hb,iU⟩;refine ⟨_,rfl,?_⟩;replace HB:=k0 (hb);have cT:=k0 (hi);have jR:=k0 (af.tO hi (cB (aB aa.z) iU) (by decide));have hU:=k0 (Ne.symm (af.tO hi (cB (aB aa.z) iU) (by decide)));replace aa:=kB aa iU;)|((with_reducible refine bS (f:=111) rfl ?_);refine gC (some 8) Try.func111 #[.pointer (some ⟨g105,0,none⟩)] ?_;(with_reducible refine (jO.calls k g105 t102 t103 t104 t106 t107 t110 t111 w _ ?aA ?anD A3.z).mono ?_);(case aA=>repeat (first|(with_reducible first|exact cT.z|apply af.alloc|apply af.drewN|apply af.drew|apply af.gq|apply af.gu|refine af.dM ?_ jR.z _)|exact cT.z));(case anD=>repeat (first|(with_reducible first|exact HB.z|apply bn|apply bq|apply anS|refine az ?_ (af.ge cT.z)|refine az ?_ anQ.z)|exact HB.z));rintro e Gq ⟨cw,rfl,aq,hi,hb,hk⟩;refine ⟨_,rfl,?_⟩;have dy:=k0 (Kd.o5 (Kd.anJ (ok':=fun k_=>(w.heap.size≤k_)∧k_ ≠ aW∧k_ ≠ g105) aq (fun k_ b9=>⟨(Nat.le_trans (anG (by repeat (first|(with_reducible first|exact HB.z|apply bn|apply bq|apply anS|refine az ?_ (af.ge cT.z)|refine az ?_ anQ.z)|exact HB.z))) b9),(Kd.oG (aB aa.z) k_ b9),(af.fresh (bB cT.z) k_ b9)⟩)) (anG (by repeat (first|(with_reducible first|exact HB.z|apply bn|apply bq|apply anS|refine az ?_ (af.ge cT.z)|refine az ?_ anQ.z)|exact HB.z))));replace aa:=k0 (aM.blk hk (aB aa.z) hU.z (by simp));replace HB:=k0 (hb);replace cT:=k0 (hi);)|((with_reducible refine bN (N:=4) rfl ?_);refine cE 4 #[.int .i64 0,.slice none 0 0] 31 ?_;intro aoh hg apF aG hb;replace dy:=k0 (Kd.dz (Kd.ej (aV dy.z) aoh (Nat.le_of_eq hg.symm)) hb);have kQ:=k0 (aG);have M7:=k0 ((by rw [hg];exact (anG (by repeat (first|(with_reducible first|exact HB.z|apply bn|apply bq|apply anS|refine az ?_ (af.ge cT.z)|refine az ?_ anQ.z)|exact HB.z))):w.heap.size≤aoh));have s_:=k0 ((by rw [hg];exact (anG (by repeat (first|(with_reducible first|exact HB.z|apply bn|apply bq|apply anS|refine az ?_ (af.ge cT.z)|refine az ?_ anQ.z)|exact HB.z))):w.heap.size≤aoh));replace HB:=k0 (anH (by repeat (first|(with_reducible first|exact HB.z|apply bn|apply bq|apply anS|refine az ?_ (af.ge cT.z)|refine az ?_ anQ.z)|exact HB.z)) hb);have pZ:=nL hg aa;have BI:=nG pZ;replace aa:=kB aa hb;have vL:=k0 ((by rw [hg];exact Nat.ne_of_lt (af.lt (show af w _ g105 t102 t110 t111 from bB cT.z)):g105 ≠ aoh));have vM:=k0 ((by rw [hg];exact Nat.ne_of_gt (af.lt (show af w _ g105 t102 t110 t111 from bB cT.z)):aoh ≠ g105));replace cT:=k0 (af.below (bB cT.z) hb);clear hb aG hg;have RB:=BI.z;have RT:=pZ.z;have De:=vM.z;have Df:=vL.z;have CN:=aX kQ;have CO:=aY kQ;have CV:=bF kQ 0;have CW:=bF kQ 1;obtain ⟨an2,dA,ry⟩:=Kd.nA dy.z;subst ry)|(go_at_call 112;(with_reducible refine (dn.calls g105 t102 t110 t111 4 t113 t114 t115 w _ ?aA ?anD A5.z).mono ?_);(case aA=>repeat (first|(with_reducible first|exact cT.z|apply af.alloc|apply af.drewN|apply af.drew|apply af.gq|apply af.gu|refine af.dM ?_ jR.z _|refine af.dM ?_ vL.z _)|exact cT.z));(case anD=>repeat (first|(with_reducible first|exact HB.z|apply bn|apply bq|apply anS|refine az ?_ (af.ge cT.z)|refine az ?_ anQ.z|refine az ?_ s_.z)|exact HB.z));rintro e DZ ⟨rfl,hi,hb,hk⟩;replace aa:=k0 (aM.blk hk (g':=aW) (o:=.cells #[.int .i64 0,.slice none 0 0] 31 (0,0)) (by (with_reducible repeat (first|refine anF ?_ _|refine aH ?_|refine aI ?_ _));refine anU ?_ pZ.z _;(with_reducible repeat (first|refine anF ?_ _|refine aH ?_|refine aI ?_ _));refine anU ?_ pZ.z _;exact bk) hU.z (by simp));replace dy:=k0 (Kd.anJ (Kd.tC (Kd.anJ (ok:=fun k_=>((((w.heap.size≤k_))∧(k_ ≠ aW∧k_ ≠ g105))∧k_ ≠ aoh)) (by (with_reducible repeat (first|apply Kd.cW|apply Kd.cX|apply Kd.cV));exact (Kd.anJ (Kd.bG (p:=⟨aoh,1,none⟩) (Kd.bG (p:=⟨aoh,0,none⟩) (Kd.anJ dy.z (fun k_ hk=>(⟨hk,hk.2⟩:_∧k_ ≠ aoh))) (fun _ hk=>hk.2) (.int .i64 t106)) (fun _ hk=>hk.2) (.slice an2 t107.length dA)) (fun _ h_=>h_.1))) (fun k_ b9=>(⟨b9,b9.1.2.2⟩:_∧k_ ≠ g105))) hk (fun _ h=>h.2)) (fun _ h=>h.1));replace kQ:=k0 (aM.blk hk (g':=aoh) (o:=sO t106 an2 t107 dA 31) (by (with_reducible repeat (first|refine anF ?_ _|refine aH ?_|refine aI ?_ _));refine anV (cs:=#[.int .i64 t106,.slice none 0 0]) ?_ 1 _ rfl;(with_reducible repeat (first|refine anF ?_ _|refine aH ?_|refine aI ?_ _));refine anV (cs:=#[.int .i64 0,.slice none 0 0]) ?_ 0 _ rfl;exact bk) vM.z (by simp));replace HB:=k0 (hb);replace cT:=k0 (hi);have CP:=aX kQ;have CQ:=aY kQ;have CX:=bF kQ 0;have CY:=bF kQ 1;have alf:=hU.z;have ama:=jR.z;have aiz:=aX aa;have aiA:=aY aa;have aj0:=bF aa 0;have aj1:=bF aa 1))
  refine bodyPost_ret (results_cell_row rfl _ _ aW 31 #[.int .i64 t106,.slice an2 t107.length dA] (0,0) _ rfl (by (with_reducible repeat (first|refine anF ?_ _|refine aH ?_|refine aI ?_ _));refine anV (cs:=#[.int .i64 t106,.slice none 0 0]) ?_ 1 _ rfl;(with_reducible repeat (first|refine anF ?_ _|refine aH ?_|refine aI ?_ _));refine anV (cs:=#[.int .i64 0,.slice none 0 0]) ?_ 0 _ rfl;exact bk) Try.underlying31 rfl (by kernel_rfl)) rfl ?_
  exact ⟨_,eR,by (with_reducible repeat (first|apply Kd.cW|apply Kd.cX|apply Kd.cV));exact Kd.anJ (Kd.bG (p:=⟨aW,1,none⟩) (Kd.bG (p:=⟨aW,0,none⟩) (Kd.anJ dy.z (fun k_ hk=>(⟨hk,hk.1.2.1⟩:_∧k_ ≠ aW))) (fun _ hk=>hk.2) (.int .i64 t106)) (fun _ hk=>hk.2) (.slice an2 t107.length dA)) (fun _ hk=>hk.1.1.1),by repeat (first|(with_reducible first|exact HB.z|apply bn|apply bq|apply anS|refine az ?_ (af.ge cT.z)|refine az ?_ anQ.z|refine az ?_ s_.z)|exact HB.z)⟩
 rw [if_pos c6] at H
 have iD:=decide_eq_true c6
 clear c6
 replace H:=Option.bind_eq_some_iff.mp H
 obtain ⟨⟨t116,t117,t120,t121⟩,vB,H⟩:=H
 replace H:(some (t116,t117))=some (r1,r2):=H
 have A7:=k0 vB
 clear vB
 simp only [Option.some.injEq,Prod.mk.injEq] at H
 obtain ⟨rfl,rfl⟩:=H
 go_enter Try.func41,Try.ntmps41
 go_wp2_with (first|((with_reducible refine bN (N:=2) rfl ?_);refine cE 2 #[.int .i64 0,.slice none 0 0] 31 ?_;intro aW hg w8 aG hb;have aa:=k0 (aG);have cu:=gW hg (anG bl);have anQ:=cu;replace HB:=k0 (anH bl hb);clear hb aG hg)|((with_reducible refine bS (f:=110) rfl ?_);refine gC (some 6) Try.func110 #[.slice A0 l0.length c0] ?_;(with_reducible refine (eT.calls k _ _ l0 t102 t103 t104 w _ ?aA ?anD ?cP A2.z).mono ?_);(case aA=>repeat (first|(with_reducible first|exact HB.z|apply bn|apply bq|apply anS|refine az ?_ anQ.z)|exact HB.z));(case anD=>exact dh.z);(case cP=>exact fI.z);rintro e w9 ⟨g105,rfl,hi,hb,iU⟩;refine ⟨_,rfl,?_⟩;replace HB:=k0 (hb);have cT:=k0 (hi);have jR:=k0 (af.tO hi (cB (aB aa.z) iU) (by decide));have hU:=k0 (Ne.symm (af.tO hi (cB (aB aa.z) iU) (by decide)));replace aa:=kB aa iU;)|((with_reducible refine bS (f:=111) rfl ?_);refine gC (some 8) Try.func111 #[.pointer (some ⟨g105,0,none⟩)] ?_;(with_reducible refine (jO.calls k g105 t102 t103 t104 t106 t107 t110 t111 w _ ?aA ?anD A3.z).mono ?_);(case aA=>repeat (first|(with_reducible first|exact cT.z|apply af.alloc|apply af.drewN|apply af.drew|apply af.gq|apply af.gu|refine af.dM ?_ jR.z _)|exact cT.z));(case anD=>repeat (first|(with_reducible first|exact HB.z|apply bn|apply bq|apply anS|refine az ?_ (af.ge cT.z)|refine az ?_ anQ.z)|exact HB.z));rintro e qN ⟨cw,rfl,aq,hi,hb,hk⟩;refine ⟨_,rfl,?_⟩;have dy:=k0 (Kd.o5 (Kd.anJ (ok':=fun k_=>(w.heap.size≤k_)∧k_ ≠ aW∧k_ ≠ g105) aq (fun k_ b9=>⟨(Nat.le_trans (anG (by repeat (first|(with_reducible first|exact HB.z|apply bn|apply bq|apply anS|refine az ?_ (af.ge cT.z)|refine az ?_ anQ.z)|exact HB.z))) b9),(Kd.oG (aB aa.z) k_ b9),(af.fresh (bB cT.z) k_ b9)⟩)) (anG (by repeat (first|(with_reducible first|exact HB.z|apply bn|apply bq|apply anS|refine az ?_ (af.ge cT.z)|refine az ?_ anQ.z)|exact HB.z))));replace aa:=k0 (aM.blk hk (aB aa.z) hU.z (by simp));replace HB:=k0 (hb);replace cT:=k0 (hi);)|((with_reducible refine bN (N:=4) rfl ?_);refine cE 4 #[.int .i64 0,.slice none 0 0] 31 ?_;intro aoh hg TG aG hb;replace dy:=k0 (Kd.dz (Kd.ej (aV dy.z) aoh (Nat.le_of_eq hg.symm)) hb);have kQ:=k0 (aG);have M7:=k0 ((by rw [hg];exact (anG (by repeat (first|(with_reducible first|exact HB.z|apply bn|apply bq|apply anS|refine az ?_ (af.ge cT.z)|refine az ?_ anQ.z)|exact HB.z))):w.heap.size≤aoh));have s_:=k0 ((by rw [hg];exact (anG (by repeat (first|(with_reducible first|exact HB.z|apply bn|apply bq|apply anS|refine az ?_ (af.ge cT.z)|refine az ?_ anQ.z)|exact HB.z))):w.heap.size≤aoh));replace HB:=k0 (anH (by repeat (first|(with_reducible first|exact HB.z|apply bn|apply bq|apply anS|refine az ?_ (af.ge cT.z)|refine az ?_ anQ.z)|exact HB.z)) hb);have pZ:=nL hg aa;have BI:=nG pZ;replace aa:=kB aa hb;have vL:=k0 ((by rw [hg];exact Nat.ne_of_lt (af.lt (show af w _ g105 t102 t110 t111 from bB cT.z)):g105 ≠ aoh));have vM:=k0 ((by rw [hg];exact Nat.ne_of_gt (af.lt (show af w _ g105 t102 t110 t111 from bB cT.z)):aoh ≠ g105));replace cT:=k0 (af.below (bB cT.z) hb);clear hb aG hg;have ak0:=BI.z;have alV:=pZ.z;have ak3:=vM.z;have alY:=vL.z;have xY:=aX kQ;have xZ:=aY kQ;have ape:=bF kQ 0;have apf:=bF kQ 1;obtain ⟨Eh,E0,IZ⟩:=Kd.nA dy.z;subst IZ)|(go_at_call 112;(with_reducible refine (dn.calls g105 t102 t110 t111 4 t113 t114 t115 w _ ?aA ?anD A5.z).mono ?_);(case aA=>repeat (first|(with_reducible first|exact cT.z|apply af.alloc|apply af.drewN|apply af.drew|apply af.gq|apply af.gu|refine af.dM ?_ jR.z _|refine af.dM ?_ vL.z _)|exact cT.z));(case anD=>repeat (first|(with_reducible first|exact HB.z|apply bn|apply bq|apply anS|refine az ?_ (af.ge cT.z)|refine az ?_ anQ.z|refine az ?_ s_.z)|exact HB.z));rintro e DX ⟨rfl,hi,hb,hk⟩;replace aa:=k0 (aM.blk hk (g':=aW) (o:=.cells #[.int .i64 0,.slice none 0 0] 31 (0,0)) (by (with_reducible repeat (first|refine anF ?_ _|refine aH ?_|refine aI ?_ _));refine anU ?_ pZ.z _;(with_reducible repeat (first|refine anF ?_ _|refine aH ?_|refine aI ?_ _));refine anU ?_ pZ.z _;exact bk) hU.z (by simp));replace dy:=k0 (Kd.anJ (Kd.tC (Kd.anJ (ok:=fun k_=>((((w.heap.size≤k_))∧(k_ ≠ aW∧k_ ≠ g105))∧k_ ≠ aoh)) (by (with_reducible repeat (first|apply Kd.cW|apply Kd.cX|apply Kd.cV));exact (Kd.anJ (Kd.bG (p:=⟨aoh,1,none⟩) (Kd.bG (p:=⟨aoh,0,none⟩) (Kd.anJ dy.z (fun k_ hk=>(⟨hk,hk.2⟩:_∧k_ ≠ aoh))) (fun _ hk=>hk.2) (.int .i64 t106)) (fun _ hk=>hk.2) (.slice Eh t107.length E0)) (fun _ h_=>h_.1))) (fun k_ b9=>(⟨b9,b9.1.2.2⟩:_∧k_ ≠ g105))) hk (fun _ h=>h.2)) (fun _ h=>h.1));replace kQ:=k0 (aM.blk hk (g':=aoh) (o:=sO t106 Eh t107 E0 31) (by (with_reducible repeat (first|refine anF ?_ _|refine aH ?_|refine aI ?_ _));refine anV (cs:=#[.int .i64 t106,.slice none 0 0]) ?_ 1 _ rfl;(with_reducible repeat (first|refine anF ?_ _|refine aH ?_|refine aI ?_ _));refine anV (cs:=#[.int .i64 0,.slice none 0 0]) ?_ 0 _ rfl;exact bk) vM.z (by simp));replace HB:=k0 (hb);replace cT:=k0 (hi);)|((with_reducible refine bS (f:=113) rfl ?_);refine gC (some 18) Try.func113 #[.pointer (some ⟨g105,0,none⟩),.int .i64 4,.int .i64 6] ?_;(with_reducible refine (bV.calls k g105 t102 t114 t115 4 6 t116 t117 t120 t121 w _ ?aA ?anD A7.z).mono ?_);(case aA=>repeat (first|(with_reducible first|exact cT.z|apply af.alloc|apply af.drewN|apply af.drew|apply af.gq|apply af.gu|refine af.dM ?_ jR.z _|refine af.dM ?_ vL.z _)|exact cT.z));(case anD=>repeat (first|(with_reducible first|exact HB.z|apply bn|apply bq|apply anS|refine az ?_ (af.ge cT.z)|refine az ?_ anQ.z|refine az ?_ s_.z)|exact HB.z));rintro e DY ⟨Gl,rfl,aq,hi,hb,hk⟩;refine ⟨_,rfl,?_⟩;have av:=k0 (aM.blk hk (aB aa.z) hU.z (by simp));have ax:=k0 (Kd.anJ (Kd.WR (Kd.WQ (Kd.anJ (ok:=fun k_=>((((w.heap.size≤k_))∧(k_ ≠ aW∧k_ ≠ g105))∧k_ ≠ aoh)) (aV dy.z) (fun k_ b9=>(⟨b9,b9.1.2.2⟩:_∧k_ ≠ g105))) hk) (Kd.an_ aq)) (fun _ h_=>h_.1));have ay:=k0 (aM.blk hk (aB kQ.z) vM.z (by simp));have anC:=k0 (Kd.gD (Kd.Aa (M:=fun k_=>(w.heap.size≤k_)) aq (anG (by repeat (first|(with_reducible first|exact HB.z|apply bn|apply bq|apply anS|refine az ?_ (af.ge cT.z)|refine az ?_ anQ.z|refine az ?_ s_.z)|exact HB.z))) (fun k_ h_=>h_)) (anG (by repeat (first|(with_reducible first|exact HB.z|apply bn|apply bq|apply anS|refine az ?_ (af.ge cT.z)|refine az ?_ anQ.z|refine az ?_ s_.z)|exact HB.z))));have aD:=k0 (hb);have anE:=k0 (hi);clear aa;clear dy;clear kQ;clear HB;clear cT;have aa:=av;have dy:=ax;have kQ:=ay;have fM:=anC;have HB:=aD;have cT:=anE;clear av ax ay anC aD anE;have J0:=hU.z;have J4:=jR.z;have CL:=aX aa;have CM:=aY aa;have CT:=bF aa 0;have CU:=bF aa 1;obtain ⟨oP,nC,pg⟩:=Kd.eH fM.z;subst pg))
 refine bodyPost_ret (results_cell_row rfl _ _ aW 31 #[.int .i64 t116,.slice oP t117.length nC] (0,0) _ rfl (by (with_reducible repeat (first|refine anF ?_ _|refine aH ?_|refine aI ?_ _));refine anV (cs:=#[.int .i64 t116,.slice none 0 0]) ?_ 1 _ rfl;(with_reducible repeat (first|refine anF ?_ _|refine aH ?_|refine aI ?_ _));refine anV (cs:=#[.int .i64 0,.slice none 0 0]) ?_ 0 _ rfl;exact bk) Try.underlying31 rfl (by kernel_rfl)) rfl ?_
 exact ⟨_,eR,Kd.z8 (by (with_reducible repeat (first|apply Kd.di|apply Kd.dm|apply Kd.cS));exact Kd.anW (gS 1 (.slice oP t117.length nC) (gS 0 (.int .i64 t116) (tS fM aa))) (fun _ hk=>hk.1.1)),by repeat (first|(with_reducible first|exact HB.z|apply bn|apply bq|apply anS|refine az ?_ (af.ge cT.z)|refine az ?_ anQ.z|refine az ?_ s_.z)|exact HB.z)⟩
/-! ### F194: function 194 -/
def jr.f (a0:Int) (a1:Int) (a2:Int):Option (Bool):=if a0 ≥ a1 then (some (decide (a0≤a2))) else (some false)
theorem jr.calls (a0 : Int) (a1 : Int) (a2 : Int) (r : Bool) (w : World) (h : jr.f a0 a1 a2 = some r) :
  Calls Try.prog 194 #[.int .i64 a0,.int .i64 a1,.int .i64 a2] w fun e w'=>e=.returned (.bool r)∧aod w w':=by
 have H:(if a0 ≥ a1 then (some (decide (a0≤a2))) else (some false))=some r:=h
 clear h
 by_cases c4:a0 ≥ a1
 case neg =>
  rw [if_neg c4] at H
  have gT:decide (a1≤a0)=false:=decide_eq_false c4
  clear c4
  obtain rfl:=Option.some.inj H
  go_enter Try.func194,Try.ntmps194
  go_wp2
  go_ret
  exact ⟨rs,dW⟩
 rw [if_pos c4] at H
 have gT:=decide_eq_true c4
 clear c4
 obtain rfl:=Option.some.inj H
 go_enter Try.func194,Try.ntmps194
 go_wp2
 go_ret
 exact ⟨rs,dW⟩
/-! ### F106: function 106 -/
def fj.l0 : Nat → List (List Int) → Int → Int → Int → List (List Int) → Option (Bool)
 | 0,_,_,_,_,_=>none
 | k+1,x6,x7,x8,iN,iy=>if x8 < x7 then (if 0≤x8 then (if x8 < (x6.length:Int) then (if ((ai x6 x8).length:Int)=2 then (if 0 < ((ai x6 x8).length:Int) then ((jr.f (rd (ai x6 x8) 0) 0 (wrap64 (iN - 1))).bind fun t105=>(if t105=true then (if 1 < ((ai x6 x8).length:Int) then ((jr.f (rd (ai x6 x8) 1) 0 (wrap64 (iN - 1))).bind fun t107=>(if t107=true then (fj.l0 k x6 x7 (wrap64 (x8+1)) iN iy) else (some false))) else (none)) else (some false))) else (none)) else (some false)) else (none)) else (none)) else ((jr.f iN 1 8).bind fun t102=>(if t102=true then (some (decide ((iy.length:Int)≤10))) else (some false)))
def fj.f (k:Nat) (au:Int) (ah:List (List Int)):Option (Bool):=fj.l0 k ah (ah.length:Int) 0 au ah
theorem fj.cC : ∀ k, (∀ y0 y1 y2 y3 y4, ag (fj.l0 k y0 y1 y2 y3 y4) (fj.l0 (k + 1) y0 y1 y2 y3 y4))
 | 0=>fun _ _ _ _ _ r h=>by simp [fj.l0] at h
 | k+1=>by
  have a_:=fj.cC k
  ·intro y0 y1 y2 y3 y4
   unfold fj.l0
   repeat' first
    | (with_reducible first|exact a_ _ _ _ _ _|exact ag.refl _|exact ag.none _|refine ag.ite ?_ ?_|refine ag.bind ?_ (fun _=>?_))
    | exact a_ _ _ _ _ _|exact ag.none _|refine ag.ite ?_ ?_|refine ag.bind ?_ (fun _=>?_)
theorem fj.mono:∀ a0 a1 k,ag (fj.f k a0 a1) (fj.f (k+1) a0 a1):=by
 intro a0 a1 k
 have a_:=fj.cC k
 unfold fj.f
 repeat' first
  | (with_reducible first|exact a_ _ _ _ _ _|exact ag.refl _|exact ag.none _|refine ag.ite ?_ ?_|refine ag.bind ?_ (fun _=>?_))
  | exact a_ _ _ _ _ _|exact ag.none _|refine ag.ite ?_ ?_|refine ag.bind ?_ (fun _=>?_)
theorem fj.calls (k : Nat) (au : Int) (bJ : Option Addr) (bI : Nat) (ah : List (List Int)) (r : Bool) (w : World) (eS : Kd.C (Kd.slice 2 (Kd.int .i64)) w bJ ah.length ah) (eY : ah.length ≤ bI) (h : fj.f k au ah = some r) :
  Calls Try.prog 106 #[.agg #[.int .i64 au,.slice bJ ah.length bI]] w fun e w'=>e=.returned (.bool r)∧Below w.heap.size w w':=by
 have jS:=Try.underlying31
 have dP:=k0 eS
 have f_:=k0 eY
 clear eS eY
 have HB:=k0 (Below.refl w.heap.size w)
 have H:(fj.l0 k ah (ah.length:Int) 0 au ah)=some r:=h
 clear h
 have H':=k0 H
 clear H
 go_enter Try.func106,Try.ntmps106
 go_wp2_with (first|((with_reducible refine bN (N:=1) rfl ?_);(try (refine fV (by rfl) ?_;dsimp only));refine cE 1 #[.int .i64 au,.slice bJ ah.length bI] 31 ?_;intro aW hg w2 aG hb;have aa:=k0 (aG);have cu:=gW hg (anG bl);have anQ:=cu;replace HB:=k0 (anH bl hb);clear hb aG hg;have Qo:=aX aa;have Qp:=aY aa;have QM:=bF aa 0;have QN:=bF aa 1))
 repeat (go_quiet (first|((with_reducible refine bN (N:=1) rfl ?_);(try (refine fV (by rfl) ?_;dsimp only));refine cE 1 #[.int .i64 au,.slice bJ ah.length bI] 31 ?_;intro aW hg w2 aG hb;have aa:=k0 (aG);have cu:=gW hg (anG bl);have anQ:=cu;replace HB:=k0 (anH bl hb);clear hb aG hg;have Qo:=aX aa;have Qp:=aY aa;have QM:=bF aa 0;have QN:=bF aa 1));try go_wp2_with (first|((with_reducible refine bN (N:=1) rfl ?_);(try (refine fV (by rfl) ?_;dsimp only));refine cE 1 #[.int .i64 au,.slice bJ ah.length bI] 31 ?_;intro aW hg w2 aG hb;have aa:=k0 (aG);have cu:=gW hg (anG bl);have anQ:=cu;replace HB:=k0 (anH bl hb);clear hb aG hg;have Qo:=aX aa;have Qp:=aY aa;have QM:=bF aa 0;have QN:=bF aa 1)))
 go_loopg [8] k (fun kq v8 w'=>∃ (ct:Int),v8=.int .i64 ct∧ak (fj.l0 kq ah (ah.length:Int) ct au ah=some r)∧ak (kq≤k)∧ak (w'.heap[aW]?=some (sO au bJ ah bI 31))∧ak (Below w.heap.size w w'))
 case atStart=>exact ⟨(0),rs,H',⟨Nat.le_refl _⟩,⟨bk⟩,⟨bl⟩⟩
 case round =>
  clear H'
  obtain ⟨ct,rfl,HA,bH,aa,HB⟩:=hrel
  cases gk with
  | zero=>exact absurd HA.z (by simp [fj.l0])
  | succ k1 =>
   have H:=HA.z
   clear HA
   simp only [fj.l0] at H
   by_cases c4:ct < (ah.length:Int)
   case neg =>
    rw [if_neg c4] at H
    have gT:decide (ct < (ah.length:Int))=false:=decide_eq_false c4
    clear c4
    replace H:=Option.bind_eq_some_iff.mp H
    obtain ⟨t102,Mb,H⟩:=H
    replace H:(if t102=true then (some (decide ((ah.length:Int)≤10))) else (some false))=some r:=H
    have zu:=k0 Mb
    clear Mb
    by_cases c18:t102=true
    case neg =>
     replace c18:=Bool.eq_false_iff.mpr c18
     subst c18
     have H1:(some false)=some r:=by rw [if_neg (show ¬ (false=true) by decide)] at H;exact H
     clear H
     have H:=H1
     clear H1
     obtain rfl:=Option.some.inj H
     have aaL:=aX aa
     have aaM:=aY aa
     have abn:=bF aa 0
     have abo:=bF aa 1
     go_wp2_with (first|(go_at_call 194;(with_reducible refine (jr.calls au 1 8 false _ zu.z).mono ?_);rintro e w' ⟨rfl,⟨nd,rfl⟩⟩;(try exact dN)))
     repeat (go_quiet (first|(go_at_call 194;(with_reducible refine (jr.calls au 1 8 false _ zu.z).mono ?_);rintro e w' ⟨rfl,⟨nd,rfl⟩⟩;(try exact dN)));try go_wp2_with (first|(go_at_call 194;(with_reducible refine (jr.calls au 1 8 false _ zu.z).mono ?_);rintro e w' ⟨rfl,⟨nd,rfl⟩⟩;(try exact dN))))
     go_ret
     exact ⟨eR,bl⟩
    subst c18
    have H1:(some (decide ((ah.length:Int)≤10)))=some r:=by rw [if_pos rfl] at H;exact H
    clear H
    have H:=H1
    clear H1
    obtain rfl:=Option.some.inj H
    have CL:=aX aa
    have CM:=aY aa
    have CT:=bF aa 0
    have CU:=bF aa 1
    go_wp2_with (first|(go_at_call 194;(with_reducible refine (jr.calls au 1 8 true _ zu.z).mono ?_);rintro e w' ⟨rfl,⟨nd,rfl⟩⟩;(try exact dN)))
    repeat (go_quiet (first|(go_at_call 194;(with_reducible refine (jr.calls au 1 8 true _ zu.z).mono ?_);rintro e w' ⟨rfl,⟨nd,rfl⟩⟩;(try exact dN)));try go_wp2_with (first|(go_at_call 194;(with_reducible refine (jr.calls au 1 8 true _ zu.z).mono ?_);rintro e w' ⟨rfl,⟨nd,rfl⟩⟩;(try exact dN))))
    go_ret
    exact ⟨eR,bl⟩
   rw [if_pos c4] at H
   have gT:=decide_eq_true c4
   clear c4
   replace H:=iS H;obtain ⟨c5,H⟩:=H
   have aoo:=decide_eq_true c5
   clear c5
   replace H:=iS H;obtain ⟨c6,H⟩:=H
   have iD:=decide_eq_true c6
   clear c6
   by_cases c7:((ai ah ct).length:Int)=2
   case neg =>
    rw [if_neg c7] at H
    have o7:(((ai ah ct).length:Int) == 2)=false:=beq_eq_false_iff_ne.mpr c7
    have ao4:(((ai ah ct).length:Int) != 2)=true:=bne_iff_ne.mpr c7
    obtain rfl:=Option.some.inj H
    have fF:0≤(ct:Int):=oD
    have fG:ct < (ah.length:Int):=oD
    obtain ⟨l_,wX,xC,e103,fR,aot,k6⟩:=fu dP.z ct fF fG
    cases e103
    replace fR:=hbc HB fR
    have aoQ:=k0 k6
    have ao':=k0 aot
    clear k6 aot
    replace fF:=eq_true fF
    replace fG:=eq_true fG
    go_wp2
    repeat (go_quiet (fail);try go_wp2)
    go_ret
    exact ⟨eR,bl⟩
   rw [if_pos c7] at H
   have o7:(((ai ah ct).length:Int) == 2)=true:=beq_iff_eq.mpr c7
   have ao4:(((ai ah ct).length:Int) != 2)=false:=bne_eq_false_iff_eq.mpr c7
   clear c7
   replace H:=iS H;obtain ⟨c8,H⟩:=H
   have p8:=decide_eq_true c8
   have ao5:decide (0 < (ai ah ct).length)=true:=decide_eq_true (by omega)
   clear c8
   replace H:=Option.bind_eq_some_iff.mp H
   obtain ⟨t105,vC,H⟩:=H
   replace H:(if t105=true then (if 1 < ((ai ah ct).length:Int) then ((jr.f (rd (ai ah ct) 1) 0 (wrap64 (au - 1))).bind fun t107=>(if t107=true then (fj.l0 k1 ah (ah.length:Int) (wrap64 (ct+1)) au ah) else (some false))) else (none)) else (some false))=some r:=H
   have A9:=k0 vC
   clear vC
   by_cases c10:t105=true
   case neg =>
    replace c10:=Bool.eq_false_iff.mpr c10
    subst c10
    have H1:(some false)=some r:=by rw [if_neg (show ¬ (false=true) by decide)] at H;exact H
    clear H
    have H:=H1
    clear H1
    obtain rfl:=Option.some.inj H
    have fF:0≤(ct:Int):=oD
    have fG:ct < (ah.length:Int):=oD
    obtain ⟨l_,wX,xC,e103,fR,aot,k6⟩:=fu dP.z ct fF fG
    cases e103
    replace fR:=hbc HB fR
    have aoQ:=k0 k6
    have ao':=k0 aot
    clear k6 aot
    replace fF:=eq_true fF
    replace fG:=eq_true fG
    have eJ:0≤(0:Int):=(by omega)
    have eL:0 < ((ai ah ct).length:Int):=oD
    obtain ⟨jY,e104,eF⟩:=Kd.cm aoQ.z 0 eJ eL
    cases e104
    have DP:(0 < (ai ah ct).length)=True:=eq_true (by omega)
    (try rw [show ((0:Int)).toNat=0 from rfl] at eF)
    (try rw [Addr.add_zero'] at eF)
    replace eF:=hbc HB eF
    replace eJ:=eq_true eJ
    replace eL:=eq_true eL
    have Qe:=aX aa
    have Qf:=aY aa
    have QC:=bF aa 0
    have QD:=bF aa 1
    go_wp2_with (first|(go_at_call 194;(with_reducible refine (jr.calls (rd (ai ah ct) 0) 0 (wrap64 (au - 1)) false _ A9.z).mono ?_);rintro e w' ⟨rfl,⟨nd,rfl⟩⟩;(try exact dN)))
    repeat (go_quiet (first|(go_at_call 194;(with_reducible refine (jr.calls (rd (ai ah ct) 0) 0 (wrap64 (au - 1)) false _ A9.z).mono ?_);rintro e w' ⟨rfl,⟨nd,rfl⟩⟩;(try exact dN)));try go_wp2_with (first|(go_at_call 194;(with_reducible refine (jr.calls (rd (ai ah ct) 0) 0 (wrap64 (au - 1)) false _ A9.z).mono ?_);rintro e w' ⟨rfl,⟨nd,rfl⟩⟩;(try exact dN))))
    go_ret
    exact ⟨eR,bl⟩
   subst c10
   have H1:(if 1 < ((ai ah ct).length:Int) then ((jr.f (rd (ai ah ct) 1) 0 (wrap64 (au - 1))).bind fun t107=>(if t107=true then (fj.l0 k1 ah (ah.length:Int) (wrap64 (ct+1)) au ah) else (some false))) else (none))=some r:=by rw [if_pos rfl] at H;exact H
   clear H
   have H:=H1
   clear H1
   replace H:=iS H;obtain ⟨c11,H⟩:=H
   have lS:=decide_eq_true c11
   have uv:decide (1 < (ai ah ct).length)=true:=decide_eq_true (by omega)
   clear c11
   replace H:=Option.bind_eq_some_iff.mp H
   obtain ⟨t107,Bg,H⟩:=H
   replace H:(if t107=true then (fj.l0 k1 ah (ah.length:Int) (wrap64 (ct+1)) au ah) else (some false))=some r:=H
   have vr:=k0 Bg
   clear Bg
   by_cases c13:t107=true
   case neg =>
    replace c13:=Bool.eq_false_iff.mpr c13
    subst c13
    have H1:(some false)=some r:=by rw [if_neg (show ¬ (false=true) by decide)] at H;exact H
    clear H
    have H:=H1
    clear H1
    obtain rfl:=Option.some.inj H
    have fF:0≤(ct:Int):=oD
    have fG:ct < (ah.length:Int):=oD
    obtain ⟨l_,wX,xC,e103,fR,aot,k6⟩:=fu dP.z ct fF fG
    cases e103
    replace fR:=hbc HB fR
    have aoQ:=k0 k6
    have ao':=k0 aot
    clear k6 aot
    replace fF:=eq_true fF
    replace fG:=eq_true fG
    have eJ:0≤(0:Int):=(by omega)
    have eL:0 < ((ai ah ct).length:Int):=oD
    obtain ⟨jY,e104,eF⟩:=Kd.cm aoQ.z 0 eJ eL
    cases e104
    have DP:(0 < (ai ah ct).length)=True:=eq_true (by omega)
    (try rw [show ((0:Int)).toNat=0 from rfl] at eF)
    (try rw [Addr.add_zero'] at eF)
    replace eF:=hbc HB eF
    replace eJ:=eq_true eJ
    replace eL:=eq_true eL
    have aaJ:=aX aa
    have aaK:=aY aa
    have abl:=bF aa 0
    have abm:=bF aa 1
    have ji:0≤(1:Int):=(by omega)
    have jk:1 < ((ai ah ct).length:Int):=oD
    obtain ⟨lB,e106,gz⟩:=Kd.cm aoQ.z 1 ji jk
    obtain rfl:jY=lB:=(by injection e106)
    (try simp only [show (1:Int).toNat=1 from rfl,Nat.reduceMul,Nat.reduceEqDiff,Go.Addr.add,↓reduceIte] at gz)
    have DQ:(1 < (ai ah ct).length)=True:=eq_true (by omega)
    (try rw [show ((1:Int)).toNat=1 from rfl] at gz)
    replace gz:=hbc HB gz
    replace ji:=eq_true ji
    replace jk:=eq_true jk
    go_wp2_with (first|(go_at_call 194;(with_reducible refine (jr.calls (rd (ai ah ct) 0) 0 (wrap64 (au - 1)) true _ A9.z).mono ?_);rintro e w' ⟨rfl,⟨nd,rfl⟩⟩;(try exact dN))|(go_at_call 194;(with_reducible refine (jr.calls (rd (ai ah ct) 1) 0 (wrap64 (au - 1)) false _ vr.z).mono ?_);rintro e w' ⟨rfl,⟨nd,rfl⟩⟩;(try exact dN)))
    repeat (go_quiet (first|(go_at_call 194;(with_reducible refine (jr.calls (rd (ai ah ct) 0) 0 (wrap64 (au - 1)) true _ A9.z).mono ?_);rintro e w' ⟨rfl,⟨nd,rfl⟩⟩;(try exact dN))|(go_at_call 194;(with_reducible refine (jr.calls (rd (ai ah ct) 1) 0 (wrap64 (au - 1)) false _ vr.z).mono ?_);rintro e w' ⟨rfl,⟨nd,rfl⟩⟩;(try exact dN)));try go_wp2_with (first|(go_at_call 194;(with_reducible refine (jr.calls (rd (ai ah ct) 0) 0 (wrap64 (au - 1)) true _ A9.z).mono ?_);rintro e w' ⟨rfl,⟨nd,rfl⟩⟩;(try exact dN))|(go_at_call 194;(with_reducible refine (jr.calls (rd (ai ah ct) 1) 0 (wrap64 (au - 1)) false _ vr.z).mono ?_);rintro e w' ⟨rfl,⟨nd,rfl⟩⟩;(try exact dN))))
    go_ret
    exact ⟨eR,bl⟩
   subst c13
   have H1:(fj.l0 k1 ah (ah.length:Int) (wrap64 (ct+1)) au ah)=some r:=by rw [if_pos rfl] at H;exact H
   clear H
   have H:=H1
   clear H1
   have H':=k0 H
   clear H
   have fF:0≤(ct:Int):=oD
   have fG:ct < (ah.length:Int):=oD
   obtain ⟨l_,wX,xC,e103,fR,aot,k6⟩:=fu dP.z ct fF fG
   cases e103
   replace fR:=hbc HB fR
   have aoQ:=k0 k6
   have ao':=k0 aot
   clear k6 aot
   replace fF:=eq_true fF
   replace fG:=eq_true fG
   have eJ:0≤(0:Int):=(by omega)
   have eL:0 < ((ai ah ct).length:Int):=oD
   obtain ⟨jY,e104,eF⟩:=Kd.cm aoQ.z 0 eJ eL
   cases e104
   have DP:(0 < (ai ah ct).length)=True:=eq_true (by omega)
   (try rw [show ((0:Int)).toNat=0 from rfl] at eF)
   (try rw [Addr.add_zero'] at eF)
   replace eF:=hbc HB eF
   replace eJ:=eq_true eJ
   replace eL:=eq_true eL
   have xY:=aX aa
   have xZ:=aY aa
   have ape:=bF aa 0
   have apf:=bF aa 1
   have ji:0≤(1:Int):=(by omega)
   have jk:1 < ((ai ah ct).length:Int):=oD
   obtain ⟨lB,e106,gz⟩:=Kd.cm aoQ.z 1 ji jk
   obtain rfl:jY=lB:=(by injection e106)
   (try simp only [show (1:Int).toNat=1 from rfl,Nat.reduceMul,Nat.reduceEqDiff,Go.Addr.add,↓reduceIte] at gz)
   have DQ:(1 < (ai ah ct).length)=True:=eq_true (by omega)
   (try rw [show ((1:Int)).toNat=1 from rfl] at gz)
   replace gz:=hbc HB gz
   replace ji:=eq_true ji
   replace jk:=eq_true jk
   go_wp2_with (first|(go_at_call 194;(with_reducible refine (jr.calls (rd (ai ah ct) 0) 0 (wrap64 (au - 1)) true _ A9.z).mono ?_);rintro e w' ⟨rfl,⟨nd,rfl⟩⟩;(try exact dN))|(go_at_call 194;(with_reducible refine (jr.calls (rd (ai ah ct) 1) 0 (wrap64 (au - 1)) true _ vr.z).mono ?_);rintro e w' ⟨rfl,⟨nd,rfl⟩⟩;(try exact dN)))
   repeat (go_quiet (first|(go_at_call 194;(with_reducible refine (jr.calls (rd (ai ah ct) 0) 0 (wrap64 (au - 1)) true _ A9.z).mono ?_);rintro e w' ⟨rfl,⟨nd,rfl⟩⟩;(try exact dN))|(go_at_call 194;(with_reducible refine (jr.calls (rd (ai ah ct) 1) 0 (wrap64 (au - 1)) true _ vr.z).mono ?_);rintro e w' ⟨rfl,⟨nd,rfl⟩⟩;(try exact dN)));try go_wp2_with (first|(go_at_call 194;(with_reducible refine (jr.calls (rd (ai ah ct) 0) 0 (wrap64 (au - 1)) true _ A9.z).mono ?_);rintro e w' ⟨rfl,⟨nd,rfl⟩⟩;(try exact dN))|(go_at_call 194;(with_reducible refine (jr.calls (rd (ai ah ct) 1) 0 (wrap64 (au - 1)) true _ vr.z).mono ?_);rintro e w' ⟨rfl,⟨nd,rfl⟩⟩;(try exact dN))))
   go_roundg k1
   case measure=>have:=bH.z;omega
   case rel=>exact ⟨(wrap64 (ct+1)),rs,H',⟨by have:=bH.z;omega⟩,⟨bk⟩,⟨bl⟩⟩
/-! ### F204: function 204 -/
def fo.l0 : Nat → Int → List (List Int) → Int → Int → Option ((List (List Int)))
 | 0,_,_,_,_=>none
 | k+1,x0,x3,x5,x6=>if x6 < x5 then (if 0≤x0 then (if (x0:Int).toNat≤35184372088832 then (if x3.length < 5864062014805 then (fo.l0 k x0 (x3 ++ [(List.replicate (x0:Int).toNat 0)]) x5 (wrap64 (x6+1))) else (none)) else (none)) else (none)) else (some x3)
def fo.f (k:Nat) (a0:Int):Option ((List (List Int))):=fo.l0 k a0 (([]:List (List Int))) a0 0
theorem fo.cC : ∀ k, (∀ y0 y1 y2 y3, ag (fo.l0 k y0 y1 y2 y3) (fo.l0 (k + 1) y0 y1 y2 y3))
 | 0=>fun _ _ _ _ r h=>by simp [fo.l0] at h
 | k+1=>by
  have a_:=fo.cC k
  ·intro y0 y1 y2 y3
   unfold fo.l0
   repeat' first
    | (with_reducible first|exact a_ _ _ _ _|exact ag.refl _|exact ag.none _|refine ag.ite ?_ ?_|refine ag.bind ?_ (fun _=>?_))
    | exact a_ _ _ _ _|exact ag.none _|refine ag.ite ?_ ?_|refine ag.bind ?_ (fun _=>?_)
theorem fo.mono:∀ a0 k,ag (fo.f k a0) (fo.f (k+1) a0):=by
 intro a0 k
 have a_:=fo.cC k
 unfold fo.f
 repeat' first
  | (with_reducible first|exact a_ _ _ _ _|exact ag.refl _|exact ag.none _|refine ag.ite ?_ ?_|refine ag.bind ?_ (fun _=>?_))
  | exact a_ _ _ _ _|exact ag.none _|refine ag.ite ?_ ?_|refine ag.bind ?_ (fun _=>?_)
theorem fo.calls (k : Nat) (a0 : Int) (r : List (List Int)) (w : World) (h : fo.f k a0 = some r) :
  Calls Try.prog 204 #[.int .i64 a0] w fun e w'=>∃ dw:Value,e=.returned (dw)∧Kd.S (Kd.slice 2 (Kd.int .i64)) 28 w' w.heap.size (fun _=>True) dw r∧Below w.heap.size w w':=by
 have HB:=k0 (Below.refl w.heap.size w)
 have H:(fo.l0 k a0 (([]:List (List Int))) a0 0)=some r:=h
 clear h
 obtain ⟨iH,jh⟩:∃ y_:List (List Int),y_=(([]:List (List Int))):=⟨_,rfl⟩
 replace H:(fo.l0 k a0 iH a0 0)=some r:=rH jh H
 have kW:=k0 jh
 clear jh
 have H':=k0 H
 clear H
 go_enter Try.func204,Try.ntmps204
 go_wp2_with (first|((with_reducible refine bN (N:=4) rfl ?_);refine Kd.z_ (Kd.slice 2 (Kd.int .i64)) _ 28 ?hg (N:=4) ?hd (xs:=([]:List (List Int))) (inner:=[]) (ok:=fun _=>True) (anX:=fun _=>True) ?hr ?hp (fun _ hk=>hk) trivial (Below.refl _ _) (Nat.le_refl _) (by simp) ?_;(case hd=>rfl);(case hg=>rfl);(case hr=>first|(go_simp;done)|(go_simp;rfl));(case hp=>exact (bu.none _ _));intro aoK w2 og hb c_ dc;clear c_ dc;(first|rw [← kW.z] at og|(simp only [Int.reduceToNat] at og;rw [← kW.z] at og));have jQ:=k0 (Kd.gD og (anG bl));replace HB:=k0 (anH bl hb);clear hb og))
 go_loopg [3,6] k (fun kq v3 v6 w'=>∃ (anO:List (List Int)) (eA:Int),v6=.int .i64 eA∧ak (fo.l0 kq a0 anO a0 eA=some r)∧ak (kq≤k)∧ak (Kd.S (Kd.slice 2 (Kd.int .i64)) 28 w' w.heap.size (fun _=>True) v3 anO)∧ak (Below w.heap.size w w'))
 case atStart=>exact ⟨(iH),(0),rs,H',⟨Nat.le_refl _⟩,⟨aS (jQ.z)⟩,⟨bl⟩⟩
 case round =>
  clear H'
  obtain ⟨anO,eA,rfl,HA,bH,bh,HB⟩:=hrel
  cases gk with
  | zero=>exact absurd HA.z (by simp [fo.l0])
  | succ k1 =>
   have H:=HA.z
   clear HA
   simp only [fo.l0] at H
   by_cases c4:eA < a0
   case neg =>
    rw [if_neg c4] at H
    have gT:decide (eA < a0)=false:=decide_eq_false c4
    clear c4
    obtain rfl:=Option.some.inj H
    go_wp2
    go_ret
    exact ⟨_,eR,by (with_reducible repeat (first|apply Kd.di|apply Kd.dm|apply Kd.cS));exact bh.z,bl⟩
   rw [if_pos c4] at H
   have gT:=decide_eq_true c4
   clear c4
   replace H:=iS H;obtain ⟨c5,H⟩:=H
   have aoo:=eq_true c5
   have EX:=decide_eq_true c5
   clear c5
   replace H:=iS H;obtain ⟨c6,H⟩:=H
   have iD:=eq_true c6
   have oF:=decide_eq_true c6
   clear c6
   obtain ⟨qT,pH⟩:∃ y_:List Int,y_=(List.replicate (a0:Int).toNat 0):=⟨_,rfl⟩
   replace H:(if anO.length < 5864062014805 then (fo.l0 k1 a0 (anO ++ [qT]) a0 (wrap64 (eA+1))) else (none))=some r:=rH pH H
   have vN:=k0 pH
   clear pH
   replace H:=iS H;obtain ⟨c7,H⟩:=H
   have ap1:=k0 c7
   clear c7
   obtain ⟨gX,pI⟩:∃ y_:List (List Int),y_=(anO ++ [qT]):=⟨_,rfl⟩
   replace H:(fo.l0 k1 a0 gX a0 (wrap64 (eA+1)))=some r:=rH pI H
   have uj:=k0 pI
   clear pI
   have H':=k0 H
   clear H
   go_wp2_with (first|((with_reducible refine bN (N:=10) rfl ?_);refine Kd.H_ (Kd.int .i64) _ 2 rfl (N:=10) rfl 28 _ _ rfl a0 rfl rfl Try.underlying28 (.int .i64 0) 8 aoj rfl (by decide) (by omega) 0 (ok:=fun _=>True) (anX:=fun _=>True) rfl (fun _ hk=>hk) trivial oD (Nat.le_trans (Nat.mul_le_mul_right _ (oD:a0.toNat≤35184372088832)) (by omega)) (Below.refl _ _) (Nat.le_refl _) ?_;intro v105 w8 AJ hb c_ dc;clear c_ dc;(first|rw [← vN.z] at AJ|(simp only [Int.reduceToNat] at AJ;rw [← vN.z] at AJ));replace bh:=k0 (Kd.an6 (aS bh.z) (Kd.aU AJ) hb);have kS:=k0 (Kd.cH AJ (anG bl));replace HB:=k0 (anH bl hb);clear hb AJ;obtain ⟨eG,dZ,ru⟩:=Kd.cK kS.z;subst ru)|((with_reducible refine aoi (b:=.append) (xs:=#[.tmp 8,.tmp 11]) rfl ?_);at_builtin;refine Kd.tA (Kd.slice 2 (Kd.int .i64)) (w0:=w) w.heap.size rfl (.tmp 8) (.tmp 11) 22 28 (.slice none 0 0) 24 rfl Try.underlying22 qI rfl (by decide) (by omega) u3 anO qT [.slice eG qT.length dZ] (fun _=>True) (fun k_=>some k_=(.slice eG qT.length dZ:Value).ownBlock) rfl rfl ?aP (fun k_ b9=>((Kd.aT (ok':=fun k_=>((fun _=>True)) k_∧some k_ ≠ (u3:Value).ownBlock) (Kd.jx (kS.z) (Kd.iR bh.z) (by decide)) (fun k_ hk=>⟨trivial,hk.2⟩))).1 k_ b9.symm) ?aF ?aO ?aB ?aS ?aL ?_;(case aP=>exact Kd.lg (Kd.aT (Kd.oB rfl (Kd.aT (ok':=fun k_=>((fun _=>True)) k_∧some k_ ≠ (u3:Value).ownBlock) (Kd.jx (kS.z) (Kd.iR bh.z) (by decide)) (fun k_ hk=>⟨trivial,hk.2⟩))) (fun _ h_=>h_)));(case aB=>exact bl);(case aF=>exact (fun _ _=>trivial));(case aO=>exact (by (with_reducible repeat (first|apply Kd.di|apply Kd.dm|apply Kd.cS));exact Kd.anW bh.z (fun k_ hk=>⟨trivial,fun e_=>hk.2 e_⟩)));(case aS=>exact (anG bl));(case aL=>have:=ap1.out;omega);intro cw qN ho hb hg bz;rw [← uj.z] at ho;have av:=k0 (hb);have ax:=k0 (ho);clear HB;clear bh;clear kS;have HB:=av;have dy:=ax;clear av ax;clear ho hb hg bz))
   go_roundg k1
   case measure=>have:=bH.z;omega
   case rel=>exact ⟨(gX),(wrap64 (eA+1)),rs,H',⟨by have:=bH.z;omega⟩,⟨aS (dy.z)⟩,⟨bl⟩⟩
end Go.Proofs.Ytoebojnhchocaaa.G
/- Set with little white space, by a program. -/
