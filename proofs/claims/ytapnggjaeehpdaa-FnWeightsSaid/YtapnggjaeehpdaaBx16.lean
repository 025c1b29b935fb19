/- Go's calls come to what the Lean functions say. Condition of each: that the Lean function answers. -/
import Derived.Test.YtapnggjaeehpdaaBx0
import Derived.Test.YtapnggjaeehpdaaBx1
import Derived.Test.YtapnggjaeehpdaaBx7
import Derived.Test.YtapnggjaeehpdaaBx8
import Derived.Test.YtapnggjaeehpdaaBx13
import Derived.Test.YtapnggjaeehpdaaBx14
import Derived.Test.YtapnggjaeehpdaaBx15
namespace Go.Proofs.Ytapnggjaeehpdaa.B
open Go.RowKit Go.Proofs.bz.dI Go.Proofs.bz.iY Go.Proofs.bz.jn
attribute [local go_sem] max2_int min2_int max_two min_two max_three min_three max_four min_four
set_option linter.unusedVariables false
set_option linter.unusedSimpArgs false
set_option maxHeartbeats 8000000
set_option maxRecDepth 100000
/-! ### F34: function 34 -/
def BF.f (k:Nat) (a0:Int) (aE:Int) (az:List (List Int)) (l2:List Int):Option (List Int × Int):=(mU.f k a0 aE az l2).bind fun t102=>(if t102=0 then ((gF.f k aE az l2).bind fun t103=>((bI.f k a0 t103).bind fun t106=>(some (t106,0)))) else (some (([]:List Int),t102)))
theorem BF.calls (k : Nat) (a0 : Int) (aE : Int) (atb : Option Addr) (atc : Nat) (az : List (List Int)) (A2 : Option Addr) (c2 : Nat) (l2 : List Int) (r1 : List Int) (r2 : Int) (w : World) (iB : Kd.C (Kd.slice 2 (Kd.int .i64)) w atb az.length az) (iz : az.length ≤ atc) (atQ : Kd.C (Kd.int .i64) w A2 l2.length l2) (at4 : l2.length ≤ c2) (h : BF.f k a0 aE az l2 = some (r1, r2)) :
  Calls Try.prog 34 #[.int .i64 a0,.agg #[.int .i64 aE,.slice atb az.length atc],.slice A2 l2.length c2] w fun e w'=>∃ ati:Value,e=.returned (.tuple #[ati,.int .i64 r2])∧Kd.R (Kd.int .i64) 2 w' w.heap.size (fun _=>True) ati r1∧Below w.heap.size w w':=by
 have gV:=Try.underlying26
 have ep:=k0 iB
 have eo:=k0 iz
 clear iB iz
 have iX:=k0 atQ
 have atO:=k0 at4
 clear atQ at4
 have HB:=k0 (Below.refl w.heap.size w)
 unfold BF.f at h
 have H:=h
 clear h
 replace H:=bS H;obtain ⟨t102,A4,H⟩:=H
 replace H:=iE H;obtain ⟨c5,gJ,rA,H⟩|⟨gJ,rA,H⟩:=H
 case inl =>
  obtain ⟨rfl,rfl⟩:=mT H
  go_enter Try.func34,Try.ntmps34
  go_wp2_with (first|(refine aX (N:=4) rfl ?_;refine dL 4 #[.int .i64 aE,.slice atb az.length atc] 26 bl ?_;intro ay sF aa bn HB;have cG:=bn;obtain ⟨_,_,_,_⟩:=as9 aa)|(refine aT (f:=81) rfl ?_;refine gC (some 12) Try.func81 #[.int .i64 a0,.agg #[.int .i64 aE,.slice atb az.length atc],.slice A2 l2.length c2] ?_;(with_reducible refine (mU.calls k a0 aE _ _ az _ _ l2 t102 _ ?av ?ax ?bM ?bT A4.z).mono ?_);(case av=>exact aC (Kd.bL ep.z HB.z));(case ax=>exact eo.z);(case bM=>exact aC (Kd.bL iX.z HB.z));(case bT=>exact atO.z);rintro e yq ⟨rfl,hb⟩;refine ⟨_,rfl,?_⟩;replace aa:=kB aa hb;replace HB:=bW hb))
  go_ret2
  exact ⟨_,eR,by first|exact Kd.rZ _ _ _ _ _|exact Kd.xR _ _ _ _ _|exact Kd.xX _ _ _ _ _|exact Kd.xV _ _ _ _ _|exact Kd.xW _ _ _ _ _,bl⟩
 replace H:=bS H;obtain ⟨t103,A6,H⟩:=H
 replace H:=bS H;obtain ⟨t106,A7,H⟩:=H
 obtain ⟨rfl,rfl⟩:=mT H
 go_enter Try.func34,Try.ntmps34
 go_wp2_with (first|(refine aX (N:=4) rfl ?_;refine dL 4 #[.int .i64 aE,.slice atb az.length atc] 26 bl ?_;intro ay w8 aa bn HB;have cG:=bn;obtain ⟨_,_,_,_⟩:=as9 aa)|(refine aT (f:=81) rfl ?_;refine gC (some 12) Try.func81 #[.int .i64 a0,.agg #[.int .i64 aE,.slice atb az.length atc],.slice A2 l2.length c2] ?_;(with_reducible refine (mU.calls k a0 aE _ _ az _ _ l2 t102 _ ?av ?ax ?bM ?bT A4.z).mono ?_);(case av=>exact aC (Kd.bL ep.z HB.z));(case ax=>exact eo.z);(case bM=>exact aC (Kd.bL iX.z HB.z));(case bT=>exact atO.z);rintro e pT ⟨rfl,hb⟩;refine ⟨_,rfl,?_⟩;replace aa:=kB aa hb;replace HB:=bW hb;obtain ⟨_,_,_,_⟩:=as9 aa)|(refine aT (f:=83) rfl ?_;refine gC (some 19) Try.func83 #[.agg #[.int .i64 aE,.slice atb az.length atc],.slice A2 l2.length c2] ?_;(with_reducible refine (gF.calls k aE _ _ az _ _ l2 t103 _ ?av ?ax ?bM ?bT A6.z).mono ?_);(case av=>exact aC (Kd.bL ep.z HB.z));(case ax=>exact eo.z);(case bM=>exact aC (Kd.bL iX.z HB.z));(case bT=>exact atO.z);rintro e auL ⟨xj,rfl,as2,hb⟩;refine ⟨_,rfl,?_⟩;have jf:=k0 (Kd.jD as2 (as8 bl));replace aa:=kB aa hb;replace HB:=bW hb;obtain ⟨gu,gj,rfl⟩:=Kd.er jf.z)|(refine aT (f:=82) rfl ?_;refine gC (some 20) Try.func82 #[.int .i64 a0,.slice gu t103.length gj] ?_;(with_reducible refine (bI.calls k a0 _ _ t103 t106 _ ?av ?ax A7.z).mono ?_);(case av=>exact aC ((Kd.as4 jf.z).2.2));(case ax=>exact (Kd.as4 jf.z).2.1);rintro e vk ⟨Iq,rfl,as2,hb⟩;refine ⟨_,rfl,?_⟩;replace jf:=kg jf (Kd.bh as2) hb;have kS:=k0 (Kd.cg as2 (as8 bl));replace aa:=kB aa hb;replace HB:=bW hb))
 go_ret2
 exact ⟨_,eR,aR kS.z,bl⟩
/-! ### F59: function 59 -/
def BJ.f (asZ:List Int) (bB:Int) (ate:Int) (a1:Int):Option (Int × Int × Int):=(cw.f asZ bB ate 14).bind fun vS=>(if vS.1=0 then ((gD.f asZ vS.2.1 vS.2.2 (([(-1),wrap64 (a1+1),1099511627776,(-4611686018427387904)]:List Int))).bind fun yV=>(some (yV.1,yV.2.1,yV.2.2))) else ((cw.f asZ vS.2.1 vS.2.2 (wrap64 (a1+1))).bind fun ot=>(some (ot.1,ot.2.1,ot.2.2))))
theorem BJ.calls (g : Nat) (asZ : List Int) (bB : Int) (ate : Int) (a1 : Int) (r1 : Int) (r2 : Int) (r3 : Int) (w0 w : World) (hI : ag w0 w g asZ bB ate) (hB : Below w0.heap.size w0 w) (h : BJ.f asZ bB ate a1 = some (r1, r2, r3)) :
  Calls Try.prog 59 #[.pointer (some ⟨g,0,none⟩),.int .i64 a1] w fun e w'=>e=.returned (.int .i64 r1)∧ag w0 w' g asZ r2 r3∧Below w0.heap.size w0 w'∧bx w w' g none:=by
 have ah:=k0 hI
 have HK:=k0 (bx.refl w g none)
 have HL:=k0 hB.size
 clear hI
 have jg:=k0 hB.size
 have HB:=k0 hB
 clear hB
 unfold BJ.f at h
 have H:=h
 clear h
 replace H:=bS H;obtain ⟨⟨t101,t102,t103⟩,A3,H⟩:=H
 dsimp only at H
 replace H:=iE H;obtain ⟨c4,gI,au4,H⟩|⟨gI,au4,H⟩:=H
 case inl =>
  replace H:=bS H;obtain ⟨⟨t110,t111,t112⟩,xE,H⟩:=H
  dsimp only at H
  simp only [Option.some.injEq,Prod.mk.injEq] at H
  obtain ⟨rfl,rfl,rfl⟩:=H
  go_enter Try.func59,Try.ntmps59
  go_wp2_with (first|(refine aT (f:=49) rfl ?_;refine gC (some 6) Try.func49 #[.pointer (some ⟨g,0,none⟩),.int .i64 14] ?_;(with_reducible refine (cw.calls g asZ bB ate 14 t101 t102 t103 w0 _ ?av ?ax A3.z).mono ?_);(case av=>exact aA ah.z);(case ax=>exact aG (ag.ge ah.z) HB.z);rintro e auL ⟨rfl,hi,hb,hk⟩;refine ⟨_,rfl,?_⟩;replace HK:=atm HK hk;replace HB:=k0 hb;replace ah:=k0 hi)|(refine aT (f:=49) rfl ?_;refine gC (some 16) Try.func49 #[.pointer (some ⟨g,0,none⟩),.int .i64 (wrap64 (a1+1))] ?_;(with_reducible refine (cw.calls g asZ t102 t103 (wrap64 (a1+1)) t110 t111 t112 w0 _ ?av ?ax xE.z).mono ?_);(case av=>exact aA ah.z);(case ax=>exact aG (ag.ge ah.z) HB.z);rintro e rK ⟨rfl,hi,hb,hk⟩;refine ⟨_,rfl,?_⟩;replace HK:=atm HK hk;replace HB:=k0 hb;replace ah:=k0 hi))
  go_ret
  exact ⟨eR,aA ah.z,aG (ag.ge ah.z) HB.z,aK HK.z⟩
 obtain ⟨mA,mW⟩:=nY (([(-1),wrap64 (a1+1),1099511627776,(-4611686018427387904)]:List Int):List Int)
 replace H:((gD.f asZ t102 t103 mA).bind fun yV=>(some (yV.1,yV.2.1,yV.2.2)))=some (r1,r2,r3):=rH mW.z H
 replace H:=bS H;obtain ⟨⟨t107,t108,t109⟩,A5,H⟩:=H
 dsimp only at H
 simp only [Option.some.injEq,Prod.mk.injEq] at H
 obtain ⟨rfl,rfl,rfl⟩:=H
 go_enter Try.func59,Try.ntmps59
 go_wp2_with (first|(refine aT (f:=49) rfl ?_;refine gC (some 6) Try.func49 #[.pointer (some ⟨g,0,none⟩),.int .i64 14] ?_;(with_reducible refine (cw.calls g asZ bB ate 14 t101 t102 t103 w0 _ ?av ?ax A3.z).mono ?_);(case av=>exact aA ah.z);(case ax=>exact aG (ag.ge ah.z) HB.z);rintro e w6 ⟨rfl,hi,hb,hk⟩;refine ⟨_,rfl,?_⟩;replace HK:=atm HK hk;replace HB:=k0 hb;replace ah:=k0 hi)|(refine aX (N:=11) rfl ?_;refine jM 2 (N:=11) (xs:=([(-1),wrap64 (a1+1),1099511627776,(-4611686018427387904)]:List Int)) (inner:=[.int .i64 (-1),.int .i64 (wrap64 (a1+1)),.int .i64 1099511627776,.int .i64 (-4611686018427387904)]) (aJ.one (show Kd.M (Kd.int .i64) _ _ _ (-1) [.int .i64 (-1)] from rfl) (aJ.one (show Kd.M (Kd.int .i64) _ _ _ (wrap64 (a1+1)) [.int .i64 (wrap64 (a1+1))] from rfl) (aJ.one (show Kd.M (Kd.int .i64) _ _ _ 1099511627776 [.int .i64 1099511627776] from rfl) (aJ.one (show Kd.M (Kd.int .i64) _ _ _ (-4611686018427387904) [.int .i64 (-4611686018427387904)] from rfl) (aJ.none _ _))))) ?_;intro qV w7 uJ hb bR atf;clear bR atf;(first|rw [← mW.z] at uJ|(simp only [Int.reduceToNat] at uJ;rw [← mW.z] at uJ));have dG:=k0 (Kd.cg uJ (b_ (aK HK.z)));replace HK:=eC HK hb;replace HB:=k0 (cu (aG (ag.ge ah.z) HB.z) hb);replace ah:=k0 (ag.below (aA ah.z) hb);clear hb uJ;obtain ⟨nu,atP,rfl⟩:=Kd.b9 dG.z)|(refine aT (f:=51) rfl ?_;refine gC (some 12) Try.func51 #[.pointer (some ⟨g,0,none⟩),.slice nu mA.length atP] ?_;(with_reducible refine (gD.calls g asZ t102 t103 _ _ mA t107 t108 t109 w0 _ ?av ?ax ?bM ?bT ?iG A5.z).mono ?_);(case av=>exact aA ah.z);(case ax=>exact aG (ag.ge ah.z) HB.z);(case bM=>exact aC ((Kd.bD dG.z).2.2));(case bT=>exact (Kd.bD dG.z).2.1);(case iG=>exact yb (ag.lK ah.z dG.z (by decide)));rintro e pT ⟨rfl,hi,hb,hk⟩;refine ⟨_,rfl,?_⟩;replace dG:=k0 (Kd.aH (Kd.atM (ag.apart (show ag w0 _ g asZ t102 t103 from aA ah.z) (aR dG.z) (by decide)) hk (fun _ h=>h.2)) (fun _ h=>h.1));replace HK:=atm HK hk;replace HB:=k0 hb;replace ah:=k0 hi))
 go_ret
 exact ⟨eR,aA ah.z,aG (ag.ge ah.z) HB.z,aK HK.z⟩
/-! ### F35: function 35 -/
def auq.f (k:Nat) (l0:List Int):Option (Int × Int × (List (List Int)) × List Int × Int):=(je.f k l0).bind fun eN=>((iJ.f k eN.1 eN.2.1 eN.2.2).bind fun gi=>((BJ.f eN.1 gi.2.2.2.2.1 gi.2.2.2.2.2 20).bind fun F8=>((gD.f eN.1 F8.2.1 F8.2.2 (([1,2,3,4,F8.1]:List Int))).bind fun NQ=>(some (gi.1,gi.2.1,gi.2.2.1,gi.2.2.2.1,NQ.1)))))
def auq.T3:Bool × List (List Nat × List Nat):=(true,[([],[]),([],[]),([],[]),([],[]),([],[]),([4],[4]),([5],[5]),([3,6,5],[3,6]),([0,7,0],[0]),([1,8,0,1,8],[1]),([2,9,0,1,2,8,9],[2]),([7,10,0,1,2,3,4,5,6,7,8,9,10],[7])])
def auq.B3:List Nat:=[0,0,0,0,0,16,48,120,249,507,1023,2047]
theorem auq.Rh:eB .any (opsOf Try.f35 3)=auq.T3:=by kernel_rfl
theorem auq.NK:ie auq.T3.2 auq.B3=true:=by kernel_rfl
theorem auq.calls (k : Nat) (A0 : Option Addr) (c0 : Nat) (l0 : List Int) (r1 : Int) (r2 : Int) (r3 : List (List Int)) (r4 : List Int) (r5 : Int) (w : World) (bX : Kd.C (Kd.int .u8) w A0 l0.length l0) (hc0 : l0.length ≤ c0) (h : auq.f k l0 = some (r1, r2, r3, r4, r5)) :
  Calls Try.prog 35 #[.slice A0 l0.length c0] w fun e w'=>∃ ql qW:Value,e=.returned (.tuple #[.int .i64 r1,.agg #[.int .i64 r2,ql],qW,.int .i64 r5])∧Kd.V (Kd.slice 2 (Kd.int .i64)) 29 w' w.heap.size (fun k_=>(w.heap.size≤k_)∧some k_ ≠ (qW:Value).ownBlock) ql r3∧Kd.R (Kd.int .i64) 2 w' w.heap.size (fun k_=>(w.heap.size≤k_)) qW r4∧Below w.heap.size w w':=by
 have gV:=Try.underlying26
 have dh:=k0 bX
 have gG:=k0 hc0
 clear bX hc0
 have HB:=k0 (Below.refl w.heap.size w)
 unfold auq.f at h
 have H:=h
 clear h
 replace H:=bS H;obtain ⟨⟨t102,t103,t104⟩,A2,H⟩:=H
 dsimp only at H
 replace H:=bS H;obtain ⟨⟨t106,t107,t108,t111,t114,t115⟩,A3,H⟩:=H
 dsimp only at H
 replace H:=bS H;obtain ⟨⟨t117,t118,t119⟩,A4,H⟩:=H
 dsimp only at H
 obtain ⟨Dk,D4⟩:=nY (([1,2,3,4,t117]:List Int):List Int)
 replace H:((gD.f t102 t118 t119 Dk).bind fun NQ=>(some (t106,t107,t108,t111,NQ.1)))=some (r1,r2,r3,r4,r5):=rH D4.z H
 replace H:=bS H;obtain ⟨⟨t123,t124,t125⟩,A5,H⟩:=H
 dsimp only at H
 simp only [Option.some.injEq,Prod.mk.injEq] at H
 obtain ⟨rfl,rfl,rfl,rfl,rfl⟩:=H
 go_enter Try.func35,Try.ntmps35
 try go_wp2_with (first|(refine aX (N:=3) rfl ?_;refine dL 3 #[.int .i64 0,.slice none 0 0] 26 bl ?_;intro ay w6 aa bn HB;have cG:=bn)|(refine aT (f:=47) rfl ?_;refine gC (some 11) Try.func47 #[.slice A0 l0.length c0] ?_;(with_reducible refine (je.calls k _ _ l0 t102 t103 t104 w _ ?av ?ax ?bM A2.z).mono ?_);(case av=>exact aL HB.z);(case ax=>exact dh.z);(case bM=>exact gG.z);rintro e w7 ⟨g105,rfl,hi,hb,hU⟩;refine ⟨_,rfl,?_⟩;replace HB:=k0 hb;have bJ:=k0 hi;have auG:=k0 (ag.avj hi (ck (aB aa.z) hU) (by decide));have qy:=k0 (Ne.symm (ag.avj hi (ck (aB aa.z) hU) (by decide)));replace aa:=kB aa hU)|(refine aT (f:=75) rfl ?_;refine gC (some 14) Try.func75 #[.pointer (some ⟨g105,0,none⟩)] ?_;(with_reducible refine (iJ.calls k g105 t102 t103 t104 t106 t107 t108 t111 t114 t115 w _ ?av ?ax A3.z).mono ?_);(case av=>exact aA bJ.z);(case ax=>exact aG (ag.ge bJ.z) HB.z);rintro e w8 ⟨Lq,cA,rfl,as2,k8,hi,hb,hk⟩;refine ⟨_,rfl,?_⟩;have fk:=k0 (Kd.vR (Kd.bf (ok':=fun k_=>(w.heap.size≤k_)∧some k_ ≠ (cA:Value).ownBlock∧k_ ≠ ay∧k_ ≠ g105) as2 (fun k_ aU=>⟨(Nat.le_trans (as8 (aG (ag.ge bJ.z) HB.z)) aU.1),aU.2,(Kd.qK (aB aa.z) k_ aU.1),(ag.fresh (aA bJ.z) k_ aU.1)⟩)) (as8 (aG (ag.ge bJ.z) HB.z)));replace aa:=kK hk aa qy;have eg:=k0 (Kd.cg (Kd.rY (M:=fun k_=>(w.heap.size≤k_)) (Kd.aH (ok':=fun k_=>True) k8 (fun _ aU=>trivial)) (as8 (aG (ag.ge bJ.z) HB.z)) (fun k_ h_=>h_)) (as8 (aG (ag.ge bJ.z) HB.z)));replace HB:=k0 hb;replace bJ:=k0 hi)|(refine aX (N:=8) rfl ?_;refine eJ 8 #[.int .i64 0,.slice none 0 0] 26 ?_;intro cl hg w9 aY hb;replace fk:=atZ fk hg hb;replace eg:=eI eg hb;have fT:=k0 aY;have Sm:=k0 ((by rw [hg];exact (as8 (aG (ag.ge bJ.z) HB.z)):w.heap.size≤cl));have Sk:=k0 ((by rw [hg];exact (as8 (aG (ag.ge bJ.z) HB.z)):w.heap.size≤cl));replace HB:=k0 (cu (aG (ag.ge bJ.z) HB.z) hb);have vI:=nL hg aa;have lU:=nG vI;replace aa:=kB aa hb;have Te:=k0 ((by rw [hg];exact Nat.ne_of_lt (ag.lt (show ag w _ g105 t102 t114 t115 from aA bJ.z)):g105 ≠ cl));have Ac:=k0 ((by rw [hg];exact Nat.ne_of_gt (ag.lt (show ag w _ g105 t102 t114 t115 from aA bJ.z)):cl ≠ g105));replace bJ:=k0 (ag.below (aA bJ.z) hb);clear hb aY hg;obtain ⟨_,_⟩:=nE lU;obtain ⟨_,_⟩:=nE Ac;obtain ⟨_,_,_,_⟩:=as9 fT;obtain ⟨gu,gj,rfl⟩:=Kd.auA fk.z))
 have fC:af (Kd.V (Kd.slice 2 (Kd.int .i64)) 29 ((w9.setCell ⟨cl,0,none⟩ (.int .i64 t107)).setCell ⟨cl,1,none⟩ (.slice gu t108.length gj)) w.heap.size (fun k_=>(w.heap.size≤k_)∧some k_ ≠ (cA:Value).ownBlock∧k_ ≠ ay∧k_ ≠ g105∧k_ ≠ cl) (.slice gu t108.length gj) t108):=⟨aV (Kd.bf (Kd.iO (p:=⟨cl,1,none⟩) (Kd.iO (p:=⟨cl,0,none⟩) (Kd.bf fk.z (fun k_ hk=>(⟨hk,hk.2⟩:_∧k_ ≠ cl))) (fun _ hk=>hk.2) (.int .i64 t107)) (fun _ hk=>hk.2) (.slice gu t108.length gj)) (fun _ hk=>⟨hk.1.1.1,⟨hk.1.1.2.1,⟨hk.1.1.2.2.1,⟨hk.1.1.2.2.2,hk.1.2⟩⟩⟩⟩))⟩
 have fD:af (Kd.R (Kd.int .i64) 2 ((w9.setCell ⟨cl,0,none⟩ (.int .i64 t107)).setCell ⟨cl,1,none⟩ (.slice gu t108.length gj)) w.heap.size (fun k_=>(w.heap.size≤k_)) cA t111):=⟨aR (Kd.aH (gR 1 (.slice gu t108.length gj) (gR 0 (.int .i64 t107) (tR eg fT))) (fun _ hk=>hk.1.1))⟩
 have gN:af (((w9.setCell ⟨cl,0,none⟩ (.int .i64 t107)).setCell ⟨cl,1,none⟩ (.slice gu t108.length gj)).heap[ay]?=some (.cells #[.int .i64 0,.slice none 0 0] 26 (0,0))):=⟨kZ⟩
 have jb:af (((w9.setCell ⟨cl,0,none⟩ (.int .i64 t107)).setCell ⟨cl,1,none⟩ (.slice gu t108.length gj)).heap[cl]?=some (sO t107 gu t108 gj 26)):=⟨kZ⟩
 have kn:af (ag w ((w9.setCell ⟨cl,0,none⟩ (.int .i64 t107)).setCell ⟨cl,1,none⟩ (.slice gu t108.length gj)) g105 t102 t114 t115):=⟨aA bJ.z⟩
 have aua:af (Below w.heap.size w ((w9.setCell ⟨cl,0,none⟩ (.int .i64 t107)).setCell ⟨cl,1,none⟩ (.slice gu t108.length gj))):=⟨aG (ag.ge bJ.z) HB.z⟩
 generalize ((w9.setCell ⟨cl,0,none⟩ (.int .i64 t107)).setCell ⟨cl,1,none⟩ (.slice gu t108.length gj))=vk at fC fD gN jb kn aua ⊢
 have fk:=fC
 have eg:=fD
 have aa:=gN
 have fT:=jb
 have bJ:=kn
 have HB:=aua
 clear fC fD gN jb kn aua
 replace fk:=k0 (Kd.vQ fk.z);replace eg:=k0 (Kd.di eg.z);replace aa:=k0 (dg aa.z);replace fT:=k0 (dg fT.z);replace bJ:=k0 (ag.drew bJ.z);replace HB:=k0 (eZ HB.z)
 refine atG (n:=12) (S:=fun w'=>w'.cell? ⟨cl,0,none⟩=some (.int .i64 t107)∧w'.cell? ⟨cl,1,none⟩=some (.slice gu t108.length gj)) (ds:=[]) (ba 12 0) (by kernel_rfl) rfl rfl ⟨dU fT,ej fT⟩ (fun hHeld=>?_);refine jX auq.Rh auq.NK (fun aj bP=>?_)
 generalize vk.drew=sF at fk eg aa fT bJ HB hHeld ⊢
 refine pu 0 (some 18) (ba 12 1) aj (h:=?_)
 refine pu 2 (some 20) (ba 12 5) aj (h:=?_)
 refine pu 3 (some 21) (ba 12 13) aj (h:=?_)
 refine pu 4 (some 22) (ba 12 29) aj (h:=?_)
 refine t_ 1 (some 19) (ba 12 31) aj bP hHeld (h:=?_)
 refine atw (i:=5) (N:=some 23) (ba 12 63) rfl rfl (atq aj.out (by kernel_rfl)) (by decide) (fun K hK=>?_)
 refine mI Try.func59 (by kernel_rfl) rfl #[.pointer (some ⟨g105,0,none⟩),.int .i64 20] (by rfl) rfl rfl gm ?_
 with_reducible refine (BJ.calls g105 t102 t114 t115 20 t117 t118 t119 w _ ?av ?ax A4.z).mono ?_
 (case av=>exact aA bJ.z)
 (case ax=>exact aG (ag.ge bJ.z) HB.z)
 rintro e yp ⟨rfl,hi,hb,hk⟩
 refine ⟨_,rfl,?_⟩
 replace aa:=kK hk aa qy;replace fk:=k0 (Kd.bf (Kd.nC (Kd.bf (ok:=fun k_=>(((w.heap.size≤k_))∧(some k_ ≠ (cA:Value).ownBlock∧(k_ ≠ ay∧(k_ ≠ g105∧k_ ≠ cl))))) (aV fk.z) (fun k_ aU=>(⟨aU,aU.2.2.2.1⟩:_∧k_ ≠ g105))) hk (fun _ h=>h.2)) (fun _ h=>h.1));replace eg:=k0 (Kd.aH (Kd.atM (ag.apart (show ag w _ g105 t102 t114 t115 from aA bJ.z) (aR eg.z) (by decide)) hk (fun _ h=>h.2)) (fun _ h=>h.1));replace fT:=kK hk fT Ac;replace HB:=k0 hb;replace bJ:=k0 hi
 refine hK.out _ _ ⟨dU fT,ej fT⟩ (fun hHeld=>?_)
 clear hK K
 refine hJ (a':=?_) ?_ ?_
 rotate_left;· show Act.put _ (some 23) _=_;simp only [Act.put,zI,zZ,zS,bp,bH];rfl
 refine atw (i:=6) (N:=some 24) (ba 12 127) rfl rfl (atq aj.out (by kernel_rfl)) (by decide) (fun K hK=>?_)
 refine LU 2 (N:=24) (xs:=([1,2,3,4,t117]:List Int)) (inner:=[.int .i64 1,.int .i64 2,.int .i64 3,.int .i64 4,.int .i64 t117]) (aJ.one (show Kd.M (Kd.int .i64) _ _ _ 1 [.int .i64 1] from rfl) (aJ.one (show Kd.M (Kd.int .i64) _ _ _ 2 [.int .i64 2] from rfl) (aJ.one (show Kd.M (Kd.int .i64) _ _ _ 3 [.int .i64 3] from rfl) (aJ.one (show Kd.M (Kd.int .i64) _ _ _ 4 [.int .i64 4] from rfl) (aJ.one (show Kd.M (Kd.int .i64) _ _ _ t117 [.int .i64 t117] from rfl) (aJ.none _ _)))))) ?_
 intro ar6 yq tE hb bR atf
 clear bR atf
 (first|rw [← D4.z] at tE|(simp only [Int.reduceToNat] at tE;rw [← D4.z] at tE))
 replace fk:=fl fk (Kd.bh tE) hb;have DQ:=k0 (Kd.cg (Kd.cU (Kd.rY (M:=fun k_=>(w.heap.size≤k_)) tE (as8 (aG (ag.ge bJ.z) HB.z)) (fun k_ h_=>h_)) (Kd.bV (aR eg.z))) (as8 (aG (ag.ge bJ.z) HB.z)));replace eg:=eO eg (Kd.bh tE) hb;replace aa:=kB aa hb;replace fT:=kB fT hb;replace HB:=k0 (cu (aG (ag.ge bJ.z) HB.z) hb);replace bJ:=k0 (ag.below (aA bJ.z) hb)
 clear hb tE
 obtain ⟨vt,uz,Gq⟩:=Kd.b9 DQ.z
 (first|subst Gq|(injection Gq with atu jq fc;have jr:=atu.symm;have js:=fc.symm;clear atu jq fc;subst jr;subst js))
 refine hK.out _ _ ⟨dU fT,ej fT⟩ (fun hHeld=>?_)
 clear hK K
 refine hJ (a':=?_) ?_ ?_
 rotate_left;· show Act.put _ (some 24) _=_;simp only [Act.put,zI,zZ,zS,bp,bH];rfl
 refine atw (i:=7) (N:=some 25) (ba 12 255) rfl rfl (atq aj.out (by kernel_rfl)) (by decide) (fun K hK=>?_)
 refine mI Try.func51 (by kernel_rfl) rfl #[.pointer (some ⟨g105,0,none⟩),.slice vt Dk.length uz] (by rfl) rfl rfl gm ?_
 with_reducible refine (gD.calls g105 t102 t118 t119 _ _ Dk t123 t124 t125 w _ ?av ?ax ?bM ?bT ?iG A5.z).mono ?_
 (case av=>exact aA bJ.z)
 (case ax=>exact aG (ag.ge bJ.z) HB.z)
 (case bM=>exact aC ((Kd.bD DQ.z).2.2))
 (case bT=>exact (Kd.bD DQ.z).2.1)
 (case iG=>exact yb (ag.lK bJ.z DQ.z (by decide)))
 rintro e Iw ⟨rfl,hi,hb,hk⟩
 refine ⟨_,rfl,?_⟩
 replace aa:=kK hk aa qy;replace fk:=k0 (Kd.bf (Kd.nC (Kd.bf (ok:=fun k_=>((((w.heap.size≤k_))∧(some k_ ≠ (cA:Value).ownBlock∧(k_ ≠ ay∧(k_ ≠ g105∧k_ ≠ cl))))∧some k_ ≠ (.slice vt Dk.length uz:Value).ownBlock)) (aV fk.z) (fun k_ aU=>(⟨aU,aU.1.2.2.2.1⟩:_∧k_ ≠ g105))) hk (fun _ h=>h.2)) (fun _ h=>h.1));replace eg:=k0 (Kd.aH (Kd.atM (ag.apart (show ag w _ g105 t102 t118 t119 from aA bJ.z) (aR eg.z) (by decide)) hk (fun _ h=>h.2)) (fun _ h=>h.1));replace fT:=kK hk fT Ac;replace DQ:=k0 (Kd.aH (Kd.atM (ag.apart (show ag w _ g105 t102 t118 t119 from aA bJ.z) (aR DQ.z) (by decide)) hk (fun _ h=>h.2)) (fun _ h=>h.1));replace HB:=k0 hb;replace bJ:=k0 hi
 refine hK.out _ _ ⟨dU fT,ej fT⟩ (fun hHeld=>?_)
 clear hK K
 refine hJ (a':=?_) ?_ ?_
 rotate_left;· show Act.put _ (some 25) _=_;simp only [Act.put,zI,zZ,zS,bp,bH];rfl
 refine pu 8 (some 2) (ba 12 511) aj (h:=?_)
 refine atw (i:=9) (N:=none) (ba 12 1023) rfl rfl (atq aj.out (by kernel_rfl)) (by decide) (fun K hK=>?_)
 obtain ⟨_,_⟩:=uD aa
 have arc:=lU.z
 have aqu:=vI.z
 have arv:=ej aa
 have apC:=bF aa 1
 have ard:=lU.z
 have aqv:=vI.z
 refine lf (w1:=?_) (by rfl) rfl ?_ ?_
 rotate_left;· go_simp;rfl
 refine hK.out _ _ ⟨((cell_far (p:=⟨ay,_,none⟩) lU.z _).trans (((cell_far (p:=⟨ay,_,none⟩) lU.z _).trans (hHeld.1)))),((cell_far (p:=⟨ay,_,none⟩) lU.z _).trans (((cell_far (p:=⟨ay,_,none⟩) lU.z _).trans (hHeld.2))))⟩ (fun hHeld=>?_)
 clear hK K
 refine pu 10 (some 4) (ba 12 2047) aj (h:=?_)
 refine pu 11 (some 5) (ba 12 4095) aj (h:=?_)
 refine gY (jU aj.out (by kernel_rfl)) ?_
 try go_wp2
 refine bodyPost_ret (zu (rs:=[.tmp 2,.cell 3 26,.tmp 4,.tmp 5]) rfl (by simp) (.tmp (.cell ay 26 #[.int .i64 t107,.slice gu t108.length gj] (0,0) _ rfl kZ Try.underlying26 rfl (by kernel_rfl) (.tmp (.tmp .nil))))) rfl ?_
 exact ⟨_,_,eR,aV (Kd.bf (Kd.iO (p:=⟨ay,1,none⟩) (Kd.iO (p:=⟨ay,0,none⟩) (Kd.bf fk.z (fun k_ hk=>(⟨hk,hk.1.2.2.1⟩:_∧k_ ≠ ay))) (fun _ hk=>hk.2) (.int .i64 t107)) (fun _ hk=>hk.2) (.slice gu t108.length gj)) (fun _ hk=>⟨hk.1.1.1,hk.1.1.2.1⟩)),aR (Kd.aH (gR 1 (.slice gu t108.length gj) (gR 0 (.int .i64 t107) (tR eg aa))) (fun _ hk=>hk.1.1)),aG (ag.ge bJ.z) HB.z⟩
/-! ### F58: function 58 -/
def auh.l0 : Nat → Int → List (List Int) → Int → Int → Option (Int)
 | 0,_,_,_,_=>none
 | k+1,x3,x6,x7,x8=>if x8 < x7 then (if 0≤x8 then (if x8 < (x6.length:Int) then (if x8 < ((ai x6 x8).length:Int) then (auh.l0 k (wrap64 (x3+(rd (ai x6 x8) x8))) x6 x7 (wrap64 (x8+1))) else (none)) else (none)) else (none)) else (some x3)
def auh.f (k:Nat) (l0:List (List Int)):Option (Int):=auh.l0 k 0 l0 (l0.length:Int) 0
theorem auh.calls (k : Nat) (A0 : Option Addr) (c0 : Nat) (l0 : List (List Int)) (r : Int) (w : World) (bX : Kd.C (Kd.slice 2 (Kd.int .i64)) w A0 l0.length l0) (hc0 : l0.length ≤ c0) (h : auh.f k l0 = some r) :
  Calls Try.prog 58 #[.slice A0 l0.length c0] w fun e w'=>e=.returned (.int .i64 r)∧iV w w':=by
 have dh:=k0 bX
 have gG:=k0 hc0
 clear bX hc0
 unfold auh.f at h
 have H:=h
 clear h
 have H':=k0 H
 clear H
 go_enter Try.func58,Try.ntmps58
 go_wp2
 go_loopg [3,8] k (fun kq v3 v8 w'=>∃ (cQ:Int) (dA:Int),v3=.int .i64 cQ∧v8=.int .i64 dA∧af (auh.l0 kq cQ l0 (l0.length:Int) dA=some r)∧af (kq≤k)∧iV w w')
 case atStart=>exact ⟨(0),(0),rs,rs,H',⟨Nat.le_refl _⟩,dW⟩
 case round =>
  clear H'
  obtain ⟨cQ,dA,rfl,rfl,HA,as3,⟨m1,rfl⟩⟩:=hrel
  cases gk with
  | zero=>exact absurd HA.z (by simp [auh.l0])
  | succ k1 =>
   have H:=HA.z
   clear HA
   simp only [auh.l0] at H
   replace H:=iC H;obtain ⟨Cg,H⟩|⟨Cg,H⟩:=H
   case inl =>
    obtain rfl:=Option.some.inj H
    go_wp2
    go_ret
    exact ⟨rs,dW⟩
   replace H:=iS H;obtain ⟨c3,H⟩:=H
   have lC:=decide_eq_true c3
   clear c3
   replace H:=iS H;obtain ⟨c4,H⟩:=H
   have gI:=decide_eq_true c4
   clear c4
   replace H:=iS H;obtain ⟨c5,H⟩:=H
   have gJ:=decide_eq_true c5
   clear c5
   have H':=k0 H
   clear H
   obtain ⟨atK,atL⟩:=iN dA (l0.length:Int)
   obtain ⟨ry,alI,ans,e101,pJ,Xw,Xe⟩:=b8 dh.z dA atK atL
   cases e101
   have abv:=k0 Xe
   have amG:=k0 Xw
   clear Xe Xw
   replace atK:=eT atK
   replace atL:=eT atL
   obtain ⟨cW,cX⟩:=iN dA ((ai l0 dA).length:Int)
   obtain ⟨lA,e102,eP⟩:=Kd.bK abv.z dA cW cX
   cases e102
   replace cW:=eT cW
   replace cX:=eT cX
   go_wp2
   go_roundg k1
   case measure=>have:=as3.z;omega
   case rel=>exact ⟨(wrap64 (cQ+(rd (ai l0 dA) dA))),(wrap64 (dA+1)),rs,rs,H',⟨by have:=as3.z;omega⟩,dW⟩
/-! ### F84: function 84 -/
def zW.f (k:Nat) (as0:Int) (ak:List (List Int)) (a1:Int) (kC:Int) (iD:List (List Int)) (l3:List Int) (a4:Int):Option Int :=
 (kQ.f k as0 ak).bind fun b=>if b=true then ((mC.f k a1).bind fun q0=>if q0=true then ((vz.f kC iD a1 l3).bind fun q1=>if q1=true then ((fU.f a4 1 20).bind fun q2=>if q2=true then some 0 else some 2) else some 2) else some 2) else some 1
theorem zW.calls {b1 : Nat} {b2 : Nat} {b3 : Nat} {b4 : Nat} (k : Nat) (as0 : Int) (bu : Option Addr) (bq : Nat) (ak : List (List Int)) (a1 : Int) (kC : Int) (nV : Option Addr) (ox : Nat) (iD : List (List Int)) (A3 : Option Addr) (c3 : Nat) (l3 : List Int) (a4 : Int) (r : Int) (w : World) (dy : Kd.C (Kd.slice 2 (Kd.int .i64)) w bu ak.length ak) (ey : ak.length ≤ bq) (AV : Kd.C (Kd.slice 2 (Kd.int .i64)) w nV iD.length iD) (EC : iD.length ≤ ox) (sy : Kd.C (Kd.int .i64) w A3 l3.length l3) (v_ : l3.length ≤ c3) (i_ : w.heap[b1]? = some (.cells #[.int .i64 a1] 2 (0, 0))) (hU : w.heap[b2]? = some (sO kC nV iD ox 26)) (auP : w.heap[b3]? = some (.cells #[.slice A3 l3.length c3] 29 (0, 0))) (CC : w.heap[b4]? = some (.cells #[.int .i64 a4] 2 (0, 0))) (h : zW.f k as0 ak a1 kC iD l3 a4 = some r) :
  Calls Try.prog 62 #[.agg #[.int .i64 as0,.slice bu ak.length bq],.func (.func 84) #[] #[.pointer (some ⟨b1,0,none⟩),.pointer (some ⟨b2,0,none⟩),.pointer (some ⟨b3,0,none⟩),.pointer (some ⟨b4,0,none⟩)]] w fun e w'=>e=.returned (.int .i64 r)∧Below w.heap.size w w':=by
 have dh:=k0 dy
 clear dy
 have iX:=k0 AV
 clear AV
 have uj:=k0 sy
 clear sy
 have nW:=k0 i_
 have L8:=lX i_
 clear i_
 have iU:=k0 hU
 have L9:=lX hU
 clear hU
 have aup:=k0 auP
 have Se:=lX auP
 clear auP
 have vv:=k0 CC
 have BZ4:=lX CC
 clear CC
 unfold zW.f at h
 obtain ⟨b,hb,h⟩:=Option.bind_eq_some_iff.mp h
 have HG:=fun W (hw:Below w.heap.size w W)=>kQ.calls k as0 bu bq ak b W (Kd.bL dh.z hw) ey hb
 have BS:=k0 HG
 clear HG hb
 cases b
 case' true =>
  simp only [if_true] at h
  obtain ⟨q0,wE,h⟩:=Option.bind_eq_some_iff.mp h
  have sZ:=fun W (hw:Below w.heap.size w W)=>mC.calls k (a1) q0 W  wE
  have BV:=k0 sZ
  clear sZ wE
  cases q0
  case' true =>
   simp only [if_true] at h
   obtain ⟨q1,rG,h⟩:=Option.bind_eq_some_iff.mp h
   have vE:=fun W (hw:Below w.heap.size w W)=>vz.calls kC nV ox iD (a1) A3 c3 l3 q1 W (Kd.bL iX.z hw) EC (Kd.bL uj.z hw) v_ rG
   have BW:=k0 vE
   clear vE rG
   cases q1
   case' true =>
    simp only [if_true] at h
    obtain ⟨q2,AR,h⟩:=Option.bind_eq_some_iff.mp h
    have SR:=fun W (hw:Below w.heap.size w W)=>fU.calls (a4) (1) (20) q2 W  AR
    have abo:=k0 SR
    clear SR AR
    cases q2
    case' true =>
     simp only [if_true] at h
 all_goals
  simp only [Bool.false_eq_true,if_false,Option.some.injEq] at h
  subst h
  go_enter Try.func62,Try.ntmps62
  go_wp2_with (first|(go_at_call 66;refine (BS.out _ (by repeat (first|exact Below.refl _ _|apply eH|apply atz))).mono ?_;rintro e w1 ⟨rfl,i_⟩;have dw:=k0 (cu (by repeat (first|exact Below.refl _ _|apply eH|apply atz)) i_:Below w.heap.size w w1);clear i_;have Pg:w1.cell? ⟨b1,0,none⟩=some (.int .i64 a1):=(dY (ck nW.z dw.z) 0).trans rfl;have Pr:=fA (ck nW.z dw.z) 0;have Ph:w1.cell? ⟨b2,0,none⟩=some (.int .i64 kC):=(dY (ck iU.z dw.z) 0).trans rfl;have Pt:=fA (ck iU.z dw.z) 0;have WJ:w1.cell? ⟨b2,1,none⟩=some (.slice nV iD.length ox):=(dY (ck iU.z dw.z) 1).trans rfl;have WZ:=fA (ck iU.z dw.z) 1;have WK:w1.cell? ⟨b3,0,none⟩=some (.slice A3 l3.length c3):=(dY (ck aup.z dw.z) 0).trans rfl;have avY:=fA (ck aup.z dw.z) 0;have agQ:w1.cell? ⟨b4,0,none⟩=some (.int .i64 a4):=(dY (ck vv.z dw.z) 0).trans rfl;have ag4:=fA (ck vv.z dw.z) 0)|(go_at_call 77;refine (BV.out _ (by repeat (first|exact dw.z|apply eH|apply atz))).mono ?_;rintro e w_ ⟨rfl,⟨CY,rfl⟩⟩)|(go_at_call 78;refine (BW.out _ (by repeat (first|exact dw.z|apply eH|apply atz))).mono ?_;rintro e w2 ⟨rfl,fo⟩;have dF:=k0 (cu (by repeat (first|exact dw.z|apply eH|apply atz)) fo:Below w.heap.size w w2);clear fo;have WL:w2.cell? ⟨b1,0,none⟩=some (.int .i64 a1):=(dY (ck nW.z dF.z) 0).trans rfl;have avZ:=fA (ck nW.z dF.z) 0;have WM:w2.cell? ⟨b2,0,none⟩=some (.int .i64 kC):=(dY (ck iU.z dF.z) 0).trans rfl;have av0:=fA (ck iU.z dF.z) 0;have WN:w2.cell? ⟨b2,1,none⟩=some (.slice nV iD.length ox):=(dY (ck iU.z dF.z) 1).trans rfl;have W3:=fA (ck iU.z dF.z) 1;have WO:w2.cell? ⟨b3,0,none⟩=some (.slice A3 l3.length c3):=(dY (ck aup.z dF.z) 0).trans rfl;have W4:=fA (ck aup.z dF.z) 0;have agR:w2.cell? ⟨b4,0,none⟩=some (.int .i64 a4):=(dY (ck vv.z dF.z) 0).trans rfl;have ag5:=fA (ck vv.z dF.z) 0)|(go_at_call 85;refine (abo.out _ (by repeat (first|exact dF.z|exact dw.z|apply eH|apply atz))).mono ?_;rintro e w_ ⟨rfl,⟨CY,rfl⟩⟩)|go_in)
  go_ret
  exact ⟨rs,by repeat (first|exact dF.z|exact dw.z|apply eH|apply atz|apply eZ)⟩
end Go.Proofs.Ytapnggjaeehpdaa.B
/- Set with little white space, by a program. -/
