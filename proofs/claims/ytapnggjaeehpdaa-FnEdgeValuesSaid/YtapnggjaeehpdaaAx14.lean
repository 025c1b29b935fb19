/- The functions that one law reaches, each as a Lean function, and that Go's call comes to what it says. Condition of each: that the Lean function answers (is not none). -/
import Derived.Test.YtapnggjaeehpdaaAx0
import Derived.Test.YtapnggjaeehpdaaAx1
import Derived.Test.YtapnggjaeehpdaaAx5
import Derived.Test.YtapnggjaeehpdaaAx6
import Derived.Test.YtapnggjaeehpdaaAx7
import Derived.Test.YtapnggjaeehpdaaAx8
import Derived.Test.YtapnggjaeehpdaaAx13
namespace Go.Proofs.Ytapnggjaeehpdaa.A
open Go.RowKit Go.Proofs.bB.dI Go.Proofs.bB.ark Go.Proofs.bB.jd
attribute [local go_sem] max2_int min2_int max_two min_two max_three min_three max_four min_four   -- for this text's walks alone
set_option linter.unusedVariables false
set_option linter.unusedSimpArgs false
set_option maxHeartbeats 8000000
set_option maxRecDepth 100000
/-! ### F11: function 11 -/
def nR.f (k:Nat) (ag:Int) (af:List (List Int)) (a1:Int) (a2:Int):Option (Int × Int):=(mA.f k ag af a1 a2).bind fun t102=>(if t102=0 then ((aX.f k ag af a1 a2).bind fun kT=>(if kT.2=true then ((kf.f k kT.1).bind fun t107=>(if a1=0 then (none) else (some (Int.tmod t107 a1,0)))) else (some (0,5)))) else (some (0,t102)))
theorem nR.calls (k : Nat) (ag : Int) (az : Option Addr) (ay : Nat) (af : List (List Int)) (a1 : Int) (a2 : Int) (r1 : Int) (r2 : Int) (w : World) (aqO : Kd.C (Kd.slice 2 (Kd.int .i64)) w az af.length af) (bG : af.length ≤ ay) (h : nR.f k ag af a1 a2 = some (r1, r2)) :
  Calls Try.prog 11 #[.agg #[.int .i64 ag,.slice az af.length ay],.int .i64 a1,.int .i64 a2] w fun e w'=>e=.returned (.tuple #[.int .i64 r1,.int .i64 r2])∧Below w.heap.size w w':=by
 have eE:=Try.underlying26
 have aW:=k0 aqO
 have bh:=k0 bG
 clear aqO bG
 have HB:=k0 (Below.refl w.heap.size w)
 unfold nR.f at h
 have H:=h
 clear h
 replace H:=bS H;obtain ⟨t102,A4,H⟩:=H
 replace H:=iE H;obtain ⟨c5,gD,arP,H⟩|⟨gD,arP,H⟩:=H
 case inl =>
  simp only [Option.some.injEq,Prod.mk.injEq] at H
  obtain ⟨rfl,rfl⟩:=H
  go_enter Try.func11,Try.ntmps11
  go_wp2_with (first|(refine aqI (N:=3) rfl ?_;refine cz 3 #[.int .i64 ag,.slice az af.length ay] 26 bl ?_;intro aA vw aa aqF HB;have aqR:=aqF;obtain ⟨_,_,_,_⟩:=aqA aa)|(refine aqz (f:=52) rfl ?_;refine gC (some 14) Try.func52 #[.agg #[.int .i64 ag,.slice az af.length ay],.int .i64 a1,.int .i64 a2] ?_;(with_reducible refine (mA.calls k ag _ _ af a1 a2 t102 _ ?aq ?au A4.z).mono ?_);(case aq=>exact aC (Kd.aqN aW.z HB.z));(case au=>exact bh.z);rintro e asy ⟨rfl,hb⟩;refine ⟨_,rfl,?_⟩;replace aa:=kB aa hb;replace HB:=bW hb))
  go_ret2
  exact ⟨eR,bl⟩
 replace H:=bS H;obtain ⟨⟨t103,t106⟩,A6,H⟩:=H
 dsimp only at H
 cases t106
 case false =>
  replace H:=iF H
  simp only [Option.some.injEq,Prod.mk.injEq] at H
  obtain ⟨rfl,rfl⟩:=H
  go_enter Try.func11,Try.ntmps11
  go_wp2_with (first|(refine aqI (N:=3) rfl ?_;refine cz 3 #[.int .i64 ag,.slice az af.length ay] 26 bl ?_;intro aA tN aa aqF HB;have aqR:=aqF;obtain ⟨_,_,_,_⟩:=aqA aa)|(refine aqz (f:=52) rfl ?_;refine gC (some 14) Try.func52 #[.agg #[.int .i64 ag,.slice az af.length ay],.int .i64 a1,.int .i64 a2] ?_;(with_reducible refine (mA.calls k ag _ _ af a1 a2 t102 _ ?aq ?au A4.z).mono ?_);(case aq=>exact aC (Kd.aqN aW.z HB.z));(case au=>exact bh.z);rintro e tO ⟨rfl,hb⟩;refine ⟨_,rfl,?_⟩;replace aa:=kB aa hb;replace HB:=bW hb;obtain ⟨_,_,_,_⟩:=aqA aa)|(refine aqz (f:=57) rfl ?_;refine gC (some 22) Try.func57 #[.agg #[.int .i64 ag,.slice az af.length ay],.int .i64 a1,.int .i64 a2] ?_;(with_reducible refine (aX.calls k ag _ _ af a1 a2 t103 false _ ?aq ?au A6.z).mono ?_);(case aq=>exact aC (Kd.aqN aW.z HB.z));(case au=>exact bh.z);rintro e wm ⟨mT,rfl,aD,hb⟩;refine ⟨_,rfl,?_⟩;have b8:=k0 (Kd.GR aD (aqG bl));replace aa:=kB aa hb;replace HB:=bW hb))
  go_ret2
  exact ⟨eR,bl⟩
 replace H:=iT H
 replace H:=bS H;obtain ⟨t107,A8,H⟩:=H
 by_cases c9:a1=0
 case neg =>
  rw [if_neg c9] at H
  have td:=beq_eq_false_iff_ne.mpr c9
  have Hg:=bne_iff_ne.mpr c9
  simp only [Option.some.injEq,Prod.mk.injEq] at H
  obtain ⟨rfl,rfl⟩:=H
  go_enter Try.func11,Try.ntmps11
  go_wp2_with (first|(refine aqI (N:=3) rfl ?_;refine cz 3 #[.int .i64 ag,.slice az af.length ay] 26 bl ?_;intro aA jh aa aqF HB;have aqR:=aqF;obtain ⟨_,_,_,_⟩:=aqA aa)|(refine aqz (f:=52) rfl ?_;refine gC (some 14) Try.func52 #[.agg #[.int .i64 ag,.slice az af.length ay],.int .i64 a1,.int .i64 a2] ?_;(with_reducible refine (mA.calls k ag _ _ af a1 a2 t102 _ ?aq ?au A4.z).mono ?_);(case aq=>exact aC (Kd.aqN aW.z HB.z));(case au=>exact bh.z);rintro e oB ⟨rfl,hb⟩;refine ⟨_,rfl,?_⟩;replace aa:=kB aa hb;replace HB:=bW hb;obtain ⟨_,_,_,_⟩:=aqA aa)|(refine aqz (f:=57) rfl ?_;refine gC (some 22) Try.func57 #[.agg #[.int .i64 ag,.slice az af.length ay],.int .i64 a1,.int .i64 a2] ?_;(with_reducible refine (aX.calls k ag _ _ af a1 a2 t103 true _ ?aq ?au A6.z).mono ?_);(case aq=>exact aC (Kd.aqN aW.z HB.z));(case au=>exact bh.z);rintro e vv ⟨mT,rfl,aD,hb⟩;refine ⟨_,rfl,?_⟩;have b8:=k0 (Kd.GR aD (aqG bl));replace aa:=kB aa hb;replace HB:=bW hb;obtain ⟨JN,Hq,rfl⟩:=Kd.QF b8.z)|(refine aqz (f:=58) rfl ?_;refine gC (some 28) Try.func58 #[.slice JN t103.length Hq] ?_;(with_reducible refine (kf.calls k _ _ t103 t107 _ ?aq ?au A8.z).mono ?_);(case aq=>exact aC ((Kd.KV b8.z).2.2));(case au=>exact (Kd.KV b8.z).2.1);rintro e w' ⟨rfl,⟨nd,rfl⟩⟩;refine ⟨_,rfl,?_⟩))
  go_ret2
  exact ⟨eR,bl⟩
 rw [if_pos c9] at H
 exact absurd H (by simp)
/-! ### F59: function 59 -/
def jF.f (aJ:List Int) (bQ:Int) (bT:Int) (a1:Int):Option (Int × Int × Int):=(dK.f aJ bQ bT 14).bind fun o4=>(if o4.1=0 then ((jo.f aJ o4.2.1 o4.2.2 (([(-1),wrap64 (a1+1),1099511627776,(-4611686018427387904)]:List Int))).bind fun jx=>(some (jx.1,jx.2.1,jx.2.2))) else ((dK.f aJ o4.2.1 o4.2.2 (wrap64 (a1+1))).bind fun DJ=>(some (DJ.1,DJ.2.1,DJ.2.2))))
theorem jF.calls (g : Nat) (aJ : List Int) (bQ : Int) (bT : Int) (a1 : Int) (r1 : Int) (r2 : Int) (r3 : Int) (w0 w : World) (hI : aj w0 w g aJ bQ bT) (hB : Below w0.heap.size w0 w) (h : jF.f aJ bQ bT a1 = some (r1, r2, r3)) :
  Calls Try.prog 59 #[.pointer (some ⟨g,0,none⟩),.int .i64 a1] w fun e w'=>e=.returned (.int .i64 r1)∧aj w0 w' g aJ r2 r3∧Below w0.heap.size w0 w'∧aqB w w' g none:=by
 have av:=k0 hI
 have HK:=k0 (aqB.refl w g none)
 have HL:=k0 hB.size
 clear hI
 have jv:=k0 hB.size
 have HB:=k0 hB
 clear hB
 unfold jF.f at h
 have H:=h
 clear h
 replace H:=bS H;obtain ⟨⟨t101,t102,t103⟩,A3,H⟩:=H
 dsimp only at H
 replace H:=iE H;obtain ⟨c4,ej,qc,H⟩|⟨ej,qc,H⟩:=H
 case inl =>
  replace H:=bS H;obtain ⟨⟨t110,t111,t112⟩,Bc,H⟩:=H
  dsimp only at H
  simp only [Option.some.injEq,Prod.mk.injEq] at H
  obtain ⟨rfl,rfl,rfl⟩:=H
  go_enter Try.func59,Try.ntmps59
  go_wp2_with (first|(refine aqz (f:=49) rfl ?_;refine gC (some 6) Try.func49 #[.pointer (some ⟨g,0,none⟩),.int .i64 14] ?_;(with_reducible refine (dK.calls g aJ bQ bT 14 t101 t102 t103 w0 _ ?aq ?au A3.z).mono ?_);(case aq=>exact aqy av.z);(case au=>exact aG (aj.ge av.z) HB.z);rintro e oB ⟨rfl,hi,hb,hk⟩;refine ⟨_,rfl,?_⟩;replace HK:=k0 (aqB.trans (aK HK.z) hk (.inl rfl));replace HB:=k0 (hb);replace av:=k0 (hi))|(refine aqz (f:=49) rfl ?_;refine gC (some 16) Try.func49 #[.pointer (some ⟨g,0,none⟩),.int .i64 (wrap64 (a1+1))] ?_;(with_reducible refine (dK.calls g aJ t102 t103 (wrap64 (a1+1)) t110 t111 t112 w0 _ ?aq ?au Bc.z).mono ?_);(case aq=>exact aqy av.z);(case au=>exact aG (aj.ge av.z) HB.z);rintro e oC ⟨rfl,hi,hb,hk⟩;refine ⟨_,rfl,?_⟩;replace HK:=k0 (aqB.trans (aK HK.z) hk (.inl rfl));replace HB:=k0 (hb);replace av:=k0 (hi)))
  go_ret
  exact ⟨eR,aqy av.z,aG (aj.ge av.z) HB.z,aK HK.z⟩
 obtain ⟨kI,jW⟩:=nY (([(-1),wrap64 (a1+1),1099511627776,(-4611686018427387904)]:List Int):List Int)
 replace H:((jo.f aJ t102 t103 kI).bind fun jx=>(some (jx.1,jx.2.1,jx.2.2)))=some (r1,r2,r3):=rH jW.z H
 replace H:=bS H;obtain ⟨⟨t107,t108,t109⟩,A5,H⟩:=H
 dsimp only at H
 simp only [Option.some.injEq,Prod.mk.injEq] at H
 obtain ⟨rfl,rfl,rfl⟩:=H
 go_enter Try.func59,Try.ntmps59
 go_wp2_with (first|(refine aqz (f:=49) rfl ?_;refine gC (some 6) Try.func49 #[.pointer (some ⟨g,0,none⟩),.int .i64 14] ?_;(with_reducible refine (dK.calls g aJ bQ bT 14 t101 t102 t103 w0 _ ?aq ?au A3.z).mono ?_);(case aq=>exact aqy av.z);(case au=>exact aG (aj.ge av.z) HB.z);rintro e w6 ⟨rfl,hi,hb,hk⟩;refine ⟨_,rfl,?_⟩;replace HK:=k0 (aqB.trans (aK HK.z) hk (.inl rfl));replace HB:=k0 (hb);replace av:=k0 (hi))|(refine aqI (N:=11) rfl ?_;refine Kd.gw (Kd.int .i64) _ 2 ?hg (N:=11) ?hd (xs:=([(-1),wrap64 (a1+1),1099511627776,(-4611686018427387904)]:List Int)) (inner:=[.int .i64 (-1),.int .i64 (wrap64 (a1+1)),.int .i64 1099511627776,.int .i64 (-4611686018427387904)]) (ok:=fun _=>True) (bw:=fun _=>True) ?hr ?hp (fun _ hk=>hk) trivial (Below.refl _ _) (Nat.le_refl _) (by simp) ?_;(case hd=>rfl);(case hg=>rfl);(case hr=>first|(go_simp;done)|(go_simp;rfl));(case hp=>exact (aH.one (show Kd.M (Kd.int .i64) _ _ _ (-1) [.int .i64 (-1)] from rfl) (aH.one (show Kd.M (Kd.int .i64) _ _ _ (wrap64 (a1+1)) [.int .i64 (wrap64 (a1+1))] from rfl) (aH.one (show Kd.M (Kd.int .i64) _ _ _ 1099511627776 [.int .i64 1099511627776] from rfl) (aH.one (show Kd.M (Kd.int .i64) _ _ _ (-4611686018427387904) [.int .i64 (-4611686018427387904)] from rfl) (aH.none _ _))))));intro wj w7 oo hb bH bI;clear bH bI;(first|rw [← jW.z] at oo|(simp only [Int.reduceToNat] at oo;rw [← jW.z] at oo));have fF:=k0 (Kd.cA oo (dD (aK HK.z)));replace HK:=k0 (aqB.trans (aK HK.z) (aqB.fO hb g none) (.inl rfl));replace HB:=k0 (dc (aG (aj.ge av.z) HB.z) hb);replace av:=k0 (aj.below (aqy av.z) hb);clear hb oo;obtain ⟨sQ,qf,rfl⟩:=Kd.cy fF.z)|(refine aqz (f:=51) rfl ?_;refine gC (some 12) Try.func51 #[.pointer (some ⟨g,0,none⟩),.slice sQ kI.length qf] ?_;(with_reducible refine (jo.calls g aJ t102 t103 _ _ kI t107 t108 t109 w0 _ ?aq ?au ?cr ?dw ?pF A5.z).mono ?_);(case aq=>exact aqy av.z);(case au=>exact aG (aj.ge av.z) HB.z);(case cr=>exact aC ((Kd.aqP fF.z).2.2));(case dw=>exact (Kd.aqP fF.z).2.1);(case pF=>exact z4 (aj.tE av.z fF.z (by decide)));rintro e jh ⟨rfl,hi,hb,hk⟩;refine ⟨_,rfl,?_⟩;replace fF:=k0 (Kd.aqM (Kd.uo (aj.apart (show aj w0 _ g aJ t102 t103 from aqy av.z) (aR fF.z) (by decide)) hk (fun _ h=>h.2)) (fun _ h=>h.1));replace HK:=k0 (aqB.trans (aK HK.z) hk (.inl rfl));replace HB:=k0 (hb);replace av:=k0 (hi)))
 go_ret
 exact ⟨eR,aqy av.z,aG (aj.ge av.z) HB.z,aK HK.z⟩
/-! ### F12: function 12 -/
def jT.f (k:Nat) (l0:List Int):Option (Int × (List (List Int)) × Int × Int × Int × Int):=(aq5.f k l0).bind fun cN=>((ng.f k cN.1 cN.2.1 cN.2.2).bind fun dM=>((rU.f cN.1 dM.2.2.1 dM.2.2.2).bind fun ari=>((jF.f cN.1 ari.2.1 ari.2.2 (mx (wrap64 (ari.1 - 1)) 0)).bind fun arM=>((jF.f cN.1 arM.2.1 arM.2.2 (mx (wrap64 ((wrap64 (2 * (dM.2.1.length:Int))) - 1)) 0)).bind fun uu=>((jF.f cN.1 uu.2.1 uu.2.2 (mx (wrap64 ((wrap64 (2 * (dM.2.1.length:Int))) - 1)) 0)).bind fun nC=>(some (dM.1,dM.2.1,ari.1,arM.1,uu.1,nC.1)))))))
def jT.T3:Bool × List (List Nat × List Nat):=(true,[([],[]),([0],[0]),([],[]),([2],[2]),([3],[3]),([4],[4]),([5],[5]),([6],[6]),([1,1,0,1],[1]),([7,8,0,1,2,3,4,5,6,7,8],[7])])
def jT.B3:List Nat:=[0,1,0,4,12,28,60,124,3,511]
theorem jT.y6:eH .any (opsOf Try.f12 3)=jT.T3:=by kernel_rfl
theorem jT.xT:iL jT.T3.2 jT.B3=true:=by kernel_rfl
def jT.T6:Bool × List (List Nat × List Nat):=(true,[([],[]),([],[]),([],[]),([],[]),([],[]),([],[]),([4,5],[4,5]),([0,6,0],[0]),([1,7,0,1,7],[1]),([2,8,0,1,2,7,8],[2]),([3,9,0,1,2,3,7,8,9],[3]),([6,10,0,1,2,3,4,5,6,7,8,9,10],[6])])
def jT.B6:List Nat:=[0,0,0,0,0,0,48,113,243,503,1023,2047]
theorem jT.ajh:eH .any (opsOf Try.f12 6)=jT.T6:=by kernel_rfl
theorem jT.ab2:iL jT.T6.2 jT.B6=true:=by kernel_rfl
theorem jT.calls (k : Nat) (A0 : Option Addr) (c0 : Nat) (l0 : List Int) (r1 : Int) (r2 : List (List Int)) (r3 : Int) (r4 : Int) (r5 : Int) (r6 : Int) (w : World) (bZ : Kd.C (Kd.int .u8) w A0 l0.length l0) (hc0 : l0.length ≤ c0) (h : jT.f k l0 = some (r1, r2, r3, r4, r5, r6)) :
  Calls Try.prog 12 #[.slice A0 l0.length c0] w fun e w'=>∃ fK:Value,e=.returned (.tuple #[.agg #[.int .i64 r1,fK],.int .i64 r3,.int .i64 r4,.int .i64 r5,.int .i64 r6])∧Kd.V (Kd.slice 2 (Kd.int .i64)) 29 w' w.heap.size (fun k_=>(w.heap.size≤k_)) fK r2∧Below w.heap.size w w':=by
 have eE:=Try.underlying26
 have cP:=k0 bZ
 have fq:=k0 hc0
 clear bZ hc0
 have HB:=k0 (Below.refl w.heap.size w)
 unfold jT.f at h
 have H:=h
 clear h
 replace H:=bS H;obtain ⟨⟨t102,t103,t104⟩,A2,H⟩:=H
 dsimp only at H
 replace H:=bS H;obtain ⟨⟨t106,t107,t110,t111⟩,A3,H⟩:=H
 dsimp only at H
 replace H:=bS H;obtain ⟨⟨t113,t114,t115⟩,A4,H⟩:=H
 dsimp only at H
 obtain ⟨j7,iI⟩:∃ j_:Int,(mx (wrap64 ((wrap64 (2 * (t107.length:Int))) - 1)) 0)=j_:=⟨_,rfl⟩
 replace H:((jF.f t102 t114 t115 (mx (wrap64 (t113 - 1)) 0)).bind fun arM=>((jF.f t102 arM.2.1 arM.2.2 (j7)).bind fun uu=>((jF.f t102 uu.2.1 uu.2.2 (j7)).bind fun nC=>(some (t106,t107,t113,arM.1,uu.1,nC.1)))))=some (r1,r2,r3,r4,r5,r6):=by first|(rw [iI] at H;exact H)|(simp only [iI] at H ⊢;exact H)
 (try rw [iI] at A2)
 (try rw [iI] at A3)
 (try rw [iI] at A4)
 (try (have UW:0≤j7:=by (rw [← iI];unfold mx;(repeat' split)<;>omega)))
 (try (have UX:0≤j7:=by omega))
 have UU:(if (wrap64 ((wrap64 (2 * (t107.length:Int))) - 1)) < 0 then 0 else (wrap64 ((wrap64 (2 * (t107.length:Int))) - 1)))=j7:=iI
 obtain ⟨j8,sk⟩:∃ j_:Int,(mx (wrap64 (t113 - 1)) 0)=j_:=⟨_,rfl⟩
 replace H:((jF.f t102 t114 t115 (j8)).bind fun arM=>((jF.f t102 arM.2.1 arM.2.2 (j7)).bind fun uu=>((jF.f t102 uu.2.1 uu.2.2 (j7)).bind fun nC=>(some (t106,t107,t113,arM.1,uu.1,nC.1)))))=some (r1,r2,r3,r4,r5,r6):=by first|(rw [sk] at H;exact H)|(simp only [sk] at H ⊢;exact H)
 (try rw [sk] at A2)
 (try rw [sk] at A3)
 (try rw [sk] at A4)
 (try (have aos:0≤j8:=by (rw [← sk];unfold mx;(repeat' split)<;>omega)))
 (try (have aot:0≤j8:=by omega))
 have aor:(if (wrap64 (t113 - 1)) < 0 then 0 else (wrap64 (t113 - 1)))=j8:=sk
 replace H:=bS H;obtain ⟨⟨t116,t117,t118⟩,A7,H⟩:=H
 dsimp only at H
 replace H:=bS H;obtain ⟨⟨t119,t120,t121⟩,A8,H⟩:=H
 dsimp only at H
 replace H:=bS H;obtain ⟨⟨t122,t123,t124⟩,A9,H⟩:=H
 dsimp only at H
 simp only [Option.some.injEq,Prod.mk.injEq] at H
 obtain ⟨rfl,rfl,rfl,rfl,rfl,rfl⟩:=H
 go_enter Try.func12,Try.ntmps12
 try go_wp2_with (first|(refine aqI (N:=2) rfl ?_;refine cz 2 #[.int .i64 0,.slice none 0 0] 26 bl ?_;intro aA jh aa aqF HB;have aqR:=aqF)|(refine aqz (f:=47) rfl ?_;refine gC (some 14) Try.func47 #[.slice A0 l0.length c0] ?_;(with_reducible refine (aq5.calls k _ _ l0 t102 t103 t104 w _ ?aq ?au ?cr A2.z).mono ?_);(case aq=>exact aL HB.z);(case au=>exact cP.z);(case cr=>exact fq.z);rintro e y9 ⟨g105,rfl,hi,hb,eU⟩;refine ⟨_,rfl,?_⟩;replace HB:=k0 (hb);have aM:=k0 (hi);have oU:=k0 (aj.qo hi (cV (aB aa.z) eU) (by decide));have hU:=k0 (Ne.symm (aj.qo hi (cV (aB aa.z) eU) (by decide)));replace aa:=kB aa eU)|(refine aqz (f:=48) rfl ?_;refine gC (some 16) Try.func48 #[.pointer (some ⟨g105,0,none⟩)] ?_;(with_reducible refine (ng.calls k g105 t102 t103 t104 t106 t107 t110 t111 w _ ?aq ?au A3.z).mono ?_);(case aq=>exact aqy aM.z);(case au=>exact aG (aj.ge aM.z) HB.z);rintro e oB ⟨q3,rfl,aD,hi,hb,hk⟩;refine ⟨_,rfl,?_⟩;have bD:=k0 (Kd.p_ (Kd.aZ (ok':=fun k_=>(w.heap.size≤k_)∧k_ ≠ aA∧k_ ≠ g105) aD (fun k_ aqJ=>⟨(Nat.le_trans (aqG (aG (aj.ge aM.z) HB.z)) aqJ),(Kd.ig (aB aa.z) k_ aqJ),(aj.fresh (aqy aM.z) k_ aqJ)⟩)) (aqG (aG (aj.ge aM.z) HB.z)));replace aa:=kK hk aa hU;replace HB:=k0 (hb);replace aM:=k0 (hi))|(refine aqI (N:=8) rfl ?_;refine fu 8 #[.int .i64 0,.slice none 0 0] 26 ?_;intro bV hg oC bq hb;replace bD:=eL bD hg hb;have cj:=k0 (bq);have Db:=k0 ((by rw [hg];exact (aqG (aG (aj.ge aM.z) HB.z)):w.heap.size≤bV));have Da:=k0 ((by rw [hg];exact (aqG (aG (aj.ge aM.z) HB.z)):w.heap.size≤bV));replace HB:=k0 (dc (aG (aj.ge aM.z) HB.z) hb);have kO:=nL hg aa;have eB:=nG kO;replace aa:=kB aa hb;have Dw:=k0 ((by rw [hg];exact Nat.ne_of_lt (aj.lt (show aj w _ g105 t102 t110 t111 from aqy aM.z)):g105 ≠ bV));have kj:=k0 ((by rw [hg];exact Nat.ne_of_gt (aj.lt (show aj w _ g105 t102 t110 t111 from aqy aM.z)):bV ≠ g105));replace aM:=k0 (aj.below (aqy aM.z) hb);clear hb bq hg;obtain ⟨_,_⟩:=nE eB;obtain ⟨_,_⟩:=nE kj;obtain ⟨_,_,_,_⟩:=aqA cj;obtain ⟨oJ,l9,rfl⟩:=Kd.arO bD.z))
 have fX:ai (Kd.V (Kd.slice 2 (Kd.int .i64)) 29 ((oC.setCell ⟨bV,0,none⟩ (.int .i64 t106)).setCell ⟨bV,1,none⟩ (.slice oJ t107.length l9)) w.heap.size (fun k_=>(w.heap.size≤k_)∧k_ ≠ aA∧k_ ≠ g105∧k_ ≠ bV) (.slice oJ t107.length l9) t107):=⟨aV (Kd.aZ (Kd.je (p:=⟨bV,1,none⟩) (Kd.je (p:=⟨bV,0,none⟩) (Kd.aZ bD.z (fun k_ hk=>(⟨hk,hk.2⟩:_∧k_ ≠ bV))) (fun _ hk=>hk.2) (.int .i64 t106)) (fun _ hk=>hk.2) (.slice oJ t107.length l9)) (fun _ hk=>⟨hk.1.1.1,⟨hk.1.1.2.1,⟨hk.1.1.2.2,hk.1.2⟩⟩⟩))⟩
 have fY:ai (((oC.setCell ⟨bV,0,none⟩ (.int .i64 t106)).setCell ⟨bV,1,none⟩ (.slice oJ t107.length l9)).heap[aA]?=some (.cells #[.int .i64 0,.slice none 0 0] 26 (0,0))):=⟨kZ⟩
 have iJ:ai (((oC.setCell ⟨bV,0,none⟩ (.int .i64 t106)).setCell ⟨bV,1,none⟩ (.slice oJ t107.length l9)).heap[bV]?=some (sO t106 oJ t107 l9 26)):=⟨kZ⟩
 have iK:ai (aj w ((oC.setCell ⟨bV,0,none⟩ (.int .i64 t106)).setCell ⟨bV,1,none⟩ (.slice oJ t107.length l9)) g105 t102 t110 t111):=⟨aqy aM.z⟩
 have mR:ai (Below w.heap.size w ((oC.setCell ⟨bV,0,none⟩ (.int .i64 t106)).setCell ⟨bV,1,none⟩ (.slice oJ t107.length l9))):=⟨aG (aj.ge aM.z) HB.z⟩
 generalize ((oC.setCell ⟨bV,0,none⟩ (.int .i64 t106)).setCell ⟨bV,1,none⟩ (.slice oJ t107.length l9))=tO at fX fY iJ iK mR ⊢
 have bD:=fX
 have aa:=fY
 have cj:=iJ
 have aM:=iK
 have HB:=mR
 clear fX fY iJ iK mR
 replace bD:=k0 (Kd.lG bD.z);replace aa:=k0 (cJ aa.z);replace cj:=k0 (cJ cj.z);replace aM:=k0 (aj.drew aM.z);replace HB:=k0 (aqW HB.z)
 refine gz (n:=10) (S:=fun w'=>w'.cell? ⟨bV,0,none⟩=some (.int .i64 t106)∧w'.cell? ⟨bV,1,none⟩=some (.slice oJ t107.length l9)) (ds:=[]) (ba 10 0) (by kernel_rfl) rfl rfl ⟨cH cj,cE cj⟩ (fun hHeld=>?_);refine hJ jT.y6 jT.xT (fun ak bE=>?_)
 generalize tO.drew=asR at bD aa cj aM HB hHeld ⊢
 refine pu 0 (some 17) (ba 10 1) ak (h:=?_)
 refine pu 2 (some 19) (ba 10 5) ak (h:=?_)
 refine ta 3 (some 20) (ba 10 13) ak bE hHeld (hy:=Or.inl ⟨by rfl,by rintro w' ⟨s0,s1⟩;go_simp;with_reducible rfl⟩) (h:=?_)
 refine pu 4 (some 21) (ba 10 29) ak (h:=?_)
 refine pu 5 (some 22) (ba 10 61) ak (h:=?_)
 refine pu 6 (some 23) (ba 10 125) ak (h:=?_)
 refine pu 7 (some 24) (ba 10 253) ak (h:=?_)
 refine eG (i:=1) (N:=some 18) (ba 10 255) rfl rfl (dU ak.out (by kernel_rfl)) (by decide) (fun K hK=>?_)
 refine iy Try.func50 (by kernel_rfl) rfl #[.pointer (some ⟨g105,0,none⟩)] (by rfl) rfl rfl gm ?_
 with_reducible refine (rU.calls g105 t102 t110 t111 t113 t114 t115 w _ ?aq ?au A4.z).mono ?_
 (case aq=>exact aqy aM.z)
 (case au=>exact aG (aj.ge aM.z) HB.z)
 rintro e wm ⟨rfl,hi,hb,hk⟩
 refine ⟨_,rfl,?_⟩
 replace aa:=kK hk aa hU;replace bD:=k0 (Kd.aZ (Kd.lY (Kd.aZ (ok:=fun k_=>(((w.heap.size≤k_))∧(k_ ≠ aA∧(k_ ≠ g105∧k_ ≠ bV)))) (aV bD.z) (fun k_ aqJ=>(⟨aqJ,aqJ.2.2.1⟩:_∧k_ ≠ g105))) hk (fun _ h=>h.2)) (fun _ h=>h.1));replace cj:=kK hk cj kj;replace HB:=k0 (hb);replace aM:=k0 (hi)
 refine hK.out _ _ ⟨cH cj,cE cj⟩ (fun hHeld=>?_)
 clear hK K
 refine eV (a':=?_) ?_ ?_
 rotate_left;· show Act.put _ (some 18) _=_;simp only [Act.put,zI,zZ,zS,bJ,ck];rfl
 refine pu 8 (some 9) (ba 10 511) ak (h:=?_)
 refine pu 9 (some 10) (ba 10 1023) ak (h:=?_)
 refine gx (gZ ak.out (by kernel_rfl)) ?_
 try go_wp2_with (first|(refine aqz (f:=59) rfl ?_;refine as6 (some 29) rfl rfl Try.func59 (by kernel_rfl) rfl #[.pointer (some ⟨g105,0,none⟩),.int .i64 j8] rfl (by (try simp only [List.map_toArray,List.map_cons,List.map_nil]);first|done|(simp only [sk];rfl)|rfl|(simp only [List.length_drop,List.length_take];rfl)) ?_;(with_reducible refine (jF.calls g105 t102 t114 t115 j8 t116 t117 t118 w _ ?aq ?au A7.z).mono ?_);(case aq=>exact aqy aM.z);(case au=>exact aG (aj.ge aM.z) HB.z);rintro e vw ⟨rfl,hi,hb,hk⟩;refine ⟨_,rfl,?_⟩;replace aa:=kK hk aa hU;replace bD:=k0 (Kd.aZ (Kd.lY (Kd.aZ (ok:=fun k_=>(((w.heap.size≤k_))∧(k_ ≠ aA∧(k_ ≠ g105∧k_ ≠ bV)))) (aV bD.z) (fun k_ aqJ=>(⟨aqJ,aqJ.2.2.1⟩:_∧k_ ≠ g105))) hk (fun _ h=>h.2)) (fun _ h=>h.1));replace cj:=kK hk cj kj;replace HB:=k0 (hb);replace aM:=k0 (hi))|(refine aqz (f:=59) rfl ?_;refine as6 (some 32) rfl rfl Try.func59 (by kernel_rfl) rfl #[.pointer (some ⟨g105,0,none⟩),.int .i64 j7] rfl (by (try simp only [List.map_toArray,List.map_cons,List.map_nil]);first|done|(simp only [iI];rfl)|rfl|(simp only [List.length_drop,List.length_take];rfl)) ?_;(with_reducible refine (jF.calls g105 t102 t117 t118 j7 t119 t120 t121 w _ ?aq ?au A8.z).mono ?_);(case aq=>exact aqy aM.z);(case au=>exact aG (aj.ge aM.z) HB.z);rintro e nN ⟨rfl,hi,hb,hk⟩;refine ⟨_,rfl,?_⟩;replace aa:=kK hk aa hU;replace bD:=k0 (Kd.aZ (Kd.lY (Kd.aZ (ok:=fun k_=>(((w.heap.size≤k_))∧(k_ ≠ aA∧(k_ ≠ g105∧k_ ≠ bV)))) (aV bD.z) (fun k_ aqJ=>(⟨aqJ,aqJ.2.2.1⟩:_∧k_ ≠ g105))) hk (fun _ h=>h.2)) (fun _ h=>h.1));replace cj:=kK hk cj kj;replace HB:=k0 (hb);replace aM:=k0 (hi)))
 replace bD:=k0 (Kd.lG bD.z);replace aa:=k0 (cJ aa.z);replace cj:=k0 (cJ cj.z);replace aM:=k0 (aj.drew aM.z);replace HB:=k0 (aqW HB.z)
 refine gz (n:=12) (S:=fun w'=>w'.cell? ⟨bV,0,none⟩=some (.int .i64 t106)∧w'.cell? ⟨bV,1,none⟩=some (.slice oJ t107.length l9)) (ds:=[]) (ba 12 0) (by kernel_rfl) rfl rfl ⟨cH cj,cE cj⟩ (fun hHeld=>?_);refine hJ jT.ajh jT.ab2 (fun ak bE=>?_)
 generalize nN.drew=asy at bD aa cj aM HB hHeld ⊢
 refine pu 1 (some 34) (ba 12 2) ak (h:=?_)
 refine pu 2 (some 35) (ba 12 6) ak (h:=?_)
 refine pu 3 (some 36) (ba 12 14) ak (h:=?_)
 refine pu 4 (some 37) (ba 12 30) ak (h:=?_)
 refine pu 5 (some 38) (ba 12 62) ak (h:=?_)
 refine ta 0 (some 33) (ba 12 63) ak bE hHeld (hy:=Or.inl ⟨by rfl,by rintro w' ⟨s0,s1⟩;go_simp;with_reducible rfl⟩) (h:=?_)
 refine eG (i:=6) (N:=some 39) (ba 12 127) rfl rfl (dU ak.out (by kernel_rfl)) (by decide) (fun K hK=>?_)
 refine iy Try.func59 (by kernel_rfl) rfl #[.pointer (some ⟨g105,0,none⟩),.int .i64 j7] (by rfl) rfl rfl (by (try simp only [List.map_toArray,List.map_cons,List.map_nil]);first|done|(simp only [iI];rfl)|rfl|(simp only [List.length_drop,List.length_take];rfl)) ?_
 with_reducible refine (jF.calls g105 t102 t120 t121 j7 t122 t123 t124 w _ ?aq ?au A9.z).mono ?_
 (case aq=>exact aqy aM.z)
 (case au=>exact aG (aj.ge aM.z) HB.z)
 rintro e za ⟨rfl,hi,hb,hk⟩
 refine ⟨_,rfl,?_⟩
 replace aa:=kK hk aa hU;replace bD:=k0 (Kd.aZ (Kd.lY (Kd.aZ (ok:=fun k_=>(((w.heap.size≤k_))∧(k_ ≠ aA∧(k_ ≠ g105∧k_ ≠ bV)))) (aV bD.z) (fun k_ aqJ=>(⟨aqJ,aqJ.2.2.1⟩:_∧k_ ≠ g105))) hk (fun _ h=>h.2)) (fun _ h=>h.1));replace cj:=kK hk cj kj;replace HB:=k0 (hb);replace aM:=k0 (hi)
 refine hK.out _ _ ⟨cH cj,cE cj⟩ (fun hHeld=>?_)
 clear hK K
 refine eV (a':=?_) ?_ ?_
 rotate_left;· show Act.put _ (some 39) _=_;simp only [Act.put,zI,zZ,zS,bJ,ck];rfl
 refine eG (i:=7) (N:=none) (ba 12 255) rfl rfl (dU ak.out (by kernel_rfl)) (by decide) (fun K hK=>?_)
 obtain ⟨_,_⟩:=qg aa
 have afZ:=eB.z
 have afY:=kO.z
 have aoM:=cE aa
 have an':=bF aa 1
 have aoG:=eB.z
 have aoz:=kO.z
 refine oz (w1:=?_) (by rfl) rfl ?_ ?_
 rotate_left;· go_simp;rfl
 refine hK.out _ _ ⟨((cell_far (p:=⟨aA,_,none⟩) eB.z _).trans (((cell_far (p:=⟨aA,_,none⟩) eB.z _).trans (hHeld.1)))),((cell_far (p:=⟨aA,_,none⟩) eB.z _).trans (((cell_far (p:=⟨aA,_,none⟩) eB.z _).trans (hHeld.2))))⟩ (fun hHeld=>?_)
 clear hK K
 refine pu 8 (some 3) (ba 12 511) ak (h:=?_)
 refine pu 9 (some 4) (ba 12 1023) ak (h:=?_)
 refine pu 10 (some 5) (ba 12 2047) ak (h:=?_)
 refine pu 11 (some 6) (ba 12 4095) ak (h:=?_)
 refine gx (gZ ak.out (by kernel_rfl)) ?_
 try go_wp2
 refine bodyPost_ret (aiq (rs:=[.cell 2 26,.tmp 3,.tmp 4,.tmp 5,.tmp 6]) rfl (by simp) (.cell aA 26 #[.int .i64 t106,.slice oJ t107.length l9] (0,0) _ rfl kZ Try.underlying26 rfl (by kernel_rfl) (.tmp (.tmp (.tmp (.tmp .nil)))))) rfl ?_
 exact ⟨_,by first|rfl|(simp [ic,ie]<;>rfl)|(simp only [← iI,← sk];first|rfl|(simp [ic,ie]<;>rfl))|(simp [*,ic,ie]<;>rfl),aV (Kd.aZ (Kd.je (p:=⟨aA,1,none⟩) (Kd.je (p:=⟨aA,0,none⟩) (Kd.aZ bD.z (fun k_ hk=>(⟨hk,hk.2.1⟩:_∧k_ ≠ aA))) (fun _ hk=>hk.2) (.int .i64 t106)) (fun _ hk=>hk.2) (.slice oJ t107.length l9)) (fun _ hk=>hk.1.1)),aG (aj.ge aM.z) HB.z⟩
/-! ### F60: function 60 -/
def jX (m:Int) (x:Int):Bool:=!(decide (0≤x) && decide (x≤m))
theorem abF (b : Nat) (a : Int) (A : Option Addr) (c : Nat) (l : List (List Int)) (x : Int) (w1 : World) (h0 : w1.cell? ⟨b, 0, none⟩ = some (.int .i64 a)) (h1 : w1.cell? ⟨b, 1, none⟩ = some (.slice A l.length c)) (hr : Kd.C (Kd.slice 2 (Kd.int .i64)) w1 A l.length l) (hc : l.length ≤ c) :
  Calls Try.prog 110 #[.int .i64 x,.pointer (some ⟨b,0,none⟩)] w1 fun e w'=>e=.returned (.bool (jX (wrap64 (wrap64 (2 * (l.length:Int)) - 1)) x))∧Below w1.heap.size w1 w':=by
 have HR:=k0 hr
 clear hr
 have hs:oO.f a l=some (l.length:Int):=rfl
 have HS:=fun W (hw:Below w1.heap.size w1 W)=>oO.calls a A c l _ W (Kd.aqN HR.z hw) hc hs
 have ZL:=k0 HS
 clear HS hs
 have h:gX.f x 0 (wrap64 (wrap64 (2 * (l.length:Int)) - 1))=some (decide (0≤x) && decide (x≤wrap64 (wrap64 (2 * (l.length:Int)) - 1))):=by
  unfold gX.f
  by_cases h1:0≤x<;>simp [h1]
 have HX:ai (jX (wrap64 (wrap64 (2 * (l.length:Int)) - 1)) x=!(decide (0≤x) && decide (x≤wrap64 (wrap64 (2 * (l.length:Int)) - 1)))):=⟨rfl⟩
 generalize (decide (0≤x) && decide (x≤wrap64 (wrap64 (2 * (l.length:Int)) - 1)))=bb at h HX
 have HW:=k0 h
 clear h
 go_enter Try.func110,Try.ntmps110
 go_wp2_with (first|(go_at_call 64;refine (ZL.out _ (Below.refl _ _)).mono ?_;rintro e w2 ⟨rfl,jN⟩;have iP:=k0 jN;clear jN)|(go_at_call 85;refine (gX.calls _ _ _ bb _ HW.z).mono ?_;rintro e w_ ⟨rfl,⟨FO,rfl⟩⟩))
 go_ret
 exact ⟨by rw [HX.z];rfl,fh iP.z _⟩
theorem abE (p : Int → Bool) (b : Nat) (A : Option Addr) (c : Nat) (l : List Int) (w : World) (hr : Kd.C (Kd.int .i64) w A l.length l)
 (hp:∀ x w1,Below w.heap.size w w1→Calls Try.prog 110 #[.int .i64 x,.pointer (some ⟨b,0,none⟩)] w1 fun e w'=>e=.returned (.bool (p x))∧Below w1.heap.size w1 w') :
 Calls Try.prog 130 #[.slice A l.length c,.func (.func 110) #[] #[.pointer (some ⟨b,0,none⟩)]] w fun e w'=>e=.returned (.int .i64 (qP p l 0))∧Below w.heap.size w w':=by
 have HR:=k0 hr
 have HP:=k0 hp
 have hlen:l.length≤9223372036854775807:=hr.2.1
 clear hr hp
 go_enter Try.func130,Try.ntmps130
 go_wp2_with fail
 go_loopw [8] (fun i wr=>∃ k:Nat,k≤l.length∧i=.int .i64 k∧ai (qP p (l.drop k) k=qP p l 0)∧ai (Below w.heap.size w wr)) (fun i _=>l.length - (intOf i).toNat)
 case atStart=>exact ⟨0,Nat.zero_le _,rfl,⟨by simp⟩,⟨Below.refl _ _⟩⟩
 case round =>
  obtain ⟨k,hk,rfl,HI,HB⟩:=hrel
  by_cases hlt:k < l.length
  case neg =>
   have HD:ai (qP p l 0=-1):=⟨by rw [← HI.z,List.drop_of_length_le (by omega)];rfl⟩
   have hb:decide (k < l.length)=false:=by simp;omega
   go_wp2
   go_ret
   exact ⟨by rw [HD.out];rfl,HB.z⟩
  obtain ⟨ad,e,hcell⟩:=Kd.bM (Kd.aqN HR.z HB.z) k (by omega) (by omega)
  cases e
  rw [Int.toNat_natCast] at hcell
  cases hpx:p (rd l k) with
  | true =>
   have HD:ai (qP p l 0=k):=⟨by rw [← HI.z,VI p l k hlt,hpx];rfl⟩
   have HX:=k0 hpx
   clear hpx
   go_wp2_with (go_at_call 110;refine (HP.out _ _ HB.z).mono ?_;rw [HX.z];rintro e w' ⟨rfl,jN⟩;have iP:=k0 (dc HB.z jN);clear jN)
   go_ret
   exact ⟨by rw [HD.out];rfl,iP.z⟩
  | false =>
   have HD:ai (qP p (l.drop (k+1)) (k+1)=qP p l 0):=⟨by rw [← HI.z,VI p l k hlt,hpx];rfl⟩
   have HX:=k0 hpx
   clear hpx
   go_wp2_with (go_at_call 110;refine (HP.out _ _ HB.z).mono ?_;rw [HX.z];rintro e w' ⟨rfl,jN⟩;have iP:=k0 (dc HB.z jN);clear jN)
   go_roundw
   case rel=>exact ⟨k+1,by omega,by go_num,HD,iP⟩
   case measure=>simp [intOf];omega
theorem abD (p : Int → Bool) (b : Nat) (A : Option Addr) (c : Nat) (l : List Int) (w : World) (hr : Kd.C (Kd.int .i64) w A l.length l)
 (hp:∀ x w1,Below w.heap.size w w1→Calls Try.prog 110 #[.int .i64 x,.pointer (some ⟨b,0,none⟩)] w1 fun e w'=>e=.returned (.bool (p x))∧Below w1.heap.size w1 w') :
 Calls Try.prog 109 #[.slice A l.length c,.func (.func 110) #[] #[.pointer (some ⟨b,0,none⟩)]] w fun e w'=>e=.returned (.bool (l.any p))∧Below w.heap.size w w':=by
 have HC:=abE p b A c l w hr hp
 have HX:ai (l.any p=decide (0≤qP p l 0)):=⟨(ags p l 0).symm⟩
 have Gv:=k0 HC
 clear HC hr hp
 go_enter Try.func109,Try.ntmps109
 go_wp2_with (go_at_call 130;refine Gv.z.mono ?_;rintro e w' ⟨rfl,jN⟩;have iP:=k0 jN;clear jN)
 go_ret
 exact ⟨by rw [HX.z];rfl,iP.z⟩
def pW.f (ag:Int) (af:List (List Int)) (l1:List Int):Option Bool:=some (!(l1.any (jX (wrap64 (wrap64 (2 * (af.length:Int)) - 1)))))
theorem pW.calls (ag : Int) (az : Option Addr) (ay : Nat) (af : List (List Int)) (A1 : Option Addr) (c1 : Nat) (l1 : List Int) (r : Bool) (w : World) (aqO : Kd.C (Kd.slice 2 (Kd.int .i64)) w az af.length af) (bG : af.length ≤ ay) (arC : Kd.C (Kd.int .i64) w A1 l1.length l1) (ql : l1.length ≤ c1) (h : pW.f ag af l1 = some r) :
  Calls Try.prog 60 #[.agg #[.int .i64 ag,.slice az af.length ay],.slice A1 l1.length c1] w fun e w'=>e=.returned (.bool r)∧Below w.heap.size w w':=by
 have cP:=k0 aqO
 have HR:=k0 arC
 clear aqO arC
 obtain rfl:=Option.some.inj h
 clear h
 have HC : ∀ W, Below w.heap.size w W → W.cell? ⟨w.heap.size, 0, none⟩ = some (.int .i64 ag) → W.cell? ⟨w.heap.size, 1, none⟩ = some (.slice az af.length ay) → w.heap.size < W.heap.size → _ := fun W hw q0 q1 hz => abD (jX (wrap64 (wrap64 (2 * (af.length : Int)) - 1))) w.heap.size A1 c1 l1 W (Kd.aqN HR.z hw)
  (fun x w1 hb=>abF w.heap.size ag az ay af x w1 ((hb.cell (p:=⟨w.heap.size,0,none⟩) hz).trans q0) ((hb.cell (p:=⟨w.heap.size,1,none⟩) hz).trans q1) (Kd.aqN cP.z (dc hw hb)) bG)
 have Gv:=k0 HC
 clear HC
 generalize jX (wrap64 (wrap64 (2 * (af.length:Int)) - 1))=pb at Gv ⊢
 go_enter Try.func60,Try.ntmps60
 go_wp2_with (go_at_call 109;refine (Gv.z _ (by repeat (first|exact Below.refl _ _|apply eu)) (by go_simp) (by go_simp) (by simp)).mono ?_;rintro e w' ⟨rfl,jN⟩;have iP:=k0 (dc ((Below.refl _ _).alloc (Nat.le_refl _) _) jN);clear jN)
 go_ret
 exact ⟨by first|rfl|(simp;done),iP.z⟩
/-! ### F13: function 13 -/
def jU.f (k:Nat) (ag:Int) (af:List (List Int)) (a1:Int) (a2:Int) (a3:Int) (a4:Int):Option (Int × Int):=(mA.f k ag af a1 a2).bind fun t102=>(if t102=0 then ((pW.f ag af (([a3,a4]:List Int))).bind fun t106=>(if t106=true then ((aX.f k ag af a1 a2).bind fun jx=>(if jx.2=true then (if 0≤a3 then (if a3 < (jx.1.length:Int) then (if 0≤a4 then (if a4 < ((ah jx.1 a3).length:Int) then (some (rd (ah jx.1 a3) a4,0)) else (none)) else (none)) else (none)) else (none)) else (some (0,5)))) else (some (0,2)))) else (some (0,t102)))
theorem jU.calls (k : Nat) (ag : Int) (az : Option Addr) (ay : Nat) (af : List (List Int)) (a1 : Int) (a2 : Int) (a3 : Int) (a4 : Int) (r1 : Int) (r2 : Int) (w : World) (aqO : Kd.C (Kd.slice 2 (Kd.int .i64)) w az af.length af) (bG : af.length ≤ ay) (h : jU.f k ag af a1 a2 a3 a4 = some (r1, r2)) :
  Calls Try.prog 13 #[.agg #[.int .i64 ag,.slice az af.length ay],.int .i64 a1,.int .i64 a2,.int .i64 a3,.int .i64 a4] w fun e w'=>e=.returned (.tuple #[.int .i64 r1,.int .i64 r2])∧Below w.heap.size w w':=by
 have eE:=Try.underlying26
 have aW:=k0 aqO
 have bh:=k0 bG
 clear aqO bG
 have HB:=k0 (Below.refl w.heap.size w)
 unfold jU.f at h
 have H:=h
 clear h
 replace H:=bS H;obtain ⟨t102,A6,H⟩:=H
 replace H:=iE H;obtain ⟨c7,l8,rD,H⟩|⟨l8,rD,H⟩:=H
 case inl =>
  simp only [Option.some.injEq,Prod.mk.injEq] at H
  obtain ⟨rfl,rfl⟩:=H
  go_enter Try.func13,Try.ntmps13
  go_wp2_with (first|(refine aqI (N:=5) rfl ?_;refine cz 5 #[.int .i64 ag,.slice az af.length ay] 26 bl ?_;intro aA Xg aa aqF HB;have aqR:=aqF;obtain ⟨_,_,_,_⟩:=aqA aa)|(refine aqz (f:=52) rfl ?_;refine gC (some 18) Try.func52 #[.agg #[.int .i64 ag,.slice az af.length ay],.int .i64 a1,.int .i64 a2] ?_;(with_reducible refine (mA.calls k ag _ _ af a1 a2 t102 _ ?aq ?au A6.z).mono ?_);(case aq=>exact aC (Kd.aqN aW.z HB.z));(case au=>exact bh.z);rintro e w47 ⟨rfl,hb⟩;refine ⟨_,rfl,?_⟩;replace aa:=kB aa hb;replace HB:=bW hb))
  go_ret2
  exact ⟨eR,bl⟩
 obtain ⟨oG,nu⟩:=nY (([a3,a4]:List Int):List Int)
 replace H:((pW.f ag af oG).bind fun t106=>(if t106=true then ((aX.f k ag af a1 a2).bind fun jx=>(if jx.2=true then (if 0≤a3 then (if a3 < (jx.1.length:Int) then (if 0≤a4 then (if a4 < ((ah jx.1 a3).length:Int) then (some (rd (ah jx.1 a3) a4,0)) else (none)) else (none)) else (none)) else (none)) else (some (0,5)))) else (some (0,2))))=some (r1,r2):=rH nu.z H
 replace H:=bS H;obtain ⟨t106,A8,H⟩:=H
 cases t106
 case false =>
  replace H:=iF H
  simp only [Option.some.injEq,Prod.mk.injEq] at H
  obtain ⟨rfl,rfl⟩:=H
  go_enter Try.func13,Try.ntmps13
  go_wp2_with (first|(refine aqI (N:=5) rfl ?_;refine cz 5 #[.int .i64 ag,.slice az af.length ay] 26 bl ?_;intro aA OT aa aqF HB;have aqR:=aqF;obtain ⟨_,_,_,_⟩:=aqA aa)|(refine aqz (f:=52) rfl ?_;refine gC (some 18) Try.func52 #[.agg #[.int .i64 ag,.slice az af.length ay],.int .i64 a1,.int .i64 a2] ?_;(with_reducible refine (mA.calls k ag _ _ af a1 a2 t102 _ ?aq ?au A6.z).mono ?_);(case aq=>exact aC (Kd.aqN aW.z HB.z));(case au=>exact bh.z);rintro e qt ⟨rfl,hb⟩;refine ⟨_,rfl,?_⟩;replace aa:=kB aa hb;replace HB:=bW hb;obtain ⟨_,_,_,_⟩:=aqA aa)|(refine aqI (N:=27) rfl ?_;refine Kd.gw (Kd.int .i64) _ 2 ?hg (N:=27) ?hd (xs:=([a3,a4]:List Int)) (inner:=[.int .i64 a3,.int .i64 a4]) (ok:=fun _=>True) (bw:=fun _=>True) ?hr ?hp (fun _ hk=>hk) trivial (Below.refl _ _) (Nat.le_refl _) (by simp) ?_;(case hd=>rfl);(case hg=>rfl);(case hr=>first|(go_simp;done)|(go_simp;rfl));(case hp=>exact (aH.one (show Kd.M (Kd.int .i64) _ _ _ a3 [.int .i64 a3] from rfl) (aH.one (show Kd.M (Kd.int .i64) _ _ _ a4 [.int .i64 a4] from rfl) (aH.none _ _))));intro mT xb EZ hb bH bI;clear bH bI;(first|rw [← nu.z] at EZ|(simp only [Int.reduceToNat] at EZ;rw [← nu.z] at EZ));have b8:=k0 (Kd.cA EZ (aqG bl));replace aa:=kB aa hb;replace HB:=bW hb;clear hb EZ;obtain ⟨Pq,Sv,rfl⟩:=Kd.cy b8.z)|(refine aqz (f:=60) rfl ?_;refine gC (some 28) Try.func60 #[.agg #[.int .i64 ag,.slice az af.length ay],.slice Pq oG.length Sv] ?_;(with_reducible refine (pW.calls ag _ _ af _ _ oG false _ ?aq ?au ?cr ?dw A8.z).mono ?_);(case aq=>exact aC (Kd.aqN aW.z HB.z));(case au=>exact bh.z);(case cr=>exact aC ((Kd.aqP b8.z).2.2));(case dw=>exact (Kd.aqP b8.z).2.1);rintro e Xf ⟨rfl,hb⟩;refine ⟨_,rfl,?_⟩;replace b8:=eC b8 hb;replace aa:=kB aa hb;replace HB:=bW hb))
  go_ret2
  exact ⟨eR,bl⟩
 replace H:=iT H
 replace H:=bS H;obtain ⟨⟨t107,t110⟩,Gj,H⟩:=H
 dsimp only at H
 cases t110
 case false =>
  replace H:=iF H
  simp only [Option.some.injEq,Prod.mk.injEq] at H
  obtain ⟨rfl,rfl⟩:=H
  go_enter Try.func13,Try.ntmps13
  go_wp2_with (first|(refine aqI (N:=5) rfl ?_;refine cz 5 #[.int .i64 ag,.slice az af.length ay] 26 bl ?_;intro aA rL aa aqF HB;have aqR:=aqF;obtain ⟨_,_,_,_⟩:=aqA aa)|(refine aqz (f:=52) rfl ?_;refine gC (some 18) Try.func52 #[.agg #[.int .i64 ag,.slice az af.length ay],.int .i64 a1,.int .i64 a2] ?_;(with_reducible refine (mA.calls k ag _ _ af a1 a2 t102 _ ?aq ?au A6.z).mono ?_);(case aq=>exact aC (Kd.aqN aW.z HB.z));(case au=>exact bh.z);rintro e zb ⟨rfl,hb⟩;refine ⟨_,rfl,?_⟩;replace aa:=kB aa hb;replace HB:=bW hb;obtain ⟨_,_,_,_⟩:=aqA aa)|(refine aqI (N:=27) rfl ?_;refine Kd.gw (Kd.int .i64) _ 2 ?hg (N:=27) ?hd (xs:=([a3,a4]:List Int)) (inner:=[.int .i64 a3,.int .i64 a4]) (ok:=fun _=>True) (bw:=fun _=>True) ?hr ?hp (fun _ hk=>hk) trivial (Below.refl _ _) (Nat.le_refl _) (by simp) ?_;(case hd=>rfl);(case hg=>rfl);(case hr=>first|(go_simp;done)|(go_simp;rfl));(case hp=>exact (aH.one (show Kd.M (Kd.int .i64) _ _ _ a3 [.int .i64 a3] from rfl) (aH.one (show Kd.M (Kd.int .i64) _ _ _ a4 [.int .i64 a4] from rfl) (aH.none _ _))));intro mT Je jz hb bH bI;clear bH bI;(first|rw [← nu.z] at jz|(simp only [Int.reduceToNat] at jz;rw [← nu.z] at jz));have b8:=k0 (Kd.cA jz (aqG bl));replace aa:=kB aa hb;replace HB:=bW hb;clear hb jz;obtain ⟨C4,D4,rfl⟩:=Kd.cy b8.z)|(refine aqz (f:=60) rfl ?_;refine gC (some 28) Try.func60 #[.agg #[.int .i64 ag,.slice az af.length ay],.slice C4 oG.length D4] ?_;(with_reducible refine (pW.calls ag _ _ af _ _ oG true _ ?aq ?au ?cr ?dw A8.z).mono ?_);(case aq=>exact aC (Kd.aqN aW.z HB.z));(case au=>exact bh.z);(case cr=>exact aC ((Kd.aqP b8.z).2.2));(case dw=>exact (Kd.aqP b8.z).2.1);rintro e Jf ⟨rfl,hb⟩;refine ⟨_,rfl,?_⟩;replace b8:=eC b8 hb;replace aa:=kB aa hb;replace HB:=bW hb;obtain ⟨_,_,_,_⟩:=aqA aa)|(refine aqz (f:=57) rfl ?_;refine gC (some 34) Try.func57 #[.agg #[.int .i64 ag,.slice az af.length ay],.int .i64 a1,.int .i64 a2] ?_;(with_reducible refine (aX.calls k ag _ _ af a1 a2 t107 false _ ?aq ?au Gj.z).mono ?_);(case aq=>exact aC (Kd.aqN aW.z HB.z));(case au=>exact bh.z);rintro e Xc ⟨q3,rfl,aD,hb⟩;refine ⟨_,rfl,?_⟩;replace b8:=eC b8 hb;have bD:=k0 (Kd.GR aD (aqG bl));replace aa:=kB aa hb;replace HB:=bW hb))
  go_ret2
  exact ⟨eR,bl⟩
 replace H:=iT H
 replace H:=iS H;obtain ⟨c12,H⟩:=H
 have arN:=decide_eq_true c12
 clear c12
 replace H:=iS H;obtain ⟨c13,H⟩:=H
 have arT:=decide_eq_true c13
 clear c13
 replace H:=iS H;obtain ⟨c14,H⟩:=H
 have mH:=decide_eq_true c14
 clear c14
 replace H:=iS H;obtain ⟨c15,H⟩:=H
 have kU:=decide_eq_true c15
 clear c15
 simp only [Option.some.injEq,Prod.mk.injEq] at H
 obtain ⟨rfl,rfl⟩:=H
 go_enter Try.func13,Try.ntmps13
 go_wp2_with (first|(refine aqI (N:=5) rfl ?_;refine cz 5 #[.int .i64 ag,.slice az af.length ay] 26 bl ?_;intro aA tN aa aqF HB;have aqR:=aqF;obtain ⟨_,_,_,_⟩:=aqA aa)|(refine aqz (f:=52) rfl ?_;refine gC (some 18) Try.func52 #[.agg #[.int .i64 ag,.slice az af.length ay],.int .i64 a1,.int .i64 a2] ?_;(with_reducible refine (mA.calls k ag _ _ af a1 a2 t102 _ ?aq ?au A6.z).mono ?_);(case aq=>exact aC (Kd.aqN aW.z HB.z));(case au=>exact bh.z);rintro e tO ⟨rfl,hb⟩;refine ⟨_,rfl,?_⟩;replace aa:=kB aa hb;replace HB:=bW hb;obtain ⟨_,_,_,_⟩:=aqA aa)|(refine aqI (N:=27) rfl ?_;refine Kd.gw (Kd.int .i64) _ 2 ?hg (N:=27) ?hd (xs:=([a3,a4]:List Int)) (inner:=[.int .i64 a3,.int .i64 a4]) (ok:=fun _=>True) (bw:=fun _=>True) ?hr ?hp (fun _ hk=>hk) trivial (Below.refl _ _) (Nat.le_refl _) (by simp) ?_;(case hd=>rfl);(case hg=>rfl);(case hr=>first|(go_simp;done)|(go_simp;rfl));(case hp=>exact (aH.one (show Kd.M (Kd.int .i64) _ _ _ a3 [.int .i64 a3] from rfl) (aH.one (show Kd.M (Kd.int .i64) _ _ _ a4 [.int .i64 a4] from rfl) (aH.none _ _))));intro mT wm sq hb bH bI;clear bH bI;(first|rw [← nu.z] at sq|(simp only [Int.reduceToNat] at sq;rw [← nu.z] at sq));have b8:=k0 (Kd.cA sq (aqG bl));replace aa:=kB aa hb;replace HB:=bW hb;clear hb sq;obtain ⟨Yg,adG,rfl⟩:=Kd.cy b8.z)|(refine aqz (f:=60) rfl ?_;refine gC (some 28) Try.func60 #[.agg #[.int .i64 ag,.slice az af.length ay],.slice Yg oG.length adG] ?_;(with_reducible refine (pW.calls ag _ _ af _ _ oG true _ ?aq ?au ?cr ?dw A8.z).mono ?_);(case aq=>exact aC (Kd.aqN aW.z HB.z));(case au=>exact bh.z);(case cr=>exact aC ((Kd.aqP b8.z).2.2));(case dw=>exact (Kd.aqP b8.z).2.1);rintro e asy ⟨rfl,hb⟩;refine ⟨_,rfl,?_⟩;replace b8:=eC b8 hb;replace aa:=kB aa hb;replace HB:=bW hb;obtain ⟨_,_,_,_⟩:=aqA aa)|(refine aqz (f:=57) rfl ?_;refine gC (some 34) Try.func57 #[.agg #[.int .i64 ag,.slice az af.length ay],.int .i64 a1,.int .i64 a2] ?_;(with_reducible refine (aX.calls k ag _ _ af a1 a2 t107 true _ ?aq ?au Gj.z).mono ?_);(case aq=>exact aC (Kd.aqN aW.z HB.z));(case au=>exact bh.z);rintro e Xa ⟨q3,rfl,aD,hb⟩;refine ⟨_,rfl,?_⟩;replace b8:=eC b8 hb;have bD:=k0 (Kd.GR aD (aqG bl));replace aa:=kB aa hb;replace HB:=bW hb;obtain ⟨JS,LU,rfl⟩:=Kd.QF bD.z;obtain ⟨mS,kA⟩:=iN a3 (t107.length:Int);obtain ⟨uq,XH,Lu,e111,tu,ER,EJ⟩:=cD (Kd.KV bD.z).2.2 a3 mS kA;cases e111;have wC:=k0 EJ;have Zg:=k0 ER;clear EJ ER;replace mS:=eT mS;replace kA:=eT kA;obtain ⟨iZ,iA⟩:=iN a4 ((ah t107 a3).length:Int);obtain ⟨ur,e112,tv⟩:=Kd.bM (by repeat (first|(with_reducible exact wC.z)|(with_reducible refine Kd.fP ?_ _)|(with_reducible refine Kd.fQ ?_ _)|(with_reducible refine Kd.fk ?_)|exact wC.z)) a4 iZ iA;cases e112;replace iZ:=eT iZ;replace iA:=eT iA))
 go_ret2
 exact ⟨eR,bl⟩
end Go.Proofs.Ytapnggjaeehpdaa.A
/- Set with little white space, by a program. -/
