/- The functions that one law reaches, each as a Lean function, and that Go's call comes to what it says. Condition of each: that the Lean function answers (is not none). -/
import Derived.Test.YtapnggjaeehpdaaAx0
import Derived.Test.YtapnggjaeehpdaaAx1
import Derived.Test.YtapnggjaeehpdaaAx5
import Derived.Test.YtapnggjaeehpdaaAx9
import Derived.Test.YtapnggjaeehpdaaAx11
import Derived.Test.YtapnggjaeehpdaaAx14
namespace Go.Proofs.Ytapnggjaeehpdaa.A
open Go.RowKit Go.Proofs.bB.dI Go.Proofs.bB.ark Go.Proofs.bB.jd
attribute [local go_sem] max2_int min2_int max_two min_two max_three min_three max_four min_four   -- for this text's walks alone
set_option linter.unusedVariables false
set_option linter.unusedSimpArgs false
set_option maxHeartbeats 8000000
set_option maxRecDepth 100000
/-! ### F26: function 26 -/
def pT.f (k:Nat) (l0:List Int):Option (Int × (List (List Int)) × Int × Int):=(aq5.f k l0).bind fun cN=>((ng.f k cN.1 cN.2.1 cN.2.2).bind fun dM=>((rU.f cN.1 dM.2.2.1 dM.2.2.2).bind fun ari=>((jF.f cN.1 ari.2.1 ari.2.2 (mx (wrap64 (ari.1 - 1)) 0)).bind fun arM=>(some (dM.1,dM.2.1,ari.1,arM.1)))))
def pT.T4:Bool × List (List Nat × List Nat):=(true,[([],[]),([],[]),([],[]),([],[]),([3],[3]),([4],[4]),([2,5],[2,5]),([0,6,0],[0]),([1,7,0,1,7],[1]),([6,8,0,1,2,3,4,5,6,7,8],[6])])
def pT.B4:List Nat:=[0,0,0,0,8,24,60,125,255,511]
theorem pT.Ox:eH .any (opsOf Try.f26 4)=pT.T4:=by kernel_rfl
theorem pT.Ll:iL pT.T4.2 pT.B4=true:=by kernel_rfl
theorem pT.calls (k : Nat) (A0 : Option Addr) (c0 : Nat) (l0 : List Int) (r1 : Int) (r2 : List (List Int)) (r3 : Int) (r4 : Int) (w : World) (bZ : Kd.C (Kd.int .u8) w A0 l0.length l0) (hc0 : l0.length ≤ c0) (h : pT.f k l0 = some (r1, r2, r3, r4)) :
  Calls Try.prog 26 #[.slice A0 l0.length c0] w fun e w'=>∃ fK:Value,e=.returned (.tuple #[.agg #[.int .i64 r1,fK],.int .i64 r3,.int .i64 r4])∧Kd.V (Kd.slice 2 (Kd.int .i64)) 29 w' w.heap.size (fun k_=>(w.heap.size≤k_)) fK r2∧Below w.heap.size w w':=by
 have eE:=Try.underlying26
 have cP:=k0 bZ
 have fq:=k0 hc0
 clear bZ hc0
 have HB:=k0 (Below.refl w.heap.size w)
 unfold pT.f at h
 have H:=h
 clear h
 replace H:=bS H;obtain ⟨⟨t102,t103,t104⟩,A2,H⟩:=H
 dsimp only at H
 replace H:=bS H;obtain ⟨⟨t106,t107,t110,t111⟩,A3,H⟩:=H
 dsimp only at H
 replace H:=bS H;obtain ⟨⟨t113,t114,t115⟩,A4,H⟩:=H
 dsimp only at H
 obtain ⟨j7,iI⟩:∃ j_:Int,(mx (wrap64 (t113 - 1)) 0)=j_:=⟨_,rfl⟩
 replace H:((jF.f t102 t114 t115 (j7)).bind fun arM=>(some (t106,t107,t113,arM.1)))=some (r1,r2,r3,r4):=by first|(rw [iI] at H;exact H)|(simp only [iI] at H ⊢;exact H)
 (try rw [iI] at A2)
 (try rw [iI] at A3)
 (try rw [iI] at A4)
 (try (have UW:0≤j7:=by (rw [← iI];unfold mx;(repeat' split)<;>omega)))
 (try (have UX:0≤j7:=by omega))
 have UU:(if (wrap64 (t113 - 1)) < 0 then 0 else (wrap64 (t113 - 1)))=j7:=iI
 replace H:=bS H;obtain ⟨⟨t116,t117,t118⟩,A6,H⟩:=H
 dsimp only at H
 simp only [Option.some.injEq,Prod.mk.injEq] at H
 obtain ⟨rfl,rfl,rfl,rfl⟩:=H
 go_enter Try.func26,Try.ntmps26
 try go_wp2_with (first|(refine aqI (N:=2) rfl ?_;refine cz 2 #[.int .i64 0,.slice none 0 0] 26 bl ?_;intro aA w7 aa aqF HB;have aqR:=aqF)|(refine aqz (f:=47) rfl ?_;refine gC (some 9) Try.func47 #[.slice A0 l0.length c0] ?_;(with_reducible refine (aq5.calls k _ _ l0 t102 t103 t104 w _ ?aq ?au ?cr A2.z).mono ?_);(case aq=>exact aL HB.z);(case au=>exact cP.z);(case cr=>exact fq.z);rintro e w8 ⟨g105,rfl,hi,hb,eU⟩;refine ⟨_,rfl,?_⟩;replace HB:=k0 (hb);have aM:=k0 (hi);have oU:=k0 (aj.qo hi (cV (aB aa.z) eU) (by decide));have hU:=k0 (Ne.symm (aj.qo hi (cV (aB aa.z) eU) (by decide)));replace aa:=kB aa eU)|(refine aqz (f:=48) rfl ?_;refine gC (some 11) Try.func48 #[.pointer (some ⟨g105,0,none⟩)] ?_;(with_reducible refine (ng.calls k g105 t102 t103 t104 t106 t107 t110 t111 w _ ?aq ?au A3.z).mono ?_);(case aq=>exact aqy aM.z);(case au=>exact aG (aj.ge aM.z) HB.z);rintro e w9 ⟨q3,rfl,aD,hi,hb,hk⟩;refine ⟨_,rfl,?_⟩;have bD:=k0 (Kd.p_ (Kd.aZ (ok':=fun k_=>(w.heap.size≤k_)∧k_ ≠ aA∧k_ ≠ g105) aD (fun k_ aqJ=>⟨(Nat.le_trans (aqG (aG (aj.ge aM.z) HB.z)) aqJ),(Kd.ig (aB aa.z) k_ aqJ),(aj.fresh (aqy aM.z) k_ aqJ)⟩)) (aqG (aG (aj.ge aM.z) HB.z)));replace aa:=kK hk aa hU;replace HB:=k0 (hb);replace aM:=k0 (hi))|(refine aqI (N:=6) rfl ?_;refine fu 6 #[.int .i64 0,.slice none 0 0] 26 ?_;intro bV hg jh bq hb;replace bD:=eL bD hg hb;have cj:=k0 (bq);have Db:=k0 ((by rw [hg];exact (aqG (aG (aj.ge aM.z) HB.z)):w.heap.size≤bV));have Da:=k0 ((by rw [hg];exact (aqG (aG (aj.ge aM.z) HB.z)):w.heap.size≤bV));replace HB:=k0 (dc (aG (aj.ge aM.z) HB.z) hb);have kO:=nL hg aa;have eB:=nG kO;replace aa:=kB aa hb;have Dw:=k0 ((by rw [hg];exact Nat.ne_of_lt (aj.lt (show aj w _ g105 t102 t110 t111 from aqy aM.z)):g105 ≠ bV));have kj:=k0 ((by rw [hg];exact Nat.ne_of_gt (aj.lt (show aj w _ g105 t102 t110 t111 from aqy aM.z)):bV ≠ g105));replace aM:=k0 (aj.below (aqy aM.z) hb);clear hb bq hg;obtain ⟨_,_⟩:=nE eB;obtain ⟨_,_⟩:=nE kj;obtain ⟨_,_,_,_⟩:=aqA cj;obtain ⟨jD,jM,rfl⟩:=Kd.arO bD.z)|(refine aqz (f:=50) rfl ?_;refine gC (some 13) Try.func50 #[.pointer (some ⟨g105,0,none⟩)] ?_;(with_reducible refine (rU.calls g105 t102 t110 t111 t113 t114 t115 w _ ?aq ?au A4.z).mono ?_);(case aq=>exact aqy aM.z);(case au=>exact aG (aj.ge aM.z) HB.z);rintro e pH ⟨rfl,hi,hb,hk⟩;refine ⟨_,rfl,?_⟩;replace aa:=k0 (aqB.blk hk (g':=aA) (o:=.cells #[.int .i64 0,.slice none 0 0] 26 (0,0)) kZ hU.z (by simp));replace bD:=k0 (Kd.aZ (Kd.lY (Kd.aZ (ok:=fun k_=>((((w.heap.size≤k_))∧(k_ ≠ aA∧k_ ≠ g105))∧k_ ≠ bV)) (fV bD) (fun k_ aqJ=>(⟨aqJ,aqJ.1.2.2⟩:_∧k_ ≠ g105))) hk (fun _ h=>h.2)) (fun _ h=>h.1));replace cj:=k0 (aqB.blk hk (g':=bV) (o:=sO t106 jD t107 jM 26) kZ kj.z (by simp));replace HB:=k0 (hb);replace aM:=k0 (hi)))
 replace bD:=k0 (Kd.lG bD.z);replace aa:=k0 (cJ aa.z);replace cj:=k0 (cJ cj.z);replace aM:=k0 (aj.drew aM.z);replace HB:=k0 (aqW HB.z)
 refine gz (n:=10) (S:=fun w'=>w'.cell? ⟨bV,0,none⟩=some (.int .i64 t106)∧w'.cell? ⟨bV,1,none⟩=some (.slice jD t107.length jM)) (ds:=[]) (ba 10 0) (by kernel_rfl) rfl rfl ⟨cH cj,cE cj⟩ (fun hHeld=>?_);refine hJ pT.Ox pT.Ll (fun ak bE=>?_)
 generalize pH.drew=tN at bD aa cj aM HB hHeld ⊢
 refine pu 1 (some 15) (ba 10 2) ak (h:=?_)
 refine pu 2 (some 16) (ba 10 6) ak (h:=?_)
 refine pu 3 (some 17) (ba 10 14) ak (h:=?_)
 refine pu 4 (some 18) (ba 10 30) ak (h:=?_)
 refine pu 5 (some 19) (ba 10 62) ak (h:=?_)
 refine ta 0 (some 14) (ba 10 63) ak bE hHeld (hy:=Or.inl ⟨by rfl,by rintro w' ⟨s0,s1⟩;go_simp;with_reducible rfl⟩) (h:=?_)
 refine eG (i:=6) (N:=some 20) (ba 10 127) rfl rfl (dU ak.out (by kernel_rfl)) (by decide) (fun K hK=>?_)
 refine iy Try.func59 (by kernel_rfl) rfl #[.pointer (some ⟨g105,0,none⟩),.int .i64 j7] (by rfl) rfl rfl (by (try simp only [List.map_toArray,List.map_cons,List.map_nil]);first|done|(simp only [iI];rfl)|rfl|(simp only [List.length_drop,List.length_take];rfl)) ?_
 with_reducible refine (jF.calls g105 t102 t114 t115 j7 t116 t117 t118 w _ ?aq ?au A6.z).mono ?_
 (case aq=>exact aqy aM.z)
 (case au=>exact aG (aj.ge aM.z) HB.z)
 rintro e y_ ⟨rfl,hi,hb,hk⟩
 refine ⟨_,rfl,?_⟩
 replace aa:=kK hk aa hU;replace bD:=k0 (Kd.aZ (Kd.lY (Kd.aZ (ok:=fun k_=>((((w.heap.size≤k_))∧(k_ ≠ aA∧k_ ≠ g105))∧k_ ≠ bV)) (aV bD.z) (fun k_ aqJ=>(⟨aqJ,aqJ.1.2.2⟩:_∧k_ ≠ g105))) hk (fun _ h=>h.2)) (fun _ h=>h.1));replace cj:=kK hk cj kj;replace HB:=k0 (hb);replace aM:=k0 (hi)
 refine hK.out _ _ ⟨cH cj,cE cj⟩ (fun hHeld=>?_)
 clear hK K
 refine eV (a':=?_) ?_ ?_
 rotate_left;· show Act.put _ (some 20) _=_;simp only [Act.put,zI,zZ,zS,bJ,ck];rfl
 refine eG (i:=7) (N:=none) (ba 10 255) rfl rfl (dU ak.out (by kernel_rfl)) (by decide) (fun K hK=>?_)
 obtain ⟨_,_⟩:=qg aa
 have MZ:=eB.z
 have MY:=kO.z
 have Vq:=cE aa
 have Uj:=bF aa 1
 have Vj:=eB.z
 have Vh:=kO.z
 refine oz (w1:=?_) (by rfl) rfl ?_ ?_
 rotate_left;· go_simp;rfl
 refine hK.out _ _ ⟨((cell_far (p:=⟨aA,_,none⟩) eB.z _).trans (((cell_far (p:=⟨aA,_,none⟩) eB.z _).trans (hHeld.1)))),((cell_far (p:=⟨aA,_,none⟩) eB.z _).trans (((cell_far (p:=⟨aA,_,none⟩) eB.z _).trans (hHeld.2))))⟩ (fun hHeld=>?_)
 clear hK K
 refine pu 8 (some 3) (ba 10 511) ak (h:=?_)
 refine pu 9 (some 4) (ba 10 1023) ak (h:=?_)
 refine gx (gZ ak.out (by kernel_rfl)) ?_
 try go_wp2
 refine bodyPost_ret (WH rfl _ _ aA 26 #[.int .i64 t106,.slice jD t107.length jM] (0,0) _ rfl kZ Try.underlying26 rfl (by kernel_rfl)) rfl ?_
 exact ⟨_,by first|rfl|(simp [ic,ie]<;>rfl)|(simp only [← iI];first|rfl|(simp [ic,ie]<;>rfl))|(simp [*,ic,ie]<;>rfl),aV (Kd.aZ (Kd.je (p:=⟨aA,1,none⟩) (Kd.je (p:=⟨aA,0,none⟩) (Kd.aZ bD.z (fun k_ hk=>(⟨hk,hk.1.2.1⟩:_∧k_ ≠ aA))) (fun _ hk=>hk.2) (.int .i64 t106)) (fun _ hk=>hk.2) (.slice jD t107.length jM)) (fun _ hk=>hk.1.1.1)),aG (aj.ge aM.z) HB.z⟩
/-! ### F27: function 27 -/
def zv.f (k:Nat) (ag:Int) (af:List (List Int)) (a1:Int) (a2:Int):Option (Int × Int):=(iO.f k ag af a1 (([a2]:List Int))).bind fun t105=>(if t105=0 then ((aU.f k ag af a1 a2).bind fun dM=>(some (dM.2,0))) else (some (0,t105)))
theorem zv.calls (k : Nat) (ag : Int) (az : Option Addr) (ay : Nat) (af : List (List Int)) (a1 : Int) (a2 : Int) (r1 : Int) (r2 : Int) (w : World) (aqO : Kd.C (Kd.slice 2 (Kd.int .i64)) w az af.length af) (bG : af.length ≤ ay) (h : zv.f k ag af a1 a2 = some (r1, r2)) :
  Calls Try.prog 27 #[.agg #[.int .i64 ag,.slice az af.length ay],.int .i64 a1,.int .i64 a2] w fun e w'=>e=.returned (.tuple #[.int .i64 r1,.int .i64 r2])∧Below w.heap.size w w':=by
 have eE:=Try.underlying26
 have aW:=k0 aqO
 have bh:=k0 bG
 clear aqO bG
 have HB:=k0 (Below.refl w.heap.size w)
 unfold zv.f at h
 have H:=h
 clear h
 obtain ⟨gq,gv⟩:=nY (([a2]:List Int):List Int)
 replace H:((iO.f k ag af a1 gq).bind fun t105=>(if t105=0 then ((aU.f k ag af a1 a2).bind fun dM=>(some (dM.2,0))) else (some (0,t105))))=some (r1,r2):=rH gv.z H
 replace H:=bS H;obtain ⟨t105,A4,H⟩:=H
 replace H:=iE H;obtain ⟨c5,gD,arP,H⟩|⟨gD,arP,H⟩:=H
 case inl =>
  simp only [Option.some.injEq,Prod.mk.injEq] at H
  obtain ⟨rfl,rfl⟩:=H
  go_enter Try.func27,Try.ntmps27
  go_wp2_with (first|(refine aqI (N:=3) rfl ?_;refine cz 3 #[.int .i64 ag,.slice az af.length ay] 26 bl ?_;intro aA pH aa aqF HB;have aqR:=aqF;obtain ⟨_,_,_,_⟩:=aqA aa)|(refine aqI (N:=14) rfl ?_;refine Kd.gw (Kd.int .i64) _ 2 ?hg (N:=14) ?hd (xs:=([a2]:List Int)) (inner:=[.int .i64 a2]) (ok:=fun _=>True) (bw:=fun _=>True) ?hr ?hp (fun _ hk=>hk) trivial (Below.refl _ _) (Nat.le_refl _) (by simp) ?_;(case hd=>rfl);(case hg=>rfl);(case hr=>first|(go_simp;done)|(go_simp;rfl));(case hp=>exact (aH.one (show Kd.M (Kd.int .i64) _ _ _ a2 [.int .i64 a2] from rfl) (aH.none _ _)));intro ary y_ EW hb bH bI;clear bH bI;(first|rw [← gv.z] at EW|(simp only [Int.reduceToNat] at EW;rw [← gv.z] at EW));have bU:=k0 (Kd.cA EW (aqG bl));replace aa:=kB aa hb;replace HB:=bW hb;clear hb EW;obtain ⟨zl,asF,rfl⟩:=Kd.cy bU.z)|(refine aqz (f:=55) rfl ?_;refine gC (some 15) Try.func55 #[.agg #[.int .i64 ag,.slice az af.length ay],.int .i64 a1,.slice zl gq.length asF] ?_;(with_reducible refine (iO.calls k ag _ _ af a1 _ _ gq t105 _ ?aq ?au ?cr ?dw A4.z).mono ?_);(case aq=>exact aC (Kd.aqN aW.z HB.z));(case au=>exact bh.z);(case cr=>exact aC ((Kd.aqP bU.z).2.2));(case dw=>exact (Kd.aqP bU.z).2.1);rintro e wm ⟨rfl,hb⟩;refine ⟨_,rfl,?_⟩;replace bU:=eC bU hb;replace aa:=kB aa hb;replace HB:=bW hb))
  go_ret2
  exact ⟨eR,bl⟩
 replace H:=bS H;obtain ⟨⟨t106,t109⟩,A6,H⟩:=H
 dsimp only at H
 simp only [Option.some.injEq,Prod.mk.injEq] at H
 obtain ⟨rfl,rfl⟩:=H
 go_enter Try.func27,Try.ntmps27
 go_wp2_with (first|(refine aqI (N:=3) rfl ?_;refine cz 3 #[.int .i64 ag,.slice az af.length ay] 26 bl ?_;intro aA w7 aa aqF HB;have aqR:=aqF;obtain ⟨_,_,_,_⟩:=aqA aa)|(refine aqI (N:=14) rfl ?_;refine Kd.gw (Kd.int .i64) _ 2 ?hg (N:=14) ?hd (xs:=([a2]:List Int)) (inner:=[.int .i64 a2]) (ok:=fun _=>True) (bw:=fun _=>True) ?hr ?hp (fun _ hk=>hk) trivial (Below.refl _ _) (Nat.le_refl _) (by simp) ?_;(case hd=>rfl);(case hg=>rfl);(case hr=>first|(go_simp;done)|(go_simp;rfl));(case hp=>exact (aH.one (show Kd.M (Kd.int .i64) _ _ _ a2 [.int .i64 a2] from rfl) (aH.none _ _)));intro ary w9 jP hb bH bI;clear bH bI;(first|rw [← gv.z] at jP|(simp only [Int.reduceToNat] at jP;rw [← gv.z] at jP));have bU:=k0 (Kd.cA jP (aqG bl));replace aa:=kB aa hb;replace HB:=bW hb;clear hb jP;obtain ⟨eJ,dg,rfl⟩:=Kd.cy bU.z)|(refine aqz (f:=55) rfl ?_;refine gC (some 15) Try.func55 #[.agg #[.int .i64 ag,.slice az af.length ay],.int .i64 a1,.slice eJ gq.length dg] ?_;(with_reducible refine (iO.calls k ag _ _ af a1 _ _ gq t105 _ ?aq ?au ?cr ?dw A4.z).mono ?_);(case aq=>exact aC (Kd.aqN aW.z HB.z));(case au=>exact bh.z);(case cr=>exact aC ((Kd.aqP bU.z).2.2));(case dw=>exact (Kd.aqP bU.z).2.1);rintro e oB ⟨rfl,hb⟩;refine ⟨_,rfl,?_⟩;replace bU:=eC bU hb;replace aa:=kB aa hb;replace HB:=bW hb;obtain ⟨_,_,_,_⟩:=aqA aa)|(refine aqz (f:=56) rfl ?_;refine gC (some 23) Try.func56 #[.agg #[.int .i64 ag,.slice az af.length ay],.int .i64 a1,.int .i64 a2] ?_;(with_reducible refine (aU.calls k ag _ _ af a1 a2 t106 t109 _ ?aq ?au A6.z).mono ?_);(case aq=>exact aC (Kd.aqN aW.z HB.z));(case au=>exact bh.z);rintro e vv ⟨vq,rfl,aD,hb⟩;refine ⟨_,rfl,?_⟩;have lX:=k0 (Kd.fT (Kd.oX aD (Kd.eZ (aR bU.z))) (aqG bl));replace bU:=eC bU hb;replace aa:=kB aa hb;replace HB:=bW hb))
 go_ret2
 exact ⟨eR,bl⟩
/-! ### F28: function 28 -/
def pU.f (k:Nat) (l0:List Int):Option (Int × (List (List Int)) × Int × Int):=(aq5.f k l0).bind fun cN=>((ng.f k cN.1 cN.2.1 cN.2.2).bind fun dM=>((rU.f cN.1 dM.2.2.1 dM.2.2.2).bind fun ari=>((jF.f cN.1 ari.2.1 ari.2.2 (mx (wrap64 (ari.1 - 1)) 0)).bind fun arM=>(some (dM.1,dM.2.1,ari.1,arM.1)))))
def pU.T4:Bool × List (List Nat × List Nat):=(true,[([],[]),([],[]),([],[]),([],[]),([3],[3]),([4],[4]),([2,5],[2,5]),([0,6,0],[0]),([1,7,0,1,7],[1]),([6,8,0,1,2,3,4,5,6,7,8],[6])])
def pU.B4:List Nat:=[0,0,0,0,8,24,60,125,255,511]
theorem pU.Ox:eH .any (opsOf Try.f28 4)=pU.T4:=by kernel_rfl
theorem pU.Ll:iL pU.T4.2 pU.B4=true:=by kernel_rfl
theorem pU.calls (k : Nat) (A0 : Option Addr) (c0 : Nat) (l0 : List Int) (r1 : Int) (r2 : List (List Int)) (r3 : Int) (r4 : Int) (w : World) (bZ : Kd.C (Kd.int .u8) w A0 l0.length l0) (hc0 : l0.length ≤ c0) (h : pU.f k l0 = some (r1, r2, r3, r4)) :
  Calls Try.prog 28 #[.slice A0 l0.length c0] w fun e w'=>∃ fK:Value,e=.returned (.tuple #[.agg #[.int .i64 r1,fK],.int .i64 r3,.int .i64 r4])∧Kd.V (Kd.slice 2 (Kd.int .i64)) 29 w' w.heap.size (fun k_=>(w.heap.size≤k_)) fK r2∧Below w.heap.size w w':=by
 have eE:=Try.underlying26
 have cP:=k0 bZ
 have fq:=k0 hc0
 clear bZ hc0
 have HB:=k0 (Below.refl w.heap.size w)
 unfold pU.f at h
 have H:=h
 clear h
 replace H:=bS H;obtain ⟨⟨t102,t103,t104⟩,A2,H⟩:=H
 dsimp only at H
 replace H:=bS H;obtain ⟨⟨t106,t107,t110,t111⟩,A3,H⟩:=H
 dsimp only at H
 replace H:=bS H;obtain ⟨⟨t113,t114,t115⟩,A4,H⟩:=H
 dsimp only at H
 obtain ⟨j7,iI⟩:∃ j_:Int,(mx (wrap64 (t113 - 1)) 0)=j_:=⟨_,rfl⟩
 replace H:((jF.f t102 t114 t115 (j7)).bind fun arM=>(some (t106,t107,t113,arM.1)))=some (r1,r2,r3,r4):=by first|(rw [iI] at H;exact H)|(simp only [iI] at H ⊢;exact H)
 (try rw [iI] at A2)
 (try rw [iI] at A3)
 (try rw [iI] at A4)
 (try (have UW:0≤j7:=by (rw [← iI];unfold mx;(repeat' split)<;>omega)))
 (try (have UX:0≤j7:=by omega))
 have UU:(if (wrap64 (t113 - 1)) < 0 then 0 else (wrap64 (t113 - 1)))=j7:=iI
 replace H:=bS H;obtain ⟨⟨t116,t117,t118⟩,A6,H⟩:=H
 dsimp only at H
 simp only [Option.some.injEq,Prod.mk.injEq] at H
 obtain ⟨rfl,rfl,rfl,rfl⟩:=H
 go_enter Try.func28,Try.ntmps28
 try go_wp2_with (first|(refine aqI (N:=2) rfl ?_;refine cz 2 #[.int .i64 0,.slice none 0 0] 26 bl ?_;intro aA w7 aa aqF HB;have aqR:=aqF)|(refine aqz (f:=47) rfl ?_;refine gC (some 9) Try.func47 #[.slice A0 l0.length c0] ?_;(with_reducible refine (aq5.calls k _ _ l0 t102 t103 t104 w _ ?aq ?au ?cr A2.z).mono ?_);(case aq=>exact aL HB.z);(case au=>exact cP.z);(case cr=>exact fq.z);rintro e w8 ⟨g105,rfl,hi,hb,eU⟩;refine ⟨_,rfl,?_⟩;replace HB:=k0 (hb);have aM:=k0 (hi);have oU:=k0 (aj.qo hi (cV (aB aa.z) eU) (by decide));have hU:=k0 (Ne.symm (aj.qo hi (cV (aB aa.z) eU) (by decide)));replace aa:=kB aa eU)|(refine aqz (f:=48) rfl ?_;refine gC (some 11) Try.func48 #[.pointer (some ⟨g105,0,none⟩)] ?_;(with_reducible refine (ng.calls k g105 t102 t103 t104 t106 t107 t110 t111 w _ ?aq ?au A3.z).mono ?_);(case aq=>exact aqy aM.z);(case au=>exact aG (aj.ge aM.z) HB.z);rintro e w9 ⟨q3,rfl,aD,hi,hb,hk⟩;refine ⟨_,rfl,?_⟩;have bD:=k0 (Kd.p_ (Kd.aZ (ok':=fun k_=>(w.heap.size≤k_)∧k_ ≠ aA∧k_ ≠ g105) aD (fun k_ aqJ=>⟨(Nat.le_trans (aqG (aG (aj.ge aM.z) HB.z)) aqJ),(Kd.ig (aB aa.z) k_ aqJ),(aj.fresh (aqy aM.z) k_ aqJ)⟩)) (aqG (aG (aj.ge aM.z) HB.z)));replace aa:=kK hk aa hU;replace HB:=k0 (hb);replace aM:=k0 (hi))|(refine aqI (N:=6) rfl ?_;refine fu 6 #[.int .i64 0,.slice none 0 0] 26 ?_;intro bV hg jh bq hb;replace bD:=eL bD hg hb;have cj:=k0 (bq);have Db:=k0 ((by rw [hg];exact (aqG (aG (aj.ge aM.z) HB.z)):w.heap.size≤bV));have Da:=k0 ((by rw [hg];exact (aqG (aG (aj.ge aM.z) HB.z)):w.heap.size≤bV));replace HB:=k0 (dc (aG (aj.ge aM.z) HB.z) hb);have kO:=nL hg aa;have eB:=nG kO;replace aa:=kB aa hb;have Dw:=k0 ((by rw [hg];exact Nat.ne_of_lt (aj.lt (show aj w _ g105 t102 t110 t111 from aqy aM.z)):g105 ≠ bV));have kj:=k0 ((by rw [hg];exact Nat.ne_of_gt (aj.lt (show aj w _ g105 t102 t110 t111 from aqy aM.z)):bV ≠ g105));replace aM:=k0 (aj.below (aqy aM.z) hb);clear hb bq hg;obtain ⟨_,_⟩:=nE eB;obtain ⟨_,_⟩:=nE kj;obtain ⟨_,_,_,_⟩:=aqA cj;obtain ⟨jD,jM,rfl⟩:=Kd.arO bD.z)|(refine aqz (f:=50) rfl ?_;refine gC (some 13) Try.func50 #[.pointer (some ⟨g105,0,none⟩)] ?_;(with_reducible refine (rU.calls g105 t102 t110 t111 t113 t114 t115 w _ ?aq ?au A4.z).mono ?_);(case aq=>exact aqy aM.z);(case au=>exact aG (aj.ge aM.z) HB.z);rintro e pH ⟨rfl,hi,hb,hk⟩;refine ⟨_,rfl,?_⟩;replace aa:=k0 (aqB.blk hk (g':=aA) (o:=.cells #[.int .i64 0,.slice none 0 0] 26 (0,0)) kZ hU.z (by simp));replace bD:=k0 (Kd.aZ (Kd.lY (Kd.aZ (ok:=fun k_=>((((w.heap.size≤k_))∧(k_ ≠ aA∧k_ ≠ g105))∧k_ ≠ bV)) (fV bD) (fun k_ aqJ=>(⟨aqJ,aqJ.1.2.2⟩:_∧k_ ≠ g105))) hk (fun _ h=>h.2)) (fun _ h=>h.1));replace cj:=k0 (aqB.blk hk (g':=bV) (o:=sO t106 jD t107 jM 26) kZ kj.z (by simp));replace HB:=k0 (hb);replace aM:=k0 (hi)))
 replace bD:=k0 (Kd.lG bD.z);replace aa:=k0 (cJ aa.z);replace cj:=k0 (cJ cj.z);replace aM:=k0 (aj.drew aM.z);replace HB:=k0 (aqW HB.z)
 refine gz (n:=10) (S:=fun w'=>w'.cell? ⟨bV,0,none⟩=some (.int .i64 t106)∧w'.cell? ⟨bV,1,none⟩=some (.slice jD t107.length jM)) (ds:=[]) (ba 10 0) (by kernel_rfl) rfl rfl ⟨cH cj,cE cj⟩ (fun hHeld=>?_);refine hJ pU.Ox pU.Ll (fun ak bE=>?_)
 generalize pH.drew=tN at bD aa cj aM HB hHeld ⊢
 refine pu 1 (some 15) (ba 10 2) ak (h:=?_)
 refine pu 2 (some 16) (ba 10 6) ak (h:=?_)
 refine pu 3 (some 17) (ba 10 14) ak (h:=?_)
 refine pu 4 (some 18) (ba 10 30) ak (h:=?_)
 refine pu 5 (some 19) (ba 10 62) ak (h:=?_)
 refine ta 0 (some 14) (ba 10 63) ak bE hHeld (hy:=Or.inl ⟨by rfl,by rintro w' ⟨s0,s1⟩;go_simp;with_reducible rfl⟩) (h:=?_)
 refine eG (i:=6) (N:=some 20) (ba 10 127) rfl rfl (dU ak.out (by kernel_rfl)) (by decide) (fun K hK=>?_)
 refine iy Try.func59 (by kernel_rfl) rfl #[.pointer (some ⟨g105,0,none⟩),.int .i64 j7] (by rfl) rfl rfl (by (try simp only [List.map_toArray,List.map_cons,List.map_nil]);first|done|(simp only [iI];rfl)|rfl|(simp only [List.length_drop,List.length_take];rfl)) ?_
 with_reducible refine (jF.calls g105 t102 t114 t115 j7 t116 t117 t118 w _ ?aq ?au A6.z).mono ?_
 (case aq=>exact aqy aM.z)
 (case au=>exact aG (aj.ge aM.z) HB.z)
 rintro e y_ ⟨rfl,hi,hb,hk⟩
 refine ⟨_,rfl,?_⟩
 replace aa:=kK hk aa hU;replace bD:=k0 (Kd.aZ (Kd.lY (Kd.aZ (ok:=fun k_=>((((w.heap.size≤k_))∧(k_ ≠ aA∧k_ ≠ g105))∧k_ ≠ bV)) (aV bD.z) (fun k_ aqJ=>(⟨aqJ,aqJ.1.2.2⟩:_∧k_ ≠ g105))) hk (fun _ h=>h.2)) (fun _ h=>h.1));replace cj:=kK hk cj kj;replace HB:=k0 (hb);replace aM:=k0 (hi)
 refine hK.out _ _ ⟨cH cj,cE cj⟩ (fun hHeld=>?_)
 clear hK K
 refine eV (a':=?_) ?_ ?_
 rotate_left;· show Act.put _ (some 20) _=_;simp only [Act.put,zI,zZ,zS,bJ,ck];rfl
 refine eG (i:=7) (N:=none) (ba 10 255) rfl rfl (dU ak.out (by kernel_rfl)) (by decide) (fun K hK=>?_)
 obtain ⟨_,_⟩:=qg aa
 have MZ:=eB.z
 have MY:=kO.z
 have Vq:=cE aa
 have Uj:=bF aa 1
 have Vj:=eB.z
 have Vh:=kO.z
 refine oz (w1:=?_) (by rfl) rfl ?_ ?_
 rotate_left;· go_simp;rfl
 refine hK.out _ _ ⟨((cell_far (p:=⟨aA,_,none⟩) eB.z _).trans (((cell_far (p:=⟨aA,_,none⟩) eB.z _).trans (hHeld.1)))),((cell_far (p:=⟨aA,_,none⟩) eB.z _).trans (((cell_far (p:=⟨aA,_,none⟩) eB.z _).trans (hHeld.2))))⟩ (fun hHeld=>?_)
 clear hK K
 refine pu 8 (some 3) (ba 10 511) ak (h:=?_)
 refine pu 9 (some 4) (ba 10 1023) ak (h:=?_)
 refine gx (gZ ak.out (by kernel_rfl)) ?_
 try go_wp2
 refine bodyPost_ret (WH rfl _ _ aA 26 #[.int .i64 t106,.slice jD t107.length jM] (0,0) _ rfl kZ Try.underlying26 rfl (by kernel_rfl)) rfl ?_
 exact ⟨_,by first|rfl|(simp [ic,ie]<;>rfl)|(simp only [← iI];first|rfl|(simp [ic,ie]<;>rfl))|(simp [*,ic,ie]<;>rfl),aV (Kd.aZ (Kd.je (p:=⟨aA,1,none⟩) (Kd.je (p:=⟨aA,0,none⟩) (Kd.aZ bD.z (fun k_ hk=>(⟨hk,hk.1.2.1⟩:_∧k_ ≠ aA))) (fun _ hk=>hk.2) (.int .i64 t106)) (fun _ hk=>hk.2) (.slice jD t107.length jM)) (fun _ hk=>hk.1.1.1)),aG (aj.ge aM.z) HB.z⟩
/-! ### F29: function 29 -/
def m_.l0 : Nat → Int → List (List Int) → Int → Int → Option (Int × Int)
 | 0,_,_,_,_=>none
 | k+1,x1,x9,aqS,dJ=>if dJ < (x9.length:Int) then (if 0≤dJ then (if dJ < ((ah x9 dJ).length:Int) then (m_.l0 k x1 x9 (wrap64 (aqS+(rd (ah x9 dJ) dJ))) (wrap64 (dJ+1))) else (none)) else (none)) else (if x1=0 then (none) else (some (Int.tmod aqS x1,0)))
def m_.f (k:Nat) (ag:Int) (af:List (List Int)) (a1:Int) (a2:Int):Option (Int × Int):=(iO.f k ag af a1 (([a2]:List Int))).bind fun t105=>(if t105=0 then ((aU.f k ag af a1 a2).bind fun dM=>(if dM.2=0 then (some (0,5)) else (m_.l0 k a1 dM.1 0 0))) else (some (0,t105)))
theorem m_.calls (k : Nat) (ag : Int) (az : Option Addr) (ay : Nat) (af : List (List Int)) (a1 : Int) (a2 : Int) (r1 : Int) (r2 : Int) (w : World) (aqO : Kd.C (Kd.slice 2 (Kd.int .i64)) w az af.length af) (bG : af.length ≤ ay) (h : m_.f k ag af a1 a2 = some (r1, r2)) :
  Calls Try.prog 29 #[.agg #[.int .i64 ag,.slice az af.length ay],.int .i64 a1,.int .i64 a2] w fun e w'=>e=.returned (.tuple #[.int .i64 r1,.int .i64 r2])∧Below w.heap.size w w':=by
 have eE:=Try.underlying26
 have aW:=k0 aqO
 have bh:=k0 bG
 clear aqO bG
 have HB:=k0 (Below.refl w.heap.size w)
 unfold m_.f at h
 have H:=h
 clear h
 obtain ⟨gq,gv⟩:=nY (([a2]:List Int):List Int)
 replace H:((iO.f k ag af a1 gq).bind fun t105=>(if t105=0 then ((aU.f k ag af a1 a2).bind fun dM=>(if dM.2=0 then (some (0,5)) else (m_.l0 k a1 dM.1 0 0))) else (some (0,t105))))=some (r1,r2):=rH gv.z H
 replace H:=bS H;obtain ⟨t105,A4,H⟩:=H
 replace H:=iE H;obtain ⟨c5,gD,arP,H⟩|⟨gD,arP,H⟩:=H
 case inl =>
  simp only [Option.some.injEq,Prod.mk.injEq] at H
  obtain ⟨rfl,rfl⟩:=H
  go_enter Try.func29,Try.ntmps29
  go_wp2_with (first|(refine aqI (N:=3) rfl ?_;refine cz 3 #[.int .i64 ag,.slice az af.length ay] 26 bl ?_;intro aA CV aa aqF HB;have aqR:=aqF;obtain ⟨_,_,_,_⟩:=aqA aa)|(refine aqI (N:=16) rfl ?_;refine Kd.gw (Kd.int .i64) _ 2 ?hg (N:=16) ?hd (xs:=([a2]:List Int)) (inner:=[.int .i64 a2]) (ok:=fun _=>True) (bw:=fun _=>True) ?hr ?hp (fun _ hk=>hk) trivial (Below.refl _ _) (Nat.le_refl _) (by simp) ?_;(case hd=>rfl);(case hg=>rfl);(case hr=>first|(go_simp;done)|(go_simp;rfl));(case hp=>exact (aH.one (show Kd.M (Kd.int .i64) _ _ _ a2 [.int .i64 a2] from rfl) (aH.none _ _)));intro ary as_ EY hb bH bI;clear bH bI;(first|rw [← gv.z] at EY|(simp only [Int.reduceToNat] at EY;rw [← gv.z] at EY));have bU:=k0 (Kd.cA EY (aqG bl));replace aa:=kB aa hb;replace HB:=bW hb;clear hb EY;obtain ⟨xx,x_,rfl⟩:=Kd.cy bU.z)|(refine aqz (f:=55) rfl ?_;refine gC (some 17) Try.func55 #[.agg #[.int .i64 ag,.slice az af.length ay],.int .i64 a1,.slice xx gq.length x_] ?_;(with_reducible refine (iO.calls k ag _ _ af a1 _ _ gq t105 _ ?aq ?au ?cr ?dw A4.z).mono ?_);(case aq=>exact aC (Kd.aqN aW.z HB.z));(case au=>exact bh.z);(case cr=>exact aC ((Kd.aqP bU.z).2.2));(case dw=>exact (Kd.aqP bU.z).2.1);rintro e Jg ⟨rfl,hb⟩;refine ⟨_,rfl,?_⟩;replace bU:=eC bU hb;replace aa:=kB aa hb;replace HB:=bW hb))
  go_ret2
  exact ⟨eR,bl⟩
 replace H:=bS H;obtain ⟨⟨t106,t109⟩,A6,H⟩:=H
 dsimp only at H
 replace H:=iE H;obtain ⟨c7,l8,rD,H⟩|⟨l8,rD,H⟩:=H
 case inl =>
  have H':=k0 H
  clear H
  go_enter Try.func29,Try.ntmps29
  go_wp2_with (first|(refine aqI (N:=3) rfl ?_;refine cz 3 #[.int .i64 ag,.slice az af.length ay] 26 bl ?_;intro aA tN aa aqF HB;have aqR:=aqF;obtain ⟨_,_,_,_⟩:=aqA aa)|(refine aqI (N:=16) rfl ?_;refine Kd.gw (Kd.int .i64) _ 2 ?hg (N:=16) ?hd (xs:=([a2]:List Int)) (inner:=[.int .i64 a2]) (ok:=fun _=>True) (bw:=fun _=>True) ?hr ?hp (fun _ hk=>hk) trivial (Below.refl _ _) (Nat.le_refl _) (by simp) ?_;(case hd=>rfl);(case hg=>rfl);(case hr=>first|(go_simp;done)|(go_simp;rfl));(case hp=>exact (aH.one (show Kd.M (Kd.int .i64) _ _ _ a2 [.int .i64 a2] from rfl) (aH.none _ _)));intro ary tO rI hb bH bI;clear bH bI;(first|rw [← gv.z] at rI|(simp only [Int.reduceToNat] at rI;rw [← gv.z] at rI));have bU:=k0 (Kd.cA rI (aqG bl));replace aa:=kB aa hb;replace HB:=bW hb;clear hb rI;obtain ⟨C2,asG,rfl⟩:=Kd.cy bU.z)|(refine aqz (f:=55) rfl ?_;refine gC (some 17) Try.func55 #[.agg #[.int .i64 ag,.slice az af.length ay],.int .i64 a1,.slice C2 gq.length asG] ?_;(with_reducible refine (iO.calls k ag _ _ af a1 _ _ gq t105 _ ?aq ?au ?cr ?dw A4.z).mono ?_);(case aq=>exact aC (Kd.aqN aW.z HB.z));(case au=>exact bh.z);(case cr=>exact aC ((Kd.aqP bU.z).2.2));(case dw=>exact (Kd.aqP bU.z).2.1);rintro e vw ⟨rfl,hb⟩;refine ⟨_,rfl,?_⟩;replace bU:=eC bU hb;replace aa:=kB aa hb;replace HB:=bW hb;obtain ⟨_,_,_,_⟩:=aqA aa)|(refine aqz (f:=56) rfl ?_;refine gC (some 25) Try.func56 #[.agg #[.int .i64 ag,.slice az af.length ay],.int .i64 a1,.int .i64 a2] ?_;(with_reducible refine (aU.calls k ag _ _ af a1 a2 t106 t109 _ ?aq ?au A6.z).mono ?_);(case aq=>exact aC (Kd.aqN aW.z HB.z));(case au=>exact bh.z);rintro e asy ⟨vq,rfl,aD,hb⟩;refine ⟨_,rfl,?_⟩;have lX:=k0 (Kd.fT (Kd.oX aD (Kd.eZ (aR bU.z))) (aqG bl));replace bU:=eC bU hb;replace aa:=kB aa hb;replace HB:=bW hb))
  go_loopg [11,12] k (fun kq v11 asx w'=>∃ (lu:Int) (bN:Int),v11=.int .i64 lu∧asx=.int .i64 bN∧ai (m_.l0 kq a1 t106 lu bN=some (r1,r2))∧ai (kq≤k)∧ai (Kd.S (Kd.slice 2 (Kd.int .i64)) 29 w' w.heap.size (fun _=>True) vq t106)∧ai (w'.heap[aA]?=some (sO ag az af ay 26))∧ai (Below w.heap.size w w'))
  case atStart=>exact ⟨(0),(0),rs,rs,H',⟨Nat.le_refl _⟩,⟨aS (Kd.b6 lX.z (fun _ hk=>trivial))⟩,⟨bk⟩,⟨bl⟩⟩
  case round =>
   clear H'
   obtain ⟨lu,bN,rfl,rfl,HA,aI,Bu,aa,HB⟩:=hrel
   cases gk with
   | zero=>exact absurd HA.z (by simp [m_.l0])
   | succ k1 =>
    have H:=HA.z
    clear HA
    simp only [m_.l0] at H
    replace H:=iC H;obtain ⟨wM,H⟩|⟨wM,H⟩:=H
    case inl =>
     by_cases c28:a1=0
     case neg =>
      rw [if_neg c28] at H
      have G9:=beq_eq_false_iff_ne.mpr c28
      have acU:=bne_iff_ne.mpr c28
      simp only [Option.some.injEq,Prod.mk.injEq] at H
      obtain ⟨rfl,rfl⟩:=H
      obtain ⟨aku,anz,rfl⟩:=Kd.dL Bu.z
      go_wp2
      go_ret2
      exact ⟨eR,bl⟩
     rw [if_pos c28] at H
     exact absurd H (by simp)
    replace H:=iS H;obtain ⟨c25,H⟩:=H
    have asz:=decide_eq_true c25
    clear c25
    replace H:=iS H;obtain ⟨c26,H⟩:=H
    have as0:=decide_eq_true c26
    clear c26
    have H':=k0 H
    clear H
    obtain ⟨Yi,adH,rfl⟩:=Kd.dL Bu.z
    obtain ⟨yI,yR⟩:=iN bN (t106.length:Int)
    obtain ⟨Rw,aj6,amg,e110,Fw,U0,UB⟩:=cD (Kd.a_ Bu.z).2.2 bN yI yR
    cases e110
    obtain ⟨amP,afc,aeU,TL⟩:=Kd.aq9 Bu.z [] bN yI (by first|exact yR|exact oD|(have e_:=(Kd.a_ Bu.z).1;omega))
    obtain ⟨apF,rfl,L4⟩:=aeU
    have E_:=TL 0 _ rfl
    rw [Nat.add_zero,show ((Kd.slice 2 (Kd.int .i64))).sz=1 from rfl,Nat.mul_one] at E_
    replace E_:=Option.some.inj (E_.symm.trans Fw)
    rw [E_] at L4
    have alw:=k0 (show Kd.R (Kd.int .i64) 2 _ _ _ _ (ah t106 bN) from L4)
    clear E_ L4
    clear TL afc
    have Qn:=k0 UB
    have ala:=k0 U0
    clear UB U0
    replace yI:=eT yI
    replace yR:=eT yR
    obtain ⟨mS,kA⟩:=iN bN ((ah t106 bN).length:Int)
    obtain ⟨uq,e111,tu⟩:=Kd.bM (by repeat (first|(with_reducible exact Qn.z)|(with_reducible refine Kd.fP ?_ _)|(with_reducible refine Kd.fQ ?_ _)|(with_reducible refine Kd.fk ?_)|exact Qn.z)) bN mS kA
    cases e111
    replace mS:=eT mS
    replace kA:=eT kA
    go_wp2
    go_roundg k1
    case measure=>have:=aI.z;omega
    case rel=>exact ⟨(wrap64 (lu+(rd (ah t106 bN) bN))),(wrap64 (bN+1)),rs,rs,H',⟨by have:=aI.z;omega⟩,⟨aS (Bu.z)⟩,⟨bk⟩,⟨bl⟩⟩
 simp only [Option.some.injEq,Prod.mk.injEq] at H
 obtain ⟨rfl,rfl⟩:=H
 go_enter Try.func29,Try.ntmps29
 go_wp2_with (first|(refine aqI (N:=3) rfl ?_;refine cz 3 #[.int .i64 ag,.slice az af.length ay] 26 bl ?_;intro aA w8 aa aqF HB;have aqR:=aqF;obtain ⟨_,_,_,_⟩:=aqA aa)|(refine aqI (N:=16) rfl ?_;refine Kd.gw (Kd.int .i64) _ 2 ?hg (N:=16) ?hd (xs:=([a2]:List Int)) (inner:=[.int .i64 a2]) (ok:=fun _=>True) (bw:=fun _=>True) ?hr ?hp (fun _ hk=>hk) trivial (Below.refl _ _) (Nat.le_refl _) (by simp) ?_;(case hd=>rfl);(case hg=>rfl);(case hr=>first|(go_simp;done)|(go_simp;rfl));(case hp=>exact (aH.one (show Kd.M (Kd.int .i64) _ _ _ a2 [.int .i64 a2] from rfl) (aH.none _ _)));intro ary jh oh hb bH bI;clear bH bI;(first|rw [← gv.z] at oh|(simp only [Int.reduceToNat] at oh;rw [← gv.z] at oh));have bU:=k0 (Kd.cA oh (aqG bl));replace aa:=kB aa hb;replace HB:=bW hb;clear hb oh;obtain ⟨zk,asE,rfl⟩:=Kd.cy bU.z)|(refine aqz (f:=55) rfl ?_;refine gC (some 17) Try.func55 #[.agg #[.int .i64 ag,.slice az af.length ay],.int .i64 a1,.slice zk gq.length asE] ?_;(with_reducible refine (iO.calls k ag _ _ af a1 _ _ gq t105 _ ?aq ?au ?cr ?dw A4.z).mono ?_);(case aq=>exact aC (Kd.aqN aW.z HB.z));(case au=>exact bh.z);(case cr=>exact aC ((Kd.aqP bU.z).2.2));(case dw=>exact (Kd.aqP bU.z).2.1);rintro e oC ⟨rfl,hb⟩;refine ⟨_,rfl,?_⟩;replace bU:=eC bU hb;replace aa:=kB aa hb;replace HB:=bW hb;obtain ⟨_,_,_,_⟩:=aqA aa)|(refine aqz (f:=56) rfl ?_;refine gC (some 25) Try.func56 #[.agg #[.int .i64 ag,.slice az af.length ay],.int .i64 a1,.int .i64 a2] ?_;(with_reducible refine (aU.calls k ag _ _ af a1 a2 t106 t109 _ ?aq ?au A6.z).mono ?_);(case aq=>exact aC (Kd.aqN aW.z HB.z));(case au=>exact bh.z);rintro e pH ⟨vq,rfl,aD,hb⟩;refine ⟨_,rfl,?_⟩;have lX:=k0 (Kd.fT (Kd.oX aD (Kd.eZ (aR bU.z))) (aqG bl));replace bU:=eC bU hb;replace aa:=kB aa hb;replace HB:=bW hb))
 go_ret2
 exact ⟨eR,bl⟩
/-! ### F30: function 30 -/
def pV.f (k:Nat) (l0:List Int):Option (Int × (List (List Int)) × Int):=(aq5.f k l0).bind fun cN=>((ng.f k cN.1 cN.2.1 cN.2.2).bind fun dM=>((jF.f cN.1 dM.2.2.1 dM.2.2.2 (mx (wrap64 ((wrap64 (2 * (dM.2.1.length:Int))) - 1)) 0)).bind fun ari=>(some (dM.1,dM.2.1,ari.1))))
def pV.T3:Bool × List (List Nat × List Nat):=(true,[([],[]),([],[]),([],[]),([2],[2]),([3],[3]),([4],[4]),([5],[5]),([6],[6]),([1,7],[1,7]),([0,8,0],[0]),([8,9,0,1,2,3,4,5,6,7,8,9],[8])])
def pV.B3:List Nat:=[0,0,0,4,12,28,60,124,254,511,1023]
theorem pV.y6:eH .any (opsOf Try.f30 3)=pV.T3:=by kernel_rfl
theorem pV.xT:iL pV.T3.2 pV.B3=true:=by kernel_rfl
theorem pV.calls (k : Nat) (A0 : Option Addr) (c0 : Nat) (l0 : List Int) (r1 : Int) (r2 : List (List Int)) (r3 : Int) (w : World) (bZ : Kd.C (Kd.int .u8) w A0 l0.length l0) (hc0 : l0.length ≤ c0) (h : pV.f k l0 = some (r1, r2, r3)) :
  Calls Try.prog 30 #[.slice A0 l0.length c0] w fun e w'=>∃ fK:Value,e=.returned (.tuple #[.agg #[.int .i64 r1,fK],.int .i64 r3])∧Kd.V (Kd.slice 2 (Kd.int .i64)) 29 w' w.heap.size (fun k_=>(w.heap.size≤k_)) fK r2∧Below w.heap.size w w':=by
 have eE:=Try.underlying26
 have cP:=k0 bZ
 have fq:=k0 hc0
 clear bZ hc0
 have HB:=k0 (Below.refl w.heap.size w)
 unfold pV.f at h
 have H:=h
 clear h
 replace H:=bS H;obtain ⟨⟨t102,t103,t104⟩,A2,H⟩:=H
 dsimp only at H
 replace H:=bS H;obtain ⟨⟨t106,t107,t110,t111⟩,A3,H⟩:=H
 dsimp only at H
 obtain ⟨Cy,yl⟩:∃ j_:Int,(mx (wrap64 ((wrap64 (2 * (t107.length:Int))) - 1)) 0)=j_:=⟨_,rfl⟩
 replace H:((jF.f t102 t110 t111 (Cy)).bind fun ari=>(some (t106,t107,ari.1)))=some (r1,r2,r3):=by first|(rw [yl] at H;exact H)|(simp only [yl] at H ⊢;exact H)
 (try rw [yl] at A2)
 (try rw [yl] at A3)
 (try (have aon:0≤Cy:=by (rw [← yl];unfold mx;(repeat' split)<;>omega)))
 (try (have aoo:0≤Cy:=by omega))
 have aom:(if (wrap64 ((wrap64 (2 * (t107.length:Int))) - 1)) < 0 then 0 else (wrap64 ((wrap64 (2 * (t107.length:Int))) - 1)))=Cy:=yl
 replace H:=bS H;obtain ⟨⟨t113,t114,t115⟩,A5,H⟩:=H
 dsimp only at H
 simp only [Option.some.injEq,Prod.mk.injEq] at H
 obtain ⟨rfl,rfl,rfl⟩:=H
 go_enter Try.func30,Try.ntmps30
 try go_wp2_with (first|(refine aqI (N:=2) rfl ?_;refine cz 2 #[.int .i64 0,.slice none 0 0] 26 bl ?_;intro aA w6 aa aqF HB;have aqR:=aqF)|(refine aqz (f:=47) rfl ?_;refine gC (some 7) Try.func47 #[.slice A0 l0.length c0] ?_;(with_reducible refine (aq5.calls k _ _ l0 t102 t103 t104 w _ ?aq ?au ?cr A2.z).mono ?_);(case aq=>exact aL HB.z);(case au=>exact cP.z);(case cr=>exact fq.z);rintro e w7 ⟨g105,rfl,hi,hb,eU⟩;refine ⟨_,rfl,?_⟩;replace HB:=k0 (hb);have aM:=k0 (hi);have oU:=k0 (aj.qo hi (cV (aB aa.z) eU) (by decide));have hU:=k0 (Ne.symm (aj.qo hi (cV (aB aa.z) eU) (by decide)));replace aa:=kB aa eU)|(refine aqz (f:=48) rfl ?_;refine gC (some 9) Try.func48 #[.pointer (some ⟨g105,0,none⟩)] ?_;(with_reducible refine (ng.calls k g105 t102 t103 t104 t106 t107 t110 t111 w _ ?aq ?au A3.z).mono ?_);(case aq=>exact aqy aM.z);(case au=>exact aG (aj.ge aM.z) HB.z);rintro e w8 ⟨q3,rfl,aD,hi,hb,hk⟩;refine ⟨_,rfl,?_⟩;have bD:=k0 (Kd.p_ (Kd.aZ (ok':=fun k_=>(w.heap.size≤k_)∧k_ ≠ aA∧k_ ≠ g105) aD (fun k_ aqJ=>⟨(Nat.le_trans (aqG (aG (aj.ge aM.z) HB.z)) aqJ),(Kd.ig (aB aa.z) k_ aqJ),(aj.fresh (aqy aM.z) k_ aqJ)⟩)) (aqG (aG (aj.ge aM.z) HB.z)));replace aa:=kK hk aa hU;replace HB:=k0 (hb);replace aM:=k0 (hi))|(refine aqI (N:=5) rfl ?_;refine fu 5 #[.int .i64 0,.slice none 0 0] 26 ?_;intro bV hg w9 bq hb;replace bD:=eL bD hg hb;have cj:=k0 (bq);have Db:=k0 ((by rw [hg];exact (aqG (aG (aj.ge aM.z) HB.z)):w.heap.size≤bV));have Da:=k0 ((by rw [hg];exact (aqG (aG (aj.ge aM.z) HB.z)):w.heap.size≤bV));replace HB:=k0 (dc (aG (aj.ge aM.z) HB.z) hb);have kO:=nL hg aa;have eB:=nG kO;replace aa:=kB aa hb;have Dw:=k0 ((by rw [hg];exact Nat.ne_of_lt (aj.lt (show aj w _ g105 t102 t110 t111 from aqy aM.z)):g105 ≠ bV));have kj:=k0 ((by rw [hg];exact Nat.ne_of_gt (aj.lt (show aj w _ g105 t102 t110 t111 from aqy aM.z)):bV ≠ g105));replace aM:=k0 (aj.below (aqy aM.z) hb);clear hb bq hg;obtain ⟨_,_⟩:=nE eB;obtain ⟨_,_⟩:=nE kj;obtain ⟨_,_,_,_⟩:=aqA cj;obtain ⟨rm,rF,rfl⟩:=Kd.arO bD.z))
 have fX:ai (Kd.V (Kd.slice 2 (Kd.int .i64)) 29 ((w9.setCell ⟨bV,0,none⟩ (.int .i64 t106)).setCell ⟨bV,1,none⟩ (.slice rm t107.length rF)) w.heap.size (fun k_=>(w.heap.size≤k_)∧k_ ≠ aA∧k_ ≠ g105∧k_ ≠ bV) (.slice rm t107.length rF) t107):=⟨aV (Kd.aZ (Kd.je (p:=⟨bV,1,none⟩) (Kd.je (p:=⟨bV,0,none⟩) (Kd.aZ bD.z (fun k_ hk=>(⟨hk,hk.2⟩:_∧k_ ≠ bV))) (fun _ hk=>hk.2) (.int .i64 t106)) (fun _ hk=>hk.2) (.slice rm t107.length rF)) (fun _ hk=>⟨hk.1.1.1,⟨hk.1.1.2.1,⟨hk.1.1.2.2,hk.1.2⟩⟩⟩))⟩
 have fY:ai (((w9.setCell ⟨bV,0,none⟩ (.int .i64 t106)).setCell ⟨bV,1,none⟩ (.slice rm t107.length rF)).heap[aA]?=some (.cells #[.int .i64 0,.slice none 0 0] 26 (0,0))):=⟨kZ⟩
 have iJ:ai (((w9.setCell ⟨bV,0,none⟩ (.int .i64 t106)).setCell ⟨bV,1,none⟩ (.slice rm t107.length rF)).heap[bV]?=some (sO t106 rm t107 rF 26)):=⟨kZ⟩
 have iK:ai (aj w ((w9.setCell ⟨bV,0,none⟩ (.int .i64 t106)).setCell ⟨bV,1,none⟩ (.slice rm t107.length rF)) g105 t102 t110 t111):=⟨aqy aM.z⟩
 have mR:ai (Below w.heap.size w ((w9.setCell ⟨bV,0,none⟩ (.int .i64 t106)).setCell ⟨bV,1,none⟩ (.slice rm t107.length rF))):=⟨aG (aj.ge aM.z) HB.z⟩
 generalize ((w9.setCell ⟨bV,0,none⟩ (.int .i64 t106)).setCell ⟨bV,1,none⟩ (.slice rm t107.length rF))=vv at fX fY iJ iK mR ⊢
 have bD:=fX
 have aa:=fY
 have cj:=iJ
 have aM:=iK
 have HB:=mR
 clear fX fY iJ iK mR
 replace bD:=k0 (Kd.lG bD.z);replace aa:=k0 (cJ aa.z);replace cj:=k0 (cJ cj.z);replace aM:=k0 (aj.drew aM.z);replace HB:=k0 (aqW HB.z)
 refine gz (n:=11) (S:=fun w'=>w'.cell? ⟨bV,0,none⟩=some (.int .i64 t106)∧w'.cell? ⟨bV,1,none⟩=some (.slice rm t107.length rF)) (ds:=[]) (ba 11 0) (by kernel_rfl) rfl rfl ⟨cH cj,cE cj⟩ (fun hHeld=>?_);refine hJ pV.y6 pV.xT (fun ak bE=>?_)
 generalize vv.drew=pH at bD aa cj aM HB hHeld ⊢
 refine pu 1 (some 11) (ba 11 2) ak (h:=?_)
 refine pu 2 (some 12) (ba 11 6) ak (h:=?_)
 refine ta 0 (some 10) (ba 11 7) ak bE hHeld (hy:=Or.inl ⟨by rfl,by rintro w' ⟨s0,s1⟩;go_simp;with_reducible rfl⟩) (h:=?_)
 refine ta 3 (some 13) (ba 11 15) ak bE hHeld (hy:=Or.inl ⟨by rfl,by rintro w' ⟨s0,s1⟩;go_simp;with_reducible rfl⟩) (h:=?_)
 refine pu 4 (some 14) (ba 11 31) ak (h:=?_)
 refine pu 5 (some 15) (ba 11 63) ak (h:=?_)
 refine pu 6 (some 16) (ba 11 127) ak (h:=?_)
 refine pu 7 (some 17) (ba 11 255) ak (h:=?_)
 refine eG (i:=8) (N:=some 18) (ba 11 511) rfl rfl (dU ak.out (by kernel_rfl)) (by decide) (fun K hK=>?_)
 refine iy Try.func59 (by kernel_rfl) rfl #[.pointer (some ⟨g105,0,none⟩),.int .i64 Cy] (by rfl) rfl rfl (by (try simp only [List.map_toArray,List.map_cons,List.map_nil]);first|done|(simp only [yl];rfl)|rfl|(simp only [List.length_drop,List.length_take];rfl)) ?_
 with_reducible refine (jF.calls g105 t102 t110 t111 Cy t113 t114 t115 w _ ?aq ?au A5.z).mono ?_
 (case aq=>exact aqy aM.z)
 (case au=>exact aG (aj.ge aM.z) HB.z)
 rintro e tN ⟨rfl,hi,hb,hk⟩
 refine ⟨_,rfl,?_⟩
 replace aa:=kK hk aa hU;replace bD:=k0 (Kd.aZ (Kd.lY (Kd.aZ (ok:=fun k_=>(((w.heap.size≤k_))∧(k_ ≠ aA∧(k_ ≠ g105∧k_ ≠ bV)))) (aV bD.z) (fun k_ aqJ=>(⟨aqJ,aqJ.2.2.1⟩:_∧k_ ≠ g105))) hk (fun _ h=>h.2)) (fun _ h=>h.1));replace cj:=kK hk cj kj;replace HB:=k0 (hb);replace aM:=k0 (hi)
 refine hK.out _ _ ⟨cH cj,cE cj⟩ (fun hHeld=>?_)
 clear hK K
 refine eV (a':=?_) ?_ ?_
 rotate_left;· show Act.put _ (some 18) _=_;simp only [Act.put,zI,zZ,zS,bJ,ck];rfl
 refine eG (i:=9) (N:=none) (ba 11 1023) rfl rfl (dU ak.out (by kernel_rfl)) (by decide) (fun K hK=>?_)
 obtain ⟨_,_⟩:=qg aa
 have aoE:=eB.z
 have aox:=kO.z
 have aoK:=cE aa
 have an8:=bF aa 1
 have MZ:=eB.z
 have MY:=kO.z
 refine oz (w1:=?_) (by rfl) rfl ?_ ?_
 rotate_left;· go_simp;rfl
 refine hK.out _ _ ⟨((cell_far (p:=⟨aA,_,none⟩) eB.z _).trans (((cell_far (p:=⟨aA,_,none⟩) eB.z _).trans (hHeld.1)))),((cell_far (p:=⟨aA,_,none⟩) eB.z _).trans (((cell_far (p:=⟨aA,_,none⟩) eB.z _).trans (hHeld.2))))⟩ (fun hHeld=>?_)
 clear hK K
 refine pu 10 (some 3) (ba 11 2047) ak (h:=?_)
 refine gx (gZ ak.out (by kernel_rfl)) ?_
 try go_wp2
 refine bodyPost_ret (y5 rfl _ _ aA 26 #[.int .i64 t106,.slice rm t107.length rF] (0,0) _ rfl kZ Try.underlying26 rfl (by kernel_rfl)) rfl ?_
 exact ⟨_,by first|rfl|(simp [ic,ie]<;>rfl)|(simp only [← yl];first|rfl|(simp [ic,ie]<;>rfl))|(simp [*,ic,ie]<;>rfl),aV (Kd.aZ (Kd.je (p:=⟨aA,1,none⟩) (Kd.je (p:=⟨aA,0,none⟩) (Kd.aZ bD.z (fun k_ hk=>(⟨hk,hk.2.1⟩:_∧k_ ≠ aA))) (fun _ hk=>hk.2) (.int .i64 t106)) (fun _ hk=>hk.2) (.slice rm t107.length rF)) (fun _ hk=>hk.1.1)),aG (aj.ge aM.z) HB.z⟩
end Go.Proofs.Ytapnggjaeehpdaa.A
/- Set with little white space, by a program. -/
