/- The functions that one law reaches, each as a Lean function, and that Go's call comes to what it says. Condition of each: that the Lean function answers (is not none). -/
import Derived.Test.YtapnggjaeehpdaaAx0
import Derived.Test.YtapnggjaeehpdaaAx1
import Derived.Test.YtapnggjaeehpdaaAx5
namespace Go.Proofs.Ytapnggjaeehpdaa.A
open Go.RowKit Go.Proofs.bB.dI Go.Proofs.bB.ark Go.Proofs.bB.jd
attribute [local go_sem] max2_int min2_int max_two min_two max_three min_three max_four min_four   -- for this text's walks alone
set_option linter.unusedVariables false
set_option linter.unusedSimpArgs false
set_option maxHeartbeats 8000000
set_option maxRecDepth 100000
/-! ### F6: function 6 -/
def F6.f (k:Nat) (l0:List Int):Option (Int × (List (List Int)) × Int):=(aq5.f k l0).bind fun cN=>((ng.f k cN.1 cN.2.1 cN.2.2).bind fun dM=>((dK.f cN.1 dM.2.2.1 dM.2.2.2 20).bind fun ari=>(if ari.1=0 then ((rU.f cN.1 ari.2.1 ari.2.2).bind fun arM=>(some (dM.1,dM.2.1,arM.1))) else ((jo.f cN.1 ari.2.1 ari.2.2 (([2,3,5,7,11,13]:List Int))).bind fun nC=>(some (dM.1,dM.2.1,nC.1))))))
theorem F6.calls (k : Nat) (A0 : Option Addr) (c0 : Nat) (l0 : List Int) (r1 : Int) (r2 : List (List Int)) (r3 : Int) (w : World) (bZ : Kd.C (Kd.int .u8) w A0 l0.length l0) (hc0 : l0.length ≤ c0) (h : F6.f k l0 = some (r1, r2, r3)) :
  Calls Try.prog 6 #[.slice A0 l0.length c0] w fun e w'=>∃ fK:Value,e=.returned (.tuple #[.agg #[.int .i64 r1,fK],.int .i64 r3])∧Kd.V (Kd.slice 2 (Kd.int .i64)) 29 w' w.heap.size (fun k_=>(w.heap.size≤k_)) fK r2∧Below w.heap.size w w':=by
 have eE:=Try.underlying26
 have cP:=k0 bZ
 have fq:=k0 hc0
 clear bZ hc0
 have HB:=k0 (Below.refl w.heap.size w)
 unfold F6.f at h
 have H:=h
 clear h
 replace H:=bS H;obtain ⟨⟨t102,t103,t104⟩,A2,H⟩:=H
 dsimp only at H
 replace H:=bS H;obtain ⟨⟨t106,t107,t110,t111⟩,A3,H⟩:=H
 dsimp only at H
 replace H:=bS H;obtain ⟨⟨t113,t114,t115⟩,A4,H⟩:=H
 dsimp only at H
 replace H:=iE H;obtain ⟨c5,gD,arP,H⟩|⟨gD,arP,H⟩:=H
 case inl =>
  obtain ⟨ash,wJ⟩:=nY (([2,3,5,7,11,13]:List Int):List Int)
  replace H:((jo.f t102 t114 t115 ash).bind fun nC=>(some (t106,t107,nC.1)))=some (r1,r2,r3):=rH wJ.z H
  replace H:=bS H;obtain ⟨⟨t122,t123,t124⟩,JI,H⟩:=H
  dsimp only at H
  simp only [Option.some.injEq,Prod.mk.injEq] at H
  obtain ⟨rfl,rfl,rfl⟩:=H
  go_enter Try.func6,Try.ntmps6
  try go_wp2_with (first|(refine aqI (N:=2) rfl ?_;refine cz 2 #[.int .i64 0,.slice none 0 0] 26 bl ?_;intro aA vw aa aqF HB;have aqR:=aqF)|(refine aqz (f:=47) rfl ?_;refine gC (some 7) Try.func47 #[.slice A0 l0.length c0] ?_;(with_reducible refine (aq5.calls k _ _ l0 t102 t103 t104 w _ ?aq ?au ?cr A2.z).mono ?_);(case aq=>exact aL HB.z);(case au=>exact cP.z);(case cr=>exact fq.z);rintro e nN ⟨g105,rfl,hi,hb,eU⟩;refine ⟨_,rfl,?_⟩;replace HB:=k0 (hb);have aM:=k0 (hi);have oU:=k0 (aj.qo hi (cV (aB aa.z) eU) (by decide));have hU:=k0 (Ne.symm (aj.qo hi (cV (aB aa.z) eU) (by decide)));replace aa:=kB aa eU)|(refine aqz (f:=48) rfl ?_;refine gC (some 9) Try.func48 #[.pointer (some ⟨g105,0,none⟩)] ?_;(with_reducible refine (ng.calls k g105 t102 t103 t104 t106 t107 t110 t111 w _ ?aq ?au A3.z).mono ?_);(case aq=>exact aqy aM.z);(case au=>exact aG (aj.ge aM.z) HB.z);rintro e asy ⟨q3,rfl,aD,hi,hb,hk⟩;refine ⟨_,rfl,?_⟩;have bD:=k0 (Kd.p_ (Kd.aZ (ok':=fun k_=>(w.heap.size≤k_)∧k_ ≠ aA∧k_ ≠ g105) aD (fun k_ aqJ=>⟨(Nat.le_trans (aqG (aG (aj.ge aM.z) HB.z)) aqJ),(Kd.ig (aB aa.z) k_ aqJ),(aj.fresh (aqy aM.z) k_ aqJ)⟩)) (aqG (aG (aj.ge aM.z) HB.z)));replace aa:=kK hk aa hU;replace HB:=k0 (hb);replace aM:=k0 (hi))|(refine aqI (N:=5) rfl ?_;refine fu 5 #[.int .i64 0,.slice none 0 0] 26 ?_;intro bV hg za bq hb;replace bD:=eL bD hg hb;have cj:=k0 (bq);have Db:=k0 ((by rw [hg];exact (aqG (aG (aj.ge aM.z) HB.z)):w.heap.size≤bV));have Da:=k0 ((by rw [hg];exact (aqG (aG (aj.ge aM.z) HB.z)):w.heap.size≤bV));replace HB:=k0 (dc (aG (aj.ge aM.z) HB.z) hb);have kO:=nL hg aa;have eB:=nG kO;replace aa:=kB aa hb;have Dw:=k0 ((by rw [hg];exact Nat.ne_of_lt (aj.lt (show aj w _ g105 t102 t110 t111 from aqy aM.z)):g105 ≠ bV));have kj:=k0 ((by rw [hg];exact Nat.ne_of_gt (aj.lt (show aj w _ g105 t102 t110 t111 from aqy aM.z)):bV ≠ g105));replace aM:=k0 (aj.below (aqy aM.z) hb);clear hb bq hg;obtain ⟨_,_⟩:=nE eB;obtain ⟨_,_⟩:=nE kj;obtain ⟨_,_,_,_⟩:=aqA cj;obtain ⟨xw,qd,rfl⟩:=Kd.arO bD.z)|(refine aqz (f:=49) rfl ?_;refine gC (some 11) Try.func49 #[.pointer (some ⟨g105,0,none⟩),.int .i64 20] ?_;(with_reducible refine (dK.calls g105 t102 t110 t111 20 t113 t114 t115 w _ ?aq ?au A4.z).mono ?_);(case aq=>exact aqy aM.z);(case au=>exact aG (aj.ge aM.z) HB.z);rintro e zb ⟨rfl,hi,hb,hk⟩;refine ⟨_,rfl,?_⟩;replace aa:=k0 (aqB.blk hk (g':=aA) (o:=.cells #[.int .i64 0,.slice none 0 0] 26 (0,0)) kZ hU.z (by simp));replace bD:=k0 (Kd.aZ (Kd.lY (Kd.aZ (ok:=fun k_=>((((w.heap.size≤k_))∧(k_ ≠ aA∧k_ ≠ g105))∧k_ ≠ bV)) (fV bD) (fun k_ aqJ=>(⟨aqJ,aqJ.1.2.2⟩:_∧k_ ≠ g105))) hk (fun _ h=>h.2)) (fun _ h=>h.1));replace cj:=k0 (aqB.blk hk (g':=bV) (o:=sO t106 xw t107 qd 26) kZ kj.z (by simp));replace HB:=k0 (hb);replace aM:=k0 (hi)))
  replace bD:=k0 (Kd.lG bD.z);replace aa:=k0 (cJ aa.z);replace cj:=k0 (cJ cj.z);replace aM:=k0 (aj.drew aM.z);replace HB:=k0 (aqW HB.z)
  refine gz (n:=6) (S:=fun w'=>w'.cell? ⟨bV,0,none⟩=some (.int .i64 t106)∧w'.cell? ⟨bV,1,none⟩=some (.slice xw t107.length qd)) (ds:=[]) (ba 6 0) (by kernel_rfl) rfl rfl ⟨cH cj,cE cj⟩ (fun hHeld=>?_)
  generalize zb.drew=CV at bD aa cj aM HB hHeld ⊢
  refine qV (i:=1) (N:=some 17) (v:=?_) (a':=?_) (ba 6 2) rfl rfl (by kernel_rfl) (fun _ _ _ h=>h) (Or.inl ⟨by rfl,?_⟩) ?_ ?_
  rotate_left;· intro w';go_simp;with_reducible rfl
  rotate_left;· simp only [Act.put,zI,zZ,zS,bJ,ck];rfl
  refine y7 (i:=0) (N:=some 16) (v:=?_) (a':=?_) (ba 6 3) rfl rfl (by kernel_rfl) (fun _ _ _ h=>h) (Or.inl ⟨by rfl,?_⟩) hHeld ?_ ?_
  rotate_left;· rintro w' ⟨s0,s1⟩;go_simp;with_reducible rfl
  rotate_left;· simp only [Act.put,zI,zZ,zS,bJ,ck];rfl
  refine eG (i:=2) (N:=some 18) (ba 6 7) rfl rfl (by kernel_rfl) (by decide) (fun K hK=>?_)
  refine Kd.GU (Kd.int .i64) _ 2 ?hg (N:=18) ?hd (xs:=([2,3,5,7,11,13]:List Int)) (inner:=[.int .i64 2,.int .i64 3,.int .i64 5,.int .i64 7,.int .i64 11,.int .i64 13]) (ok:=fun _=>True) (bw:=fun _=>True) ?hr ?hp (fun _ hk=>hk) trivial (Below.refl _ _) (Nat.le_refl _) (by simp) ?_;(case hd=>rfl);(case hg=>rfl);(case hr=>first|(go_simp;done)|(go_simp;rfl));(case hp=>exact (aH.one (show Kd.M (Kd.int .i64) _ _ _ 2 [.int .i64 2] from rfl) (aH.one (show Kd.M (Kd.int .i64) _ _ _ 3 [.int .i64 3] from rfl) (aH.one (show Kd.M (Kd.int .i64) _ _ _ 5 [.int .i64 5] from rfl) (aH.one (show Kd.M (Kd.int .i64) _ _ _ 7 [.int .i64 7] from rfl) (aH.one (show Kd.M (Kd.int .i64) _ _ _ 11 [.int .i64 11] from rfl) (aH.one (show Kd.M (Kd.int .i64) _ _ _ 13 [.int .i64 13] from rfl) (aH.none _ _))))))))
  intro OG Je jz hb bH bI
  clear bH bI
  (first|rw [← wJ.z] at jz|(simp only [Int.reduceToNat] at jz;rw [← wJ.z] at jz))
  replace bD:=aqX bD (Kd.cm jz) hb;have oR:=k0 (Kd.cA (Kd.BK (M:=fun k_=>(w.heap.size≤k_)) jz (aqG (aG (aj.ge aM.z) HB.z)) (fun k_ h_=>h_)) (aqG (aG (aj.ge aM.z) HB.z)));replace aa:=kB aa hb;replace cj:=kB cj hb;replace HB:=k0 (dc (aG (aj.ge aM.z) HB.z) hb);replace aM:=k0 (aj.below (aqy aM.z) hb)
  clear hb jz
  obtain ⟨C4,D4,SV⟩:=Kd.cy oR.z
  (first|subst SV|(injection SV with gh jY fU;have jZ:=gh.symm;have arq:=fU.symm;clear gh jY fU;subst jZ;subst arq))
  refine hK.out _ _ ⟨cH cj,cE cj⟩ (fun hHeld=>?_)
  clear hK K
  refine eV (a':=?_) ?_ ?_
  rotate_left;· show Act.put _ (some 18) _=_;simp only [Act.put,zI,zZ,zS,bJ,ck];rfl
  refine eG (i:=3) (N:=some 19) (ba 6 15) rfl rfl (by kernel_rfl) (by decide) (fun K hK=>?_)
  refine iy Try.func51 (by kernel_rfl) rfl #[.pointer (some ⟨g105,0,none⟩),.slice C4 ash.length D4] (by rfl) rfl rfl gm ?_
  with_reducible refine (jo.calls g105 t102 t114 t115 _ _ ash t122 t123 t124 w _ ?aq ?au ?cr ?dw ?pF JI.z).mono ?_
  (case aq=>exact aqy aM.z)
  (case au=>exact aG (aj.ge aM.z) HB.z)
  (case cr=>exact aC ((Kd.aqP oR.z).2.2))
  (case dw=>exact (Kd.aqP oR.z).2.1)
  (case pF=>exact z4 (aj.tE aM.z oR.z (by decide)))
  rintro e Jf ⟨rfl,hi,hb,hk⟩
  refine ⟨_,rfl,?_⟩
  replace aa:=kK hk aa hU;replace bD:=k0 (Kd.aZ (Kd.lY (Kd.aZ (ok:=fun k_=>(((((w.heap.size≤k_))∧(k_ ≠ aA∧k_ ≠ g105))∧k_ ≠ bV)∧some k_ ≠ (.slice C4 ash.length D4:Value).ownBlock)) (aV bD.z) (fun k_ aqJ=>(⟨aqJ,aqJ.1.1.2.2⟩:_∧k_ ≠ g105))) hk (fun _ h=>h.2)) (fun _ h=>h.1));replace cj:=kK hk cj kj;replace oR:=k0 (Kd.aqM (Kd.uo (aj.apart (show aj w _ g105 t102 t114 t115 from aqy aM.z) (aR oR.z) (by decide)) hk (fun _ h=>h.2)) (fun _ h=>h.1));replace HB:=k0 (hb);replace aM:=k0 (hi)
  refine hK.out _ _ ⟨cH cj,cE cj⟩ (fun hHeld=>?_)
  clear hK K
  refine eV (a':=?_) ?_ ?_
  rotate_left;· show Act.put _ (some 19) _=_;simp only [Act.put,zI,zZ,zS,bJ,ck];rfl
  refine eG (i:=4) (N:=none) (ba 6 31) rfl rfl (by kernel_rfl) (by decide) (fun K hK=>?_)
  obtain ⟨_,_⟩:=qg aa
  have aoH:=eB.z
  have aoA:=kO.z
  have aoN:=cE aa
  have an_:=bF aa 1
  have aoI:=eB.z
  have aoB:=kO.z
  refine oz (w1:=?_) (by rfl) rfl ?_ ?_
  rotate_left;· go_simp;rfl
  refine hK.out _ _ ⟨((cell_far (p:=⟨aA,_,none⟩) eB.z _).trans (((cell_far (p:=⟨aA,_,none⟩) eB.z _).trans (hHeld.1)))),((cell_far (p:=⟨aA,_,none⟩) eB.z _).trans (((cell_far (p:=⟨aA,_,none⟩) eB.z _).trans (hHeld.2))))⟩ (fun hHeld=>?_)
  clear hK K
  refine qV (i:=5) (N:=some 3) (v:=?_) (a':=?_) (ba 6 63) rfl rfl (by kernel_rfl) (fun _ _ _ h=>h) (Or.inl ⟨by rfl,?_⟩) ?_ ?_
  rotate_left;· intro w';go_simp;with_reducible rfl
  rotate_left;· simp only [Act.put,zI,zZ,zS,bJ,ck];rfl
  refine gx (by kernel_rfl) ?_
  try go_wp2
  refine bodyPost_ret (y5 rfl _ _ aA 26 #[.int .i64 t106,.slice xw t107.length qd] (0,0) _ rfl kZ Try.underlying26 rfl (by kernel_rfl)) rfl ?_
  exact ⟨_,eR,aV (Kd.aZ (Kd.je (p:=⟨aA,1,none⟩) (Kd.je (p:=⟨aA,0,none⟩) (Kd.aZ bD.z (fun k_ hk=>(⟨hk,hk.1.1.2.1⟩:_∧k_ ≠ aA))) (fun _ hk=>hk.2) (.int .i64 t106)) (fun _ hk=>hk.2) (.slice xw t107.length qd)) (fun _ hk=>hk.1.1.1.1)),aG (aj.ge aM.z) HB.z⟩
 replace H:=bS H;obtain ⟨⟨t116,t117,t118⟩,A6,H⟩:=H
 dsimp only at H
 simp only [Option.some.injEq,Prod.mk.injEq] at H
 obtain ⟨rfl,rfl,rfl⟩:=H
 go_enter Try.func6,Try.ntmps6
 try go_wp2_with (first|(refine aqI (N:=2) rfl ?_;refine cz 2 #[.int .i64 0,.slice none 0 0] 26 bl ?_;intro aA w7 aa aqF HB;have aqR:=aqF)|(refine aqz (f:=47) rfl ?_;refine gC (some 7) Try.func47 #[.slice A0 l0.length c0] ?_;(with_reducible refine (aq5.calls k _ _ l0 t102 t103 t104 w _ ?aq ?au ?cr A2.z).mono ?_);(case aq=>exact aL HB.z);(case au=>exact cP.z);(case cr=>exact fq.z);rintro e w8 ⟨g105,rfl,hi,hb,eU⟩;refine ⟨_,rfl,?_⟩;replace HB:=k0 (hb);have aM:=k0 (hi);have oU:=k0 (aj.qo hi (cV (aB aa.z) eU) (by decide));have hU:=k0 (Ne.symm (aj.qo hi (cV (aB aa.z) eU) (by decide)));replace aa:=kB aa eU)|(refine aqz (f:=48) rfl ?_;refine gC (some 9) Try.func48 #[.pointer (some ⟨g105,0,none⟩)] ?_;(with_reducible refine (ng.calls k g105 t102 t103 t104 t106 t107 t110 t111 w _ ?aq ?au A3.z).mono ?_);(case aq=>exact aqy aM.z);(case au=>exact aG (aj.ge aM.z) HB.z);rintro e w9 ⟨q3,rfl,aD,hi,hb,hk⟩;refine ⟨_,rfl,?_⟩;have bD:=k0 (Kd.p_ (Kd.aZ (ok':=fun k_=>(w.heap.size≤k_)∧k_ ≠ aA∧k_ ≠ g105) aD (fun k_ aqJ=>⟨(Nat.le_trans (aqG (aG (aj.ge aM.z) HB.z)) aqJ),(Kd.ig (aB aa.z) k_ aqJ),(aj.fresh (aqy aM.z) k_ aqJ)⟩)) (aqG (aG (aj.ge aM.z) HB.z)));replace aa:=kK hk aa hU;replace HB:=k0 (hb);replace aM:=k0 (hi))|(refine aqI (N:=5) rfl ?_;refine fu 5 #[.int .i64 0,.slice none 0 0] 26 ?_;intro bV hg jh bq hb;replace bD:=eL bD hg hb;have cj:=k0 (bq);have Db:=k0 ((by rw [hg];exact (aqG (aG (aj.ge aM.z) HB.z)):w.heap.size≤bV));have Da:=k0 ((by rw [hg];exact (aqG (aG (aj.ge aM.z) HB.z)):w.heap.size≤bV));replace HB:=k0 (dc (aG (aj.ge aM.z) HB.z) hb);have kO:=nL hg aa;have eB:=nG kO;replace aa:=kB aa hb;have Dw:=k0 ((by rw [hg];exact Nat.ne_of_lt (aj.lt (show aj w _ g105 t102 t110 t111 from aqy aM.z)):g105 ≠ bV));have kj:=k0 ((by rw [hg];exact Nat.ne_of_gt (aj.lt (show aj w _ g105 t102 t110 t111 from aqy aM.z)):bV ≠ g105));replace aM:=k0 (aj.below (aqy aM.z) hb);clear hb bq hg;obtain ⟨_,_⟩:=nE eB;obtain ⟨_,_⟩:=nE kj;obtain ⟨_,_,_,_⟩:=aqA cj;obtain ⟨jD,jM,rfl⟩:=Kd.arO bD.z)|(refine aqz (f:=49) rfl ?_;refine gC (some 11) Try.func49 #[.pointer (some ⟨g105,0,none⟩),.int .i64 20] ?_;(with_reducible refine (dK.calls g105 t102 t110 t111 20 t113 t114 t115 w _ ?aq ?au A4.z).mono ?_);(case aq=>exact aqy aM.z);(case au=>exact aG (aj.ge aM.z) HB.z);rintro e pH ⟨rfl,hi,hb,hk⟩;refine ⟨_,rfl,?_⟩;replace aa:=k0 (aqB.blk hk (g':=aA) (o:=.cells #[.int .i64 0,.slice none 0 0] 26 (0,0)) kZ hU.z (by simp));replace bD:=k0 (Kd.aZ (Kd.lY (Kd.aZ (ok:=fun k_=>((((w.heap.size≤k_))∧(k_ ≠ aA∧k_ ≠ g105))∧k_ ≠ bV)) (fV bD) (fun k_ aqJ=>(⟨aqJ,aqJ.1.2.2⟩:_∧k_ ≠ g105))) hk (fun _ h=>h.2)) (fun _ h=>h.1));replace cj:=k0 (aqB.blk hk (g':=bV) (o:=sO t106 jD t107 jM 26) kZ kj.z (by simp));replace HB:=k0 (hb);replace aM:=k0 (hi)))
 replace bD:=k0 (Kd.lG bD.z);replace aa:=k0 (cJ aa.z);replace cj:=k0 (cJ cj.z);replace aM:=k0 (aj.drew aM.z);replace HB:=k0 (aqW HB.z)
 refine gz (n:=5) (S:=fun w'=>w'.cell? ⟨bV,0,none⟩=some (.int .i64 t106)∧w'.cell? ⟨bV,1,none⟩=some (.slice jD t107.length jM)) (ds:=[]) #[false,false,false,false,false] (by kernel_rfl) rfl rfl ⟨cH cj,cE cj⟩ (fun hHeld=>?_)
 generalize pH.drew=tN at bD aa cj aM HB hHeld ⊢
 refine qV (i:=1) (N:=some 14) (v:=?_) (a':=?_) #[false,true,false,false,false] rfl rfl (by kernel_rfl) (fun _ _ _ h=>h) (Or.inl ⟨by rfl,?_⟩) ?_ ?_
 rotate_left;· intro w';go_simp;with_reducible rfl
 rotate_left;· simp only [Act.put,zI,zZ,zS,bJ,ck];rfl
 refine y7 (i:=0) (N:=some 13) (v:=?_) (a':=?_) #[true,true,false,false,false] rfl rfl (by kernel_rfl) (fun _ _ _ h=>h) (Or.inl ⟨by rfl,?_⟩) hHeld ?_ ?_
 rotate_left;· rintro w' ⟨s0,s1⟩;go_simp;with_reducible rfl
 rotate_left;· simp only [Act.put,zI,zZ,zS,bJ,ck];rfl
 refine eG (i:=2) (N:=some 15) #[true,true,true,false,false] rfl rfl (by kernel_rfl) (by decide) (fun K hK=>?_)
 refine iy Try.func50 (by kernel_rfl) rfl #[.pointer (some ⟨g105,0,none⟩)] (by rfl) rfl rfl gm ?_
 with_reducible refine (rU.calls g105 t102 t114 t115 t116 t117 t118 w _ ?aq ?au A6.z).mono ?_
 (case aq=>exact aqy aM.z)
 (case au=>exact aG (aj.ge aM.z) HB.z)
 rintro e y_ ⟨rfl,hi,hb,hk⟩
 refine ⟨_,rfl,?_⟩
 replace aa:=kK hk aa hU;replace bD:=k0 (Kd.aZ (Kd.lY (Kd.aZ (ok:=fun k_=>((((w.heap.size≤k_))∧(k_ ≠ aA∧k_ ≠ g105))∧k_ ≠ bV)) (aV bD.z) (fun k_ aqJ=>(⟨aqJ,aqJ.1.2.2⟩:_∧k_ ≠ g105))) hk (fun _ h=>h.2)) (fun _ h=>h.1));replace cj:=kK hk cj kj;replace HB:=k0 (hb);replace aM:=k0 (hi)
 refine hK.out _ _ ⟨cH cj,cE cj⟩ (fun hHeld=>?_)
 clear hK K
 refine eV (a':=?_) ?_ ?_
 rotate_left;· show Act.put _ (some 15) _=_;simp only [Act.put,zI,zZ,zS,bJ,ck];rfl
 refine eG (i:=3) (N:=none) #[true,true,true,true,false] rfl rfl (by kernel_rfl) (by decide) (fun K hK=>?_)
 obtain ⟨_,_⟩:=qg aa
 have MZ:=eB.z
 have MY:=kO.z
 have Vq:=cE aa
 have Uj:=bF aa 1
 have Vj:=eB.z
 have Vh:=kO.z
 refine oz (w1:=?_) (by rfl) rfl ?_ ?_
 rotate_left;· go_simp;rfl
 refine hK.out _ _ ⟨((cell_far (p:=⟨aA,_,none⟩) eB.z _).trans (((cell_far (p:=⟨aA,_,none⟩) eB.z _).trans (hHeld.1)))),((cell_far (p:=⟨aA,_,none⟩) eB.z _).trans (((cell_far (p:=⟨aA,_,none⟩) eB.z _).trans (hHeld.2))))⟩ (fun hHeld=>?_)
 clear hK K
 refine qV (i:=4) (N:=some 3) (v:=?_) (a':=?_) #[true,true,true,true,true] rfl rfl (by kernel_rfl) (fun _ _ _ h=>h) (Or.inl ⟨by rfl,?_⟩) ?_ ?_
 rotate_left;· intro w';go_simp;with_reducible rfl
 rotate_left;· simp only [Act.put,zI,zZ,zS,bJ,ck];rfl
 refine gx (by kernel_rfl) ?_
 try go_wp2
 refine bodyPost_ret (y5 rfl _ _ aA 26 #[.int .i64 t106,.slice jD t107.length jM] (0,0) _ rfl kZ Try.underlying26 rfl (by kernel_rfl)) rfl ?_
 exact ⟨_,eR,aV (Kd.aZ (Kd.je (p:=⟨aA,1,none⟩) (Kd.je (p:=⟨aA,0,none⟩) (Kd.aZ bD.z (fun k_ hk=>(⟨hk,hk.1.2.1⟩:_∧k_ ≠ aA))) (fun _ hk=>hk.2) (.int .i64 t106)) (fun _ hk=>hk.2) (.slice jD t107.length jM)) (fun _ hk=>hk.1.1.1)),aG (aj.ge aM.z) HB.z⟩
/-! ### F85: function 85 -/
def gX.f (a0:Int) (a1:Int) (a2:Int):Option (Bool):=if a0 ≥ a1 then (some (decide (a0≤a2))) else (some false)
theorem gX.calls (a0 : Int) (a1 : Int) (a2 : Int) (r : Bool) (w : World) (h : gX.f a0 a1 a2 = some r) :
  Calls Try.prog 85 #[.int .i64 a0,.int .i64 a1,.int .i64 a2] w fun e w'=>e=.returned (.bool r)∧eX w w':=by
 unfold gX.f at h
 have H:=h
 clear h
 replace H:=iC H;obtain ⟨ej,H⟩|⟨ej,H⟩:=H
 case inl =>
  obtain rfl:=Option.some.inj H
  go_enter Try.func85,Try.ntmps85
  go_wp2
  go_ret
  exact ⟨rs,dW⟩
 obtain rfl:=Option.some.inj H
 go_enter Try.func85,Try.ntmps85
 go_wp2
 go_ret
 exact ⟨rs,dW⟩
/-! ### F66: function 66 -/
def jq.l0 : Nat → List (List Int) → Int → Int → Int → List (List Int) → Option (Bool)
 | 0,_,_,_,_,_=>none
 | k+1,x6,x7,x8,dx,cF=>if x8 < x7 then (if 0≤x8 then (if x8 < (x6.length:Int) then (if ((ah x6 x8).length:Int)=2 then (if 0 < ((ah x6 x8).length:Int) then ((gX.f (rd (ah x6 x8) 0) 0 (wrap64 (dx - 1))).bind fun t105=>(if t105=true then (if 1 < ((ah x6 x8).length:Int) then ((gX.f (rd (ah x6 x8) 1) 0 (wrap64 (dx - 1))).bind fun t107=>(if t107=true then (jq.l0 k x6 x7 (wrap64 (x8+1)) dx cF) else (some false))) else (none)) else (some false))) else (none)) else (some false)) else (none)) else (none)) else ((gX.f dx 1 8).bind fun t102=>(if t102=true then (some (decide ((cF.length:Int)≤10))) else (some false)))
def jq.f (k:Nat) (ag:Int) (af:List (List Int)):Option (Bool):=jq.l0 k af (af.length:Int) 0 ag af
theorem jq.calls (k : Nat) (ag : Int) (az : Option Addr) (ay : Nat) (af : List (List Int)) (r : Bool) (w : World) (aqO : Kd.C (Kd.slice 2 (Kd.int .i64)) w az af.length af) (bG : af.length ≤ ay) (h : jq.f k ag af = some r) :
  Calls Try.prog 66 #[.agg #[.int .i64 ag,.slice az af.length ay]] w fun e w'=>e=.returned (.bool r)∧Below w.heap.size w w':=by
 have eE:=Try.underlying26
 have aW:=k0 aqO
 have bh:=k0 bG
 clear aqO bG
 have HB:=k0 (Below.refl w.heap.size w)
 unfold jq.f at h
 have H:=h
 clear h
 have H':=k0 H
 clear H
 go_enter Try.func66,Try.ntmps66
 go_wp2_with (first|(refine aqI (N:=1) rfl ?_;(try (refine lM (by rfl) ?_;dsimp only));refine cz 1 #[.int .i64 ag,.slice az af.length ay] 26 bl ?_;intro aA w2 aa aqF HB;have aqR:=aqF;obtain ⟨anS,anT,aoc,aod⟩:=aqA aa))
 go_loopg [8] k (fun kq v8 w'=>∃ (bu:Int),v8=.int .i64 bu∧ai (jq.l0 kq af (af.length:Int) bu ag af=some r)∧ai (kq≤k)∧ai (w'.heap[aA]?=some (sO ag az af ay 26))∧ai (Below w.heap.size w w'))
 case atStart=>exact ⟨(0),rs,H',⟨Nat.le_refl _⟩,⟨bk⟩,⟨bl⟩⟩
 case round =>
  clear H'
  obtain ⟨bu,rfl,HA,aI,aa,HB⟩:=hrel
  cases gk with
  | zero=>exact absurd HA.z (by simp [jq.l0])
  | succ k1 =>
   have H:=HA.z
   clear HA
   simp only [jq.l0] at H
   replace H:=iC H;obtain ⟨ej,H⟩|⟨ej,H⟩:=H
   case inl =>
    replace H:=bS H;obtain ⟨t102,Gm,H⟩:=H
    cases t102
    case false =>
     replace H:=iF H
     obtain rfl:=Option.some.inj H
     obtain ⟨_,_,_,_⟩:=aqA aa
     go_wp2_with (first|(go_at_call 85;(with_reducible refine (gX.calls ag 1 8 false _ Gm.z).mono ?_);rintro e w' ⟨rfl,⟨nd,rfl⟩⟩;(try exact dN)))
     go_ret
     exact ⟨eR,bl⟩
    replace H:=iT H
    obtain rfl:=Option.some.inj H
    obtain ⟨_,_,_,_⟩:=aqA aa
    go_wp2_with (first|(go_at_call 85;(with_reducible refine (gX.calls ag 1 8 true _ Gm.z).mono ?_);rintro e w' ⟨rfl,⟨nd,rfl⟩⟩;(try exact dN)))
    go_ret
    exact ⟨eR,bl⟩
   replace H:=iS H;obtain ⟨c5,H⟩:=H
   have gD:=decide_eq_true c5
   clear c5
   replace H:=iS H;obtain ⟨c6,H⟩:=H
   have fN:=decide_eq_true c6
   clear c6
   replace H:=iE H;obtain ⟨c7,l8,rD,H⟩|⟨l8,rD,H⟩:=H
   case inl =>
    obtain rfl:=Option.some.inj H
    obtain ⟨di,dn⟩:=iN bu (af.length:Int)
    obtain ⟨jK,zj,zV,e103,dH,kX,kW⟩:=cD aW.z bu di dn
    cases e103
    replace dH:=hbc HB dH
    have sV:=k0 kW
    have zB:=k0 kX
    clear kW kX
    replace di:=eT di
    replace dn:=eT dn
    go_wp2
    repeat (go_quiet (fail);try go_wp2)
    go_ret
    exact ⟨eR,bl⟩
   replace H:=iS H;obtain ⟨c8,H⟩:=H
   have r7:=decide_eq_true c8
   have wN:decide (0 < (ah af bu).length)=true:=decide_eq_true (by omega)
   clear c8
   replace H:=bS H;obtain ⟨t105,A9,H⟩:=H
   cases t105
   case false =>
    replace H:=iF H
    obtain rfl:=Option.some.inj H
    obtain ⟨di,dn⟩:=iN bu (af.length:Int)
    obtain ⟨jK,zj,zV,e103,dH,kX,kW⟩:=cD aW.z bu di dn
    cases e103
    replace dH:=hbc HB dH
    have sV:=k0 kW
    have zB:=k0 kX
    clear kW kX
    replace di:=eT di
    replace dn:=eT dn
    have dm:0≤(0:Int):=(by omega)
    have aqT:0 < ((ah af bu).length:Int):=oD
    obtain ⟨jw,e104,dz⟩:=Kd.bM sV.z 0 dm aqT
    cases e104
    have FT:(0 < (ah af bu).length)=True:=eq_true (by omega)
    (try rw [show ((0:Int)).toNat=0 from rfl] at dz)
    (try rw [Addr.add_zero'] at dz)
    replace dz:=hbc HB dz
    replace dm:=eT dm
    replace aqT:=eT aqT
    obtain ⟨_,_,_,_⟩:=aqA aa
    go_wp2_with (first|(go_at_call 85;(with_reducible refine (gX.calls (rd (ah af bu) 0) 0 (wrap64 (ag - 1)) false _ A9.z).mono ?_);rintro e w' ⟨rfl,⟨nd,rfl⟩⟩;(try exact dN)))
    repeat (go_quiet (first|(go_at_call 85;(with_reducible refine (gX.calls (rd (ah af bu) 0) 0 (wrap64 (ag - 1)) false _ A9.z).mono ?_);rintro e w' ⟨rfl,⟨nd,rfl⟩⟩;(try exact dN)));try go_wp2_with (first|(go_at_call 85;(with_reducible refine (gX.calls (rd (ah af bu) 0) 0 (wrap64 (ag - 1)) false _ A9.z).mono ?_);rintro e w' ⟨rfl,⟨nd,rfl⟩⟩;(try exact dN))))
    go_ret
    exact ⟨eR,bl⟩
   replace H:=iT H
   replace H:=iS H;obtain ⟨c11,H⟩:=H
   have jy:=decide_eq_true c11
   have vO:decide (1 < (ah af bu).length)=true:=decide_eq_true (by omega)
   clear c11
   replace H:=bS H;obtain ⟨t107,xq,H⟩:=H
   cases t107
   case false =>
    replace H:=iF H
    obtain rfl:=Option.some.inj H
    obtain ⟨di,dn⟩:=iN bu (af.length:Int)
    obtain ⟨jK,zj,zV,e103,dH,kX,kW⟩:=cD aW.z bu di dn
    cases e103
    replace dH:=hbc HB dH
    have sV:=k0 kW
    have zB:=k0 kX
    clear kW kX
    replace di:=eT di
    replace dn:=eT dn
    have dm:0≤(0:Int):=(by omega)
    have aqT:0 < ((ah af bu).length:Int):=oD
    obtain ⟨jw,e104,dz⟩:=Kd.bM sV.z 0 dm aqT
    cases e104
    have FT:(0 < (ah af bu).length)=True:=eq_true (by omega)
    (try rw [show ((0:Int)).toNat=0 from rfl] at dz)
    (try rw [Addr.add_zero'] at dz)
    replace dz:=hbc HB dz
    replace dm:=eT dm
    replace aqT:=eT aqT
    obtain ⟨_,_,_,_⟩:=aqA aa
    have gQ:0≤(1:Int):=(by omega)
    have aq_:1 < ((ah af bu).length:Int):=oD
    obtain ⟨ar8,e106,gV⟩:=Kd.bM sV.z 1 gQ aq_
    obtain rfl:jw=ar8:=(by injection e106)
    (try simp only [show (1:Int).toNat=1 from rfl,Nat.reduceMul,Nat.reduceEqDiff,Go.Addr.add,↓reduceIte] at gV)
    have FU:(1 < (ah af bu).length)=True:=eq_true (by omega)
    (try rw [show ((1:Int)).toNat=1 from rfl] at gV)
    replace gV:=hbc HB gV
    replace gQ:=eT gQ
    replace aq_:=eT aq_
    go_wp2_with (first|(go_at_call 85;(with_reducible refine (gX.calls (rd (ah af bu) 0) 0 (wrap64 (ag - 1)) true _ A9.z).mono ?_);rintro e w' ⟨rfl,⟨nd,rfl⟩⟩;(try exact dN))|(go_at_call 85;(with_reducible refine (gX.calls (rd (ah af bu) 1) 0 (wrap64 (ag - 1)) false _ xq.z).mono ?_);rintro e w' ⟨rfl,⟨nd,rfl⟩⟩;(try exact dN)))
    repeat (go_quiet (first|(go_at_call 85;(with_reducible refine (gX.calls (rd (ah af bu) 0) 0 (wrap64 (ag - 1)) true _ A9.z).mono ?_);rintro e w' ⟨rfl,⟨nd,rfl⟩⟩;(try exact dN))|(go_at_call 85;(with_reducible refine (gX.calls (rd (ah af bu) 1) 0 (wrap64 (ag - 1)) false _ xq.z).mono ?_);rintro e w' ⟨rfl,⟨nd,rfl⟩⟩;(try exact dN)));try go_wp2_with (first|(go_at_call 85;(with_reducible refine (gX.calls (rd (ah af bu) 0) 0 (wrap64 (ag - 1)) true _ A9.z).mono ?_);rintro e w' ⟨rfl,⟨nd,rfl⟩⟩;(try exact dN))|(go_at_call 85;(with_reducible refine (gX.calls (rd (ah af bu) 1) 0 (wrap64 (ag - 1)) false _ xq.z).mono ?_);rintro e w' ⟨rfl,⟨nd,rfl⟩⟩;(try exact dN))))
    go_ret
    exact ⟨eR,bl⟩
   replace H:=iT H
   have H':=k0 H
   clear H
   obtain ⟨di,dn⟩:=iN bu (af.length:Int)
   obtain ⟨jK,zj,zV,e103,dH,kX,kW⟩:=cD aW.z bu di dn
   cases e103
   replace dH:=hbc HB dH
   have sV:=k0 kW
   have zB:=k0 kX
   clear kW kX
   replace di:=eT di
   replace dn:=eT dn
   have dm:0≤(0:Int):=(by omega)
   have aqT:0 < ((ah af bu).length:Int):=oD
   obtain ⟨jw,e104,dz⟩:=Kd.bM sV.z 0 dm aqT
   cases e104
   have FT:(0 < (ah af bu).length)=True:=eq_true (by omega)
   (try rw [show ((0:Int)).toNat=0 from rfl] at dz)
   (try rw [Addr.add_zero'] at dz)
   replace dz:=hbc HB dz
   replace dm:=eT dm
   replace aqT:=eT aqT
   obtain ⟨_,_,_,_⟩:=aqA aa
   have gQ:0≤(1:Int):=(by omega)
   have aq_:1 < ((ah af bu).length:Int):=oD
   obtain ⟨ar8,e106,gV⟩:=Kd.bM sV.z 1 gQ aq_
   obtain rfl:jw=ar8:=(by injection e106)
   (try simp only [show (1:Int).toNat=1 from rfl,Nat.reduceMul,Nat.reduceEqDiff,Go.Addr.add,↓reduceIte] at gV)
   have FU:(1 < (ah af bu).length)=True:=eq_true (by omega)
   (try rw [show ((1:Int)).toNat=1 from rfl] at gV)
   replace gV:=hbc HB gV
   replace gQ:=eT gQ
   replace aq_:=eT aq_
   go_wp2_with (first|(go_at_call 85;(with_reducible refine (gX.calls (rd (ah af bu) 0) 0 (wrap64 (ag - 1)) true _ A9.z).mono ?_);rintro e w' ⟨rfl,⟨nd,rfl⟩⟩;(try exact dN))|(go_at_call 85;(with_reducible refine (gX.calls (rd (ah af bu) 1) 0 (wrap64 (ag - 1)) true _ xq.z).mono ?_);rintro e w' ⟨rfl,⟨nd,rfl⟩⟩;(try exact dN)))
   repeat (go_quiet (first|(go_at_call 85;(with_reducible refine (gX.calls (rd (ah af bu) 0) 0 (wrap64 (ag - 1)) true _ A9.z).mono ?_);rintro e w' ⟨rfl,⟨nd,rfl⟩⟩;(try exact dN))|(go_at_call 85;(with_reducible refine (gX.calls (rd (ah af bu) 1) 0 (wrap64 (ag - 1)) true _ xq.z).mono ?_);rintro e w' ⟨rfl,⟨nd,rfl⟩⟩;(try exact dN)));try go_wp2_with (first|(go_at_call 85;(with_reducible refine (gX.calls (rd (ah af bu) 0) 0 (wrap64 (ag - 1)) true _ A9.z).mono ?_);rintro e w' ⟨rfl,⟨nd,rfl⟩⟩;(try exact dN))|(go_at_call 85;(with_reducible refine (gX.calls (rd (ah af bu) 1) 0 (wrap64 (ag - 1)) true _ xq.z).mono ?_);rintro e w' ⟨rfl,⟨nd,rfl⟩⟩;(try exact dN))))
   go_roundg k1
   case measure=>have:=aI.z;omega
   case rel=>exact ⟨(wrap64 (bu+1)),rs,H',⟨by have:=aI.z;omega⟩,⟨bk⟩,⟨bl⟩⟩
-- NOT PRINTED: function 62 (impl_graphCode)
/-! ### F77: function 77 -/
def pX.l0 : Nat → Int → Int → Option (Bool)
 | 0,_,_=>none
 | k+1,x0,x3=>if (wrap64 (x3 * x3))≤x0 then (if x3=0 then (none) else (if (Int.tmod x0 x3)=0 then (some false) else (pX.l0 k x0 (wrap64 (x3+1))))) else (some true)
def pX.f (k:Nat) (a0:Int):Option (Bool):=(gX.f a0 2 10007).bind fun t101=>(if t101=true then (pX.l0 k a0 2) else (some false))
theorem pX.calls (k : Nat) (a0 : Int) (r : Bool) (w : World) (h : pX.f k a0 = some r) :
  Calls Try.prog 77 #[.int .i64 a0] w fun e w'=>e=.returned (.bool r)∧eX w w':=by
 unfold pX.f at h
 have H:=h
 clear h
 replace H:=bS H;obtain ⟨t101,A2,H⟩:=H
 cases t101
 case false =>
  replace H:=iF H
  obtain rfl:=Option.some.inj H
  go_enter Try.func77,Try.ntmps77
  go_wp2_with (first|(refine aqz (f:=85) rfl ?_;refine gC (some 5) Try.func85 #[.int .i64 a0,.int .i64 2,.int .i64 10007] ?_;(with_reducible refine (gX.calls a0 2 10007 false _ A2.z).mono ?_);rintro e w' ⟨rfl,⟨nd,rfl⟩⟩;refine ⟨_,rfl,?_⟩))
  go_ret
  exact ⟨rs,dW⟩
 replace H:=iT H
 have H':=k0 H
 clear H
 go_enter Try.func77,Try.ntmps77
 go_wp2_with (first|(refine aqz (f:=85) rfl ?_;refine gC (some 5) Try.func85 #[.int .i64 a0,.int .i64 2,.int .i64 10007] ?_;(with_reducible refine (gX.calls a0 2 10007 true _ A2.z).mono ?_);rintro e w' ⟨rfl,⟨nd,rfl⟩⟩;refine ⟨_,rfl,?_⟩))
 go_loopg [3] k (fun kq v3 w'=>∃ (bp:Int),v3=.int .i64 bp∧ai (pX.l0 kq a0 bp=some r)∧ai (kq≤k)∧eX w w')
 case atStart=>exact ⟨(2),rs,H',⟨Nat.le_refl _⟩,dW⟩
 case round =>
  clear H'
  obtain ⟨bp,rfl,HA,aI,⟨m1,rfl⟩⟩:=hrel
  cases gk with
  | zero=>exact absurd HA.z (by simp [pX.l0])
  | succ k1 =>
   have H:=HA.z
   clear HA
   simp only [pX.l0] at H
   replace H:=iC H;obtain ⟨ej,H⟩|⟨ej,H⟩:=H
   case inl =>
    obtain rfl:=Option.some.inj H
    go_wp2
    go_ret
    exact ⟨rs,dW⟩
   by_cases c5:bp=0
   case neg =>
    rw [if_neg c5] at H
    have gD:=beq_eq_false_iff_ne.mpr c5
    have arP:=bne_iff_ne.mpr c5
    replace H:=iE H;obtain ⟨c6,fN,lJ,H⟩|⟨fN,lJ,H⟩:=H
    case inl =>
     have H':=k0 H
     clear H
     go_wp2
     go_roundg k1
     case measure=>have:=aI.z;omega
     case rel=>exact ⟨(wrap64 (bp+1)),rs,H',⟨by have:=aI.z;omega⟩,dW⟩
    obtain rfl:=Option.some.inj H
    go_wp2
    go_ret
    exact ⟨rs,dW⟩
   rw [if_pos c5] at H
   exact absurd H (by simp)
/-! ### F99: function 99 -/
def zA.f (k:Nat) (a0:Int):Option (Bool):=if a0≤101 then ((pX.f k a0).bind fun t101=>(some t101)) else (some false)
theorem zA.calls (k : Nat) (a0 : Int) (r : Bool) (w : World) (h : zA.f k a0 = some r) :
  Calls Try.prog 99 #[.int .i64 a0] w fun e w'=>e=.returned (.bool r)∧eX w w':=by
 unfold zA.f at h
 have H:=h
 clear h
 replace H:=iC H;obtain ⟨s_,H⟩|⟨s_,H⟩:=H
 case inl =>
  obtain rfl:=Option.some.inj H
  go_enter Try.func99,Try.ntmps99
  go_wp2
  go_ret
  exact ⟨rs,dW⟩
 replace H:=bS H;obtain ⟨t101,A3,H⟩:=H
 obtain rfl:=Option.some.inj H
 go_enter Try.func99,Try.ntmps99
 go_wp2_with (first|(go_at_call 77;(with_reducible refine (pX.calls k a0 t101 _ A3.z).mono ?_);rintro e w' ⟨rfl,⟨nd,rfl⟩⟩))
 go_ret
 exact ⟨rs,dW⟩
/-! ### F98: function 98 -/
def zz.f (k:Nat) (ag:Int) (af:List (List Int)) (a1:Int) (a2:Int):Option Int :=
 (jq.f k ag af).bind fun b=>if b=true then ((zA.f k a1).bind fun q0=>if q0=true then ((gX.f a2 0 (wrap64 (a1 - 1))).bind fun q1=>if q1=true then some 0 else some 2) else some 2) else some 1
theorem zz.calls {b1 : Nat} {b2 : Nat} (k : Nat) (ag : Int) (az : Option Addr) (ay : Nat) (af : List (List Int)) (a1 : Int) (a2 : Int) (r : Int) (w : World) (aqO : Kd.C (Kd.slice 2 (Kd.int .i64)) w az af.length af) (bG : af.length ≤ ay) (fc : w.heap[b1]? = some (.cells #[.int .i64 a1] 2 (0, 0))) (eU : w.heap[b2]? = some (.cells #[.int .i64 a2] 2 (0, 0))) (h : zz.f k ag af a1 a2 = some r) :
  Calls Try.prog 62 #[.agg #[.int .i64 ag,.slice az af.length ay],.func (.func 98) #[] #[.pointer (some ⟨b1,0,none⟩),.pointer (some ⟨b2,0,none⟩)]] w fun e w'=>e=.returned (.int .i64 r)∧Below w.heap.size w w':=by
 have cP:=k0 aqO
 clear aqO
 have arn:=k0 fc
 have Yw:=ar' fc
 clear fc
 have mZ:=k0 eU
 have Yx:=ar' eU
 clear eU
 unfold zz.f at h
 obtain ⟨b,hb,h⟩:=Option.bind_eq_some_iff.mp h
 have HG:=fun W (hw:Below w.heap.size w W)=>jq.calls k ag az ay af b W (Kd.aqN cP.z hw) bG hb
 have xE:=k0 HG
 clear HG hb
 cases b with
 | false =>
  simp only [Bool.false_eq_true,if_false,Option.some.injEq] at h
  subst h
  go_enter Try.func62,Try.ntmps62
  go_wp2_with (first|(go_at_call 66;refine (xE.out _ (by repeat (first|exact Below.refl _ _|apply eu|apply fh))).mono ?_;rintro e w1 ⟨rfl,fc⟩;have dO:=k0 (dc (by repeat (first|exact Below.refl _ _|apply eu|apply fh)) fc:Below w.heap.size w w1);clear fc;have Ch:w1.cell? ⟨b1,0,none⟩=some (.int .i64 a1):=(fI (cV arn.z dO.z) 0).trans rfl;have Cj:=gY (cV arn.z dO.z) 0;have Ci:w1.cell? ⟨b2,0,none⟩=some (.int .i64 a2):=(fI (cV mZ.z dO.z) 0).trans rfl;have Ck:=gY (cV mZ.z dO.z) 0)|go_in)
  go_ret
  exact ⟨rs,by repeat (first|exact dO.z|apply eu|apply fh|apply aqW)⟩
 | true =>
  simp only [if_true] at h
  obtain ⟨q0,E2,h⟩:=Option.bind_eq_some_iff.mp h
  have Dj:=fun W (hw:Below w.heap.size w W)=>zA.calls k (a1) q0 W  E2
  have By:=k0 Dj
  clear Dj E2
  cases q0 with
  | false =>
   simp only [Bool.false_eq_true,if_false,Option.some.injEq] at h
   subst h
   go_enter Try.func62,Try.ntmps62
   go_wp2_with (first|(go_at_call 66;refine (xE.out _ (by repeat (first|exact Below.refl _ _|apply eu|apply fh))).mono ?_;rintro e w1 ⟨rfl,fc⟩;have dO:=k0 (dc (by repeat (first|exact Below.refl _ _|apply eu|apply fh)) fc:Below w.heap.size w w1);clear fc;have Ch:w1.cell? ⟨b1,0,none⟩=some (.int .i64 a1):=(fI (cV arn.z dO.z) 0).trans rfl;have Cj:=gY (cV arn.z dO.z) 0;have Ci:w1.cell? ⟨b2,0,none⟩=some (.int .i64 a2):=(fI (cV mZ.z dO.z) 0).trans rfl;have Ck:=gY (cV mZ.z dO.z) 0)|(go_at_call 99;refine (By.out _ (by repeat (first|exact dO.z|apply eu|apply fh))).mono ?_;rintro e w_ ⟨rfl,⟨FO,rfl⟩⟩)|go_in)
   go_ret
   exact ⟨rs,by repeat (first|exact dO.z|apply eu|apply fh|apply aqW)⟩
  | true =>
   simp only [if_true] at h
   obtain ⟨q1,E3,h⟩:=Option.bind_eq_some_iff.mp h
   have Qg:=fun W (hw:Below w.heap.size w W)=>gX.calls (a2) (0) ((wrap64 (a1 - 1))) q1 W  E3
   have Qh:=k0 Qg
   clear Qg E3
   cases q1 with
   | false =>
    simp only [Bool.false_eq_true,if_false,Option.some.injEq] at h
    subst h
    go_enter Try.func62,Try.ntmps62
    go_wp2_with (first|(go_at_call 66;refine (xE.out _ (by repeat (first|exact Below.refl _ _|apply eu|apply fh))).mono ?_;rintro e w1 ⟨rfl,fc⟩;have dO:=k0 (dc (by repeat (first|exact Below.refl _ _|apply eu|apply fh)) fc:Below w.heap.size w w1);clear fc;have Ch:w1.cell? ⟨b1,0,none⟩=some (.int .i64 a1):=(fI (cV arn.z dO.z) 0).trans rfl;have Cj:=gY (cV arn.z dO.z) 0;have Ci:w1.cell? ⟨b2,0,none⟩=some (.int .i64 a2):=(fI (cV mZ.z dO.z) 0).trans rfl;have Ck:=gY (cV mZ.z dO.z) 0)|(go_at_call 99;refine (By.out _ (by repeat (first|exact dO.z|apply eu|apply fh))).mono ?_;rintro e w_ ⟨rfl,⟨FO,rfl⟩⟩)|(go_at_call 85;refine (Qh.out _ (by repeat (first|exact dO.z|apply eu|apply fh))).mono ?_;rintro e w_ ⟨rfl,⟨FO,rfl⟩⟩)|go_in)
    go_ret
    exact ⟨rs,by repeat (first|exact dO.z|apply eu|apply fh|apply aqW)⟩
   | true =>
    simp only [if_true] at h
    simp only [Option.some.injEq] at h
    subst h
    go_enter Try.func62,Try.ntmps62
    go_wp2_with (first|(go_at_call 66;refine (xE.out _ (by repeat (first|exact Below.refl _ _|apply eu|apply fh))).mono ?_;rintro e w1 ⟨rfl,fc⟩;have dO:=k0 (dc (by repeat (first|exact Below.refl _ _|apply eu|apply fh)) fc:Below w.heap.size w w1);clear fc;have Ch:w1.cell? ⟨b1,0,none⟩=some (.int .i64 a1):=(fI (cV arn.z dO.z) 0).trans rfl;have Cj:=gY (cV arn.z dO.z) 0;have Ci:w1.cell? ⟨b2,0,none⟩=some (.int .i64 a2):=(fI (cV mZ.z dO.z) 0).trans rfl;have Ck:=gY (cV mZ.z dO.z) 0)|(go_at_call 99;refine (By.out _ (by repeat (first|exact dO.z|apply eu|apply fh))).mono ?_;rintro e w_ ⟨rfl,⟨FO,rfl⟩⟩)|(go_at_call 85;refine (Qh.out _ (by repeat (first|exact dO.z|apply eu|apply fh))).mono ?_;rintro e w_ ⟨rfl,⟨FO,rfl⟩⟩)|go_in)
    go_ret
    exact ⟨rs,by repeat (first|exact dO.z|apply eu|apply fh|apply aqW)⟩
/-! ### F52: function 52 -/
def mA.f (k:Nat) (ag:Int) (af:List (List Int)) (a1:Int) (a2:Int):Option (Int):=(zz.f k ag af a1 a2).bind fun t104=>(some t104)
theorem mA.calls (k : Nat) (ag : Int) (az : Option Addr) (ay : Nat) (af : List (List Int)) (a1 : Int) (a2 : Int) (r : Int) (w : World) (aqO : Kd.C (Kd.slice 2 (Kd.int .i64)) w az af.length af) (bG : af.length ≤ ay) (h : mA.f k ag af a1 a2 = some r) :
  Calls Try.prog 52 #[.agg #[.int .i64 ag,.slice az af.length ay],.int .i64 a1,.int .i64 a2] w fun e w'=>e=.returned (.int .i64 r)∧Below w.heap.size w w':=by
 have eE:=Try.underlying26
 have aW:=k0 aqO
 have bh:=k0 bG
 clear aqO bG
 have HB:=k0 (Below.refl w.heap.size w)
 unfold mA.f at h
 have H:=h
 clear h
 replace H:=bS H;obtain ⟨t104,A4,H⟩:=H
 obtain rfl:=Option.some.inj H
 go_enter Try.func52,Try.ntmps52
 go_wp2_with (first|(refine aqI (N:=3) rfl ?_;refine cz 3 #[.int .i64 ag,.slice az af.length ay] 26 bl ?_;intro aA w5 aa aqF HB;have aqR:=aqF)|(refine aqI (N:=4) rfl ?_;refine fu 4 #[.int .i64 a1] 2 ?_;intro dG hg w6 bq hb;have bL:=k0 (bq);have ni:=gW hg (aqG bl);have vI:=ni;replace HB:=bW hb;have gL:=nL hg aa;have wG:=nG gL;replace aa:=kB aa hb;clear hb bq hg)|(refine aqI (N:=5) rfl ?_;refine fu 5 #[.int .i64 a2] 2 ?_;intro aex hg w7 bq hb;have Pw:=k0 (bq);have Y2:=gW hg (aqG bl);have akN:=Y2;replace HB:=bW hb;have QB:=nL hg aa;replace aa:=kB aa hb;have al5:=nG QB;have aal:=nL hg bL;replace bL:=kB bL hb;have al6:=nG aal;clear hb bq hg;obtain ⟨_,_⟩:=nE gL;obtain ⟨_,_⟩:=nE QB;obtain ⟨_,_,_,_⟩:=aqA aa)|(refine aqz (f:=62) rfl ?_;refine gC (some 9) Try.func62 #[.agg #[.int .i64 ag,.slice az af.length ay],.func (.func 98) #[] #[.pointer (some ⟨dG,0,none⟩),.pointer (some ⟨aex,0,none⟩)]] ?_;(with_reducible refine (zz.calls k ag _ _ af a1 a2 t104 _ ?aq ?au ?cr ?dw A4.z).mono ?_);(case aq=>exact aC (Kd.aqN aW.z HB.z));(case au=>exact bh.z);(case cr=>exact by exact bk);(case dw=>exact by exact bk);rintro e y9 ⟨rfl,hb⟩;refine ⟨_,rfl,?_⟩;replace aa:=kB aa hb;replace bL:=kB bL hb;replace Pw:=kB Pw hb;replace HB:=bW hb))
 go_ret
 exact ⟨eR,bl⟩
end Go.Proofs.Ytapnggjaeehpdaa.A
/- Set with little white space, by a program. -/
