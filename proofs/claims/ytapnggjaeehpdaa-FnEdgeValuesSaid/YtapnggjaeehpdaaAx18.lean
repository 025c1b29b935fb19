/- The functions that one law reaches, each as a Lean function, and that Go's call comes to what it says. Condition of each: that the Lean function answers (is not none). -/
import Derived.Test.YtapnggjaeehpdaaAx0
import Derived.Test.YtapnggjaeehpdaaAx3
import Derived.Test.YtapnggjaeehpdaaAx6
import Derived.Test.YtapnggjaeehpdaaAx10
import Derived.Test.YtapnggjaeehpdaaAx17
namespace Go.Proofs.Ytapnggjaeehpdaa.A
open Go.RowKit Go.Proofs.bB.dI Go.Proofs.bB.ark Go.Proofs.bB.jd
attribute [local go_sem] max2_int min2_int max_two min_two max_three min_three max_four min_four   -- for this text's walks alone
set_option linter.unusedVariables false
set_option linter.unusedSimpArgs false
set_option maxHeartbeats 8000000
set_option maxRecDepth 100000
/-! ### F18: function 18 -/
def nT.f (k:Nat) (ag:Int) (af:List (List Int)):Option (Int × Int):=(dB.f k ag af).bind fun t102=>(if t102=true then ((gu.f k ag af).bind fun t103=>((bA.f k t103).bind fun t106=>(if (t106.length:Int)≤(wrap64 (2 * (af.length:Int))) then (some (0,0)) else (if 0≤(wrap64 (2 * (af.length:Int))) then (if (wrap64 (2 * (af.length:Int))) < (t106.length:Int) then (some (rd t106 (wrap64 (2 * (af.length:Int))),0)) else (none)) else (none))))) else (some (0,1)))
def nT.T3:Bool × List (List Nat × List Nat):=(true,[([],[]),([0],[0]),([1,1],[1]),([],[]),([3],[3]),([4],[4]),([5],[5]),([2,2,0,1,2],[2]),([6,7,0,1,2,3,4,5,6,7],[6])])
def nT.B3:List Nat:=[0,1,3,0,8,24,56,7,255]
theorem nT.y6:eH .any (opsOf Try.f18 3)=nT.T3:=by kernel_rfl
theorem nT.xT:iL nT.T3.2 nT.B3=true:=by kernel_rfl
theorem nT.calls (k : Nat) (ag : Int) (az : Option Addr) (ay : Nat) (af : List (List Int)) (r1 : Int) (r2 : Int) (w : World) (aqO : Kd.C (Kd.slice 2 (Kd.int .i64)) w az af.length af) (bG : af.length ≤ ay) (h : nT.f k ag af = some (r1, r2)) :
  Calls Try.prog 18 #[.agg #[.int .i64 ag,.slice az af.length ay]] w fun e w'=>e=.returned (.tuple #[.int .i64 r1,.int .i64 r2])∧Below w.heap.size w w':=by
 have eE:=Try.underlying26
 have aW:=k0 aqO
 have bh:=k0 bG
 clear aqO bG
 have HB:=k0 (Below.refl w.heap.size w)
 unfold nT.f at h
 have H:=h
 clear h
 replace H:=bS H;obtain ⟨t102,A2,H⟩:=H
 cases t102
 case false =>
  replace H:=iF H
  simp only [Option.some.injEq,Prod.mk.injEq] at H
  obtain ⟨rfl,rfl⟩:=H
  go_enter Try.func18,Try.ntmps18
  go_wp2_with (first|(refine aqI (N:=1) rfl ?_;refine cz 1 #[.int .i64 ag,.slice az af.length ay] 26 bl ?_;intro aA Xb aa aqF HB;have aqR:=aqF;obtain ⟨_,_,_,_⟩:=aqA aa)|(refine aqz (f:=68) rfl ?_;refine gC (some 7) Try.func68 #[.agg #[.int .i64 ag,.slice az af.length ay]] ?_;(with_reducible refine (dB.calls k ag _ _ af false _ ?aq ?au A2.z).mono ?_);(case aq=>exact aC (Kd.aqN aW.z HB.z));(case au=>exact bh.z);rintro e as9 ⟨rfl,hb⟩;refine ⟨_,rfl,?_⟩;replace aa:=kB aa hb;replace HB:=bW hb))
  go_ret2
  exact ⟨eR,bl⟩
 replace H:=iT H
 replace H:=bS H;obtain ⟨t103,A4,H⟩:=H
 replace H:=bS H;obtain ⟨t106,A5,H⟩:=H
 replace H:=iC H;obtain ⟨fN,H⟩|⟨fN,H⟩:=H
 case inl =>
  obtain ⟨jg,gl⟩:∃ j_:Int,(wrap64 (2 * (af.length:Int)))=j_:=⟨_,rfl⟩
  replace H:(if 0≤(jg) then (if (jg) < (t106.length:Int) then (some (rd t106 (jg),0)) else (none)) else (none))=some (r1,r2):=by first|(rw [gl] at H;exact H)|(simp only [gl] at H ⊢;exact H)
  (try rw [gl] at fN)
  (try rw [gl] at A2)
  (try rw [gl] at A4)
  (try rw [gl] at A5)
  have UT:(IntKind.i64.wrap (2 * (af.length:Int)))=jg:=(bJ _).trans gl
  replace H:=iS H;obtain ⟨c16,H⟩:=H
  have asK:=decide_eq_true c16
  clear c16
  replace H:=iS H;obtain ⟨c17,H⟩:=H
  have asL:=decide_eq_true c17
  clear c17
  simp only [Option.some.injEq,Prod.mk.injEq] at H
  obtain ⟨rfl,rfl⟩:=H
  go_enter Try.func18,Try.ntmps18
  try go_wp2_with (first|(refine aqI (N:=1) rfl ?_;refine cz 1 #[.int .i64 ag,.slice az af.length ay] 26 bl ?_;intro aA tO aa aqF HB;have aqR:=aqF;obtain ⟨_,_,_,_⟩:=aqA aa)|(refine aqz (f:=68) rfl ?_;refine gC (some 7) Try.func68 #[.agg #[.int .i64 ag,.slice az af.length ay]] ?_;(with_reducible refine (dB.calls k ag _ _ af true _ ?aq ?au A2.z).mono ?_);(case aq=>exact aC (Kd.aqN aW.z HB.z));(case au=>exact bh.z);rintro e wm ⟨rfl,hb⟩;refine ⟨_,rfl,?_⟩;replace aa:=kB aa hb;replace HB:=bW hb))
  replace aa:=k0 (cJ aa.z);replace HB:=k0 (aqW HB.z)
  refine gz (n:=9) (S:=fun w'=>w'.cell? ⟨aA,0,none⟩=some (.int .i64 ag)∧w'.cell? ⟨aA,1,none⟩=some (.slice az af.length ay)) (ds:=[]) (ba 9 0) (by kernel_rfl) rfl rfl ⟨cH aa,cE aa⟩ (fun hHeld=>?_);refine hJ nT.y6 nT.xT (fun ak bE=>?_)
  generalize wm.drew=vw at aa HB hHeld ⊢
  refine pu 3 (some 12) (ba 9 8) ak (h:=?_)
  refine ta 0 (some 9) (ba 9 9) ak bE hHeld (hy:=Or.inl ⟨by rfl,by rintro w' ⟨s0,s1⟩;go_simp;with_reducible rfl⟩) (h:=?_)
  refine ta 4 (some 13) (ba 9 25) ak bE hHeld (hy:=Or.inl ⟨by rfl,by rintro w' ⟨s0,s1⟩;go_simp;with_reducible rfl⟩) (h:=?_)
  refine pu 5 (some 14) (ba 9 57) ak (h:=?_)
  refine pu 6 (some 15) (ba 9 121) ak (h:=?_)
  refine eG (i:=1) (N:=some 10) (ba 9 123) rfl rfl (dU ak.out (by kernel_rfl)) (by decide) (fun K hK=>?_)
  refine iy Try.func70 (by kernel_rfl) rfl #[.agg #[.int .i64 ag,.slice az af.length ay]] (by rfl) rfl rfl gm ?_
  with_reducible refine (gu.calls k ag _ _ af t103 _ ?aq ?au A4.z).mono ?_
  (case aq=>exact aC (Kd.aqN aW.z HB.z))
  (case au=>exact bh.z)
  rintro e nN ⟨mT,rfl,aD,hb⟩
  refine ⟨_,rfl,?_⟩
  have b8:=k0 (Kd.fT aD (aqG bl));replace aa:=kB aa hb;replace HB:=bW hb
  obtain ⟨Gq,Hr,Ee⟩:=Kd.dL b8.z
  (first|subst Ee|(injection Ee with gh jY fU;have jZ:=gh.symm;have arq:=fU.symm;clear gh jY fU;subst jZ;subst arq))
  refine hK.out _ _ ⟨cH aa,cE aa⟩ (fun hHeld=>?_)
  clear hK K
  refine eV (a':=?_) ?_ ?_
  rotate_left;· show Act.put _ (some 10) _=_;simp only [Act.put,zI,zZ,zS,bJ,ck];rfl
  refine eG (i:=2) (N:=some 11) (ba 9 127) rfl rfl (dU ak.out (by kernel_rfl)) (by decide) (fun K hK=>?_)
  refine iy Try.func69 (by kernel_rfl) rfl #[.slice Gq t103.length Hr] (by rfl) rfl rfl gm ?_
  with_reducible refine (bA.calls k _ _ t103 t106 _ ?aq ?au A5.z).mono ?_
  (case aq=>exact aC ((Kd.a_ b8.z).2.2))
  (case au=>exact (Kd.a_ b8.z).2.1)
  rintro e za ⟨vq,rfl,aD,hb⟩
  refine ⟨_,rfl,?_⟩
  replace b8:=iw b8 (Kd.cm aD) hb;have lX:=k0 (Kd.cA aD (aqG bl));replace aa:=kB aa hb;replace HB:=bW hb
  refine hK.out _ _ ⟨cH aa,cE aa⟩ (fun hHeld=>?_)
  clear hK K
  refine eV (a':=?_) ?_ ?_
  rotate_left;· show Act.put _ (some 11) _=_;simp only [Act.put,zI,zZ,zS,bJ,ck];rfl
  refine pu 7 (some 4) (ba 9 255) ak (h:=?_)
  refine pu 8 (some 5) (ba 9 511) ak (h:=?_)
  refine gx (gZ ak.out (by kernel_rfl)) ?_
  obtain ⟨Yh,qK,rfl⟩:=Kd.cy lX.z
  have vn:0≤((jg):Int):=oD
  have vp:(jg) < (t106.length:Int):=oD
  obtain ⟨Lb,e109,yw⟩:=Kd.bM (Kd.aqP lX.z).2.2 (jg) vn vp
  cases e109
  replace vn:=eT vn
  replace vp:=eT vp
  try go_wp2
  go_ret2
  exact ⟨by first|rfl|(simp [ic,ie]<;>rfl)|(simp only [← gl];first|rfl|(simp [ic,ie]<;>rfl))|(simp [*,ic,ie]<;>rfl),bl⟩
 simp only [Option.some.injEq,Prod.mk.injEq] at H
 obtain ⟨rfl,rfl⟩:=H
 go_enter Try.func18,Try.ntmps18
 try go_wp2_with (first|(refine aqI (N:=1) rfl ?_;refine cz 1 #[.int .i64 ag,.slice az af.length ay] 26 bl ?_;intro aA w7 aa aqF HB;have aqR:=aqF;obtain ⟨_,_,_,_⟩:=aqA aa)|(refine aqz (f:=68) rfl ?_;refine gC (some 7) Try.func68 #[.agg #[.int .i64 ag,.slice az af.length ay]] ?_;(with_reducible refine (dB.calls k ag _ _ af true _ ?aq ?au A2.z).mono ?_);(case aq=>exact aC (Kd.aqN aW.z HB.z));(case au=>exact bh.z);rintro e w9 ⟨rfl,hb⟩;refine ⟨_,rfl,?_⟩;replace aa:=kB aa hb;replace HB:=bW hb))
 replace aa:=k0 (cJ aa.z);replace HB:=k0 (aqW HB.z)
 refine gz (n:=9) (S:=fun w'=>w'.cell? ⟨aA,0,none⟩=some (.int .i64 ag)∧w'.cell? ⟨aA,1,none⟩=some (.slice az af.length ay)) (ds:=[]) (ba 9 0) (by kernel_rfl) rfl rfl ⟨cH aa,cE aa⟩ (fun hHeld=>?_);refine hJ nT.y6 nT.xT (fun ak bE=>?_)
 generalize w9.drew=jh at aa HB hHeld ⊢
 refine pu 3 (some 12) (ba 9 8) ak (h:=?_)
 refine ta 0 (some 9) (ba 9 9) ak bE hHeld (hy:=Or.inl ⟨by rfl,by rintro w' ⟨s0,s1⟩;go_simp;with_reducible rfl⟩) (h:=?_)
 refine ta 4 (some 13) (ba 9 25) ak bE hHeld (hy:=Or.inl ⟨by rfl,by rintro w' ⟨s0,s1⟩;go_simp;with_reducible rfl⟩) (h:=?_)
 refine pu 5 (some 14) (ba 9 57) ak (h:=?_)
 refine pu 6 (some 15) (ba 9 121) ak (h:=?_)
 refine eG (i:=1) (N:=some 10) (ba 9 123) rfl rfl (dU ak.out (by kernel_rfl)) (by decide) (fun K hK=>?_)
 refine iy Try.func70 (by kernel_rfl) rfl #[.agg #[.int .i64 ag,.slice az af.length ay]] (by rfl) rfl rfl gm ?_
 with_reducible refine (gu.calls k ag _ _ af t103 _ ?aq ?au A4.z).mono ?_
 (case aq=>exact aC (Kd.aqN aW.z HB.z))
 (case au=>exact bh.z)
 rintro e y9 ⟨mT,rfl,aD,hb⟩
 refine ⟨_,rfl,?_⟩
 have b8:=k0 (Kd.fT aD (aqG bl));replace aa:=kB aa hb;replace HB:=bW hb
 obtain ⟨zk,asE,Ed⟩:=Kd.dL b8.z
 (first|subst Ed|(injection Ed with gh jY fU;have jZ:=gh.symm;have arq:=fU.symm;clear gh jY fU;subst jZ;subst arq))
 refine hK.out _ _ ⟨cH aa,cE aa⟩ (fun hHeld=>?_)
 clear hK K
 refine eV (a':=?_) ?_ ?_
 rotate_left;· show Act.put _ (some 10) _=_;simp only [Act.put,zI,zZ,zS,bJ,ck];rfl
 refine eG (i:=2) (N:=some 11) (ba 9 127) rfl rfl (dU ak.out (by kernel_rfl)) (by decide) (fun K hK=>?_)
 refine iy Try.func69 (by kernel_rfl) rfl #[.slice zk t103.length asE] (by rfl) rfl rfl gm ?_
 with_reducible refine (bA.calls k _ _ t103 t106 _ ?aq ?au A5.z).mono ?_
 (case aq=>exact aC ((Kd.a_ b8.z).2.2))
 (case au=>exact (Kd.a_ b8.z).2.1)
 rintro e oC ⟨vq,rfl,aD,hb⟩
 refine ⟨_,rfl,?_⟩
 replace b8:=iw b8 (Kd.cm aD) hb;have lX:=k0 (Kd.cA aD (aqG bl));replace aa:=kB aa hb;replace HB:=bW hb
 refine hK.out _ _ ⟨cH aa,cE aa⟩ (fun hHeld=>?_)
 clear hK K
 refine eV (a':=?_) ?_ ?_
 rotate_left;· show Act.put _ (some 11) _=_;simp only [Act.put,zI,zZ,zS,bJ,ck];rfl
 refine pu 7 (some 4) (ba 9 255) ak (h:=?_)
 refine pu 8 (some 5) (ba 9 511) ak (h:=?_)
 refine gx (gZ ak.out (by kernel_rfl)) ?_
 obtain ⟨jD,jM,rfl⟩:=Kd.cy lX.z
 try go_wp2
 go_ret2
 exact ⟨eR,bl⟩
/-! ### F71: function 71 -/
def nh.l0 : Nat → List Int → List (List Int) → Int → Int → Option (List Int)
 | 0,_,_,_,_=>none
 | k+1,x3,cY,aqS,dJ=>if dJ < aqS then (if 0≤dJ then (if dJ < (cY.length:Int) then (if 0 < ((ah cY dJ).length:Int) then (if 0≤(rd (ah cY dJ) 0) then (if (rd (ah cY dJ) 0) < (x3.length:Int) then ((some (x3.set ((rd (ah cY dJ) 0):Int).toNat (wrap64 ((rd x3 (rd (ah cY dJ) 0))+1)):List Int)).bind fun pL=>(if 1 < ((ah cY dJ).length:Int) then (if 0≤(rd (ah cY dJ) 1) then (if (rd (ah cY dJ) 1) < (x3.length:Int) then (nh.l0 k (pL.set ((rd (ah cY dJ) 1):Int).toNat (wrap64 ((rd pL (rd (ah cY dJ) 1))+1))) cY aqS (wrap64 (dJ+1))) else (none)) else (none)) else (none))) else (none)) else (none)) else (none)) else (none)) else (none)) else (some x3)
def nh.f (k:Nat) (ag:Int) (af:List (List Int)):Option (List Int):=if 0≤ag then (if (ag:Int).toNat≤35184372088832 then (nh.l0 k (List.replicate (ag:Int).toNat 0) af (af.length:Int) 0) else (none)) else (none)
theorem nh.calls (k : Nat) (ag : Int) (az : Option Addr) (ay : Nat) (af : List (List Int)) (r : List Int) (w : World) (aqO : Kd.C (Kd.slice 2 (Kd.int .i64)) w az af.length af) (bG : af.length ≤ ay) (h : nh.f k ag af = some r) :
  Calls Try.prog 71 #[.agg #[.int .i64 ag,.slice az af.length ay]] w fun e w'=>∃ cR:Value,e=.returned (cR)∧Kd.R (Kd.int .i64) 2 w' w.heap.size (fun _=>True) cR r∧Below w.heap.size w w':=by
 have eE:=Try.underlying26
 have aW:=k0 aqO
 have bh:=k0 bG
 clear aqO bG
 have HB:=k0 (Below.refl w.heap.size w)
 unfold nh.f at h
 have H:=h
 clear h
 replace H:=iS H;obtain ⟨c2,H⟩:=H
 have s_:=eq_true c2
 have He:=decide_eq_true c2
 clear c2
 replace H:=iS H;obtain ⟨c3,H⟩:=H
 have ia:=eq_true c3
 have qb:=decide_eq_true c3
 clear c3
 obtain ⟨gq,gv⟩:=nY (List.replicate (ag:Int).toNat 0:List Int)
 replace H:(nh.l0 k gq af (af.length:Int) 0)=some r:=rH gv.z H
 have H':=k0 H
 clear H
 go_enter Try.func71,Try.ntmps71
 go_wp2_with (first|(refine aqI (N:=1) rfl ?_;refine cz 1 #[.int .i64 ag,.slice az af.length ay] 26 bl ?_;intro aA w4 aa aqF HB;have aqR:=aqF;obtain ⟨_,_,_,_⟩:=aqA aa)|(refine aqI (N:=8) rfl ?_;refine Kd.BI (Kd.int .i64) _ 2 rfl (N:=8) rfl 29 _ _ rfl ag rfl rfl Try.underlying29 (.int .i64 0) 8 lS rfl (by decide) (by omega) 0 (ok:=fun _=>True) (bw:=fun _=>True) rfl (fun _ hk=>hk) trivial oD (Nat.le_trans (Nat.mul_le_mul_right _ (oD:ag.toNat≤35184372088832)) (by omega)) (Below.refl _ _) (Nat.le_refl _) ?_;intro ary w6 kY hb bH bI;clear bH bI;(first|rw [← gv.z] at kY|(simp only [Int.reduceToNat] at kY;rw [← gv.z] at kY));have bU:=k0 (Kd.cA kY (aqG bl));replace aa:=kB aa hb;replace HB:=bW hb;clear hb kY;obtain ⟨_,_,_,_⟩:=aqA aa))
 go_loopg [12] k (fun kq asx w'=>∃ (bp:List Int) (bN:Int),asx=.int .i64 bN∧ai (nh.l0 kq bp af (af.length:Int) bN=some r)∧ai (kq≤k)∧ai (Kd.R (Kd.int .i64) 2 w' w.heap.size (fun _=>True) ary bp)∧ai (w'.heap[aA]?=some (sO ag az af ay 26))∧ai (Below w.heap.size w w'))
 case atStart=>exact ⟨(gq),(0),rs,H',⟨Nat.le_refl _⟩,⟨aR (bU.z)⟩,⟨bk⟩,⟨bl⟩⟩
 case round =>
  clear H'
  obtain ⟨bp,bN,rfl,HA,aI,aqK,aa,HB⟩:=hrel
  cases gk with
  | zero=>exact absurd HA.z (by simp [nh.l0])
  | succ k1 =>
   have H:=HA.z
   clear HA
   simp only [nh.l0] at H
   replace H:=iC H;obtain ⟨td,H⟩|⟨td,H⟩:=H
   case inl =>
    obtain rfl:=Option.some.inj H
    go_wp2
    go_ret
    exact ⟨_,eR,aR aqK.z,bl⟩
   replace H:=iS H;obtain ⟨c10,H⟩:=H
   have vN:=decide_eq_true c10
   clear c10
   replace H:=iS H;obtain ⟨c11,H⟩:=H
   have jy:=decide_eq_true c11
   clear c11
   replace H:=iS H;obtain ⟨c12,H⟩:=H
   have arN:=decide_eq_true c12
   have zW:decide (0 < (ah af bN).length)=true:=decide_eq_true (by omega)
   clear c12
   replace H:=iS H;obtain ⟨c13,H⟩:=H
   have arT:=decide_eq_true c13
   clear c13
   replace H:=iS H;obtain ⟨c14,H⟩:=H
   have mH:=decide_eq_true c14
   clear c14
   obtain ⟨pL,vL⟩:=nY (bp.set ((rd (ah af bN) 0):Int).toNat (wrap64 ((rd bp (rd (ah af bN) 0))+1)):List Int)
   replace H:(if 1 < ((ah af bN).length:Int) then (if 0≤(rd (ah af bN) 1) then (if (rd (ah af bN) 1) < (bp.length:Int) then (nh.l0 k1 (pL.set ((rd (ah af bN) 1):Int).toNat (wrap64 ((rd pL (rd (ah af bN) 1))+1))) af (af.length:Int) (wrap64 (bN+1))) else (none)) else (none)) else (none))=some r:=rH vL.z H
   replace H:=iS H;obtain ⟨c16,H⟩:=H
   have asK:=decide_eq_true c16
   have acF:decide (1 < (ah af bN).length)=true:=decide_eq_true (by omega)
   clear c16
   replace H:=iS H;obtain ⟨c17,H⟩:=H
   have asL:=decide_eq_true c17
   clear c17
   replace H:=iS H;obtain ⟨c18,H⟩:=H
   have B0:=decide_eq_true c18
   clear c18
   obtain ⟨zh,Dx⟩:=nY (pL.set ((rd (ah af bN) 1):Int).toNat (wrap64 ((rd pL (rd (ah af bN) 1))+1)):List Int)
   replace H:(nh.l0 k1 zh af (af.length:Int) (wrap64 (bN+1)))=some r:=rH Dx.z H
   have H':=k0 H
   clear H
   obtain ⟨fZ,f_⟩:=iN bN (af.length:Int)
   obtain ⟨oY,aj4,ama,e105,fJ,UY,Uz⟩:=cD aW.z bN fZ f_
   cases e105
   replace fJ:=hbc HB fJ
   have Qm:=k0 Uz
   have ak':=k0 UY
   clear Uz UY
   replace fZ:=eT fZ
   replace f_:=eT f_
   have gQ:0≤(0:Int):=(by omega)
   have aq_:0 < ((ah af bN).length:Int):=oD
   obtain ⟨ar8,e106,gV⟩:=Kd.bM Qm.z 0 gQ aq_
   cases e106
   have FU:(0 < (ah af bN).length)=True:=eq_true (by omega)
   (try rw [show ((0:Int)).toNat=0 from rfl] at gV)
   (try rw [Addr.add_zero'] at gV)
   replace gV:=hbc HB gV
   replace gQ:=eT gQ
   replace aq_:=eT aq_
   obtain ⟨C2,asG,rfl⟩:=Kd.cy aqK.z
   have arI:0≤((rd (ah af bN) 0):Int):=oD
   have lg:(rd (ah af bN) 0) < (bp.length:Int):=oD
   obtain ⟨rB,e107,mP⟩:=Kd.bM (Kd.aqP aqK.z).2.2 (rd (ah af bN) 0) arI lg
   cases e107
   replace arI:=eT arI
   replace lg:=eT lg
   have CM:0≤((rd (ah af bN) 0):Int):=oD
   have CN:((rd (ah af bN) 0):Int) < ((bp.length:Int):Int):=oD
   obtain ⟨Aa,Hq,SN,Te,aeC,anb,PR⟩:=Kd.qG aqK.z (by omega)
   (first|cases SN|(injection SN with bC eo ek;(first|subst bC|(injection bC with bC;subst bC));subst ek;clear eo))
   have PF:=k0 Te
   have ak1:=k0 PR
   clear Te aeC PR
   (first|simp only [add_plain] at mP|skip)
   obtain ⟨aoR,an1⟩:=Kd.kR 0 aqK.z ((rd (ah af bN) 0):Int) CM CN
   replace CM:=eT CM
   replace CN:=eT CN
   have ry:=Kd.ar0 aqK.z ((rd (ah af bN) 0):Int) (wrap64 ((rd bp (rd (ah af bN) 0))+1))
   go_wp2_with (first|((with_reducible refine qi (t:=2) (p:=23) rfl ?_);refine qq (t:=2) (p:=23) (v:=?ajN) (w1:=(wr.setCell ⟨Aa,((rd (ah af bN) 0):Int).toNat,none⟩ (.int .i64 (wrap64 ((rd bp (rd (ah af bN) 0))+1))))) ?hg ?ho ?hn ?hr ?_;(case ho=>rfl);(case hg=>rfl);(case hn=>rfl);(case hr=>first|(go_simp;done)|(go_simp;rfl));intro nN hw;have hg:wr.grownBy nN (some Aa):=(by rw [hw];exact ry.2);have gp:Kd.R (Kd.int .i64) 2 nN w.heap.size (fun _=>True) (.slice (some ⟨Aa,0,none⟩) bp.length asG) pL:=(by rw [hw,vL.z];exact ry.1);clear ry;replace aa:=k0 (aq2 (aB aa.z) hg (Kd.aro aqK.z aa.z (by decide)));replace aqK:=k0 (gp);replace HB:=k0 ((by rw [hw];exact lZ (HB.z) PF.out:Below w.heap.size w nN));clear hg hw gp;have vn:0≤(1:Int):=(by omega);have vp:1 < ((ah af bN).length:Int):=oD;obtain ⟨Lb,e109,yw⟩:=Kd.bM Qm.z 1 vn vp;obtain rfl:ar8=Lb:=(by injection e109);(try simp only [show (1:Int).toNat=1 from rfl,Nat.reduceMul,Nat.reduceEqDiff,Go.Addr.add,↓reduceIte] at yw);have ao8:(1 < (ah af bN).length)=True:=eq_true (by omega);(try rw [show ((1:Int)).toNat=1 from rfl] at yw);replace yw:=hbc HB yw;replace vn:=eT vn;replace vp:=eT vp;have yI:0≤((rd (ah af bN) 1):Int):=oD;have yR:(rd (ah af bN) 1) < (pL.length:Int):=(by have h_:((rd (ah af bN) 1):Int) < ((bp.length:Int):Int):=oD;first|(have e_:=(Kd.aqP aqK.z).1;omega)|simpa only [vL.z,List.length_set] using h_);have apb:(((rd (ah af bN) 1):Int) < ((bp.length:Int):Int))=True:=eq_true oD;obtain ⟨Rw,e110,Fw⟩:=Kd.bM (Kd.aqP aqK.z).2.2 (rd (ah af bN) 1) yI yR;obtain rfl:(⟨Aa,0,none⟩:Addr)=Rw:=(by injection e110);(first|simp only [add_plain] at Fw|simp only [nA] at Fw|simp only [Addr.add,Nat.zero_add] at Fw|skip);replace yI:=eT yI;replace yR:=eT yR;have AH:0≤((rd (ah af bN) 1):Int):=oD;have AU:((rd (ah af bN) 1):Int) < ((bp.length:Int):Int):=oD;obtain ⟨agd,afK⟩:=Kd.kR 0 aqK.z ((rd (ah af bN) 1):Int) AH AU;replace AH:=eT AH;replace AU:=eT AU;obtain ⟨ao0,ao2⟩:=Kd.kR 0 aqK.z ((rd (ah af bN) 1):Int) oD oD;have Kp:=Kd.ar0 aqK.z ((rd (ah af bN) 1):Int) (wrap64 ((rd pL (rd (ah af bN) 1))+1)))|((with_reducible refine qi (t:=2) (p:=31) rfl ?_);refine qq (t:=2) (p:=31) (v:=?ap2) (w1:=(nN.setCell ⟨Aa,((rd (ah af bN) 1):Int).toNat,none⟩ (.int .i64 (wrap64 ((rd pL (rd (ah af bN) 1))+1))))) ?hg ?ho ?hn ?hr ?_;(case ho=>rfl);(case hg=>rfl);(case hn=>rfl);(case hr=>first|(go_simp;done)|(go_simp;rfl));intro za hw;have hg:nN.grownBy za (some Aa):=(by rw [hw];exact Kp.2);have gp:Kd.R (Kd.int .i64) 2 za w.heap.size (fun _=>True) (.slice (some ⟨Aa,0,none⟩) bp.length asG) zh:=(by rw [hw,Dx.z];exact Kp.1);clear Kp;replace aa:=k0 (aq2 (aB aa.z) hg (Kd.aro aqK.z aa.z (by decide)));replace aqK:=k0 (gp);replace HB:=k0 ((by rw [hw];exact lZ (HB.z) PF.out:Below w.heap.size w za));clear hg hw gp))
   go_roundg k1
   case measure=>have:=aI.z;omega
   case rel=>exact ⟨(zh),(wrap64 (bN+1)),rs,H',⟨by have:=aI.z;omega⟩,⟨aR (aqK.z)⟩,⟨bk⟩,⟨bl⟩⟩
/-! ### F19: function 19 -/
def pQ.l0 : Nat → Int → List Int → Int → Int → Option (Int × Int)
 | 0,_,_,_,_=>none
 | k+1,x4,aqS,dJ,lV=>if lV < dJ then (if 0≤lV then (if lV < (aqS.length:Int) then (pQ.l0 k (wrap64 (x4 * (wrap64 ((rd aqS lV) - 1)))) aqS dJ (wrap64 (lV+1))) else (none)) else (none)) else (some (x4,0))
def pQ.f (k:Nat) (ag:Int) (af:List (List Int)):Option (Int × Int):=(jq.f k ag af).bind fun t102=>(if t102=true then ((nh.f k ag af).bind fun t103=>(pQ.l0 k 1 t103 (t103.length:Int) 0)) else (some (0,1)))
theorem pQ.calls (k : Nat) (ag : Int) (az : Option Addr) (ay : Nat) (af : List (List Int)) (r1 : Int) (r2 : Int) (w : World) (aqO : Kd.C (Kd.slice 2 (Kd.int .i64)) w az af.length af) (bG : af.length ≤ ay) (h : pQ.f k ag af = some (r1, r2)) :
  Calls Try.prog 19 #[.agg #[.int .i64 ag,.slice az af.length ay]] w fun e w'=>e=.returned (.tuple #[.int .i64 r1,.int .i64 r2])∧Below w.heap.size w w':=by
 have eE:=Try.underlying26
 have aW:=k0 aqO
 have bh:=k0 bG
 clear aqO bG
 have HB:=k0 (Below.refl w.heap.size w)
 unfold pQ.f at h
 have H:=h
 clear h
 replace H:=bS H;obtain ⟨t102,A2,H⟩:=H
 cases t102
 case false =>
  replace H:=iF H
  simp only [Option.some.injEq,Prod.mk.injEq] at H
  obtain ⟨rfl,rfl⟩:=H
  go_enter Try.func19,Try.ntmps19
  go_wp2_with (first|(refine aqI (N:=1) rfl ?_;refine cz 1 #[.int .i64 ag,.slice az af.length ay] 26 bl ?_;intro aA vv aa aqF HB;have aqR:=aqF;obtain ⟨_,_,_,_⟩:=aqA aa)|(refine aqz (f:=66) rfl ?_;refine gC (some 8) Try.func66 #[.agg #[.int .i64 ag,.slice az af.length ay]] ?_;(with_reducible refine (jq.calls k ag _ _ af false _ ?aq ?au A2.z).mono ?_);(case aq=>exact aC (Kd.aqN aW.z HB.z));(case au=>exact bh.z);rintro e tN ⟨rfl,hb⟩;refine ⟨_,rfl,?_⟩;replace aa:=kB aa hb;replace HB:=bW hb))
  go_ret2
  exact ⟨eR,bl⟩
 replace H:=iT H
 replace H:=bS H;obtain ⟨t103,A4,H⟩:=H
 have H':=k0 H
 clear H
 go_enter Try.func19,Try.ntmps19
 go_wp2_with (first|(refine aqI (N:=1) rfl ?_;refine cz 1 #[.int .i64 ag,.slice az af.length ay] 26 bl ?_;intro aA w5 aa aqF HB;have aqR:=aqF;obtain ⟨_,_,_,_⟩:=aqA aa)|(refine aqz (f:=66) rfl ?_;refine gC (some 8) Try.func66 #[.agg #[.int .i64 ag,.slice az af.length ay]] ?_;(with_reducible refine (jq.calls k ag _ _ af true _ ?aq ?au A2.z).mono ?_);(case aq=>exact aC (Kd.aqN aW.z HB.z));(case au=>exact bh.z);rintro e w7 ⟨rfl,hb⟩;refine ⟨_,rfl,?_⟩;replace aa:=kB aa hb;replace HB:=bW hb;obtain ⟨_,_,_,_⟩:=aqA aa)|(refine aqz (f:=71) rfl ?_;refine gC (some 11) Try.func71 #[.agg #[.int .i64 ag,.slice az af.length ay]] ?_;(with_reducible refine (nh.calls k ag _ _ af t103 _ ?aq ?au A4.z).mono ?_);(case aq=>exact aC (Kd.aqN aW.z HB.z));(case au=>exact bh.z);rintro e w9 ⟨mT,rfl,aD,hb⟩;refine ⟨_,rfl,?_⟩;have b8:=k0 (Kd.cA aD (aqG bl));replace aa:=kB aa hb;replace HB:=bW hb;obtain ⟨xu,asD,rfl⟩:=Kd.cy b8.z))
 go_loopg [4,13] k (fun kq v4 F2 w'=>∃ (bR:Int) (tP:Int),v4=.int .i64 bR∧F2=.int .i64 tP∧ai (pQ.l0 kq bR t103 (t103.length:Int) tP=some (r1,r2))∧ai (kq≤k)∧ai (Kd.R (Kd.int .i64) 2 w' w.heap.size (fun _=>True) (.slice xu t103.length asD) t103)∧ai (w'.heap[aA]?=some (sO ag az af ay 26))∧ai (Below w.heap.size w w'))
 case atStart=>exact ⟨(1),(0),rs,rs,H',⟨Nat.le_refl _⟩,⟨aR (b8.z)⟩,⟨bk⟩,⟨bl⟩⟩
 case round =>
  clear H'
  obtain ⟨bR,tP,rfl,rfl,HA,aI,bx,aa,HB⟩:=hrel
  cases gk with
  | zero=>exact absurd HA.z (by simp [pQ.l0])
  | succ k1 =>
   have H:=HA.z
   clear HA
   simp only [pQ.l0] at H
   replace H:=iC H;obtain ⟨jy,H⟩|⟨jy,H⟩:=H
   case inl =>
    simp only [Option.some.injEq,Prod.mk.injEq] at H
    obtain ⟨rfl,rfl⟩:=H
    go_wp2
    go_ret2
    exact ⟨eR,bl⟩
   replace H:=iS H;obtain ⟨c12,H⟩:=H
   have arN:=decide_eq_true c12
   clear c12
   replace H:=iS H;obtain ⟨c13,H⟩:=H
   have arT:=decide_eq_true c13
   clear c13
   have H':=k0 H
   clear H
   obtain ⟨gQ,aq_⟩:=iN tP (t103.length:Int)
   obtain ⟨ar8,e106,gV⟩:=Kd.bM (Kd.aqP bx.z).2.2 tP gQ aq_
   cases e106
   replace gQ:=eT gQ
   replace aq_:=eT aq_
   go_wp2
   go_roundg k1
   case measure=>have:=aI.z;omega
   case rel=>exact ⟨(wrap64 (bR * (wrap64 ((rd t103 tP) - 1)))),(wrap64 (tP+1)),rs,rs,H',⟨by have:=aI.z;omega⟩,⟨aR (bx.z)⟩,⟨bk⟩,⟨bl⟩⟩
end Go.Proofs.Ytapnggjaeehpdaa.A
/- Set with little white space, by a program. -/
