/- The functions that one law reaches, each as a Lean function, and that Go's call comes to what it says. Condition of each: that the Lean function answers (is not none). -/
import Derived.Test.YtapnggjaeehpdaaAx0
import Derived.Test.YtapnggjaeehpdaaAx1
import Derived.Test.YtapnggjaeehpdaaAx6
import Derived.Test.YtapnggjaeehpdaaAx8
import Derived.Test.YtapnggjaeehpdaaAx15
namespace Go.Proofs.Ytapnggjaeehpdaa.A
open Go.RowKit Go.Proofs.bB.dI Go.Proofs.bB.ark Go.Proofs.bB.jd
attribute [local go_sem] max2_int min2_int max_two min_two max_three min_three max_four min_four   -- for this text's walks alone
set_option linter.unusedVariables false
set_option linter.unusedSimpArgs false
set_option maxHeartbeats 8000000
set_option maxRecDepth 100000
/-! ### F17: function 17 -/
def pP.f (k:Nat) (ag:Int) (af:List (List Int)):Option (Int × Int):=(jq.f k ag af).bind fun t102=>(if t102=true then ((sR.f k ag af).bind fun t103=>((zw.f t103 (wrap64 (2 * (af.length:Int)))).bind fun t106=>(some (t106,0)))) else (some (0,1)))
def pP.T3:Bool × List (List Nat × List Nat):=(true,[([],[]),([0],[0]),([],[]),([2],[2]),([3],[3]),([4],[4]),([1,5,1],[1,5]),([6,6,0,1,2,3,4,5,6],[6]),([7,0,1,2,3,4,5,6,7],[])])
def pP.B3:List Nat:=[0,1,0,4,12,28,63,127,255]
theorem pP.y6:eH .any (opsOf Try.f17 3)=pP.T3:=by kernel_rfl
theorem pP.xT:iL pP.T3.2 pP.B3=true:=by kernel_rfl
theorem pP.calls (k : Nat) (ag : Int) (az : Option Addr) (ay : Nat) (af : List (List Int)) (r1 : Int) (r2 : Int) (w : World) (aqO : Kd.C (Kd.slice 2 (Kd.int .i64)) w az af.length af) (bG : af.length ≤ ay) (h : pP.f k ag af = some (r1, r2)) :
  Calls Try.prog 17 #[.agg #[.int .i64 ag,.slice az af.length ay]] w fun e w'=>e=.returned (.tuple #[.int .i64 r1,.int .i64 r2])∧Below w.heap.size w w':=by
 have eE:=Try.underlying26
 have aW:=k0 aqO
 have bh:=k0 bG
 clear aqO bG
 have HB:=k0 (Below.refl w.heap.size w)
 unfold pP.f at h
 have H:=h
 clear h
 replace H:=bS H;obtain ⟨t102,A2,H⟩:=H
 cases t102
 case false =>
  replace H:=iF H
  simp only [Option.some.injEq,Prod.mk.injEq] at H
  obtain ⟨rfl,rfl⟩:=H
  go_enter Try.func17,Try.ntmps17
  go_wp2_with (first|(refine aqI (N:=1) rfl ?_;refine cz 1 #[.int .i64 ag,.slice az af.length ay] 26 bl ?_;intro aA oB aa aqF HB;have aqR:=aqF;obtain ⟨_,_,_,_⟩:=aqA aa)|(refine aqz (f:=66) rfl ?_;refine gC (some 5) Try.func66 #[.agg #[.int .i64 ag,.slice az af.length ay]] ?_;(with_reducible refine (jq.calls k ag _ _ af false _ ?aq ?au A2.z).mono ?_);(case aq=>exact aC (Kd.aqN aW.z HB.z));(case au=>exact bh.z);rintro e vv ⟨rfl,hb⟩;refine ⟨_,rfl,?_⟩;replace aa:=kB aa hb;replace HB:=bW hb))
  go_ret2
  exact ⟨eR,bl⟩
 replace H:=iT H
 replace H:=bS H;obtain ⟨t103,A4,H⟩:=H
 replace H:=bS H;obtain ⟨t106,A5,H⟩:=H
 simp only [Option.some.injEq,Prod.mk.injEq] at H
 obtain ⟨rfl,rfl⟩:=H
 go_enter Try.func17,Try.ntmps17
 try go_wp2_with (first|(refine aqI (N:=1) rfl ?_;refine cz 1 #[.int .i64 ag,.slice az af.length ay] 26 bl ?_;intro aA w6 aa aqF HB;have aqR:=aqF;obtain ⟨_,_,_,_⟩:=aqA aa)|(refine aqz (f:=66) rfl ?_;refine gC (some 5) Try.func66 #[.agg #[.int .i64 ag,.slice az af.length ay]] ?_;(with_reducible refine (jq.calls k ag _ _ af true _ ?aq ?au A2.z).mono ?_);(case aq=>exact aC (Kd.aqN aW.z HB.z));(case au=>exact bh.z);rintro e w8 ⟨rfl,hb⟩;refine ⟨_,rfl,?_⟩;replace aa:=kB aa hb;replace HB:=bW hb))
 replace aa:=k0 (cJ aa.z);replace HB:=k0 (aqW HB.z)
 refine gz (n:=9) (S:=fun w'=>w'.cell? ⟨aA,0,none⟩=some (.int .i64 ag)∧w'.cell? ⟨aA,1,none⟩=some (.slice az af.length ay)) (ds:=[]) (ba 9 0) (by kernel_rfl) rfl rfl ⟨cH aa,cE aa⟩ (fun hHeld=>?_);refine hJ pP.y6 pP.xT (fun ak bE=>?_)
 generalize w8.drew=w9 at aa HB hHeld ⊢
 refine pu 2 (some 9) (ba 9 4) ak (h:=?_)
 refine ta 0 (some 7) (ba 9 5) ak bE hHeld (hy:=Or.inl ⟨by rfl,by rintro w' ⟨s0,s1⟩;go_simp;with_reducible rfl⟩) (h:=?_)
 refine ta 3 (some 10) (ba 9 13) ak bE hHeld (hy:=Or.inl ⟨by rfl,by rintro w' ⟨s0,s1⟩;go_simp;with_reducible rfl⟩) (h:=?_)
 refine pu 4 (some 11) (ba 9 29) ak (h:=?_)
 refine pu 5 (some 12) (ba 9 61) ak (h:=?_)
 refine eG (i:=1) (N:=some 8) (ba 9 63) rfl rfl (dU ak.out (by kernel_rfl)) (by decide) (fun K hK=>?_)
 refine iy Try.func53 (by kernel_rfl) rfl #[.agg #[.int .i64 ag,.slice az af.length ay]] (by rfl) rfl rfl gm ?_
 with_reducible refine (sR.calls k ag _ _ af t103 _ ?aq ?au A4.z).mono ?_
 (case aq=>exact aC (Kd.aqN aW.z HB.z))
 (case au=>exact bh.z)
 rintro e jh ⟨mT,rfl,aD,hb⟩
 refine ⟨_,rfl,?_⟩
 have b8:=k0 (Kd.cA aD (aqG bl));replace aa:=kB aa hb;replace HB:=bW hb
 obtain ⟨eJ,dg,SM⟩:=Kd.cy b8.z
 (first|subst SM|(injection SM with gh jY fU;have jZ:=gh.symm;have arq:=fU.symm;clear gh jY fU;subst jZ;subst arq))
 refine hK.out _ _ ⟨cH aa,cE aa⟩ (fun hHeld=>?_)
 clear hK K
 refine eV (a':=?_) ?_ ?_
 rotate_left;· show Act.put _ (some 8) _=_;simp only [Act.put,zI,zZ,zS,bJ,ck];rfl
 refine eG (i:=6) (N:=some 13) (ba 9 127) rfl rfl (dU ak.out (by kernel_rfl)) (by decide) (fun K hK=>?_)
 refine iy Try.func67 (by kernel_rfl) rfl #[.slice eJ t103.length dg,.int .i64 (wrap64 (2 * (af.length:Int)))] (by rfl) rfl rfl gm ?_
 with_reducible refine (zw.calls _ _ t103 (wrap64 (2 * (af.length:Int))) t106 _ ?aq ?au A5.z).mono ?_
 (case aq=>exact aC ((Kd.aqP b8.z).2.2))
 (case au=>exact (Kd.aqP b8.z).2.1)
 rintro e w' ⟨rfl,⟨nd,rfl⟩⟩
 refine ⟨_,rfl,?_⟩
 refine hK.out _ _ ⟨cH aa,cE aa⟩ (fun hHeld=>?_)
 clear hK K
 refine eV (a':=?_) ?_ ?_
 rotate_left;· show Act.put _ (some 13) _=_;simp only [Act.put,zI,zZ,zS,bJ,ck];rfl
 refine pu 7 (some 2) (ba 9 255) ak (h:=?_)
 refine pu 8 (some 3) (ba 9 511) ak (h:=?_)
 refine gx (gZ ak.out (by kernel_rfl)) ?_
 try go_wp2
 go_ret2
 exact ⟨eR,bl⟩
/-! ### F112: function 112 -/
def pO.l0 : Nat → List Int → Int → Option (List Int)
 | 0,_,_=>none
 | k+1,x0,x3=>if x3 > 0 then (if 0≤(wrap64 (x3 - 1)) then (if (wrap64 (x3 - 1)) < (x0.length:Int) then (if (rd x0 (wrap64 (x3 - 1)))=0 then (pO.l0 k x0 (wrap64 (x3 - 1))) else (if 0≤x3 then (if x3≤(x0.length:Int) then ((nQ.f (x0.take (x3:Int).toNat)).bind fun t103=>(some t103)) else (none)) else (none))) else (none)) else (none)) else (if 0≤x3 then (if x3≤(x0.length:Int) then ((nQ.f (x0.take (x3:Int).toNat)).bind fun t107=>(some t107)) else (none)) else (none))
def pO.f (k:Nat) (l0:List Int):Option (List Int):=pO.l0 k l0 (l0.length:Int)
theorem pO.calls (k : Nat) (A0 : Option Addr) (c0 : Nat) (l0 : List Int) (r : List Int) (w : World) (bZ : Kd.C (Kd.int .i64) w A0 l0.length l0) (hc0 : l0.length ≤ c0) (h : pO.f k l0 = some r) :
  Calls Try.prog 112 #[.slice A0 l0.length c0] w fun e w'=>∃ cR:Value,e=.returned (cR)∧Kd.R (Kd.int .i64) 2 w' w.heap.size (fun _=>True) cR r∧Below w.heap.size w w':=by
 have cP:=k0 bZ
 have fq:=k0 hc0
 clear bZ hc0
 have HB:=k0 (Below.refl w.heap.size w)
 unfold pO.f at h
 have H:=h
 clear h
 have H':=k0 H
 clear H
 go_enter Try.func112,Try.ntmps112
 go_wp2
 go_loopg [3] k (fun kq v3 w'=>∃ (bp:Int),v3=.int .i64 bp∧ai (pO.l0 kq l0 bp=some r)∧ai (kq≤k)∧ai (Below w.heap.size w w'))
 case atStart=>exact ⟨((l0.length:Int)),rs,H',⟨Nat.le_refl _⟩,⟨bl⟩⟩
 case round =>
  clear H'
  obtain ⟨bp,rfl,HA,aI,HB⟩:=hrel
  cases gk with
  | zero=>exact absurd HA.z (by simp [pO.l0])
  | succ k1 =>
   have H:=HA.z
   clear HA
   simp only [pO.l0] at H
   replace H:=iC H;obtain ⟨s_,H⟩|⟨s_,H⟩:=H
   case inl =>
    replace H:=iS H;obtain ⟨c12,H⟩:=H
    have arN:=eq_true c12
    have zW:=decide_eq_true c12
    clear c12
    replace H:=iS H;obtain ⟨c13,H⟩:=H
    have arT:=eq_true c13
    have Lw:=decide_eq_true c13
    clear c13
    replace H:=bS H;obtain ⟨t107,wq,H⟩:=H
    obtain rfl:=Option.some.inj H
    obtain ⟨i015,Uw,_,Vv,_⟩:=info_parts lS
    obtain ⟨anR,hA15,Tw⟩:=Wv (P:=Try.prog) (Value.int .i64) 0 29 2 .i64 Try.underlying29 Uw Vv A0 c0 l0 bp oD oD fq.z
    have ZG:=k0 (Kd.Gt (h1:=fun _=>rfl) (hA15 _ (Kd.I2 cP.z)))
    have PJ:=k0 Tw
    clear hA15 Tw Uw Vv
    go_wp2_with (first|(refine aqz (f:=105) rfl ?_;refine as6 (some 21) rfl rfl Try.func105 (by kernel_rfl) rfl #[.slice A0 (l0.take (bp:Int).toNat).length c0] rfl (by (try simp only [List.map_toArray,List.map_cons,List.map_nil]);first|done|(rw [show (l0.take (bp:Int).toNat).length=bp.toNat from (by rw [List.length_take];have h_:(bp:Int)≤(l0.length:Int):=oD;omega)]<;>rfl)|rfl|(simp only [List.length_drop,List.length_take];rfl)) ?_;(with_reducible refine (nQ.calls _ _ (l0.take (bp:Int).toNat) t107 _ ?aq ?au wq.z).mono ?_);(case aq=>exact aC (Kd.aqN ZG.z HB.z));(case au=>exact PJ.z);rintro e tN ⟨q3,rfl,aD,hb⟩;refine ⟨_,rfl,?_⟩;have bD:=k0 (Kd.cA aD (aqG bl));replace HB:=bW hb))
    go_ret
    exact ⟨_,eR,aR bD.z,bl⟩
   obtain ⟨bz,arv⟩:∃ j_:Int,(wrap64 (bp - 1))=j_:=⟨_,rfl⟩
   replace H:(if 0≤(bz) then (if (bz) < (l0.length:Int) then (if (rd l0 (bz))=0 then (pO.l0 k1 l0 bz) else (if 0≤bp then (if bp≤(l0.length:Int) then ((nQ.f (l0.take (bp:Int).toNat)).bind fun t103=>(some t103)) else (none)) else (none))) else (none)) else (none))=some r:=by first|(rw [arv] at H;exact H)|(simp only [arv] at H ⊢;exact H)
   have MV:(IntKind.i64.wrap (bp - 1))=bz:=(bJ _).trans arv
   replace H:=iS H;obtain ⟨c4,H⟩:=H
   have ej:=decide_eq_true c4
   clear c4
   replace H:=iS H;obtain ⟨c5,H⟩:=H
   have gD:=decide_eq_true c5
   clear c5
   replace H:=iE H;obtain ⟨c6,fN,lJ,H⟩|⟨fN,lJ,H⟩:=H
   case inl =>
    replace H:=iS H;obtain ⟨c7,H⟩:=H
    have l8:=eq_true c7
    have rD:=decide_eq_true c7
    clear c7
    replace H:=iS H;obtain ⟨c8,H⟩:=H
    have r7:=eq_true c8
    have wN:=decide_eq_true c8
    clear c8
    replace H:=bS H;obtain ⟨t103,A9,H⟩:=H
    obtain rfl:=Option.some.inj H
    have dY:0≤((bz):Int):=oD
    have dZ:(bz) < (l0.length:Int):=oD
    obtain ⟨ny,e101,lQ⟩:=Kd.bM cP.z (bz) dY dZ
    cases e101
    replace lQ:=hbc HB lQ
    replace dY:=eT dY
    replace dZ:=eT dZ
    obtain ⟨i010,EH,_,H6,_⟩:=info_parts lS
    obtain ⟨atH,hA10,Ew⟩:=Wv (P:=Try.prog) (Value.int .i64) 0 29 2 .i64 Try.underlying29 EH H6 (some ny) c0 l0 bp oD oD fq.z
    have ZF:=k0 (Kd.Gt (h1:=fun _=>rfl) (hA10 _ (Kd.I2 cP.z)))
    have Ze:=k0 Ew
    clear hA10 Ew EH H6
    go_wp2_with (first|(refine aqz (f:=105) rfl ?_;refine as6 (some 21) rfl rfl Try.func105 (by kernel_rfl) rfl #[.slice (some ny) (l0.take (bp:Int).toNat).length c0] rfl (by (try simp only [List.map_toArray,List.map_cons,List.map_nil]);first|done|(rw [show (l0.take (bp:Int).toNat).length=bp.toNat from (by rw [List.length_take];have h_:(bp:Int)≤(l0.length:Int):=oD;omega)]<;>rfl)|rfl|(simp only [List.length_drop,List.length_take];rfl)) ?_;(with_reducible refine (nQ.calls _ _ (l0.take (bp:Int).toNat) t103 _ ?aq ?au A9.z).mono ?_);(case aq=>exact aC (Kd.aqN ZF.z HB.z));(case au=>exact Ze.z);rintro e y9 ⟨mT,rfl,aD,hb⟩;refine ⟨_,rfl,?_⟩;have b8:=k0 (Kd.cA aD (aqG bl));replace HB:=bW hb))
    go_ret
    exact ⟨_,by first|rfl|(simp [ic,ie]<;>rfl)|(simp only [← arv];first|rfl|(simp [ic,ie]<;>rfl))|(simp [*,ic,ie]<;>rfl),aR b8.z,bl⟩
   have H':=k0 H
   clear H
   have dY:0≤((bz):Int):=oD
   have dZ:(bz) < (l0.length:Int):=oD
   obtain ⟨ny,e101,lQ⟩:=Kd.bM cP.z (bz) dY dZ
   cases e101
   replace lQ:=hbc HB lQ
   replace dY:=eT dY
   replace dZ:=eT dZ
   go_wp2
   first|go_roundg k1|(simp only [← arv];go_roundg k1)
   case measure=>have:=aI.z;omega
   case rel=>exact ⟨(bz),(by first|rfl|(simp;done)|(simp only [← arv]<;>(first|rfl|simp))|(simp [*];done)),(by first|exact H'|(rw [arv];exact H')),⟨by have:=aI.z;omega⟩,⟨bl⟩⟩
end Go.Proofs.Ytapnggjaeehpdaa.A
/- Set with little white space, by a program. -/
