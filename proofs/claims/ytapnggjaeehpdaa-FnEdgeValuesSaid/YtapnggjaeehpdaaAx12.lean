/- The functions that one law reaches, each as a Lean function, and that Go's call comes to what it says. Condition of each: that the Lean function answers (is not none). -/
import Derived.Test.YtapnggjaeehpdaaAx0
import Derived.Test.YtapnggjaeehpdaaAx6
import Derived.Test.YtapnggjaeehpdaaAx8
import Derived.Test.YtapnggjaeehpdaaAx9
import Derived.Test.YtapnggjaeehpdaaAx11
namespace Go.Proofs.Ytapnggjaeehpdaa.A
open Go.RowKit Go.Proofs.bB.dI Go.Proofs.bB.ark Go.Proofs.bB.jd
attribute [local go_sem] max2_int min2_int max_two min_two max_three min_three max_four min_four   -- for this text's walks alone
set_option linter.unusedVariables false
set_option linter.unusedSimpArgs false
set_option maxHeartbeats 8000000
set_option maxRecDepth 100000
/-! ### F8: function 8 -/
def F8.l0 : Nat → Int → List Int → Int → Int → List (List Int) → Option (List Int × Int)
 | 0,_,_,_,_,_=>none
 | k+1,x1,x7,x8,dx,cF=>if x8 < x1 then ((aU.f k dx cF x1 x8).bind fun dM=>(if dM.2=0 then (if x7.length < 17592186044416 then (F8.l0 k x1 (x7 ++ [x8]) (wrap64 (x8+1)) dx cF) else (none)) else (F8.l0 k x1 x7 (wrap64 (x8+1)) dx cF))) else (some (x7,0))
def F8.f (k:Nat) (ag:Int) (af:List (List Int)) (a1:Int):Option (List Int × Int):=(iO.f k ag af a1 ([]:List Int)).bind fun t102=>(if t102=0 then (F8.l0 k a1 (([]:List Int)) 0 ag af) else (some (([]:List Int),t102)))
theorem F8.calls (k : Nat) (ag : Int) (az : Option Addr) (ay : Nat) (af : List (List Int)) (a1 : Int) (r1 : List Int) (r2 : Int) (w : World) (aqO : Kd.C (Kd.slice 2 (Kd.int .i64)) w az af.length af) (bG : af.length ≤ ay) (h : F8.f k ag af a1 = some (r1, r2)) :
  Calls Try.prog 8 #[.agg #[.int .i64 ag,.slice az af.length ay],.int .i64 a1] w fun e w'=>∃ cR:Value,e=.returned (.tuple #[cR,.int .i64 r2])∧Kd.R (Kd.int .i64) 2 w' w.heap.size (fun _=>True) cR r1∧Below w.heap.size w w':=by
 have eE:=Try.underlying26
 have aW:=k0 aqO
 have bh:=k0 bG
 clear aqO bG
 have HB:=k0 (Below.refl w.heap.size w)
 unfold F8.f at h
 have H:=h
 clear h
 replace H:=bS H;obtain ⟨t102,A3,H⟩:=H
 replace H:=iE H;obtain ⟨c4,ej,qc,H⟩|⟨ej,qc,H⟩:=H
 case inl =>
  simp only [Option.some.injEq,Prod.mk.injEq] at H
  obtain ⟨rfl,rfl⟩:=H
  go_enter Try.func8,Try.ntmps8
  go_wp2_with (first|(refine aqI (N:=2) rfl ?_;refine cz 2 #[.int .i64 ag,.slice az af.length ay] 26 bl ?_;intro aA asR aa aqF HB;have aqR:=aqF;obtain ⟨_,_,_,_⟩:=aqA aa)|(refine aqz (f:=55) rfl ?_;refine gC (some 13) Try.func55 #[.agg #[.int .i64 ag,.slice az af.length ay],.int .i64 a1,.slice none 0 0] ?_;(refine (iO.calls k ag _ _ af a1 _ _ ([]:List Int) t102 _ ?aq ?au ?cr ?dw A3.z).mono ?_);(case aq=>exact aC (Kd.aqN aW.z HB.z));(case au=>exact bh.z);(case cr=>exact Kd.J0 _ _);(case dw=>exact Nat.le_refl _);rintro e vw ⟨rfl,hb⟩;refine ⟨_,rfl,?_⟩;replace aa:=kB aa hb;replace HB:=bW hb))
  go_ret2
  exact ⟨_,eR,by first|exact Kd.p6 _ _ _ _ _|exact Kd.sX _ _ _ _ _|exact Kd.s6 _ _ _ _ _|exact Kd.sZ _ _ _ _ _|exact Kd.ase _ _ _ _ _,bl⟩
 obtain ⟨oG,nu⟩:=nY (([]:List Int):List Int)
 replace H:(F8.l0 k a1 oG 0 ag af)=some (r1,r2):=rH nu.z H
 have H':=k0 H
 clear H
 go_enter Try.func8,Try.ntmps8
 go_wp2_with (first|(refine aqI (N:=2) rfl ?_;refine cz 2 #[.int .i64 ag,.slice az af.length ay] 26 bl ?_;intro aA w5 aa aqF HB;have aqR:=aqF;obtain ⟨_,_,_,_⟩:=aqA aa)|(refine aqz (f:=55) rfl ?_;refine gC (some 13) Try.func55 #[.agg #[.int .i64 ag,.slice az af.length ay],.int .i64 a1,.slice none 0 0] ?_;(refine (iO.calls k ag _ _ af a1 _ _ ([]:List Int) t102 _ ?aq ?au ?cr ?dw A3.z).mono ?_);(case aq=>exact aC (Kd.aqN aW.z HB.z));(case au=>exact bh.z);(case cr=>exact Kd.J0 _ _);(case dw=>exact Nat.le_refl _);rintro e w7 ⟨rfl,hb⟩;refine ⟨_,rfl,?_⟩;replace aa:=kB aa hb;replace HB:=bW hb)|(refine aqI (N:=17) rfl ?_;refine Kd.gw (Kd.int .i64) _ 2 ?hg (N:=17) ?hd (xs:=([]:List Int)) (inner:=[]) (ok:=fun _=>True) (bw:=fun _=>True) ?hr ?hp (fun _ hk=>hk) trivial (Below.refl _ _) (Nat.le_refl _) (by simp) ?_;(case hd=>rfl);(case hg=>rfl);(case hr=>first|(go_simp;done)|(go_simp;rfl));(case hp=>exact (aH.none _ _));intro mT w8 tq hb bH bI;clear bH bI;(first|rw [← nu.z] at tq|(simp only [Int.reduceToNat] at tq;rw [← nu.z] at tq));have b8:=k0 (Kd.cA tq (aqG bl));replace aa:=kB aa hb;replace HB:=bW hb;clear hb tq))
 go_loopg [7,8] k (fun kq v7 v8 w'=>∃ (cQ:List Int) (bu:Int),v8=.int .i64 bu∧ai (F8.l0 kq a1 cQ bu ag af=some (r1,r2))∧ai (kq≤k)∧ai (Kd.R (Kd.int .i64) 2 w' w.heap.size (fun _=>True) v7 cQ)∧ai (w'.heap[aA]?=some (sO ag az af ay 26))∧ai (Below w.heap.size w w'))
 case atStart=>exact ⟨(oG),(0),rs,H',⟨Nat.le_refl _⟩,⟨aR (b8.z)⟩,⟨bk⟩,⟨bl⟩⟩
 case round =>
  clear H'
  obtain ⟨cQ,bu,rfl,HA,aI,jc,aa,HB⟩:=hrel
  cases gk with
  | zero=>exact absurd HA.z (by simp [F8.l0])
  | succ k1 =>
   have H:=HA.z
   clear HA
   simp only [F8.l0] at H
   replace H:=iC H;obtain ⟨vN,H⟩|⟨vN,H⟩:=H
   case inl =>
    simp only [Option.some.injEq,Prod.mk.injEq] at H
    obtain ⟨rfl,rfl⟩:=H
    go_wp2
    go_ret2
    exact ⟨_,eR,aR jc.z,bl⟩
   replace H:=bS H;obtain ⟨⟨t106,t109⟩,Bc,H⟩:=H
   dsimp only at H
   replace H:=iE H;obtain ⟨c12,arN,zW,H⟩|⟨arN,zW,H⟩:=H
   case inl =>
    have H':=k0 H
    clear H
    obtain ⟨_,_,_,_⟩:=aqA aa
    go_wp2_with (first|(refine aqz (f:=56) rfl ?_;refine gC (some 27) Try.func56 #[.agg #[.int .i64 ag,.slice az af.length ay],.int .i64 a1,.int .i64 bu] ?_;(with_reducible refine (aU.calls k1 ag _ _ af a1 bu t106 t109 _ ?aq ?au Bc.z).mono ?_);(case aq=>exact aC (Kd.aqN aW.z HB.z));(case au=>exact bh.z);rintro e tO ⟨vq,rfl,aD,hb⟩;refine ⟨_,rfl,?_⟩;have lX:=k0 (Kd.fT (Kd.oX aD (Kd.eZ (aR jc.z))) (aqG bl));replace jc:=eC jc hb;replace aa:=kB aa hb;replace HB:=bW hb))
    go_roundg k1
    case measure=>have:=aI.z;omega
    case rel=>exact ⟨(cQ),(wrap64 (bu+1)),rs,H',⟨by have:=aI.z;omega⟩,⟨aR (jc.z)⟩,⟨bk⟩,⟨bl⟩⟩
   replace H:=iS H;obtain ⟨c13,H⟩:=H
   have Z7:=k0 c13
   clear c13
   obtain ⟨qy,qD⟩:=nY (cQ ++ [bu]:List Int)
   replace H:(F8.l0 k1 a1 qy (wrap64 (bu+1)) ag af)=some (r1,r2):=rH qD.z H
   have H':=k0 H
   clear H
   obtain ⟨_,_,_,_⟩:=aqA aa
   go_wp2_with (first|(refine aqz (f:=56) rfl ?_;refine gC (some 27) Try.func56 #[.agg #[.int .i64 ag,.slice az af.length ay],.int .i64 a1,.int .i64 bu] ?_;(with_reducible refine (aU.calls k1 ag _ _ af a1 bu t106 t109 _ ?aq ?au Bc.z).mono ?_);(case aq=>exact aC (Kd.aqN aW.z HB.z));(case au=>exact bh.z);rintro e pH ⟨vq,rfl,aD,hb⟩;refine ⟨_,rfl,?_⟩;have lX:=k0 (Kd.fT (Kd.oX aD (Kd.eZ (aR jc.z))) (aqG bl));replace jc:=eC jc hb;replace aa:=kB aa hb;replace HB:=bW hb)|((with_reducible refine ars (b:=.append) (xs:=#[.tmp 32,.tmp 34]) rfl ?_);at_builtin;refine Kd.asb (Kd.int .i64) (w0:=w) w.heap.size rfl (.tmp 32) (.tmp 34) 29 2 (.int .i64 0) 8 rfl Try.underlying29 lS rfl (by decide) (by omega) u7 cQ bu [.int .i64 bu] (fun _=>True) (fun _=>False) rfl rfl ?aP (fun _ hk=>hk.elim) ?aF ?aO ?aB ?aS ?aL ?_;(case aP=>exact rfl);(case aB=>exact bl);(case aF=>exact (fun _ _=>trivial));(case aO=>exact (aR jc.z));(case aS=>exact (aqG bl));(case aL=>have:=Z7.out;omega);intro F0 tN ho hb hg bg;rw [← qD.z] at ho;replace aa:=k0 (aq2 (aB aa.z) hg (Kd.aro jc.z aa.z (by decide)));replace lX:=k0 (Kd.mF (ok:=(fun _=>True)) (aS lX.z) hg bg);replace HB:=k0 (hb);have oQ:=k0 (ho);clear jc;clear ho hb hg bg))
   go_roundg k1
   case measure=>have:=aI.z;omega
   case rel=>exact ⟨(qy),(wrap64 (bu+1)),rs,H',⟨by have:=aI.z;omega⟩,⟨aR (oQ.z)⟩,⟨bk⟩,⟨bl⟩⟩
/-! ### F9: function 9 -/
def F9.l0 : Nat → List Int → List Int → Int → Option (Bool)
 | 0,_,_,_=>none
 | k+1,x0,x1,x5=>if x5 < (x0.length:Int) then (if 0≤x5 then (if x5 < (x1.length:Int) then (if (rd x0 x5)=(rd x1 x5) then (F9.l0 k x0 x1 (wrap64 (x5+1))) else (some false)) else (none)) else (none)) else (some true)
def F9.f (k:Nat) (l0:List Int) (l1:List Int):Option (Bool):=if (l0.length:Int)=(l1.length:Int) then (F9.l0 k l0 l1 0) else (some false)
theorem F9.calls (k : Nat) (A0 : Option Addr) (c0 : Nat) (l0 : List Int) (A1 : Option Addr) (c1 : Nat) (l1 : List Int) (r : Bool) (w : World) (bZ : Kd.C (Kd.int .i64) w A0 l0.length l0) (hc0 : l0.length ≤ c0) (arC : Kd.C (Kd.int .i64) w A1 l1.length l1) (ql : l1.length ≤ c1) (h : F9.f k l0 l1 = some r) :
  Calls Try.prog 9 #[.slice A0 l0.length c0,.slice A1 l1.length c1] w fun e w'=>e=.returned (.bool r)∧eX w w':=by
 have cP:=k0 bZ
 have fq:=k0 hc0
 clear bZ hc0
 have ue:=k0 arC
 have J6:=k0 ql
 clear arC ql
 unfold F9.f at h
 have H:=h
 clear h
 by_cases c3:(l0.length:Int)=(l1.length:Int)
 case neg =>
  rw [if_neg c3] at H
  have ia:=beq_eq_false_iff_ne.mpr c3
  have qb:=bne_iff_ne.mpr c3
  have LC:(l0.length == l1.length)=false:=by first|simpa using c3|(simp at c3 ⊢;omega)
  obtain rfl:=Option.some.inj H
  go_enter Try.func9,Try.ntmps9
  go_wp2
  go_ret
  exact ⟨rs,dW⟩
 rw [if_pos c3] at H
 have ia:=beq_iff_eq.mpr c3
 have qb:=bne_eq_false_iff_eq.mpr c3
 have LC:(l0.length == l1.length)=true:=by first|simpa using c3|(simp at c3 ⊢;omega)
 clear c3
 have H':=k0 H
 clear H
 go_enter Try.func9,Try.ntmps9
 go_wp2
 go_loopg [5] k (fun kq v5 w'=>∃ (bK:Int),v5=.int .i64 bK∧ai (F9.l0 kq l0 l1 bK=some r)∧ai (kq≤k)∧eX w w')
 case atStart=>exact ⟨(0),rs,H',⟨Nat.le_refl _⟩,dW⟩
 case round =>
  clear H'
  obtain ⟨bK,rfl,HA,aI,⟨m1,rfl⟩⟩:=hrel
  cases gk with
  | zero=>exact absurd HA.z (by simp [F9.l0])
  | succ k1 =>
   have H:=HA.z
   clear HA
   simp only [F9.l0] at H
   replace H:=iC H;obtain ⟨ej,H⟩|⟨ej,H⟩:=H
   case inl =>
    obtain rfl:=Option.some.inj H
    go_wp2
    go_ret
    exact ⟨rs,dW⟩
   replace H:=iS H;obtain ⟨c5,H⟩:=H
   have gD:=decide_eq_true c5
   clear c5
   replace H:=iS H;obtain ⟨c6,H⟩:=H
   have fN:=decide_eq_true c6
   clear c6
   replace H:=iE H;obtain ⟨c7,l8,rD,H⟩|⟨l8,rD,H⟩:=H
   case inl =>
    obtain rfl:=Option.some.inj H
    obtain ⟨dY,dZ⟩:=iN bK (l0.length:Int)
    obtain ⟨ny,e101,lQ⟩:=Kd.bM cP.z bK dY dZ
    cases e101
    replace dY:=eT dY
    replace dZ:=eT dZ
    obtain ⟨cT,cU⟩:=iN bK (l1.length:Int)
    obtain ⟨nZ,e102,fB⟩:=Kd.bM ue.z bK cT cU
    cases e102
    replace cT:=eT cT
    replace cU:=eT cU
    go_wp2
    repeat (go_quiet (fail);try go_wp2)
    go_ret
    exact ⟨rs,dW⟩
   have H':=k0 H
   clear H
   obtain ⟨dY,dZ⟩:=iN bK (l0.length:Int)
   obtain ⟨ny,e101,lQ⟩:=Kd.bM cP.z bK dY dZ
   cases e101
   replace dY:=eT dY
   replace dZ:=eT dZ
   obtain ⟨cT,cU⟩:=iN bK (l1.length:Int)
   obtain ⟨nZ,e102,fB⟩:=Kd.bM ue.z bK cT cU
   cases e102
   replace cT:=eT cT
   replace cU:=eT cU
   go_wp2
   repeat (go_quiet (fail);try go_wp2)
   go_roundg k1
   case measure=>have:=aI.z;omega
   case rel=>exact ⟨(wrap64 (bK+1)),rs,H',⟨by have:=aI.z;omega⟩,dW⟩
/-! ### F10: function 10 -/
def rq.f (k:Nat) (ag:Int) (af:List (List Int)) (a1:Int) (a2:Int):Option (Int × Int):=(mA.f k ag af a1 a2).bind fun t102=>(if t102=0 then ((sR.f k ag af).bind fun t103=>((mB.f k t103 a2 a1).bind fun t106=>(some (t106,0)))) else (some (0,t102)))
theorem rq.calls (k : Nat) (ag : Int) (az : Option Addr) (ay : Nat) (af : List (List Int)) (a1 : Int) (a2 : Int) (r1 : Int) (r2 : Int) (w : World) (aqO : Kd.C (Kd.slice 2 (Kd.int .i64)) w az af.length af) (bG : af.length ≤ ay) (h : rq.f k ag af a1 a2 = some (r1, r2)) :
  Calls Try.prog 10 #[.agg #[.int .i64 ag,.slice az af.length ay],.int .i64 a1,.int .i64 a2] w fun e w'=>e=.returned (.tuple #[.int .i64 r1,.int .i64 r2])∧Below w.heap.size w w':=by
 have eE:=Try.underlying26
 have aW:=k0 aqO
 have bh:=k0 bG
 clear aqO bG
 have HB:=k0 (Below.refl w.heap.size w)
 unfold rq.f at h
 have H:=h
 clear h
 replace H:=bS H;obtain ⟨t102,A4,H⟩:=H
 replace H:=iE H;obtain ⟨c5,gD,arP,H⟩|⟨gD,arP,H⟩:=H
 case inl =>
  simp only [Option.some.injEq,Prod.mk.injEq] at H
  obtain ⟨rfl,rfl⟩:=H
  go_enter Try.func10,Try.ntmps10
  go_wp2_with (first|(refine aqI (N:=3) rfl ?_;refine cz 3 #[.int .i64 ag,.slice az af.length ay] 26 bl ?_;intro aA vv aa aqF HB;have aqR:=aqF;obtain ⟨_,_,_,_⟩:=aqA aa)|(refine aqz (f:=52) rfl ?_;refine gC (some 12) Try.func52 #[.agg #[.int .i64 ag,.slice az af.length ay],.int .i64 a1,.int .i64 a2] ?_;(with_reducible refine (mA.calls k ag _ _ af a1 a2 t102 _ ?aq ?au A4.z).mono ?_);(case aq=>exact aC (Kd.aqN aW.z HB.z));(case au=>exact bh.z);rintro e tN ⟨rfl,hb⟩;refine ⟨_,rfl,?_⟩;replace aa:=kB aa hb;replace HB:=bW hb))
  go_ret2
  exact ⟨eR,bl⟩
 replace H:=bS H;obtain ⟨t103,A6,H⟩:=H
 replace H:=bS H;obtain ⟨t106,A7,H⟩:=H
 simp only [Option.some.injEq,Prod.mk.injEq] at H
 obtain ⟨rfl,rfl⟩:=H
 go_enter Try.func10,Try.ntmps10
 go_wp2_with (first|(refine aqI (N:=3) rfl ?_;refine cz 3 #[.int .i64 ag,.slice az af.length ay] 26 bl ?_;intro aA w8 aa aqF HB;have aqR:=aqF;obtain ⟨_,_,_,_⟩:=aqA aa)|(refine aqz (f:=52) rfl ?_;refine gC (some 12) Try.func52 #[.agg #[.int .i64 ag,.slice az af.length ay],.int .i64 a1,.int .i64 a2] ?_;(with_reducible refine (mA.calls k ag _ _ af a1 a2 t102 _ ?aq ?au A4.z).mono ?_);(case aq=>exact aC (Kd.aqN aW.z HB.z));(case au=>exact bh.z);rintro e jh ⟨rfl,hb⟩;refine ⟨_,rfl,?_⟩;replace aa:=kB aa hb;replace HB:=bW hb;obtain ⟨_,_,_,_⟩:=aqA aa)|(refine aqz (f:=53) rfl ?_;refine gC (some 17) Try.func53 #[.agg #[.int .i64 ag,.slice az af.length ay]] ?_;(with_reducible refine (sR.calls k ag _ _ af t103 _ ?aq ?au A6.z).mono ?_);(case aq=>exact aC (Kd.aqN aW.z HB.z));(case au=>exact bh.z);rintro e oB ⟨mT,rfl,aD,hb⟩;refine ⟨_,rfl,?_⟩;have b8:=k0 (Kd.cA aD (aqG bl));replace aa:=kB aa hb;replace HB:=bW hb;obtain ⟨rm,rF,rfl⟩:=Kd.cy b8.z)|(refine aqz (f:=54) rfl ?_;refine gC (some 20) Try.func54 #[.slice rm t103.length rF,.int .i64 a2,.int .i64 a1] ?_;(with_reducible refine (mB.calls k _ _ t103 a2 a1 t106 _ ?aq ?au A7.z).mono ?_);(case aq=>exact aC ((Kd.aqP b8.z).2.2));(case au=>exact (Kd.aqP b8.z).2.1);rintro e w' ⟨rfl,⟨nd,rfl⟩⟩;refine ⟨_,rfl,?_⟩))
 go_ret2
 exact ⟨eR,bl⟩
-- NOT PRINTED: function 106 (slices_IndexFunc_int64_int64)
/-! ### F107: function 107 -/
theorem aiJ {b1 : Nat} (A : Option Addr) (c : Nat) (l : List Int) (a : Int) (r : Bool) (w : World) (hr : Kd.C (Kd.int .i64) w A l.length l) (hb : w.heap[b1]? = some (.cells #[.int .i64 a] 3 (0, 0))) (h : (if 0 ≤ a then (if a < (l.length : Int) then some (rd l a != 0) else none) else none) = some r) :
  Calls Try.prog 107 #[.slice A l.length c,.pointer (some ⟨b1,0,none⟩)] w fun e w'=>e=.returned (.bool r)∧eX w w':=by
 by_cases h0:0≤a
 case neg =>
  rw [if_neg h0] at h;cases h
 rw [if_pos h0] at h
 by_cases h1:a < (l.length:Int)
 case neg =>
  rw [if_neg h1] at h;cases h
 rw [if_pos h1] at h
 obtain rfl:=Option.some.inj h
 obtain ⟨ad,e,hcell⟩:=Kd.bM hr a h0 h1
 subst e
 have E4:w.cell? ⟨b1,0,none⟩=some (.int .i64 a):=(fI hb 0).trans rfl
 have Ug:=gY hb 0
 have c0b:=decide_eq_true h0
 have c1b:=decide_eq_true h1
 have c0p:=eq_true h0
 have c1p:=eq_true h1
 clear hr hb h h0 h1
 go_enter Try.func107,Try.ntmps107
 go_wp2
 go_ret
 exact ⟨rs,dW⟩
theorem aiI (p : List Int → Option Bool) (b1 : Nat) (A : Option Addr) (c : Nat) (l : List (List Int)) (R : Int) (w : World) (hr : Kd.C (Kd.slice 2 (Kd.int .i64)) w A l.length l)
 (hp:∀ (A':Option Addr) (c':Nat) (x:List Int) (b:Bool) w1,Below w.heap.size w w1→Kd.C (Kd.int .i64) w1 A' x.length x→x.length≤c'→p x=some b→Calls Try.prog 107 #[.slice A' x.length c',.pointer (some ⟨b1,0,none⟩)] w1 fun e w'=>e=.returned (.bool b)∧Below w1.heap.size w1 w') (h:vZ p l 0=some R) :
 Calls Try.prog 106 #[.slice A l.length c,.func (.func 107) #[] #[.pointer (some ⟨b1,0,none⟩)]] w fun e w'=>e=.returned (.int .i64 R)∧Below w.heap.size w w':=by
 have HR:=k0 hr
 have HP:=k0 hp
 have H':=k0 h
 have hlen:l.length≤9223372036854775807:=hr.2.1
 clear hr hp h
 go_enter Try.func106,Try.ntmps106
 go_wp2_with fail
 go_loopw [8] (fun i wr=>∃ k:Nat,k≤l.length∧i=.int .i64 k∧ai (vZ p (l.drop k) k=some R)∧ai (Below w.heap.size w wr)) (fun i _=>l.length - (intOf i).toNat)
 case atStart=>exact ⟨0,Nat.zero_le _,rfl,⟨by simpa using H'.out⟩,⟨Below.refl _ _⟩⟩
 case round =>
  clear H'
  obtain ⟨k,hk,rfl,HI,HB⟩:=hrel
  by_cases hlt:k < l.length
  case neg =>
   have hI:=HI.z
   rw [List.drop_of_length_le (by omega)] at hI
   simp only [vZ,Option.some.injEq] at hI
   subst hI
   have hb:decide (k < l.length)=false:=by simp;omega
   go_wp2
   go_ret
   exact ⟨rfl,HB.z⟩
  have hI:=HI.z
  rw [List.drop_eq_getElem_cons hlt] at hI
  simp only [vZ] at hI
  obtain ⟨b,hb,hI⟩:=Option.bind_eq_some_iff.mp hI
  obtain ⟨ad,A',c',e,hcell,hlc,hC⟩:=cD (Kd.aqN HR.z HB.z) (k:Int) (by omega) (by omega)
  cases e
  rw [Int.toNat_natCast] at hcell
  have hx:ah l (k:Int)=l[k]:=by simp [ah,List.getD_eq_getElem?_getD,hlt]
  rw [hx] at hcell hlc hC
  have PM:=k0 hC
  have P6:=k0 hlc
  have PI:=k0 hb
  clear hC hlc hb hx
  cases b with
  | true =>
   simp only [if_true,Option.some.injEq] at hI
   subst hI
   go_wp2_with (go_at_call 107;refine (HP.out _ _ _ true _ HB.z PM.z P6.z PI.z).mono ?_;rintro e w' ⟨rfl,jN⟩;have iP:=k0 (dc HB.z jN);clear jN)
   go_ret
   exact ⟨rfl,iP.z⟩
  | false =>
   simp only [Bool.false_eq_true,if_false] at hI
   have HD:=k0 hI
   clear hI
   go_wp2_with (go_at_call 107;refine (HP.out _ _ _ false _ HB.z PM.z P6.z PI.z).mono ?_;rintro e w' ⟨rfl,jN⟩;have iP:=k0 (dc HB.z jN);clear jN)
   go_roundw
   case rel=>exact ⟨k+1,by omega,by go_num,HD,iP⟩
   case measure=>simp [intOf];omega
def xz.f (k:Nat) (l0:List (List Int)) (a1:Int):Option Int:=vZ (fun x=>if 0≤a1 then (if a1 < (x.length:Int) then some (rd x a1 != 0) else none) else none) l0 0
theorem xz.calls {b1 : Nat} (k : Nat) (A0 : Option Addr) (c0 : Nat) (l0 : List (List Int)) (a1 : Int) (r : Int) (w : World) (bZ : Kd.C (Kd.slice 2 (Kd.int .i64)) w A0 l0.length l0) (hc0 : l0.length ≤ c0) (fc : w.heap[b1]? = some (.cells #[.int .i64 a1] 3 (0, 0))) (h : xz.f k l0 a1 = some r) :
  Calls Try.prog 106 #[.slice A0 l0.length c0,.func (.func 107) #[] #[.pointer (some ⟨b1,0,none⟩)]] w fun e w'=>e=.returned (.int .i64 r)∧Below w.heap.size w w':=by
 unfold xz.f at h
 refine aiI (fun x=>if 0≤a1 then (if a1 < (x.length:Int) then some (rd x a1 != 0) else none) else none) b1 A0 c0 l0 r w bZ (fun A' c' x b w1 hw1 hC hc hx=>?_) h
 exact (aiJ A' c' x a1 b w1 hC (cV fc hw1) hx).mono fun e w' ⟨h1,h2⟩=>⟨h1,h2.below⟩
/-! ### F108: function 108 -/
def lC.l0 : Nat → Int → Int → Int → Int → Option (Int)
 | 0,_,_,_,_=>none
 | k+1,x0,x1,x5,x6=>if x6 > 0 then (if (Int.tmod x6 2)=1 then (if x1=0 then (none) else (lC.l0 k (Int.tmod (wrap64 (x0 * x0)) x1) x1 (Int.tmod (wrap64 (x5 * x0)) x1) (wrap64 (Int.tdiv x6 2)))) else (if x1=0 then (none) else (lC.l0 k (Int.tmod (wrap64 (x0 * x0)) x1) x1 x5 (wrap64 (Int.tdiv x6 2))))) else (some x5)
def lC.f (k:Nat) (a0:Int) (a1:Int):Option (Int):=lC.l0 k a0 a1 1 (wrap64 (a1 - 2))
theorem lC.calls (k : Nat) (a0 : Int) (a1 : Int) (r : Int) (w : World) (h : lC.f k a0 a1 = some r) :
  Calls Try.prog 108 #[.int .i64 a0,.int .i64 a1] w fun e w'=>e=.returned (.int .i64 r)∧eX w w':=by
 unfold lC.f at h
 have H:=h
 clear h
 have H':=k0 H
 clear H
 go_enter Try.func108,Try.ntmps108
 go_wp2
 go_loopg [0,5,6] k (fun kq v0 v5 v6 w'=>∃ (arc:Int) (bK:Int) (fD:Int),v0=.int .i64 arc∧v5=.int .i64 bK∧v6=.int .i64 fD∧ai (lC.l0 kq arc a1 bK fD=some r)∧ai (kq≤k)∧eX w w')
 case atStart=>exact ⟨(a0),(1),(wrap64 (a1 - 2)),rs,rs,rs,H',⟨Nat.le_refl _⟩,dW⟩
 case round =>
  clear H'
  obtain ⟨arc,bK,fD,rfl,rfl,rfl,HA,aI,⟨m1,rfl⟩⟩:=hrel
  cases gk with
  | zero=>exact absurd HA.z (by simp [lC.l0])
  | succ k1 =>
   have H:=HA.z
   clear HA
   simp only [lC.l0] at H
   replace H:=iC H;obtain ⟨ia,H⟩|⟨ia,H⟩:=H
   case inl =>
    obtain rfl:=Option.some.inj H
    go_wp2
    go_ret
    exact ⟨rs,dW⟩
   replace H:=iE H;obtain ⟨c4,ej,qc,H⟩|⟨ej,qc,H⟩:=H
   case inl =>
    by_cases c6:a1=0
    case neg =>
     rw [if_neg c6] at H
     have fN:=beq_eq_false_iff_ne.mpr c6
     have lJ:=bne_iff_ne.mpr c6
     have H':=k0 H
     clear H
     go_wp2
     go_roundg k1
     case measure=>have:=aI.z;omega
     case rel=>exact ⟨(Int.tmod (wrap64 (arc * arc)) a1),(bK),(wrap64 (Int.tdiv fD 2)),rs,rs,rs,H',⟨by have:=aI.z;omega⟩,dW⟩
    rw [if_pos c6] at H
    exact absurd H (by simp)
   by_cases c5:a1=0
   case neg =>
    rw [if_neg c5] at H
    have gD:=beq_eq_false_iff_ne.mpr c5
    have arP:=bne_iff_ne.mpr c5
    have H':=k0 H
    clear H
    go_wp2
    go_roundg k1
    case measure=>have:=aI.z;omega
    case rel=>exact ⟨(Int.tmod (wrap64 (arc * arc)) a1),(Int.tmod (wrap64 (bK * arc)) a1),(wrap64 (Int.tdiv fD 2)),rs,rs,rs,H',⟨by have:=aI.z;omega⟩,dW⟩
   rw [if_pos c5] at H
   exact absurd H (by simp)
end Go.Proofs.Ytapnggjaeehpdaa.A
/- Set with little white space, by a program. -/
