/- The functions that one law reaches, each as a Lean function, and that Go's call comes to what it says. Condition of each: that the Lean function answers (is not none). -/
import Derived.Test.YtapnggjaeehpdaaAx0
import Derived.Test.YtapnggjaeehpdaaAx2
import Derived.Test.YtapnggjaeehpdaaAx3
import Derived.Test.YtapnggjaeehpdaaAx6
import Derived.Test.YtapnggjaeehpdaaAx8
namespace Go.Proofs.Ytapnggjaeehpdaa.A
open Go.RowKit Go.Proofs.bB.dI Go.Proofs.bB.ark Go.Proofs.bB.jd
attribute [local go_sem] max2_int min2_int max_two min_two max_three min_three max_four min_four   -- for this text's walks alone
set_option linter.unusedVariables false
set_option linter.unusedSimpArgs false
set_option maxHeartbeats 8000000
set_option maxRecDepth 100000
/-! ### F54: function 54 -/
def mB.l0 : Nat → List Int → Int → Int → Int → Int → Option (Int)
 | 0,_,_,_,_,_=>none
 | k+1,x0,x1,x2,x7,x8=>if x8 ≥ 0 then (if 0≤x8 then (if x8 < (x0.length:Int) then (if x2=0 then (none) else ((tX.f (wrap64 ((wrap64 (x7 * x1))+(Int.tmod (rd x0 x8) x2))) x2).bind fun t102=>(mB.l0 k x0 x1 x2 t102 (wrap64 (x8 - 1))))) else (none)) else (none)) else (some x7)
def mB.f (k:Nat) (l0:List Int) (a1:Int) (a2:Int):Option (Int):=mB.l0 k l0 a1 a2 0 (wrap64 ((l0.length:Int) - 1))
theorem mB.calls (k : Nat) (A0 : Option Addr) (c0 : Nat) (l0 : List Int) (a1 : Int) (a2 : Int) (r : Int) (w : World) (bZ : Kd.C (Kd.int .i64) w A0 l0.length l0) (hc0 : l0.length ≤ c0) (h : mB.f k l0 a1 a2 = some r) :
  Calls Try.prog 54 #[.slice A0 l0.length c0,.int .i64 a1,.int .i64 a2] w fun e w'=>e=.returned (.int .i64 r)∧eX w w':=by
 have cP:=k0 bZ
 have fq:=k0 hc0
 clear bZ hc0
 unfold mB.f at h
 have H:=h
 clear h
 have H':=k0 H
 clear H
 go_enter Try.func54,Try.ntmps54
 go_wp2
 go_loopg [7,8] k (fun kq v7 v8 w'=>∃ (cQ:Int) (bu:Int),v7=.int .i64 cQ∧v8=.int .i64 bu∧ai (mB.l0 kq l0 a1 a2 cQ bu=some r)∧ai (kq≤k)∧eX w w')
 case atStart=>exact ⟨(0),(wrap64 ((l0.length:Int) - 1)),rs,rs,H',⟨Nat.le_refl _⟩,dW⟩
 case round =>
  clear H'
  obtain ⟨cQ,bu,rfl,rfl,HA,aI,⟨m1,rfl⟩⟩:=hrel
  cases gk with
  | zero=>exact absurd HA.z (by simp [mB.l0])
  | succ k1 =>
   have H:=HA.z
   clear HA
   simp only [mB.l0] at H
   replace H:=iC H;obtain ⟨ej,H⟩|⟨ej,H⟩:=H
   case inl =>
    obtain rfl:=Option.some.inj H
    go_wp2
    go_ret
    exact ⟨rs,dW⟩
   replace H:=iS H;obtain ⟨c5,H⟩:=H
   have gD:=decide_eq_true c5
   clear c5
   replace H:=iS H;obtain ⟨c6,H⟩:=H
   have fN:=decide_eq_true c6
   clear c6
   by_cases c7:a2=0
   case neg =>
    rw [if_neg c7] at H
    have l8:=beq_eq_false_iff_ne.mpr c7
    have rD:=bne_iff_ne.mpr c7
    replace H:=bS H;obtain ⟨t102,A8,H⟩:=H
    have H':=k0 H
    clear H
    obtain ⟨dY,dZ⟩:=iN bu (l0.length:Int)
    obtain ⟨ny,e101,lQ⟩:=Kd.bM cP.z bu dY dZ
    cases e101
    replace dY:=eT dY
    replace dZ:=eT dZ
    go_wp2_with (first|(refine aqz (f:=86) rfl ?_;refine gC (some 27) Try.func86 #[.int .i64 (wrap64 ((wrap64 (cQ * a1))+(Int.tmod (rd l0 bu) a2))),.int .i64 a2] ?_;(with_reducible refine (tX.calls (wrap64 ((wrap64 (cQ * a1))+(Int.tmod (rd l0 bu) a2))) a2 t102 _ A8.z).mono ?_);rintro e w' ⟨rfl,⟨nd,rfl⟩⟩;refine ⟨_,rfl,?_⟩))
    go_roundg k1
    case measure=>have:=aI.z;omega
    case rel=>exact ⟨(t102),(wrap64 (bu - 1)),rs,rs,H',⟨by have:=aI.z;omega⟩,dW⟩
   rw [if_pos c7] at H
   exact absurd H (by simp)
/-! ### F7: function 7 -/
def F7.l0 : Nat → Int → List Int → List Int → Int → Int → Option (List Int × Int)
 | 0,_,_,_,_,_=>none
 | k+1,x1,x7,x8,ji,asX=>if asX < ji then ((mB.f k x8 asX x1).bind fun t109=>(if t109=0 then (if x7.length < 17592186044416 then (F7.l0 k x1 (x7 ++ [asX]) x8 ji (wrap64 (asX+1))) else (none)) else (F7.l0 k x1 x7 x8 ji (wrap64 (asX+1))))) else (some (x7,0))
def F7.f (k:Nat) (ag:Int) (af:List (List Int)) (a1:Int):Option (List Int × Int):=(mA.f k ag af a1 0).bind fun t102=>(if t102=0 then ((sR.f k ag af).bind fun t106=>(F7.l0 k a1 (([]:List Int)) t106 a1 0)) else (some (([]:List Int),t102)))
theorem F7.calls (k : Nat) (ag : Int) (az : Option Addr) (ay : Nat) (af : List (List Int)) (a1 : Int) (r1 : List Int) (r2 : Int) (w : World) (aqO : Kd.C (Kd.slice 2 (Kd.int .i64)) w az af.length af) (bG : af.length ≤ ay) (h : F7.f k ag af a1 = some (r1, r2)) :
  Calls Try.prog 7 #[.agg #[.int .i64 ag,.slice az af.length ay],.int .i64 a1] w fun e w'=>∃ cR:Value,e=.returned (.tuple #[cR,.int .i64 r2])∧Kd.R (Kd.int .i64) 2 w' w.heap.size (fun _=>True) cR r1∧Below w.heap.size w w':=by
 have eE:=Try.underlying26
 have aW:=k0 aqO
 have bh:=k0 bG
 clear aqO bG
 have HB:=k0 (Below.refl w.heap.size w)
 unfold F7.f at h
 have H:=h
 clear h
 replace H:=bS H;obtain ⟨t102,A3,H⟩:=H
 replace H:=iE H;obtain ⟨c4,ej,qc,H⟩|⟨ej,qc,H⟩:=H
 case inl =>
  simp only [Option.some.injEq,Prod.mk.injEq] at H
  obtain ⟨rfl,rfl⟩:=H
  go_enter Try.func7,Try.ntmps7
  go_wp2_with (first|(refine aqI (N:=2) rfl ?_;refine cz 2 #[.int .i64 ag,.slice az af.length ay] 26 bl ?_;intro aA wm aa aqF HB;have aqR:=aqF;obtain ⟨_,_,_,_⟩:=aqA aa)|(refine aqz (f:=52) rfl ?_;refine gC (some 12) Try.func52 #[.agg #[.int .i64 ag,.slice az af.length ay],.int .i64 a1,.int .i64 0] ?_;(with_reducible refine (mA.calls k ag _ _ af a1 0 t102 _ ?aq ?au A3.z).mono ?_);(case aq=>exact aC (Kd.aqN aW.z HB.z));(case au=>exact bh.z);rintro e nN ⟨rfl,hb⟩;refine ⟨_,rfl,?_⟩;replace aa:=kB aa hb;replace HB:=bW hb))
  go_ret2
  exact ⟨_,eR,by first|exact Kd.p6 _ _ _ _ _|exact Kd.sX _ _ _ _ _|exact Kd.s6 _ _ _ _ _|exact Kd.sZ _ _ _ _ _|exact Kd.ase _ _ _ _ _,bl⟩
 obtain ⟨oG,nu⟩:=nY (([]:List Int):List Int)
 replace H:((sR.f k ag af).bind fun t106=>(F7.l0 k a1 oG t106 a1 0))=some (r1,r2):=rH nu.z H
 replace H:=bS H;obtain ⟨t106,A5,H⟩:=H
 have H':=k0 H
 clear H
 go_enter Try.func7,Try.ntmps7
 go_wp2_with (first|(refine aqI (N:=2) rfl ?_;refine cz 2 #[.int .i64 ag,.slice az af.length ay] 26 bl ?_;intro aA w6 aa aqF HB;have aqR:=aqF;obtain ⟨_,_,_,_⟩:=aqA aa)|(refine aqz (f:=52) rfl ?_;refine gC (some 12) Try.func52 #[.agg #[.int .i64 ag,.slice az af.length ay],.int .i64 a1,.int .i64 0] ?_;(with_reducible refine (mA.calls k ag _ _ af a1 0 t102 _ ?aq ?au A3.z).mono ?_);(case aq=>exact aC (Kd.aqN aW.z HB.z));(case au=>exact bh.z);rintro e w8 ⟨rfl,hb⟩;refine ⟨_,rfl,?_⟩;replace aa:=kB aa hb;replace HB:=bW hb)|(refine aqI (N:=16) rfl ?_;refine Kd.gw (Kd.int .i64) _ 2 ?hg (N:=16) ?hd (xs:=([]:List Int)) (inner:=[]) (ok:=fun _=>True) (bw:=fun _=>True) ?hr ?hp (fun _ hk=>hk) trivial (Below.refl _ _) (Nat.le_refl _) (by simp) ?_;(case hd=>rfl);(case hg=>rfl);(case hr=>first|(go_simp;done)|(go_simp;rfl));(case hp=>exact (aH.none _ _));intro mT w9 jP hb bH bI;clear bH bI;(first|rw [← nu.z] at jP|(simp only [Int.reduceToNat] at jP;rw [← nu.z] at jP));have b8:=k0 (Kd.cA jP (aqG bl));replace aa:=kB aa hb;replace HB:=bW hb;clear hb jP;obtain ⟨_,_,_,_⟩:=aqA aa)|(refine aqz (f:=53) rfl ?_;refine gC (some 18) Try.func53 #[.agg #[.int .i64 ag,.slice az af.length ay]] ?_;(with_reducible refine (sR.calls k ag _ _ af t106 _ ?aq ?au A5.z).mono ?_);(case aq=>exact aC (Kd.aqN aW.z HB.z));(case au=>exact bh.z);rintro e oB ⟨vq,rfl,aD,hb⟩;refine ⟨_,rfl,?_⟩;have lX:=k0 (Kd.cA (Kd.kS aD (Kd.eZ (aR b8.z))) (aqG bl));replace b8:=l_ b8 (Kd.cm aD) hb;replace aa:=kB aa hb;replace HB:=bW hb))
 go_loopg [7,20] k (fun kq v7 v20 w'=>∃ (cQ:List Int) (sG:Int),v20=.int .i64 sG∧ai (F7.l0 kq a1 cQ t106 a1 sG=some (r1,r2))∧ai (kq≤k)∧ai (Kd.R (Kd.int .i64) 2 w' w.heap.size (fun k_=>some k_ ≠ (vq:Value).ownBlock) v7 cQ)∧ai (Kd.R (Kd.int .i64) 2 w' w.heap.size (fun k_=>some k_ ≠ (v7:Value).ownBlock) vq t106)∧ai (w'.heap[aA]?=some (sO ag az af ay 26))∧ai (Below w.heap.size w w'))
 case atStart=>exact ⟨(oG),(0),rs,H',⟨Nat.le_refl _⟩,⟨aR (Kd.aqM b8.z (fun _ hk=>hk.2))⟩,⟨aR (Kd.aqM lX.z (fun _ hk=>hk.2))⟩,⟨bk⟩,⟨bl⟩⟩
 case round =>
  clear H'
  obtain ⟨cQ,sG,rfl,HA,aI,jc,aqD,aa,HB⟩:=hrel
  cases gk with
  | zero=>exact absurd HA.z (by simp [F7.l0])
  | succ k1 =>
   have H:=HA.z
   clear HA
   simp only [F7.l0] at H
   replace H:=iC H;obtain ⟨arT,H⟩|⟨arT,H⟩:=H
   case inl =>
    simp only [Option.some.injEq,Prod.mk.injEq] at H
    obtain ⟨rfl,rfl⟩:=H
    go_wp2
    go_ret2
    exact ⟨_,eR,aR (Kd.aqM jc.z (fun _ hk=>trivial)),bl⟩
   replace H:=bS H;obtain ⟨t109,wq,H⟩:=H
   replace H:=iE H;obtain ⟨c15,kU,zY,H⟩|⟨kU,zY,H⟩:=H
   case inl =>
    have H':=k0 H
    clear H
    obtain ⟨zl,asF,rfl⟩:=Kd.cy aqD.z
    go_wp2_with (first|(refine aqz (f:=54) rfl ?_;refine gC (some 26) Try.func54 #[.slice zl t106.length asF,.int .i64 sG,.int .i64 a1] ?_;(with_reducible refine (mB.calls k1 _ _ t106 sG a1 t109 _ ?aq ?au wq.z).mono ?_);(case aq=>exact aC ((Kd.aqP aqD.z).2.2));(case au=>exact (Kd.aqP aqD.z).2.1);rintro e w' ⟨rfl,⟨nd,rfl⟩⟩;refine ⟨_,rfl,?_⟩))
    go_roundg k1
    case measure=>have:=aI.z;omega
    case rel=>exact ⟨(cQ),(wrap64 (sG+1)),rs,H',⟨by have:=aI.z;omega⟩,⟨aR (jc.z)⟩,⟨aR (aqD.z)⟩,⟨bk⟩,⟨bl⟩⟩
   replace H:=iS H;obtain ⟨c16,H⟩:=H
   have wE:=k0 c16
   clear c16
   obtain ⟨qy,qD⟩:=nY (cQ ++ [sG]:List Int)
   replace H:(F7.l0 k1 a1 qy t106 a1 (wrap64 (sG+1)))=some (r1,r2):=rH qD.z H
   have H':=k0 H
   clear H
   obtain ⟨oJ,l9,rfl⟩:=Kd.cy aqD.z
   go_wp2_with (first|(refine aqz (f:=54) rfl ?_;refine gC (some 26) Try.func54 #[.slice oJ t106.length l9,.int .i64 sG,.int .i64 a1] ?_;(with_reducible refine (mB.calls k1 _ _ t106 sG a1 t109 _ ?aq ?au wq.z).mono ?_);(case aq=>exact aC ((Kd.aqP aqD.z).2.2));(case au=>exact (Kd.aqP aqD.z).2.1);rintro e w' ⟨rfl,⟨nd,rfl⟩⟩;refine ⟨_,rfl,?_⟩)|((with_reducible refine ars (b:=.append) (xs:=#[.tmp 28,.tmp 30]) rfl ?_);at_builtin;refine Kd.asb (Kd.int .i64) (w0:=w) w.heap.size rfl (.tmp 28) (.tmp 30) 29 2 (.int .i64 0) 8 rfl Try.underlying29 lS rfl (by decide) (by omega) u7 cQ sG [.int .i64 sG] (fun k_=>some k_ ≠ (.slice oJ t106.length l9:Value).ownBlock) (fun _=>False) rfl rfl ?aP (fun _ hk=>hk.elim) ?aF ?aO ?aB ?aS ?aL ?_;(case aP=>exact rfl);(case aB=>exact bl);(case aF=>exact (fun k_ hk=>Kd.fresh' (Kd.eZ (aR aqD.z)) k_ hk));(case aO=>exact (aR jc.z));(case aS=>exact (aqG bl));(case aL=>have:=wE.out;omega);intro F0 tO ho hb hg bg;rw [← qD.z] at ho;replace aqD:=k0 (Kd.arZ (ok:=(fun _=>True)) (aR (Kd.aqM aqD.z (fun _ hk=>⟨trivial,hk⟩))) hg bg);replace aa:=k0 (aq2 (aB aa.z) hg (Kd.aro jc.z aa.z (by decide)));replace HB:=k0 (hb);have oQ:=k0 (ho);clear jc;clear ho hb hg bg))
   go_roundg k1
   case measure=>have:=aI.z;omega
   case rel=>exact ⟨(qy),(wrap64 (sG+1)),rs,H',⟨by have:=aI.z;omega⟩,⟨aR (oQ.z)⟩,⟨aR (Kd.aqM aqD.z (fun _ hk=>hk.2))⟩,⟨bk⟩,⟨bl⟩⟩
/-! ### F102: function 102 -/
def arW.l0 : Nat → Int → Int → Option (Bool)
 | 0,_,_=>none
 | k+1,x0,x3=>if (wrap64 (x3 * x3))≤x0 then (if x3=0 then (none) else (if (Int.tmod x0 x3)=0 then (some false) else (arW.l0 k x0 (wrap64 (x3+1))))) else (some true)
def arW.f (k:Nat) (a0:Int):Option (Bool):=(aq4.f a0 2 101).bind fun t101=>(if t101=true then (arW.l0 k a0 2) else (some false))
theorem arW.calls (k : Nat) (a0 : Int) (r : Bool) (w : World) (h : arW.f k a0 = some r) :
  Calls Try.prog 102 #[.int .i64 a0] w fun e w'=>e=.returned (.bool r)∧eX w w':=by
 unfold arW.f at h
 have H:=h
 clear h
 replace H:=bS H;obtain ⟨t101,A2,H⟩:=H
 cases t101
 case false =>
  replace H:=iF H
  obtain rfl:=Option.some.inj H
  go_enter Try.func102,Try.ntmps102
  go_wp2_with (first|(refine aqz (f:=61) rfl ?_;refine gC (some 5) Try.func61 #[.int .i64 a0,.int .i64 2,.int .i64 101] ?_;(with_reducible refine (aq4.calls a0 2 101 false _ A2.z).mono ?_);rintro e w' ⟨rfl,⟨nd,rfl⟩⟩;refine ⟨_,rfl,?_⟩))
  go_ret
  exact ⟨rs,dW⟩
 replace H:=iT H
 have H':=k0 H
 clear H
 go_enter Try.func102,Try.ntmps102
 go_wp2_with (first|(refine aqz (f:=61) rfl ?_;refine gC (some 5) Try.func61 #[.int .i64 a0,.int .i64 2,.int .i64 101] ?_;(with_reducible refine (aq4.calls a0 2 101 true _ A2.z).mono ?_);rintro e w' ⟨rfl,⟨nd,rfl⟩⟩;refine ⟨_,rfl,?_⟩))
 go_loopg [3] k (fun kq v3 w'=>∃ (bp:Int),v3=.int .i64 bp∧ai (arW.l0 kq a0 bp=some r)∧ai (kq≤k)∧eX w w')
 case atStart=>exact ⟨(2),rs,H',⟨Nat.le_refl _⟩,dW⟩
 case round =>
  clear H'
  obtain ⟨bp,rfl,HA,aI,⟨m1,rfl⟩⟩:=hrel
  cases gk with
  | zero=>exact absurd HA.z (by simp [arW.l0])
  | succ k1 =>
   have H:=HA.z
   clear HA
   simp only [arW.l0] at H
   replace H:=iC H;obtain ⟨ej,H⟩|⟨ej,H⟩:=H
   case inl =>
    obtain rfl:=Option.some.inj H
    go_wp2
    go_ret
    exact ⟨rs,dW⟩
   by_cases c5:bp=0
   case neg =>
    rw [if_neg c5] at H
    have gD:=beq_eq_false_iff_ne.mpr c5
    have arP:=bne_iff_ne.mpr c5
    replace H:=iE H;obtain ⟨c6,fN,lJ,H⟩|⟨fN,lJ,H⟩:=H
    case inl =>
     have H':=k0 H
     clear H
     go_wp2
     go_roundg k1
     case measure=>have:=aI.z;omega
     case rel=>exact ⟨(wrap64 (bp+1)),rs,H',⟨by have:=aI.z;omega⟩,dW⟩
    obtain rfl:=Option.some.inj H
    go_wp2
    go_ret
    exact ⟨rs,dW⟩
   rw [if_pos c5] at H
   exact absurd H (by simp)
/-! ### F55: function 55 -/
def iO.l0 : Nat → Int → List Int → Int → Option (Int)
 | 0,_,_,_=>none
 | k+1,x1,x2,x7=>if x7 < (x2.length:Int) then (if 0≤x7 then ((aq4.f (rd x2 x7) 0 (wrap64 (x1 - 1))).bind fun t105=>(if t105=true then (iO.l0 k x1 x2 (wrap64 (x7+1))) else (some 2))) else (none)) else (some 0)
def iO.f (k:Nat) (ag:Int) (af:List (List Int)) (a1:Int) (l2:List Int):Option (Int):=(dB.f k ag af).bind fun t102=>(if t102=true then ((arW.f k a1).bind fun t103=>(if t103=true then (iO.l0 k a1 l2 0) else (some 2))) else (some 1))
theorem iO.calls (k : Nat) (ag : Int) (az : Option Addr) (ay : Nat) (af : List (List Int)) (a1 : Int) (A2 : Option Addr) (c2 : Nat) (l2 : List Int) (r : Int) (w : World) (aqO : Kd.C (Kd.slice 2 (Kd.int .i64)) w az af.length af) (bG : af.length ≤ ay) (Am : Kd.C (Kd.int .i64) w A2 l2.length l2) (Cg : l2.length ≤ c2) (h : iO.f k ag af a1 l2 = some r) :
  Calls Try.prog 55 #[.agg #[.int .i64 ag,.slice az af.length ay],.int .i64 a1,.slice A2 l2.length c2] w fun e w'=>e=.returned (.int .i64 r)∧Below w.heap.size w w':=by
 have eE:=Try.underlying26
 have aW:=k0 aqO
 have bh:=k0 bG
 clear aqO bG
 have Qt:=k0 Am
 have xD:=k0 Cg
 clear Am Cg
 have HB:=k0 (Below.refl w.heap.size w)
 unfold iO.f at h
 have H:=h
 clear h
 replace H:=bS H;obtain ⟨t102,A4,H⟩:=H
 cases t102
 case false =>
  replace H:=iF H
  obtain rfl:=Option.some.inj H
  go_enter Try.func55,Try.ntmps55
  go_wp2_with (first|(refine aqI (N:=3) rfl ?_;refine cz 3 #[.int .i64 ag,.slice az af.length ay] 26 bl ?_;intro aA tO aa aqF HB;have aqR:=aqF;obtain ⟨_,_,_,_⟩:=aqA aa)|(refine aqz (f:=68) rfl ?_;refine gC (some 9) Try.func68 #[.agg #[.int .i64 ag,.slice az af.length ay]] ?_;(with_reducible refine (dB.calls k ag _ _ af false _ ?aq ?au A4.z).mono ?_);(case aq=>exact aC (Kd.aqN aW.z HB.z));(case au=>exact bh.z);rintro e wm ⟨rfl,hb⟩;refine ⟨_,rfl,?_⟩;replace aa:=kB aa hb;replace HB:=bW hb))
  go_ret
  exact ⟨eR,bl⟩
 replace H:=iT H
 replace H:=bS H;obtain ⟨t103,A6,H⟩:=H
 cases t103
 case false =>
  replace H:=iF H
  obtain rfl:=Option.some.inj H
  go_enter Try.func55,Try.ntmps55
  go_wp2_with (first|(refine aqI (N:=3) rfl ?_;refine cz 3 #[.int .i64 ag,.slice az af.length ay] 26 bl ?_;intro aA pH aa aqF HB;have aqR:=aqF;obtain ⟨_,_,_,_⟩:=aqA aa)|(refine aqz (f:=68) rfl ?_;refine gC (some 9) Try.func68 #[.agg #[.int .i64 ag,.slice az af.length ay]] ?_;(with_reducible refine (dB.calls k ag _ _ af true _ ?aq ?au A4.z).mono ?_);(case aq=>exact aC (Kd.aqN aW.z HB.z));(case au=>exact bh.z);rintro e y_ ⟨rfl,hb⟩;refine ⟨_,rfl,?_⟩;replace aa:=kB aa hb;replace HB:=bW hb)|(refine aqz (f:=102) rfl ?_;refine gC (some 12) Try.func102 #[.int .i64 a1] ?_;(with_reducible refine (arW.calls k a1 false _ A6.z).mono ?_);rintro e w' ⟨rfl,⟨nd,rfl⟩⟩;refine ⟨_,rfl,?_⟩))
  go_ret
  exact ⟨eR,bl⟩
 replace H:=iT H
 have H':=k0 H
 clear H
 go_enter Try.func55,Try.ntmps55
 go_wp2_with (first|(refine aqI (N:=3) rfl ?_;refine cz 3 #[.int .i64 ag,.slice az af.length ay] 26 bl ?_;intro aA w8 aa aqF HB;have aqR:=aqF;obtain ⟨_,_,_,_⟩:=aqA aa)|(refine aqz (f:=68) rfl ?_;refine gC (some 9) Try.func68 #[.agg #[.int .i64 ag,.slice az af.length ay]] ?_;(with_reducible refine (dB.calls k ag _ _ af true _ ?aq ?au A4.z).mono ?_);(case aq=>exact aC (Kd.aqN aW.z HB.z));(case au=>exact bh.z);rintro e jh ⟨rfl,hb⟩;refine ⟨_,rfl,?_⟩;replace aa:=kB aa hb;replace HB:=bW hb)|(refine aqz (f:=102) rfl ?_;refine gC (some 12) Try.func102 #[.int .i64 a1] ?_;(with_reducible refine (arW.calls k a1 true _ A6.z).mono ?_);rintro e w' ⟨rfl,⟨nd,rfl⟩⟩;refine ⟨_,rfl,?_⟩))
 go_loopg [7] k (fun kq v7 w'=>∃ (cQ:Int),v7=.int .i64 cQ∧ai (iO.l0 kq a1 l2 cQ=some r)∧ai (kq≤k)∧ai (w'.heap[aA]?=some (sO ag az af ay 26))∧ai (Below w.heap.size w w'))
 case atStart=>exact ⟨(0),rs,H',⟨Nat.le_refl _⟩,⟨bk⟩,⟨bl⟩⟩
 case round =>
  clear H'
  obtain ⟨cQ,rfl,HA,aI,aa,HB⟩:=hrel
  cases gk with
  | zero=>exact absurd HA.z (by simp [iO.l0])
  | succ k1 =>
   have H:=HA.z
   clear HA
   simp only [iO.l0] at H
   replace H:=iC H;obtain ⟨jy,H⟩|⟨jy,H⟩:=H
   case inl =>
    obtain rfl:=Option.some.inj H
    go_wp2
    go_ret
    exact ⟨eR,bl⟩
   replace H:=iS H;obtain ⟨c12,H⟩:=H
   have arN:=decide_eq_true c12
   clear c12
   replace H:=bS H;obtain ⟨t105,oI,H⟩:=H
   cases t105
   case false =>
    replace H:=iF H
    obtain rfl:=Option.some.inj H
    obtain ⟨dm,aqT⟩:=iN cQ (l2.length:Int)
    obtain ⟨jw,e104,dz⟩:=Kd.bM Qt.z cQ dm aqT
    cases e104
    replace dz:=hbc HB dz
    replace dm:=eT dm
    replace aqT:=eT aqT
    go_wp2_with (first|(refine aqz (f:=61) rfl ?_;refine gC (some 26) Try.func61 #[.int .i64 (rd l2 cQ),.int .i64 0,.int .i64 (wrap64 (a1 - 1))] ?_;(with_reducible refine (aq4.calls (rd l2 cQ) 0 (wrap64 (a1 - 1)) false _ oI.z).mono ?_);rintro e w' ⟨rfl,⟨nd,rfl⟩⟩;refine ⟨_,rfl,?_⟩))
    go_ret
    exact ⟨eR,bl⟩
   replace H:=iT H
   have H':=k0 H
   clear H
   obtain ⟨dm,aqT⟩:=iN cQ (l2.length:Int)
   obtain ⟨jw,e104,dz⟩:=Kd.bM Qt.z cQ dm aqT
   cases e104
   replace dz:=hbc HB dz
   replace dm:=eT dm
   replace aqT:=eT aqT
   go_wp2_with (first|(refine aqz (f:=61) rfl ?_;refine gC (some 26) Try.func61 #[.int .i64 (rd l2 cQ),.int .i64 0,.int .i64 (wrap64 (a1 - 1))] ?_;(with_reducible refine (aq4.calls (rd l2 cQ) 0 (wrap64 (a1 - 1)) true _ oI.z).mono ?_);rintro e w' ⟨rfl,⟨nd,rfl⟩⟩;refine ⟨_,rfl,?_⟩))
   go_roundg k1
   case measure=>have:=aI.z;omega
   case rel=>exact ⟨(wrap64 (cQ+1)),rs,H',⟨by have:=aI.z;omega⟩,⟨bk⟩,⟨bl⟩⟩
/-! ### F113: function 113 -/
def rS.f (ag:Int) (af:List (List Int)) (a1:Int):Option (Int × Int):=if 0≤(wrap64 (Int.tdiv a1 2)) then (if (wrap64 (Int.tdiv a1 2)) < (af.length:Int) then (if (Int.tmod a1 2)=1 then (if 1 < ((ah af (wrap64 (Int.tdiv a1 2))).length:Int) then (if 0 < ((ah af (wrap64 (Int.tdiv a1 2))).length:Int) then (some (rd (ah af (wrap64 (Int.tdiv a1 2))) 1,rd (ah af (wrap64 (Int.tdiv a1 2))) 0)) else (none)) else (none)) else (if 0 < ((ah af (wrap64 (Int.tdiv a1 2))).length:Int) then (if 1 < ((ah af (wrap64 (Int.tdiv a1 2))).length:Int) then (some (rd (ah af (wrap64 (Int.tdiv a1 2))) 0,rd (ah af (wrap64 (Int.tdiv a1 2))) 1)) else (none)) else (none))) else (none)) else (none)
theorem rS.calls (ag : Int) (az : Option Addr) (ay : Nat) (af : List (List Int)) (a1 : Int) (r1 : Int) (r2 : Int) (w : World) (aqO : Kd.C (Kd.slice 2 (Kd.int .i64)) w az af.length af) (bG : af.length ≤ ay) (h : rS.f ag af a1 = some (r1, r2)) :
  Calls Try.prog 113 #[.agg #[.int .i64 ag,.slice az af.length ay],.int .i64 a1] w fun e w'=>e=.returned (.tuple #[.int .i64 r1,.int .i64 r2])∧Below w.heap.size w w':=by
 have eE:=Try.underlying26
 have aW:=k0 aqO
 have bh:=k0 bG
 clear aqO bG
 have HB:=k0 (Below.refl w.heap.size w)
 unfold rS.f at h
 have H:=h
 clear h
 obtain ⟨bz,arv⟩:∃ j_:Int,(wrap64 (Int.tdiv a1 2))=j_:=⟨_,rfl⟩
 replace H:(if 0≤(bz) then (if (bz) < (af.length:Int) then (if (Int.tmod a1 2)=1 then (if 1 < ((ah af (bz)).length:Int) then (if 0 < ((ah af (bz)).length:Int) then (some (rd (ah af (bz)) 1,rd (ah af (bz)) 0)) else (none)) else (none)) else (if 0 < ((ah af (bz)).length:Int) then (if 1 < ((ah af (bz)).length:Int) then (some (rd (ah af (bz)) 0,rd (ah af (bz)) 1)) else (none)) else (none))) else (none)) else (none))=some (r1,r2):=by first|(rw [arv] at H;exact H)|(simp only [arv] at H ⊢;exact H)
 have MV:(IntKind.i64.wrap (Int.tdiv a1 2))=bz:=(bJ _).trans arv
 replace H:=iS H;obtain ⟨c4,H⟩:=H
 have ej:=decide_eq_true c4
 clear c4
 replace H:=iS H;obtain ⟨c5,H⟩:=H
 have gD:=decide_eq_true c5
 clear c5
 replace H:=iE H;obtain ⟨c6,fN,lJ,H⟩|⟨fN,lJ,H⟩:=H
 case inl =>
  replace H:=iS H;obtain ⟨c11,H⟩:=H
  have jy:=decide_eq_true c11
  have vO:decide (0 < (ah af (bz)).length)=true:=decide_eq_true (by omega)
  clear c11
  replace H:=iS H;obtain ⟨c12,H⟩:=H
  have arN:=decide_eq_true c12
  have zW:decide (1 < (ah af (bz)).length)=true:=decide_eq_true (by omega)
  clear c12
  simp only [Option.some.injEq,Prod.mk.injEq] at H
  obtain ⟨rfl,rfl⟩:=H
  go_enter Try.func113,Try.ntmps113
  go_wp2_with (first|(refine aqI (N:=2) rfl ?_;refine cz 2 #[.int .i64 ag,.slice az af.length ay] 26 bl ?_;intro aA oC aa aqF HB;have aqR:=aqF;obtain ⟨Ud,Ue,Uo,Up⟩:=aqA aa;have cT:0≤((bz):Int):=oD;have cU:(bz) < (af.length:Int):=oD;obtain ⟨nZ,asa,s9,e102,fB,aq8,gj⟩:=cD aW.z (bz) cT cU;cases e102;replace fB:=hbc HB fB;have gb:=k0 gj;have nU:=k0 aq8;clear gj aq8;replace cT:=eT cT;replace cU:=eT cU;have fZ:0≤(0:Int):=(by omega);have f_:0 < ((ah af (bz)).length:Int):=oD;obtain ⟨oY,e105,fJ⟩:=Kd.bM gb.z 0 fZ f_;cases e105;have CO:(0 < (ah af (bz)).length)=True:=eq_true (by omega);(try rw [show ((0:Int)).toNat=0 from rfl] at fJ);(try rw [Addr.add_zero'] at fJ);replace fJ:=hbc HB fJ;replace fZ:=eT fZ;replace f_:=eT f_;have gQ:0≤(1:Int):=(by omega);have aq_:1 < ((ah af (bz)).length:Int):=oD;obtain ⟨ar8,e106,gV⟩:=Kd.bM gb.z 1 gQ aq_;obtain rfl:oY=ar8:=(by injection e106);(try simp only [show (1:Int).toNat=1 from rfl,Nat.reduceMul,Nat.reduceEqDiff,Go.Addr.add,↓reduceIte] at gV);have FU:(1 < (ah af (bz)).length)=True:=eq_true (by omega);(try rw [show ((1:Int)).toNat=1 from rfl] at gV);replace gV:=hbc HB gV;replace gQ:=eT gQ;replace aq_:=eT aq_))
  repeat (go_quiet (first|(refine aqI (N:=2) rfl ?_;refine cz 2 #[.int .i64 ag,.slice az af.length ay] 26 bl ?_;intro aA oC aa aqF HB;have aqR:=aqF;obtain ⟨Ud,Ue,Uo,Up⟩:=aqA aa;have cT:0≤((bz):Int):=oD;have cU:(bz) < (af.length:Int):=oD;obtain ⟨nZ,asa,s9,e102,fB,aq8,gj⟩:=cD aW.z (bz) cT cU;cases e102;replace fB:=hbc HB fB;have gb:=k0 gj;have nU:=k0 aq8;clear gj aq8;replace cT:=eT cT;replace cU:=eT cU;have fZ:0≤(0:Int):=(by omega);have f_:0 < ((ah af (bz)).length:Int):=oD;obtain ⟨oY,e105,fJ⟩:=Kd.bM gb.z 0 fZ f_;cases e105;have CO:(0 < (ah af (bz)).length)=True:=eq_true (by omega);(try rw [show ((0:Int)).toNat=0 from rfl] at fJ);(try rw [Addr.add_zero'] at fJ);replace fJ:=hbc HB fJ;replace fZ:=eT fZ;replace f_:=eT f_;have gQ:0≤(1:Int):=(by omega);have aq_:1 < ((ah af (bz)).length:Int):=oD;obtain ⟨ar8,e106,gV⟩:=Kd.bM gb.z 1 gQ aq_;obtain rfl:oY=ar8:=(by injection e106);(try simp only [show (1:Int).toNat=1 from rfl,Nat.reduceMul,Nat.reduceEqDiff,Go.Addr.add,↓reduceIte] at gV);have FU:(1 < (ah af (bz)).length)=True:=eq_true (by omega);(try rw [show ((1:Int)).toNat=1 from rfl] at gV);replace gV:=hbc HB gV;replace gQ:=eT gQ;replace aq_:=eT aq_));try go_wp2_with (first|(refine aqI (N:=2) rfl ?_;refine cz 2 #[.int .i64 ag,.slice az af.length ay] 26 bl ?_;intro aA oC aa aqF HB;have aqR:=aqF;obtain ⟨Ud,Ue,Uo,Up⟩:=aqA aa;have cT:0≤((bz):Int):=oD;have cU:(bz) < (af.length:Int):=oD;obtain ⟨nZ,asa,s9,e102,fB,aq8,gj⟩:=cD aW.z (bz) cT cU;cases e102;replace fB:=hbc HB fB;have gb:=k0 gj;have nU:=k0 aq8;clear gj aq8;replace cT:=eT cT;replace cU:=eT cU;have fZ:0≤(0:Int):=(by omega);have f_:0 < ((ah af (bz)).length:Int):=oD;obtain ⟨oY,e105,fJ⟩:=Kd.bM gb.z 0 fZ f_;cases e105;have CO:(0 < (ah af (bz)).length)=True:=eq_true (by omega);(try rw [show ((0:Int)).toNat=0 from rfl] at fJ);(try rw [Addr.add_zero'] at fJ);replace fJ:=hbc HB fJ;replace fZ:=eT fZ;replace f_:=eT f_;have gQ:0≤(1:Int):=(by omega);have aq_:1 < ((ah af (bz)).length:Int):=oD;obtain ⟨ar8,e106,gV⟩:=Kd.bM gb.z 1 gQ aq_;obtain rfl:oY=ar8:=(by injection e106);(try simp only [show (1:Int).toNat=1 from rfl,Nat.reduceMul,Nat.reduceEqDiff,Go.Addr.add,↓reduceIte] at gV);have FU:(1 < (ah af (bz)).length)=True:=eq_true (by omega);(try rw [show ((1:Int)).toNat=1 from rfl] at gV);replace gV:=hbc HB gV;replace gQ:=eT gQ;replace aq_:=eT aq_)))
  go_ret2
  exact ⟨by first|rfl|(simp [ic,ie]<;>rfl)|(simp only [← arv];first|rfl|(simp [ic,ie]<;>rfl))|(simp [*,ic,ie]<;>rfl),bl⟩
 replace H:=iS H;obtain ⟨c7,H⟩:=H
 have l8:=decide_eq_true c7
 have rD:decide (1 < (ah af (bz)).length)=true:=decide_eq_true (by omega)
 clear c7
 replace H:=iS H;obtain ⟨c8,H⟩:=H
 have r7:=decide_eq_true c8
 have wN:decide (0 < (ah af (bz)).length)=true:=decide_eq_true (by omega)
 clear c8
 simp only [Option.some.injEq,Prod.mk.injEq] at H
 obtain ⟨rfl,rfl⟩:=H
 go_enter Try.func113,Try.ntmps113
 go_wp2_with (first|(refine aqI (N:=2) rfl ?_;refine cz 2 #[.int .i64 ag,.slice az af.length ay] 26 bl ?_;intro aA w9 aa aqF HB;have aqR:=aqF;obtain ⟨T_,Ua,Uk,Ul⟩:=aqA aa;have cT:0≤((bz):Int):=oD;have cU:(bz) < (af.length:Int):=oD;obtain ⟨nZ,asa,s9,e102,fB,aq8,gj⟩:=cD aW.z (bz) cT cU;cases e102;replace fB:=hbc HB fB;have gb:=k0 gj;have nU:=k0 aq8;clear gj aq8;replace cT:=eT cT;replace cU:=eT cU;have di:0≤(1:Int):=(by omega);have dn:1 < ((ah af (bz)).length:Int):=oD;obtain ⟨jK,e103,dH⟩:=Kd.bM gb.z 1 di dn;cases e103;(try simp only [show (1:Int).toNat=1 from rfl,Nat.reduceMul,Nat.reduceEqDiff,Go.Addr.add,↓reduceIte] at dH);have Wx:(1 < (ah af (bz)).length)=True:=eq_true (by omega);(try rw [show ((1:Int)).toNat=1 from rfl] at dH);replace dH:=hbc HB dH;replace di:=eT di;replace dn:=eT dn;have dm:0≤(0:Int):=(by omega);have aqT:0 < ((ah af (bz)).length:Int):=oD;obtain ⟨jw,e104,dz⟩:=Kd.bM gb.z 0 dm aqT;obtain rfl:jK=jw:=(by injection e104);have FT:(0 < (ah af (bz)).length)=True:=eq_true (by omega);(try rw [show ((0:Int)).toNat=0 from rfl] at dz);(try rw [Addr.add_zero'] at dz);replace dz:=hbc HB dz;replace dm:=eT dm;replace aqT:=eT aqT))
 repeat (go_quiet (first|(refine aqI (N:=2) rfl ?_;refine cz 2 #[.int .i64 ag,.slice az af.length ay] 26 bl ?_;intro aA w9 aa aqF HB;have aqR:=aqF;obtain ⟨T_,Ua,Uk,Ul⟩:=aqA aa;have cT:0≤((bz):Int):=oD;have cU:(bz) < (af.length:Int):=oD;obtain ⟨nZ,asa,s9,e102,fB,aq8,gj⟩:=cD aW.z (bz) cT cU;cases e102;replace fB:=hbc HB fB;have gb:=k0 gj;have nU:=k0 aq8;clear gj aq8;replace cT:=eT cT;replace cU:=eT cU;have di:0≤(1:Int):=(by omega);have dn:1 < ((ah af (bz)).length:Int):=oD;obtain ⟨jK,e103,dH⟩:=Kd.bM gb.z 1 di dn;cases e103;(try simp only [show (1:Int).toNat=1 from rfl,Nat.reduceMul,Nat.reduceEqDiff,Go.Addr.add,↓reduceIte] at dH);have Wx:(1 < (ah af (bz)).length)=True:=eq_true (by omega);(try rw [show ((1:Int)).toNat=1 from rfl] at dH);replace dH:=hbc HB dH;replace di:=eT di;replace dn:=eT dn;have dm:0≤(0:Int):=(by omega);have aqT:0 < ((ah af (bz)).length:Int):=oD;obtain ⟨jw,e104,dz⟩:=Kd.bM gb.z 0 dm aqT;obtain rfl:jK=jw:=(by injection e104);have FT:(0 < (ah af (bz)).length)=True:=eq_true (by omega);(try rw [show ((0:Int)).toNat=0 from rfl] at dz);(try rw [Addr.add_zero'] at dz);replace dz:=hbc HB dz;replace dm:=eT dm;replace aqT:=eT aqT));try go_wp2_with (first|(refine aqI (N:=2) rfl ?_;refine cz 2 #[.int .i64 ag,.slice az af.length ay] 26 bl ?_;intro aA w9 aa aqF HB;have aqR:=aqF;obtain ⟨T_,Ua,Uk,Ul⟩:=aqA aa;have cT:0≤((bz):Int):=oD;have cU:(bz) < (af.length:Int):=oD;obtain ⟨nZ,asa,s9,e102,fB,aq8,gj⟩:=cD aW.z (bz) cT cU;cases e102;replace fB:=hbc HB fB;have gb:=k0 gj;have nU:=k0 aq8;clear gj aq8;replace cT:=eT cT;replace cU:=eT cU;have di:0≤(1:Int):=(by omega);have dn:1 < ((ah af (bz)).length:Int):=oD;obtain ⟨jK,e103,dH⟩:=Kd.bM gb.z 1 di dn;cases e103;(try simp only [show (1:Int).toNat=1 from rfl,Nat.reduceMul,Nat.reduceEqDiff,Go.Addr.add,↓reduceIte] at dH);have Wx:(1 < (ah af (bz)).length)=True:=eq_true (by omega);(try rw [show ((1:Int)).toNat=1 from rfl] at dH);replace dH:=hbc HB dH;replace di:=eT di;replace dn:=eT dn;have dm:0≤(0:Int):=(by omega);have aqT:0 < ((ah af (bz)).length:Int):=oD;obtain ⟨jw,e104,dz⟩:=Kd.bM gb.z 0 dm aqT;obtain rfl:jK=jw:=(by injection e104);have FT:(0 < (ah af (bz)).length)=True:=eq_true (by omega);(try rw [show ((0:Int)).toNat=0 from rfl] at dz);(try rw [Addr.add_zero'] at dz);replace dz:=hbc HB dz;replace dm:=eT dm;replace aqT:=eT aqT)))
 go_ret2
 exact ⟨by first|rfl|(simp [ic,ie]<;>rfl)|(simp only [← arv];first|rfl|(simp [ic,ie]<;>rfl))|(simp [*,ic,ie]<;>rfl),bl⟩
/-! ### F74: function 74 -/
def tW.f (ag:Int) (af:List (List Int)) (a1:Int) (a2:Int):Option (Bool):=(rS.f ag af a1).bind fun cN=>((rS.f ag af a2).bind fun Lp=>(if cN.2=Lp.1 then (if (wrap64 (Int.tdiv a1 2))=(wrap64 (Int.tdiv a2 2)) then (some (a1 == a2)) else (some true)) else (some false)))
theorem tW.calls (ag : Int) (az : Option Addr) (ay : Nat) (af : List (List Int)) (a1 : Int) (a2 : Int) (r : Bool) (w : World) (aqO : Kd.C (Kd.slice 2 (Kd.int .i64)) w az af.length af) (bG : af.length ≤ ay) (h : tW.f ag af a1 a2 = some r) :
  Calls Try.prog 74 #[.agg #[.int .i64 ag,.slice az af.length ay],.int .i64 a1,.int .i64 a2] w fun e w'=>e=.returned (.bool r)∧Below w.heap.size w w':=by
 have eE:=Try.underlying26
 have aW:=k0 aqO
 have bh:=k0 bG
 clear aqO bG
 have HB:=k0 (Below.refl w.heap.size w)
 unfold tW.f at h
 have H:=h
 clear h
 replace H:=bS H;obtain ⟨⟨t102,t103⟩,A4,H⟩:=H
 dsimp only at H
 replace H:=bS H;obtain ⟨⟨t104,t105⟩,A5,H⟩:=H
 dsimp only at H
 replace H:=iE H;obtain ⟨c6,fN,lJ,H⟩|⟨fN,lJ,H⟩:=H
 case inl =>
  obtain rfl:=Option.some.inj H
  go_enter Try.func74,Try.ntmps74
  go_wp2_with (first|(refine aqI (N:=3) rfl ?_;refine cz 3 #[.int .i64 ag,.slice az af.length ay] 26 bl ?_;intro aA tO aa aqF HB;have aqR:=aqF;obtain ⟨_,_,_,_⟩:=aqA aa)|(refine aqz (f:=113) rfl ?_;refine gC (some 14) Try.func113 #[.agg #[.int .i64 ag,.slice az af.length ay],.int .i64 a1] ?_;(with_reducible refine (rS.calls ag _ _ af a1 t102 t103 _ ?aq ?au A4.z).mono ?_);(case aq=>exact aC (Kd.aqN aW.z HB.z));(case au=>exact bh.z);rintro e wm ⟨rfl,hb⟩;refine ⟨_,rfl,?_⟩;replace aa:=kB aa hb;replace HB:=bW hb;obtain ⟨_,_,_,_⟩:=aqA aa)|(refine aqz (f:=113) rfl ?_;refine gC (some 20) Try.func113 #[.agg #[.int .i64 ag,.slice az af.length ay],.int .i64 a2] ?_;(with_reducible refine (rS.calls ag _ _ af a2 t104 t105 _ ?aq ?au A5.z).mono ?_);(case aq=>exact aC (Kd.aqN aW.z HB.z));(case au=>exact bh.z);rintro e nN ⟨rfl,hb⟩;refine ⟨_,rfl,?_⟩;replace aa:=kB aa hb;replace HB:=bW hb))
  go_ret
  exact ⟨eR,bl⟩
 replace H:=iE H;obtain ⟨c7,l8,rD,H⟩|⟨l8,rD,H⟩:=H
 case inl =>
  obtain rfl:=Option.some.inj H
  go_enter Try.func74,Try.ntmps74
  go_wp2_with (first|(refine aqI (N:=3) rfl ?_;refine cz 3 #[.int .i64 ag,.slice az af.length ay] 26 bl ?_;intro aA oC aa aqF HB;have aqR:=aqF;obtain ⟨_,_,_,_⟩:=aqA aa)|(refine aqz (f:=113) rfl ?_;refine gC (some 14) Try.func113 #[.agg #[.int .i64 ag,.slice az af.length ay],.int .i64 a1] ?_;(with_reducible refine (rS.calls ag _ _ af a1 t102 t103 _ ?aq ?au A4.z).mono ?_);(case aq=>exact aC (Kd.aqN aW.z HB.z));(case au=>exact bh.z);rintro e pH ⟨rfl,hb⟩;refine ⟨_,rfl,?_⟩;replace aa:=kB aa hb;replace HB:=bW hb;obtain ⟨_,_,_,_⟩:=aqA aa)|(refine aqz (f:=113) rfl ?_;refine gC (some 20) Try.func113 #[.agg #[.int .i64 ag,.slice az af.length ay],.int .i64 a2] ?_;(with_reducible refine (rS.calls ag _ _ af a2 t104 t105 _ ?aq ?au A5.z).mono ?_);(case aq=>exact aC (Kd.aqN aW.z HB.z));(case au=>exact bh.z);rintro e y_ ⟨rfl,hb⟩;refine ⟨_,rfl,?_⟩;replace aa:=kB aa hb;replace HB:=bW hb))
  go_ret
  exact ⟨eR,bl⟩
 obtain rfl:=Option.some.inj H
 go_enter Try.func74,Try.ntmps74
 go_wp2_with (first|(refine aqI (N:=3) rfl ?_;refine cz 3 #[.int .i64 ag,.slice az af.length ay] 26 bl ?_;intro aA w8 aa aqF HB;have aqR:=aqF;obtain ⟨_,_,_,_⟩:=aqA aa)|(refine aqz (f:=113) rfl ?_;refine gC (some 14) Try.func113 #[.agg #[.int .i64 ag,.slice az af.length ay],.int .i64 a1] ?_;(with_reducible refine (rS.calls ag _ _ af a1 t102 t103 _ ?aq ?au A4.z).mono ?_);(case aq=>exact aC (Kd.aqN aW.z HB.z));(case au=>exact bh.z);rintro e jh ⟨rfl,hb⟩;refine ⟨_,rfl,?_⟩;replace aa:=kB aa hb;replace HB:=bW hb;obtain ⟨_,_,_,_⟩:=aqA aa)|(refine aqz (f:=113) rfl ?_;refine gC (some 20) Try.func113 #[.agg #[.int .i64 ag,.slice az af.length ay],.int .i64 a2] ?_;(with_reducible refine (rS.calls ag _ _ af a2 t104 t105 _ ?aq ?au A5.z).mono ?_);(case aq=>exact aC (Kd.aqN aW.z HB.z));(case au=>exact bh.z);rintro e oB ⟨rfl,hb⟩;refine ⟨_,rfl,?_⟩;replace aa:=kB aa hb;replace HB:=bW hb))
 go_ret
 exact ⟨eR,bl⟩
end Go.Proofs.Ytapnggjaeehpdaa.A
/- Set with little white space, by a program. -/
