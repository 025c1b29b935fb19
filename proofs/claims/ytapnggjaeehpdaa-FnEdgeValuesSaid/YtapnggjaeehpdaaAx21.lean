/- The functions that one law reaches, each as a Lean function, and that Go's call comes to what it says. Condition of each: that the Lean function answers (is not none). -/
import Derived.Test.YtapnggjaeehpdaaAx0
import Derived.Test.YtapnggjaeehpdaaAx2
import Derived.Test.YtapnggjaeehpdaaAx3
import Derived.Test.YtapnggjaeehpdaaAx9
namespace Go.Proofs.Ytapnggjaeehpdaa.A
open Go.RowKit Go.Proofs.bB.dI Go.Proofs.bB.ark Go.Proofs.bB.jd
attribute [local go_sem] max2_int min2_int max_two min_two max_three min_three max_four min_four   -- for this text's walks alone
set_option linter.unusedVariables false
set_option linter.unusedSimpArgs false
/-! ### F31: function 31 -/
def nc.l0 : Nat → Int → List Int → Int → Int → List (List Int) → Option (List Int × Int)
 | 0,_,_,_,_,_=>none
 | k+1,x1,x6,x7,dx,cF=>if x7 < (wrap64 (2 * (cF.length:Int))) then ((tW.f dx cF x1 x7).bind fun t107=>(if t107=true then (if x6.length < 17592186044416 then (nc.l0 k x1 (x6 ++ [x7]) (wrap64 (x7+1)) dx cF) else (none)) else (nc.l0 k x1 x6 (wrap64 (x7+1)) dx cF))) else (some (x6,0))
def nc.f (k:Nat) (ag:Int) (af:List (List Int)) (a1:Int):Option (List Int × Int):=(dB.f k ag af).bind fun t102=>(if t102=true then ((aq4.f a1 0 (wrap64 ((wrap64 (2 * (af.length:Int))) - 1))).bind fun t103=>(if t103=true then (nc.l0 k a1 (([]:List Int)) 0 ag af) else (some (([]:List Int),2)))) else (some (([]:List Int),1)))
set_option maxHeartbeats 8000000 in
set_option maxRecDepth 100000 in
theorem nc.calls (k : Nat) (ag : Int) (az : Option Addr) (ay : Nat) (af : List (List Int)) (a1 : Int) (r1 : List Int) (r2 : Int) (w : World) (aqO : Kd.C (Kd.slice 2 (Kd.int .i64)) w az af.length af) (bG : af.length ≤ ay) (h : nc.f k ag af a1 = some (r1, r2)) :
  Calls Try.prog 31 #[.agg #[.int .i64 ag,.slice az af.length ay],.int .i64 a1] w fun e w'=>∃ cR:Value,e=.returned (.tuple #[cR,.int .i64 r2])∧Kd.R (Kd.int .i64) 2 w' w.heap.size (fun _=>True) cR r1∧Below w.heap.size w w':=by
 have eE:=Try.underlying26
 have aW:=k0 aqO
 have bh:=k0 bG
 clear aqO bG
 have HB:=k0 (Below.refl w.heap.size w)
 unfold nc.f at h
 have H:=h
 clear h
 replace H:=bS H;obtain ⟨t102,A3,H⟩:=H
 cases t102
 case false =>
  replace H:=iF H
  simp only [Option.some.injEq,Prod.mk.injEq] at H
  obtain ⟨rfl,rfl⟩:=H
  go_enter Try.func31,Try.ntmps31
  go_wp2_with (first|(refine aqI (N:=2) rfl ?_;refine cz 2 #[.int .i64 ag,.slice az af.length ay] 26 bl ?_;intro aA rL aa aqF HB;have aqR:=aqF;obtain ⟨_,_,_,_⟩:=aqA aa)|(refine aqz (f:=68) rfl ?_;refine gC (some 10) Try.func68 #[.agg #[.int .i64 ag,.slice az af.length ay]] ?_;(with_reducible refine (dB.calls k ag _ _ af false _ ?aq ?au A3.z).mono ?_);(case aq=>exact aC (Kd.aqN aW.z HB.z));(case au=>exact bh.z);rintro e zb ⟨rfl,hb⟩;refine ⟨_,rfl,?_⟩;replace aa:=kB aa hb;replace HB:=bW hb))
  go_ret2
  exact ⟨_,eR,by first|exact Kd.p6 _ _ _ _ _|exact Kd.sX _ _ _ _ _|exact Kd.s6 _ _ _ _ _|exact Kd.sZ _ _ _ _ _|exact Kd.ase _ _ _ _ _,bl⟩
 replace H:=iT H
 replace H:=bS H;obtain ⟨t103,A5,H⟩:=H
 cases t103
 case false =>
  replace H:=iF H
  simp only [Option.some.injEq,Prod.mk.injEq] at H
  obtain ⟨rfl,rfl⟩:=H
  go_enter Try.func31,Try.ntmps31
  go_wp2_with (first|(refine aqI (N:=2) rfl ?_;refine cz 2 #[.int .i64 ag,.slice az af.length ay] 26 bl ?_;intro aA asy aa aqF HB;have aqR:=aqF;obtain ⟨_,_,_,_⟩:=aqA aa)|(refine aqz (f:=68) rfl ?_;refine gC (some 10) Try.func68 #[.agg #[.int .i64 ag,.slice az af.length ay]] ?_;(with_reducible refine (dB.calls k ag _ _ af true _ ?aq ?au A3.z).mono ?_);(case aq=>exact aC (Kd.aqN aW.z HB.z));(case au=>exact bh.z);rintro e Xa ⟨rfl,hb⟩;refine ⟨_,rfl,?_⟩;replace aa:=kB aa hb;replace HB:=bW hb;obtain ⟨_,_,_,_⟩:=aqA aa)|(refine aqz (f:=61) rfl ?_;refine gC (some 19) Try.func61 #[.int .i64 a1,.int .i64 0,.int .i64 (wrap64 ((wrap64 (2 * (af.length:Int))) - 1))] ?_;(with_reducible refine (aq4.calls a1 0 (wrap64 ((wrap64 (2 * (af.length:Int))) - 1)) false _ A5.z).mono ?_);rintro e w' ⟨rfl,⟨nd,rfl⟩⟩;refine ⟨_,rfl,?_⟩))
  go_ret2
  exact ⟨_,eR,by first|exact Kd.p6 _ _ _ _ _|exact Kd.sX _ _ _ _ _|exact Kd.s6 _ _ _ _ _|exact Kd.sZ _ _ _ _ _|exact Kd.ase _ _ _ _ _,bl⟩
 replace H:=iT H
 obtain ⟨kI,jW⟩:=nY (([]:List Int):List Int)
 replace H:(nc.l0 k a1 kI 0 ag af)=some (r1,r2):=rH jW.z H
 have H':=k0 H
 clear H
 go_enter Try.func31,Try.ntmps31
 go_wp2_with (first|(refine aqI (N:=2) rfl ?_;refine cz 2 #[.int .i64 ag,.slice az af.length ay] 26 bl ?_;intro aA w7 aa aqF HB;have aqR:=aqF;obtain ⟨_,_,_,_⟩:=aqA aa)|(refine aqz (f:=68) rfl ?_;refine gC (some 10) Try.func68 #[.agg #[.int .i64 ag,.slice az af.length ay]] ?_;(with_reducible refine (dB.calls k ag _ _ af true _ ?aq ?au A3.z).mono ?_);(case aq=>exact aC (Kd.aqN aW.z HB.z));(case au=>exact bh.z);rintro e w9 ⟨rfl,hb⟩;refine ⟨_,rfl,?_⟩;replace aa:=kB aa hb;replace HB:=bW hb;obtain ⟨_,_,_,_⟩:=aqA aa)|(refine aqz (f:=61) rfl ?_;refine gC (some 19) Try.func61 #[.int .i64 a1,.int .i64 0,.int .i64 (wrap64 ((wrap64 (2 * (af.length:Int))) - 1))] ?_;(with_reducible refine (aq4.calls a1 0 (wrap64 ((wrap64 (2 * (af.length:Int))) - 1)) true _ A5.z).mono ?_);rintro e w' ⟨rfl,⟨nd,rfl⟩⟩;refine ⟨_,rfl,?_⟩)|(refine aqI (N:=21) rfl ?_;refine Kd.gw (Kd.int .i64) _ 2 ?hg (N:=21) ?hd (xs:=([]:List Int)) (inner:=[]) (ok:=fun _=>True) (bw:=fun _=>True) ?hr ?hp (fun _ hk=>hk) trivial (Below.refl _ _) (Nat.le_refl _) (by simp) ?_;(case hd=>rfl);(case hg=>rfl);(case hr=>first|(go_simp;done)|(go_simp;rfl));(case hp=>exact (aH.none _ _));intro wj y9 uR hb bH bI;clear bH bI;(first|rw [← jW.z] at uR|(simp only [Int.reduceToNat] at uR;rw [← jW.z] at uR));have fF:=k0 (Kd.cA uR (aqG bl));replace aa:=kB aa hb;replace HB:=bW hb;clear hb uR))
 go_loopg [6,7] k (fun kq v6 v7 w'=>∃ (fD:List Int) (cQ:Int),v7=.int .i64 cQ∧ai (nc.l0 kq a1 fD cQ ag af=some (r1,r2))∧ai (kq≤k)∧ai (Kd.R (Kd.int .i64) 2 w' w.heap.size (fun _=>True) v6 fD)∧ai (w'.heap[aA]?=some (sO ag az af ay 26))∧ai (Below w.heap.size w w'))
 case atStart=>exact ⟨(kI),(0),rs,H',⟨Nat.le_refl _⟩,⟨aR (fF.z)⟩,⟨bk⟩,⟨bl⟩⟩
 case round =>
  clear H'
  obtain ⟨fD,cQ,rfl,HA,aI,cn,aa,HB⟩:=hrel
  cases gk with
  | zero=>exact absurd HA.z (by simp [nc.l0])
  | succ k1 =>
   have H:=HA.z
   clear HA
   simp only [nc.l0] at H
   replace H:=iC H;obtain ⟨arT,H⟩|⟨arT,H⟩:=H
   case inl =>
    simp only [Option.some.injEq,Prod.mk.injEq] at H
    obtain ⟨rfl,rfl⟩:=H
    obtain ⟨_,_,_,_⟩:=aqA aa
    go_wp2
    go_ret2
    exact ⟨_,eR,aR cn.z,bl⟩
   replace H:=bS H;obtain ⟨t107,wq,H⟩:=H
   cases t107
   case false =>
    replace H:=iF H
    have H':=k0 H
    clear H
    obtain ⟨_,_,_,_⟩:=aqA aa
    go_wp2_with (first|(refine aqz (f:=74) rfl ?_;refine gC (some 33) Try.func74 #[.agg #[.int .i64 ag,.slice az af.length ay],.int .i64 a1,.int .i64 cQ] ?_;(with_reducible refine (tW.calls ag _ _ af a1 cQ false _ ?aq ?au wq.z).mono ?_);(case aq=>exact aC (Kd.aqN aW.z HB.z));(case au=>exact bh.z);rintro e vw ⟨rfl,hb⟩;refine ⟨_,rfl,?_⟩;replace cn:=eC cn hb;replace aa:=kB aa hb;replace HB:=bW hb))
    go_roundg k1
    case measure=>have:=aI.z;omega
    case rel=>exact ⟨(fD),(wrap64 (cQ+1)),rs,H',⟨by have:=aI.z;omega⟩,⟨aR (cn.z)⟩,⟨bk⟩,⟨bl⟩⟩
   replace H:=iT H
   replace H:=iS H;obtain ⟨c16,H⟩:=H
   have wE:=k0 c16
   clear c16
   obtain ⟨pL,vL⟩:=nY (fD ++ [cQ]:List Int)
   replace H:(nc.l0 k1 a1 pL (wrap64 (cQ+1)) ag af)=some (r1,r2):=rH vL.z H
   have H':=k0 H
   clear H
   obtain ⟨_,_,_,_⟩:=aqA aa
   go_wp2_with (first|(refine aqz (f:=74) rfl ?_;refine gC (some 33) Try.func74 #[.agg #[.int .i64 ag,.slice az af.length ay],.int .i64 a1,.int .i64 cQ] ?_;(with_reducible refine (tW.calls ag _ _ af a1 cQ true _ ?aq ?au wq.z).mono ?_);(case aq=>exact aC (Kd.aqN aW.z HB.z));(case au=>exact bh.z);rintro e tO ⟨rfl,hb⟩;refine ⟨_,rfl,?_⟩;replace cn:=eC cn hb;replace aa:=kB aa hb;replace HB:=bW hb)|((with_reducible refine ars (b:=.append) (xs:=#[.tmp 34,.tmp 36]) rfl ?_);at_builtin;refine Kd.asb (Kd.int .i64) (w0:=w) w.heap.size rfl (.tmp 34) (.tmp 36) 29 2 (.int .i64 0) 8 rfl Try.underlying29 lS rfl (by decide) (by omega) u6 fD cQ [.int .i64 cQ] (fun _=>True) (fun _=>False) rfl rfl ?aP (fun _ hk=>hk.elim) ?aF ?aO ?aB ?aS ?aL ?_;(case aP=>exact rfl);(case aB=>exact bl);(case aF=>exact (fun _ _=>trivial));(case aO=>exact (aR cn.z));(case aS=>exact (aqG bl));(case aL=>have:=wE.out;omega);intro ar1 asR ho hb hg bg;rw [← vL.z] at ho;replace aa:=k0 (aq2 (aB aa.z) hg (Kd.aro cn.z aa.z (by decide)));replace HB:=k0 (hb);have kN:=k0 (ho);clear cn;clear ho hb hg bg))
   go_roundg k1
   case measure=>have:=aI.z;omega
   case rel=>exact ⟨(pL),(wrap64 (cQ+1)),rs,H',⟨by have:=aI.z;omega⟩,⟨aR (kN.z)⟩,⟨bk⟩,⟨bl⟩⟩
end Go.Proofs.Ytapnggjaeehpdaa.A
/- Set with little white space, by a program. -/
