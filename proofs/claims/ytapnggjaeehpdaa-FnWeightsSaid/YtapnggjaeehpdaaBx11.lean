/- Go's calls come to what the Lean functions say. Condition of each: that the Lean function answers. -/
import Derived.Test.YtapnggjaeehpdaaBx0
import Derived.Test.YtapnggjaeehpdaaBx8
import Derived.Test.YtapnggjaeehpdaaBx9
import Derived.Test.YtapnggjaeehpdaaBx10
namespace Go.Proofs.Ytapnggjaeehpdaa.B
open Go.RowKit Go.Proofs.bz.dI Go.Proofs.bz.iY Go.Proofs.bz.jn
attribute [local go_sem] max2_int min2_int max_two min_two max_three min_three max_four min_four
set_option linter.unusedVariables false
set_option linter.unusedSimpArgs false
/-! ### F79: function 79 -/
mutual
def cE.l0 : Nat → Int → List (List Int) → List (List Int) → Int → Int → Option (List Int)
 | 0,_,_,_,_,_=>none
 | k+1,x1,x5,x6,atl,jz=>if jz < atl then (if 0≤jz then (if jz < (x6.length:Int) then ((ue.f (ai x6 jz)).bind fun t115=>(if t115.length < 17592186044416 then (cE.l1 k x1 x5 x6 jz (t115 ++ [0]) atl jz ((ai x6 jz).length:Int) 0) else (none))) else (none)) else (none)) else (if 0≤(x5.length:Int) then (if (x5.length:Int) < (x6.length:Int) then ((nv.f k (ai x6 (x5.length:Int))).bind fun t111=>(some t111)) else (none)) else (none))
def cE.l1 : Nat → Int → List (List Int) → List (List Int) → Int → List Int → Int → Int → Int → Int → Option (List Int)
 | 0,_,_,_,_,_,_,_,_,_=>none
 | k+1,x1,x5,x6,x7,x8,atl,jz,au9,zJ=>if zJ < au9 then (if 0≤zJ then (if zJ < ((ai x6 x7).length:Int) then (if 0≤(wrap64 (zJ+1)) then (if (wrap64 (zJ+1)) < (x8.length:Int) then (if 0≤x7 then (if x7 < (x5.length:Int) then (if x7 < ((ai x5 x7).length:Int) then ((nZ.f (wrap64 ((rd x8 (wrap64 (zJ+1))) - (wrap64 ((rd (ai x5 x7) x7) * (rd (ai x6 x7) zJ))))) x1).bind fun t127=>(cE.l1 k x1 x5 x6 x7 (x8.set ((wrap64 (zJ+1)):Int).toNat t127) atl jz au9 (wrap64 (zJ+1)))) else (none)) else (none)) else (none)) else (none)) else (none)) else (none)) else (none)) else (cE.l2 k x1 x5 x6 x7 x8 1 (wrap64 (x7 - 1)) atl jz)
def cE.l2 : Nat → Int → List (List Int) → List (List Int) → Int → List Int → Int → Int → Int → Int → Option (List Int)
 | 0,_,_,_,_,_,_,_,_,_=>none
 | k+1,x1,x5,x6,x7,x8,atx,bA,atl,jz=>if bA ≥ 0 then (if 0≤(wrap64 (bA+1)) then (if (wrap64 (bA+1)) < (x5.length:Int) then (if 0≤bA then (if bA < ((ai x5 (wrap64 (bA+1))).length:Int) then (if x1=0 then (none) else (if bA < (x6.length:Int) then (cE.l3 k x1 x5 x6 x7 x8 (Int.tmod (wrap64 (atx * (rd (ai x5 (wrap64 (bA+1))) bA))) x1) bA atl jz ((ai x6 bA).length:Int) 0) else (none))) else (none)) else (none)) else (none)) else (none)) else (if x6.length < 5864062014805 then (cE.l0 k x1 x5 (x6 ++ [x8]) atl (wrap64 (jz+1))) else (none))
def cE.l3 : Nat → Int → List (List Int) → List (List Int) → Int → List Int → Int → Int → Int → Int → Int → Int → Option (List Int)
 | 0,_,_,_,_,_,_,_,_,_,_,_=>none
 | k+1,x1,x5,x6,x7,x8,atx,bA,atl,jz,Z2,zK=>if zK < Z2 then (if 0≤zK then (if zK < ((ai x6 bA).length:Int) then (if 0≤(wrap64 ((wrap64 ((wrap64 (zK+x7)) - bA))+1)) then (if (wrap64 ((wrap64 ((wrap64 (zK+x7)) - bA))+1)) < (x8.length:Int) then (if 0≤bA then (if bA < (x5.length:Int) then (if 0≤x7 then (if x7 < ((ai x5 bA).length:Int) then (if x1=0 then (none) else ((nZ.f (wrap64 ((rd x8 (wrap64 ((wrap64 ((wrap64 (zK+x7)) - bA))+1))) - (wrap64 ((Int.tmod (wrap64 (atx * (rd (ai x5 bA) x7))) x1) * (rd (ai x6 bA) zK))))) x1).bind fun t142=>(cE.l3 k x1 x5 x6 x7 (x8.set ((wrap64 ((wrap64 ((wrap64 (zK+x7)) - bA))+1)):Int).toNat t142) atx bA atl jz Z2 (wrap64 (zK+1))))) else (none)) else (none)) else (none)) else (none)) else (none)) else (none)) else (none)) else (none)) else (cE.l2 k x1 x5 x6 x7 x8 atx (wrap64 (bA - 1)) atl jz)
end
def cE.f (k:Nat) (l0:List (List Int)) (a1:Int):Option (List Int):=(ata.f k l0 a1).bind fun t101=>(cE.l0 k a1 t101 (([(([1]:List Int))]:List (List Int))) (t101.length:Int) 0)
def cE.TR:Bool × List (List Nat × List Nat):=(true,[([],[]),([],[]),([1],[1]),([],[]),([],[]),([4],[4]),([3,5],[3,5]),([6],[6]),([],[]),([],[]),([8,9],[8,9]),([10],[10]),([],[]),([11,12],[11,12]),([13],[13]),([],[]),([14,15],[14,15]),([7,16],[7,16]),([],[]),([17,18],[17,18]),([0,2,0,1,2,3,4,5,6,7,8,9,10,11,12,13,14,15,16,17,18,19],[0,2]),([20,19,19,0,1,2,3,4,5,6,7,8,9,10,11,12,13,14,15,16,17,18,19],[19,20])])
def cE.B10:List Nat:=[0,0,2,0,0,16,56,120,0,0,768,1792,0,7936,16128,0,65280,131064,0,524280,1048575,2097151]
theorem cE.akx:eB .any (opsOf Try.f79 10)=cE.TR:=by kernel_rfl
theorem cE.adr:ie cE.TR.2 cE.B10=true:=by kernel_rfl
def cE.TX:Bool × List (List Nat × List Nat):=(true,[([],[]),([],[]),([],[]),([],[]),([2,3],[2,3]),([4],[4]),([],[]),([],[]),([],[]),([7,8],[7,8]),([9],[9]),([],[]),([10,11],[10,11]),([12],[12]),([6,13],[6,13]),([],[]),([14,15],[14,15]),([],[]),([16,17],[16,17]),([5,18],[5,18]),([],[]),([19,20],[19,20]),([0,1,0,1,2,3,4,5,6,7,8,9,10,11,12,13,14,15,16,17,18,19,20,21],[0,1]),([22,21,21,0,1,2,3,4,5,6,7,8,9,10,11,12,13,14,15,16,17,18,19,20,21],[21,22])])
def cE.B21:List Nat:=[0,0,0,0,12,28,0,0,0,384,896,0,3968,8064,16320,0,65472,0,262080,524284,0,2097148,4194303,8388607]
theorem cE.akD:eB .any (opsOf Try.f79 21)=cE.TX:=by kernel_rfl
theorem cE.adx:ie cE.TX.2 cE.B21=true:=by kernel_rfl
set_option maxHeartbeats 8000000 in
set_option maxRecDepth 100000 in
theorem cE.calls (k : Nat) (A0 : Option Addr) (c0 : Nat) (l0 : List (List Int)) (a1 : Int) (r : List Int) (w : World) (bX : Kd.C (Kd.slice 2 (Kd.int .i64)) w A0 l0.length l0) (hc0 : l0.length ≤ c0) (h : cE.f k l0 a1 = some r) :
  Calls Try.prog 79 #[.slice A0 l0.length c0,.int .i64 a1] w fun e w'=>∃ ati:Value,e=.returned (ati)∧Kd.R (Kd.int .i64) 2 w' w.heap.size (fun _=>True) ati r∧Below w.heap.size w w':=by
 have dh:=k0 bX
 have gG:=k0 hc0
 clear bX hc0
 have HB:=k0 (Below.refl w.heap.size w)
 unfold cE.f at h
 have H:=h
 clear h
 replace H:=bS H;obtain ⟨t101,A3,H⟩:=H
 obtain ⟨mA,mW⟩:=nY (([1]:List Int):List Int)
 replace H:(cE.l0 k a1 t101 (([mA]:List (List Int))) (t101.length:Int) 0)=some r:=rH mW.z H
 obtain ⟨jl,lV⟩:=nY (([mA]:List (List Int)):List (List Int))
 replace H:(cE.l0 k a1 t101 jl (t101.length:Int) 0)=some r:=rH lV.z H
 have H':=k0 H
 clear H
 go_enter Try.func79,Try.ntmps79
 go_wp2_with (first|(refine aT (f:=116) rfl ?_;refine gC (some 18) Try.func116 #[.slice A0 l0.length c0,.int .i64 a1] ?_;(with_reducible refine (ata.calls k _ _ l0 a1 t101 _ ?av ?ax A3.z).mono ?_);(case av=>exact aC dh.z);(case ax=>exact gG.z);rintro e w4 ⟨nO,rfl,as2,hb⟩;refine ⟨_,rfl,?_⟩;have eV:=k0 (Kd.jD as2 (as8 bl));replace HB:=bW hb)|(refine aX (N:=19) rfl ?_;refine jM 2 (N:=19) (xs:=([1]:List Int)) (inner:=[.int .i64 1]) (aJ.one (show Kd.M (Kd.int .i64) _ _ _ 1 [.int .i64 1] from rfl) (aJ.none _ _)) ?_;intro qV w5 EJ hb bR atf;clear bR atf;(first|rw [← mW.z] at EJ|(simp only [Int.reduceToNat] at EJ;rw [← mW.z] at EJ));replace eV:=kg eV (Kd.bh EJ) hb;have dG:=k0 (Kd.cg EJ (as8 bl));replace HB:=bW hb;clear hb EJ;obtain ⟨xK,x_,rfl⟩:=Kd.b9 dG.z)|(refine aX (N:=20) rfl ?_;refine acJ (Kd.slice 2 (Kd.int .i64)) (w0:=w) w.heap.size 29 rfl (N:=20) rfl mA [.slice xK mA.length x_] (fun k_=>some k_ ≠ (nO:Value).ownBlock) (fun k_=>some k_=(.slice xK mA.length x_:Value).ownBlock) ?hr ?aP (fun k_ aU=>((Kd.aH (ok':=fun k_=>((fun k_=>some k_ ≠ (nO:Value).ownBlock)) k_∧some k_ ≠ (.slice none 0 0:Value).ownBlock) (Kd.iZ (dG.z) (Kd.atC eV.z) (by decide)) (fun k_ hk=>⟨hk.2,(by simp [Value.ownBlock])⟩))).1 k_ aU.symm) ?aF ?aB ?aS ?_;(case hr=>first|(go_simp;done)|(go_simp;rfl));(case aP=>exact Kd.ke (Kd.aH (Kd.om rfl (Kd.aH (ok':=fun k_=>((fun k_=>some k_ ≠ (nO:Value).ownBlock)) k_∧some k_ ≠ (.slice none 0 0:Value).ownBlock) (Kd.iZ (dG.z) (Kd.atC eV.z) (by decide)) (fun k_ hk=>⟨hk.2,(by simp [Value.ownBlock])⟩))) (fun _ h_=>h_)));(case aB=>exact bl);(case aF=>exact (fun k_ hk=>Kd.fresh' (Kd.yS (aS eV.z)) k_ hk));(case aS=>exact (as8 bl));intro xk w7 ho hb hg a_;rw [← lV.z] at ho;replace eV:=k0 (Kd.uu (Kd.acH (aS eV.z)) hg a_);replace HB:=k0 hb;have fj:=k0 ho;clear dG;clear ho hb hg a_;obtain ⟨nu,atP,rfl⟩:=Kd.er eV.z))
 go_loopg [6,23] k (fun kq v6 v23 w'=>∃ (aD:List (List Int)) (as1:List (List Int)) (bC:Int),v23=.int .i64 bC∧af (cE.l0 kq a1 aD as1 (t101.length:Int) bC=some r)∧af (kq≤k)∧af (Kd.S (Kd.slice 2 (Kd.int .i64)) 29 w' w.heap.size (fun k_=>some k_ ≠ (v6:Value).ownBlock) (.slice nu t101.length atP) aD)∧af (Kd.S (Kd.slice 2 (Kd.int .i64)) 29 w' w.heap.size (fun k_=>some k_ ≠ ((.slice nu t101.length atP):Value).ownBlock) v6 as1)∧af (Below w.heap.size w w'))
 case atStart=>exact ⟨(t101),(jl),(0),rs,H',⟨Nat.le_refl _⟩,⟨aS (Kd.bQ eV.z (fun _ hk=>hk.2))⟩,⟨aS (fj.z)⟩,⟨bl⟩⟩
 case round =>
  clear H'
  obtain ⟨aD,as1,bC,rfl,HA,as3,aq,aI,HB⟩:=hrel
  have cV:=(Kd.as4 aq.z).1
  rw [cV] at aq
  (try simp only [cV])
  (try simp only [cV] at aI)
  cases gk with
  | zero=>exact absurd HA.z (by simp [cE.l0])
  | succ k1 =>
   have H:=HA.z
   clear HA
   simp only [cE.l0] at H
   by_cases c10:bC < (t101.length:Int)
   case neg =>
    rw [if_neg c10] at H
    have iw:=decide_eq_false c10
    (try simp only [cV] at iw)
    clear c10
    replace H:=iS H;obtain ⟨c59,H⟩:=H
    have Er:=decide_eq_true c59
    (try simp only [cV] at Er)
    have aen:decide (0≤aD.length)=true:=decide_eq_true (by omega)
    (try simp only [cV] at aen)
    clear c59
    replace H:=iS H;obtain ⟨c60,H⟩:=H
    have Gd:=decide_eq_true c60
    (try simp only [cV] at Gd)
    have JT:decide (aD.length < as1.length)=true:=decide_eq_true (Int.ofNat_lt.mp c60)
    (try simp only [cV] at JT)
    clear c60
    replace H:=bS H;obtain ⟨t111,I3,H⟩:=H
    obtain rfl:=Option.some.inj H
    obtain ⟨ua,uB,rfl⟩:=Kd.er aI.z
    have pO:0≤((aD.length:Int):Int):=oD
    have pQ:(aD.length:Int) < (as1.length:Int):=oD
    obtain ⟨F2,Fm,Gb,e110,tF,wu,auQ⟩:=b8 (Kd.as4 aI.z).2.2 (aD.length:Int) pO pQ
    cases e110
    obtain ⟨aeJ,O7,OX,GV⟩:=Kd.att aI.z [] (aD.length:Int) pO (by first|exact pQ|exact oD|(have e_:=(Kd.as4 aI.z).1;omega))
    obtain ⟨ak1,rfl,Cs⟩:=OX
    have wG:=GV 0 _ rfl
    rw [Nat.add_zero,show ((Kd.slice 2 (Kd.int .i64))).sz=1 from rfl,Nat.mul_one] at wG
    replace wG:=Option.some.inj (wG.symm.trans tF)
    rw [wG] at Cs
    have FE:=k0 (show Kd.R (Kd.int .i64) 2 _ _ _ _ (ai as1 (aD.length:Int)) from Cs)
    clear wG Cs
    have M0:=k0 tF
    clear GV O7
    have xO:=k0 auQ
    have Mf:=k0 wu
    clear auQ wu
    (try simp only [Go.IntWalk.toNatUp] at tF)
    (try simp only [cV] at pO)
    (try simp only [cV] at pQ)
    (try simp only [cV] at tF)
    replace pO:=eT pO
    replace pQ:=eT pQ
    go_wp2_with (first|(refine aT (f:=118) rfl ?_;refine gC (some 133) Try.func118 #[.slice Fm (ai as1 (aD.length:Int)).length Gb] ?_;(with_reducible refine (nv.calls k1 (fun k_=>some k_=(.slice Fm (ai as1 (aD.length:Int)).length Gb:Value).ownBlock) _ _ (ai as1 (aD.length:Int)) t111 _ ?av I3.z).mono ?_);(case av=>exact Kd.Ny (Kd.om rfl (FE.z)));rintro e RH ⟨cA,rfl,as2,hb⟩;refine ⟨_,rfl,?_⟩;replace aq:=kg aq (Kd.bh as2) hb;replace aI:=kg aI (Kd.bh as2) hb;have eg:=k0 (Kd.cg (Kd.cU (Kd.aH (ok':=fun k_=>True) as2 (fun _ aU=>trivial)) (Kd.bV (aR FE.z))) (as8 bl));replace FE:=eO FE (Kd.bh as2) hb;replace xO:=k0 (Kd.bL (by repeat (first|(with_reducible exact xO.z)|(with_reducible refine Kd.jO ?_ _)|(with_reducible refine Kd.jP ?_ _)|(with_reducible refine Kd.ij ?_)|exact xO.z)) hb);replace M0:=k0 (Bc hb M0.z);replace HB:=bW hb))
    go_ret
    exact ⟨_,eR,aR (Kd.aH eg.z (fun _ hk=>trivial)),bl⟩
   rw [if_pos c10] at H
   have iw:=decide_eq_true c10
   (try simp only [cV] at iw)
   clear c10
   replace H:=iS H;obtain ⟨c11,H⟩:=H
   have kW:=decide_eq_true c11
   clear c11
   replace H:=iS H;obtain ⟨c12,H⟩:=H
   have pg:=decide_eq_true c12
   (try simp only [cV] at pg)
   clear c12
   replace H:=bS H;obtain ⟨t115,qZ,H⟩:=H
   replace H:=iS H;obtain ⟨c14,H⟩:=H
   have Nd:=k0 c14
   clear c14
   obtain ⟨lq,og⟩:=nY (t115 ++ [0]:List Int)
   replace H:(cE.l1 k1 a1 aD as1 bC lq (t101.length:Int) bC ((ai as1 bC).length:Int) 0)=some r:=rH og.z H
   have H':=k0 H
   clear H
   obtain ⟨Ft,m_,rfl⟩:=Kd.er aI.z
   obtain ⟨uV,uY⟩:=iN bC (as1.length:Int)
   obtain ⟨jS,RX,Uo,e114,uL,Xz,Xh⟩:=b8 (Kd.as4 aI.z).2.2 bC uV uY
   cases e114
   obtain ⟨an6,agr,agb,We⟩:=Kd.att aI.z [] bC uV (by first|exact uY|exact oD|(have e_:=(Kd.as4 aI.z).1;omega))
   obtain ⟨asq,rfl,Oz⟩:=agb
   have avx:=We 0 _ rfl
   rw [Nat.add_zero,show ((Kd.slice 2 (Kd.int .i64))).sz=1 from rfl,Nat.mul_one] at avx
   replace avx:=Option.some.inj (avx.symm.trans uL)
   rw [avx] at Oz
   have DM:=k0 (show Kd.R (Kd.int .i64) 2 _ _ _ _ (ai as1 bC) from Oz)
   clear avx Oz
   have S7:=k0 uL
   clear We agr
   have FH:=k0 Xh
   have aa8:=k0 Xz
   clear Xh Xz
   replace uV:=eT uV
   replace uY:=eT uY
   go_wp2_with (first|(refine aT (f:=117) rfl ?_;refine gC (some 30) Try.func117 #[.slice RX (ai as1 bC).length Uo] ?_;(with_reducible refine (ue.calls _ _ (ai as1 bC) t115 _ ?av ?ax qZ.z).mono ?_);(case av=>exact aC (by repeat (first|(with_reducible exact FH.z)|(with_reducible refine Kd.jO ?_ _)|(with_reducible refine Kd.jP ?_ _)|(with_reducible refine Kd.ij ?_)|exact FH.z)));(case ax=>exact aa8.z);rintro e yp ⟨E_,rfl,as2,hb⟩;refine ⟨_,rfl,?_⟩;replace aq:=kg aq (Kd.bh as2) hb;replace aI:=kg aI (Kd.bh as2) hb;have sU:=k0 (Kd.cg (Kd.cU as2 (Kd.bV (aR DM.z))) (as8 bl));replace DM:=eO DM (Kd.bh as2) hb;replace FH:=k0 (Kd.bL (by repeat (first|(with_reducible exact FH.z)|(with_reducible refine Kd.jO ?_ _)|(with_reducible refine Kd.jP ?_ _)|(with_reducible refine Kd.ij ?_)|exact FH.z)) hb);replace S7:=k0 (Bc hb S7.z);replace HB:=bW hb)|((with_reducible refine ji (b:=.append) (xs:=#[.tmp 30,.tmp 31]) rfl ?_);at_builtin;refine Kd.oh (Kd.int .i64) (w0:=w) w.heap.size rfl (.tmp 30) (.tmp 31) 29 2 (.int .i64 0) 8 rfl Try.underlying29 ju rfl (by decide) (by omega) E_ t115 0 [.int .i64 0] (fun k_=>some k_ ≠ (.slice RX (ai as1 bC).length Uo:Value).ownBlock) (fun _=>False) rfl rfl ?aP (fun _ hk=>hk.elim) ?aF ?aO ?aB ?aS ?aL ?_;(case aP=>exact rfl);(case aB=>exact bl);(case aF=>exact (fun k_ hk=>Kd.fresh' (Kd.bV (aR DM.z)) k_ hk));(case aO=>exact (aR (Kd.aH sU.z (fun _ hk=>hk.2))));(case aS=>exact (as8 bl));(case aL=>have:=Nd.out;omega);intro tP yq ho hb hg a_;rw [← og.z] at ho;replace aq:=k0 (Kd.uu (ok:=(fun k_=>some k_ ≠ (.slice (some jS) as1.length m_:Value).ownBlock)) (aS aq.z) hg a_);replace aI:=k0 (Kd.uu (ok:=(fun k_=>some k_ ≠ (.slice nu aD.length atP:Value).ownBlock)) (aS aI.z) hg a_);replace DM:=k0 (Kd.s7 (ok:=(fun k_=>some k_ ≠ (.slice nu aD.length atP:Value).ownBlock∧some k_ ≠ (.slice (some jS) as1.length m_:Value).ownBlock)) (aR DM.z) hg a_);replace HB:=k0 hb;have lS:=k0 ho;clear sU;clear ho hb hg a_;obtain ⟨mo,ko⟩:=iN bC (as1.length:Int);obtain ⟨B7,IY,Ao,e121,oF,wz,wm⟩:=b8 (Kd.as4 aI.z).2.2 bC mo ko;obtain rfl:jS=B7:=(by injection e121);obtain ⟨Od,CE,Cz,wg⟩:=Kd.att aI.z [] bC mo (by first|exact ko|exact oD|(have e_:=(Kd.as4 aI.z).1;omega));obtain ⟨Ry,rfl,rC⟩:=Cz;have l8:=wg 0 _ rfl;rw [Nat.add_zero,show ((Kd.slice 2 (Kd.int .i64))).sz=1 from rfl,Nat.mul_one] at l8;replace l8:=Option.some.inj (l8.symm.trans oF);rw [l8] at rC;have pX:=k0 (show Kd.R (Kd.int .i64) 2 _ _ _ _ (ai as1 bC) from rC);clear l8 rC;have rm:=k0 oF;clear wg CE;have yJ:=k0 wm;have Mh:=k0 wz;clear wm wz;replace mo:=eT mo;replace ko:=eT ko))
   generalize W9:(.slice IY (ai as1 bC).length Ao:Value)=ak_
   have DE:=k0 W9
   clear W9
   go_loopg [38] k1 (fun kq v38 w'=>∃ (cJ:List Int) (xy:Int),v38=.int .i64 xy∧af (cE.l1 kq a1 aD as1 bC cJ (t101.length:Int) bC ((ai as1 bC).length:Int) xy=some r)∧af (kq≤k1)∧af (cx w' (.slice (some jS) as1.length m_) bC ak_)∧af (Kd.S (Kd.slice 2 (Kd.int .i64)) 29 w' w.heap.size (fun k_=>some k_ ≠ ((.slice (some jS) as1.length m_):Value).ownBlock∧some k_ ≠ (tP:Value).ownBlock) (.slice nu aD.length atP) aD)∧af (Kd.S (Kd.slice 2 (Kd.int .i64)) 29 w' w.heap.size (fun k_=>some k_ ≠ ((.slice nu aD.length atP):Value).ownBlock∧some k_ ≠ (tP:Value).ownBlock) (.slice (some jS) as1.length m_) as1)∧af (Kd.R (Kd.int .i64) 2 w' w.heap.size (fun _=>True) tP cJ)∧af (Below w.heap.size w w'))
   case atStart=>exact ⟨(lq),(0),rs,H',⟨Nat.le_refl _⟩,⟨by (with_reducible repeat (first|apply cx.alloc|apply cx.drewN|apply cx.drew));first|exact ⟨_,_,_,rfl,(by first|exact of_eq_true mo|exact eW dS.out|omega),(by first|exact of_eq_true ko|exact ct dS.out|(have h_:=of_eq_true ko;omega)|(have h_:=ct dS.out;omega)),rm.z⟩|(rw [← DE.out];exact ⟨_,_,_,rfl,(by first|exact of_eq_true mo|exact eW dS.out|omega),(by first|exact of_eq_true ko|exact ct dS.out|(have h_:=of_eq_true ko;omega)|(have h_:=ct dS.out;omega)),rm.z⟩)⟩,⟨by (try simp only [cV]);(with_reducible repeat (first|apply Kd.gQ|apply Kd.atB|apply Kd.dK));exact aq.z⟩,⟨by (try simp only [cV]);(with_reducible repeat (first|apply Kd.gQ|apply Kd.atB|apply Kd.dK));exact aI.z⟩,⟨by (try simp only [cV]);(with_reducible repeat (first|apply Kd.kT|apply Kd.kU|apply Kd.di));exact Kd.aH lS.z (fun _ hk=>trivial)⟩,⟨bl⟩⟩
   case round =>
    clear H'
    obtain ⟨cJ,xy,rfl,HA,bw,dS,aq,aI,dx,HB⟩:=hrel
    cases gk with
    | zero=>exact absurd HA.z (by simp [cE.l1])
    | succ k2 =>
     have H:=HA.z
     clear HA
     simp only [cE.l1] at H
     by_cases c18:xy < ((ai as1 bC).length:Int)
     case neg =>
      rw [if_neg c18] at H
      have au2:=decide_eq_false c18
      (try simp only [cV] at au2)
      clear c18
      have H':=k0 H
      clear H
      have ahI:decide (0≤bC)=true:=decide_eq_true (eW dS.out)
      have ahO:decide (bC < (as1.length:Int))=true:=decide_eq_true (by have h_:=ct dS.out;have e_:=(Kd.as4 aI.z).1;omega)
      obtain ⟨mN,kL⟩:=iN bC (as1.length:Int)
      obtain ⟨Ed,LY,NU,e122,oG,AM,AF⟩:=b8 (Kd.as4 aI.z).2.2 bC mN kL
      obtain rfl:jS=Ed:=(by injection e122)
      obtain ⟨UB,G3,GO,AA⟩:=Kd.att aI.z [] bC mN (by first|exact kL|exact oD|(have e_:=(Kd.as4 aI.z).1;omega))
      obtain ⟨Zy,rfl,auM⟩:=GO
      have qa:=AA 0 _ rfl
      rw [Nat.add_zero,show ((Kd.slice 2 (Kd.int .i64))).sz=1 from rfl,Nat.mul_one] at qa
      replace qa:=Option.some.inj (qa.symm.trans oG)
      rw [qa] at auM
      have DN:=k0 (show Kd.R (Kd.int .i64) 2 _ _ _ _ (ai as1 bC) from auM)
      clear qa auM
      have uk:=k0 oG
      clear AA G3
      have z8:=k0 AF
      have Sp:=k0 AM
      clear AF AM
      replace mN:=eT mN
      replace kL:=eT kL
      obtain rfl:=qL dS.out uk.z
      go_wp2
      generalize av1:(.slice LY (ai as1 bC).length NU:Value)=ala
      have DF:=k0 av1
      clear av1
      go_loopg [11,12] k2 (fun kq v11 sD w'=>∃ (fe:List Int) (gA:Int) (b7:Int),v11=.int .i64 gA∧sD=.int .i64 b7∧af (cE.l2 kq a1 aD as1 bC fe gA b7 (t101.length:Int) bC=some r)∧af (kq≤k2)∧af (cx w' (.slice (some jS) as1.length m_) bC ala)∧af (Kd.S (Kd.slice 2 (Kd.int .i64)) 29 w' w.heap.size (fun k_=>some k_ ≠ ((.slice (some jS) as1.length m_):Value).ownBlock∧some k_ ≠ (tP:Value).ownBlock) (.slice nu aD.length atP) aD)∧af (Kd.S (Kd.slice 2 (Kd.int .i64)) 29 w' w.heap.size (fun k_=>some k_ ≠ ((.slice nu aD.length atP):Value).ownBlock∧some k_ ≠ (tP:Value).ownBlock) (.slice (some jS) as1.length m_) as1)∧af (Kd.R (Kd.int .i64) 2 w' w.heap.size (fun _=>True) tP fe)∧af (Below w.heap.size w w'))
      case atStart=>exact ⟨(cJ),(1),(wrap64 (bC - 1)),rs,rs,H',⟨Nat.le_refl _⟩,⟨by (with_reducible repeat (first|apply cx.alloc|apply cx.drewN|apply cx.drew));first|exact ⟨_,_,_,rfl,(by first|exact of_eq_true mN|exact eW dS.out|omega),(by first|exact of_eq_true kL|exact ct dS.out|(have h_:=of_eq_true kL;omega)|(have h_:=ct dS.out;omega)),uk.z⟩|(rw [← DF.out];exact ⟨_,_,_,rfl,(by first|exact of_eq_true mN|exact eW dS.out|omega),(by first|exact of_eq_true kL|exact ct dS.out|(have h_:=of_eq_true kL;omega)|(have h_:=ct dS.out;omega)),uk.z⟩)⟩,⟨by (try simp only [cV]);(with_reducible repeat (first|apply Kd.gQ|apply Kd.atB|apply Kd.dK));exact aq.z⟩,⟨by (try simp only [cV]);(with_reducible repeat (first|apply Kd.gQ|apply Kd.atB|apply Kd.dK));exact aI.z⟩,⟨by (try simp only [cV]);(with_reducible repeat (first|apply Kd.kT|apply Kd.kU|apply Kd.di));exact dx.z⟩,⟨bl⟩⟩
      case round =>
       clear H'
       obtain ⟨fe,gA,b7,rfl,rfl,HA,cS,dS,aq,aI,dx,HB⟩:=hrel
       cases gk with
       | zero=>exact absurd HA.z (by simp [cE.l2])
       | succ k3 =>
        have H:=HA.z
        clear HA
        simp only [cE.l2] at H
        replace H:=iC H;obtain ⟨Ch,H⟩|⟨Ch,H⟩:=H
        case inl =>
         replace H:=iS H;obtain ⟨c56,H⟩:=H
         have ab5:=k0 c56
         clear c56
         obtain ⟨nU,vM⟩:=nY (as1 ++ [fe]:List (List Int))
         replace H:(cE.l0 k3 a1 aD nU (t101.length:Int) (wrap64 (bC+1)))=some r:=rH vM.z H
         have H':=k0 H
         clear H
         have ahJ:decide (0≤bC)=true:=decide_eq_true (eW dS.out)
         have ahP:decide (bC < (as1.length:Int))=true:=decide_eq_true (by have h_:=ct dS.out;have e_:=(Kd.as4 aI.z).1;omega)
         obtain ⟨nJ,mO⟩:=iN bC (as1.length:Int)
         obtain ⟨avq,Dn,Ej,e129,qM,AO,AG⟩:=b8 (Kd.as4 aI.z).2.2 bC nJ mO
         obtain rfl:jS=avq:=(by injection e129)
         obtain ⟨UC,G4,GP,AB⟩:=Kd.att aI.z [] bC nJ (by first|exact mO|exact oD|(have e_:=(Kd.as4 aI.z).1;omega))
         obtain ⟨Zz,rfl,auN⟩:=GP
         have qb:=AB 0 _ rfl
         rw [Nat.add_zero,show ((Kd.slice 2 (Kd.int .i64))).sz=1 from rfl,Nat.mul_one] at qb
         replace qb:=Option.some.inj (qb.symm.trans qM)
         rw [qb] at auN
         have qw:=k0 (show Kd.R (Kd.int .i64) 2 _ _ _ _ (ai as1 bC) from auN)
         clear qb auN
         have z_:=k0 qM
         clear AB G4
         have MK:=k0 AG
         have Sq:=k0 AO
         clear AG AO
         replace nJ:=eT nJ
         replace mO:=eT mO
         obtain rfl:=qL dS.out z_.z
         obtain ⟨Dw,Cn,rfl⟩:=Kd.b9 dx.z
         go_wp2_with (first|((with_reducible refine ji (b:=.append) (xs:=#[.tmp 123,.tmp 125]) rfl ?_);at_builtin;refine Kd.uv (Kd.slice 2 (Kd.int .i64)) (w0:=w) w.heap.size rfl (.tmp 123) (.tmp 125) 24 29 (.slice none 0 0) 24 rfl Try.underlying24 sB rfl (by decide) (by omega) (.slice (some jS) as1.length m_) as1 fe [.slice Dw fe.length Cn] (fun k_=>some k_ ≠ (.slice nu aD.length atP:Value).ownBlock) (fun k_=>some k_=(.slice Dw fe.length Cn:Value).ownBlock) rfl rfl ?aP (fun k_ aU=>((Kd.aH (ok':=fun k_=>((fun k_=>some k_ ≠ (.slice nu aD.length atP:Value).ownBlock)) k_∧some k_ ≠ (.slice (some jS) as1.length m_:Value).ownBlock) (Kd.iZ (Kd.iZ (dx.z) (Kd.atC aq.z) (by decide)) (Kd.atC aI.z) (by decide)) (fun k_ hk=>⟨hk.1.2,hk.2⟩))).1 k_ aU.symm) ?aF ?aO ?aB ?aS ?aL ?_;(case aP=>exact Kd.ke (Kd.aH (Kd.om rfl (Kd.aH (ok':=fun k_=>((fun k_=>some k_ ≠ (.slice nu aD.length atP:Value).ownBlock)) k_∧some k_ ≠ (.slice (some jS) as1.length m_:Value).ownBlock) (Kd.iZ (Kd.iZ (dx.z) (Kd.atC aq.z) (by decide)) (Kd.atC aI.z) (by decide)) (fun k_ hk=>⟨hk.1.2,hk.2⟩))) (fun _ h_=>h_)));(case aB=>exact bl);(case aF=>exact (fun k_ hk=>Kd.fresh' (Kd.yS (aS aq.z)) k_ hk));(case aO=>exact (aS (Kd.bQ aI.z (fun k_ hk=>⟨hk.1,fun e_=>hk.2 e_⟩))));(case aS=>exact (as8 bl));(case aL=>have:=ab5.out;omega);intro gp Bq ho hb hg a_;rw [← vM.z] at ho;replace aq:=k0 (Kd.uu (ok:=(fun k_=>some k_ ≠ (.slice Dw fe.length Cn:Value).ownBlock)) (aS (Kd.bQ aq.z (fun _ hk=>⟨hk.2,hk.1⟩))) hg a_);replace qw:=k0 (Kd.s7 (ok:=(fun k_=>some k_ ≠ (.slice nu aD.length atP:Value).ownBlock∧some k_ ≠ (.slice Dw fe.length Cn:Value).ownBlock)) (aR qw.z) hg a_);replace HB:=k0 hb;have o7:=k0 ho;clear aI dx;clear ho hb hg a_))
         (try simp only [← cV])
         first|go_roundg k3|(simp only [← tA];go_roundg k3)|(simp only [← tB];go_roundg k3)|(simp only [← uG];go_roundg k3)|((try (have e_:=DE.out;injection e_ with eu kE atp;subst eu atp));(try (have e_:=DF.out;injection e_ with eu kE atp;subst eu atp));(try (have e_:=DG.out;injection e_ with eu kE atp;subst eu atp));(try (have e_:=DH.out;injection e_ with eu kE atp;subst eu atp));go_roundg k3)
         case measure=>have:=as3.z;have:=bw.z;have:=cS.z;omega
         case rel=>exact ⟨(aD),(nU),(wrap64 (bC+1)),rs,(by first|exact H'|(rw [tA];exact H')|(rw [tB];exact H')|(rw [uG];exact H')),⟨by have:=as3.z;have:=bw.z;have:=cS.z;omega⟩,⟨by (try simp only [cV]);(with_reducible repeat (first|apply Kd.gQ|apply Kd.atB|apply Kd.dK));exact Kd.bQ aq.z (fun _ hk=>hk.2)⟩,⟨by (try simp only [cV]);(with_reducible repeat (first|apply Kd.gQ|apply Kd.atB|apply Kd.dK));exact o7.z⟩,⟨bl⟩⟩
        obtain ⟨pL,tB⟩:∃ j_:Int,(wrap64 (b7+1))=j_:=⟨_,rfl⟩
        replace H:(if 0≤(pL) then (if (pL) < (aD.length:Int) then (if 0≤b7 then (if b7 < ((ai aD (pL)).length:Int) then (if a1=0 then (none) else (if b7 < (as1.length:Int) then (cE.l3 k3 a1 aD as1 bC fe (Int.tmod (wrap64 (gA * (rd (ai aD (pL)) b7))) a1) b7 (t101.length:Int) bC ((ai as1 b7).length:Int) 0) else (none))) else (none)) else (none)) else (none)) else (none))=some r:=by first|(rw [tB] at H;exact H)|(simp only [tB] at H ⊢;exact H)
        have aqe:(IntKind.i64.wrap (b7+1))=pL:=(bp _).trans tB
        replace H:=iS H;obtain ⟨c34,H⟩:=H
        have uy:=decide_eq_true c34
        clear c34
        replace H:=iS H;obtain ⟨c35,H⟩:=H
        have N3:=decide_eq_true c35
        (try simp only [cV] at N3)
        clear c35
        replace H:=iS H;obtain ⟨c36,H⟩:=H
        have Eo:=decide_eq_true c36
        clear c36
        replace H:=iS H;obtain ⟨c37,H⟩:=H
        have N4:=decide_eq_true c37
        (try simp only [cV] at N4)
        clear c37
        by_cases c38:a1=0
        case neg =>
         rw [if_neg c38] at H
         have N5:=beq_eq_false_iff_ne.mpr c38
         have aed:=bne_iff_ne.mpr c38
         replace H:=iS H;obtain ⟨c39,H⟩:=H
         have vT:=decide_eq_true c39
         (try simp only [cV] at vT)
         clear c39
         have H':=k0 H
         clear H
         have ahJ:decide (0≤bC)=true:=decide_eq_true (eW dS.out)
         have ahP:decide (bC < (as1.length:Int))=true:=decide_eq_true (by have h_:=ct dS.out;have e_:=(Kd.as4 aI.z).1;omega)
         obtain ⟨nJ,mO⟩:=iN bC (as1.length:Int)
         obtain ⟨avq,Dn,Ej,e129,qM,AO,AG⟩:=b8 (Kd.as4 aI.z).2.2 bC nJ mO
         obtain rfl:jS=avq:=(by injection e129)
         obtain ⟨UC,G4,GP,AB⟩:=Kd.att aI.z [] bC nJ (by first|exact mO|exact oD|(have e_:=(Kd.as4 aI.z).1;omega))
         obtain ⟨Zz,rfl,auN⟩:=GP
         have qb:=AB 0 _ rfl
         rw [Nat.add_zero,show ((Kd.slice 2 (Kd.int .i64))).sz=1 from rfl,Nat.mul_one] at qb
         replace qb:=Option.some.inj (qb.symm.trans qM)
         rw [qb] at auN
         have qw:=k0 (show Kd.R (Kd.int .i64) 2 _ _ _ _ (ai as1 bC) from auN)
         clear qb auN
         have z_:=k0 qM
         clear AB G4
         have MK:=k0 AG
         have Sq:=k0 AO
         clear AG AO
         replace nJ:=eT nJ
         replace mO:=eT mO
         obtain rfl:=qL dS.out z_.z
         have tN:0≤((pL):Int):=oD
         have tO:(pL) < (aD.length:Int):=oD
         obtain ⟨Ah,aai,adY,e133,wP,Hq,He⟩:=b8 (Kd.as4 aq.z).2.2 (pL) tN tO
         cases e133
         obtain ⟨aeN,Pa,O1,GZ⟩:=Kd.att aq.z [] (pL) tN (by first|exact tO|exact oD|(have e_:=(Kd.as4 aq.z).1;omega))
         obtain ⟨ak5,rfl,Cw⟩:=O1
         have wK:=GZ 0 _ rfl
         rw [Nat.add_zero,show ((Kd.slice 2 (Kd.int .i64))).sz=1 from rfl,Nat.mul_one] at wK
         replace wK:=Option.some.inj (wK.symm.trans wP)
         rw [wK] at Cw
         have abe:=k0 (show Kd.R (Kd.int .i64) 2 _ _ _ _ (ai aD (pL)) from Cw)
         clear wK Cw
         have abF:=k0 wP
         clear GZ Pa
         have FJ:=k0 He
         have aa_:=k0 Hq
         clear He Hq
         replace tN:=eT tN
         replace tO:=eT tO
         obtain ⟨C0,C3⟩:=iN b7 ((ai aD (pL)).length:Int)
         obtain ⟨acZ,e134,ahv⟩:=Kd.bK (by repeat (first|(with_reducible exact FJ.z)|(with_reducible refine Kd.jO ?_ _)|(with_reducible refine Kd.jP ?_ _)|(with_reducible refine Kd.ij ?_)|exact FJ.z)) b7 C0 C3
         cases e134
         replace C0:=eT C0
         replace C3:=eT C3
         obtain ⟨E2,Bh⟩:=iN b7 (as1.length:Int)
         obtain ⟨ac0,aaj,adZ,e135,X5,XF,Xn⟩:=b8 (Kd.as4 aI.z).2.2 b7 E2 Bh
         obtain rfl:jS=ac0:=(by injection e135)
         obtain ⟨an9,agu,age,Wh⟩:=Kd.att aI.z [] b7 E2 (by first|exact Bh|exact oD|(have e_:=(Kd.as4 aI.z).1;omega))
         obtain ⟨ast,rfl,OC⟩:=age
         have avA:=Wh 0 _ rfl
         rw [Nat.add_zero,show ((Kd.slice 2 (Kd.int .i64))).sz=1 from rfl,Nat.mul_one] at avA
         replace avA:=Option.some.inj (avA.symm.trans X5)
         rw [avA] at OC
         have am4:=k0 (show Kd.R (Kd.int .i64) 2 _ _ _ _ (ai as1 b7) from OC)
         clear avA OC
         have S9:=k0 X5
         clear Wh agu
         have anf:=k0 Xn
         have amR:=k0 XF
         clear Xn XF
         replace E2:=eT E2
         replace Bh:=eT Bh
         go_wp2
         generalize Xa:(.slice Dn (ai as1 bC).length Ej:Value)=alb
         have DG:=k0 Xa
         clear Xa
         generalize Xb:(.slice aaj (ai as1 b7).length adZ:Value)=alc
         have DH:=k0 Xb
         clear Xb
         go_loopg [88] k3 (fun kq v88 w'=>∃ (tW:List Int) (sL:Int),v88=.int .i64 sL∧af (cE.l3 kq a1 aD as1 bC tW (Int.tmod (wrap64 (gA * (rd (ai aD (pL)) b7))) a1) b7 (t101.length:Int) bC ((ai as1 b7).length:Int) sL=some r)∧af (kq≤k3)∧af (cx w' (.slice (some jS) as1.length m_) bC alb)∧af (cx w' (.slice (some jS) as1.length m_) b7 alc)∧af (Kd.S (Kd.slice 2 (Kd.int .i64)) 29 w' w.heap.size (fun k_=>some k_ ≠ ((.slice (some jS) as1.length m_):Value).ownBlock∧some k_ ≠ (tP:Value).ownBlock) (.slice (some Ah) aD.length atP) aD)∧af (Kd.S (Kd.slice 2 (Kd.int .i64)) 29 w' w.heap.size (fun k_=>some k_ ≠ ((.slice (some Ah) aD.length atP):Value).ownBlock∧some k_ ≠ (tP:Value).ownBlock) (.slice (some jS) as1.length m_) as1)∧af (Kd.R (Kd.int .i64) 2 w' w.heap.size (fun _=>True) tP tW)∧af (Below w.heap.size w w'))
         case atStart=>exact ⟨(fe),(0),rs,H',⟨Nat.le_refl _⟩,⟨by (with_reducible repeat (first|apply cx.alloc|apply cx.drewN|apply cx.drew));first|exact ⟨_,_,_,rfl,(by first|exact of_eq_true nJ|exact eW dS.out|omega),(by first|exact of_eq_true mO|exact ct dS.out|(have h_:=of_eq_true mO;omega)|(have h_:=ct dS.out;omega)),z_.z⟩|(rw [← DG.out];exact ⟨_,_,_,rfl,(by first|exact of_eq_true nJ|exact eW dS.out|omega),(by first|exact of_eq_true mO|exact ct dS.out|(have h_:=of_eq_true mO;omega)|(have h_:=ct dS.out;omega)),z_.z⟩)⟩,⟨by (with_reducible repeat (first|apply cx.alloc|apply cx.drewN|apply cx.drew));first|exact ⟨_,_,_,rfl,(by first|exact of_eq_true E2|exact eW o6.out|omega),(by first|exact of_eq_true Bh|exact ct o6.out|(have h_:=of_eq_true Bh;omega)|(have h_:=ct o6.out;omega)),S9.z⟩|(rw [← DH.out];exact ⟨_,_,_,rfl,(by first|exact of_eq_true E2|exact eW o6.out|omega),(by first|exact of_eq_true Bh|exact ct o6.out|(have h_:=of_eq_true Bh;omega)|(have h_:=ct o6.out;omega)),S9.z⟩)⟩,⟨by (try simp only [cV]);(with_reducible repeat (first|apply Kd.gQ|apply Kd.atB|apply Kd.dK));exact aq.z⟩,⟨by (try simp only [cV]);(with_reducible repeat (first|apply Kd.gQ|apply Kd.atB|apply Kd.dK));exact aI.z⟩,⟨by (try simp only [cV]);(with_reducible repeat (first|apply Kd.kT|apply Kd.kU|apply Kd.di));exact dx.z⟩,⟨bl⟩⟩
         case round =>
          clear H'
          obtain ⟨tW,sL,rfl,HA,aty,dS,o6,aq,aI,dx,HB⟩:=hrel
          cases gk with
          | zero=>exact absurd HA.z (by simp [cE.l3])
          | succ k4 =>
           have H:=HA.z
           clear HA
           simp only [cE.l3] at H
           by_cases c40:sL < ((ai as1 b7).length:Int)
           case neg =>
            rw [if_neg c40] at H
            have Ci:=decide_eq_false c40
            (try simp only [cV] at Ci)
            clear c40
            have H':=k0 H
            clear H
            have ahK:decide (0≤bC)=true:=decide_eq_true (eW dS.out)
            have ahQ:decide (bC < (as1.length:Int))=true:=decide_eq_true (by have h_:=ct dS.out;have e_:=(Kd.as4 aI.z).1;omega)
            obtain ⟨mq,atX⟩:=iN bC (as1.length:Int)
            obtain ⟨avr,LZ,NV,e136,qc,wA,wo⟩:=b8 (Kd.as4 aI.z).2.2 bC mq atX
            obtain rfl:jS=avr:=(by injection e136)
            obtain ⟨Oe,CF,CA,wh⟩:=Kd.att aI.z [] bC mq (by first|exact atX|exact oD|(have e_:=(Kd.as4 aI.z).1;omega))
            obtain ⟨Rz,rfl,rD⟩:=CA
            have l9:=wh 0 _ rfl
            rw [Nat.add_zero,show ((Kd.slice 2 (Kd.int .i64))).sz=1 from rfl,Nat.mul_one] at l9
            replace l9:=Option.some.inj (l9.symm.trans qc)
            rw [l9] at rD
            have DO:=k0 (show Kd.R (Kd.int .i64) 2 _ _ _ _ (ai as1 bC) from rD)
            clear l9 rD
            have um:=k0 qc
            clear wh CF
            have xP:=k0 wo
            have Mi:=k0 wA
            clear wo wA
            replace mq:=eT mq
            replace atX:=eT atX
            obtain rfl:=qL dS.out um.z
            have ahL:decide (0≤b7)=true:=decide_eq_true (eW o6.out)
            have ahR:decide (b7 < (as1.length:Int))=true:=decide_eq_true (by have h_:=ct o6.out;have e_:=(Kd.as4 aI.z).1;omega)
            obtain ⟨oN,nj⟩:=iN b7 (as1.length:Int)
            obtain ⟨F6,aak,ad0,e137,CQ,Hr,Hf⟩:=b8 (Kd.as4 aI.z).2.2 b7 oN nj
            obtain rfl:jS=F6:=(by injection e137)
            obtain ⟨aeO,Pb,O2,G0⟩:=Kd.att aI.z [] b7 oN (by first|exact nj|exact oD|(have e_:=(Kd.as4 aI.z).1;omega))
            obtain ⟨ak6,rfl,Cx⟩:=O2
            have wL:=G0 0 _ rfl
            rw [Nat.add_zero,show ((Kd.slice 2 (Kd.int .i64))).sz=1 from rfl,Nat.mul_one] at wL
            replace wL:=Option.some.inj (wL.symm.trans CQ)
            rw [wL] at Cx
            have Jf:=k0 (show Kd.R (Kd.int .i64) 2 _ _ _ _ (ai as1 b7) from Cx)
            clear wL Cx
            have Aa:=k0 CQ
            clear G0 Pb
            have D1:=k0 Hf
            have aba:=k0 Hr
            clear Hf Hr
            replace oN:=eT oN
            replace nj:=eT nj
            obtain rfl:=qL o6.out Aa.z
            go_wp2
            first|go_roundg k4|(simp only [← tA];go_roundg k4)|(simp only [← tB];go_roundg k4)|(simp only [← uG];go_roundg k4)|((try (have e_:=DE.out;injection e_ with eu kE atp;subst eu atp));(try (have e_:=DF.out;injection e_ with eu kE atp;subst eu atp));(try (have e_:=DG.out;injection e_ with eu kE atp;subst eu atp));(try (have e_:=DH.out;injection e_ with eu kE atp;subst eu atp));go_roundg k4)
            case measure=>have:=as3.z;have:=bw.z;have:=cS.z;have:=aty.z;omega
            case rel=>exact ⟨(tW),((Int.tmod (wrap64 (gA * (rd (ai aD (pL)) b7))) a1)),(wrap64 (b7 - 1)),(by first|rfl|(simp;done)|(simp only [← tB]<;>(first|rfl|simp))|(simp [*];done)),rs,(by first|exact H'|(rw [tA];exact H')|(rw [tB];exact H')|(rw [uG];exact H')),⟨by have:=as3.z;have:=bw.z;have:=cS.z;have:=aty.z;omega⟩,⟨by (with_reducible repeat (first|apply cx.alloc|apply cx.drewN|apply cx.drew));first|exact ⟨_,_,_,rfl,(by first|exact of_eq_true mq|exact eW dS.out|omega),(by first|exact of_eq_true atX|exact ct dS.out|(have h_:=of_eq_true atX;omega)|(have h_:=ct dS.out;omega)),um.z⟩|(rw [← DF.out];exact ⟨_,_,_,rfl,(by first|exact of_eq_true mq|exact eW dS.out|omega),(by first|exact of_eq_true atX|exact ct dS.out|(have h_:=of_eq_true atX;omega)|(have h_:=ct dS.out;omega)),um.z⟩)⟩,⟨by (try simp only [cV]);(with_reducible repeat (first|apply Kd.gQ|apply Kd.atB|apply Kd.dK));exact aq.z⟩,⟨by (try simp only [cV]);(with_reducible repeat (first|apply Kd.gQ|apply Kd.atB|apply Kd.dK));exact aI.z⟩,⟨by (try simp only [cV]);(with_reducible repeat (first|apply Kd.kT|apply Kd.kU|apply Kd.di));exact dx.z⟩,⟨bl⟩⟩
           rw [if_pos c40] at H
           have Ci:=decide_eq_true c40
           (try simp only [cV] at Ci)
           clear c40
           replace H:=iS H;obtain ⟨c41,H⟩:=H
           have Ep:=decide_eq_true c41
           clear c41
           replace H:=iS H;obtain ⟨c42,H⟩:=H
           have Cj:=decide_eq_true c42
           (try simp only [cV] at Cj)
           clear c42
           obtain ⟨oI,uG⟩:∃ j_:Int,(wrap64 ((wrap64 ((wrap64 (sL+bC)) - b7))+1))=j_:=⟨_,rfl⟩
           replace H:(if 0≤(oI) then (if (oI) < (tW.length:Int) then (if 0≤b7 then (if b7 < (aD.length:Int) then (if 0≤bC then (if bC < ((ai aD b7).length:Int) then (if a1=0 then (none) else ((nZ.f (wrap64 ((rd tW (oI)) - (wrap64 ((Int.tmod (wrap64 ((Int.tmod (wrap64 (gA * (rd (ai aD (pL)) b7))) a1) * (rd (ai aD b7) bC))) a1) * (rd (ai as1 b7) sL))))) a1).bind fun t142=>(cE.l3 k4 a1 aD as1 bC (tW.set ((oI):Int).toNat t142) (Int.tmod (wrap64 (gA * (rd (ai aD (pL)) b7))) a1) b7 (t101.length:Int) bC ((ai as1 b7).length:Int) (wrap64 (sL+1))))) else (none)) else (none)) else (none)) else (none)) else (none)) else (none))=some r:=by first|(rw [uG] at H;exact H)|(simp only [uG] at H ⊢;exact H)
           have aqf:(IntKind.i64.wrap ((wrap64 ((wrap64 (sL+bC)) - b7))+1))=oI:=(bp _).trans uG
           replace H:=iS H;obtain ⟨c44,H⟩:=H
           have Uu:=decide_eq_true c44
           clear c44
           replace H:=iS H;obtain ⟨c45,H⟩:=H
           have JS:=decide_eq_true c45
           (try simp only [cV] at JS)
           clear c45
           replace H:=iS H;obtain ⟨c46,H⟩:=H
           have aei:=decide_eq_true c46
           clear c46
           replace H:=iS H;obtain ⟨c47,H⟩:=H
           have Uv:=decide_eq_true c47
           (try simp only [cV] at Uv)
           clear c47
           replace H:=iS H;obtain ⟨c48,H⟩:=H
           have anI:=decide_eq_true c48
           clear c48
           replace H:=iS H;obtain ⟨c49,H⟩:=H
           have aej:=decide_eq_true c49
           (try simp only [cV] at aej)
           clear c49
           by_cases c50:a1=0
           case neg =>
            rw [if_neg c50] at H
            have Uw:=beq_eq_false_iff_ne.mpr c50
            have anJ:=bne_iff_ne.mpr c50
            replace H:=bS H;obtain ⟨t142,A51,H⟩:=H
            obtain ⟨IP,FT⟩:=nY (tW.set ((oI):Int).toNat t142:List Int)
            replace H:(cE.l3 k4 a1 aD as1 bC IP (Int.tmod (wrap64 (gA * (rd (ai aD (pL)) b7))) a1) b7 (t101.length:Int) bC ((ai as1 b7).length:Int) (wrap64 (sL+1)))=some r:=rH FT.z H
            have H':=k0 H
            clear H
            have ahK:decide (0≤bC)=true:=decide_eq_true (eW dS.out)
            have ahQ:decide (bC < (as1.length:Int))=true:=decide_eq_true (by have h_:=ct dS.out;have e_:=(Kd.as4 aI.z).1;omega)
            obtain ⟨mq,atX⟩:=iN bC (as1.length:Int)
            obtain ⟨avr,LZ,NV,e136,qc,wA,wo⟩:=b8 (Kd.as4 aI.z).2.2 bC mq atX
            obtain rfl:jS=avr:=(by injection e136)
            obtain ⟨Oe,CF,CA,wh⟩:=Kd.att aI.z [] bC mq (by first|exact atX|exact oD|(have e_:=(Kd.as4 aI.z).1;omega))
            obtain ⟨Rz,rfl,rD⟩:=CA
            have l9:=wh 0 _ rfl
            rw [Nat.add_zero,show ((Kd.slice 2 (Kd.int .i64))).sz=1 from rfl,Nat.mul_one] at l9
            replace l9:=Option.some.inj (l9.symm.trans qc)
            rw [l9] at rD
            have DO:=k0 (show Kd.R (Kd.int .i64) 2 _ _ _ _ (ai as1 bC) from rD)
            clear l9 rD
            have um:=k0 qc
            clear wh CF
            have xP:=k0 wo
            have Mi:=k0 wA
            clear wo wA
            replace mq:=eT mq
            replace atX:=eT atX
            obtain rfl:=qL dS.out um.z
            have ahL:decide (0≤b7)=true:=decide_eq_true (eW o6.out)
            have ahR:decide (b7 < (as1.length:Int))=true:=decide_eq_true (by have h_:=ct o6.out;have e_:=(Kd.as4 aI.z).1;omega)
            obtain ⟨oN,nj⟩:=iN b7 (as1.length:Int)
            obtain ⟨F6,aak,ad0,e137,CQ,Hr,Hf⟩:=b8 (Kd.as4 aI.z).2.2 b7 oN nj
            obtain rfl:jS=F6:=(by injection e137)
            obtain ⟨aeO,Pb,O2,G0⟩:=Kd.att aI.z [] b7 oN (by first|exact nj|exact oD|(have e_:=(Kd.as4 aI.z).1;omega))
            obtain ⟨ak6,rfl,Cx⟩:=O2
            have wL:=G0 0 _ rfl
            rw [Nat.add_zero,show ((Kd.slice 2 (Kd.int .i64))).sz=1 from rfl,Nat.mul_one] at wL
            replace wL:=Option.some.inj (wL.symm.trans CQ)
            rw [wL] at Cx
            have Jf:=k0 (show Kd.R (Kd.int .i64) 2 _ _ _ _ (ai as1 b7) from Cx)
            clear wL Cx
            have Aa:=k0 CQ
            clear G0 Pb
            have D1:=k0 Hf
            have aba:=k0 Hr
            clear Hf Hr
            replace oN:=eT oN
            replace nj:=eT nj
            obtain rfl:=qL o6.out Aa.z
            obtain ⟨Ba,Bi⟩:=iN sL ((ai as1 b7).length:Int)
            obtain ⟨T_,e138,zb⟩:=Kd.bK (by repeat (first|(with_reducible exact D1.z)|(with_reducible refine Kd.jO ?_ _)|(with_reducible refine Kd.jP ?_ _)|(with_reducible refine Kd.ij ?_)|exact D1.z)) sL Ba Bi
            cases e138
            replace Ba:=eT Ba
            replace Bi:=eT Bi
            try go_wp2
            replace aq:=k0 (Kd.dK aq.z);replace aI:=k0 (Kd.dK aI.z);replace dx:=k0 (Kd.di dx.z);replace DO:=k0 (Kd.di DO.z);replace Jf:=k0 (Kd.di Jf.z);replace xP:=k0 (Kd.ij xP.z);replace D1:=k0 (Kd.ij D1.z);replace um:=k0 ((show (wr.drew).cell? _=some _ from um.z));replace Aa:=k0 ((show (wr.drew).cell? _=some _ from Aa.z));replace HB:=k0 (eZ HB.z)
            obtain ⟨Du,Ew,Vl⟩:=Kd.b9 dx.z
            (first|subst Vl|(injection Vl with atu jq fc;have jr:=atu.symm;have js:=fc.symm;clear atu jq fc;subst jr;subst js))
            have Bb:0≤((oI):Int):=oD
            have Bj:(oI) < (tW.length:Int):=oD
            obtain ⟨NF,e139,uN⟩:=Kd.bK (Kd.bD dx.z).2.2 (oI) Bb Bj
            cases e139
            replace Bb:=eT Bb
            replace Bj:=eT Bj
            obtain ⟨uW,uZ⟩:=iN b7 (aD.length:Int)
            obtain ⟨Ef,alR,ad1,e140,tI,XI,Xq⟩:=b8 (Kd.as4 aq.z).2.2 b7 uW uZ
            obtain rfl:Ah=Ef:=(by injection e140)
            obtain ⟨aoa,agx,agi,Wk⟩:=Kd.att aq.z [] b7 uW (by first|exact uZ|exact oD|(have e_:=(Kd.as4 aq.z).1;omega))
            obtain ⟨asw,rfl,OG⟩:=agi
            have avC:=Wk 0 _ rfl
            rw [Nat.add_zero,show ((Kd.slice 2 (Kd.int .i64))).sz=1 from rfl,Nat.mul_one] at avC
            replace avC:=Option.some.inj (avC.symm.trans tI)
            rw [avC] at OG
            have abg:=k0 (show Kd.R (Kd.int .i64) 2 _ _ _ _ (ai aD b7) from OG)
            clear avC OG
            have abH:=k0 tI
            clear Wk agx
            have MM:=k0 Xq
            have amU:=k0 XI
            clear Xq XI
            replace uW:=eT uW
            replace uZ:=eT uZ
            obtain ⟨uX,u_⟩:=iN bC ((ai aD b7).length:Int)
            obtain ⟨Eg,e141,tJ⟩:=Kd.bK (by repeat (first|(with_reducible exact MM.z)|(with_reducible refine Kd.jO ?_ _)|(with_reducible refine Kd.jP ?_ _)|(with_reducible refine Kd.ij ?_)|exact MM.z)) bC uX u_
            cases e141
            replace uX:=eT uX
            replace u_:=eT u_
            refine atG (n:=24) (S:=fun w'=>w'.cell? (NF.add ((oI)).toNat)=some (.int .i64 (rd tW (oI)))∧w'.cell? (Ah.add (b7).toNat)=some (.slice (some Eg) (ai aD b7).length ad1)∧w'.cell? (Eg.add (bC).toNat)=some (.int .i64 (rd (ai aD b7) bC))) (ds:=[23]) (ba 24 0) (by kernel_rfl) rfl rfl ⟨uN,tI,tJ⟩ (fun hHeld=>?_);refine jX cE.akD cE.adx (fun aj bP=>?_)
            generalize wr.drew=w53 at aq aI dx DO Jf xP um D1 Aa HB abg MM abH uN tI tJ hHeld ⊢
            refine pu 0 (some 99) (ba 24 1) aj (h:=?_)
            refine pu 1 (some 100) (ba 24 3) aj (h:=?_)
            refine pu 2 (some 101) (ba 24 7) aj (h:=?_)
            refine pu 3 (some 102) (ba 24 15) aj (h:=?_)
            refine pu 4 (some 103) (ba 24 31) aj (h:=?_)
            refine pu 6 (some 105) (ba 24 95) aj (h:=?_)
            refine pu 7 (some 106) (ba 24 223) aj (h:=?_)
            refine pu 8 (some 107) (ba 24 479) aj (h:=?_)
            refine pu 9 (some 108) (ba 24 991) aj (h:=?_)
            refine pu 11 (some 110) (ba 24 3039) aj (h:=?_)
            refine pu 15 (some 114) (ba 24 35807) aj (h:=?_)
            refine pu 17 (some 116) (ba 24 166879) aj (h:=?_)
            refine pu 20 (some 119) (ba 24 1215455) aj (h:=?_)
            refine jA 5 (some 104) (ba 24 1215487) aj bP hHeld (h:=?_)
            refine jA 10 (some 109) (ba 24 1216511) aj bP hHeld (h:=?_)
            refine pu 12 (some 111) (ba 24 1220607) aj (h:=?_)
            refine jA 13 (some 112) (ba 24 1228799) aj bP hHeld (h:=?_)
            refine pu 14 (some 113) (ba 24 1245183) aj (h:=?_)
            refine pu 16 (some 115) (ba 24 1310719) aj (h:=?_)
            refine pu 18 (some 117) (ba 24 1572863) aj (h:=?_)
            refine pu 19 (some 118) (ba 24 2097151) aj (h:=?_)
            refine atw (i:=21) (N:=some 120) (ba 24 4194303) rfl rfl (atq aj.out (by kernel_rfl)) (by decide) (fun K hK=>?_)
            refine mI Try.func86 (by kernel_rfl) rfl #[.int .i64 (wrap64 ((rd tW (oI)) - (wrap64 ((Int.tmod (wrap64 ((Int.tmod (wrap64 (gA * (rd (ai aD (pL)) b7))) a1) * (rd (ai aD b7) bC))) a1) * (rd (ai as1 b7) sL))))),.int .i64 a1] (by rfl) rfl rfl (by (try simp only [List.map_toArray,List.map_cons,List.map_nil]);first|done|(simp only [tB,uG];rfl)|rfl|(simp only [List.length_drop,List.length_take];rfl)) ?_
            with_reducible refine (nZ.calls (wrap64 ((rd tW (oI)) - (wrap64 ((Int.tmod (wrap64 ((Int.tmod (wrap64 (gA * (rd (ai aD (pL)) b7))) a1) * (rd (ai aD b7) bC))) a1) * (rd (ai as1 b7) sL))))) a1 t142 _ A51.z).mono ?_
            rintro e w' ⟨rfl,⟨nd,rfl⟩⟩
            refine ⟨_,rfl,?_⟩
            have Qy:0≤((oI):Int):=oD
            have QZ:((oI):Int) < ((tW.length:Int):Int):=oD
            obtain ⟨J7,aoR,Vk,VP,afS,aoz,SB⟩:=Kd.aun dx.z (by omega)
            (first|cases Vk|(injection Vk with atd atk dM;(first|subst atd|(injection atd with atd;subst atd));subst dM;clear atk))
            have amn:=k0 VP
            have amD:=k0 SB
            clear VP afS SB
            (first|simp only [add_plain] at uN|skip)
            obtain ⟨arI,apy⟩:=Kd.nA 0 dx.z ((oI):Int) Qy QZ
            replace Qy:=eT Qy
            replace QZ:=eT QZ
            have ME:=Kd.Jy dx.z ((oI):Int) t142
            rw [← FT.z] at ME
            have abr:=k0 ME
            clear ME
            refine hK.out _ _ ⟨hHeld.1,hHeld.2.1,hHeld.2.2⟩ (fun hHeld=>?_)
            clear hK K
            refine hJ (a':=?_) ?_ ?_
            rotate_left;· show Act.put _ (some 120) _=_;simp only [Act.put,zI,zZ,zS,bp,bH];rfl
            refine pu 22 (some 121) (ba 24 8388607) aj (h:=?_)
            refine oK (i:=23) (N:=none) (ba 24 16777215) rfl rfl (atq aj.out (by kernel_rfl)) (by decide) (fun K hK=>?_)
            refine lf (w1:=?_) (by rfl) rfl ?_ ?_
            rotate_left;· go_simp;rfl
            refine hK.out _ _ ?_
            clear hK K
            refine gY (jU aj.out (by kernel_rfl)) ?_
            try go_wp2
            first|go_roundg k4|(simp only [← tA];go_roundg k4)|(simp only [← tB];go_roundg k4)|(simp only [← uG];go_roundg k4)|((try (have e_:=DE.out;injection e_ with eu kE atp;subst eu atp));(try (have e_:=DF.out;injection e_ with eu kE atp;subst eu atp));(try (have e_:=DG.out;injection e_ with eu kE atp;subst eu atp));(try (have e_:=DH.out;injection e_ with eu kE atp;subst eu atp));go_roundg k4)
            case measure=>have:=as3.z;have:=bw.z;have:=cS.z;have:=aty.z;omega
            case rel=>exact ⟨(IP),(wrap64 (sL+1)),rs,(by first|exact H'|(rw [tA];exact H')|(rw [tB];exact H')|(rw [uG];exact H')),⟨by have:=as3.z;have:=bw.z;have:=cS.z;have:=aty.z;omega⟩,⟨by (with_reducible repeat (first|apply cx.alloc|apply cx.drewN|apply cx.drew));(try refine cx.set ?_ (Kd.atC aI.z) (Kd.FX dx.z) rfl (by decide));first|exact ⟨_,_,_,rfl,(by first|exact of_eq_true mq|exact eW dS.out|omega),(by first|exact of_eq_true atX|exact ct dS.out|(have h_:=of_eq_true atX;omega)|(have h_:=ct dS.out;omega)),um.z⟩|(rw [← DG.out];exact ⟨_,_,_,rfl,(by first|exact of_eq_true mq|exact eW dS.out|omega),(by first|exact of_eq_true atX|exact ct dS.out|(have h_:=of_eq_true atX;omega)|(have h_:=ct dS.out;omega)),um.z⟩)⟩,⟨by (with_reducible repeat (first|apply cx.alloc|apply cx.drewN|apply cx.drew));(try refine cx.set ?_ (Kd.atC aI.z) (Kd.FX dx.z) rfl (by decide));first|exact ⟨_,_,_,rfl,(by first|exact of_eq_true oN|exact eW o6.out|omega),(by first|exact of_eq_true nj|exact ct o6.out|(have h_:=of_eq_true nj;omega)|(have h_:=ct o6.out;omega)),Aa.z⟩|(rw [← DH.out];exact ⟨_,_,_,rfl,(by first|exact of_eq_true oN|exact eW o6.out|omega),(by first|exact of_eq_true nj|exact ct o6.out|(have h_:=of_eq_true nj;omega)|(have h_:=ct o6.out;omega)),Aa.z⟩)⟩,⟨by (try simp only [cV]);(with_reducible repeat (first|apply Kd.gQ|apply Kd.atB|apply Kd.dK));exact Kd.bQ (Kd.lW (p:=⟨J7,((oI):Int).toNat,none⟩) (Kd.bQ aq.z (fun k_ hk=>(⟨hk,fun e_=>hk.2 (by rw [e_];rfl)⟩:_∧k_ ≠ J7))) (fun _ hk=>hk.2) (.int .i64 t142)) (fun _ hk=>⟨hk.1.1,hk.1.2⟩)⟩,⟨by (try simp only [cV]);(with_reducible repeat (first|apply Kd.gQ|apply Kd.atB|apply Kd.dK));exact Kd.bQ (Kd.lW (p:=⟨J7,((oI):Int).toNat,none⟩) (Kd.bQ aI.z (fun k_ hk=>(⟨hk,fun e_=>hk.2 (by rw [e_];rfl)⟩:_∧k_ ≠ J7))) (fun _ hk=>hk.2) (.int .i64 t142)) (fun _ hk=>⟨hk.1.1,hk.1.2⟩)⟩,⟨by (try simp only [cV]);(with_reducible repeat (first|apply Kd.kT|apply Kd.kU|apply Kd.di));exact abr.out⟩,⟨aL HB.z⟩⟩
           rw [if_pos c50] at H
           exact absurd H (by simp)
        rw [if_pos c38] at H
        exact absurd H (by simp)
     rw [if_pos c18] at H
     have au2:=decide_eq_true c18
     (try simp only [cV] at au2)
     clear c18
     replace H:=iS H;obtain ⟨c19,H⟩:=H
     have auB:=decide_eq_true c19
     clear c19
     replace H:=iS H;obtain ⟨c20,H⟩:=H
     have au3:=decide_eq_true c20
     (try simp only [cV] at au3)
     clear c20
     obtain ⟨mK,tA⟩:∃ j_:Int,(wrap64 (xy+1))=j_:=⟨_,rfl⟩
     replace H:(if 0≤(mK) then (if (mK) < (cJ.length:Int) then (if 0≤bC then (if bC < (aD.length:Int) then (if bC < ((ai aD bC).length:Int) then ((nZ.f (wrap64 ((rd cJ (mK)) - (wrap64 ((rd (ai aD bC) bC) * (rd (ai as1 bC) xy))))) a1).bind fun t127=>(cE.l1 k2 a1 aD as1 bC (cJ.set ((mK):Int).toNat t127) (t101.length:Int) bC ((ai as1 bC).length:Int) mK)) else (none)) else (none)) else (none)) else (none)) else (none))=some r:=by first|(rw [tA] at H;exact H)|(simp only [tA] at H ⊢;exact H)
     have aqb:(IntKind.i64.wrap (xy+1))=mK:=(bp _).trans tA
     replace H:=iS H;obtain ⟨c22,H⟩:=H
     have Cd:=decide_eq_true c22
     clear c22
     replace H:=iS H;obtain ⟨c23,H⟩:=H
     have yZ:=decide_eq_true c23
     (try simp only [cV] at yZ)
     clear c23
     replace H:=iS H;obtain ⟨c24,H⟩:=H
     have Aq:=decide_eq_true c24
     clear c24
     replace H:=iS H;obtain ⟨c25,H⟩:=H
     have Ce:=decide_eq_true c25
     (try simp only [cV] at Ce)
     clear c25
     replace H:=iS H;obtain ⟨c26,H⟩:=H
     have Cf:=decide_eq_true c26
     (try simp only [cV] at Cf)
     clear c26
     replace H:=bS H;obtain ⟨t127,BA,H⟩:=H
     obtain ⟨Bw,D6⟩:=nY (cJ.set ((mK):Int).toNat t127:List Int)
     replace H:(cE.l1 k2 a1 aD as1 bC Bw (t101.length:Int) bC ((ai as1 bC).length:Int) mK)=some r:=rH D6.z H
     have H':=k0 H
     clear H
     have ahI:decide (0≤bC)=true:=decide_eq_true (eW dS.out)
     have ahO:decide (bC < (as1.length:Int))=true:=decide_eq_true (by have h_:=ct dS.out;have e_:=(Kd.as4 aI.z).1;omega)
     obtain ⟨mN,kL⟩:=iN bC (as1.length:Int)
     obtain ⟨Ed,LY,NU,e122,oG,AM,AF⟩:=b8 (Kd.as4 aI.z).2.2 bC mN kL
     obtain rfl:jS=Ed:=(by injection e122)
     obtain ⟨UB,G3,GO,AA⟩:=Kd.att aI.z [] bC mN (by first|exact kL|exact oD|(have e_:=(Kd.as4 aI.z).1;omega))
     obtain ⟨Zy,rfl,auM⟩:=GO
     have qa:=AA 0 _ rfl
     rw [Nat.add_zero,show ((Kd.slice 2 (Kd.int .i64))).sz=1 from rfl,Nat.mul_one] at qa
     replace qa:=Option.some.inj (qa.symm.trans oG)
     rw [qa] at auM
     have DN:=k0 (show Kd.R (Kd.int .i64) 2 _ _ _ _ (ai as1 bC) from auM)
     clear qa auM
     have uk:=k0 oG
     clear AA G3
     have z8:=k0 AF
     have Sp:=k0 AM
     clear AF AM
     replace mN:=eT mN
     replace kL:=eT kL
     obtain rfl:=qL dS.out uk.z
     obtain ⟨A_,Bg⟩:=iN xy ((ai as1 bC).length:Int)
     obtain ⟨avX,e123,za⟩:=Kd.bK (by repeat (first|(with_reducible exact z8.z)|(with_reducible refine Kd.jO ?_ _)|(with_reducible refine Kd.jP ?_ _)|(with_reducible refine Kd.ij ?_)|exact z8.z)) xy A_ Bg
     cases e123
     replace A_:=eT A_
     replace Bg:=eT Bg
     try go_wp2
     replace aq:=k0 (Kd.dK aq.z);replace aI:=k0 (Kd.dK aI.z);replace dx:=k0 (Kd.di dx.z);replace DN:=k0 (Kd.di DN.z);replace z8:=k0 (Kd.ij z8.z);replace uk:=k0 ((show (wr.drew).cell? _=some _ from uk.z));replace HB:=k0 (eZ HB.z)
     obtain ⟨jN,jT,Vd⟩:=Kd.b9 dx.z
     (first|subst Vd|(injection Vd with atu jq fc;have jr:=atu.symm;have js:=fc.symm;clear atu jq fc;subst jr;subst js))
     have auU:0≤((mK):Int):=oD
     have auY:(mK) < (cJ.length:Int):=oD
     obtain ⟨Ag,e124,uM⟩:=Kd.bK (Kd.bD dx.z).2.2 (mK) auU auY
     cases e124
     replace auU:=eT auU
     replace auY:=eT auY
     obtain ⟨zk,zn⟩:=iN bC (aD.length:Int)
     obtain ⟨ND,aah,Uq,e125,tH,Hp,G_⟩:=b8 (Kd.as4 aq.z).2.2 bC zk zn
     cases e125
     obtain ⟨aeM,O_,O0,GY⟩:=Kd.att aq.z [] bC zk (by first|exact zn|exact oD|(have e_:=(Kd.as4 aq.z).1;omega))
     obtain ⟨ak4,rfl,Cv⟩:=O0
     have wJ:=GY 0 _ rfl
     rw [Nat.add_zero,show ((Kd.slice 2 (Kd.int .i64))).sz=1 from rfl,Nat.mul_one] at wJ
     replace wJ:=Option.some.inj (wJ.symm.trans tH)
     rw [wJ] at Cv
     have Mu:=k0 (show Kd.R (Kd.int .i64) 2 _ _ _ _ (ai aD bC) from Cv)
     clear wJ Cv
     have M4:=k0 tH
     clear GY O_
     have BZ:=k0 G_
     have aa':=k0 Hp
     clear G_ Hp
     replace zk:=eT zk
     replace zn:=eT zn
     obtain ⟨auV,auZ⟩:=iN bC ((ai aD bC).length:Int)
     obtain ⟨Ee,e126,wO⟩:=Kd.bK (by repeat (first|(with_reducible exact BZ.z)|(with_reducible refine Kd.jO ?_ _)|(with_reducible refine Kd.jP ?_ _)|(with_reducible refine Kd.ij ?_)|exact BZ.z)) bC auV auZ
     cases e126
     replace auV:=eT auV
     replace auZ:=eT auZ
     refine atG (n:=22) (S:=fun w'=>w'.cell? (Ag.add ((mK)).toNat)=some (.int .i64 (rd cJ (mK)))∧w'.cell? (ND.add (bC).toNat)=some (.slice (some Ee) (ai aD bC).length Uq)∧w'.cell? (Ee.add (bC).toNat)=some (.int .i64 (rd (ai aD bC) bC))) (ds:=[21]) (ba 22 0) (by kernel_rfl) rfl rfl ⟨uM,tH,wO⟩ (fun hHeld=>?_);refine jX cE.akx cE.adr (fun aj bP=>?_)
     generalize wr.drew=Iy at aq aI dx DN z8 uk HB Mu BZ M4 uM tH wO hHeld ⊢
     refine pu 0 (some 43) (ba 22 1) aj (h:=?_)
     refine pu 1 (some 44) (ba 22 3) aj (h:=?_)
     refine pu 2 (some 45) (ba 22 7) aj (h:=?_)
     refine pu 3 (some 46) (ba 22 15) aj (h:=?_)
     refine pu 4 (some 47) (ba 22 31) aj (h:=?_)
     refine pu 5 (some 48) (ba 22 63) aj (h:=?_)
     refine pu 6 (some 49) (ba 22 127) aj (h:=?_)
     refine pu 8 (some 51) (ba 22 383) aj (h:=?_)
     refine pu 9 (some 52) (ba 22 895) aj (h:=?_)
     refine pu 10 (some 53) (ba 22 1919) aj (h:=?_)
     refine pu 12 (some 55) (ba 22 6015) aj (h:=?_)
     refine pu 15 (some 58) (ba 22 38783) aj (h:=?_)
     refine pu 18 (some 61) (ba 22 300927) aj (h:=?_)
     refine jA 7 (some 50) (ba 22 301055) aj bP hHeld (h:=?_)
     refine jA 11 (some 54) (ba 22 303103) aj bP hHeld (h:=?_)
     refine pu 13 (some 56) (ba 22 311295) aj (h:=?_)
     refine jA 14 (some 57) (ba 22 327679) aj bP hHeld (h:=?_)
     refine pu 16 (some 59) (ba 22 393215) aj (h:=?_)
     refine pu 17 (some 60) (ba 22 524287) aj (h:=?_)
     refine atw (i:=19) (N:=some 62) (ba 22 1048575) rfl rfl (atq aj.out (by kernel_rfl)) (by decide) (fun K hK=>?_)
     refine mI Try.func86 (by kernel_rfl) rfl #[.int .i64 (wrap64 ((rd cJ (mK)) - (wrap64 ((rd (ai aD bC) bC) * (rd (ai as1 bC) xy))))),.int .i64 a1] (by rfl) rfl rfl (by (try simp only [List.map_toArray,List.map_cons,List.map_nil]);first|done|(simp only [tA];rfl)|rfl|(simp only [List.length_drop,List.length_take];rfl)) ?_
     with_reducible refine (nZ.calls (wrap64 ((rd cJ (mK)) - (wrap64 ((rd (ai aD bC) bC) * (rd (ai as1 bC) xy))))) a1 t127 _ BA.z).mono ?_
     rintro e w' ⟨rfl,⟨nd,rfl⟩⟩
     refine ⟨_,rfl,?_⟩
     have C2:0≤((mK):Int):=oD
     have C5:((mK):Int) < ((cJ.length:Int):Int):=oD
     obtain ⟨Ay,uA,Aw,Gw,OL,aeV,Fz⟩:=Kd.aun dx.z (by omega)
     (first|cases Aw|(injection Aw with atd atk dM;(first|subst atd|(injection atd with atd;subst atd));subst dM;clear atk))
     have Sg:=k0 Gw
     have aaR:=k0 Fz
     clear Gw OL Fz
     (first|simp only [add_plain] at uM|skip)
     obtain ⟨ahA,agX⟩:=Kd.nA 0 dx.z ((mK):Int) C2 C5
     replace C2:=eT C2
     replace C5:=eT C5
     have MC:=Kd.Jy dx.z ((mK):Int) t127
     rw [← D6.z] at MC
     have abq:=k0 MC
     clear MC
     refine hK.out _ _ ⟨hHeld.1,hHeld.2.1,hHeld.2.2⟩ (fun hHeld=>?_)
     clear hK K
     refine hJ (a':=?_) ?_ ?_
     rotate_left;· show Act.put _ (some 62) _=_;simp only [Act.put,zI,zZ,zS,bp,bH];rfl
     refine pu 20 (some 63) (ba 22 2097151) aj (h:=?_)
     refine oK (i:=21) (N:=none) (ba 22 4194303) rfl rfl (atq aj.out (by kernel_rfl)) (by decide) (fun K hK=>?_)
     refine lf (w1:=?_) (by rfl) rfl ?_ ?_
     rotate_left;· go_simp;rfl
     refine hK.out _ _ ?_
     clear hK K
     refine gY (jU aj.out (by kernel_rfl)) ?_
     try go_wp2
     first|go_roundg k2|(simp only [← tA];go_roundg k2)|(simp only [← tB];go_roundg k2)|(simp only [← uG];go_roundg k2)|((try (have e_:=DE.out;injection e_ with eu kE atp;subst eu atp));(try (have e_:=DF.out;injection e_ with eu kE atp;subst eu atp));(try (have e_:=DG.out;injection e_ with eu kE atp;subst eu atp));(try (have e_:=DH.out;injection e_ with eu kE atp;subst eu atp));go_roundg k2)
     case measure=>have:=as3.z;have:=bw.z;omega
     case rel=>exact ⟨(Bw),(mK),(by first|rfl|(simp;done)|(simp only [← tA]<;>(first|rfl|simp))|(simp [*];done)),(by first|exact H'|(rw [tA];exact H')|(rw [tB];exact H')|(rw [uG];exact H')),⟨by have:=as3.z;have:=bw.z;omega⟩,⟨by (with_reducible repeat (first|apply cx.alloc|apply cx.drewN|apply cx.drew));(try refine cx.set ?_ (Kd.atC aI.z) (Kd.FX dx.z) rfl (by decide));first|exact ⟨_,_,_,rfl,(by first|exact of_eq_true mN|exact eW dS.out|omega),(by first|exact of_eq_true kL|exact ct dS.out|(have h_:=of_eq_true kL;omega)|(have h_:=ct dS.out;omega)),uk.z⟩|(rw [← DE.out];exact ⟨_,_,_,rfl,(by first|exact of_eq_true mN|exact eW dS.out|omega),(by first|exact of_eq_true kL|exact ct dS.out|(have h_:=of_eq_true kL;omega)|(have h_:=ct dS.out;omega)),uk.z⟩)⟩,⟨by (try simp only [cV]);(with_reducible repeat (first|apply Kd.gQ|apply Kd.atB|apply Kd.dK));exact Kd.bQ (Kd.lW (p:=⟨Ay,((mK):Int).toNat,none⟩) (Kd.bQ aq.z (fun k_ hk=>(⟨hk,fun e_=>hk.2 (by rw [e_];rfl)⟩:_∧k_ ≠ Ay))) (fun _ hk=>hk.2) (.int .i64 t127)) (fun _ hk=>⟨hk.1.1,hk.1.2⟩)⟩,⟨by (try simp only [cV]);(with_reducible repeat (first|apply Kd.gQ|apply Kd.atB|apply Kd.dK));exact Kd.bQ (Kd.lW (p:=⟨Ay,((mK):Int).toNat,none⟩) (Kd.bQ aI.z (fun k_ hk=>(⟨hk,fun e_=>hk.2 (by rw [e_];rfl)⟩:_∧k_ ≠ Ay))) (fun _ hk=>hk.2) (.int .i64 t127)) (fun _ hk=>⟨hk.1.1,hk.1.2⟩)⟩,⟨by (try simp only [cV]);(with_reducible repeat (first|apply Kd.kT|apply Kd.kU|apply Kd.di));exact abq.out⟩,⟨aL HB.z⟩⟩
end Go.Proofs.Ytapnggjaeehpdaa.B
/- Set with little white space, by a program. -/
