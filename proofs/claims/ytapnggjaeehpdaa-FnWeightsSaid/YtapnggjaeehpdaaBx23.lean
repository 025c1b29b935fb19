/- Go's calls come to what the Lean functions say. Condition of each: that the Lean function answers. -/
import Derived.Test.YtapnggjaeehpdaaBx0
import Derived.Test.YtapnggjaeehpdaaBx10
import Derived.Test.YtapnggjaeehpdaaBx12
import Derived.Test.YtapnggjaeehpdaaBx13
import Derived.Test.YtapnggjaeehpdaaBx16
import Derived.Test.YtapnggjaeehpdaaBx17
import Derived.Test.YtapnggjaeehpdaaBx22
namespace Go.Proofs.Ytapnggjaeehpdaa.B
open Go.RowKit Go.Proofs.bz.dI Go.Proofs.bz.iY Go.Proofs.bz.jn
attribute [local go_sem] max2_int min2_int max_two min_two max_three min_three max_four min_four
set_option linter.unusedVariables false
set_option linter.unusedSimpArgs false
set_option maxHeartbeats 8000000
set_option maxRecDepth 100000
/-! ### F43: function 43 -/
mutual
def ir.j0 : Nat → Int → List Int → List Int → Int → Bool → Option (Int × Int)
 | 0,_,_,_,_,_=>none
 | k+1,x0,x2,x3,eS,nr=>if nr=true then (ir.j1 k x0 x2 x3 2) else (ir.j1 k x0 x2 x3 eS)
def ir.j1 : Nat → Int → List Int → List Int → Int → Option (Int × Int)
 | 0,_,_,_,_=>none
 | k+1,x0,x2,x3,eS=>if eS=0 then (ir.l0 k x0 x2 x3 1 0) else (some (0,eS))
def ir.l0 : Nat → Int → List Int → List Int → Int → Int → Option (Int × Int)
 | 0,_,_,_,_,_=>none
 | k+1,x0,x2,x3,atx,bA=>if bA < (x3.length:Int) then (if 0≤bA then (if 0≤(rd x3 bA) then (if (rd x3 bA) < (x2.length:Int) then (if x0=0 then (none) else (ir.l0 k x0 x2 x3 (Int.tmod (wrap64 (atx * (rd x2 (rd x3 bA)))) x0) (wrap64 (bA+1)))) else (none)) else (none)) else (none)) else (some (atx,0))
end
def ir.f (k:Nat) (a0:Int) (aE:Int) (az:List (List Int)) (l2:List Int) (l3:List Int):Option (Int × Int):=(mU.f k a0 aE az l2).bind fun t102=>(if t102=0 then ((aus.f k aE az l3).bind fun t103=>(ir.j0 k a0 l2 l3 t102 (!t103))) else (ir.j0 k a0 l2 l3 t102 false))
theorem ir.calls (k : Nat) (a0 : Int) (aE : Int) (atb : Option Addr) (atc : Nat) (az : List (List Int)) (A2 : Option Addr) (c2 : Nat) (l2 : List Int) (A3 : Option Addr) (c3 : Nat) (l3 : List Int) (r1 : Int) (r2 : Int) (w : World) (iB : Kd.C (Kd.slice 2 (Kd.int .i64)) w atb az.length az) (iz : az.length ≤ atc) (atQ : Kd.C (Kd.int .i64) w A2 l2.length l2) (at4 : l2.length ≤ c2) (sy : Kd.C (Kd.int .i64) w A3 l3.length l3) (v_ : l3.length ≤ c3) (h : ir.f k a0 aE az l2 l3 = some (r1, r2)) :
  Calls Try.prog 43 #[.int .i64 a0,.agg #[.int .i64 aE,.slice atb az.length atc],.slice A2 l2.length c2,.slice A3 l3.length c3] w fun e w'=>e=.returned (.tuple #[.int .i64 r1,.int .i64 r2])∧Below w.heap.size w w':=by
 have gV:=Try.underlying26
 have ep:=k0 iB
 have eo:=k0 iz
 clear iB iz
 have iX:=k0 atQ
 have atO:=k0 at4
 clear atQ at4
 have uj:=k0 sy
 have avb:=k0 v_
 clear sy v_
 have HB:=k0 (Below.refl w.heap.size w)
 unfold ir.f at h
 have H:=h
 clear h
 replace H:=bS H;obtain ⟨t102,A5,H⟩:=H
 have BR:=k0 H
 clear H
 go_enter Try.func43,Try.ntmps43
 go_upto_region 2 with (first|(refine aX (N:=5) rfl ?_;refine dL 5 #[.int .i64 aE,.slice atb az.length atc] 26 bl ?_;intro ay w7 aa bn HB;have cG:=bn;obtain ⟨_,_,_,_⟩:=as9 aa)|(refine aT (f:=81) rfl ?_;refine gC (some 16) Try.func81 #[.int .i64 a0,.agg #[.int .i64 aE,.slice atb az.length atc],.slice A2 l2.length c2] ?_;(with_reducible refine (mU.calls k a0 aE _ _ az _ _ l2 t102 _ ?av ?ax ?bM ?bT A5.z).mono ?_);(case av=>exact aC (Kd.bL ep.z HB.z));(case ax=>exact eo.z);(case bM=>exact aC (Kd.bL iX.z HB.z));(case bT=>exact atO.z);rintro e w9 ⟨rfl,hb⟩;refine ⟨_,rfl,?_⟩;replace aa:=kB aa hb;replace HB:=bW hb))
 (try simp only [Act.put,zI,zZ,zS])
 go_cut [24] (fun Rs wc=>∃ (kq:Nat) (LI:Bool),Rs=.bool LI∧af (ir.j0 kq a0 l2 l3 t102 LI=some (r1,r2))∧af (kq≤k)∧af (wc.heap[ay]?=some (sO aE atb az atc 26))∧af (Below w.heap.size w wc))
 case first =>
  have H:=BR.z
  clear BR
  replace H:=iE H;obtain ⟨c10,iw,Al,H⟩|⟨iw,Al,H⟩:=H
  case inl =>
   (first|rw [iw]|(simp only [bp,bH];rw [iw])|skip)
   have H':=k0 H
   clear H
   go_wp2
   go_meet
   case rel=>exact ⟨_,(false),rs,H',⟨oL⟩,⟨bk⟩,⟨bl⟩⟩
  (first|rw [iw]|(simp only [bp,bH];rw [iw])|skip)
  replace H:=bS H;obtain ⟨t103,xE,H⟩:=H
  have H':=k0 H
  clear H
  obtain ⟨_,_,_,_⟩:=as9 aa
  go_wp2_with (first|(go_at_call 95;(with_reducible refine (aus.calls k aE _ _ az _ _ l3 t103 _ ?av ?ax ?bM ?bT xE.z).mono ?_);(case av=>exact aC (Kd.bL ep.z HB.z));(case ax=>exact eo.z);(case bM=>exact aC (Kd.bL uj.z HB.z));(case bT=>exact avb.z);rintro e rK ⟨rfl,hb⟩;replace aa:=kB aa hb;replace HB:=bW hb))
  go_meet
  case rel=>exact ⟨_,(!t103),rs,H',⟨oL⟩,⟨bk⟩,⟨bl⟩⟩
 case rest =>
  clear BR
  obtain ⟨kq,LI,rfl,HA,q9,aa,HB⟩:=hcut
  cases kq with
  | zero=>exact absurd HA.z (by simp [ir.j0])
  | succ PW =>
   have H:=HA.z
   clear HA
   simp only [ir.j0] at H
   have BQ:=k0 H
   clear H
   go_upto_if 24 with (fail)
   go_cut [10] (fun v10 wc=>∃ (kq:Nat) (RT:Int),v10=.int .i64 RT∧af (ir.j1 kq a0 l2 l3 RT=some (r1,r2))∧af (kq≤PW)∧af (wc.heap[ay]?=some (sO aE atb az atc 26))∧af (Below w.heap.size w wc))
   case first =>
    have H:=BQ.z
    clear BQ
    cases LI
    case false =>
     replace H:=iF H
     have H':=k0 H
     clear H
     go_wp2
     go_meet
     case rel=>exact ⟨_,(t102),rs,H',⟨by have:=q9.out;first|omega|exact Nat.le_refl _⟩,⟨bk⟩,⟨bl⟩⟩
    replace H:=iT H
    have H':=k0 H
    clear H
    go_wp2
    go_meet
    case rel=>exact ⟨_,(2),rs,H',⟨by have:=q9.out;first|omega|exact Nat.le_refl _⟩,⟨bk⟩,⟨bl⟩⟩
   case rest =>
    clear BQ
    obtain ⟨kq,RT,rfl,HA,aut,aa,HB⟩:=hcut
    cases kq with
    | zero=>exact absurd HA.z (by simp [ir.j1])
    | succ wV =>
     have H:=HA.z
     clear HA
     simp only [ir.j1] at H
     replace H:=iE H;obtain ⟨c16,auo,JO,H⟩|⟨auo,JO,H⟩:=H
     case inl =>
      obtain ⟨rfl,rfl⟩:=mT H
      go_wp2
      go_ret2
      exact ⟨eR,bl⟩
     have H':=k0 H
     clear H
     go_wp2
     go_loopg [11,12] wV (fun kq v11 sD w'=>∃ (gA:Int) (b7:Int),v11=.int .i64 gA∧sD=.int .i64 b7∧af (ir.l0 kq a0 l2 l3 gA b7=some (r1,r2))∧af (kq≤wV)∧af (w'.heap[ay]?=some (sO aE atb az atc 26))∧af (Below w.heap.size w w'))
     case atStart=>exact ⟨(1),(0),rs,rs,H',⟨Nat.le_refl _⟩,⟨bk⟩,⟨bl⟩⟩
     case round =>
      clear H'
      obtain ⟨gA,b7,rfl,rfl,HA,cS,aa,HB⟩:=hrel
      cases gk with
      | zero=>exact absurd HA.z (by simp [ir.l0])
      | succ k3 =>
       have H:=HA.z
       clear HA
       simp only [ir.l0] at H
       replace H:=iC H;obtain ⟨Ap,H⟩|⟨Ap,H⟩:=H
       case inl =>
        obtain ⟨rfl,rfl⟩:=mT H
        go_wp2
        go_ret2
        exact ⟨eR,bl⟩
       replace H:=iS H;obtain ⟨c18,H⟩:=H
       have au2:=decide_eq_true c18
       clear c18
       replace H:=iS H;obtain ⟨c19,H⟩:=H
       have auB:=decide_eq_true c19
       clear c19
       replace H:=iS H;obtain ⟨c20,H⟩:=H
       have au3:=decide_eq_true c20
       clear c20
       by_cases c21:a0=0
       case neg =>
        rw [if_neg c21] at H
        have ow:=beq_eq_false_iff_ne.mpr c21
        have En:=bne_iff_ne.mpr c21
        have H':=k0 H
        clear H
        obtain ⟨cC,cD⟩:=iN b7 (l3.length:Int)
        obtain ⟨jE,e104,cM⟩:=Kd.bK uj.z b7 cC cD
        cases e104
        replace cM:=hbc HB cM
        replace cC:=eT cC
        replace cD:=eT cD
        have dm:0≤((rd l3 b7):Int):=oD
        have c_:(rd l3 b7) < (l2.length:Int):=oD
        obtain ⟨jo,e105,dO⟩:=Kd.bK iX.z (rd l3 b7) dm c_
        cases e105
        replace dO:=hbc HB dO
        replace dm:=eT dm
        replace c_:=eT c_
        go_wp2
        go_roundg k3
        case measure=>have:=q9.out;have:=aut.out;have:=cS.z;omega
        case rel=>exact ⟨(Int.tmod (wrap64 (gA * (rd l2 (rd l3 b7)))) a0),(wrap64 (b7+1)),rs,rs,H',⟨by have:=q9.out;have:=aut.out;have:=cS.z;omega⟩,⟨bk⟩,⟨bl⟩⟩
       rw [if_pos c21] at H
       exact absurd H (by simp)
/-! ### F44: function 44 -/
def auD.f (l0:List Int) (a1:Int):Option (Int):=if a1 < (l0.length:Int) then (if 0≤a1 then (some (rd l0 a1)) else (none)) else (some 0)
theorem auD.calls (A0 : Option Addr) (c0 : Nat) (l0 : List Int) (a1 : Int) (r : Int) (w : World) (bX : Kd.C (Kd.int .i64) w A0 l0.length l0) (hc0 : l0.length ≤ c0) (h : auD.f l0 a1 = some r) :
  Calls Try.prog 44 #[.slice A0 l0.length c0,.int .i64 a1] w fun e w'=>e=.returned (.int .i64 r)∧iV w w':=by
 have dh:=k0 bX
 have gG:=k0 hc0
 clear bX hc0
 unfold auD.f at h
 have H:=h
 clear h
 replace H:=iC H;obtain ⟨lC,H⟩|⟨lC,H⟩:=H
 case inl =>
  obtain rfl:=Option.some.inj H
  go_enter Try.func44,Try.ntmps44
  go_wp2
  go_ret
  exact ⟨rs,dW⟩
 replace H:=iS H;obtain ⟨c4,H⟩:=H
 have gI:=decide_eq_true c4
 clear c4
 obtain rfl:=Option.some.inj H
 obtain ⟨atK,atL⟩:=iN a1 (l0.length:Int)
 obtain ⟨ry,e101,pJ⟩:=Kd.bK dh.z a1 atK atL
 cases e101
 replace atK:=eT atK
 replace atL:=eT atL
 go_enter Try.func44,Try.ntmps44
 go_wp2
 go_ret
 exact ⟨rs,dW⟩
/-! ### F100: function 100 -/
mutual
def gv.l0 : Nat → List (List Int) → List Int → List (List Int) → Int → Option (List Int)
 | 0,_,_,_,_=>none
 | k+1,x0,x3,x4,x5=>if x5≤(x0.length:Int) then ((fy.f k x0 x4).bind fun t110=>(gv.l1 k x0 x3 t110 x5 (t110.length:Int) 0)) else ((nv.f k x3).bind fun t107=>(some t107))
def gv.l1 : Nat → List (List Int) → List Int → List (List Int) → Int → Int → Int → Option (List Int)
 | 0,_,_,_,_,_,_=>none
 | k+1,x0,x3,x4,x5,mQ,atl=>if atl < mQ then (if 0≤atl then (if atl < (x4.length:Int) then (if atl < ((ai x4 atl).length:Int) then (if 0≤(wrap64 (x5 - 1)) then (if (wrap64 (x5 - 1)) < (x3.length:Int) then (gv.l1 k x0 x3 (x4.set (atl:Int).toNat ((ai x4 atl).set (atl:Int).toNat (wrap64 ((rd (ai x4 atl) atl)+(rd x3 (wrap64 (x5 - 1))))))) x5 mQ (wrap64 (atl+1))) else (none)) else (none)) else (none)) else (none)) else (none)) else ((fy.f k x0 x4).bind fun t119=>((auh.f k t119).bind fun t122=>(if x5=0 then (none) else (if x3.length < 17592186044416 then (gv.l0 k x0 (x3 ++ [wrap64 (Int.tdiv (wrap64 (-t122)) x5)]) x4 (wrap64 (x5+1))) else (none)))))
end
def gv.f (k:Nat) (l0:List (List Int)):Option (List Int):=(lR.f k (l0.length:Int)).bind fun t104=>(gv.l0 k l0 (([1]:List Int)) t104 1)
def gv.T9:Bool × List (List Nat × List Nat):=(true,[([],[]),([],[]),([0,1],[0,1]),([2],[2]),([],[]),([3,4],[3,4]),([5],[5]),([],[]),([],[]),([8],[8]),([7,9],[7,9]),([10],[10]),([6,11],[6,11]),([3,4,0,1,2,3,4,5,6,7,8,9,10,11,12],[3,4]),([13,12,0,1,2,3,4,5,6,7,8,9,10,11,12],[12,13])])
def gv.B9:List Nat:=[0,0,3,7,0,31,63,0,0,256,896,1920,4095,8191,16383]
theorem gv.Im:eB .any (opsOf Try.f100 9)=gv.T9:=by kernel_rfl
theorem gv.F7:ie gv.T9.2 gv.B9=true:=by kernel_rfl
theorem gv.calls (k : Nat) (A0 : Option Addr) (c0 : Nat) (l0 : List (List Int)) (r : List Int) (w : World) (bX : Kd.C (Kd.slice 2 (Kd.int .i64)) w A0 l0.length l0) (hc0 : l0.length ≤ c0) (h : gv.f k l0 = some r) :
  Calls Try.prog 100 #[.slice A0 l0.length c0] w fun e w'=>∃ ati:Value,e=.returned (ati)∧Kd.R (Kd.int .i64) 2 w' w.heap.size (fun _=>True) ati r∧Below w.heap.size w w':=by
 have dh:=k0 bX
 have gG:=k0 hc0
 clear bX hc0
 have HB:=k0 (Below.refl w.heap.size w)
 unfold gv.f at h
 have H:=h
 clear h
 obtain ⟨atN,gH⟩:=nY (([1]:List Int):List Int)
 replace H:((lR.f k (l0.length:Int)).bind fun t104=>(gv.l0 k l0 atN t104 1))=some r:=rH gH.z H
 replace H:=bS H;obtain ⟨t104,A2,H⟩:=H
 have H':=k0 H
 clear H
 go_enter Try.func100,Try.ntmps100
 go_wp2_with (first|(refine aX (N:=7) rfl ?_;refine jM 2 (N:=7) (xs:=([1]:List Int)) (inner:=[.int .i64 1]) (aJ.one (show Kd.M (Kd.int .i64) _ _ _ 1 [.int .i64 1] from rfl) (aJ.none _ _)) ?_;intro nO w3 fM hb bR atf;clear bR atf;(first|rw [← gH.z] at fM|(simp only [Int.reduceToNat] at fM;rw [← gH.z] at fM));have eV:=k0 (Kd.cg fM (as8 bl));replace HB:=bW hb;clear hb fM)|(refine aT (f:=122) rfl ?_;refine gC (some 10) Try.func122 #[.int .i64 (l0.length:Int)] ?_;(with_reducible refine (lR.calls k (l0.length:Int) t104 _ A2.z).mono ?_);rintro e w5 ⟨qV,rfl,as2,hb⟩;refine ⟨_,rfl,?_⟩;have dG:=k0 (Kd.jD (Kd.uw as2 (Kd.bV (aR eV.z))) (as8 bl));replace eV:=eI eV hb;replace HB:=bW hb))
 go_loopg [3,4,5] k (fun kq v3 v4 v5 w'=>∃ (cQ:List Int) (kz:List (List Int)) (aD:Int),v5=.int .i64 aD∧af (gv.l0 kq l0 cQ kz aD=some r)∧af (kq≤k)∧af (Kd.R (Kd.int .i64) 2 w' w.heap.size (fun _=>True) v3 cQ)∧af (Kd.S (Kd.slice 2 (Kd.int .i64)) 29 w' w.heap.size (fun k_=>some k_ ≠ (v3:Value).ownBlock) v4 kz)∧af (Below w.heap.size w w'))
 case atStart=>exact ⟨(atN),(t104),(1),rs,H',⟨Nat.le_refl _⟩,⟨aR (eV.z)⟩,⟨aS (Kd.bQ dG.z (fun _ hk=>hk.2))⟩,⟨bl⟩⟩
 case round =>
  clear H'
  obtain ⟨cQ,kz,aD,rfl,HA,as3,cr,jR,HB⟩:=hrel
  cases gk with
  | zero=>exact absurd HA.z (by simp [gv.l0])
  | succ k1 =>
   have H:=HA.z
   clear HA
   simp only [gv.l0] at H
   replace H:=iC H;obtain ⟨iP,H⟩|⟨iP,H⟩:=H
   case inl =>
    replace H:=bS H;obtain ⟨t107,Ds,H⟩:=H
    obtain rfl:=Option.some.inj H
    obtain ⟨xI,pz,rfl⟩:=Kd.b9 cr.z
    go_wp2_with (first|(refine aT (f:=118) rfl ?_;refine gC (some 51) Try.func118 #[.slice xI cQ.length pz] ?_;(with_reducible refine (nv.calls k1 (fun k_=>some k_=(.slice xI cQ.length pz:Value).ownBlock) _ _ cQ t107 _ ?av Ds.z).mono ?_);(case av=>exact Kd.Ny (Kd.om rfl (Kd.iZ (cr.z) (Kd.atC jR.z) (by decide))));rintro e Iz ⟨xk,rfl,as2,hb⟩;refine ⟨_,rfl,?_⟩;replace jR:=kg jR (Kd.bh as2) hb;have fj:=k0 (Kd.cg (Kd.cU (Kd.aH (ok':=fun k_=>True) as2 (fun _ aU=>trivial)) (Kd.bV (aR cr.z))) (as8 bl));replace cr:=eO cr (Kd.bh as2) hb;replace HB:=bW hb))
    go_ret
    exact ⟨_,eR,aR (Kd.aH fj.z (fun _ hk=>trivial)),bl⟩
   replace H:=bS H;obtain ⟨t110,A7,H⟩:=H
   have H':=k0 H
   clear H
   obtain ⟨xK,x_,rfl⟩:=Kd.er jR.z
   go_wp2_with (first|(refine aT (f:=87) rfl ?_;refine gC (some 19) Try.func87 #[.slice A0 l0.length c0,.slice xK kz.length x_] ?_;(with_reducible refine (fy.calls k1 _ _ l0 _ _ kz t110 _ ?av ?ax ?bM ?bT A7.z).mono ?_);(case av=>exact aC (Kd.bL dh.z HB.z));(case ax=>exact gG.z);(case bM=>exact aC ((Kd.as4 jR.z).2.2));(case bT=>exact (Kd.as4 jR.z).2.1);rintro e w9 ⟨zx,rfl,as2,hb⟩;refine ⟨_,rfl,?_⟩;have nw:=k0 (Kd.jD (Kd.uw (Kd.uw as2 (Kd.bV (aR cr.z))) (Kd.yS (aS jR.z))) (as8 bl));replace cr:=eI cr hb;replace jR:=kg jR (Kd.Ad as2) hb;replace HB:=bW hb;obtain ⟨zP,At,rfl⟩:=Kd.er nw.z))
   go_loopg [22] k1 (fun kq Ir w'=>∃ (bZ:List Int) (fQ:List (List Int)) (fG:Int),Ir=.int .i64 fG∧af (gv.l1 kq l0 bZ fQ aD (t110.length:Int) fG=some r)∧af (kq≤k1)∧af (Kd.R (Kd.int .i64) 2 w' w.heap.size (fun _=>True) u3 bZ)∧af (Kd.S (Kd.slice 2 (Kd.int .i64)) 29 w' w.heap.size (fun k_=>some k_ ≠ (u3:Value).ownBlock) (.slice zP t110.length At) fQ)∧af (Below w.heap.size w w'))
   case atStart=>exact ⟨(cQ),(t110),(0),rs,H',⟨Nat.le_refl _⟩,⟨aR (cr.z)⟩,⟨aS (Kd.bQ nw.z (fun _ hk=>hk.1.2))⟩,⟨bl⟩⟩
   case round =>
    clear H'
    obtain ⟨bZ,fQ,fG,rfl,HA,bw,cr,jR,HB⟩:=hrel
    have sr:=(Kd.as4 jR.z).1
    rw [sr] at jR
    (try simp only [sr])
    (try simp only [sr] at cr)
    cases gk with
    | zero=>exact absurd HA.z (by simp [gv.l1])
    | succ k2 =>
     have H:=HA.z
     clear HA
     simp only [gv.l1] at H
     by_cases c11:fG < (t110.length:Int)
     case neg =>
      rw [if_neg c11] at H
      have kW:=decide_eq_false c11
      (try simp only [sr] at kW)
      clear c11
      replace H:=bS H;obtain ⟨t119,zO,H⟩:=H
      replace H:=bS H;obtain ⟨t122,Dr,H⟩:=H
      by_cases c25:aD=0
      case neg =>
       rw [if_neg c25] at H
       have Ce:=beq_eq_false_iff_ne.mpr c25
       have Ut:=bne_iff_ne.mpr c25
       replace H:=iS H;obtain ⟨c26,H⟩:=H
       have Ng:=k0 c26
       clear c26
       obtain ⟨atH,rX⟩:=nY (bZ ++ [wrap64 (Int.tdiv (wrap64 (-t122)) aD)]:List Int)
       replace H:(gv.l0 k2 l0 atH fQ (wrap64 (aD+1)))=some r:=rH rX.z H
       have H':=k0 H
       clear H
       go_wp2_with (first|(refine aT (f:=87) rfl ?_;refine gC (some 43) Try.func87 #[.slice A0 l0.length c0,.slice zP fQ.length At] ?_;(with_reducible refine (fy.calls k2 _ _ l0 _ _ fQ t119 _ ?av ?ax ?bM ?bT zO.z).mono ?_);(case av=>exact aC (Kd.bL dh.z HB.z));(case ax=>exact gG.z);(case bM=>exact aC ((Kd.as4 jR.z).2.2));(case bT=>exact (Kd.as4 jR.z).2.1);rintro e Da ⟨akR,rfl,as2,hb⟩;refine ⟨_,rfl,?_⟩;have z4:=k0 (Kd.jD (Kd.uw (Kd.uw as2 (Kd.bV (aR cr.z))) (Kd.yS (aS jR.z))) (as8 bl));replace cr:=eI cr hb;replace jR:=kg jR (Kd.Ad as2) hb;replace HB:=bW hb;obtain ⟨xH,uA,rfl⟩:=Kd.er z4.z)|(refine aT (f:=58) rfl ?_;refine gC (some 44) Try.func58 #[.slice xH t119.length uA] ?_;(with_reducible refine (auh.calls k2 _ _ t119 t122 _ ?av ?ax Dr.z).mono ?_);(case av=>exact aC ((Kd.as4 z4.z).2.2));(case ax=>exact (Kd.as4 z4.z).2.1);rintro e w' ⟨rfl,⟨nd,rfl⟩⟩;refine ⟨_,rfl,?_⟩)|((with_reducible refine ji (b:=.append) (xs:=#[.tmp 40,.tmp 48]) rfl ?_);at_builtin;refine Kd.oh (Kd.int .i64) (w0:=w) w.heap.size rfl (.tmp 40) (.tmp 48) 29 2 (.int .i64 0) 8 rfl Try.underlying29 ju rfl (by decide) (by omega) u3 bZ (wrap64 (Int.tdiv (wrap64 (-t122)) aD)) [.int .i64 (wrap64 (Int.tdiv (wrap64 (-t122)) aD))] (fun _=>True) (fun _=>False) rfl rfl ?aP (fun _ hk=>hk.elim) ?aF ?aO ?aB ?aS ?aL ?_;(case aP=>exact rfl);(case aB=>exact bl);(case aF=>exact (fun _ _=>trivial));(case aO=>exact (aR cr.z));(case aS=>exact (as8 bl));(case aL=>have:=Ng.out;omega);intro Fa Iy ho hb hg a_;rw [← rX.z] at ho;replace jR:=k0 (Kd.uu (ok:=(fun k_=>some k_ ≠ (.slice xH t119.length uA:Value).ownBlock)) (aS (Kd.bQ jR.z (fun _ hk=>⟨hk.2,hk.1⟩))) hg a_);replace z4:=k0 (Kd.uu (ok:=(fun k_=>some k_ ≠ (.slice zP fQ.length At:Value).ownBlock)) (aS (Kd.bQ z4.z (fun _ hk=>⟨hk.2,hk.1.2⟩))) hg a_);replace HB:=k0 hb;have cP:=k0 ho;clear cr;clear ho hb hg a_))
       (try simp only [← sr])
       first|go_roundg k2|(simp only [← si];go_roundg k2)
       case measure=>have:=as3.z;have:=bw.z;omega
       case rel=>exact ⟨(atH),(fQ),(wrap64 (aD+1)),rs,(by first|exact H'|(rw [si];exact H')),⟨by have:=as3.z;have:=bw.z;omega⟩,⟨by (try simp only [sr]);(with_reducible repeat (first|apply Kd.kT|apply Kd.kU|apply Kd.di));exact cP.z⟩,⟨by (try simp only [sr]);(with_reducible repeat (first|apply Kd.gQ|apply Kd.atB|apply Kd.dK));exact Kd.bQ jR.z (fun _ hk=>hk.2)⟩,⟨bl⟩⟩
      rw [if_pos c25] at H
      exact absurd H (by simp)
     rw [if_pos c11] at H
     have kW:=decide_eq_true c11
     (try simp only [sr] at kW)
     clear c11
     replace H:=iS H;obtain ⟨c12,H⟩:=H
     have pg:=decide_eq_true c12
     clear c12
     replace H:=iS H;obtain ⟨c13,H⟩:=H
     have qF:=decide_eq_true c13
     (try simp only [sr] at qF)
     clear c13
     replace H:=iS H;obtain ⟨c14,H⟩:=H
     have ov:=decide_eq_true c14
     (try simp only [sr] at ov)
     clear c14
     obtain ⟨k9,si⟩:∃ j_:Int,(wrap64 (aD - 1))=j_:=⟨_,rfl⟩
     replace H:(if 0≤(k9) then (if (k9) < (bZ.length:Int) then (gv.l1 k2 l0 bZ (fQ.set (fG:Int).toNat ((ai fQ fG).set (fG:Int).toNat (wrap64 ((rd (ai fQ fG) fG)+(rd bZ (k9)))))) aD (t110.length:Int) (wrap64 (fG+1))) else (none)) else (none))=some r:=by first|(rw [si] at H;exact H)|(simp only [si] at H ⊢;exact H)
     have aqa:(IntKind.i64.wrap (aD - 1))=k9:=(bp _).trans si
     replace H:=iS H;obtain ⟨c16,H⟩:=H
     have auo:=decide_eq_true c16
     clear c16
     replace H:=iS H;obtain ⟨c17,H⟩:=H
     have Ap:=decide_eq_true c17
     (try simp only [sr] at Ap)
     clear c17
     obtain ⟨tZ,xU⟩:=nY ((ai fQ fG).set (fG:Int).toNat (wrap64 ((rd (ai fQ fG) fG)+(rd bZ (k9)))):List Int)
     replace H:(gv.l1 k2 l0 bZ (fQ.set (fG:Int).toNat tZ) aD (t110.length:Int) (wrap64 (fG+1)))=some r:=rH xU.z H
     obtain ⟨lq,og⟩:=nY (fQ.set (fG:Int).toNat tZ:List (List Int))
     replace H:(gv.l1 k2 l0 bZ lq aD (t110.length:Int) (wrap64 (fG+1)))=some r:=rH og.z H
     have H':=k0 H
     clear H
     try go_wp2
     replace cr:=k0 (Kd.di cr.z);replace jR:=k0 (Kd.dK jR.z);replace HB:=k0 (eZ HB.z)
     obtain ⟨avm,Bf⟩:=iN fG (fQ.length:Int)
     obtain ⟨NC,aad,avR,e113,y_,Hl,G8⟩:=b8 (Kd.as4 jR.z).2.2 fG avm Bf
     cases e113
     obtain ⟨an5,agq,aga,Wd⟩:=Kd.att jR.z [] fG avm (by first|exact Bf|exact oD|(have e_:=(Kd.as4 jR.z).1;omega))
     obtain ⟨asp,rfl,Oy⟩:=aga
     have Hz:=Wd 0 _ rfl
     rw [Nat.add_zero,show ((Kd.slice 2 (Kd.int .i64))).sz=1 from rfl,Nat.mul_one] at Hz
     replace Hz:=Option.some.inj (Hz.symm.trans y_)
     rw [Hz] at Oy
     have Je:=k0 (show Kd.R (Kd.int .i64) 2 _ _ _ _ (ai fQ fG) from Oy)
     clear Hz Oy
     have M3:=k0 y_
     clear Wd agq
     have D0:=k0 G8
     have aa7:=k0 Hl
     clear G8 Hl
     replace avm:=eT avm
     replace Bf:=eT Bf
     obtain ⟨uV,uY⟩:=iN fG ((ai fQ fG).length:Int)
     obtain ⟨jS,e114,uL⟩:=Kd.bK (by repeat (first|(with_reducible exact D0.z)|(with_reducible refine Kd.jO ?_ _)|(with_reducible refine Kd.jP ?_ _)|(with_reducible refine Kd.ij ?_)|exact D0.z)) fG uV uY
     cases e114
     replace uV:=eT uV
     replace uY:=eT uY
     obtain ⟨zR,au7,U_⟩:=Kd.b9 cr.z
     (first|subst U_|(injection U_ with atu jq fc;have jr:=atu.symm;have js:=fc.symm;clear atu jq fc;subst jr;subst js))
     have wZ:0≤((k9):Int):=oD
     have auW:(k9) < (bZ.length:Int):=oD
     obtain ⟨avu,e115,yd⟩:=Kd.bK (Kd.bD cr.z).2.2 (k9) wZ auW
     cases e115
     replace wZ:=eT wZ
     replace auW:=eT auW
     have Qp:0≤(fG:Int):=oD
     have QN:(fG:Int) < (((ai fQ fG).length:Int):Int):=oD
     obtain ⟨OO,Gj,U',VI,afL,aos,St⟩:=Kd.aun Je.z (by omega)
     (first|cases U'|(injection U' with atd atk dM;(first|subst atd|(injection atd with atd;subst atd));subst dM;clear atk))
     (first|simp only [add_plain] at uL|skip)
     have amk:=k0 VI
     have aaP:=k0 St
     clear VI afL St
     (first|simp only [add_plain] at uL|skip)
     obtain ⟨ahy,agV⟩:=Kd.nA 0 Je.z (fG:Int) Qp QN
     replace Qp:=eT Qp
     replace QN:=eT QN
     have PD:(fG:Int) < (fQ.length:Int):=(by have h_:(fG:Int) < ((fQ.length:Int):Int):=oD;first|exact h_|(have e_:=(Kd.as4 jR.z).1;omega)|simpa only [List.length_set,List.length_set] using h_)
     obtain ⟨YS,aeP,Pc,OV,G1,EO,GS⟩:=Kd.vP jR.z [] (fG:Int) oD (by first|exact PD|(have e_:=(Kd.as4 jR.z).1;omega))
     obtain ⟨ak7,rfl,auO⟩:=OV
     have y9:=G1 0 _ rfl
     rw [Nat.add_zero,show ((Kd.slice 2 (Kd.int .i64))).sz=1 from rfl,Nat.mul_one] at y9
     replace y9:=Option.some.inj (y9.symm.trans M3.z)
     subst y9
     clear G1 Pc
     replace auO:=(show Kd.R (Kd.int .i64) 2 _ _ _ _ (ai fQ fG) from auO)
     have xM:=Kd.s8 auO (fG:Int) (wrap64 ((rd (ai fQ fG) fG)+(rd bZ (k9))))
     have abL:=k0 (tq xM.2 M3.z (vV (EO _ (auO.1 _ rfl)).2))
     rw [← xU.z] at xM
     have am8:=k0 xM.1
     have MS:=GS xM.2 (fun k_ e_=>by injection e_ with e_;subst e_;exact auO.1 _ rfl) (x':=tZ) (Kd.ke xM.1)
     rw [← og.z] at MS
     have SS:=k0 MS
     clear xM MS GS EO
     refine atG (n:=15) (S:=fun w'=>w'.cell? (NC.add (fG).toNat)=some (.slice (some ⟨OO,0,none⟩) (ai fQ fG).length avR)∧w'.cell? ⟨OO,(fG).toNat,none⟩=some (.int .i64 (rd (ai fQ fG) fG))∧w'.cell? (avu.add ((k9)).toNat)=some (.int .i64 (rd bZ (k9)))) (ds:=[14]) (ba 15 0) (by kernel_rfl) rfl rfl ⟨y_,uL,yd⟩ (fun hHeld=>?_);refine jX gv.Im gv.F7 (fun aj bP=>?_)
     generalize wr.drew=C_ at cr jR HB aaP Je SS D0 M3 abL agV y_ uL yd ahy hHeld ⊢
     refine pu 0 (some 25) (ba 15 1) aj (h:=?_)
     refine pu 1 (some 26) (ba 15 3) aj (h:=?_)
     refine pu 2 (some 27) (ba 15 7) aj (h:=?_)
     refine pu 4 (some 29) (ba 15 23) aj (h:=?_)
     refine pu 7 (some 32) (ba 15 151) aj (h:=?_)
     refine pu 8 (some 33) (ba 15 407) aj (h:=?_)
     refine pu 9 (some 34) (ba 15 919) aj (h:=?_)
     refine pu 10 (some 35) (ba 15 1943) aj (h:=?_)
     refine jA 3 (some 28) (ba 15 1951) aj bP hHeld (h:=?_)
     refine pu 5 (some 30) (ba 15 1983) aj (h:=?_)
     refine jA 6 (some 31) (ba 15 2047) aj bP hHeld (h:=?_)
     refine jA 11 (some 36) (ba 15 4095) aj bP hHeld (h:=?_)
     refine pu 12 (some 37) (ba 15 8191) aj (h:=?_)
     refine pu 13 (some 38) (ba 15 16383) aj (h:=?_)
     refine oK (i:=14) (N:=none) (ba 15 32767) rfl rfl (atq aj.out (by kernel_rfl)) (by decide) (fun K hK=>?_)
     refine lf (w1:=?_) (by rfl) rfl ?_ ?_
     rotate_left;· go_simp;rfl
     refine hK.out _ _ ?_
     clear hK K
     refine gY (jU aj.out (by kernel_rfl)) ?_
     try go_wp2
     (try simp only [← sr])
     first|go_roundg k2|(simp only [← si];go_roundg k2)
     case measure=>have:=as3.z;have:=bw.z;omega
     case rel=>exact ⟨(bZ),(lq),(wrap64 (fG+1)),rs,(by first|exact H'|(rw [si];exact H')),⟨by have:=as3.z;have:=bw.z;omega⟩,⟨by (try simp only [sr]);(with_reducible repeat (first|apply Kd.kT|apply Kd.kU|apply Kd.di));exact Kd.aH (Kd.D9 (p:=⟨OO,(fG:Int).toNat,none⟩) (Kd.TC cr.z rfl ((Je.z.1 _ rfl).1)) (fun _ hk=>hk.2) (.int .i64 (wrap64 ((rd (ai fQ fG) fG)+(rd bZ (k9)))))) (fun _ hk=>trivial)⟩,⟨by (try simp only [sr]);(with_reducible repeat (first|apply Kd.gQ|apply Kd.atB|apply Kd.dK));exact SS.out⟩,⟨aL HB.z⟩⟩
/-! ### F53: function 53 -/
def BI.f (k:Nat) (as0:Int) (ak:List (List Int)):Option (List Int):=(jd.f k as0 ak).bind fun t102=>((gv.f k t102).bind fun t105=>(some t105))
theorem BI.calls (k : Nat) (as0 : Int) (bu : Option Addr) (bq : Nat) (ak : List (List Int)) (r : List Int) (w : World) (dy : Kd.C (Kd.slice 2 (Kd.int .i64)) w bu ak.length ak) (ey : ak.length ≤ bq) (h : BI.f k as0 ak = some r) :
  Calls Try.prog 53 #[.agg #[.int .i64 as0,.slice bu ak.length bq]] w fun e w'=>∃ ati:Value,e=.returned (ati)∧Kd.R (Kd.int .i64) 2 w' w.heap.size (fun _=>True) ati r∧Below w.heap.size w w':=by
 have gV:=Try.underlying26
 have dJ:=k0 dy
 have iK:=k0 ey
 clear dy ey
 have HB:=k0 (Below.refl w.heap.size w)
 unfold BI.f at h
 have H:=h
 clear h
 replace H:=bS H;obtain ⟨t102,A2,H⟩:=H
 replace H:=bS H;obtain ⟨t105,A3,H⟩:=H
 obtain rfl:=Option.some.inj H
 go_enter Try.func53,Try.ntmps53
 go_wp2_with (first|(refine aX (N:=1) rfl ?_;refine dL 1 #[.int .i64 as0,.slice bu ak.length bq] 26 bl ?_;intro ay w4 aa bn HB;have cG:=bn;obtain ⟨_,_,_,_⟩:=as9 aa)|(refine aT (f:=101) rfl ?_;refine gC (some 4) Try.func101 #[.agg #[.int .i64 as0,.slice bu ak.length bq]] ?_;(with_reducible refine (jd.calls k as0 _ _ ak t102 _ ?av ?ax A2.z).mono ?_);(case av=>exact aC (Kd.bL dJ.z HB.z));(case ax=>exact iK.z);rintro e w6 ⟨zw,rfl,as2,hb⟩;refine ⟨_,rfl,?_⟩;have fh:=k0 (Kd.jD as2 (as8 bl));replace aa:=kB aa hb;replace HB:=bW hb;obtain ⟨L6,Gl,rfl⟩:=Kd.er fh.z)|(refine aT (f:=100) rfl ?_;refine gC (some 5) Try.func100 #[.slice L6 t102.length Gl] ?_;(with_reducible refine (gv.calls k _ _ t102 t105 _ ?av ?ax A3.z).mono ?_);(case av=>exact aC ((Kd.as4 fh.z).2.2));(case ax=>exact (Kd.as4 fh.z).2.1);rintro e w8 ⟨C8,rfl,as2,hb⟩;refine ⟨_,rfl,?_⟩;replace fh:=kg fh (Kd.bh as2) hb;have lz:=k0 (Kd.cg as2 (as8 bl));replace aa:=kB aa hb;replace HB:=bW hb))
 go_ret
 exact ⟨_,eR,aR lz.z,bl⟩
end Go.Proofs.Ytapnggjaeehpdaa.B
/- Set with little white space, by a program. -/
