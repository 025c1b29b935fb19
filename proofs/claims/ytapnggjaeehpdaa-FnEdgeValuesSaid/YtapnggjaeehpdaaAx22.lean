/- The functions that one law reaches, each as a Lean function, and that Go's call comes to what it says. Condition of each: that the Lean function answers (is not none). -/
import Derived.Test.YtapnggjaeehpdaaAx0
import Derived.Test.YtapnggjaeehpdaaAx1
import Derived.Test.YtapnggjaeehpdaaAx6
import Derived.Test.YtapnggjaeehpdaaAx9
import Derived.Test.YtapnggjaeehpdaaAx12
import Derived.Test.YtapnggjaeehpdaaAx14
import Derived.Test.YtapnggjaeehpdaaAx15
import Derived.Test.YtapnggjaeehpdaaAx16
import Derived.Test.YtapnggjaeehpdaaAx18
import Derived.Test.YtapnggjaeehpdaaAx19
import Derived.Test.YtapnggjaeehpdaaAx20
import Derived.Test.YtapnggjaeehpdaaAx21
namespace Go.Proofs.Ytapnggjaeehpdaa.A
open Go.RowKit Go.Proofs.bB.dI Go.Proofs.bB.ark Go.Proofs.bB.jd
attribute [local go_sem] max2_int min2_int max_two min_two max_three min_three max_four min_four   -- for this text's walks alone
set_option linter.unusedVariables false
set_option linter.unusedSimpArgs false
/-! ### F3: function 3 -/
mutual
def F3.j0 : Nat → List Int → Int → List Int → Bool → Int → List (List Int) → Option (Bool)
 | 0,_,_,_,_,_,_=>none
 | k+1,x0,x4,x5,x94,atc,F_=>if x94=true then (some false) else (F3.l0 k x0 x4 x5 0 atc F_)
def F3.l0 : Nat → List Int → Int → List Int → Int → Int → List (List Int) → Option (Bool)
 | 0,_,_,_,_,_,_=>none
 | k+1,x0,x4,x5,x9,atc,F_=>if x9 < (x5.length:Int) then (if 0≤x9 then ((rq.f k atc F_ x4 (rd x5 x9)).bind fun BU=>((nR.f k atc F_ x4 (rd x5 x9)).bind fun ab6=>(if BU.2=0 then (if ab6.2=5 then (if BU.1=0 then (F3.l0 k x0 x4 x5 (wrap64 (x9+1)) atc F_) else (some false)) else (some false)) else (some false)))) else (none)) else ((jT.f k x0).bind fun ko=>((jU.f k ko.1 ko.2.1 ko.2.2.1 ko.2.2.2.1 ko.2.2.2.2.1 ko.2.2.2.2.2).bind fun BV=>((eY.f k ko.1 ko.2.1 ko.2.2.1 ko.2.2.2.1 ko.2.2.2.2.1 ko.2.2.2.2.2).bind fun DK=>(if BV.2=DK.2 then (F3.j2 k x0 ko.2.2.1 ko.2.2.2.1 ko.2.2.2.2.1 ko.2.2.2.2.2 BV.1 BV.2 (BV.1 != DK.1) ko.1 ko.2.1) else (F3.j2 k x0 ko.2.2.1 ko.2.2.2.1 ko.2.2.2.2.1 ko.2.2.2.2.2 BV.1 BV.2 true ko.1 ko.2.1)))))
def F3.j2 : Nat → List Int → Int → Int → Int → Int → Int → Int → Bool → Int → List (List Int) → Option (Bool)
 | 0,_,_,_,_,_,_,_,_,_,_=>none
 | k+1,x0,b7,ey,arf,tQ,ji,asX,aj0,Gb,Gc=>if aj0=true then (some false) else (if asX=0 then ((jE.f k Gb Gc arf).bind fun xU=>(if xU.2=0 then (F3.l1 k x0 b7 ey arf tQ ji xU.1 0 0 0 Gb Gc) else (some false))) else (F3.j4 k x0))
def F3.j4 : Nat → List Int → Option (Bool)
 | 0,_=>none
 | k+1,x0=>(Bk.f k x0).bind fun xV=>((pP.f k xV.1 xV.2).bind fun DL=>((nT.f k xV.1 xV.2).bind fun RH=>((pQ.f k xV.1 xV.2).bind fun G6=>((pR.f k xV.1 xV.2).bind fun RI=>(if DL.2=RH.2 then (if DL.1=RH.1 then (if G6.2=RI.2 then (if G6.1=RI.1 then (if DL.2=0 then (if DL.1=G6.1 then (F3.j5 k x0 false) else (F3.j5 k x0 (DL.1 != (wrap64 (-G6.1))))) else (F3.j5 k x0 false)) else (F3.j5 k x0 true)) else (F3.j5 k x0 true)) else (F3.j5 k x0 true)) else (F3.j5 k x0 true))))))
def F3.j5 : Nat → List Int → Bool → Option (Bool)
 | 0,_,_=>none
 | k+1,x0,aj1=>if aj1=true then (some false) else ((Bl.f k x0).bind fun xW=>((zq.f k xW.1 xW.2).bind fun G7=>((zu.f k xW.1 xW.2).bind fun RJ=>(if G7.2=RJ.2 then ((pS.f k G7.1 RJ.1).bind fun t169=>(F3.j6 k x0 G7.1 (!t169) xW.1 xW.2)) else (F3.j6 k x0 G7.1 true xW.1 xW.2)))))
def F3.j6 : Nat → List Int → List (List Int) → Bool → Int → List (List Int) → Option (Bool)
 | 0,_,_,_,_,_=>none
 | k+1,x0,Ba,aj2,Jl,Jm=>if aj2=true then (some false) else (F3.l2 k x0 Ba 0 Jl Jm)
def F3.l2 : Nat → List Int → List (List Int) → Int → Int → List (List Int) → Option (Bool)
 | 0,_,_,_,_,_=>none
 | k+1,x0,Ba,sJ,Jl,Jm=>if sJ < (Ba.length:Int) then ((jE.f k Jl Jm sJ).bind fun RK=>(if RK.2=0 then (if 0≤sJ then ((oN.f k (ah Ba sJ)).bind fun t175=>(if (RK.1.length:Int)=t175 then (F3.l2 k x0 Ba (wrap64 (sJ+1)) Jl Jm) else (some false))) else (none)) else (some false))) else ((pT.f k x0).bind fun xX=>((rq.f k xX.1 xX.2.1 xX.2.2.1 xX.2.2.2).bind fun RL=>((zv.f k xX.1 xX.2.1 xX.2.2.1 xX.2.2.2).bind fun RM=>((pU.f k x0).bind fun xY=>((nR.f k xY.1 xY.2.1 xY.2.2.1 xY.2.2.2).bind fun RN=>((m_.f k xY.1 xY.2.1 xY.2.2.1 xY.2.2.2).bind fun RO=>((pV.f k x0).bind fun BW=>((jE.f k BW.1 BW.2.1 BW.2.2).bind fun RP=>((nc.f k BW.1 BW.2.1 BW.2.2).bind fun RQ=>(if RL.2=RM.2 then (if RL.1=RM.1 then (if RN.2=RO.2 then (if RN.1=RO.1 then (if RP.2=RQ.2 then ((F9.f k RP.1 RQ.1).bind fun t212=>(some t212)) else (some false)) else (some false)) else (some false)) else (some false)) else (some false)))))))))))
def F3.l1 : Nat → List Int → Int → Int → Int → Int → Int → List Int → Int → Int → Int → Int → List (List Int) → Option (Bool)
 | 0,_,_,_,_,_,_,_,_,_,_,_,_=>none
 | k+1,x0,b7,ey,arf,tQ,ji,lB,asY,xj,Jr,Gb,Gc=>if Jr < (lB.length:Int) then (if 0≤Jr then ((jU.f k Gb Gc b7 ey (rd lB Jr) tQ).bind fun RG=>(if RG.2=0 then (F3.l1 k x0 b7 ey arf tQ ji lB (wrap64 (asY+RG.1)) xj (wrap64 (Jr+1)) Gb Gc) else (some false))) else (none)) else (if arf=tQ then (if b7=0 then (none) else (if (Int.tmod (wrap64 ((Int.tmod (wrap64 ((wrap64 (ji - (wrap64 (ey * asY)))) - 1)) b7)+b7)) b7)=0 then (F3.j4 k x0) else (some false))) else (if b7=0 then (none) else (if (Int.tmod (wrap64 ((Int.tmod (wrap64 ((wrap64 (ji - (wrap64 (ey * asY)))) - xj)) b7)+b7)) b7)=0 then (F3.j4 k x0) else (some false))))
end
def F3.f (k:Nat) (l0:List Int):Option (Bool):=(F5.f l0).bind fun t101=>(if t101=true then (some true) else ((F6.f k l0).bind fun cN=>((F7.f k cN.1 cN.2.1 cN.2.2).bind fun mG=>((F8.f k cN.1 cN.2.1 cN.2.2).bind fun qa=>(if mG.2=qa.2 then ((F9.f k mG.1 qa.1).bind fun t116=>(F3.j0 k l0 cN.2.2 mG.1 (!t116) cN.1 cN.2.1)) else (F3.j0 k l0 cN.2.2 mG.1 true cN.1 cN.2.1))))))
def F3.Rj:Bool × List (List Nat × List Nat):=(true,[([],[]),([],[]),([],[]),([],[]),([2,3],[2,3]),([4],[4]),([0,1,5],[0,1,5]),([6],[6]),([7],[7]),([7],[7]),([8,6,0,1,2,3,4,5,6,7,8],[8]),([9,10,0,1,2,3,4,5,6,7,8,9,10],[9])])
def F3.Ym:List Nat:=[0,0,0,0,12,28,63,127,255,255,511,2047]
theorem F3.I7:eH .any (opsOf Try.f3 11)=F3.Rj:=by kernel_rfl
theorem F3.G4:iL F3.Rj.2 F3.Ym=true:=by kernel_rfl
def F3.DH:Bool × List (List Nat × List Nat):=(true,[([],[]),([],[]),([],[]),([],[]),([2,3],[2,3]),([4],[4]),([0,1,5],[0,1,5]),([6],[6]),([7],[7]),([7],[7]),([8,6,0,1,2,3,4,5,6,7,8],[8]),([9,10,0,1,2,3,4,5,6,7,8,9,10],[9])])
def F3.JY:List Nat:=[0,0,0,0,12,28,63,127,255,255,511,2047]
theorem F3.CQ:eH .any (opsOf Try.f3 12)=F3.DH:=by kernel_rfl
theorem F3.BS:iL F3.DH.2 F3.JY=true:=by kernel_rfl
def F3.Ro:Bool × List (List Nat × List Nat):=(true,[([],[]),([],[]),([],[]),([],[]),([],[]),([3,4],[3,4]),([5],[5]),([],[]),([0,1,2,6,7],[0,1,2,6,7]),([8],[8]),([9],[9]),([9],[9]),([10,8,0,1,2,3,4,5,6,7,8,9,10],[10]),([11,12,0,1,2,3,4,5,6,7,8,9,10,11,12],[11])])
def F3.Yr:List Nat:=[0,0,0,0,0,24,56,0,255,511,1023,1023,2047,8191]
theorem F3.WU:eH .any (opsOf Try.f3 28)=F3.Ro:=by kernel_rfl
theorem F3.RE:iL F3.Ro.2 F3.Yr=true:=by kernel_rfl
set_option maxHeartbeats 90000000 in
set_option maxRecDepth 100000 in
theorem F3.calls (k : Nat) (A0 : Option Addr) (c0 : Nat) (l0 : List Int) (r : Bool) (w : World) (bZ : Kd.C (Kd.int .u8) w A0 l0.length l0) (hc0 : l0.length ≤ c0) (h : F3.f k l0 = some r) :
  Calls Try.prog 3 #[.slice A0 l0.length c0] w fun e w'=>e=.returned (.bool r)∧Below w.heap.size w w':=by
 have eE:=Try.underlying26
 have cP:=k0 bZ
 have fq:=k0 hc0
 clear bZ hc0
 have HB:=k0 (Below.refl w.heap.size w)
 unfold F3.f at h
 have H:=h
 clear h
 replace H:=bS H;obtain ⟨t101,A2,H⟩:=H
 cases t101
 case false =>
  replace H:=iF H
  replace H:=bS H;obtain ⟨⟨t102,t103,t106⟩,A4,H⟩:=H
  dsimp only at H
  replace H:=bS H;obtain ⟨⟨t108,t111⟩,A5,H⟩:=H
  dsimp only at H
  replace H:=bS H;obtain ⟨⟨t112,t115⟩,A6,H⟩:=H
  dsimp only at H
  have zC:=k0 H
  clear H
  go_enter Try.func3,Try.ntmps3
  go_upto_region 6 with (first|((with_reducible refine aqz (f:=5) rfl ?_);refine gC (some 68) Try.func5 #[.slice A0 l0.length c0] ?_;(with_reducible refine (F5.calls _ _ l0 false _ ?aq ?au A2.z).mono ?_);(case aq=>exact aC cP.z);(case au=>exact fq.z);rintro e w' ⟨rfl,⟨nd,rfl⟩⟩;refine ⟨_,rfl,?_⟩)|((with_reducible refine aqz (f:=6) rfl ?_);refine gC (some 71) Try.func6 #[.slice A0 l0.length c0] ?_;(with_reducible refine (F6.calls k _ _ l0 t102 t103 t106 _ ?aq ?au A4.z).mono ?_);(case aq=>exact aC cP.z);(case au=>exact fq.z);rintro e w8 ⟨mT,rfl,aD,hb⟩;refine ⟨_,rfl,?_⟩;have b8:=k0 (Kd.p_ (Kd.aZ (ok':=fun k_=>True) aD (fun k_ aqJ=>trivial)) (aqG bl));replace HB:=bW hb)|((with_reducible refine aqI (N:=3) rfl ?_);(try (refine lM (by rfl) ?_;dsimp only));refine fu 3 #[.int .i64 0,.slice none 0 0] 26 ?_;intro ep hg w9 bq hb;replace b8:=eL b8 hg hb;have aqH:=k0 (bq);have Y5:=gW hg (aqG bl);have akQ:=Y5;replace HB:=bW hb;clear hb bq hg;obtain ⟨_,_,_,_⟩:=aqA aqH;obtain ⟨eJ,dg,rfl⟩:=Kd.arO b8.z)|((with_reducible refine aqz (f:=7) rfl ?_);refine gC (some 77) Try.func7 #[.agg #[.int .i64 t102,.slice eJ t103.length dg],.int .i64 t106] ?_;(with_reducible refine (F7.calls k t102 _ _ t103 t106 t108 t111 _ ?aq ?au A5.z).mono ?_);(case aq=>exact rV b8);(case au=>exact (Kd.cI b8.z).2.1);rintro e oB ⟨ar1,rfl,aD,hb⟩;refine ⟨_,rfl,?_⟩;replace b8:=aqX b8 (Kd.cm aD) hb;have kN:=k0 (Kd.cA aD (aqG bl));replace aqH:=kP (sO t102 eJ t103 dg 26) aqH hb;replace HB:=bW hb;obtain ⟨_,_,_,_⟩:=aqA aqH)|((with_reducible refine aqz (f:=8) rfl ?_);refine gC (some 83) Try.func8 #[.agg #[.int .i64 t102,.slice eJ t103.length dg],.int .i64 t106] ?_;(with_reducible refine (F8.calls k t102 _ _ t103 t106 t112 t115 _ ?aq ?au A6.z).mono ?_);(case aq=>exact aC ((Kd.cI b8.z).2.2));(case au=>exact (Kd.cI b8.z).2.1);rintro e vv ⟨atJ,rfl,aD,hb⟩;refine ⟨_,rfl,?_⟩;replace b8:=aqX b8 (Kd.cm aD) hb;have vK:=k0 (Kd.cA (Kd.kS aD (Kd.eZ (aR kN.z))) (aqG bl));replace kN:=l_ kN (Kd.cm aD) hb;replace aqH:=kB aqH hb;replace HB:=bW hb))
  (try simp only [Act.put,zI,zZ,zS])
  go_cut [94] from 66 to 100 (fun v94 wc=>∃ (kq:Nat) (Jx:Bool),v94=.bool Jx∧ai (F3.j0 kq l0 t106 t108 Jx t102 t103=some r)∧ai (kq≤k)∧ai (Kd.R (Kd.int .i64) 2 wc w.heap.size (fun _=>True) ar1 t108)∧ai (Kd.V (Kd.slice 2 (Kd.int .i64)) 29 wc w.heap.size (fun k_=>some k_ ≠ (ar1:Value).ownBlock∧k_ ≠ ep) (.slice eJ t103.length dg) t103)∧ai (wc.heap[ep]?=some (sO t102 eJ t103 dg 26))∧ai (Below w.heap.size w wc))
  case first =>
   have H:=zC.z
   clear zC
   replace H:=iE H;obtain ⟨c15,kU,zY,H⟩|⟨kU,zY,H⟩:=H
   case inl =>
    (first|rw [kU]|(simp only [bJ,ck];rw [kU])|skip)
    have H':=k0 H
    clear H
    go_wp2
    go_meet
    case rel=>exact ⟨_,(true),rs,H',⟨oL⟩,⟨aR (Kd.aqM kN.z (fun _ hk=>trivial))⟩,⟨aV (Kd.aZ b8.z (fun _ hk=>⟨hk.1.2,hk.1.1.2⟩))⟩,⟨bk⟩,⟨bl⟩⟩
   (first|rw [kU]|(simp only [bJ,ck];rw [kU])|skip)
   replace H:=bS H;obtain ⟨t116,tT,H⟩:=H
   have H':=k0 H
   clear H
   obtain ⟨oJ,l9,rfl⟩:=Kd.cy kN.z
   obtain ⟨akr,adF,rfl⟩:=Kd.cy vK.z
   go_wp2_with (first|(go_at_call 9;(with_reducible refine (F9.calls k _ _ t108 _ _ t112 t116 _ ?aq ?au ?cr ?dw tT.z).mono ?_);(case aq=>exact aC ((Kd.aqP kN.z).2.2));(case au=>exact (Kd.aqP kN.z).2.1);(case cr=>exact aC ((Kd.aqP vK.z).2.2));(case dw=>exact (Kd.aqP vK.z).2.1);rintro e w' ⟨rfl,⟨nd,rfl⟩⟩))
   go_meet
   case rel=>exact ⟨_,(!t116),rs,H',⟨oL⟩,⟨aR (Kd.aqM kN.z (fun _ hk=>trivial))⟩,⟨aV (Kd.aZ b8.z (fun _ hk=>⟨hk.1.2,hk.1.1.2⟩))⟩,⟨bk⟩,⟨bl⟩⟩
  case rest=>as_aux_lemma =>
   clear zC
   obtain ⟨kq,Jx,rfl,HA,kM,bf,aT,aqH,HB⟩:=hcut
   cases kq with
   | zero=>exact absurd HA.z (by simp [F3.j0])
   | succ Im =>
    have H:=HA.z
    clear HA
    simp only [F3.j0] at H
    cases Jx
    case false =>
     replace H:=iF H
     have H':=k0 H
     clear H
     go_wp2
     go_loopg [9] Im (fun kq v9 w'=>∃ (aqV:Int),v9=.int .i64 aqV∧ai (F3.l0 kq l0 t106 t108 aqV t102 t103=some r)∧ai (kq≤Im)∧ai (Kd.R (Kd.int .i64) 2 w' w.heap.size (fun _=>True) ar1 t108)∧ai (Kd.V (Kd.slice 2 (Kd.int .i64)) 29 w' w.heap.size (fun k_=>some k_ ≠ (ar1:Value).ownBlock∧k_ ≠ ep) (.slice eJ t103.length dg) t103)∧ai (w'.heap[ep]?=some (sO t102 eJ t103 dg 26))∧ai (Below w.heap.size w w'))
     case atStart=>exact ⟨(0),rs,H',⟨Nat.le_refl _⟩,⟨aR (bf.z)⟩,⟨aV (aT.z)⟩,⟨bk⟩,⟨bl⟩⟩
     case round=>as_aux_lemma =>
      clear H'
      obtain ⟨aqV,rfl,HA,aqL,bf,aT,aqH,HB⟩:=hrel
      cases gk with
      | zero=>exact absurd HA.z (by simp [F3.l0])
      | succ k2 =>
       have H:=HA.z
       clear HA
       simp only [F3.l0] at H
       replace H:=iC H;obtain ⟨vP,H⟩|⟨vP,H⟩:=H
       case inl =>
        replace H:=bS H;obtain ⟨⟨t123,t124,t127,t128,t129,t130⟩,X6,H⟩:=H
        dsimp only at H
        replace H:=bS H;obtain ⟨⟨t132,t133⟩,X7,H⟩:=H
        dsimp only at H
        replace H:=bS H;obtain ⟨⟨t134,t135⟩,JJ,H⟩:=H
        dsimp only at H
        have Kg:=k0 H
        clear H
        obtain ⟨Bi,Ca,rfl⟩:=Kd.cy bf.z
        go_upto_region 18 with (first|((with_reducible refine aqz (f:=12) rfl ?_);refine gC (some 133) Try.func12 #[.slice A0 l0.length c0] ?_;(with_reducible refine (jT.calls k2 _ _ l0 t123 t124 t127 t128 t129 t130 _ ?aq ?au X6.z).mono ?_);(case aq=>exact aC (Kd.aqN cP.z HB.z));(case au=>exact fq.z);rintro e w52 ⟨ajv,rfl,aD,hb⟩;refine ⟨_,rfl,?_⟩;replace aT:=cK aT hb;have arX:=k0 (Kd.p_ (Kd.aZ (ok':=fun k_=>some k_ ≠ (.slice Bi t108.length Ca:Value).ownBlock∧k_ ≠ ep) aD (fun k_ aqJ=>⟨(Kd.fresh' (Kd.eZ (aR bf.z)) k_ aqJ),(Kd.ig (aB aqH.z) k_ aqJ)⟩)) (aqG bl));replace bf:=eC bf hb;replace aqH:=kB aqH hb;replace HB:=bW hb)|((with_reducible refine aqI (N:=14) rfl ?_);(try (refine lM (by rfl) ?_;dsimp only));refine fu 14 #[.int .i64 0,.slice none 0 0] 26 ?_;intro ij hg w53 bq hb;replace bf:=eC bf hb;replace aT:=eL aT hg hb;replace arX:=eL arX hg hb;have bP:=k0 (bq);have Y9:=gW hg (aqG bl);have akU:=Y9;replace HB:=bW hb;have aam:=nL hg aqH;have KQ:=nG aam;replace aqH:=kB aqH hb;clear hb bq hg;obtain ⟨_,_⟩:=nE KQ;obtain ⟨_,_,_,_⟩:=aqA bP;obtain ⟨kJ,kV,rfl⟩:=Kd.arO arX.z)|((with_reducible refine aqz (f:=13) rfl ?_);refine gC (some 145) Try.func13 #[.agg #[.int .i64 t123,.slice kJ t124.length kV],.int .i64 t127,.int .i64 t128,.int .i64 t129,.int .i64 t130] ?_;(with_reducible refine (jU.calls k2 t123 _ _ t124 t127 t128 t129 t130 t132 t133 _ ?aq ?au X7.z).mono ?_);(case aq=>exact rV arX);(case au=>exact (Kd.cI arX.z).2.1);rintro e OU ⟨rfl,hb⟩;refine ⟨_,rfl,?_⟩;replace bf:=k0 (Kd.DA (OC bf bP) hb);replace aT:=cK aT hb;replace arX:=cK arX hb;replace aqH:=kF aqH hb;replace bP:=kP (sO t123 kJ t124 kV 26) bP hb;replace HB:=bW hb;obtain ⟨_,_,_,_⟩:=aqA bP)|((with_reducible refine aqz (f:=14) rfl ?_);refine gC (some 154) Try.func14 #[.agg #[.int .i64 t123,.slice kJ t124.length kV],.int .i64 t127,.int .i64 t128,.int .i64 t129,.int .i64 t130] ?_;(with_reducible refine (eY.calls k2 t123 _ _ t124 t127 t128 t129 t130 t134 t135 _ ?aq ?au JJ.z).mono ?_);(case aq=>exact aC ((Kd.cI arX.z).2.2));(case au=>exact (Kd.cI arX.z).2.1);rintro e xd ⟨rfl,hb⟩;refine ⟨_,rfl,?_⟩;replace bf:=eC bf hb;replace aT:=cK aT hb;replace arX:=cK arX hb;replace aqH:=kB aqH hb;replace bP:=kB bP hb;replace HB:=bW hb))
        (try simp only [Act.put,zI,zZ,zS])
        go_cut [164] from 130 to 175 (fun ajy wc=>∃ (kq:Nat) (Jn:Bool),ajy=.bool Jn∧ai (F3.j2 kq l0 t127 t128 t129 t130 t132 t133 Jn t123 t124=some r)∧ai (kq≤k2)∧ai (Kd.V (Kd.slice 2 (Kd.int .i64)) 29 wc w.heap.size (fun k_=>k_ ≠ ep∧k_ ≠ ij) (.slice eJ t103.length dg) t103)∧ai (Kd.V (Kd.slice 2 (Kd.int .i64)) 29 wc w.heap.size (fun k_=>k_ ≠ ep∧k_ ≠ ij) (.slice kJ t124.length kV) t124)∧ai (wc.heap[ep]?=some (sO t102 eJ t103 dg 26))∧ai (wc.heap[ij]?=some (sO t123 kJ t124 kV 26))∧ai (Below w.heap.size w wc))
        case first =>
         have H:=Kg.z
         clear Kg
         replace H:=iE H;obtain ⟨c60,asM,LG,H⟩|⟨asM,LG,H⟩:=H
         case inl =>
          (first|rw [asM]|(simp only [bJ,ck];rw [asM])|skip)
          have H':=k0 H
          clear H
          go_wp2
          go_meet
          case rel=>exact ⟨_,(true),rs,H',⟨by have:=kM.out;have:=aqL.z;first|omega|exact Nat.le_refl _⟩,⟨aV (Kd.aZ aT.z (fun _ hk=>⟨hk.1.2,hk.2⟩))⟩,⟨aV (Kd.aZ arX.z (fun _ hk=>⟨hk.1.2,hk.2⟩))⟩,⟨bk⟩,⟨bk⟩,⟨bl⟩⟩
         (first|rw [asM]|(simp only [bJ,ck];rw [asM])|skip)
         have H':=k0 H
         clear H
         go_wp2
         go_meet
         case rel=>exact ⟨_,((t132 != t134)),rs,H',⟨by have:=kM.out;have:=aqL.z;first|omega|exact Nat.le_refl _⟩,⟨aV (Kd.aZ aT.z (fun _ hk=>⟨hk.1.2,hk.2⟩))⟩,⟨aV (Kd.aZ arX.z (fun _ hk=>⟨hk.1.2,hk.2⟩))⟩,⟨bk⟩,⟨bk⟩,⟨bl⟩⟩
        case rest=>as_aux_lemma =>
         clear Kg
         obtain ⟨kq,Jn,rfl,HA,pY,aT,aqQ,aqH,bP,HB⟩:=hcut
         cases kq with
         | zero=>exact absurd HA.z (by simp [F3.j2])
         | succ FF =>
          have H:=HA.z
          clear HA
          simp only [F3.j2] at H
          cases Jn
          case false =>
           replace H:=iF H
           have Kj:=k0 H
           clear H
           go_upto_if 166 with (fail)
           go_cut [] from 164 to 170 (fun wc=>∃ (kq:Nat),ai (F3.j4 kq l0=some r)∧ai (kq≤FF)∧ai (Kd.V (Kd.slice 2 (Kd.int .i64)) 29 wc w.heap.size (fun k_=>k_ ≠ ep∧k_ ≠ ij) (.slice eJ t103.length dg) t103)∧ai (Kd.V (Kd.slice 2 (Kd.int .i64)) 29 wc w.heap.size (fun k_=>k_ ≠ ep∧k_ ≠ ij) (.slice kJ t124.length kV) t124)∧ai (wc.heap[ep]?=some (sO t102 eJ t103 dg 26))∧ai (wc.heap[ij]?=some (sO t123 kJ t124 kV 26))∧ai (Below w.heap.size w wc))
           case first =>
            have H:=Kj.z
            clear Kj
            replace H:=iE H;obtain ⟨c63,as3,R7,H⟩|⟨as3,R7,H⟩:=H
            case inl =>
             (first|rw [as3]|(simp only [bJ,ck];rw [as3])|skip)
             have H':=k0 H
             clear H
             go_wp2
             go_meet
             case rel=>exact ⟨_,H',⟨by have:=kM.out;have:=aqL.z;have:=pY.out;first|omega|exact Nat.le_refl _⟩,⟨aV (aT.z)⟩,⟨aV (aqQ.z)⟩,⟨bk⟩,⟨bk⟩,⟨bl⟩⟩
            (first|rw [as3]|(simp only [bJ,ck];rw [as3])|skip)
            replace H:=bS H;obtain ⟨⟨t136,t139⟩,Pe,H⟩:=H
            dsimp only at H
            replace H:=iE H;obtain ⟨c65,ac7,ac8,H⟩|⟨ac7,ac8,H⟩:=H
            case inl =>
             obtain rfl:=Option.some.inj H
             obtain ⟨_,_⟩:=nE KQ
             obtain ⟨_,_,_,_⟩:=aqA bP
             go_wp2_with (first|((with_reducible refine aqz (f:=15) rfl ?_);refine gC (some 170) Try.func15 #[.agg #[.int .i64 t123,.slice kJ t124.length kV],.int .i64 t129] ?_;(with_reducible refine (jE.calls FF t123 _ _ t124 t129 t136 t139 _ ?aq ?au Pe.z).mono ?_);(case aq=>exact aC ((Kd.cI aqQ.z).2.2));(case au=>exact (Kd.cI aqQ.z).2.1);rintro e w90 ⟨Ja,rfl,aD,hb⟩;refine ⟨_,rfl,?_⟩;replace aT:=aqX aT (Kd.cm aD) hb;replace aqQ:=aqX aqQ (Kd.cm aD) hb;have Qa:=k0 (Kd.cA aD (aqG bl));replace aqH:=kB aqH hb;replace bP:=kB bP hb;replace HB:=bW hb))
             go_ret
             exact ⟨eR,bl⟩
            have H':=k0 H
            clear H
            obtain ⟨_,_⟩:=nE KQ
            obtain ⟨_,_,_,_⟩:=aqA bP
            go_wp2_with (first|((with_reducible refine aqz (f:=15) rfl ?_);refine gC (some 170) Try.func15 #[.agg #[.int .i64 t123,.slice kJ t124.length kV],.int .i64 t129] ?_;(with_reducible refine (jE.calls FF t123 _ _ t124 t129 t136 t139 _ ?aq ?au Pe.z).mono ?_);(case aq=>exact aC ((Kd.cI aqQ.z).2.2));(case au=>exact (Kd.cI aqQ.z).2.1);rintro e w68 ⟨Ja,rfl,aD,hb⟩;refine ⟨_,rfl,?_⟩;replace aT:=aqX aT (Kd.cm aD) hb;replace aqQ:=aqX aqQ (Kd.cm aD) hb;have Qa:=k0 (Kd.cA aD (aqG bl));replace aqH:=kB aqH hb;replace bP:=kB bP hb;replace HB:=bW hb))
            go_loopg [25,27] FF (fun kq Jc v27 w'=>∃ (Jp:Int) (qw:Int),Jc=.int .i64 Jp∧v27=.int .i64 qw∧ai (F3.l1 kq l0 t127 t128 t129 t130 t132 t136 Jp 0 qw t123 t124=some r)∧ai (kq≤FF)∧ai (Kd.R (Kd.int .i64) 2 w' w.heap.size (fun _=>True) Ja t136)∧ai (Kd.V (Kd.slice 2 (Kd.int .i64)) 29 w' w.heap.size (fun k_=>some k_ ≠ (Ja:Value).ownBlock∧k_ ≠ ep∧k_ ≠ ij) (.slice eJ t103.length dg) t103)∧ai (Kd.V (Kd.slice 2 (Kd.int .i64)) 29 w' w.heap.size (fun k_=>some k_ ≠ (Ja:Value).ownBlock∧k_ ≠ ep∧k_ ≠ ij) (.slice kJ t124.length kV) t124)∧ai (w'.heap[ep]?=some (sO t102 eJ t103 dg 26))∧ai (w'.heap[ij]?=some (sO t123 kJ t124 kV 26))∧ai (Below w.heap.size w w'))
            case atStart=>exact ⟨(0),(0),rs,rs,H',⟨Nat.le_refl _⟩,⟨aR (Qa.z)⟩,⟨aV (Kd.aZ aT.z (fun _ hk=>⟨hk.2,⟨hk.1.1,hk.1.2⟩⟩))⟩,⟨aV (Kd.aZ aqQ.z (fun _ hk=>⟨hk.2,⟨hk.1.1,hk.1.2⟩⟩))⟩,⟨bk⟩,⟨bk⟩,⟨bl⟩⟩
            case round=>as_aux_lemma =>
             clear H'
             obtain ⟨Jp,qw,rfl,rfl,HA,iu,kg,aT,aqQ,aqH,bP,HB⟩:=hrel
             cases gk with
             | zero=>exact absurd HA.z (by simp [F3.l1])
             | succ k4 =>
              have H:=HA.z
              clear HA
              simp only [F3.l1] at H
              replace H:=iC H;obtain ⟨R8,H⟩|⟨R8,H⟩:=H
              case inl =>
               replace H:=iE H;obtain ⟨c79,R9,ade,H⟩|⟨R9,ade,H⟩:=H
               case inl =>
                by_cases c84:t127=0
                case neg =>
                 rw [if_neg c84] at H
                 have adg:=beq_eq_false_iff_ne.mpr c84
                 have amL:=bne_iff_ne.mpr c84
                 replace H:=iE H;obtain ⟨c85,DX,LI,H⟩|⟨DX,LI,H⟩:=H
                 case inl =>
                  simp only [Int.sub_zero] at DX LI
                  obtain rfl:=Option.some.inj H
                  obtain ⟨JW,LY,rfl⟩:=Kd.cy kg.z
                  go_wp2
                  go_ret
                  exact ⟨eR,bl⟩
                 simp only [Int.sub_zero] at DX LI
                 have H':=k0 H
                 clear H
                 obtain ⟨akH,anK,rfl⟩:=Kd.cy kg.z
                 go_wp2
                 go_meet
                 case rel=>exact ⟨_,H',⟨by have:=kM.out;have:=aqL.z;have:=pY.out;have:=iu.z;first|omega|exact Nat.le_refl _⟩,⟨aV (Kd.aZ aT.z (fun _ hk=>⟨hk.2.1,hk.2.2⟩))⟩,⟨aV (Kd.aZ aqQ.z (fun _ hk=>⟨hk.2.1,hk.2.2⟩))⟩,⟨bk⟩,⟨bk⟩,⟨bl⟩⟩
                rw [if_pos c84] at H
                exact absurd H (by simp)
               by_cases c80:t127=0
               case neg =>
                rw [if_neg c80] at H
                have R_:=beq_eq_false_iff_ne.mpr c80
                have amJ:=bne_iff_ne.mpr c80
                replace H:=iE H;obtain ⟨c81,B7,Sa,H⟩|⟨B7,Sa,H⟩:=H
                case inl =>
                 obtain rfl:=Option.some.inj H
                 obtain ⟨akG,anJ,rfl⟩:=Kd.cy kg.z
                 go_wp2
                 go_ret
                 exact ⟨eR,bl⟩
                have H':=k0 H
                clear H
                obtain ⟨akF,adJ,rfl⟩:=Kd.cy kg.z
                go_wp2
                go_meet
                case rel=>exact ⟨_,H',⟨by have:=kM.out;have:=aqL.z;have:=pY.out;have:=iu.z;first|omega|exact Nat.le_refl _⟩,⟨aV (Kd.aZ aT.z (fun _ hk=>⟨hk.2.1,hk.2.2⟩))⟩,⟨aV (Kd.aZ aqQ.z (fun _ hk=>⟨hk.2.1,hk.2.2⟩))⟩,⟨bk⟩,⟨bk⟩,⟨bl⟩⟩
               rw [if_pos c80] at H
               exact absurd H (by simp)
              replace H:=iS H;obtain ⟨c70,H⟩:=H
              have amF:=decide_eq_true c70
              clear c70
              replace H:=bS H;obtain ⟨⟨t141,t142⟩,Pg,H⟩:=H
              dsimp only at H
              replace H:=iE H;obtain ⟨c72,DV,ac9,H⟩|⟨DV,ac9,H⟩:=H
              case inl =>
               obtain rfl:=Option.some.inj H
               obtain ⟨akE,anH,rfl⟩:=Kd.cy kg.z
               try go_wp2
               replace kg:=k0 (Kd.fG kg.z);replace aT:=k0 (Kd.lG aT.z);replace aqQ:=k0 (Kd.lG aqQ.z);replace aqH:=k0 (cJ aqH.z);replace bP:=k0 (cJ bP.z);replace HB:=k0 (aqW HB.z)
               obtain ⟨qT,qY⟩:=iN qw (t136.length:Int)
               obtain ⟨zR,e140,su⟩:=Kd.bM (Kd.aqP kg.z).2.2 qw qT qY
               cases e140
               replace qT:=eT qT
               replace qY:=eT qY
               refine gz (n:=14) (S:=fun w'=>w'.cell? ⟨ij,0,none⟩=some (.int .i64 t123)∧w'.cell? ⟨ij,1,none⟩=some (.slice kJ t124.length kV)∧w'.cell? (zR.add (qw).toNat)=some (.int .i64 (rd t136 qw))) (ds:=[]) (ba 14 0) (by kernel_rfl) rfl rfl ⟨cH bP,cE bP,su⟩ (fun hHeld=>?_);refine hJ F3.WU F3.RE (fun ak bE=>?_)
               generalize wr.drew=w77 at kg aT aqQ aqH bP HB su hHeld ⊢
               refine pu 1 (some 183) (ba 14 2) ak (h:=?_)
               refine pu 2 (some 184) (ba 14 6) ak (h:=?_)
               refine pu 3 (some 185) (ba 14 14) ak (h:=?_)
               refine pu 4 (some 186) (ba 14 30) ak (h:=?_)
               refine pu 5 (some 187) (ba 14 62) ak (h:=?_)
               refine pu 7 (some 189) (ba 14 190) ak (h:=?_)
               refine ta 0 (some 182) (ba 14 191) ak bE hHeld (hy:=Or.inl ⟨by rfl,by rintro w' ⟨s0,s1,s2⟩;go_simp;with_reducible rfl⟩) (h:=?_)
               refine ta 6 (some 188) (ba 14 255) ak bE hHeld (hy:=Or.inl ⟨by rfl,by rintro w' ⟨s0,s1,s2⟩;go_simp;with_reducible rfl⟩) (h:=?_)
               refine eG (i:=8) (N:=some 190) (ba 14 511) rfl rfl (dU ak.out (by kernel_rfl)) (by decide) (fun K hK=>?_)
               refine iy Try.func13 (by kernel_rfl) rfl #[.agg #[.int .i64 t123,.slice kJ t124.length kV],.int .i64 t127,.int .i64 t128,.int .i64 (rd t136 qw),.int .i64 t130] (by rfl) rfl rfl gm ?_
               with_reducible refine (jU.calls k4 t123 _ _ t124 t127 t128 (rd t136 qw) t130 t141 t142 _ ?aq ?au Pg.z).mono ?_
               (case aq=>exact aC ((Kd.cI aqQ.z).2.2))
               (case au=>exact (Kd.cI aqQ.z).2.1)
               rintro e w78 ⟨rfl,hb⟩
               have ki:=(hb.cell (World.block_lt_of_cell? _ _ (hHeld.2.2))).trans (hHeld.2.2)
               refine ⟨_,rfl,?_⟩
               replace kg:=eC kg hb;replace aT:=cK aT hb;replace aqQ:=cK aqQ hb;replace aqH:=kB aqH hb;replace bP:=kB bP hb;replace HB:=bW hb
               refine hK.out _ _ ⟨cH bP,cE bP,ki⟩ (fun hHeld=>?_)
               clear hK K
               refine eV (a':=?_) ?_ ?_
               rotate_left;· show Act.put _ (some 190) _=_;simp only [Act.put,zI,zZ,zS,bJ,ck];rfl
               refine pu 9 (some 181) (ba 14 1023) ak (h:=?_)
               refine pu 10 (some 191) (ba 14 2047) ak (h:=?_)
               refine pu 11 (some 192) (ba 14 4095) ak (h:=?_)
               refine pu 12 (some 28) (ba 14 8191) ak (h:=?_)
               refine pu 13 (some 29) (ba 14 16383) ak (h:=?_)
               refine gx (gZ ak.out (by kernel_rfl)) ?_
               try go_wp2
               go_ret
               exact ⟨eR,bl⟩
              have H':=k0 H
              clear H
              obtain ⟨akD,anG,rfl⟩:=Kd.cy kg.z
              try go_wp2
              replace kg:=k0 (Kd.fG kg.z);replace aT:=k0 (Kd.lG aT.z);replace aqQ:=k0 (Kd.lG aqQ.z);replace aqH:=k0 (cJ aqH.z);replace bP:=k0 (cJ bP.z);replace HB:=k0 (aqW HB.z)
              obtain ⟨qT,qY⟩:=iN qw (t136.length:Int)
              obtain ⟨zR,e140,su⟩:=Kd.bM (Kd.aqP kg.z).2.2 qw qT qY
              cases e140
              replace qT:=eT qT
              replace qY:=eT qY
              refine gz (n:=14) (S:=fun w'=>w'.cell? ⟨ij,0,none⟩=some (.int .i64 t123)∧w'.cell? ⟨ij,1,none⟩=some (.slice kJ t124.length kV)∧w'.cell? (zR.add (qw).toNat)=some (.int .i64 (rd t136 qw))) (ds:=[]) (ba 14 0) (by kernel_rfl) rfl rfl ⟨cH bP,cE bP,su⟩ (fun hHeld=>?_);refine hJ F3.WU F3.RE (fun ak bE=>?_)
              generalize wr.drew=w74 at kg aT aqQ aqH bP HB su hHeld ⊢
              refine pu 1 (some 183) (ba 14 2) ak (h:=?_)
              refine pu 2 (some 184) (ba 14 6) ak (h:=?_)
              refine pu 3 (some 185) (ba 14 14) ak (h:=?_)
              refine pu 4 (some 186) (ba 14 30) ak (h:=?_)
              refine pu 5 (some 187) (ba 14 62) ak (h:=?_)
              refine pu 7 (some 189) (ba 14 190) ak (h:=?_)
              refine ta 0 (some 182) (ba 14 191) ak bE hHeld (hy:=Or.inl ⟨by rfl,by rintro w' ⟨s0,s1,s2⟩;go_simp;with_reducible rfl⟩) (h:=?_)
              refine ta 6 (some 188) (ba 14 255) ak bE hHeld (hy:=Or.inl ⟨by rfl,by rintro w' ⟨s0,s1,s2⟩;go_simp;with_reducible rfl⟩) (h:=?_)
              refine eG (i:=8) (N:=some 190) (ba 14 511) rfl rfl (dU ak.out (by kernel_rfl)) (by decide) (fun K hK=>?_)
              refine iy Try.func13 (by kernel_rfl) rfl #[.agg #[.int .i64 t123,.slice kJ t124.length kV],.int .i64 t127,.int .i64 t128,.int .i64 (rd t136 qw),.int .i64 t130] (by rfl) rfl rfl gm ?_
              with_reducible refine (jU.calls k4 t123 _ _ t124 t127 t128 (rd t136 qw) t130 t141 t142 _ ?aq ?au Pg.z).mono ?_
              (case aq=>exact aC ((Kd.cI aqQ.z).2.2))
              (case au=>exact (Kd.cI aqQ.z).2.1)
              rintro e w75 ⟨rfl,hb⟩
              have ki:=(hb.cell (World.block_lt_of_cell? _ _ (hHeld.2.2))).trans (hHeld.2.2)
              refine ⟨_,rfl,?_⟩
              replace kg:=eC kg hb;replace aT:=cK aT hb;replace aqQ:=cK aqQ hb;replace aqH:=kB aqH hb;replace bP:=kB bP hb;replace HB:=bW hb
              refine hK.out _ _ ⟨cH bP,cE bP,ki⟩ (fun hHeld=>?_)
              clear hK K
              refine eV (a':=?_) ?_ ?_
              rotate_left;· show Act.put _ (some 190) _=_;simp only [Act.put,zI,zZ,zS,bJ,ck];rfl
              refine pu 9 (some 181) (ba 14 1023) ak (h:=?_)
              refine pu 10 (some 191) (ba 14 2047) ak (h:=?_)
              refine pu 11 (some 192) (ba 14 4095) ak (h:=?_)
              refine pu 12 (some 28) (ba 14 8191) ak (h:=?_)
              refine pu 13 (some 29) (ba 14 16383) ak (h:=?_)
              refine gx (gZ ak.out (by kernel_rfl)) ?_
              try go_wp2
              go_roundg k4
              case measure=>have:=kM.out;have:=aqL.z;have:=pY.out;have:=iu.z;omega
              case rel=>exact ⟨(wrap64 (Jp+t141)),(wrap64 (qw+1)),rs,rs,H',⟨by have:=kM.out;have:=aqL.z;have:=pY.out;have:=iu.z;omega⟩,⟨aR (kg.z)⟩,⟨aV (aT.z)⟩,⟨aV (aqQ.z)⟩,⟨bk⟩,⟨bk⟩,⟨bl⟩⟩
           case rest=>as_aux_lemma =>
            clear Kj
            obtain ⟨kq,HA,t_,aT,aqQ,aqH,bP,HB⟩:=hcut
            cases kq with
            | zero=>exact absurd HA.z (by simp [F3.j4])
            | succ Cz =>
             have H:=HA.z
             clear HA
             simp only [F3.j4] at H
             replace H:=bS H;obtain ⟨⟨t143,t144⟩,Yb,H⟩:=H
             dsimp only at H
             replace H:=bS H;obtain ⟨⟨t148,t149⟩,Yc,H⟩:=H
             dsimp only at H
             replace H:=bS H;obtain ⟨⟨t150,t151⟩,Yd,H⟩:=H
             dsimp only at H
             replace H:=bS H;obtain ⟨⟨t152,t153⟩,Ye,H⟩:=H
             dsimp only at H
             replace H:=bS H;obtain ⟨⟨t154,t155⟩,JM,H⟩:=H
             dsimp only at H
             have Kl:=k0 H
             clear H
             go_upto_region 41 with (first|((with_reducible refine aqz (f:=16) rfl ?_);refine gC (some 216) Try.func16 #[.slice A0 l0.length c0] ?_;(with_reducible refine (Bk.calls Cz _ _ l0 t143 t144 _ ?aq ?au Yb.z).mono ?_);(case aq=>exact aC (Kd.aqN cP.z HB.z));(case au=>exact fq.z);rintro e Xi ⟨W3,rfl,aD,hb⟩;refine ⟨_,rfl,?_⟩;replace aT:=cK aT hb;replace aqQ:=cK aqQ hb;have jH:=k0 (Kd.p_ (Kd.aZ (ok':=fun k_=>k_ ≠ ep∧k_ ≠ ij) aD (fun k_ aqJ=>⟨(Kd.ig (aB aqH.z) k_ aqJ),(Kd.ig (aB bP.z) k_ aqJ)⟩)) (aqG bl));replace aqH:=kB aqH hb;replace bP:=kB bP hb;replace HB:=bW hb)|((with_reducible refine aqI (N:=30) rfl ?_);(try (refine lM (by rfl) ?_;dsimp only));refine fu 30 #[.int .i64 0,.slice none 0 0] 26 ?_;intro oc hg w98 bq hb;replace aT:=eL aT hg hb;replace aqQ:=eL aqQ hg hb;replace jH:=eL jH hg hb;have dA:=k0 (bq);have Y_:=gW hg (aqG bl);have akV:=Y_;replace HB:=bW hb;have aan:=nL hg aqH;replace aqH:=kB aqH hb;have aaA:=nG aan;have aav:=nL hg bP;replace bP:=kB bP hb;have aaB:=nG aav;clear hb bq hg;obtain ⟨_,_⟩:=nE aaA;obtain ⟨_,_⟩:=nE aaB;obtain ⟨_,_,_,_⟩:=aqA dA;obtain ⟨tV,uv,rfl⟩:=Kd.arO jH.z)|((with_reducible refine aqz (f:=17) rfl ?_);refine gC (some 219) Try.func17 #[.agg #[.int .i64 t143,.slice tV t144.length uv]] ?_;(with_reducible refine (pP.calls Cz t143 _ _ t144 t148 t149 _ ?aq ?au Yc.z).mono ?_);(case aq=>exact rV jH);(case au=>exact (Kd.cI jH.z).2.1);rintro e ap' ⟨rfl,hb⟩;refine ⟨_,rfl,?_⟩;replace aT:=cK aT hb;replace aqQ:=cK aqQ hb;replace jH:=cK jH hb;replace aqH:=kF aqH hb;replace bP:=kF bP hb;replace dA:=kP (sO t143 tV t144 uv 26) dA hb;replace HB:=bW hb;obtain ⟨_,_,_,_⟩:=aqA dA)|((with_reducible refine aqz (f:=18) rfl ?_);refine gC (some 224) Try.func18 #[.agg #[.int .i64 t143,.slice tV t144.length uv]] ?_;(with_reducible refine (nT.calls Cz t143 _ _ t144 t150 t151 _ ?aq ?au Yd.z).mono ?_);(case aq=>exact aC ((Kd.cI jH.z).2.2));(case au=>exact (Kd.cI jH.z).2.1);rintro e ap_ ⟨rfl,hb⟩;refine ⟨_,rfl,?_⟩;replace aT:=cK aT hb;replace aqQ:=cK aqQ hb;replace jH:=cK jH hb;replace aqH:=kB aqH hb;replace bP:=kB bP hb;replace dA:=kB dA hb;replace HB:=bW hb;obtain ⟨_,_,_,_⟩:=aqA dA)|((with_reducible refine aqz (f:=19) rfl ?_);refine gC (some 229) Try.func19 #[.agg #[.int .i64 t143,.slice tV t144.length uv]] ?_;(with_reducible refine (pQ.calls Cz t143 _ _ t144 t152 t153 _ ?aq ?au Ye.z).mono ?_);(case aq=>exact aC ((Kd.cI jH.z).2.2));(case au=>exact (Kd.cI jH.z).2.1);rintro e W_ ⟨rfl,hb⟩;refine ⟨_,rfl,?_⟩;replace aT:=cK aT hb;replace aqQ:=cK aqQ hb;replace jH:=cK jH hb;replace aqH:=kB aqH hb;replace bP:=kB bP hb;replace dA:=kB dA hb;replace HB:=bW hb;obtain ⟨_,_,_,_⟩:=aqA dA)|((with_reducible refine aqz (f:=20) rfl ?_);refine gC (some 234) Try.func20 #[.agg #[.int .i64 t143,.slice tV t144.length uv]] ?_;(with_reducible refine (pR.calls Cz t143 _ _ t144 t154 t155 _ ?aq ?au JM.z).mono ?_);(case aq=>exact aC ((Kd.cI jH.z).2.2));(case au=>exact (Kd.cI jH.z).2.1);rintro e ajT ⟨rfl,hb⟩;refine ⟨_,rfl,?_⟩;replace aT:=cK aT hb;replace aqQ:=cK aqQ hb;replace jH:=cK jH hb;replace aqH:=kB aqH hb;replace bP:=kB bP hb;replace dA:=kB dA hb;replace HB:=bW hb))
             (try simp only [Act.put,zI,zZ,zS])
             go_cut [269] from 225 to 280 (fun ajB wc=>∃ (kq:Nat) (Jq:Bool),ajB=.bool Jq∧ai (F3.j5 kq l0 Jq=some r)∧ai (kq≤Cz)∧ai (Kd.V (Kd.slice 2 (Kd.int .i64)) 29 wc w.heap.size (fun k_=>k_ ≠ ep∧k_ ≠ ij∧k_ ≠ oc) (.slice eJ t103.length dg) t103)∧ai (Kd.V (Kd.slice 2 (Kd.int .i64)) 29 wc w.heap.size (fun k_=>k_ ≠ ep∧k_ ≠ ij∧k_ ≠ oc) (.slice kJ t124.length kV) t124)∧ai (Kd.V (Kd.slice 2 (Kd.int .i64)) 29 wc w.heap.size (fun k_=>k_ ≠ ep∧k_ ≠ ij∧k_ ≠ oc) (.slice tV t144.length uv) t144)∧ai (wc.heap[ep]?=some (sO t102 eJ t103 dg 26))∧ai (wc.heap[ij]?=some (sO t123 kJ t124 kV 26))∧ai (wc.heap[oc]?=some (sO t143 tV t144 uv 26))∧ai (Below w.heap.size w wc))
             case first =>
              have H:=Kl.z
              clear Kl
              replace H:=iE H;obtain ⟨c110,DO,ace,H⟩|⟨DO,ace,H⟩:=H
              case inl =>
               (first|rw [DO]|(simp only [bJ,ck];rw [DO])|skip)
               have H':=k0 H
               clear H
               go_wp2
               go_meet
               case rel=>exact ⟨_,(true),rs,H',⟨by have:=kM.out;have:=aqL.z;have:=pY.out;have:=t_.out;first|omega|exact Nat.le_refl _⟩,⟨aV (Kd.aZ aT.z (fun _ hk=>⟨hk.1.1,⟨hk.1.2,hk.2⟩⟩))⟩,⟨aV (Kd.aZ aqQ.z (fun _ hk=>⟨hk.1.1,⟨hk.1.2,hk.2⟩⟩))⟩,⟨aV (Kd.aZ jH.z (fun _ hk=>⟨hk.1.1,⟨hk.1.2,hk.2⟩⟩))⟩,⟨bk⟩,⟨bk⟩,⟨bk⟩,⟨bl⟩⟩
              (first|rw [DO]|(simp only [bJ,ck];rw [DO])|skip)
              replace H:=iE H;obtain ⟨c111,acf,acg,H⟩|⟨acf,acg,H⟩:=H
              case inl =>
               have H':=k0 H
               clear H
               go_wp2
               go_meet
               case rel=>exact ⟨_,(true),rs,H',⟨by have:=kM.out;have:=aqL.z;have:=pY.out;have:=t_.out;first|omega|exact Nat.le_refl _⟩,⟨aV (Kd.aZ aT.z (fun _ hk=>⟨hk.1.1,⟨hk.1.2,hk.2⟩⟩))⟩,⟨aV (Kd.aZ aqQ.z (fun _ hk=>⟨hk.1.1,⟨hk.1.2,hk.2⟩⟩))⟩,⟨aV (Kd.aZ jH.z (fun _ hk=>⟨hk.1.1,⟨hk.1.2,hk.2⟩⟩))⟩,⟨bk⟩,⟨bk⟩,⟨bk⟩,⟨bl⟩⟩
              replace H:=iE H;obtain ⟨c112,ach,aci,H⟩|⟨ach,aci,H⟩:=H
              case inl =>
               have H':=k0 H
               clear H
               go_wp2
               go_meet
               case rel=>exact ⟨_,(true),rs,H',⟨by have:=kM.out;have:=aqL.z;have:=pY.out;have:=t_.out;first|omega|exact Nat.le_refl _⟩,⟨aV (Kd.aZ aT.z (fun _ hk=>⟨hk.1.1,⟨hk.1.2,hk.2⟩⟩))⟩,⟨aV (Kd.aZ aqQ.z (fun _ hk=>⟨hk.1.1,⟨hk.1.2,hk.2⟩⟩))⟩,⟨aV (Kd.aZ jH.z (fun _ hk=>⟨hk.1.1,⟨hk.1.2,hk.2⟩⟩))⟩,⟨bk⟩,⟨bk⟩,⟨bk⟩,⟨bl⟩⟩
              replace H:=iE H;obtain ⟨c113,DP,ack,H⟩|⟨DP,ack,H⟩:=H
              case inl =>
               have H':=k0 H
               clear H
               go_wp2
               go_meet
               case rel=>exact ⟨_,(true),rs,H',⟨by have:=kM.out;have:=aqL.z;have:=pY.out;have:=t_.out;first|omega|exact Nat.le_refl _⟩,⟨aV (Kd.aZ aT.z (fun _ hk=>⟨hk.1.1,⟨hk.1.2,hk.2⟩⟩))⟩,⟨aV (Kd.aZ aqQ.z (fun _ hk=>⟨hk.1.1,⟨hk.1.2,hk.2⟩⟩))⟩,⟨aV (Kd.aZ jH.z (fun _ hk=>⟨hk.1.1,⟨hk.1.2,hk.2⟩⟩))⟩,⟨bk⟩,⟨bk⟩,⟨bk⟩,⟨bl⟩⟩
              replace H:=iE H;obtain ⟨c114,RV,acm,H⟩|⟨RV,acm,H⟩:=H
              case inl =>
               have H':=k0 H
               clear H
               go_wp2
               go_meet
               case rel=>exact ⟨_,(false),rs,H',⟨by have:=kM.out;have:=aqL.z;have:=pY.out;have:=t_.out;first|omega|exact Nat.le_refl _⟩,⟨aV (Kd.aZ aT.z (fun _ hk=>⟨hk.1.1,⟨hk.1.2,hk.2⟩⟩))⟩,⟨aV (Kd.aZ aqQ.z (fun _ hk=>⟨hk.1.1,⟨hk.1.2,hk.2⟩⟩))⟩,⟨aV (Kd.aZ jH.z (fun _ hk=>⟨hk.1.1,⟨hk.1.2,hk.2⟩⟩))⟩,⟨bk⟩,⟨bk⟩,⟨bk⟩,⟨bl⟩⟩
              replace H:=iE H;obtain ⟨c115,Lv,acn,H⟩|⟨Lv,acn,H⟩:=H
              case inl =>
               have H':=k0 H
               clear H
               go_wp2
               go_meet
               case rel=>exact ⟨_,((t148 != (wrap64 (-t152)))),rs,H',⟨by have:=kM.out;have:=aqL.z;have:=pY.out;have:=t_.out;first|omega|exact Nat.le_refl _⟩,⟨aV (Kd.aZ aT.z (fun _ hk=>⟨hk.1.1,⟨hk.1.2,hk.2⟩⟩))⟩,⟨aV (Kd.aZ aqQ.z (fun _ hk=>⟨hk.1.1,⟨hk.1.2,hk.2⟩⟩))⟩,⟨aV (Kd.aZ jH.z (fun _ hk=>⟨hk.1.1,⟨hk.1.2,hk.2⟩⟩))⟩,⟨bk⟩,⟨bk⟩,⟨bk⟩,⟨bl⟩⟩
              have H':=k0 H
              clear H
              go_wp2
              go_meet
              case rel=>exact ⟨_,(false),rs,H',⟨by have:=kM.out;have:=aqL.z;have:=pY.out;have:=t_.out;first|omega|exact Nat.le_refl _⟩,⟨aV (Kd.aZ aT.z (fun _ hk=>⟨hk.1.1,⟨hk.1.2,hk.2⟩⟩))⟩,⟨aV (Kd.aZ aqQ.z (fun _ hk=>⟨hk.1.1,⟨hk.1.2,hk.2⟩⟩))⟩,⟨aV (Kd.aZ jH.z (fun _ hk=>⟨hk.1.1,⟨hk.1.2,hk.2⟩⟩))⟩,⟨bk⟩,⟨bk⟩,⟨bk⟩,⟨bl⟩⟩
             case rest=>as_aux_lemma =>
              clear Kl
              obtain ⟨kq,Jq,rfl,HA,Gx,aT,aqQ,eS,aqH,bP,dA,HB⟩:=hcut
              cases kq with
              | zero=>exact absurd HA.z (by simp [F3.j5])
              | succ FG =>
               have H:=HA.z
               clear HA
               simp only [F3.j5] at H
               cases Jq
               case false =>
                replace H:=iF H
                replace H:=bS H;obtain ⟨⟨t156,t157⟩,XI,H⟩:=H
                dsimp only at H
                replace H:=bS H;obtain ⟨⟨t161,t164⟩,XJ,H⟩:=H
                dsimp only at H
                replace H:=bS H;obtain ⟨⟨t165,t168⟩,XK,H⟩:=H
                dsimp only at H
                have J9:=k0 H
                clear H
                go_upto_region 46 with (first|((with_reducible refine aqz (f:=21) rfl ?_);refine gC (some 271) Try.func21 #[.slice A0 l0.length c0] ?_;(with_reducible refine (Bl.calls FG _ _ l0 t156 t157 _ ?aq ?au XI.z).mono ?_);(case aq=>exact aC (Kd.aqN cP.z HB.z));(case au=>exact fq.z);rintro e aqe ⟨apy,rfl,aD,hb⟩;refine ⟨_,rfl,?_⟩;replace aT:=cK aT hb;replace aqQ:=cK aqQ hb;replace eS:=cK eS hb;have rW:=k0 (Kd.p_ (Kd.aZ (ok':=fun k_=>k_ ≠ ep∧k_ ≠ ij∧k_ ≠ oc) aD (fun k_ aqJ=>⟨(Kd.ig (aB aqH.z) k_ aqJ),(Kd.ig (aB bP.z) k_ aqJ),(Kd.ig (aB dA.z) k_ aqJ)⟩)) (aqG bl));replace aqH:=kB aqH hb;replace bP:=kB bP hb;replace dA:=kB dA hb;replace HB:=bW hb)|((with_reducible refine aqI (N:=39) rfl ?_);(try (refine lM (by rfl) ?_;dsimp only));refine fu 39 #[.int .i64 0,.slice none 0 0] 26 ?_;intro sg hg aqf bq hb;replace aT:=eL aT hg hb;replace aqQ:=eL aqQ hg hb;replace eS:=eL eS hg hb;replace rW:=eL rW hg hb;have ez:=k0 (bq);have Za:=gW hg (aqG bl);have akW:=Za;replace HB:=bW hb;have aao:=nL hg aqH;replace aqH:=kB aqH hb;have GO:=nG aao;have aaw:=nL hg bP;replace bP:=kB bP hb;have GP:=nG aaw;have aaC:=nL hg dA;replace dA:=kB dA hb;have GQ:=nG aaC;clear hb bq hg;obtain ⟨_,_⟩:=nE GO;obtain ⟨_,_⟩:=nE GP;obtain ⟨_,_⟩:=nE GQ;obtain ⟨_,_,_,_⟩:=aqA ez;obtain ⟨vF,vQ,rfl⟩:=Kd.arO rW.z)|((with_reducible refine aqz (f:=22) rfl ?_);refine gC (some 274) Try.func22 #[.agg #[.int .i64 t156,.slice vF t157.length vQ]] ?_;(with_reducible refine (zq.calls FG t156 _ _ t157 t161 t164 _ ?aq ?au XJ.z).mono ?_);(case aq=>exact rV rW);(case au=>exact (Kd.cI rW.z).2.1);rintro e aqh ⟨wk,rfl,aD,hb⟩;refine ⟨_,rfl,?_⟩;replace aT:=aqX aT (Kd.nw aD) hb;replace aqQ:=aqX aqQ (Kd.nw aD) hb;replace eS:=aqX eS (Kd.nw aD) hb;replace rW:=aqX rW (Kd.nw aD) hb;have xH:=k0 (Kd.fT aD (aqG bl));replace aqH:=kF aqH hb;replace bP:=kF bP hb;replace dA:=kF dA hb;replace ez:=kP (sO t156 vF t157 vQ 26) ez hb;replace HB:=bW hb;obtain ⟨_,_,_,_⟩:=aqA ez)|((with_reducible refine aqz (f:=23) rfl ?_);refine gC (some 279) Try.func23 #[.agg #[.int .i64 t156,.slice vF t157.length vQ]] ?_;(with_reducible refine (zu.calls FG t156 _ _ t157 t165 t168 _ ?aq ?au XK.z).mono ?_);(case aq=>exact aC ((Kd.cI rW.z).2.2));(case au=>exact (Kd.cI rW.z).2.1);rintro e aqi ⟨ajz,rfl,aD,hb⟩;refine ⟨_,rfl,?_⟩;replace aT:=aqX aT (Kd.nw aD) hb;replace aqQ:=aqX aqQ (Kd.nw aD) hb;replace eS:=aqX eS (Kd.nw aD) hb;replace rW:=aqX rW (Kd.nw aD) hb;have Di:=k0 (Kd.fT (Kd.oX aD (Kd.p9 (aS xH.z))) (aqG bl));replace xH:=iw xH (Kd.nw aD) hb;replace aqH:=kB aqH hb;replace bP:=kB bP hb;replace dA:=kB dA hb;replace ez:=kB ez hb;replace HB:=bW hb))
                (try simp only [Act.put,zI,zZ,zS])
                go_cut [290] from 268 to 300 (fun ajC wc=>∃ (kq:Nat) (Jt:Bool),ajC=.bool Jt∧ai (F3.j6 kq l0 t161 Jt t156 t157=some r)∧ai (kq≤FG)∧ai (Kd.S (Kd.slice 2 (Kd.int .i64)) 29 wc w.heap.size (fun _=>True) wk t161)∧ai (Kd.V (Kd.slice 2 (Kd.int .i64)) 29 wc w.heap.size (fun k_=>some k_ ≠ (wk:Value).ownBlock∧k_ ≠ ep∧k_ ≠ ij∧k_ ≠ oc∧k_ ≠ sg) (.slice eJ t103.length dg) t103)∧ai (Kd.V (Kd.slice 2 (Kd.int .i64)) 29 wc w.heap.size (fun k_=>some k_ ≠ (wk:Value).ownBlock∧k_ ≠ ep∧k_ ≠ ij∧k_ ≠ oc∧k_ ≠ sg) (.slice kJ t124.length kV) t124)∧ai (Kd.V (Kd.slice 2 (Kd.int .i64)) 29 wc w.heap.size (fun k_=>some k_ ≠ (wk:Value).ownBlock∧k_ ≠ ep∧k_ ≠ ij∧k_ ≠ oc∧k_ ≠ sg) (.slice tV t144.length uv) t144)∧ai (Kd.V (Kd.slice 2 (Kd.int .i64)) 29 wc w.heap.size (fun k_=>some k_ ≠ (wk:Value).ownBlock∧k_ ≠ ep∧k_ ≠ ij∧k_ ≠ oc∧k_ ≠ sg) (.slice vF t157.length vQ) t157)∧ai (wc.heap[ep]?=some (sO t102 eJ t103 dg 26))∧ai (wc.heap[ij]?=some (sO t123 kJ t124 kV 26))∧ai (wc.heap[oc]?=some (sO t143 tV t144 uv 26))∧ai (wc.heap[sg]?=some (sO t156 vF t157 vQ 26))∧ai (Below w.heap.size w wc))
                case first =>
                 have H:=J9.z
                 clear J9
                 replace H:=iE H;obtain ⟨c131,DQ,acv,H⟩|⟨DQ,acv,H⟩:=H
                 case inl =>
                  (first|rw [DQ]|(simp only [bJ,ck];rw [DQ])|skip)
                  have H':=k0 H
                  clear H
                  go_wp2
                  go_meet
                  case rel=>exact ⟨_,(true),rs,H',⟨by have:=kM.out;have:=aqL.z;have:=pY.out;have:=t_.out;have:=Gx.out;first|omega|exact Nat.le_refl _⟩,⟨aS (Kd.b6 xH.z (fun _ hk=>trivial))⟩,⟨aV (Kd.aZ aT.z (fun _ hk=>⟨hk.1.2,⟨hk.1.1.1.1,⟨hk.1.1.1.2.1,⟨hk.1.1.1.2.2,hk.1.1.2⟩⟩⟩⟩))⟩,⟨aV (Kd.aZ aqQ.z (fun _ hk=>⟨hk.1.2,⟨hk.1.1.1.1,⟨hk.1.1.1.2.1,⟨hk.1.1.1.2.2,hk.1.1.2⟩⟩⟩⟩))⟩,⟨aV (Kd.aZ eS.z (fun _ hk=>⟨hk.1.2,⟨hk.1.1.1.1,⟨hk.1.1.1.2.1,⟨hk.1.1.1.2.2,hk.1.1.2⟩⟩⟩⟩))⟩,⟨aV (Kd.aZ rW.z (fun _ hk=>⟨hk.1.2,⟨hk.1.1.1.1,⟨hk.1.1.1.2.1,⟨hk.1.1.1.2.2,hk.1.1.2⟩⟩⟩⟩))⟩,⟨bk⟩,⟨bk⟩,⟨bk⟩,⟨bk⟩,⟨bl⟩⟩
                 (first|rw [DQ]|(simp only [bJ,ck];rw [DQ])|skip)
                 replace H:=bS H;obtain ⟨t169,XO,H⟩:=H
                 have H':=k0 H
                 clear H
                 obtain ⟨akk,anp,rfl⟩:=Kd.dL xH.z
                 obtain ⟨akl,anq,rfl⟩:=Kd.dL Di.z
                 go_wp2_with (first|(go_at_call 24;(with_reducible refine (pS.calls FG _ _ t161 _ _ t165 t169 _ ?aq ?au ?cr ?dw XO.z).mono ?_);(case aq=>exact aC ((Kd.a_ xH.z).2.2));(case au=>exact (Kd.a_ xH.z).2.1);(case cr=>exact aC ((Kd.a_ Di.z).2.2));(case dw=>exact (Kd.a_ Di.z).2.1);rintro e w' ⟨rfl,⟨nd,rfl⟩⟩))
                 go_meet
                 case rel=>exact ⟨_,(!t169),rs,H',⟨by have:=kM.out;have:=aqL.z;have:=pY.out;have:=t_.out;have:=Gx.out;first|omega|exact Nat.le_refl _⟩,⟨aS (Kd.b6 xH.z (fun _ hk=>trivial))⟩,⟨aV (Kd.aZ aT.z (fun _ hk=>⟨hk.1.2,⟨hk.1.1.1.1,⟨hk.1.1.1.2.1,⟨hk.1.1.1.2.2,hk.1.1.2⟩⟩⟩⟩))⟩,⟨aV (Kd.aZ aqQ.z (fun _ hk=>⟨hk.1.2,⟨hk.1.1.1.1,⟨hk.1.1.1.2.1,⟨hk.1.1.1.2.2,hk.1.1.2⟩⟩⟩⟩))⟩,⟨aV (Kd.aZ eS.z (fun _ hk=>⟨hk.1.2,⟨hk.1.1.1.1,⟨hk.1.1.1.2.1,⟨hk.1.1.1.2.2,hk.1.1.2⟩⟩⟩⟩))⟩,⟨aV (Kd.aZ rW.z (fun _ hk=>⟨hk.1.2,⟨hk.1.1.1.1,⟨hk.1.1.1.2.1,⟨hk.1.1.1.2.2,hk.1.1.2⟩⟩⟩⟩))⟩,⟨bk⟩,⟨bk⟩,⟨bk⟩,⟨bk⟩,⟨bl⟩⟩
                case rest=>as_aux_lemma =>
                 clear J9
                 obtain ⟨kq,Jt,rfl,HA,P3,eK,aT,aqQ,eS,aq6,aqH,bP,dA,ez,HB⟩:=hcut
                 cases kq with
                 | zero=>exact absurd HA.z (by simp [F3.j6])
                 | succ VO =>
                  have H:=HA.z
                  clear HA
                  simp only [F3.j6] at H
                  cases Jt
                  case false =>
                   replace H:=iF H
                   have H':=k0 H
                   clear H
                   go_wp2
                   go_loopg [44] VO (fun kq OM w'=>∃ (mX:Int),OM=.int .i64 mX∧ai (F3.l2 kq l0 t161 mX t156 t157=some r)∧ai (kq≤VO)∧ai (Kd.S (Kd.slice 2 (Kd.int .i64)) 29 w' w.heap.size (fun _=>True) wk t161)∧ai (Kd.V (Kd.slice 2 (Kd.int .i64)) 29 w' w.heap.size (fun k_=>some k_ ≠ (wk:Value).ownBlock∧k_ ≠ ep∧k_ ≠ ij∧k_ ≠ oc∧k_ ≠ sg) (.slice eJ t103.length dg) t103)∧ai (Kd.V (Kd.slice 2 (Kd.int .i64)) 29 w' w.heap.size (fun k_=>some k_ ≠ (wk:Value).ownBlock∧k_ ≠ ep∧k_ ≠ ij∧k_ ≠ oc∧k_ ≠ sg) (.slice kJ t124.length kV) t124)∧ai (Kd.V (Kd.slice 2 (Kd.int .i64)) 29 w' w.heap.size (fun k_=>some k_ ≠ (wk:Value).ownBlock∧k_ ≠ ep∧k_ ≠ ij∧k_ ≠ oc∧k_ ≠ sg) (.slice tV t144.length uv) t144)∧ai (Kd.V (Kd.slice 2 (Kd.int .i64)) 29 w' w.heap.size (fun k_=>some k_ ≠ (wk:Value).ownBlock∧k_ ≠ ep∧k_ ≠ ij∧k_ ≠ oc∧k_ ≠ sg) (.slice vF t157.length vQ) t157)∧ai (w'.heap[ep]?=some (sO t102 eJ t103 dg 26))∧ai (w'.heap[ij]?=some (sO t123 kJ t124 kV 26))∧ai (w'.heap[oc]?=some (sO t143 tV t144 uv 26))∧ai (w'.heap[sg]?=some (sO t156 vF t157 vQ 26))∧ai (Below w.heap.size w w'))
                   case atStart=>exact ⟨(0),rs,H',⟨Nat.le_refl _⟩,⟨aS (eK.z)⟩,⟨aV (aT.z)⟩,⟨aV (aqQ.z)⟩,⟨aV (eS.z)⟩,⟨aV (aq6.z)⟩,⟨bk⟩,⟨bk⟩,⟨bk⟩,⟨bk⟩,⟨bl⟩⟩
                   case round=>as_aux_lemma =>
                    clear H'
                    obtain ⟨mX,rfl,HA,wz,eK,aT,aqQ,eS,aq6,aqH,bP,dA,ez,HB⟩:=hrel
                    cases gk with
                    | zero=>exact absurd HA.z (by simp [F3.l2])
                    | succ k7 =>
                     have H:=HA.z
                     clear HA
                     simp only [F3.l2] at H
                     replace H:=iC H;obtain ⟨acy,H⟩|⟨acy,H⟩:=H
                     case inl =>
                      replace H:=bS H;obtain ⟨⟨t176,t177,t180,t181⟩,XQ,H⟩:=H
                      dsimp only at H
                      replace H:=bS H;obtain ⟨⟨t183,t184⟩,XR,H⟩:=H
                      dsimp only at H
                      replace H:=bS H;obtain ⟨⟨t185,t186⟩,XS,H⟩:=H
                      dsimp only at H
                      replace H:=bS H;obtain ⟨⟨t187,t188,t191,t192⟩,XT,H⟩:=H
                      dsimp only at H
                      replace H:=bS H;obtain ⟨⟨t194,t195⟩,XU,H⟩:=H
                      dsimp only at H
                      replace H:=bS H;obtain ⟨⟨t196,t197⟩,XV,H⟩:=H
                      dsimp only at H
                      replace H:=bS H;obtain ⟨⟨t198,t199,t202⟩,XW,H⟩:=H
                      dsimp only at H
                      replace H:=bS H;obtain ⟨⟨t204,t207⟩,XX,H⟩:=H
                      dsimp only at H
                      replace H:=bS H;obtain ⟨⟨t208,t211⟩,XY,H⟩:=H
                      dsimp only at H
                      obtain ⟨JO,LP,rfl⟩:=Kd.dL eK.z
                      have PL:=k0 H
                      clear H
                      go_upto_region 63 with (first|((with_reducible refine aqz (f:=26) rfl ?_);refine gC (some 317) Try.func26 #[.slice A0 l0.length c0] ?_;(with_reducible refine (pT.calls k7 _ _ l0 t176 t177 t180 t181 _ ?aq ?au XQ.z).mono ?_);(case aq=>exact aC (Kd.aqN cP.z HB.z));(case au=>exact fq.z);rintro e aqm ⟨apA,rfl,aD,hb⟩;refine ⟨_,rfl,?_⟩;replace aT:=cK aT hb;replace aqQ:=cK aqQ hb;replace eS:=cK eS hb;replace aq6:=cK aq6 hb;have ju:=k0 (Kd.p_ (Kd.aZ (ok':=fun k_=>some k_ ≠ (.slice JO t161.length LP:Value).ownBlock∧k_ ≠ ep∧k_ ≠ ij∧k_ ≠ oc∧k_ ≠ sg) aD (fun k_ aqJ=>⟨(Kd.fresh' (Kd.p9 (aS eK.z)) k_ aqJ),(Kd.ig (aB aqH.z) k_ aqJ),(Kd.ig (aB bP.z) k_ aqJ),(Kd.ig (aB dA.z) k_ aqJ),(Kd.ig (aB ez.z) k_ aqJ)⟩)) (aqG bl));replace eK:=iG eK hb;replace aqH:=kB aqH hb;replace bP:=kB bP hb;replace dA:=kB dA hb;replace ez:=kB ez hb;replace HB:=bW hb)|((with_reducible refine aqI (N:=47) rfl ?_);(try (refine lM (by rfl) ?_;dsimp only));refine fu 47 #[.int .i64 0,.slice none 0 0] 26 ?_;intro Th hg aqn bq hb;replace eK:=iG eK hb;replace aT:=eL aT hg hb;replace aqQ:=eL aqQ hg hb;replace eS:=eL eS hg hb;replace aq6:=eL aq6 hg hb;replace ju:=eL ju hg hb;have jn:=k0 (bq);have Zb:=gW hg (aqG bl);have akX:=Zb;replace HB:=bW hb;have aap:=nL hg aqH;replace aqH:=kB aqH hb;have aaJ:=nG aap;have aax:=nL hg bP;replace bP:=kB bP hb;have aaK:=nG aax;have aaD:=nL hg dA;replace dA:=kB dA hb;have aaL:=nG aaD;have aaG:=nL hg ez;replace ez:=kB ez hb;have aaM:=nG aaG;clear hb bq hg;obtain ⟨_,_⟩:=nE aaJ;obtain ⟨_,_⟩:=nE aaK;obtain ⟨_,_⟩:=nE aaL;obtain ⟨_,_⟩:=nE aaM;obtain ⟨_,_,_,_⟩:=aqA jn;obtain ⟨JP,LQ,rfl⟩:=Kd.arO ju.z)|((with_reducible refine aqz (f:=10) rfl ?_);refine gC (some 325) Try.func10 #[.agg #[.int .i64 t176,.slice JP t177.length LQ],.int .i64 t180,.int .i64 t181] ?_;(with_reducible refine (rq.calls k7 t176 _ _ t177 t180 t181 t183 t184 _ ?aq ?au XR.z).mono ?_);(case aq=>exact rV ju);(case au=>exact (Kd.cI ju.z).2.1);rintro e aqo ⟨rfl,hb⟩;refine ⟨_,rfl,?_⟩;replace eK:=k0 (Kd.zN (AZ eK jn) hb);replace aT:=cK aT hb;replace aqQ:=cK aqQ hb;replace eS:=cK eS hb;replace aq6:=cK aq6 hb;replace ju:=cK ju hb;replace aqH:=kF aqH hb;replace bP:=kF bP hb;replace dA:=kF dA hb;replace ez:=kF ez hb;replace jn:=kP (sO t176 JP t177 LQ 26) jn hb;replace HB:=bW hb;obtain ⟨_,_,_,_⟩:=aqA jn)|((with_reducible refine aqz (f:=27) rfl ?_);refine gC (some 332) Try.func27 #[.agg #[.int .i64 t176,.slice JP t177.length LQ],.int .i64 t180,.int .i64 t181] ?_;(with_reducible refine (zv.calls k7 t176 _ _ t177 t180 t181 t185 t186 _ ?aq ?au XS.z).mono ?_);(case aq=>exact aC ((Kd.cI ju.z).2.2));(case au=>exact (Kd.cI ju.z).2.1);rintro e aqp ⟨rfl,hb⟩;refine ⟨_,rfl,?_⟩;replace eK:=iG eK hb;replace aT:=cK aT hb;replace aqQ:=cK aqQ hb;replace eS:=cK eS hb;replace aq6:=cK aq6 hb;replace ju:=cK ju hb;replace aqH:=kB aqH hb;replace bP:=kB bP hb;replace dA:=kB dA hb;replace ez:=kB ez hb;replace jn:=kB jn hb;replace HB:=bW hb)|((with_reducible refine aqz (f:=28) rfl ?_);refine gC (some 337) Try.func28 #[.slice A0 l0.length c0] ?_;(with_reducible refine (pU.calls k7 _ _ l0 t187 t188 t191 t192 _ ?aq ?au XT.z).mono ?_);(case aq=>exact aC (Kd.aqN cP.z HB.z));(case au=>exact fq.z);rintro e aqq ⟨apB,rfl,aD,hb⟩;refine ⟨_,rfl,?_⟩;replace aT:=cK aT hb;replace aqQ:=cK aqQ hb;replace eS:=cK eS hb;replace aq6:=cK aq6 hb;replace ju:=cK ju hb;have nj:=k0 (Kd.p_ (Kd.aZ (ok':=fun k_=>some k_ ≠ (.slice JO t161.length LP:Value).ownBlock∧k_ ≠ ep∧k_ ≠ ij∧k_ ≠ oc∧k_ ≠ sg∧k_ ≠ Th) aD (fun k_ aqJ=>⟨(Kd.fresh' (Kd.p9 (aS eK.z)) k_ aqJ),(Kd.ig (aB aqH.z) k_ aqJ),(Kd.ig (aB bP.z) k_ aqJ),(Kd.ig (aB dA.z) k_ aqJ),(Kd.ig (aB ez.z) k_ aqJ),(Kd.ig (aB jn.z) k_ aqJ)⟩)) (aqG bl));replace eK:=iG eK hb;replace aqH:=kB aqH hb;replace bP:=kB bP hb;replace dA:=kB dA hb;replace ez:=kB ez hb;replace jn:=kB jn hb;replace HB:=bW hb)|((with_reducible refine aqI (N:=54) rfl ?_);(try (refine lM (by rfl) ?_;dsimp only));refine fu 54 #[.int .i64 0,.slice none 0 0] 26 ?_;intro aey hg aqr bq hb;replace eK:=iG eK hb;replace aT:=eL aT hg hb;replace aqQ:=eL aqQ hg hb;replace eS:=eL eS hg hb;replace aq6:=eL aq6 hg hb;replace ju:=eL ju hg hb;replace nj:=eL nj hg hb;have oK:=k0 (bq);have Zc:=gW hg (aqG bl);have akY:=Zc;replace HB:=bW hb;have aaq:=nL hg aqH;replace aqH:=kB aqH hb;have aaP:=nG aaq;have aay:=nL hg bP;replace bP:=kB bP hb;have aaQ:=nG aay;have aaE:=nL hg dA;replace dA:=kB dA hb;have aaR:=nG aaE;have aaH:=nL hg ez;replace ez:=kB ez hb;have aaS:=nG aaH;have aaN:=nL hg jn;replace jn:=kB jn hb;have aaT:=nG aaN;clear hb bq hg;obtain ⟨_,_⟩:=nE aaP;obtain ⟨_,_⟩:=nE aaQ;obtain ⟨_,_⟩:=nE aaR;obtain ⟨_,_⟩:=nE aaS;obtain ⟨_,_⟩:=nE aaT;obtain ⟨_,_,_,_⟩:=aqA oK;obtain ⟨JQ,LR,rfl⟩:=Kd.arO nj.z)|((with_reducible refine aqz (f:=11) rfl ?_);refine gC (some 345) Try.func11 #[.agg #[.int .i64 t187,.slice JQ t188.length LR],.int .i64 t191,.int .i64 t192] ?_;(with_reducible refine (nR.calls k7 t187 _ _ t188 t191 t192 t194 t195 _ ?aq ?au XU.z).mono ?_);(case aq=>exact rV nj);(case au=>exact (Kd.cI nj.z).2.1);rintro e aqs ⟨rfl,hb⟩;refine ⟨_,rfl,?_⟩;replace eK:=k0 (Kd.zN (AZ eK oK) hb);replace aT:=cK aT hb;replace aqQ:=cK aqQ hb;replace eS:=cK eS hb;replace aq6:=cK aq6 hb;replace ju:=cK ju hb;replace nj:=cK nj hb;replace aqH:=kF aqH hb;replace bP:=kF bP hb;replace dA:=kF dA hb;replace ez:=kF ez hb;replace jn:=kF jn hb;replace oK:=kP (sO t187 JQ t188 LR 26) oK hb;replace HB:=bW hb;obtain ⟨_,_,_,_⟩:=aqA oK)|((with_reducible refine aqz (f:=29) rfl ?_);refine gC (some 352) Try.func29 #[.agg #[.int .i64 t187,.slice JQ t188.length LR],.int .i64 t191,.int .i64 t192] ?_;(with_reducible refine (m_.calls k7 t187 _ _ t188 t191 t192 t196 t197 _ ?aq ?au XV.z).mono ?_);(case aq=>exact aC ((Kd.cI nj.z).2.2));(case au=>exact (Kd.cI nj.z).2.1);rintro e aqt ⟨rfl,hb⟩;refine ⟨_,rfl,?_⟩;replace eK:=iG eK hb;replace aT:=cK aT hb;replace aqQ:=cK aqQ hb;replace eS:=cK eS hb;replace aq6:=cK aq6 hb;replace ju:=cK ju hb;replace nj:=cK nj hb;replace aqH:=kB aqH hb;replace bP:=kB bP hb;replace dA:=kB dA hb;replace ez:=kB ez hb;replace jn:=kB jn hb;replace oK:=kB oK hb;replace HB:=bW hb)|((with_reducible refine aqz (f:=30) rfl ?_);refine gC (some 357) Try.func30 #[.slice A0 l0.length c0] ?_;(with_reducible refine (pV.calls k7 _ _ l0 t198 t199 t202 _ ?aq ?au XW.z).mono ?_);(case aq=>exact aC (Kd.aqN cP.z HB.z));(case au=>exact fq.z);rintro e aqu ⟨apC,rfl,aD,hb⟩;refine ⟨_,rfl,?_⟩;replace aT:=cK aT hb;replace aqQ:=cK aqQ hb;replace eS:=cK eS hb;replace aq6:=cK aq6 hb;replace ju:=cK ju hb;replace nj:=cK nj hb;have ud:=k0 (Kd.p_ (Kd.aZ (ok':=fun k_=>some k_ ≠ (.slice JO t161.length LP:Value).ownBlock∧k_ ≠ ep∧k_ ≠ ij∧k_ ≠ oc∧k_ ≠ sg∧k_ ≠ Th∧k_ ≠ aey) aD (fun k_ aqJ=>⟨(Kd.fresh' (Kd.p9 (aS eK.z)) k_ aqJ),(Kd.ig (aB aqH.z) k_ aqJ),(Kd.ig (aB bP.z) k_ aqJ),(Kd.ig (aB dA.z) k_ aqJ),(Kd.ig (aB ez.z) k_ aqJ),(Kd.ig (aB jn.z) k_ aqJ),(Kd.ig (aB oK.z) k_ aqJ)⟩)) (aqG bl));replace eK:=iG eK hb;replace aqH:=kB aqH hb;replace bP:=kB bP hb;replace dA:=kB dA hb;replace ez:=kB ez hb;replace jn:=kB jn hb;replace oK:=kB oK hb;replace HB:=bW hb)|((with_reducible refine aqI (N:=61) rfl ?_);(try (refine lM (by rfl) ?_;dsimp only));refine fu 61 #[.int .i64 0,.slice none 0 0] 26 ?_;intro anM hg aqv bq hb;replace eK:=iG eK hb;replace aT:=eL aT hg hb;replace aqQ:=eL aqQ hg hb;replace eS:=eL eS hg hb;replace aq6:=eL aq6 hg hb;replace ju:=eL ju hg hb;replace nj:=eL nj hg hb;replace ud:=eL ud hg hb;have zn:=k0 (bq);have Zd:=gW hg (aqG bl);have akZ:=Zd;replace HB:=bW hb;have aar:=nL hg aqH;replace aqH:=kB aqH hb;have aaV:=nG aar;have aaz:=nL hg bP;replace bP:=kB bP hb;have aaW:=nG aaz;have aaF:=nL hg dA;replace dA:=kB dA hb;have aaX:=nG aaF;have aaI:=nL hg ez;replace ez:=kB ez hb;have aaY:=nG aaI;have aaO:=nL hg jn;replace jn:=kB jn hb;have aaZ:=nG aaO;have aaU:=nL hg oK;replace oK:=kB oK hb;have aa0:=nG aaU;clear hb bq hg;obtain ⟨_,_⟩:=nE aaV;obtain ⟨_,_⟩:=nE aaW;obtain ⟨_,_⟩:=nE aaX;obtain ⟨_,_⟩:=nE aaY;obtain ⟨_,_⟩:=nE aaZ;obtain ⟨_,_⟩:=nE aa0;obtain ⟨_,_,_,_⟩:=aqA zn;obtain ⟨JR,LS,rfl⟩:=Kd.arO ud.z)|((with_reducible refine aqz (f:=15) rfl ?_);refine gC (some 363) Try.func15 #[.agg #[.int .i64 t198,.slice JR t199.length LS],.int .i64 t202] ?_;(with_reducible refine (jE.calls k7 t198 _ _ t199 t202 t204 t207 _ ?aq ?au XX.z).mono ?_);(case aq=>exact rV ud);(case au=>exact (Kd.cI ud.z).2.1);rintro e aqw ⟨apD,rfl,aD,hb⟩;refine ⟨_,rfl,?_⟩;replace eK:=k0 (Kd.K8 (AZ eK zn) (Kd.cm aD) hb);replace aT:=aqX aT (Kd.cm aD) hb;replace aqQ:=aqX aqQ (Kd.cm aD) hb;replace eS:=aqX eS (Kd.cm aD) hb;replace aq6:=aqX aq6 (Kd.cm aD) hb;replace ju:=aqX ju (Kd.cm aD) hb;replace nj:=aqX nj (Kd.cm aD) hb;replace ud:=aqX ud (Kd.cm aD) hb;have Bt:=k0 (Kd.cA aD (aqG bl));replace aqH:=kF aqH hb;replace bP:=kF bP hb;replace dA:=kF dA hb;replace ez:=kF ez hb;replace jn:=kF jn hb;replace oK:=kF oK hb;replace zn:=kP (sO t198 JR t199 LS 26) zn hb;replace HB:=bW hb;obtain ⟨_,_,_,_⟩:=aqA zn)|((with_reducible refine aqz (f:=31) rfl ?_);refine gC (some 369) Try.func31 #[.agg #[.int .i64 t198,.slice JR t199.length LS],.int .i64 t202] ?_;(with_reducible refine (nc.calls k7 t198 _ _ t199 t202 t208 t211 _ ?aq ?au XY.z).mono ?_);(case aq=>exact aC ((Kd.cI ud.z).2.2));(case au=>exact (Kd.cI ud.z).2.1);rintro e aqx ⟨apE,rfl,aD,hb⟩;refine ⟨_,rfl,?_⟩;replace eK:=iw eK (Kd.cm aD) hb;replace aT:=aqX aT (Kd.cm aD) hb;replace aqQ:=aqX aqQ (Kd.cm aD) hb;replace eS:=aqX eS (Kd.cm aD) hb;replace aq6:=aqX aq6 (Kd.cm aD) hb;replace ju:=aqX ju (Kd.cm aD) hb;replace nj:=aqX nj (Kd.cm aD) hb;replace ud:=aqX ud (Kd.cm aD) hb;have Kn:=k0 (Kd.cA (Kd.kS aD (Kd.eZ (aR Bt.z))) (aqG bl));replace Bt:=l_ Bt (Kd.cm aD) hb;replace aqH:=kB aqH hb;replace bP:=kB bP hb;replace dA:=kB dA hb;replace ez:=kB ez hb;replace jn:=kB jn hb;replace oK:=kB oK hb;replace zn:=kB zn hb;replace HB:=bW hb;obtain ⟨aks,anw,rfl⟩:=Kd.cy Bt.z;obtain ⟨akt,anx,rfl⟩:=Kd.cy Kn.z))
                      (try simp only [Act.put,zI,zZ,zS])
                      have H:=PL.z
                      clear PL
                      replace H:=iE H;obtain ⟨c171,acG,acH,H⟩|⟨acG,acH,H⟩:=H
                      case inl =>
                       obtain rfl:=Option.some.inj H
                       go_wp2
                       go_ret
                       exact ⟨eR,bl⟩
                      replace H:=iE H;obtain ⟨c172,acI,acJ,H⟩|⟨acI,acJ,H⟩:=H
                      case inl =>
                       obtain rfl:=Option.some.inj H
                       go_wp2
                       go_ret
                       exact ⟨eR,bl⟩
                      replace H:=iE H;obtain ⟨c173,acK,acL,H⟩|⟨acK,acL,H⟩:=H
                      case inl =>
                       obtain rfl:=Option.some.inj H
                       go_wp2
                       go_ret
                       exact ⟨eR,bl⟩
                      replace H:=iE H;obtain ⟨c174,acN,acO,H⟩|⟨acN,acO,H⟩:=H
                      case inl =>
                       obtain rfl:=Option.some.inj H
                       go_wp2
                       go_ret
                       exact ⟨eR,bl⟩
                      replace H:=iE H;obtain ⟨c175,acP,acQ,H⟩|⟨acP,acQ,H⟩:=H
                      case inl =>
                       obtain rfl:=Option.some.inj H
                       go_wp2
                       go_ret
                       exact ⟨eR,bl⟩
                      replace H:=bS H;obtain ⟨t212,X0,H⟩:=H
                      obtain rfl:=Option.some.inj H
                      go_wp2_with (first|(go_at_call 9;(with_reducible refine (F9.calls k7 _ _ t204 _ _ t208 t212 _ ?aq ?au ?cr ?dw X0.z).mono ?_);(case aq=>exact aC ((Kd.aqP Bt.z).2.2));(case au=>exact (Kd.aqP Bt.z).2.1);(case cr=>exact aC ((Kd.aqP Kn.z).2.2));(case dw=>exact (Kd.aqP Kn.z).2.1);rintro e w' ⟨rfl,⟨nd,rfl⟩⟩))
                      go_ret
                      exact ⟨eR,bl⟩
                     replace H:=bS H;obtain ⟨⟨t170,t173⟩,JF,H⟩:=H
                     dsimp only at H
                     replace H:=iE H;obtain ⟨c138,acz,acA,H⟩|⟨acz,acA,H⟩:=H
                     case inl =>
                      obtain rfl:=Option.some.inj H
                      obtain ⟨akq,anv,rfl⟩:=Kd.dL eK.z
                      obtain ⟨_,_⟩:=nE GO
                      obtain ⟨_,_⟩:=nE GP
                      obtain ⟨_,_⟩:=nE GQ
                      obtain ⟨_,_,_,_⟩:=aqA ez
                      go_wp2_with (first|((with_reducible refine aqz (f:=15) rfl ?_);refine gC (some 300) Try.func15 #[.agg #[.int .i64 t156,.slice vF t157.length vQ],.int .i64 mX] ?_;(with_reducible refine (jE.calls k7 t156 _ _ t157 mX t170 t173 _ ?aq ?au JF.z).mono ?_);(case aq=>exact aC ((Kd.cI aq6.z).2.2));(case au=>exact (Kd.cI aq6.z).2.1);rintro e aql ⟨W4,rfl,aD,hb⟩;refine ⟨_,rfl,?_⟩;replace eK:=iw eK (Kd.cm aD) hb;replace aT:=aqX aT (Kd.cm aD) hb;replace aqQ:=aqX aqQ (Kd.cm aD) hb;replace eS:=aqX eS (Kd.cm aD) hb;replace aq6:=aqX aq6 (Kd.cm aD) hb;have GK:=k0 (Kd.cA aD (aqG bl));replace aqH:=kB aqH hb;replace bP:=kB bP hb;replace dA:=kB dA hb;replace ez:=kB ez hb;replace HB:=bW hb))
                      go_ret
                      exact ⟨eR,bl⟩
                     replace H:=iS H;obtain ⟨c139,H⟩:=H
                     have amr:=decide_eq_true c139
                     clear c139
                     replace H:=bS H;obtain ⟨t175,Pa,H⟩:=H
                     replace H:=iE H;obtain ⟨c141,acB,acC,H⟩|⟨acB,acC,H⟩:=H
                     case inl =>
                      obtain rfl:=Option.some.inj H
                      obtain ⟨ako,ant,rfl⟩:=Kd.dL eK.z
                      obtain ⟨_,_⟩:=nE GO
                      obtain ⟨_,_⟩:=nE GP
                      obtain ⟨_,_⟩:=nE GQ
                      obtain ⟨_,_,_,_⟩:=aqA ez
                      go_wp2_with (first|((with_reducible refine aqz (f:=15) rfl ?_);refine gC (some 300) Try.func15 #[.agg #[.int .i64 t156,.slice vF t157.length vQ],.int .i64 mX] ?_;(with_reducible refine (jE.calls k7 t156 _ _ t157 mX t170 t173 _ ?aq ?au JF.z).mono ?_);(case aq=>exact aC ((Kd.cI aq6.z).2.2));(case au=>exact (Kd.cI aq6.z).2.1);rintro e aqk ⟨W4,rfl,aD,hb⟩;refine ⟨_,rfl,?_⟩;replace eK:=iw eK (Kd.cm aD) hb;replace aT:=aqX aT (Kd.cm aD) hb;replace aqQ:=aqX aqQ (Kd.cm aD) hb;replace eS:=aqX eS (Kd.cm aD) hb;replace aq6:=aqX aq6 (Kd.cm aD) hb;have GK:=k0 (Kd.cA aD (aqG bl));replace aqH:=kB aqH hb;replace bP:=kB bP hb;replace dA:=kB dA hb;replace ez:=kB ez hb;replace HB:=bW hb;obtain ⟨akp,anu,rfl⟩:=Kd.cy GK.z;obtain ⟨asv,asw⟩:=iN mX (t161.length:Int);obtain ⟨abC,XZ,acM,e174,Nf,EU,EM⟩:=cD (Kd.a_ eK.z).2.2 mX asv asw;cases e174;obtain ⟨adp,MK,Mx,ED⟩:=Kd.aq9 eK.z [] mX asv (by first|exact asw|exact oD|(have e_:=(Kd.a_ eK.z).1;omega));obtain ⟨ajK,rfl,z_⟩:=Mx;have uW:=ED 0 _ rfl;rw [Nat.add_zero,show ((Kd.slice 2 (Kd.int .i64))).sz=1 from rfl,Nat.mul_one] at uW;replace uW:=Option.some.inj (uW.symm.trans Nf);rw [uW] at z_;have Zt:=k0 (show Kd.R (Kd.int .i64) 2 _ _ _ _ (ah t161 mX) from z_);clear uW z_;clear ED MK;have Dp:=k0 EM;have atu:=k0 EU;clear EM EU;replace asv:=eT asv;replace asw:=eT asw)|(go_at_call 25;(with_reducible refine (oN.calls k7 _ _ (ah t161 mX) t175 _ ?aq ?au Pa.z).mono ?_);(case aq=>exact aC (by repeat (first|(with_reducible exact Dp.z)|(with_reducible refine Kd.fP ?_ _)|(with_reducible refine Kd.fQ ?_ _)|(with_reducible refine Kd.fk ?_)|exact Dp.z)));(case au=>exact atu.z);rintro e w' ⟨rfl,⟨nd,rfl⟩⟩))
                      go_ret
                      exact ⟨eR,bl⟩
                     have H':=k0 H
                     clear H
                     obtain ⟨akm,anr,rfl⟩:=Kd.dL eK.z
                     obtain ⟨_,_⟩:=nE GO
                     obtain ⟨_,_⟩:=nE GP
                     obtain ⟨_,_⟩:=nE GQ
                     obtain ⟨_,_,_,_⟩:=aqA ez
                     go_wp2_with (first|((with_reducible refine aqz (f:=15) rfl ?_);refine gC (some 300) Try.func15 #[.agg #[.int .i64 t156,.slice vF t157.length vQ],.int .i64 mX] ?_;(with_reducible refine (jE.calls k7 t156 _ _ t157 mX t170 t173 _ ?aq ?au JF.z).mono ?_);(case aq=>exact aC ((Kd.cI aq6.z).2.2));(case au=>exact (Kd.cI aq6.z).2.1);rintro e aqj ⟨W4,rfl,aD,hb⟩;refine ⟨_,rfl,?_⟩;replace eK:=iw eK (Kd.cm aD) hb;replace aT:=aqX aT (Kd.cm aD) hb;replace aqQ:=aqX aqQ (Kd.cm aD) hb;replace eS:=aqX eS (Kd.cm aD) hb;replace aq6:=aqX aq6 (Kd.cm aD) hb;have GK:=k0 (Kd.cA aD (aqG bl));replace aqH:=kB aqH hb;replace bP:=kB bP hb;replace dA:=kB dA hb;replace ez:=kB ez hb;replace HB:=bW hb;obtain ⟨akn,ans,rfl⟩:=Kd.cy GK.z;obtain ⟨asv,asw⟩:=iN mX (t161.length:Int);obtain ⟨abC,XZ,acM,e174,Nf,EU,EM⟩:=cD (Kd.a_ eK.z).2.2 mX asv asw;cases e174;obtain ⟨adp,MK,Mx,ED⟩:=Kd.aq9 eK.z [] mX asv (by first|exact asw|exact oD|(have e_:=(Kd.a_ eK.z).1;omega));obtain ⟨ajK,rfl,z_⟩:=Mx;have uW:=ED 0 _ rfl;rw [Nat.add_zero,show ((Kd.slice 2 (Kd.int .i64))).sz=1 from rfl,Nat.mul_one] at uW;replace uW:=Option.some.inj (uW.symm.trans Nf);rw [uW] at z_;have Zt:=k0 (show Kd.R (Kd.int .i64) 2 _ _ _ _ (ah t161 mX) from z_);clear uW z_;clear ED MK;have Dp:=k0 EM;have atu:=k0 EU;clear EM EU;replace asv:=eT asv;replace asw:=eT asw)|(go_at_call 25;(with_reducible refine (oN.calls k7 _ _ (ah t161 mX) t175 _ ?aq ?au Pa.z).mono ?_);(case aq=>exact aC (by repeat (first|(with_reducible exact Dp.z)|(with_reducible refine Kd.fP ?_ _)|(with_reducible refine Kd.fQ ?_ _)|(with_reducible refine Kd.fk ?_)|exact Dp.z)));(case au=>exact atu.z);rintro e w' ⟨rfl,⟨nd,rfl⟩⟩))
                     go_roundg k7
                     case measure=>have:=kM.out;have:=aqL.z;have:=pY.out;have:=t_.out;have:=Gx.out;have:=P3.out;have:=wz.z;omega
                     case rel=>exact ⟨(wrap64 (mX+1)),rs,H',⟨by have:=kM.out;have:=aqL.z;have:=pY.out;have:=t_.out;have:=Gx.out;have:=P3.out;have:=wz.z;omega⟩,⟨aS (Kd.b6 eK.z (fun _ hk=>trivial))⟩,⟨aV (Kd.aZ aT.z (fun _ hk=>⟨hk.1.1,⟨hk.1.2.1,⟨hk.1.2.2.1,⟨hk.1.2.2.2.1,hk.1.2.2.2.2⟩⟩⟩⟩))⟩,⟨aV (Kd.aZ aqQ.z (fun _ hk=>⟨hk.1.1,⟨hk.1.2.1,⟨hk.1.2.2.1,⟨hk.1.2.2.2.1,hk.1.2.2.2.2⟩⟩⟩⟩))⟩,⟨aV (Kd.aZ eS.z (fun _ hk=>⟨hk.1.1,⟨hk.1.2.1,⟨hk.1.2.2.1,⟨hk.1.2.2.2.1,hk.1.2.2.2.2⟩⟩⟩⟩))⟩,⟨aV (Kd.aZ aq6.z (fun _ hk=>⟨hk.1.1,⟨hk.1.2.1,⟨hk.1.2.2.1,⟨hk.1.2.2.2.1,hk.1.2.2.2.2⟩⟩⟩⟩))⟩,⟨bk⟩,⟨bk⟩,⟨bk⟩,⟨bk⟩,⟨bl⟩⟩
                  replace H:=iT H
                  obtain rfl:=Option.some.inj H
                  go_wp2
                  go_ret
                  exact ⟨eR,bl⟩
               replace H:=iT H
               obtain rfl:=Option.some.inj H
               go_wp2
               go_ret
               exact ⟨eR,bl⟩
          replace H:=iT H
          obtain rfl:=Option.some.inj H
          go_wp2
          go_ret
          exact ⟨eR,bl⟩
       replace H:=iS H;obtain ⟨c21,H⟩:=H
       have asZ:=decide_eq_true c21
       clear c21
       replace H:=bS H;obtain ⟨⟨t118,t119⟩,tU,H⟩:=H
       dsimp only at H
       replace H:=bS H;obtain ⟨⟨t121,t122⟩,rQ,H⟩:=H
       dsimp only at H
       replace H:=iE H;obtain ⟨c24,wM,LA,H⟩|⟨wM,LA,H⟩:=H
       case inl =>
        obtain rfl:=Option.some.inj H
        obtain ⟨akw,anB,rfl⟩:=Kd.cy bf.z
        try go_wp2
        replace bf:=k0 (Kd.fG bf.z);replace aT:=k0 (Kd.lG aT.z);replace aqH:=k0 (cJ aqH.z);replace HB:=k0 (aqW HB.z)
        obtain ⟨qR,qX⟩:=iN aqV (t108.length:Int)
        obtain ⟨qI,e117,uX⟩:=Kd.bM (Kd.aqP bf.z).2.2 aqV qR qX
        cases e117
        replace qR:=eT qR
        replace qX:=eT qX
        refine gz (n:=12) (S:=fun w'=>w'.cell? ⟨ep,0,none⟩=some (.int .i64 t102)∧w'.cell? ⟨ep,1,none⟩=some (.slice eJ t103.length dg)∧w'.cell? (qI.add (aqV).toNat)=some (.int .i64 (rd t108 aqV))) (ds:=[]) (ba 12 0) (by kernel_rfl) rfl rfl ⟨cH aqH,cE aqH,uX⟩ (fun hHeld=>?_);refine hJ F3.I7 F3.G4 (fun ak bE=>?_)
        generalize wr.drew=Xe at bf aT aqH HB uX hHeld ⊢
        refine pu 1 (some 103) (ba 12 2) ak (h:=?_)
        refine pu 2 (some 104) (ba 12 6) ak (h:=?_)
        refine pu 3 (some 105) (ba 12 14) ak (h:=?_)
        refine pu 4 (some 106) (ba 12 30) ak (h:=?_)
        refine ta 0 (some 102) (ba 12 31) ak bE hHeld (hy:=Or.inl ⟨by rfl,by rintro w' ⟨s0,s1,s2⟩;go_simp;with_reducible rfl⟩) (h:=?_)
        refine ta 5 (some 107) (ba 12 63) ak bE hHeld (hy:=Or.inl ⟨by rfl,by rintro w' ⟨s0,s1,s2⟩;go_simp;with_reducible rfl⟩) (h:=?_)
        refine eG (i:=6) (N:=some 108) (ba 12 127) rfl rfl (dU ak.out (by kernel_rfl)) (by decide) (fun K hK=>?_)
        refine iy Try.func10 (by kernel_rfl) rfl #[.agg #[.int .i64 t102,.slice eJ t103.length dg],.int .i64 t106,.int .i64 (rd t108 aqV)] (by rfl) rfl rfl gm ?_
        with_reducible refine (rq.calls k2 t102 _ _ t103 t106 (rd t108 aqV) t118 t119 _ ?aq ?au tU.z).mono ?_
        (case aq=>exact aC ((Kd.cI aT.z).2.2))
        (case au=>exact (Kd.cI aT.z).2.1)
        rintro e Xf ⟨rfl,hb⟩
        have ki:=(hb.cell (World.block_lt_of_cell? _ _ (hHeld.2.2))).trans (hHeld.2.2)
        refine ⟨_,rfl,?_⟩
        replace bf:=eC bf hb;replace aT:=cK aT hb;replace aqH:=kB aqH hb;replace HB:=bW hb
        refine hK.out _ _ ⟨cH aqH,cE aqH,ki⟩ (fun hHeld=>?_)
        clear hK K
        refine eV (a':=?_) ?_ ?_
        rotate_left;· show Act.put _ (some 108) _=_;simp only [Act.put,zI,zZ,zS,bJ,ck];rfl
        refine pu 7 (some 101) (ba 12 255) ak (h:=?_)
        refine pu 8 (some 109) (ba 12 511) ak (h:=?_)
        refine pu 9 (some 110) (ba 12 1023) ak (h:=?_)
        refine pu 10 (some 10) (ba 12 2047) ak (h:=?_)
        refine pu 11 (some 11) (ba 12 4095) ak (h:=?_)
        refine gx (gZ ak.out (by kernel_rfl)) ?_
        try go_wp2
        replace bf:=k0 (Kd.fG bf.z);replace aT:=k0 (Kd.lG aT.z);replace aqH:=k0 (cJ aqH.z);replace HB:=k0 (aqW HB.z)
        obtain ⟨lf,lp⟩:=iN aqV (t108.length:Int)
        obtain ⟨wK,e120,sr⟩:=Kd.bM (Kd.aqP bf.z).2.2 aqV lf lp
        obtain rfl:qI=wK:=(by injection e120)
        replace lf:=eT lf
        replace lp:=eT lp
        refine gz (n:=12) (S:=fun w'=>w'.cell? ⟨ep,0,none⟩=some (.int .i64 t102)∧w'.cell? ⟨ep,1,none⟩=some (.slice eJ t103.length dg)∧w'.cell? (qI.add (aqV).toNat)=some (.int .i64 (rd t108 aqV))) (ds:=[]) (ba 12 0) (by kernel_rfl) rfl rfl ⟨cH aqH,cE aqH,sr⟩ (fun hHeld=>?_);refine hJ F3.CQ F3.BS (fun ak bE=>?_)
        generalize Xf.drew=Xg at bf aT aqH HB sr hHeld ⊢
        refine pu 1 (some 113) (ba 12 2) ak (h:=?_)
        refine pu 2 (some 114) (ba 12 6) ak (h:=?_)
        refine pu 3 (some 115) (ba 12 14) ak (h:=?_)
        refine pu 4 (some 116) (ba 12 30) ak (h:=?_)
        refine ta 0 (some 112) (ba 12 31) ak bE hHeld (hy:=Or.inl ⟨by rfl,by rintro w' ⟨s0,s1,s2⟩;go_simp;with_reducible rfl⟩) (h:=?_)
        refine ta 5 (some 117) (ba 12 63) ak bE hHeld (hy:=Or.inl ⟨by rfl,by rintro w' ⟨s0,s1,s2⟩;go_simp;with_reducible rfl⟩) (h:=?_)
        refine eG (i:=6) (N:=some 118) (ba 12 127) rfl rfl (dU ak.out (by kernel_rfl)) (by decide) (fun K hK=>?_)
        refine iy Try.func11 (by kernel_rfl) rfl #[.agg #[.int .i64 t102,.slice eJ t103.length dg],.int .i64 t106,.int .i64 (rd t108 aqV)] (by rfl) rfl rfl gm ?_
        with_reducible refine (nR.calls k2 t102 _ _ t103 t106 (rd t108 aqV) t121 t122 _ ?aq ?au rQ.z).mono ?_
        (case aq=>exact aC ((Kd.cI aT.z).2.2))
        (case au=>exact (Kd.cI aT.z).2.1)
        rintro e w46 ⟨rfl,hb⟩
        have ki:=(hb.cell (World.block_lt_of_cell? _ _ (hHeld.2.2))).trans (hHeld.2.2)
        refine ⟨_,rfl,?_⟩
        replace bf:=eC bf hb;replace aT:=cK aT hb;replace aqH:=kB aqH hb;replace HB:=bW hb
        refine hK.out _ _ ⟨cH aqH,cE aqH,ki⟩ (fun hHeld=>?_)
        clear hK K
        refine eV (a':=?_) ?_ ?_
        rotate_left;· show Act.put _ (some 118) _=_;simp only [Act.put,zI,zZ,zS,bJ,ck];rfl
        refine pu 7 (some 111) (ba 12 255) ak (h:=?_)
        refine pu 8 (some 119) (ba 12 511) ak (h:=?_)
        refine pu 9 (some 120) (ba 12 1023) ak (h:=?_)
        refine pu 10 (some 12) (ba 12 2047) ak (h:=?_)
        refine pu 11 (some 13) (ba 12 4095) ak (h:=?_)
        refine gx (gZ ak.out (by kernel_rfl)) ?_
        try go_wp2
        go_ret
        exact ⟨eR,bl⟩
       replace H:=iE H;obtain ⟨c25,asz,G8,H⟩|⟨asz,G8,H⟩:=H
       case inl =>
        obtain rfl:=Option.some.inj H
        obtain ⟨Pn,gN,rfl⟩:=Kd.cy bf.z
        try go_wp2
        replace bf:=k0 (Kd.fG bf.z);replace aT:=k0 (Kd.lG aT.z);replace aqH:=k0 (cJ aqH.z);replace HB:=k0 (aqW HB.z)
        obtain ⟨qR,qX⟩:=iN aqV (t108.length:Int)
        obtain ⟨qI,e117,uX⟩:=Kd.bM (Kd.aqP bf.z).2.2 aqV qR qX
        cases e117
        replace qR:=eT qR
        replace qX:=eT qX
        refine gz (n:=12) (S:=fun w'=>w'.cell? ⟨ep,0,none⟩=some (.int .i64 t102)∧w'.cell? ⟨ep,1,none⟩=some (.slice eJ t103.length dg)∧w'.cell? (qI.add (aqV).toNat)=some (.int .i64 (rd t108 aqV))) (ds:=[]) (ba 12 0) (by kernel_rfl) rfl rfl ⟨cH aqH,cE aqH,uX⟩ (fun hHeld=>?_);refine hJ F3.I7 F3.G4 (fun ak bE=>?_)
        generalize wr.drew=w38 at bf aT aqH HB uX hHeld ⊢
        refine pu 1 (some 103) (ba 12 2) ak (h:=?_)
        refine pu 2 (some 104) (ba 12 6) ak (h:=?_)
        refine pu 3 (some 105) (ba 12 14) ak (h:=?_)
        refine pu 4 (some 106) (ba 12 30) ak (h:=?_)
        refine ta 0 (some 102) (ba 12 31) ak bE hHeld (hy:=Or.inl ⟨by rfl,by rintro w' ⟨s0,s1,s2⟩;go_simp;with_reducible rfl⟩) (h:=?_)
        refine ta 5 (some 107) (ba 12 63) ak bE hHeld (hy:=Or.inl ⟨by rfl,by rintro w' ⟨s0,s1,s2⟩;go_simp;with_reducible rfl⟩) (h:=?_)
        refine eG (i:=6) (N:=some 108) (ba 12 127) rfl rfl (dU ak.out (by kernel_rfl)) (by decide) (fun K hK=>?_)
        refine iy Try.func10 (by kernel_rfl) rfl #[.agg #[.int .i64 t102,.slice eJ t103.length dg],.int .i64 t106,.int .i64 (rd t108 aqV)] (by rfl) rfl rfl gm ?_
        with_reducible refine (rq.calls k2 t102 _ _ t103 t106 (rd t108 aqV) t118 t119 _ ?aq ?au tU.z).mono ?_
        (case aq=>exact aC ((Kd.cI aT.z).2.2))
        (case au=>exact (Kd.cI aT.z).2.1)
        rintro e qt ⟨rfl,hb⟩
        have ki:=(hb.cell (World.block_lt_of_cell? _ _ (hHeld.2.2))).trans (hHeld.2.2)
        refine ⟨_,rfl,?_⟩
        replace bf:=eC bf hb;replace aT:=cK aT hb;replace aqH:=kB aqH hb;replace HB:=bW hb
        refine hK.out _ _ ⟨cH aqH,cE aqH,ki⟩ (fun hHeld=>?_)
        clear hK K
        refine eV (a':=?_) ?_ ?_
        rotate_left;· show Act.put _ (some 108) _=_;simp only [Act.put,zI,zZ,zS,bJ,ck];rfl
        refine pu 7 (some 101) (ba 12 255) ak (h:=?_)
        refine pu 8 (some 109) (ba 12 511) ak (h:=?_)
        refine pu 9 (some 110) (ba 12 1023) ak (h:=?_)
        refine pu 10 (some 10) (ba 12 2047) ak (h:=?_)
        refine pu 11 (some 11) (ba 12 4095) ak (h:=?_)
        refine gx (gZ ak.out (by kernel_rfl)) ?_
        try go_wp2
        replace bf:=k0 (Kd.fG bf.z);replace aT:=k0 (Kd.lG aT.z);replace aqH:=k0 (cJ aqH.z);replace HB:=k0 (aqW HB.z)
        obtain ⟨lf,lp⟩:=iN aqV (t108.length:Int)
        obtain ⟨wK,e120,sr⟩:=Kd.bM (Kd.aqP bf.z).2.2 aqV lf lp
        obtain rfl:qI=wK:=(by injection e120)
        replace lf:=eT lf
        replace lp:=eT lp
        refine gz (n:=12) (S:=fun w'=>w'.cell? ⟨ep,0,none⟩=some (.int .i64 t102)∧w'.cell? ⟨ep,1,none⟩=some (.slice eJ t103.length dg)∧w'.cell? (qI.add (aqV).toNat)=some (.int .i64 (rd t108 aqV))) (ds:=[]) (ba 12 0) (by kernel_rfl) rfl rfl ⟨cH aqH,cE aqH,sr⟩ (fun hHeld=>?_);refine hJ F3.CQ F3.BS (fun ak bE=>?_)
        generalize qt.drew=w40 at bf aT aqH HB sr hHeld ⊢
        refine pu 1 (some 113) (ba 12 2) ak (h:=?_)
        refine pu 2 (some 114) (ba 12 6) ak (h:=?_)
        refine pu 3 (some 115) (ba 12 14) ak (h:=?_)
        refine pu 4 (some 116) (ba 12 30) ak (h:=?_)
        refine ta 0 (some 112) (ba 12 31) ak bE hHeld (hy:=Or.inl ⟨by rfl,by rintro w' ⟨s0,s1,s2⟩;go_simp;with_reducible rfl⟩) (h:=?_)
        refine ta 5 (some 117) (ba 12 63) ak bE hHeld (hy:=Or.inl ⟨by rfl,by rintro w' ⟨s0,s1,s2⟩;go_simp;with_reducible rfl⟩) (h:=?_)
        refine eG (i:=6) (N:=some 118) (ba 12 127) rfl rfl (dU ak.out (by kernel_rfl)) (by decide) (fun K hK=>?_)
        refine iy Try.func11 (by kernel_rfl) rfl #[.agg #[.int .i64 t102,.slice eJ t103.length dg],.int .i64 t106,.int .i64 (rd t108 aqV)] (by rfl) rfl rfl gm ?_
        with_reducible refine (nR.calls k2 t102 _ _ t103 t106 (rd t108 aqV) t121 t122 _ ?aq ?au rQ.z).mono ?_
        (case aq=>exact aC ((Kd.cI aT.z).2.2))
        (case au=>exact (Kd.cI aT.z).2.1)
        rintro e xb ⟨rfl,hb⟩
        have ki:=(hb.cell (World.block_lt_of_cell? _ _ (hHeld.2.2))).trans (hHeld.2.2)
        refine ⟨_,rfl,?_⟩
        replace bf:=eC bf hb;replace aT:=cK aT hb;replace aqH:=kB aqH hb;replace HB:=bW hb
        refine hK.out _ _ ⟨cH aqH,cE aqH,ki⟩ (fun hHeld=>?_)
        clear hK K
        refine eV (a':=?_) ?_ ?_
        rotate_left;· show Act.put _ (some 118) _=_;simp only [Act.put,zI,zZ,zS,bJ,ck];rfl
        refine pu 7 (some 111) (ba 12 255) ak (h:=?_)
        refine pu 8 (some 119) (ba 12 511) ak (h:=?_)
        refine pu 9 (some 120) (ba 12 1023) ak (h:=?_)
        refine pu 10 (some 12) (ba 12 2047) ak (h:=?_)
        refine pu 11 (some 13) (ba 12 4095) ak (h:=?_)
        refine gx (gZ ak.out (by kernel_rfl)) ?_
        try go_wp2
        go_ret
        exact ⟨eR,bl⟩
       replace H:=iE H;obtain ⟨c26,as0,RY,H⟩|⟨as0,RY,H⟩:=H
       case inl =>
        obtain rfl:=Option.some.inj H
        obtain ⟨JT,LV,rfl⟩:=Kd.cy bf.z
        try go_wp2
        replace bf:=k0 (Kd.fG bf.z);replace aT:=k0 (Kd.lG aT.z);replace aqH:=k0 (cJ aqH.z);replace HB:=k0 (aqW HB.z)
        obtain ⟨qR,qX⟩:=iN aqV (t108.length:Int)
        obtain ⟨qI,e117,uX⟩:=Kd.bM (Kd.aqP bf.z).2.2 aqV qR qX
        cases e117
        replace qR:=eT qR
        replace qX:=eT qX
        refine gz (n:=12) (S:=fun w'=>w'.cell? ⟨ep,0,none⟩=some (.int .i64 t102)∧w'.cell? ⟨ep,1,none⟩=some (.slice eJ t103.length dg)∧w'.cell? (qI.add (aqV).toNat)=some (.int .i64 (rd t108 aqV))) (ds:=[]) (ba 12 0) (by kernel_rfl) rfl rfl ⟨cH aqH,cE aqH,uX⟩ (fun hHeld=>?_);refine hJ F3.I7 F3.G4 (fun ak bE=>?_)
        generalize wr.drew=zc at bf aT aqH HB uX hHeld ⊢
        refine pu 1 (some 103) (ba 12 2) ak (h:=?_)
        refine pu 2 (some 104) (ba 12 6) ak (h:=?_)
        refine pu 3 (some 105) (ba 12 14) ak (h:=?_)
        refine pu 4 (some 106) (ba 12 30) ak (h:=?_)
        refine ta 0 (some 102) (ba 12 31) ak bE hHeld (hy:=Or.inl ⟨by rfl,by rintro w' ⟨s0,s1,s2⟩;go_simp;with_reducible rfl⟩) (h:=?_)
        refine ta 5 (some 107) (ba 12 63) ak bE hHeld (hy:=Or.inl ⟨by rfl,by rintro w' ⟨s0,s1,s2⟩;go_simp;with_reducible rfl⟩) (h:=?_)
        refine eG (i:=6) (N:=some 108) (ba 12 127) rfl rfl (dU ak.out (by kernel_rfl)) (by decide) (fun K hK=>?_)
        refine iy Try.func10 (by kernel_rfl) rfl #[.agg #[.int .i64 t102,.slice eJ t103.length dg],.int .i64 t106,.int .i64 (rd t108 aqV)] (by rfl) rfl rfl gm ?_
        with_reducible refine (rq.calls k2 t102 _ _ t103 t106 (rd t108 aqV) t118 t119 _ ?aq ?au tU.z).mono ?_
        (case aq=>exact aC ((Kd.cI aT.z).2.2))
        (case au=>exact (Kd.cI aT.z).2.1)
        rintro e Jf ⟨rfl,hb⟩
        have ki:=(hb.cell (World.block_lt_of_cell? _ _ (hHeld.2.2))).trans (hHeld.2.2)
        refine ⟨_,rfl,?_⟩
        replace bf:=eC bf hb;replace aT:=cK aT hb;replace aqH:=kB aqH hb;replace HB:=bW hb
        refine hK.out _ _ ⟨cH aqH,cE aqH,ki⟩ (fun hHeld=>?_)
        clear hK K
        refine eV (a':=?_) ?_ ?_
        rotate_left;· show Act.put _ (some 108) _=_;simp only [Act.put,zI,zZ,zS,bJ,ck];rfl
        refine pu 7 (some 101) (ba 12 255) ak (h:=?_)
        refine pu 8 (some 109) (ba 12 511) ak (h:=?_)
        refine pu 9 (some 110) (ba 12 1023) ak (h:=?_)
        refine pu 10 (some 10) (ba 12 2047) ak (h:=?_)
        refine pu 11 (some 11) (ba 12 4095) ak (h:=?_)
        refine gx (gZ ak.out (by kernel_rfl)) ?_
        try go_wp2
        replace bf:=k0 (Kd.fG bf.z);replace aT:=k0 (Kd.lG aT.z);replace aqH:=k0 (cJ aqH.z);replace HB:=k0 (aqW HB.z)
        obtain ⟨lf,lp⟩:=iN aqV (t108.length:Int)
        obtain ⟨wK,e120,sr⟩:=Kd.bM (Kd.aqP bf.z).2.2 aqV lf lp
        obtain rfl:qI=wK:=(by injection e120)
        replace lf:=eT lf
        replace lp:=eT lp
        refine gz (n:=12) (S:=fun w'=>w'.cell? ⟨ep,0,none⟩=some (.int .i64 t102)∧w'.cell? ⟨ep,1,none⟩=some (.slice eJ t103.length dg)∧w'.cell? (qI.add (aqV).toNat)=some (.int .i64 (rd t108 aqV))) (ds:=[]) (ba 12 0) (by kernel_rfl) rfl rfl ⟨cH aqH,cE aqH,sr⟩ (fun hHeld=>?_);refine hJ F3.CQ F3.BS (fun ak bE=>?_)
        generalize Jf.drew=Jg at bf aT aqH HB sr hHeld ⊢
        refine pu 1 (some 113) (ba 12 2) ak (h:=?_)
        refine pu 2 (some 114) (ba 12 6) ak (h:=?_)
        refine pu 3 (some 115) (ba 12 14) ak (h:=?_)
        refine pu 4 (some 116) (ba 12 30) ak (h:=?_)
        refine ta 0 (some 112) (ba 12 31) ak bE hHeld (hy:=Or.inl ⟨by rfl,by rintro w' ⟨s0,s1,s2⟩;go_simp;with_reducible rfl⟩) (h:=?_)
        refine ta 5 (some 117) (ba 12 63) ak bE hHeld (hy:=Or.inl ⟨by rfl,by rintro w' ⟨s0,s1,s2⟩;go_simp;with_reducible rfl⟩) (h:=?_)
        refine eG (i:=6) (N:=some 118) (ba 12 127) rfl rfl (dU ak.out (by kernel_rfl)) (by decide) (fun K hK=>?_)
        refine iy Try.func11 (by kernel_rfl) rfl #[.agg #[.int .i64 t102,.slice eJ t103.length dg],.int .i64 t106,.int .i64 (rd t108 aqV)] (by rfl) rfl rfl gm ?_
        with_reducible refine (nR.calls k2 t102 _ _ t103 t106 (rd t108 aqV) t121 t122 _ ?aq ?au rQ.z).mono ?_
        (case aq=>exact aC ((Kd.cI aT.z).2.2))
        (case au=>exact (Kd.cI aT.z).2.1)
        rintro e Xc ⟨rfl,hb⟩
        have ki:=(hb.cell (World.block_lt_of_cell? _ _ (hHeld.2.2))).trans (hHeld.2.2)
        refine ⟨_,rfl,?_⟩
        replace bf:=eC bf hb;replace aT:=cK aT hb;replace aqH:=kB aqH hb;replace HB:=bW hb
        refine hK.out _ _ ⟨cH aqH,cE aqH,ki⟩ (fun hHeld=>?_)
        clear hK K
        refine eV (a':=?_) ?_ ?_
        rotate_left;· show Act.put _ (some 118) _=_;simp only [Act.put,zI,zZ,zS,bJ,ck];rfl
        refine pu 7 (some 111) (ba 12 255) ak (h:=?_)
        refine pu 8 (some 119) (ba 12 511) ak (h:=?_)
        refine pu 9 (some 120) (ba 12 1023) ak (h:=?_)
        refine pu 10 (some 12) (ba 12 2047) ak (h:=?_)
        refine pu 11 (some 13) (ba 12 4095) ak (h:=?_)
        refine gx (gZ ak.out (by kernel_rfl)) ?_
        try go_wp2
        go_ret
        exact ⟨eR,bl⟩
       have H':=k0 H
       clear H
       obtain ⟨Yi,adH,rfl⟩:=Kd.cy bf.z
       try go_wp2
       replace bf:=k0 (Kd.fG bf.z);replace aT:=k0 (Kd.lG aT.z);replace aqH:=k0 (cJ aqH.z);replace HB:=k0 (aqW HB.z)
       obtain ⟨qR,qX⟩:=iN aqV (t108.length:Int)
       obtain ⟨qI,e117,uX⟩:=Kd.bM (Kd.aqP bf.z).2.2 aqV qR qX
       cases e117
       replace qR:=eT qR
       replace qX:=eT qX
       refine gz (n:=12) (S:=fun w'=>w'.cell? ⟨ep,0,none⟩=some (.int .i64 t102)∧w'.cell? ⟨ep,1,none⟩=some (.slice eJ t103.length dg)∧w'.cell? (qI.add (aqV).toNat)=some (.int .i64 (rd t108 aqV))) (ds:=[]) (ba 12 0) (by kernel_rfl) rfl rfl ⟨cH aqH,cE aqH,uX⟩ (fun hHeld=>?_);refine hJ F3.I7 F3.G4 (fun ak bE=>?_)
       generalize wr.drew=as9 at bf aT aqH HB uX hHeld ⊢
       refine pu 1 (some 103) (ba 12 2) ak (h:=?_)
       refine pu 2 (some 104) (ba 12 6) ak (h:=?_)
       refine pu 3 (some 105) (ba 12 14) ak (h:=?_)
       refine pu 4 (some 106) (ba 12 30) ak (h:=?_)
       refine ta 0 (some 102) (ba 12 31) ak bE hHeld (hy:=Or.inl ⟨by rfl,by rintro w' ⟨s0,s1,s2⟩;go_simp;with_reducible rfl⟩) (h:=?_)
       refine ta 5 (some 107) (ba 12 63) ak bE hHeld (hy:=Or.inl ⟨by rfl,by rintro w' ⟨s0,s1,s2⟩;go_simp;with_reducible rfl⟩) (h:=?_)
       refine eG (i:=6) (N:=some 108) (ba 12 127) rfl rfl (dU ak.out (by kernel_rfl)) (by decide) (fun K hK=>?_)
       refine iy Try.func10 (by kernel_rfl) rfl #[.agg #[.int .i64 t102,.slice eJ t103.length dg],.int .i64 t106,.int .i64 (rd t108 aqV)] (by rfl) rfl rfl gm ?_
       with_reducible refine (rq.calls k2 t102 _ _ t103 t106 (rd t108 aqV) t118 t119 _ ?aq ?au tU.z).mono ?_
       (case aq=>exact aC ((Kd.cI aT.z).2.2))
       (case au=>exact (Kd.cI aT.z).2.1)
       rintro e zb ⟨rfl,hb⟩
       have ki:=(hb.cell (World.block_lt_of_cell? _ _ (hHeld.2.2))).trans (hHeld.2.2)
       refine ⟨_,rfl,?_⟩
       replace bf:=eC bf hb;replace aT:=cK aT hb;replace aqH:=kB aqH hb;replace HB:=bW hb
       refine hK.out _ _ ⟨cH aqH,cE aqH,ki⟩ (fun hHeld=>?_)
       clear hK K
       refine eV (a':=?_) ?_ ?_
       rotate_left;· show Act.put _ (some 108) _=_;simp only [Act.put,zI,zZ,zS,bJ,ck];rfl
       refine pu 7 (some 101) (ba 12 255) ak (h:=?_)
       refine pu 8 (some 109) (ba 12 511) ak (h:=?_)
       refine pu 9 (some 110) (ba 12 1023) ak (h:=?_)
       refine pu 10 (some 10) (ba 12 2047) ak (h:=?_)
       refine pu 11 (some 11) (ba 12 4095) ak (h:=?_)
       refine gx (gZ ak.out (by kernel_rfl)) ?_
       try go_wp2
       replace bf:=k0 (Kd.fG bf.z);replace aT:=k0 (Kd.lG aT.z);replace aqH:=k0 (cJ aqH.z);replace HB:=k0 (aqW HB.z)
       obtain ⟨lf,lp⟩:=iN aqV (t108.length:Int)
       obtain ⟨wK,e120,sr⟩:=Kd.bM (Kd.aqP bf.z).2.2 aqV lf lp
       obtain rfl:qI=wK:=(by injection e120)
       replace lf:=eT lf
       replace lp:=eT lp
       refine gz (n:=12) (S:=fun w'=>w'.cell? ⟨ep,0,none⟩=some (.int .i64 t102)∧w'.cell? ⟨ep,1,none⟩=some (.slice eJ t103.length dg)∧w'.cell? (qI.add (aqV).toNat)=some (.int .i64 (rd t108 aqV))) (ds:=[]) (ba 12 0) (by kernel_rfl) rfl rfl ⟨cH aqH,cE aqH,sr⟩ (fun hHeld=>?_);refine hJ F3.CQ F3.BS (fun ak bE=>?_)
       generalize zb.drew=CV at bf aT aqH HB sr hHeld ⊢
       refine pu 1 (some 113) (ba 12 2) ak (h:=?_)
       refine pu 2 (some 114) (ba 12 6) ak (h:=?_)
       refine pu 3 (some 115) (ba 12 14) ak (h:=?_)
       refine pu 4 (some 116) (ba 12 30) ak (h:=?_)
       refine ta 0 (some 112) (ba 12 31) ak bE hHeld (hy:=Or.inl ⟨by rfl,by rintro w' ⟨s0,s1,s2⟩;go_simp;with_reducible rfl⟩) (h:=?_)
       refine ta 5 (some 117) (ba 12 63) ak bE hHeld (hy:=Or.inl ⟨by rfl,by rintro w' ⟨s0,s1,s2⟩;go_simp;with_reducible rfl⟩) (h:=?_)
       refine eG (i:=6) (N:=some 118) (ba 12 127) rfl rfl (dU ak.out (by kernel_rfl)) (by decide) (fun K hK=>?_)
       refine iy Try.func11 (by kernel_rfl) rfl #[.agg #[.int .i64 t102,.slice eJ t103.length dg],.int .i64 t106,.int .i64 (rd t108 aqV)] (by rfl) rfl rfl gm ?_
       with_reducible refine (nR.calls k2 t102 _ _ t103 t106 (rd t108 aqV) t121 t122 _ ?aq ?au rQ.z).mono ?_
       (case aq=>exact aC ((Kd.cI aT.z).2.2))
       (case au=>exact (Kd.cI aT.z).2.1)
       rintro e Je ⟨rfl,hb⟩
       have ki:=(hb.cell (World.block_lt_of_cell? _ _ (hHeld.2.2))).trans (hHeld.2.2)
       refine ⟨_,rfl,?_⟩
       replace bf:=eC bf hb;replace aT:=cK aT hb;replace aqH:=kB aqH hb;replace HB:=bW hb
       refine hK.out _ _ ⟨cH aqH,cE aqH,ki⟩ (fun hHeld=>?_)
       clear hK K
       refine eV (a':=?_) ?_ ?_
       rotate_left;· show Act.put _ (some 118) _=_;simp only [Act.put,zI,zZ,zS,bJ,ck];rfl
       refine pu 7 (some 111) (ba 12 255) ak (h:=?_)
       refine pu 8 (some 119) (ba 12 511) ak (h:=?_)
       refine pu 9 (some 120) (ba 12 1023) ak (h:=?_)
       refine pu 10 (some 12) (ba 12 2047) ak (h:=?_)
       refine pu 11 (some 13) (ba 12 4095) ak (h:=?_)
       refine gx (gZ ak.out (by kernel_rfl)) ?_
       try go_wp2
       go_roundg k2
       case measure=>have:=kM.out;have:=aqL.z;omega
       case rel=>exact ⟨(wrap64 (aqV+1)),rs,H',⟨by have:=kM.out;have:=aqL.z;omega⟩,⟨aR (bf.z)⟩,⟨aV (aT.z)⟩,⟨bk⟩,⟨bl⟩⟩
    replace H:=iT H
    obtain rfl:=Option.some.inj H
    go_wp2
    go_ret
    exact ⟨eR,bl⟩
 replace H:=iT H
 obtain rfl:=Option.some.inj H
 go_enter Try.func3,Try.ntmps3
 go_wp2_with (first|((with_reducible refine aqz (f:=5) rfl ?_);refine gC (some 68) Try.func5 #[.slice A0 l0.length c0] ?_;(with_reducible refine (F5.calls _ _ l0 true _ ?aq ?au A2.z).mono ?_);(case aq=>exact aC cP.z);(case au=>exact fq.z);rintro e w' ⟨rfl,⟨nd,rfl⟩⟩;refine ⟨_,rfl,?_⟩))
 go_ret
 exact ⟨eR,bl⟩
/-- THE ONE PURE STATEMENT of F3: yours. -/
def F3.Pure:Prop:=∀ (l0:List Int),l0.length≤maxLen→l0.length * 1≤140737488351232→(∀ x ∈ l0,(Lit.int .u8 x).wf=true)→∃ k,F3.f k l0=some true
theorem F3.walk (P : F3.Pure) (a0 : Option Addr) (yG asC : Nat) (z0 : List Int) (w : World) (w0 : (a0 = none ∧ yG = 0 ∧ asC = 0 ∧ z0 = []) ∨ ∃ x, a0 = some x ∧ yG ≤ asC ∧ asC ≤ maxLen ∧ z0.length = asC ∧ (∀ i, i < z0.length → w.cell? (x.add i) = some (.int .u8 (z0.getD i 0))) ∧ ∀ n ∈ z0, (Lit.int .u8 n).wf = true) (y0 : yG * 1 ≤ 140737488351232) :
  Calls Try.prog 3 #[.slice a0 yG asC] w fun e w'=>e=.returned (.bool true)∧Below w.heap.size w w':=by
 obtain ⟨l0,rfl,bZ,hm0,hw0,hc0⟩:=mE.ahM w0
 obtain ⟨k,h⟩:=P l0 hm0 y0 hw0
 refine (F3.calls k _ _ l0 true w (Kd.Gt (d:=(0:Int)) (h1:=fun _=>rfl) bZ) hc0 h).mono ?_
 rintro e w' ⟨rfl,hd⟩
 exact ⟨rfl,hd⟩
end Go.Proofs.Ytapnggjaeehpdaa.A
/- Set with little white space, by a program. -/
