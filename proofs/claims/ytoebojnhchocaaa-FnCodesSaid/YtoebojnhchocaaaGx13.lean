/- The functions that one law reaches, each as a Lean function, and that Go's call comes to what it says. Condition of each: that the Lean function answers (is not none). -/
import Derived.Test.YtoebojnhchocaaaGx0
import Derived.Test.YtoebojnhchocaaaGx1
import Derived.Test.YtoebojnhchocaaaGx6
import Derived.Test.YtoebojnhchocaaaGx7
import Derived.Test.YtoebojnhchocaaaGx12
namespace Go.Proofs.Ytoebojnhchocaaa.G
open Go.RowKit Go.Proofs.cx.fq Go.Proofs.cx.jX Go.Proofs.cx.lu
attribute [local go_sem] max2_int min2_int max_two min_two max_three min_three max_four min_four   -- for this text's walks alone
set_option linter.unusedVariables false
set_option linter.unusedSimpArgs false
set_option maxHeartbeats 8000000
set_option maxRecDepth 100000
/-! ### F206: function 206 -/
def iJ.l0 : Nat → Int → List (List Int) → Int → Int → Option (Int)
 | 0,_,_,_,_=>none
 | k+1,x3,x6,x7,x8=>if x8 < x7 then (if 0≤x8 then (if x8 < (x6.length:Int) then (if x8 < ((ai x6 x8).length:Int) then (iJ.l0 k (wrap64 (x3+(rd (ai x6 x8) x8))) x6 x7 (wrap64 (x8+1))) else (none)) else (none)) else (none)) else (some x3)
def iJ.f (k:Nat) (l0:List (List Int)):Option (Int):=iJ.l0 k 0 l0 (l0.length:Int) 0
theorem iJ.cC : ∀ k, (∀ y0 y1 y2 y3, ag (iJ.l0 k y0 y1 y2 y3) (iJ.l0 (k + 1) y0 y1 y2 y3))
 | 0=>fun _ _ _ _ r h=>by simp [iJ.l0] at h
 | k+1=>by
  have a_:=iJ.cC k
  ·intro y0 y1 y2 y3
   unfold iJ.l0
   repeat' first
    | (with_reducible first|exact a_ _ _ _ _|exact ag.refl _|exact ag.none _|refine ag.ite ?_ ?_|refine ag.bind ?_ (fun _=>?_))
    | exact a_ _ _ _ _|exact ag.none _|refine ag.ite ?_ ?_|refine ag.bind ?_ (fun _=>?_)
theorem iJ.mono:∀ a0 k,ag (iJ.f k a0) (iJ.f (k+1) a0):=by
 intro a0 k
 have a_:=iJ.cC k
 unfold iJ.f
 repeat' first
  | (with_reducible first|exact a_ _ _ _ _|exact ag.refl _|exact ag.none _|refine ag.ite ?_ ?_|refine ag.bind ?_ (fun _=>?_))
  | exact a_ _ _ _ _|exact ag.none _|refine ag.ite ?_ ?_|refine ag.bind ?_ (fun _=>?_)
theorem iJ.calls (k : Nat) (A0 : Option Addr) (c0 : Nat) (l0 : List (List Int)) (r : Int) (w : World) (cL : Kd.C (Kd.slice 2 (Kd.int .i64)) w A0 l0.length l0) (hc0 : l0.length ≤ c0) (h : iJ.f k l0 = some r) :
  Calls Try.prog 206 #[.slice A0 l0.length c0] w fun e w'=>e=.returned (.int .i64 r)∧aod w w':=by
 have dh:=k0 cL
 have fI:=k0 hc0
 clear cL hc0
 have H:(iJ.l0 k 0 l0 (l0.length:Int) 0)=some r:=h
 clear h
 have H':=k0 H
 clear H
 go_enter Try.func206,Try.ntmps206
 go_wp2
 go_loopg [3,8] k (fun kq v3 v8 w'=>∃ (anO:Int) (ct:Int),v3=.int .i64 anO∧v8=.int .i64 ct∧ak (iJ.l0 kq anO l0 (l0.length:Int) ct=some r)∧ak (kq≤k)∧aod w w')
 case atStart=>exact ⟨(0),(0),rs,rs,H',⟨Nat.le_refl _⟩,dW⟩
 case round =>
  clear H'
  obtain ⟨anO,ct,rfl,rfl,HA,bH,⟨m1,rfl⟩⟩:=hrel
  cases gk with
  | zero=>exact absurd HA.z (by simp [iJ.l0])
  | succ k1 =>
   have H:=HA.z
   clear HA
   simp only [iJ.l0] at H
   by_cases c2:ct < (l0.length:Int)
   case neg =>
    rw [if_neg c2] at H
    have xG:decide (ct < (l0.length:Int))=false:=decide_eq_false c2
    clear c2
    obtain rfl:=Option.some.inj H
    go_wp2
    go_ret
    exact ⟨rs,dW⟩
   rw [if_pos c2] at H
   have xG:=decide_eq_true c2
   clear c2
   replace H:=iS H;obtain ⟨c3,H⟩:=H
   have jZ:=decide_eq_true c3
   clear c3
   replace H:=iS H;obtain ⟨c4,H⟩:=H
   have gT:=decide_eq_true c4
   clear c4
   replace H:=iS H;obtain ⟨c5,H⟩:=H
   have aoo:=decide_eq_true c5
   clear c5
   have H':=k0 H
   clear H
   have ep:0≤(ct:Int):=oD
   have er:ct < (l0.length:Int):=oD
   obtain ⟨lA,afz,agG,e101,kF,Rg,Q3⟩:=fu dh.z ct ep er
   cases e101
   have Vv:=k0 Q3
   have agh:=k0 Rg
   clear Q3 Rg
   replace ep:=eq_true ep
   replace er:=eq_true er
   have eI:0≤(ct:Int):=oD
   have eK:ct < ((ai l0 ct).length:Int):=oD
   obtain ⟨nV,e102,jD⟩:=Kd.cm Vv.z ct eI eK
   cases e102
   replace eI:=eq_true eI
   replace eK:=eq_true eK
   go_wp2
   go_roundg k1
   case measure=>have:=bH.z;omega
   case rel=>exact ⟨(wrap64 (anO+(rd (ai l0 ct) ct))),(wrap64 (ct+1)),rs,rs,H',⟨by have:=bH.z;omega⟩,dW⟩
/-! ### F132: function 132 -/
mutual
def dV.l0 : Nat → List (List Int) → List Int → List (List Int) → Int → Option (List Int)
 | 0,_,_,_,_=>none
 | k+1,x0,x3,x4,x5=>if x5≤(x0.length:Int) then ((dI.f k x0 x4).bind fun t110=>(dV.l1 k x0 x3 t110 x5 (t110.length:Int) 0)) else ((iI.f k x3).bind fun t107=>(some t107))
def dV.l1 : Nat → List (List Int) → List Int → List (List Int) → Int → Int → Int → Option (List Int)
 | 0,_,_,_,_,_,_=>none
 | k+1,x0,x3,x4,x5,rL,gH=>if gH < rL then (if 0≤gH then (if gH < (x4.length:Int) then (if gH < ((ai x4 gH).length:Int) then (if 0≤(wrap64 (x5 - 1)) then (if (wrap64 (x5 - 1)) < (x3.length:Int) then (dV.l1 k x0 x3 (x4.set (gH:Int).toNat ((ai x4 gH).set (gH:Int).toNat (wrap64 ((rd (ai x4 gH) gH)+(rd x3 (wrap64 (x5 - 1))))))) x5 rL (wrap64 (gH+1))) else (none)) else (none)) else (none)) else (none)) else (none)) else ((dI.f k x0 x4).bind fun t119=>((iJ.f k t119).bind fun t122=>(if x5=0 then (none) else (if x3.length < 17592186044416 then (dV.l0 k x0 (x3 ++ [wrap64 (Int.tdiv (wrap64 (-t122)) x5)]) x4 (wrap64 (x5+1))) else (none)))))
end
def dV.f (k:Nat) (l0:List (List Int)):Option (List Int):=(fo.f k (l0.length:Int)).bind fun t104=>(dV.l0 k l0 (([1]:List Int)) t104 1)
theorem dV.cC : ∀ k, (∀ y0 y1 y2 y3, ag (dV.l0 k y0 y1 y2 y3) (dV.l0 (k + 1) y0 y1 y2 y3)) ∧ (∀ y0 y1 y2 y3 y4 y5, ag (dV.l1 k y0 y1 y2 y3 y4 y5) (dV.l1 (k + 1) y0 y1 y2 y3 y4 y5))
 | 0=>⟨fun _ _ _ _ r h=>by simp [dV.l0] at h,fun _ _ _ _ _ _ r h=>by simp [dV.l1] at h⟩
 | k+1=>by
  obtain ⟨a_,ih1⟩:=dV.cC k
  refine ⟨?_, ?_⟩ <;> intros <;> (first | unfold dV.l0 | unfold dV.l1) <;> repeat' first
   | (with_reducible first|exact a_ _ _ _ _|exact ih1 _ _ _ _ _ _|exact dI.mono _ _ _|exact fo.mono _ _|exact iJ.mono _ _|exact iI.mono _ _|exact ag.refl _|exact ag.none _|refine ag.ite ?_ ?_|refine ag.bind ?_ (fun _=>?_))
   | exact a_ _ _ _ _|exact ih1 _ _ _ _ _ _|exact dI.mono _ _ _|exact fo.mono _ _|exact iJ.mono _ _|exact iI.mono _ _|exact ag.none _|refine ag.ite ?_ ?_|refine ag.bind ?_ (fun _=>?_)
theorem dV.mono:∀ a0 k,ag (dV.f k a0) (dV.f (k+1) a0):=by
 intro a0 k
 obtain ⟨a_,ih1⟩:=dV.cC k
 unfold dV.f
 repeat' first
  | (with_reducible first|exact a_ _ _ _ _|exact ih1 _ _ _ _ _ _|exact dI.mono _ _ _|exact fo.mono _ _|exact iJ.mono _ _|exact iI.mono _ _|exact ag.refl _|exact ag.none _|refine ag.ite ?_ ?_|refine ag.bind ?_ (fun _=>?_))
  | exact a_ _ _ _ _|exact ih1 _ _ _ _ _ _|exact dI.mono _ _ _|exact fo.mono _ _|exact iJ.mono _ _|exact iI.mono _ _|exact ag.none _|refine ag.ite ?_ ?_|refine ag.bind ?_ (fun _=>?_)
def dV.T9:Bool × List (List Nat × List Nat):=(true,[([],[]),([],[]),([0,1],[0,1]),([2],[2]),([],[]),([3,4],[3,4]),([5],[5]),([],[]),([],[]),([8],[8]),([7,9],[7,9]),([10],[10]),([6,11],[6,11]),([3,4,0,1,2,3,4,5,6,7,8,9,10,11,12],[3,4]),([13,12,0,1,2,3,4,5,6,7,8,9,10,11,12],[12,13])])
def dV.B9:List Nat:=[0,0,3,7,0,31,63,0,0,256,896,1920,4095,8191,16383]
theorem dV.ae4:fh .any (opsOf Try.f132 9)=dV.T9:=by kernel_rfl
theorem dV.Xq:kN dV.T9.2 dV.B9=true:=by kernel_rfl
theorem dV.calls (k : Nat) (A0 : Option Addr) (c0 : Nat) (l0 : List (List Int)) (r : List Int) (w : World) (cL : Kd.C (Kd.slice 2 (Kd.int .i64)) w A0 l0.length l0) (hc0 : l0.length ≤ c0) (h : dV.f k l0 = some r) :
  Calls Try.prog 132 #[.slice A0 l0.length c0] w fun e w'=>∃ dw:Value,e=.returned (dw)∧Kd.R (Kd.int .i64) 2 w' w.heap.size (fun _=>True) dw r∧Below w.heap.size w w':=by
 have dh:=k0 cL
 have fI:=k0 hc0
 clear cL hc0
 have HB:=k0 (Below.refl w.heap.size w)
 have H:((fo.f k (l0.length:Int)).bind fun t104=>(dV.l0 k l0 (([1]:List Int)) t104 1))=some r:=h
 clear h
 obtain ⟨iH,jh⟩:∃ y_:List Int,y_=(([1]:List Int)):=⟨_,rfl⟩
 replace H:((fo.f k (l0.length:Int)).bind fun t104=>(dV.l0 k l0 iH t104 1))=some r:=rH jh H
 have kW:=k0 jh
 clear jh
 replace H:=Option.bind_eq_some_iff.mp H
 obtain ⟨t104,eD,H⟩:=H
 replace H:(dV.l0 k l0 iH t104 1)=some r:=H
 have A2:=k0 eD
 clear eD
 have H':=k0 H
 clear H
 go_enter Try.func132,Try.ntmps132
 go_wp2_with (first|((with_reducible refine bN (N:=7) rfl ?_);refine Kd.jd (Kd.int .i64) _ 2 ?hg (N:=7) ?hd (xs:=([1]:List Int)) (inner:=[.int .i64 1]) (ok:=fun _=>True) (anX:=fun _=>True) ?hr ?hp (fun _ hk=>hk) trivial (Below.refl _ _) (Nat.le_refl _) (by simp) ?_;(case hd=>rfl);(case hg=>rfl);(case hr=>first|(go_simp;done)|(go_simp;rfl));(case hp=>exact (bu.one (show Kd.M (Kd.int .i64) _ _ _ 1 [.int .i64 1] from rfl) (bu.none _ _)));intro aoK w3 gG hb c_ dc;clear c_ dc;(first|rw [← kW.z] at gG|(simp only [Int.reduceToNat] at gG;rw [← kW.z] at gG));have jQ:=k0 (Kd.cH gG (anG bl));replace HB:=k0 (anH bl hb);clear hb gG)|((with_reducible refine bS (f:=204) rfl ?_);refine gC (some 10) Try.func204 #[.int .i64 (l0.length:Int)] ?_;(with_reducible refine (fo.calls k (l0.length:Int) t104 _ A2.z).mono ?_);rintro e w5 ⟨v105,rfl,aq,hb⟩;refine ⟨_,rfl,?_⟩;have kS:=k0 (Kd.gD (Kd.jy aq (Kd.bK (aR jQ.z))) (anG bl));replace jQ:=k0 (Kd.dg (aR jQ.z) hb);replace HB:=k0 (anH bl hb);))
 go_loopg [3,4,5] k (fun kq v3 v4 v5 w'=>∃ (anO:List Int) (bD:List (List Int)) (bR:Int),v5=.int .i64 bR∧ak (dV.l0 kq l0 anO bD bR=some r)∧ak (kq≤k)∧ak (Kd.R (Kd.int .i64) 2 w' w.heap.size (fun _=>True) v3 anO)∧ak (Kd.S (Kd.slice 2 (Kd.int .i64)) 28 w' w.heap.size (fun k_=>some k_ ≠ (v3:Value).ownBlock) v4 bD)∧ak (Below w.heap.size w w'))
 case atStart=>exact ⟨(iH),(t104),(1),rs,H',⟨Nat.le_refl _⟩,⟨aR (jQ.z)⟩,⟨aS (Kd.anW kS.z (fun _ hk=>hk.2))⟩,⟨bl⟩⟩
 case round =>
  clear H'
  obtain ⟨anO,bD,bR,rfl,HA,bH,bh,aE,HB⟩:=hrel
  cases gk with
  | zero=>exact absurd HA.z (by simp [dV.l0])
  | succ k1 =>
   have H:=HA.z
   clear HA
   simp only [dV.l0] at H
   by_cases c6:bR≤(l0.length:Int)
   case neg =>
    rw [if_neg c6] at H
    have iD:decide (bR≤(l0.length:Int))=false:=decide_eq_false c6
    clear c6
    replace H:=Option.bind_eq_some_iff.mp H
    obtain ⟨t107,Mi,H⟩:=H
    replace H:(some t107)=some r:=H
    have fS:=k0 Mi
    clear Mi
    obtain rfl:=Option.some.inj H
    obtain ⟨qX,rq,xL⟩:=Kd.cK bh.z
    subst xL
    go_wp2_with (first|((with_reducible refine bS (f:=168) rfl ?_);refine gC (some 51) Try.func168 #[.slice qX anO.length rq] ?_;(with_reducible refine (iI.calls k1 (fun k_=>some k_=(.slice qX anO.length rq:Value).ownBlock) _ _ anO t107 _ ?aA fS.z).mono ?_);(case aA=>exact Kd.N2 (Kd.oB rfl (Kd.jx (bh.z) (Kd.iR aE.z) (by decide))));rintro e Gu ⟨cw,rfl,aq,hb⟩;refine ⟨_,rfl,?_⟩;replace aE:=k0 (Kd.an6 (aS aE.z) (Kd.aU aq) hb);have dy:=k0 (Kd.cH (Kd.cR (Kd.aT (ok':=fun k_=>True) aq (fun _ b9=>trivial)) (Kd.bK (aR bh.z))) (anG bl));replace bh:=k0 (Kd.cQ (aR bh.z) (Kd.aU aq) hb);replace HB:=k0 (anH bl hb);))
    go_ret
    exact ⟨_,eR,by (with_reducible repeat (first|apply Kd.b_|apply Kd.bZ|apply Kd.bP));exact Kd.aT dy.z (fun _ hk=>trivial),bl⟩
   rw [if_pos c6] at H
   have iD:=decide_eq_true c6
   clear c6
   replace H:=Option.bind_eq_some_iff.mp H
   obtain ⟨t110,vB,H⟩:=H
   replace H:(dV.l1 k1 l0 anO t110 bR (t110.length:Int) 0)=some r:=H
   have A7:=k0 vB
   clear vB
   have H':=k0 H
   clear H
   obtain ⟨vD,wh,Cs⟩:=Kd.eH aE.z
   subst Cs
   go_wp2_with (first|((with_reducible refine bS (f:=205) rfl ?_);refine gC (some 19) Try.func205 #[.slice A0 l0.length c0,.slice vD bD.length wh] ?_;(with_reducible refine (dI.calls k1 _ _ l0 _ _ bD t110 _ ?aA ?anD ?cP ?dB A7.z).mono ?_);(case aA=>exact aC (Kd.dU dh.z HB.z));(case anD=>exact fI.z);(case cP=>exact aC ((Kd.anY aE.z).2.2));(case dB=>exact (Kd.anY aE.z).2.1);rintro e w9 ⟨Ty,rfl,aq,hb⟩;refine ⟨_,rfl,?_⟩;have zP:=k0 (Kd.gD (Kd.jy (Kd.jy aq (Kd.bK (aR bh.z))) (Kd.vU (aS aE.z))) (anG bl));replace bh:=k0 (Kd.dg (aR bh.z) hb);replace aE:=k0 (Kd.an6 (aS aE.z) (Kd.an_ aq) hb);replace HB:=k0 (anH bl hb);obtain ⟨tX,lF,Cj⟩:=Kd.eH zP.z;subst Cj))
   go_loopg [22] k1 (fun kq ze w'=>∃ (bU:List Int) (ez:List (List Int)) (fC:Int),ze=.int .i64 fC∧ak (dV.l1 kq l0 bU ez bR (t110.length:Int) fC=some r)∧ak (kq≤k1)∧ak (Kd.R (Kd.int .i64) 2 w' w.heap.size (fun _=>True) u3 bU)∧ak (Kd.S (Kd.slice 2 (Kd.int .i64)) 28 w' w.heap.size (fun k_=>some k_ ≠ (u3:Value).ownBlock) (.slice tX t110.length lF) ez)∧ak (Below w.heap.size w w'))
   case atStart=>exact ⟨(anO),(t110),(0),rs,H',⟨Nat.le_refl _⟩,⟨aR (bh.z)⟩,⟨aS (Kd.anW zP.z (fun _ hk=>hk.1.2))⟩,⟨bl⟩⟩
   case round =>
    clear H'
    obtain ⟨bU,ez,fC,rfl,HA,eo,bh,aE,HB⟩:=hrel
    have qi:=(Kd.anY aE.z).1
    rw [qi] at aE
    (try simp only [qi])
    (try simp only [qi] at bh)
    cases gk with
    | zero=>exact absurd HA.z (by simp [dV.l1])
    | succ k2 =>
     have H:=HA.z
     clear HA
     simp only [dV.l1] at H
     by_cases c11:fC < (t110.length:Int)
     case neg =>
      rw [if_neg c11] at H
      have lS:decide (fC < (t110.length:Int))=false:=decide_eq_false c11
      (try simp only [qi] at lS)
      clear c11
      replace H:=Option.bind_eq_some_iff.mp H
      obtain ⟨t119,vw,H⟩:=H
      replace H:((iJ.f k2 t119).bind fun t122=>(if bR=0 then (none) else (if bU.length < 17592186044416 then (dV.l0 k2 l0 (bU ++ [wrap64 (Int.tdiv (wrap64 (-t122)) bR)]) ez (wrap64 (bR+1))) else (none))))=some r:=H
      have zv:=k0 vw
      clear vw
      replace H:=Option.bind_eq_some_iff.mp H
      obtain ⟨t122,vA,H⟩:=H
      replace H:(if bR=0 then (none) else (if bU.length < 17592186044416 then (dV.l0 k2 l0 (bU ++ [wrap64 (Int.tdiv (wrap64 (-t122)) bR)]) ez (wrap64 (bR+1))) else (none)))=some r:=H
      have vz:=k0 vA
      clear vA
      by_cases c25:bR=0
      case neg =>
       rw [if_neg c25] at H
       have EW:(bR == 0)=false:=beq_eq_false_iff_ne.mpr c25
       have Ov:(bR != 0)=true:=bne_iff_ne.mpr c25
       replace H:=iS H;obtain ⟨c26,H⟩:=H
       have VW:=k0 c26
       clear c26
       obtain ⟨s6,sM⟩:∃ y_:List Int,y_=(bU ++ [wrap64 (Int.tdiv (wrap64 (-t122)) bR)]):=⟨_,rfl⟩
       replace H:(dV.l0 k2 l0 s6 ez (wrap64 (bR+1)))=some r:=rH sM H
       have zY:=k0 sM
       clear sM
       have H':=k0 H
       clear H
       go_wp2_with (first|((with_reducible refine bS (f:=205) rfl ?_);refine gC (some 43) Try.func205 #[.slice A0 l0.length c0,.slice tX ez.length lF] ?_;(with_reducible refine (dI.calls k2 _ _ l0 _ _ ez t119 _ ?aA ?anD ?cP ?dB zv.z).mono ?_);(case aA=>exact aC (Kd.dU dh.z HB.z));(case anD=>exact fI.z);(case cP=>exact aC ((Kd.anY aE.z).2.2));(case dB=>exact (Kd.anY aE.z).2.1);rintro e Gs ⟨TB,rfl,aq,hb⟩;refine ⟨_,rfl,?_⟩;have kT:=k0 (Kd.gD (Kd.jy (Kd.jy aq (Kd.bK (aR bh.z))) (Kd.vU (aS aE.z))) (anG bl));replace bh:=k0 (Kd.dg (aR bh.z) hb);replace aE:=k0 (Kd.an6 (aS aE.z) (Kd.an_ aq) hb);replace HB:=k0 (anH bl hb);obtain ⟨an2,dA,ry⟩:=Kd.eH kT.z;subst ry)|((with_reducible refine bS (f:=206) rfl ?_);refine gC (some 44) Try.func206 #[.slice an2 t119.length dA] ?_;(with_reducible refine (iJ.calls k2 _ _ t119 t122 _ ?aA ?anD vz.z).mono ?_);(case aA=>exact aC ((Kd.anY kT.z).2.2));(case anD=>exact (Kd.anY kT.z).2.1);rintro e w' ⟨rfl,⟨nd,rfl⟩⟩;refine ⟨_,rfl,?_⟩)|((with_reducible refine aoi (b:=.append) (xs:=#[.tmp 40,.tmp 48]) rfl ?_);at_builtin;refine Kd.qB (Kd.int .i64) (w0:=w) w.heap.size rfl (.tmp 40) (.tmp 48) 28 2 (.int .i64 0) 8 rfl Try.underlying28 aoj rfl (by decide) (by omega) u3 bU (wrap64 (Int.tdiv (wrap64 (-t122)) bR)) [.int .i64 (wrap64 (Int.tdiv (wrap64 (-t122)) bR))] (fun _=>True) (fun _=>False) rfl rfl ?aP (fun _ hk=>hk.elim) ?aF ?aO ?aB ?aS ?aL ?_;(case aP=>exact rfl);(case aB=>exact bl);(case aF=>exact (fun _ _=>trivial));(case aO=>exact (aR bh.z));(case aS=>exact (anG bl));(case aL=>have:=VW.out;omega);intro v124 DZ ho hb hg bz;rw [← zY.z] at ho;have av:=k0 (Kd.vT (ok:=(fun k_=>some k_ ≠ (.slice an2 t119.length dA:Value).ownBlock)) (by (with_reducible repeat (first|apply Kd.di|apply Kd.dm|apply Kd.cS));exact Kd.anW aE.z (fun _ hk=>⟨hk.2,hk.1⟩)) hg bz);have ax:=k0 (Kd.vT (ok:=(fun k_=>some k_ ≠ (.slice tX ez.length lF:Value).ownBlock)) (by (with_reducible repeat (first|apply Kd.di|apply Kd.dm|apply Kd.cS));exact Kd.anW kT.z (fun _ hk=>⟨hk.2,hk.1.2⟩)) hg bz);have ay:=k0 (hb);have anC:=k0 (ho);clear aE;clear kT;clear HB;clear bh;have aE:=av;have kT:=ax;have HB:=ay;have jw:=anC;clear av ax ay anC;clear ho hb hg bz))
       (try simp only [← qi])
       first|go_roundg k2|(simp only [← aph];go_roundg k2)
       case measure=>have:=bH.z;have:=eo.z;omega
       case rel=>exact ⟨(s6),(ez),(wrap64 (bR+1)),rs,(by first|exact H'|(rw [aph];exact H')),⟨by have:=bH.z;have:=eo.z;omega⟩,⟨by (try simp only [qi]);(with_reducible repeat (first|apply Kd.b_|apply Kd.bZ|apply Kd.bP));exact jw.z⟩,⟨by (try simp only [qi]);(with_reducible repeat (first|apply Kd.di|apply Kd.dm|apply Kd.cS));exact Kd.anW aE.z (fun _ hk=>hk.2)⟩,⟨bl⟩⟩
      rw [if_pos c25] at H
      exact absurd H (by simp)
     rw [if_pos c11] at H
     have lS:=decide_eq_true c11
     (try simp only [qi] at lS)
     clear c11
     replace H:=iS H;obtain ⟨c12,H⟩:=H
     have p6:=decide_eq_true c12
     clear c12
     replace H:=iS H;obtain ⟨c13,H⟩:=H
     have aoJ:=decide_eq_true c13
     (try simp only [qi] at aoJ)
     clear c13
     replace H:=iS H;obtain ⟨c14,H⟩:=H
     have qC:=decide_eq_true c14
     (try simp only [qi] at qC)
     clear c14
     obtain ⟨rA,aph⟩:∃ j_:Int,(wrap64 (bR - 1))=j_:=⟨_,rfl⟩
     replace H:(if 0≤(rA) then (if (rA) < (bU.length:Int) then (dV.l1 k2 l0 bU (ez.set (fC:Int).toNat ((ai ez fC).set (fC:Int).toNat (wrap64 ((rd (ai ez fC) fC)+(rd bU (rA)))))) bR (t110.length:Int) (wrap64 (fC+1))) else (none)) else (none))=some r:=by first|(rw [aph] at H;exact H)|(simp only [aph] at H ⊢;exact H)
     have akL:(IntKind.i64.wrap (bR - 1))=rA:=(dX _).trans aph
     replace H:=iS H;obtain ⟨c16,H⟩:=H
     have Iw:=decide_eq_true c16
     clear c16
     replace H:=iS H;obtain ⟨c17,H⟩:=H
     have uw:=decide_eq_true c17
     (try simp only [qi] at uw)
     clear c17
     obtain ⟨qU,sJ⟩:∃ y_:List Int,y_=((ai ez fC).set (fC:Int).toNat (wrap64 ((rd (ai ez fC) fC)+(rd bU (rA))))):=⟨_,rfl⟩
     replace H:(dV.l1 k2 l0 bU (ez.set (fC:Int).toNat qU) bR (t110.length:Int) (wrap64 (fC+1)))=some r:=rH sJ H
     have xj:=k0 sJ
     clear sJ
     obtain ⟨s5,sK⟩:∃ y_:List (List Int),y_=(ez.set (fC:Int).toNat qU):=⟨_,rfl⟩
     replace H:(dV.l1 k2 l0 bU s5 bR (t110.length:Int) (wrap64 (fC+1)))=some r:=rH sK H
     have BL:=k0 sK
     clear sK
     have H':=k0 H
     clear H
     try go_wp2
     replace bh:=k0 (Kd.bP bh.z);replace aE:=k0 (Kd.cS aE.z);replace HB:=k0 (anS HB.z)
     have jU:0≤(fC:Int):=oD
     have jV:fC < (ez.length:Int):=oD
     obtain ⟨rZ,Bf,xE,e113,kG,sx,sw⟩:=fu (Kd.anY aE.z).2.2 fC jU jV
     cases e113
     obtain ⟨IG,xV,xT,su⟩:=Kd.o4 aE.z [] fC jU (by first|exact jV|exact oD|(have e_:=(Kd.anY aE.z).1;omega))
     obtain ⟨LP,rfl,pn⟩:=xT
     have aou:=su 0 _ rfl
     rw [Nat.add_zero,show ((Kd.slice 2 (Kd.int .i64))).sz=1 from rfl,Nat.mul_one] at aou
     replace aou:=Option.some.inj (aou.symm.trans kG)
     rw [aou] at pn
     have nN:=k0 (show Kd.R (Kd.int .i64) 2 _ _ _ _ (ai ez fC) from pn)
     clear aou pn
     have vJ:=k0 kG
     clear su xV
     have nt:=k0 sw
     have By:=k0 sx
     clear sw sx
     replace jU:=eq_true jU
     replace jV:=eq_true jV
     have lV:0≤(fC:Int):=oD
     have lX:fC < ((ai ez fC).length:Int):=oD
     obtain ⟨xx,e114,nE⟩:=Kd.cm (by repeat (first|(with_reducible exact nt.z)|(with_reducible refine Kd.hJ ?_ _)|(with_reducible refine Kd.aoc ?_ _)|(with_reducible refine Kd.gO ?_)|exact nt.z)) fC lV lX
     cases e114
     replace lV:=eq_true lV
     replace lX:=eq_true lX
     obtain ⟨oP,nC,pg⟩:=Kd.cK bh.z
     (first|subst pg|(injection pg with ig aoq ij;have aor:=ig.symm;have aos:=ij.symm;clear ig aoq ij;subst aor;subst aos))
     have pM:0≤((rA):Int):=oD
     have pO:(rA) < (bU.length:Int):=oD
     obtain ⟨xy,e115,pG⟩:=Kd.cm (Kd.anT bh.z).2.2 (rA) pM pO
     cases e115
     replace pM:=eq_true pM
     replace pO:=eq_true pO
     have K7:0≤(fC:Int):=oD
     have Lp:(fC:Int) < (((ai ez fC).length:Int):Int):=oD
     obtain ⟨Jg,IK,Av,Py,ZZ,aho,Nd⟩:=Kd.vR nN.z (by omega)
     (first|cases Av|(injection Av with dH jB jA;(first|subst dH|(injection dH with dH;subst dH));subst jA;clear jB))
     (first|simp only [add_plain] at nE|skip)
     have af9:=k0 Py
     have UZ:=k0 Nd
     clear Py ZZ Nd
     (first|simp only [add_plain] at nE|skip)
     obtain ⟨acG,abd⟩:=Kd.um 0 nN.z (fC:Int) K7 Lp
     replace K7:=eq_true K7
     replace Lp:=eq_true Lp
     have J':(fC:Int) < (ez.length:Int):=(by have h_:(fC:Int) < ((ez.length:Int):Int):=oD;first|exact h_|(have e_:=(Kd.anY aE.z).1;omega)|simpa only [List.length_set,List.length_set] using h_)
     obtain ⟨SZ,Yu,Jz,Jj,CJ,AM,CF⟩:=Kd.xq aE.z [] (fC:Int) oD (by first|exact J'|(have e_:=(Kd.anY aE.z).1;omega))
     obtain ⟨afn,rfl,sq⟩:=Jj
     have uN:=CJ 0 _ rfl
     rw [Nat.add_zero,show ((Kd.slice 2 (Kd.int .i64))).sz=1 from rfl,Nat.mul_one] at uN
     replace uN:=Option.some.inj (uN.symm.trans vJ.z)
     subst uN
     clear CJ Jz
     replace sq:=(show Kd.R (Kd.int .i64) 2 _ _ _ _ (ai ez fC) from sq)
     have tq:=Kd.xo sq (fC:Int) (wrap64 ((rd (ai ez fC) fC)+(rd bU (rA))))
     have VD:=k0 (uz tq.2 vJ.z (xI (AM _ (sq.1 _ rfl)).2))
     rw [← xj.z] at tq
     have agu:=k0 tq.1
     have Hz:=CF tq.2 (fun k_ e_=>by injection e_ with e_;subst e_;exact sq.1 _ rfl) (x':=qU) (Kd.lg tq.1)
     rw [← BL.z] at Hz
     have Nz:=k0 Hz
     clear tq Hz CF AM
     refine oO (n:=15) (S:=fun w'=>w'.cell? (rZ.add (fC).toNat)=some (.slice (some ⟨Jg,0,none⟩) (ai ez fC).length xE)∧w'.cell? ⟨Jg,(fC).toNat,none⟩=some (.int .i64 (rd (ai ez fC) fC))∧w'.cell? (xy.add ((rA)).toNat)=some (.int .i64 (rd bU (rA)))) (ds:=[14]) (ba 15 0) (by kernel_rfl) rfl rfl ⟨kG,nE,pG⟩ (fun hHeld=>?_);refine qt dV.ae4 dV.Xq (fun anM eE=>?_)
     generalize wr.drew=LU at bh aE HB UZ nN Nz nt vJ VD abd kG nE pG acG hHeld ⊢
     refine pu 0 (some 25) (ba 15 1) anM (h:=?_)
     refine pu 1 (some 26) (ba 15 3) anM (h:=?_)
     refine pu 2 (some 27) (ba 15 7) anM (h:=?_)
     refine pu 4 (some 29) (ba 15 23) anM (h:=?_)
     refine pu 7 (some 32) (ba 15 151) anM (h:=?_)
     refine pu 8 (some 33) (ba 15 407) anM (h:=?_)
     refine pu 9 (some 34) (ba 15 919) anM (h:=?_)
     refine pu 10 (some 35) (ba 15 1943) anM (h:=?_)
     refine ta 3 (some 28) (ba 15 1951) anM eE hHeld (hy:=Or.inl ⟨by rfl,by rintro w' ⟨s0,s1,s2⟩;go_simp;with_reducible rfl⟩) (h:=?_)
     refine pu 5 (some 30) (ba 15 1983) anM (h:=?_)
     refine ta 6 (some 31) (ba 15 2047) anM eE hHeld (hy:=Or.inl ⟨by rfl,by rintro w' ⟨s0,s1,s2⟩;go_simp;with_reducible rfl⟩) (h:=?_)
     refine ta 11 (some 36) (ba 15 4095) anM eE hHeld (hy:=Or.inl ⟨by rfl,by rintro w' ⟨s0,s1,s2⟩;go_simp;with_reducible rfl⟩) (h:=?_)
     refine pu 12 (some 37) (ba 15 8191) anM (h:=?_)
     refine pu 13 (some 38) (ba 15 16383) anM (h:=?_)
     refine rC (i:=14) (N:=none) (ba 15 32767) rfl rfl (j7 anM.out (by kernel_rfl)) (by decide) (fun K hK=>?_)
     refine sZ (w1:=?_) (by rfl) rfl ?_ ?_
     rotate_left;· go_simp;rfl
     refine hK.out _ _ ?_
     clear hK K
     refine o_ (qF anM.out (by kernel_rfl)) ?_
     try go_wp2
     (try simp only [← qi])
     first|go_roundg k2|(simp only [← aph];go_roundg k2)
     case measure=>have:=bH.z;have:=eo.z;omega
     case rel=>exact ⟨(bU),(s5),(wrap64 (fC+1)),rs,(by first|exact H'|(rw [aph];exact H')),⟨by have:=bH.z;have:=eo.z;omega⟩,⟨by (try simp only [qi]);(with_reducible repeat (first|apply Kd.b_|apply Kd.bZ|apply Kd.bP));exact Kd.aT (Kd.vQ (p:=⟨Jg,(fC:Int).toNat,none⟩) (Kd.Ww bh.z rfl ((nN.z.1 _ rfl).1)) (fun _ hk=>hk.2) (.int .i64 (wrap64 ((rd (ai ez fC) fC)+(rd bU (rA)))))) (fun _ hk=>trivial)⟩,⟨by (try simp only [qi]);(with_reducible repeat (first|apply Kd.di|apply Kd.dm|apply Kd.cS));exact Nz.out⟩,⟨aL HB.z⟩⟩
/-! ### F123: function 123 -/
def oR.f (k:Nat) (au:Int) (ah:List (List Int)):Option (List Int):=(ee.f k au ah).bind fun t102=>((dV.f k t102).bind fun t105=>(some t105))
theorem oR.mono:∀ a0 a1 k,ag (oR.f k a0 a1) (oR.f (k+1) a0 a1):=by
 intro a0 a1 k
 unfold oR.f
 repeat' first
  | (with_reducible first|exact ee.mono _ _ _|exact dV.mono _ _|exact ag.refl _|exact ag.none _|refine ag.ite ?_ ?_|refine ag.bind ?_ (fun _=>?_))
  | exact ee.mono _ _ _|exact dV.mono _ _|exact ag.none _|refine ag.ite ?_ ?_|refine ag.bind ?_ (fun _=>?_)
theorem oR.calls (k : Nat) (au : Int) (bJ : Option Addr) (bI : Nat) (ah : List (List Int)) (r : List Int) (w : World) (eS : Kd.C (Kd.slice 2 (Kd.int .i64)) w bJ ah.length ah) (eY : ah.length ≤ bI) (h : oR.f k au ah = some r) :
  Calls Try.prog 123 #[.agg #[.int .i64 au,.slice bJ ah.length bI]] w fun e w'=>∃ dw:Value,e=.returned (dw)∧Kd.R (Kd.int .i64) 2 w' w.heap.size (fun _=>True) dw r∧Below w.heap.size w w':=by
 have jS:=Try.underlying31
 have dP:=k0 eS
 have f_:=k0 eY
 clear eS eY
 have HB:=k0 (Below.refl w.heap.size w)
 have H:((ee.f k au ah).bind fun t102=>((dV.f k t102).bind fun t105=>(some t105)))=some r:=h
 clear h
 replace H:=Option.bind_eq_some_iff.mp H
 obtain ⟨t102,eD,H⟩:=H
 replace H:((dV.f k t102).bind fun t105=>(some t105))=some r:=H
 have A2:=k0 eD
 clear eD
 replace H:=Option.bind_eq_some_iff.mp H
 obtain ⟨t105,fS,H⟩:=H
 replace H:(some t105)=some r:=H
 have A3:=k0 fS
 clear fS
 obtain rfl:=Option.some.inj H
 go_enter Try.func123,Try.ntmps123
 go_wp2_with (first|((with_reducible refine bN (N:=1) rfl ?_);refine cE 1 #[.int .i64 au,.slice bJ ah.length bI] 31 ?_;intro aW hg w4 aG hb;have aa:=k0 (aG);have cu:=gW hg (anG bl);have anQ:=cu;replace HB:=k0 (anH bl hb);clear hb aG hg;have uG:=aX aa;have uH:=aY aa;have uI:=bF aa 0;have uJ:=bF aa 1)|((with_reducible refine bS (f:=153) rfl ?_);refine gC (some 4) Try.func153 #[.agg #[.int .i64 au,.slice bJ ah.length bI]] ?_;(with_reducible refine (ee.calls k au _ _ ah t102 _ ?aA ?anD A2.z).mono ?_);(case aA=>exact aC (Kd.dU dP.z HB.z));(case anD=>exact f_.z);rintro e w6 ⟨iF,rfl,aq,hb⟩;refine ⟨_,rfl,?_⟩;have eP:=k0 (Kd.gD aq (anG bl));replace aa:=kB aa hb;replace HB:=k0 (anH bl hb);obtain ⟨apR,IQ,I5⟩:=Kd.eH eP.z;subst I5)|((with_reducible refine bS (f:=132) rfl ?_);refine gC (some 5) Try.func132 #[.slice apR t102.length IQ] ?_;(with_reducible refine (dV.calls k _ _ t102 t105 _ ?aA ?anD A3.z).mono ?_);(case aA=>exact aC ((Kd.anY eP.z).2.2));(case anD=>exact (Kd.anY eP.z).2.1);rintro e w8 ⟨jm,rfl,aq,hb⟩;refine ⟨_,rfl,?_⟩;replace eP:=k0 (Kd.an6 (aS eP.z) (Kd.aU aq) hb);have jv:=k0 (Kd.cH aq (anG bl));replace aa:=kB aa hb;replace HB:=k0 (anH bl hb);))
 go_ret
 exact ⟨_,eR,by (with_reducible repeat (first|apply Kd.b_|apply Kd.bZ|apply Kd.bP));exact jv.z,bl⟩
/-! ### F49: function 49 -/
def nh.f (k:Nat) (au:Int) (ah:List (List Int)):Option (List Int × Int):=(fj.f k au ah).bind fun t102=>(if t102=true then ((oR.f k au ah).bind fun t103=>(some (t103,0))) else (some (([]:List Int),1)))
theorem nh.mono:∀ a0 a1 k,ag (nh.f k a0 a1) (nh.f (k+1) a0 a1):=by
 intro a0 a1 k
 unfold nh.f
 repeat' first
  | (with_reducible first|exact oR.mono _ _ _|exact fj.mono _ _ _|exact ag.refl _|exact ag.none _|refine ag.ite ?_ ?_|refine ag.bind ?_ (fun _=>?_))
  | exact oR.mono _ _ _|exact fj.mono _ _ _|exact ag.none _|refine ag.ite ?_ ?_|refine ag.bind ?_ (fun _=>?_)
theorem nh.calls (k : Nat) (au : Int) (bJ : Option Addr) (bI : Nat) (ah : List (List Int)) (r1 : List Int) (r2 : Int) (w : World) (eS : Kd.C (Kd.slice 2 (Kd.int .i64)) w bJ ah.length ah) (eY : ah.length ≤ bI) (h : nh.f k au ah = some (r1, r2)) :
  Calls Try.prog 49 #[.agg #[.int .i64 au,.slice bJ ah.length bI]] w fun e w'=>∃ dw:Value,e=.returned (.tuple #[dw,.int .i64 r2])∧Kd.R (Kd.int .i64) 2 w' w.heap.size (fun _=>True) dw r1∧Below w.heap.size w w':=by
 have jS:=Try.underlying31
 have dP:=k0 eS
 have f_:=k0 eY
 clear eS eY
 have HB:=k0 (Below.refl w.heap.size w)
 have H:((fj.f k au ah).bind fun t102=>(if t102=true then ((oR.f k au ah).bind fun t103=>(some (t103,0))) else (some (([]:List Int),1))))=some (r1,r2):=h
 clear h
 replace H:=Option.bind_eq_some_iff.mp H
 obtain ⟨t102,eD,H⟩:=H
 replace H:(if t102=true then ((oR.f k au ah).bind fun t103=>(some (t103,0))) else (some (([]:List Int),1)))=some (r1,r2):=H
 have A2:=k0 eD
 clear eD
 by_cases c3:t102=true
 case neg =>
  replace c3:=Bool.eq_false_iff.mpr c3
  subst c3
  have H1:(some (([]:List Int),1))=some (r1,r2):=by rw [if_neg (show ¬ (false=true) by decide)] at H;exact H
  clear H
  have H:=H1
  clear H1
  simp only [Option.some.injEq,Prod.mk.injEq] at H
  obtain ⟨rfl,rfl⟩:=H
  go_enter Try.func49,Try.ntmps49
  go_wp2_with (first|((with_reducible refine bN (N:=1) rfl ?_);refine cE 1 #[.int .i64 au,.slice bJ ah.length bI] 31 ?_;intro aW hg qN aG hb;have aa:=k0 (aG);have cu:=gW hg (anG bl);have anQ:=cu;replace HB:=k0 (anH bl hb);clear hb aG hg;have Fc:=aX aa;have Fe:=aY aa;have Fi:=bF aa 0;have Fj:=bF aa 1)|((with_reducible refine bS (f:=106) rfl ?_);refine gC (some 5) Try.func106 #[.agg #[.int .i64 au,.slice bJ ah.length bI]] ?_;(with_reducible refine (fj.calls k au _ _ ah false _ ?aA ?anD A2.z).mono ?_);(case aA=>exact aC (Kd.dU dP.z HB.z));(case anD=>exact f_.z);rintro e ao0 ⟨rfl,hb⟩;refine ⟨_,rfl,?_⟩;replace aa:=kB aa hb;replace HB:=k0 (anH bl hb);))
  go_ret2
  exact ⟨_,eR,by first|exact Kd.ny _ _ _ _ _|exact Kd.rV _ _ _ _ _|exact Kd.rY _ _ _ _ _|exact Kd.rW _ _ _ _ _|exact Kd.rX _ _ _ _ _,bl⟩
 subst c3
 have H1:((oR.f k au ah).bind fun t103=>(some (t103,0)))=some (r1,r2):=by rw [if_pos rfl] at H;exact H
 clear H
 have H:=H1
 clear H1
 replace H:=Option.bind_eq_some_iff.mp H
 obtain ⟨t103,jt,H⟩:=H
 replace H:(some (t103,0))=some (r1,r2):=H
 have A4:=k0 jt
 clear jt
 simp only [Option.some.injEq,Prod.mk.injEq] at H
 obtain ⟨rfl,rfl⟩:=H
 go_enter Try.func49,Try.ntmps49
 go_wp2_with (first|((with_reducible refine bN (N:=1) rfl ?_);refine cE 1 #[.int .i64 au,.slice bJ ah.length bI] 31 ?_;intro aW hg w5 aG hb;have aa:=k0 (aG);have cu:=gW hg (anG bl);have anQ:=cu;replace HB:=k0 (anH bl hb);clear hb aG hg;have Ff:=aX aa;have Fg:=aY aa;have Fk:=bF aa 0;have Fl:=bF aa 1)|((with_reducible refine bS (f:=106) rfl ?_);refine gC (some 5) Try.func106 #[.agg #[.int .i64 au,.slice bJ ah.length bI]] ?_;(with_reducible refine (fj.calls k au _ _ ah true _ ?aA ?anD A2.z).mono ?_);(case aA=>exact aC (Kd.dU dP.z HB.z));(case anD=>exact f_.z);rintro e w7 ⟨rfl,hb⟩;refine ⟨_,rfl,?_⟩;replace aa:=kB aa hb;replace HB:=k0 (anH bl hb);have CR:=aX aa;have CS:=aY aa;have CZ:=bF aa 0;have C0:=bF aa 1)|((with_reducible refine bS (f:=123) rfl ?_);refine gC (some 8) Try.func123 #[.agg #[.int .i64 au,.slice bJ ah.length bI]] ?_;(with_reducible refine (oR.calls k au _ _ ah t103 _ ?aA ?anD A4.z).mono ?_);(case aA=>exact aC (Kd.dU dP.z HB.z));(case anD=>exact f_.z);rintro e w9 ⟨aoZ,rfl,aq,hb⟩;refine ⟨_,rfl,?_⟩;have cZ:=k0 (Kd.cH aq (anG bl));replace aa:=kB aa hb;replace HB:=k0 (anH bl hb);))
 go_ret2
 exact ⟨_,eR,by (with_reducible repeat (first|apply Kd.b_|apply Kd.bZ|apply Kd.bP));exact cZ.z,bl⟩
/-! ### F160: function 160 -/
def aog.l0 : Nat → List Int → Int → Option (List Int)
 | 0,_,_=>none
 | k+1,x0,x3=>if x3 > 0 then (if 0≤(wrap64 (x3 - 1)) then (if (wrap64 (x3 - 1)) < (x0.length:Int) then (if (rd x0 (wrap64 (x3 - 1)))=0 then (aog.l0 k x0 (wrap64 (x3 - 1))) else (if 0≤x3 then (if x3≤(x0.length:Int) then ((mG.f (x0.take (x3:Int).toNat)).bind fun t103=>(some t103)) else (none)) else (none))) else (none)) else (none)) else (if 0≤x3 then (if x3≤(x0.length:Int) then ((mG.f (x0.take (x3:Int).toNat)).bind fun t107=>(some t107)) else (none)) else (none))
def aog.f (k:Nat) (l0:List Int):Option (List Int):=aog.l0 k l0 (l0.length:Int)
theorem aog.cC : ∀ k, (∀ y0 y1, ag (aog.l0 k y0 y1) (aog.l0 (k + 1) y0 y1))
 | 0=>fun _ _ r h=>by simp [aog.l0] at h
 | k+1=>by
  have a_:=aog.cC k
  ·intro y0 y1
   unfold aog.l0
   repeat' first
    | (with_reducible first|exact a_ _ _|exact ag.refl _|exact ag.none _|refine ag.ite ?_ ?_|refine ag.bind ?_ (fun _=>?_))
    | exact a_ _ _|exact ag.none _|refine ag.ite ?_ ?_|refine ag.bind ?_ (fun _=>?_)
theorem aog.mono:∀ a0 k,ag (aog.f k a0) (aog.f (k+1) a0):=by
 intro a0 k
 have a_:=aog.cC k
 unfold aog.f
 repeat' first
  | (with_reducible first|exact a_ _ _|exact ag.refl _|exact ag.none _|refine ag.ite ?_ ?_|refine ag.bind ?_ (fun _=>?_))
  | exact a_ _ _|exact ag.none _|refine ag.ite ?_ ?_|refine ag.bind ?_ (fun _=>?_)
theorem aog.calls (k : Nat) (A0 : Option Addr) (c0 : Nat) (l0 : List Int) (r : List Int) (w : World) (cL : Kd.C (Kd.int .i64) w A0 l0.length l0) (hc0 : l0.length ≤ c0) (h : aog.f k l0 = some r) :
  Calls Try.prog 160 #[.slice A0 l0.length c0] w fun e w'=>∃ dw:Value,e=.returned (dw)∧Kd.R (Kd.int .i64) 2 w' w.heap.size (fun _=>True) dw r∧Below w.heap.size w w':=by
 have dh:=k0 cL
 have fI:=k0 hc0
 clear cL hc0
 have HB:=k0 (Below.refl w.heap.size w)
 have H:(aog.l0 k l0 (l0.length:Int))=some r:=h
 clear h
 have H':=k0 H
 clear H
 go_enter Try.func160,Try.ntmps160
 go_wp2
 go_loopg [3] k (fun kq v3 w'=>∃ (anO:Int),v3=.int .i64 anO∧ak (aog.l0 kq l0 anO=some r)∧ak (kq≤k)∧ak (Below w.heap.size w w'))
 case atStart=>exact ⟨((l0.length:Int)),rs,H',⟨Nat.le_refl _⟩,⟨bl⟩⟩
 case round =>
  clear H'
  obtain ⟨anO,rfl,HA,bH,HB⟩:=hrel
  cases gk with
  | zero=>exact absurd HA.z (by simp [aog.l0])
  | succ k1 =>
   have H:=HA.z
   clear HA
   simp only [aog.l0] at H
   by_cases c2:anO > 0
   case neg =>
    rw [if_neg c2] at H
    have xG:decide (0 < anO)=false:=decide_eq_false c2
    clear c2
    replace H:=iS H;obtain ⟨c12,H⟩:=H
    have p6:=eq_true c12
    have EU:=decide_eq_true c12
    clear c12
    replace H:=iS H;obtain ⟨c13,H⟩:=H
    have aoJ:=eq_true c13
    have Iv:=decide_eq_true c13
    clear c13
    replace H:=Option.bind_eq_some_iff.mp H
    obtain ⟨t107,rN,H⟩:=H
    replace H:(some t107)=some r:=H
    have wY:=k0 rN
    clear rN
    obtain rfl:=Option.some.inj H
    obtain ⟨i015,QZ,_,R_,_⟩:=info_parts aoj
    obtain ⟨ahW,hA15,PG⟩:=Lb (P:=Try.prog) (Value.int .i64) 0 28 2 .i64 Try.underlying28 QZ R_ A0 c0 l0 anO oD oD fI.z
    have Vx:=k0 (Kd.El (h1:=fun _=>rfl) (hA15 _ (Kd.DR dh.z)))
    have M_:=k0 PG
    clear hA15 PG QZ R_
    go_wp2_with (first|((with_reducible refine bS (f:=173) rfl ?_);refine Ji (some 21) rfl rfl Try.func173 (by kernel_rfl) rfl #[.slice A0 (l0.take (anO:Int).toNat).length c0] rfl (by (try simp only [List.map_toArray,List.map_cons,List.map_nil]);first|done|(rw [show (l0.take (anO:Int).toNat).length=anO.toNat from (by rw [List.length_take];have h_:(anO:Int)≤(l0.length:Int):=oD;omega)]<;>rfl)|rfl|(simp only [List.length_drop,List.length_take];rfl)) ?_;(with_reducible refine (mG.calls _ _ (l0.take (anO:Int).toNat) t107 _ ?aA ?anD wY.z).mono ?_);(case aA=>exact aC (Kd.dU Vx.z HB.z));(case anD=>exact M_.z);rintro e DX ⟨cw,rfl,aq,hb⟩;refine ⟨_,rfl,?_⟩;have dy:=k0 (Kd.cH aq (anG bl));replace HB:=k0 (anH bl hb);))
    go_ret
    exact ⟨_,eR,by (with_reducible repeat (first|apply Kd.b_|apply Kd.bZ|apply Kd.bP));exact dy.z,bl⟩
   rw [if_pos c2] at H
   have xG:=decide_eq_true c2
   clear c2
   obtain ⟨cy,mo⟩:∃ j_:Int,(wrap64 (anO - 1))=j_:=⟨_,rfl⟩
   replace H:(if 0≤(cy) then (if (cy) < (l0.length:Int) then (if (rd l0 (cy))=0 then (aog.l0 k1 l0 cy) else (if 0≤anO then (if anO≤(l0.length:Int) then ((mG.f (l0.take (anO:Int).toNat)).bind fun t103=>(some t103)) else (none)) else (none))) else (none)) else (none))=some r:=by first|(rw [mo] at H;exact H)|(simp only [mo] at H ⊢;exact H)
   have Rc:(IntKind.i64.wrap (anO - 1))=cy:=(dX _).trans mo
   replace H:=iS H;obtain ⟨c4,H⟩:=H
   have gT:=decide_eq_true c4
   clear c4
   replace H:=iS H;obtain ⟨c5,H⟩:=H
   have aoo:=decide_eq_true c5
   clear c5
   by_cases c6:(rd l0 (cy))=0
   case neg =>
    rw [if_neg c6] at H
    have iD:((rd l0 (cy)) == 0)=false:=beq_eq_false_iff_ne.mpr c6
    have oF:((rd l0 (cy)) != 0)=true:=bne_iff_ne.mpr c6
    replace H:=iS H;obtain ⟨c7,H⟩:=H
    have o7:=eq_true c7
    have ao4:=decide_eq_true c7
    clear c7
    replace H:=iS H;obtain ⟨c8,H⟩:=H
    have p8:=eq_true c8
    have ao5:=decide_eq_true c8
    clear c8
    replace H:=Option.bind_eq_some_iff.mp H
    obtain ⟨t103,vC,H⟩:=H
    replace H:(some t103)=some r:=H
    have A9:=k0 vC
    clear vC
    obtain rfl:=Option.some.inj H
    have ep:0≤((cy):Int):=oD
    have er:(cy) < (l0.length:Int):=oD
    obtain ⟨lA,e101,kF⟩:=Kd.cm dh.z (cy) ep er
    cases e101
    replace kF:=hbc HB kF
    replace ep:=eq_true ep
    replace er:=eq_true er
    obtain ⟨i010,C1,_,FC,_⟩:=info_parts aoj
    obtain ⟨Qb,hA10,CB⟩:=Lb (P:=Try.prog) (Value.int .i64) 0 28 2 .i64 Try.underlying28 C1 FC (some lA) c0 l0 anO oD oD fI.z
    have Vw:=k0 (Kd.El (h1:=fun _=>rfl) (hA10 _ (Kd.DR dh.z)))
    have U9:=k0 CB
    clear hA10 CB C1 FC
    go_wp2_with (first|((with_reducible refine bS (f:=173) rfl ?_);refine Ji (some 21) rfl rfl Try.func173 (by kernel_rfl) rfl #[.slice (some lA) (l0.take (anO:Int).toNat).length c0] rfl (by (try simp only [List.map_toArray,List.map_cons,List.map_nil]);first|done|(rw [show (l0.take (anO:Int).toNat).length=anO.toNat from (by rw [List.length_take];have h_:(anO:Int)≤(l0.length:Int):=oD;omega)]<;>rfl)|rfl|(simp only [List.length_drop,List.length_take];rfl)) ?_;(with_reducible refine (mG.calls _ _ (l0.take (anO:Int).toNat) t103 _ ?aA ?anD A9.z).mono ?_);(case aA=>exact aC (Kd.dU Vw.z HB.z));(case anD=>exact U9.z);rintro e TG ⟨aoZ,rfl,aq,hb⟩;refine ⟨_,rfl,?_⟩;have cZ:=k0 (Kd.cH aq (anG bl));replace HB:=k0 (anH bl hb);))
    go_ret
    exact ⟨_,by first|rfl|(simp [qa,qb]<;>rfl)|(simp only [← mo];first|rfl|(simp [qa,qb]<;>rfl))|(simp [*,qa,qb]<;>rfl),by (with_reducible repeat (first|apply Kd.b_|apply Kd.bZ|apply Kd.bP));exact cZ.z,bl⟩
   rw [if_pos c6] at H
   have iD:((rd l0 (cy)) == 0)=true:=beq_iff_eq.mpr c6
   have oF:((rd l0 (cy)) != 0)=false:=bne_eq_false_iff_eq.mpr c6
   clear c6
   have H':=k0 H
   clear H
   have ep:0≤((cy):Int):=oD
   have er:(cy) < (l0.length:Int):=oD
   obtain ⟨lA,e101,kF⟩:=Kd.cm dh.z (cy) ep er
   cases e101
   replace kF:=hbc HB kF
   replace ep:=eq_true ep
   replace er:=eq_true er
   go_wp2
   first|go_roundg k1|(simp only [← mo];go_roundg k1)
   case measure=>have:=bH.z;omega
   case rel=>exact ⟨(cy),(by first|rfl|(simp;done)|(simp only [← mo]<;>(first|rfl|simp))|(simp [*];done)),(by first|exact H'|(rw [mo];exact H')),⟨by have:=bH.z;omega⟩,⟨bl⟩⟩
end Go.Proofs.Ytoebojnhchocaaa.G
/- Set with little white space, by a program. -/
