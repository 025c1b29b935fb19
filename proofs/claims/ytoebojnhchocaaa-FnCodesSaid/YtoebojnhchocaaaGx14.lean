/- The functions that one law reaches, each as a Lean function, and that Go's call comes to what it says. Condition of each: that the Lean function answers (is not none). -/
import Derived.Test.YtoebojnhchocaaaGx0
import Derived.Test.YtoebojnhchocaaaGx13
namespace Go.Proofs.Ytoebojnhchocaaa.G
open Go.RowKit Go.Proofs.cx.fq Go.Proofs.cx.jX Go.Proofs.cx.lu
attribute [local go_sem] max2_int min2_int max_two min_two max_three min_three max_four min_four   -- for this text's walks alone
set_option linter.unusedVariables false
set_option linter.unusedSimpArgs false
/-! ### F136: function 136 -/
mutual
def bx.l0 : Nat → List (List Int) → List Int → Int → Option (List Int)
 | 0,_,_,_=>none
 | k+1,x0,x3,x4=>if x4 < (x0.length:Int) then (if 0≤x4 then (if x4 < ((ai x0 x4).length:Int) then (bx.l1 k x0 x3 x4 (([1,wrap64 (-(rd (ai x0 x4) x4))]:List Int)) (([]:List Int)) 0) else (none)) else (none)) else ((aog.f k x3).bind fun t104=>(some t104))
def bx.l1 : Nat → List (List Int) → List Int → Int → List Int → List Int → Int → Option (List Int)
 | 0,_,_,_,_,_,_=>none
 | k+1,x0,x3,x4,x5,x6,x7=>if x7 < x4 then (if 0≤x7 then (if x7 < (x0.length:Int) then (if 0≤x4 then (if x4 < ((ai x0 x7).length:Int) then (if x6.length < 17592186044416 then (bx.l1 k x0 x3 x4 x5 (x6 ++ [rd (ai x0 x7) x4]) (wrap64 (x7+1))) else (none)) else (none)) else (none)) else (none)) else (none)) else (bx.l2 k x0 x3 x4 x5 x6 0)
def bx.l2 : Nat → List (List Int) → List Int → Int → List Int → List Int → Int → Option (List Int)
 | 0,_,_,_,_,_,_=>none
 | k+1,x0,x3,x4,x5,x6,x8=>if x8 < x4 then (bx.l3 k x0 x3 x4 x5 x6 x8 0 (([]:List Int)) 0) else (if 0≤(wrap64 (x4+2)) then (if (wrap64 (x4+2):Int).toNat≤35184372088832 then (bx.l5 k x0 x3 x4 x5 (List.replicate (wrap64 (x4+2):Int).toNat 0) 0) else (none)) else (none))
def bx.l3 : Nat → List (List Int) → List Int → Int → List Int → List Int → Int → Int → List Int → Int → Option (List Int)
 | 0,_,_,_,_,_,_,_,_,_=>none
 | k+1,x0,x3,x4,x5,x6,x8,x9,fP,gM=>if gM < x4 then (if 0≤x4 then (if x4 < (x0.length:Int) then (if 0≤gM then (if gM < ((ai x0 x4).length:Int) then (if gM < (x6.length:Int) then (bx.l4 k x0 x3 x4 x5 x6 x8 (wrap64 (x9+(wrap64 ((rd (ai x0 x4) gM) * (rd x6 gM))))) fP gM 0 0) else (none)) else (none)) else (none)) else (none)) else (none)) else (if x5.length < 17592186044416 then (bx.l2 k x0 x3 x4 (x5 ++ [wrap64 (-x9)]) fP (wrap64 (x8+1))) else (none))
def bx.l4 : Nat → List (List Int) → List Int → Int → List Int → List Int → Int → Int → List Int → Int → Int → Int → Option (List Int)
 | 0,_,_,_,_,_,_,_,_,_,_,_=>none
 | k+1,x0,x3,x4,x5,x6,x8,x9,fP,gM,iO,vo=>if vo < x4 then (if 0≤gM then (if gM < (x0.length:Int) then (if 0≤vo then (if vo < ((ai x0 gM).length:Int) then (if vo < (x6.length:Int) then (bx.l4 k x0 x3 x4 x5 x6 x8 x9 fP gM (wrap64 (iO+(wrap64 ((rd (ai x0 gM) vo) * (rd x6 vo))))) (wrap64 (vo+1))) else (none)) else (none)) else (none)) else (none)) else (none)) else (if fP.length < 17592186044416 then (bx.l3 k x0 x3 x4 x5 x6 x8 x9 (fP ++ [iO]) (wrap64 (gM+1))) else (none))
def bx.l5 : Nat → List (List Int) → List Int → Int → List Int → List Int → Int → Option (List Int)
 | 0,_,_,_,_,_,_=>none
 | k+1,x0,x3,x4,x5,aon,jo=>if jo < (aon.length:Int) then (bx.l6 k x0 x3 x4 x5 aon jo 0) else (bx.l0 k x0 aon (wrap64 (x4+1)))
def bx.l6 : Nat → List (List Int) → List Int → Int → List Int → List Int → Int → Int → Option (List Int)
 | 0,_,_,_,_,_,_,_=>none
 | k+1,x0,x3,x4,x5,aon,jo,kz=>if kz < (x3.length:Int) then (if kz≤jo then (if 0≤jo then (if jo < (aon.length:Int) then (if 0≤(wrap64 (jo - kz)) then (if (wrap64 (jo - kz)) < (x5.length:Int) then (if 0≤kz then (bx.l6 k x0 x3 x4 x5 (aon.set (jo:Int).toNat (wrap64 ((rd aon jo)+(wrap64 ((rd x5 (wrap64 (jo - kz))) * (rd x3 kz)))))) jo (wrap64 (kz+1))) else (none)) else (none)) else (none)) else (none)) else (none)) else (bx.l5 k x0 x3 x4 x5 aon (wrap64 (jo+1)))) else (bx.l5 k x0 x3 x4 x5 aon (wrap64 (jo+1)))
end
def bx.f (k:Nat) (l0:List (List Int)):Option (List Int):=bx.l0 k l0 (([1]:List Int)) 0
theorem bx.cC : ∀ k, (∀ y0 y1 y2, ag (bx.l0 k y0 y1 y2) (bx.l0 (k + 1) y0 y1 y2)) ∧ (∀ y0 y1 y2 y3 y4 y5, ag (bx.l1 k y0 y1 y2 y3 y4 y5) (bx.l1 (k + 1) y0 y1 y2 y3 y4 y5)) ∧ (∀ y0 y1 y2 y3 y4 y5, ag (bx.l2 k y0 y1 y2 y3 y4 y5) (bx.l2 (k + 1) y0 y1 y2 y3 y4 y5)) ∧ (∀ y0 y1 y2 y3 y4 y5 y6 y7 y8, ag (bx.l3 k y0 y1 y2 y3 y4 y5 y6 y7 y8) (bx.l3 (k + 1) y0 y1 y2 y3 y4 y5 y6 y7 y8)) ∧ (∀ y0 y1 y2 y3 y4 y5 y6 y7 y8 y9 wU, ag (bx.l4 k y0 y1 y2 y3 y4 y5 y6 y7 y8 y9 wU) (bx.l4 (k + 1) y0 y1 y2 y3 y4 y5 y6 y7 y8 y9 wU)) ∧ (∀ y0 y1 y2 y3 y4 y5, ag (bx.l5 k y0 y1 y2 y3 y4 y5) (bx.l5 (k + 1) y0 y1 y2 y3 y4 y5)) ∧ (∀ y0 y1 y2 y3 y4 y5 y6, ag (bx.l6 k y0 y1 y2 y3 y4 y5 y6) (bx.l6 (k + 1) y0 y1 y2 y3 y4 y5 y6))
 | 0=>⟨fun _ _ _ r h=>by simp [bx.l0] at h,fun _ _ _ _ _ _ r h=>by simp [bx.l1] at h,fun _ _ _ _ _ _ r h=>by simp [bx.l2] at h,fun _ _ _ _ _ _ _ _ _ r h=>by simp [bx.l3] at h,fun _ _ _ _ _ _ _ _ _ _ _ r h=>by simp [bx.l4] at h,fun _ _ _ _ _ _ r h=>by simp [bx.l5] at h,fun _ _ _ _ _ _ _ r h=>by simp [bx.l6] at h⟩
 | k+1=>by
  obtain ⟨a_,ih1,ih2,ih3,ih4,ih5,aoW⟩:=bx.cC k
  refine ⟨?_, ?_, ?_, ?_, ?_, ?_, ?_⟩ <;> intros <;> (first | unfold bx.l0 | unfold bx.l1 | unfold bx.l2 | unfold bx.l3 | unfold bx.l4 | unfold bx.l5 | unfold bx.l6) <;> repeat' first
   | (with_reducible first|exact a_ _ _ _|exact ih1 _ _ _ _ _ _|exact ih2 _ _ _ _ _ _|exact ih3 _ _ _ _ _ _ _ _ _|exact ih4 _ _ _ _ _ _ _ _ _ _ _|exact ih5 _ _ _ _ _ _|exact aoW _ _ _ _ _ _ _|exact aog.mono _ _|exact ag.refl _|exact ag.none _|refine ag.ite ?_ ?_|refine ag.bind ?_ (fun _=>?_))
   | exact a_ _ _ _|exact ih1 _ _ _ _ _ _|exact ih2 _ _ _ _ _ _|exact ih3 _ _ _ _ _ _ _ _ _|exact ih4 _ _ _ _ _ _ _ _ _ _ _|exact ih5 _ _ _ _ _ _|exact aoW _ _ _ _ _ _ _|exact aog.mono _ _|exact ag.none _|refine ag.ite ?_ ?_|refine ag.bind ?_ (fun _=>?_)
theorem bx.mono:∀ a0 k,ag (bx.f k a0) (bx.f (k+1) a0):=by
 intro a0 k
 obtain ⟨a_,ih1,ih2,ih3,ih4,ih5,aoW⟩:=bx.cC k
 unfold bx.f
 repeat' first
  | (with_reducible first|exact a_ _ _ _|exact ih1 _ _ _ _ _ _|exact ih2 _ _ _ _ _ _|exact ih3 _ _ _ _ _ _ _ _ _|exact ih4 _ _ _ _ _ _ _ _ _ _ _|exact ih5 _ _ _ _ _ _|exact aoW _ _ _ _ _ _ _|exact aog.mono _ _|exact ag.refl _|exact ag.none _|refine ag.ite ?_ ?_|refine ag.bind ?_ (fun _=>?_))
  | exact a_ _ _ _|exact ih1 _ _ _ _ _ _|exact ih2 _ _ _ _ _ _|exact ih3 _ _ _ _ _ _ _ _ _|exact ih4 _ _ _ _ _ _ _ _ _ _ _|exact ih5 _ _ _ _ _ _|exact aoW _ _ _ _ _ _ _|exact aog.mono _ _|exact ag.none _|refine ag.ite ?_ ?_|refine ag.bind ?_ (fun _=>?_)
def bx.Od:Bool × List (List Nat × List Nat):=(true,[([],[]),([],[]),([],[]),([1,2],[1,2]),([3],[3]),([],[]),([4,5],[4,5]),([6],[6]),([],[]),([],[]),([8,9],[8,9]),([10],[10]),([7,11],[7,11]),([0,12],[0,12]),([13,0,1,2,3,4,5,6,7,8,9,10,11,12,13],[0,13])])
def bx.Uy:List Nat:=[0,0,0,6,14,0,62,126,0,0,768,1792,4094,8191,16383]
theorem bx.ae0:fh .any (opsOf Try.f136 17)=bx.Od:=by kernel_rfl
theorem bx.Xm:kN bx.Od.2 bx.Uy=true:=by kernel_rfl
def bx.Oe:Bool × List (List Nat × List Nat):=(true,[([],[]),([],[]),([],[]),([1,2],[1,2]),([3],[3]),([],[]),([4,5],[4,5]),([6],[6]),([],[]),([],[]),([8,9],[8,9]),([10],[10]),([7,11],[7,11]),([0,12],[0,12]),([13,0,1,2,3,4,5,6,7,8,9,10,11,12,13],[0,13])])
def bx.Uz:List Nat:=[0,0,0,6,14,0,62,126,0,0,768,1792,4094,8191,16383]
theorem bx.ae1:fh .any (opsOf Try.f136 22)=bx.Oe:=by kernel_rfl
theorem bx.Xn:kN bx.Oe.2 bx.Uz=true:=by kernel_rfl
def bx.Of:Bool × List (List Nat × List Nat):=(true,[([],[]),([],[]),([],[]),([],[]),([2,3],[2,3]),([4],[4]),([],[]),([],[]),([],[]),([7,8],[7,8]),([6,9],[6,9]),([10],[10]),([],[]),([],[]),([12,13],[12,13]),([14],[14]),([11,15],[11,15]),([5,16],[5,16]),([0,1,0,1,2,3,4,5,6,7,8,9,10,11,12,13,14,15,16,17],[0,1]),([18,17,0,1,2,3,4,5,6,7,8,9,10,11,12,13,14,15,16,17],[17,18])])
def bx.UA:List Nat:=[0,0,0,0,12,28,0,0,0,384,960,1984,0,0,12288,28672,65472,131068,262143,524287]
theorem bx.ae2:fh .any (opsOf Try.f136 33)=bx.Of:=by kernel_rfl
theorem bx.Xo:kN bx.Of.2 bx.UA=true:=by kernel_rfl
set_option maxHeartbeats 8000000 in
set_option maxRecDepth 100000 in
theorem bx.calls (k : Nat) (A0 : Option Addr) (c0 : Nat) (l0 : List (List Int)) (r : List Int) (w : World) (cL : Kd.C (Kd.slice 2 (Kd.int .i64)) w A0 l0.length l0) (hc0 : l0.length ≤ c0) (h : bx.f k l0 = some r) :
  Calls Try.prog 136 #[.slice A0 l0.length c0] w fun e w'=>∃ dw:Value,e=.returned (dw)∧Kd.R (Kd.int .i64) 2 w' w.heap.size (fun _=>True) dw r∧Below w.heap.size w w':=by
 have dh:=k0 cL
 have fI:=k0 hc0
 clear cL hc0
 have HB:=k0 (Below.refl w.heap.size w)
 have H:(bx.l0 k l0 (([1]:List Int)) 0)=some r:=h
 clear h
 obtain ⟨iH,jh⟩:∃ y_:List Int,y_=(([1]:List Int)):=⟨_,rfl⟩
 replace H:(bx.l0 k l0 iH 0)=some r:=rH jh H
 have kW:=k0 jh
 clear jh
 have H':=k0 H
 clear H
 go_enter Try.func136,Try.ntmps136
 go_wp2_with (first|((with_reducible refine bN (N:=17) rfl ?_);refine Kd.jd (Kd.int .i64) _ 2 ?hg (N:=17) ?hd (xs:=([1]:List Int)) (inner:=[.int .i64 1]) (ok:=fun _=>True) (anX:=fun _=>True) ?hr ?hp (fun _ hk=>hk) trivial (Below.refl _ _) (Nat.le_refl _) (by simp) ?_;(case hd=>rfl);(case hg=>rfl);(case hr=>first|(go_simp;done)|(go_simp;rfl));(case hp=>exact (bu.one (show Kd.M (Kd.int .i64) _ _ _ 1 [.int .i64 1] from rfl) (bu.none _ _)));intro aoK w2 og hb c_ dc;clear c_ dc;(first|rw [← kW.z] at og|(simp only [Int.reduceToNat] at og;rw [← kW.z] at og));have jQ:=k0 (Kd.cH og (anG bl));replace HB:=k0 (anH bl hb);clear hb og))
 go_loopg [3,4] k (fun kq v3 v4 w'=>∃ (anO:List Int) (bD:Int),v4=.int .i64 bD∧ak (bx.l0 kq l0 anO bD=some r)∧ak (kq≤k)∧ak (Kd.R (Kd.int .i64) 2 w' w.heap.size (fun _=>True) v3 anO)∧ak (Below w.heap.size w w'))
 case atStart=>exact ⟨(iH),(0),rs,H',⟨Nat.le_refl _⟩,⟨aR (jQ.z)⟩,⟨bl⟩⟩
 case round =>
  clear H'
  obtain ⟨anO,bD,rfl,HA,bH,bh,HB⟩:=hrel
  cases gk with
  | zero=>exact absurd HA.z (by simp [bx.l0])
  | succ k1 =>
   have H:=HA.z
   clear HA
   simp only [bx.l0] at H
   by_cases c4:bD < (l0.length:Int)
   case neg =>
    rw [if_neg c4] at H
    have gT:decide (bD < (l0.length:Int))=false:=decide_eq_false c4
    clear c4
    replace H:=Option.bind_eq_some_iff.mp H
    obtain ⟨t104,My,H⟩:=H
    replace H:(some t104)=some r:=H
    have Uq:=k0 My
    clear My
    obtain rfl:=Option.some.inj H
    obtain ⟨Uv,YG,ZF⟩:=Kd.cK bh.z
    subst ZF
    go_wp2_with (first|((with_reducible refine bS (f:=160) rfl ?_);refine gC (some 144) Try.func160 #[.slice Uv anO.length YG] ?_;(with_reducible refine (aog.calls k1 _ _ anO t104 _ ?aA ?anD Uq.z).mono ?_);(case aA=>exact aC ((Kd.anT bh.z).2.2));(case anD=>exact (Kd.anT bh.z).2.1);rintro e w65 ⟨v105,rfl,aq,hb⟩;refine ⟨_,rfl,?_⟩;have kS:=k0 (Kd.cH (Kd.cR aq (Kd.bK (aR bh.z))) (anG bl));replace bh:=k0 (Kd.cQ (aR bh.z) (Kd.aU aq) hb);replace HB:=k0 (anH bl hb);))
    go_ret
    exact ⟨_,eR,by (with_reducible repeat (first|apply Kd.b_|apply Kd.bZ|apply Kd.bP));exact Kd.aT kS.z (fun _ hk=>trivial),bl⟩
   rw [if_pos c4] at H
   have gT:=decide_eq_true c4
   clear c4
   replace H:=iS H;obtain ⟨c5,H⟩:=H
   have aoo:=decide_eq_true c5
   clear c5
   replace H:=iS H;obtain ⟨c6,H⟩:=H
   have iD:=decide_eq_true c6
   clear c6
   obtain ⟨Bb,Kl⟩:∃ y_:List Int,y_=(([1,wrap64 (-(rd (ai l0 bD) bD))]:List Int)):=⟨_,rfl⟩
   replace H:(bx.l1 k1 l0 anO bD Bb (([]:List Int)) 0)=some r:=rH Kl H
   have NS:=k0 Kl
   clear Kl
   obtain ⟨iA,sI⟩:∃ y_:List Int,y_=(([]:List Int)):=⟨_,rfl⟩
   replace H:(bx.l1 k1 l0 anO bD Bb iA 0)=some r:=rH sI H
   have vO:=k0 sI
   clear sI
   have H':=k0 H
   clear H
   have jM:0≤(bD:Int):=oD
   have jN:bD < (l0.length:Int):=oD
   obtain ⟨lR,zo,xD,e107,jL,qh,qf⟩:=fu dh.z bD jM jN
   cases e107
   replace jL:=hbc HB jL
   have q8:=k0 qf
   have Bx:=k0 qh
   clear qf qh
   replace jM:=eq_true jM
   replace jN:=eq_true jN
   have kJ:0≤(bD:Int):=oD
   have kK:bD < ((ai l0 bD).length:Int):=oD
   obtain ⟨uo,e108,ku⟩:=Kd.cm q8.z bD kJ kK
   cases e108
   replace ku:=hbc HB ku
   replace kJ:=eq_true kJ
   replace kK:=eq_true kK
   go_wp2_with (first|((with_reducible refine bN (N:=32) rfl ?_);refine Kd.jd (Kd.int .i64) _ 2 ?hg (N:=32) ?hd (xs:=([1,wrap64 (-(rd (ai l0 bD) bD))]:List Int)) (inner:=[.int .i64 1,.int .i64 (wrap64 (-(rd (ai l0 bD) bD)))]) (ok:=fun _=>True) (anX:=fun _=>True) ?hr ?hp (fun _ hk=>hk) trivial (Below.refl _ _) (Nat.le_refl _) (by simp) ?_;(case hd=>rfl);(case hg=>rfl);(case hr=>first|(go_simp;done)|(go_simp;rfl));(case hp=>exact (bu.one (show Kd.M (Kd.int .i64) _ _ _ 1 [.int .i64 1] from rfl) (bu.one (show Kd.M (Kd.int .i64) _ _ _ (wrap64 (-(rd (ai l0 bD) bD))) [.int .i64 (wrap64 (-(rd (ai l0 bD) bD)))] from rfl) (bu.none _ _))));intro zc w7 mU hb c_ dc;clear c_ dc;(first|rw [← NS.z] at mU|(simp only [Int.reduceToNat] at mU;rw [← NS.z] at mU));have qz:=k0 (Kd.cH (Kd.cR mU (Kd.bK (aR bh.z))) (anG bl));replace bh:=k0 (Kd.cQ (aR bh.z) (Kd.aU mU) hb);replace HB:=k0 (anH bl hb);clear hb mU)|((with_reducible refine bN (N:=33) rfl ?_);refine Kd.jd (Kd.int .i64) _ 2 ?hg (N:=33) ?hd (xs:=([]:List Int)) (inner:=[]) (ok:=fun _=>True) (anX:=fun _=>True) ?hr ?hp (fun _ hk=>hk) trivial (Below.refl _ _) (Nat.le_refl _) (by simp) ?_;(case hd=>rfl);(case hg=>rfl);(case hr=>first|(go_simp;done)|(go_simp;rfl));(case hp=>exact (bu.none _ _));intro Tz w9 x_ hb c_ dc;clear c_ dc;(first|rw [← vO.z] at x_|(simp only [Int.reduceToNat] at x_;rw [← vO.z] at x_));have ud:=k0 (Kd.cH (Kd.cR (Kd.cR x_ (Kd.bK (aR bh.z))) (Kd.bK (aR qz.z))) (anG bl));replace bh:=k0 (Kd.cQ (aR bh.z) (Kd.aU x_) hb);replace qz:=k0 (Kd.cQ (aR qz.z) (Kd.aU x_) hb);replace HB:=k0 (anH bl hb);clear hb x_))
   go_loopg [6,7] k1 (fun kq v6 v7 w'=>∃ (dF:List Int) (eC:Int),v7=.int .i64 eC∧ak (bx.l1 kq l0 anO bD Bb dF eC=some r)∧ak (kq≤k1)∧ak (Kd.R (Kd.int .i64) 2 w' w.heap.size (fun k_=>some k_ ≠ (zc:Value).ownBlock∧some k_ ≠ (v6:Value).ownBlock) u3 anO)∧ak (Kd.R (Kd.int .i64) 2 w' w.heap.size (fun k_=>some k_ ≠ (u3:Value).ownBlock∧some k_ ≠ (v6:Value).ownBlock) zc Bb)∧ak (Kd.R (Kd.int .i64) 2 w' w.heap.size (fun k_=>some k_ ≠ (u3:Value).ownBlock∧some k_ ≠ (zc:Value).ownBlock) v6 dF)∧ak (Below w.heap.size w w'))
   case atStart=>exact ⟨(iA),(0),rs,H',⟨Nat.le_refl _⟩,⟨aR (Kd.aT bh.z (fun _ hk=>⟨hk.1.2,hk.2⟩))⟩,⟨aR (Kd.aT qz.z (fun _ hk=>⟨hk.1.2,hk.2⟩))⟩,⟨aR (Kd.aT ud.z (fun _ hk=>⟨hk.1.2,hk.2⟩))⟩,⟨bl⟩⟩
   case round =>
    clear H'
    obtain ⟨dF,eC,rfl,HA,eo,bh,bY,cG,HB⟩:=hrel
    cases gk with
    | zero=>exact absurd HA.z (by simp [bx.l1])
    | succ k2 =>
     have H:=HA.z
     clear HA
     simp only [bx.l1] at H
     by_cases c11:eC < bD
     case neg =>
      rw [if_neg c11] at H
      have lS:decide (eC < bD)=false:=decide_eq_false c11
      clear c11
      have H':=k0 H
      clear H
      go_wp2
      go_loopg [5,6,8] k2 (fun kq v5 v6 v8 w'=>∃ (dL:List Int) (kO:List Int) (aoY:Int),v8=.int .i64 aoY∧ak (bx.l2 kq l0 anO bD dL kO aoY=some r)∧ak (kq≤k2)∧ak (Kd.R (Kd.int .i64) 2 w' w.heap.size (fun k_=>some k_ ≠ (v5:Value).ownBlock∧some k_ ≠ (v6:Value).ownBlock) u3 anO)∧ak (Kd.R (Kd.int .i64) 2 w' w.heap.size (fun k_=>some k_ ≠ (u3:Value).ownBlock∧some k_ ≠ (v6:Value).ownBlock) v5 dL)∧ak (Kd.R (Kd.int .i64) 2 w' w.heap.size (fun k_=>some k_ ≠ (u3:Value).ownBlock∧some k_ ≠ (v5:Value).ownBlock) v6 kO)∧ak (Below w.heap.size w w'))
      case atStart=>exact ⟨(Bb),(dF),(0),rs,H',⟨Nat.le_refl _⟩,⟨aR (bh.z)⟩,⟨aR (bY.z)⟩,⟨aR (cG.z)⟩,⟨bl⟩⟩
      case round =>
       clear H'
       obtain ⟨dL,kO,aoY,rfl,HA,iK,bh,bY,cG,HB⟩:=hrel
       cases gk with
       | zero=>exact absurd HA.z (by simp [bx.l2])
       | succ k3 =>
        have H:=HA.z
        clear HA
        simp only [bx.l2] at H
        by_cases c18:aoY < bD
        case neg =>
         rw [if_neg c18] at H
         have Af:decide (aoY < bD)=false:=decide_eq_false c18
         clear c18
         obtain ⟨yA,mQ⟩:∃ j_:Int,(wrap64 (bD+2))=j_:=⟨_,rfl⟩
         replace H:(if 0≤(yA) then (if (yA:Int).toNat≤35184372088832 then (bx.l5 k3 l0 anO bD dL (List.replicate (yA:Int).toNat 0) 0) else (none)) else (none))=some r:=by first|(rw [mQ] at H;exact H)|(simp only [mQ] at H ⊢;exact H)
         have akM:(IntKind.i64.wrap (bD+2))=yA:=(dX _).trans mQ
         replace H:=iS H;obtain ⟨c41,H⟩:=H
         have Ow:=eq_true c41
         have Ox:=decide_eq_true c41
         clear c41
         replace H:=iS H;obtain ⟨c42,H⟩:=H
         have agU:=eq_true c42
         have agV:=decide_eq_true c42
         clear c42
         obtain ⟨Ub,Ks⟩:∃ y_:List Int,y_=(List.replicate (yA:Int).toNat 0):=⟨_,rfl⟩
         replace H:(bx.l5 k3 l0 anO bD dL Ub 0)=some r:=rH Ks H
         have NV:=k0 Ks
         clear Ks
         have H':=k0 H
         clear H
         go_wp2_with (first|((with_reducible refine bN (N:=105) rfl ?_);refine Kd.H_ (Kd.int .i64) _ 2 rfl (N:=105) rfl 28 _ _ rfl yA rfl rfl Try.underlying28 (.int .i64 0) 8 aoj rfl (by decide) (by omega) 0 (ok:=fun _=>True) (anX:=fun _=>True) rfl (fun _ hk=>hk) trivial oD (Nat.le_trans (Nat.mul_le_mul_right _ (oD:yA.toNat≤35184372088832)) (by omega)) (Below.refl _ _) (Nat.le_refl _) ?_;intro aov w43 pE hb c_ dc;clear c_ dc;(first|rw [← NV.z] at pE|(simp only [Int.reduceToNat] at pE;rw [← NV.z] at pE));have jH:=k0 (Kd.cH (Kd.cR (Kd.cR (Kd.cR pE (Kd.bK (aR bh.z))) (Kd.bK (aR bY.z))) (Kd.bK (aR cG.z))) (anG bl));replace bh:=k0 (Kd.cQ (aR bh.z) (Kd.aU pE) hb);replace bY:=k0 (Kd.cQ (aR bY.z) (Kd.aU pE) hb);replace cG:=k0 (Kd.cQ (aR cG.z) (Kd.aU pE) hb);replace HB:=k0 (anH bl hb);clear hb pE))
         go_loopg [15] k3 (fun kq v15 w'=>∃ (tU:List Int) (i_:Int),v15=.int .i64 i_∧ak (bx.l5 kq l0 anO bD dL tU i_=some r)∧ak (kq≤k3)∧ak (Kd.R (Kd.int .i64) 2 w' w.heap.size (fun k_=>some k_ ≠ (u5:Value).ownBlock∧some k_ ≠ (aov:Value).ownBlock) u3 anO)∧ak (Kd.R (Kd.int .i64) 2 w' w.heap.size (fun k_=>some k_ ≠ (u3:Value).ownBlock∧some k_ ≠ (aov:Value).ownBlock) u5 dL)∧ak (Kd.R (Kd.int .i64) 2 w' w.heap.size (fun k_=>some k_ ≠ (u3:Value).ownBlock∧some k_ ≠ (u5:Value).ownBlock) aov tU)∧ak (Below w.heap.size w w'))
         case atStart=>exact ⟨(Ub),(0),rs,H',⟨Nat.le_refl _⟩,⟨aR (Kd.aT bh.z (fun _ hk=>⟨hk.1.1,hk.2⟩))⟩,⟨aR (Kd.aT bY.z (fun _ hk=>⟨hk.1.1,hk.2⟩))⟩,⟨aR (Kd.aT jH.z (fun _ hk=>⟨hk.1.1.2,hk.1.2⟩))⟩,⟨bl⟩⟩
         case round =>
          clear H'
          obtain ⟨tU,i_,rfl,HA,oV,bh,bY,an5,HB⟩:=hrel
          cases gk with
          | zero=>exact absurd HA.z (by simp [bx.l5])
          | succ k4 =>
           have H:=HA.z
           clear HA
           simp only [bx.l5] at H
           by_cases c45:i_ < (tU.length:Int)
           case neg =>
            rw [if_neg c45] at H
            have XZ:decide (i_ < (tU.length:Int))=false:=decide_eq_false c45
            clear c45
            have H':=k0 H
            clear H
            obtain ⟨t_,uB,E7⟩:=Kd.cK an5.z
            subst E7
            go_wp2
            first|go_roundg k4|(simp only [← mQ];go_roundg k4)|(simp only [← mR];go_roundg k4)
            case measure=>have:=bH.z;have:=eo.z;have:=iK.z;have:=oV.z;omega
            case rel=>exact ⟨(tU),(wrap64 (bD+1)),rs,(by first|exact H'|(rw [mQ];exact H')|(rw [mR];exact H')),⟨by have:=bH.z;have:=eo.z;have:=iK.z;have:=oV.z;omega⟩,⟨aR (Kd.aT an5.z (fun _ hk=>trivial))⟩,⟨bl⟩⟩
           rw [if_pos c45] at H
           have XZ:=decide_eq_true c45
           clear c45
           have H':=k0 H
           clear H
           obtain ⟨d_,dQ,uC⟩:=Kd.cK an5.z
           subst uC
           go_wp2
           go_loopg [16] k4 (fun kq v16 w'=>∃ (pT:List Int) (ld:Int),v16=.int .i64 ld∧ak (bx.l6 kq l0 anO bD dL pT i_ ld=some r)∧ak (kq≤k4)∧ak (Kd.R (Kd.int .i64) 2 w' w.heap.size (fun k_=>some k_ ≠ (u5:Value).ownBlock∧some k_ ≠ ((.slice d_ tU.length dQ):Value).ownBlock) u3 anO)∧ak (Kd.R (Kd.int .i64) 2 w' w.heap.size (fun k_=>some k_ ≠ (u3:Value).ownBlock∧some k_ ≠ ((.slice d_ tU.length dQ):Value).ownBlock) u5 dL)∧ak (Kd.R (Kd.int .i64) 2 w' w.heap.size (fun k_=>some k_ ≠ (u3:Value).ownBlock∧some k_ ≠ (u5:Value).ownBlock) (.slice d_ tU.length dQ) pT)∧ak (Below w.heap.size w w'))
           case atStart=>exact ⟨(tU),(0),rs,H',⟨Nat.le_refl _⟩,⟨aR (bh.z)⟩,⟨aR (bY.z)⟩,⟨aR (an5.z)⟩,⟨bl⟩⟩
           case round =>
            clear H'
            obtain ⟨pT,ld,rfl,HA,ni,bh,bY,an5,HB⟩:=hrel
            have mq:=(Kd.anT an5.z).1
            rw [mq] at an5
            (try simp only [mq])
            (try simp only [mq] at bh)
            (try simp only [mq] at bY)
            cases gk with
            | zero=>exact absurd HA.z (by simp [bx.l6])
            | succ k5 =>
             have H:=HA.z
             clear HA
             simp only [bx.l6] at H
             by_cases c47:ld < (anO.length:Int)
             case neg =>
              rw [if_neg c47] at H
              have IF:decide (ld < (anO.length:Int))=false:=decide_eq_false c47
              (try simp only [mq] at IF)
              clear c47
              have H':=k0 H
              clear H
              obtain ⟨af3,ahP,ZD⟩:=Kd.cK bh.z
              subst ZD
              go_wp2
              (try simp only [← mq])
              first|go_roundg k5|(simp only [← mQ];go_roundg k5)|(simp only [← mR];go_roundg k5)
              case measure=>have:=bH.z;have:=eo.z;have:=iK.z;have:=oV.z;have:=ni.z;omega
              case rel=>exact ⟨(pT),(wrap64 (i_+1)),rs,(by first|exact H'|(rw [mQ];exact H')|(rw [mR];exact H')),⟨by have:=bH.z;have:=eo.z;have:=iK.z;have:=oV.z;have:=ni.z;omega⟩,⟨by (try simp only [mq]);(with_reducible repeat (first|apply Kd.b_|apply Kd.bZ|apply Kd.bP));exact bh.z⟩,⟨by (try simp only [mq]);(with_reducible repeat (first|apply Kd.b_|apply Kd.bZ|apply Kd.bP));exact bY.z⟩,⟨by (try simp only [mq]);(with_reducible repeat (first|apply Kd.b_|apply Kd.bZ|apply Kd.bP));exact an5.z⟩,⟨bl⟩⟩
             rw [if_pos c47] at H
             have IF:=decide_eq_true c47
             (try simp only [mq] at IF)
             clear c47
             by_cases c48:ld≤i_
             case neg =>
              rw [if_neg c48] at H
              have X0:decide (ld≤i_)=false:=decide_eq_false c48
              clear c48
              have H':=k0 H
              clear H
              obtain ⟨af2,ahO,ZC⟩:=Kd.cK bh.z
              subst ZC
              go_wp2
              (try simp only [← mq])
              first|go_roundg k5|(simp only [← mQ];go_roundg k5)|(simp only [← mR];go_roundg k5)
              case measure=>have:=bH.z;have:=eo.z;have:=iK.z;have:=oV.z;have:=ni.z;omega
              case rel=>exact ⟨(pT),(wrap64 (i_+1)),rs,(by first|exact H'|(rw [mQ];exact H')|(rw [mR];exact H')),⟨by have:=bH.z;have:=eo.z;have:=iK.z;have:=oV.z;have:=ni.z;omega⟩,⟨by (try simp only [mq]);(with_reducible repeat (first|apply Kd.b_|apply Kd.bZ|apply Kd.bP));exact bh.z⟩,⟨by (try simp only [mq]);(with_reducible repeat (first|apply Kd.b_|apply Kd.bZ|apply Kd.bP));exact bY.z⟩,⟨by (try simp only [mq]);(with_reducible repeat (first|apply Kd.b_|apply Kd.bZ|apply Kd.bP));exact an5.z⟩,⟨bl⟩⟩
             rw [if_pos c48] at H
             have X0:=decide_eq_true c48
             clear c48
             replace H:=iS H;obtain ⟨c49,H⟩:=H
             have agY:=decide_eq_true c49
             clear c49
             replace H:=iS H;obtain ⟨c50,H⟩:=H
             have xH:=decide_eq_true c50
             (try simp only [mq] at xH)
             clear c50
             obtain ⟨qJ,mR⟩:∃ j_:Int,(wrap64 (i_ - ld))=j_:=⟨_,rfl⟩
             replace H:(if 0≤(qJ) then (if (qJ) < (dL.length:Int) then (if 0≤ld then (bx.l6 k5 l0 anO bD dL (pT.set (i_:Int).toNat (wrap64 ((rd pT i_)+(wrap64 ((rd dL (qJ)) * (rd anO ld)))))) i_ (wrap64 (ld+1))) else (none)) else (none)) else (none))=some r:=by first|(rw [mR] at H;exact H)|(simp only [mR] at H ⊢;exact H)
             have akN:(IntKind.i64.wrap (i_ - ld))=qJ:=(dX _).trans mR
             replace H:=iS H;obtain ⟨c52,H⟩:=H
             have Aj:=decide_eq_true c52
             clear c52
             replace H:=iS H;obtain ⟨c53,H⟩:=H
             have X2:=decide_eq_true c53
             (try simp only [mq] at X2)
             clear c53
             replace H:=iS H;obtain ⟨c54,H⟩:=H
             have agZ:=decide_eq_true c54
             clear c54
             obtain ⟨zn,yu⟩:∃ y_:List Int,y_=(pT.set (i_:Int).toNat (wrap64 ((rd pT i_)+(wrap64 ((rd dL (qJ)) * (rd anO ld)))))):=⟨_,rfl⟩
             replace H:(bx.l6 k5 l0 anO bD dL zn i_ (wrap64 (ld+1)))=some r:=rH yu H
             have ap5:=k0 yu
             clear yu
             have H':=k0 H
             clear H
             obtain ⟨Ut,YE,I4⟩:=Kd.cK bh.z
             subst I4
             try go_wp2
             replace bh:=k0 (Kd.bP bh.z);replace bY:=k0 (Kd.bP bY.z);replace an5:=k0 (Kd.bP an5.z);replace HB:=k0 (anS HB.z)
             have K3:0≤(i_:Int):=oD
             have Lj:i_ < (pT.length:Int):=oD
             obtain ⟨agE,e138,Kf⟩:=Kd.cm (Kd.anT an5.z).2.2 i_ K3 Lj
             cases e138
             replace K3:=eq_true K3
             replace Lj:=eq_true Lj
             obtain ⟨MO,IP,xN⟩:=Kd.cK bY.z
             (first|subst xN|(injection xN with ig aoq ij;have aor:=ig.symm;have aos:=ij.symm;clear ig aoq ij;subst aor;subst aos))
             have K4:0≤((qJ):Int):=oD
             have Ll:(qJ) < (dL.length:Int):=oD
             obtain ⟨WY,e139,Sh⟩:=Kd.cm (Kd.anT bY.z).2.2 (qJ) K4 Ll
             cases e139
             replace K4:=eq_true K4
             replace Ll:=eq_true Ll
             have K5:0≤(ld:Int):=oD
             have Lm:ld < (anO.length:Int):=oD
             obtain ⟨WZ,e140,Si⟩:=Kd.cm (Kd.anT bh.z).2.2 ld K5 Lm
             cases e140
             replace K5:=eq_true K5
             replace Lm:=eq_true Lm
             have K_:0≤(i_:Int):=oD
             have Lu:(i_:Int) < ((pT.length:Int):Int):=oD
             obtain ⟨CA,sg,Ax,PB,Z2,ahr,Nh⟩:=Kd.vR an5.z (by omega)
             (first|cases Ax|(injection Ax with dH jB jA;(first|subst dH|(injection dH with dH;subst dH));subst jA;clear jB))
             have af_:=k0 PB
             have U1:=k0 Nh
             clear PB Z2 Nh
             (first|simp only [add_plain] at Kf|skip)
             obtain ⟨acH,abe⟩:=Kd.um 0 an5.z (i_:Int) K_ Lu
             replace K_:=eq_true K_
             replace Lu:=eq_true Lu
             have Hv:=Kd.Wz an5.z (i_:Int) (wrap64 ((rd pT i_)+(wrap64 ((rd dL (qJ)) * (rd anO ld)))))
             rw [← ap5.z] at Hv
             have NC:=k0 Hv
             clear Hv
             refine oO (n:=20) (S:=fun w'=>w'.cell? ⟨CA,(i_).toNat,none⟩=some (.int .i64 (rd pT i_))∧w'.cell? (WY.add ((qJ)).toNat)=some (.int .i64 (rd dL (qJ)))∧w'.cell? (WZ.add (ld).toNat)=some (.int .i64 (rd anO ld))) (ds:=[19]) (ba 20 0) (by kernel_rfl) rfl rfl ⟨Kf,Sh,Si⟩ (fun hHeld=>?_);refine qt bx.ae2 bx.Xo (fun anM eE=>?_)
             generalize wr.drew=aqa at bh bY an5 HB U1 NC abe Kf Sh Si acH hHeld ⊢
             refine pu 0 (some 123) (ba 20 1) anM (h:=?_)
             refine pu 1 (some 124) (ba 20 3) anM (h:=?_)
             refine pu 2 (some 125) (ba 20 7) anM (h:=?_)
             refine pu 3 (some 126) (ba 20 15) anM (h:=?_)
             refine pu 4 (some 127) (ba 20 31) anM (h:=?_)
             refine pu 6 (some 129) (ba 20 95) anM (h:=?_)
             refine pu 7 (some 130) (ba 20 223) anM (h:=?_)
             refine pu 8 (some 131) (ba 20 479) anM (h:=?_)
             refine pu 9 (some 132) (ba 20 991) anM (h:=?_)
             refine pu 10 (some 133) (ba 20 2015) anM (h:=?_)
             refine pu 12 (some 135) (ba 20 6111) anM (h:=?_)
             refine pu 13 (some 136) (ba 20 14303) anM (h:=?_)
             refine pu 14 (some 137) (ba 20 30687) anM (h:=?_)
             refine ta 5 (some 128) (ba 20 30719) anM eE hHeld (hy:=Or.inl ⟨by rfl,by rintro w' ⟨s0,s1,s2⟩;go_simp;with_reducible rfl⟩) (h:=?_)
             refine ta 11 (some 134) (ba 20 32767) anM eE hHeld (hy:=Or.inl ⟨by rfl,by rintro w' ⟨s0,s1,s2⟩;go_simp;with_reducible rfl⟩) (h:=?_)
             refine ta 15 (some 138) (ba 20 65535) anM eE hHeld (hy:=Or.inl ⟨by rfl,by rintro w' ⟨s0,s1,s2⟩;go_simp;with_reducible rfl⟩) (h:=?_)
             refine pu 16 (some 139) (ba 20 131071) anM (h:=?_)
             refine pu 17 (some 140) (ba 20 262143) anM (h:=?_)
             refine pu 18 (some 141) (ba 20 524287) anM (h:=?_)
             refine rC (i:=19) (N:=none) (ba 20 1048575) rfl rfl (j7 anM.out (by kernel_rfl)) (by decide) (fun K hK=>?_)
             refine sZ (w1:=?_) (by rfl) rfl ?_ ?_
             rotate_left;· go_simp;rfl
             refine hK.out _ _ ?_
             clear hK K
             refine o_ (qF anM.out (by kernel_rfl)) ?_
             try go_wp2
             (try simp only [← mq])
             first|go_roundg k5|(simp only [← mQ];go_roundg k5)|(simp only [← mR];go_roundg k5)
             case measure=>have:=bH.z;have:=eo.z;have:=iK.z;have:=oV.z;have:=ni.z;omega
             case rel=>exact ⟨(zn),(wrap64 (ld+1)),rs,(by first|exact H'|(rw [mQ];exact H')|(rw [mR];exact H')),⟨by have:=bH.z;have:=eo.z;have:=iK.z;have:=oV.z;have:=ni.z;omega⟩,⟨by (try simp only [mq]);(with_reducible repeat (first|apply Kd.b_|apply Kd.bZ|apply Kd.bP));exact Kd.aT (Kd.vQ (p:=⟨CA,(i_:Int).toNat,none⟩) (Kd.aT bh.z (fun k_ hk=>(⟨hk,fun e_=>hk.2 (by rw [e_];rfl)⟩:_∧k_ ≠ CA))) (fun _ hk=>hk.2) (.int .i64 (wrap64 ((rd pT i_)+(wrap64 ((rd dL (qJ)) * (rd anO ld))))))) (fun _ hk=>⟨hk.1.1,hk.1.2⟩)⟩,⟨by (try simp only [mq]);(with_reducible repeat (first|apply Kd.b_|apply Kd.bZ|apply Kd.bP));exact Kd.aT (Kd.vQ (p:=⟨CA,(i_:Int).toNat,none⟩) (Kd.aT bY.z (fun k_ hk=>(⟨hk,fun e_=>hk.2 (by rw [e_];rfl)⟩:_∧k_ ≠ CA))) (fun _ hk=>hk.2) (.int .i64 (wrap64 ((rd pT i_)+(wrap64 ((rd dL (qJ)) * (rd anO ld))))))) (fun _ hk=>⟨hk.1.1,hk.1.2⟩)⟩,⟨by (try simp only [mq]);(with_reducible repeat (first|apply Kd.b_|apply Kd.bZ|apply Kd.bP));exact NC.out⟩,⟨aL HB.z⟩⟩
        rw [if_pos c18] at H
        have Af:=decide_eq_true c18
        clear c18
        obtain ⟨D7,yo⟩:∃ y_:List Int,y_=(([]:List Int)):=⟨_,rfl⟩
        replace H:(bx.l3 k3 l0 anO bD dL kO aoY 0 D7 0)=some r:=rH yo H
        have EH:=k0 yo
        clear yo
        have H':=k0 H
        clear H
        go_wp2_with (first|((with_reducible refine bN (N:=54) rfl ?_);refine Kd.jd (Kd.int .i64) _ 2 ?hg (N:=54) ?hd (xs:=([]:List Int)) (inner:=[]) (ok:=fun _=>True) (anX:=fun _=>True) ?hr ?hp (fun _ hk=>hk) trivial (Below.refl _ _) (Nat.le_refl _) (by simp) ?_;(case hd=>rfl);(case hg=>rfl);(case hr=>first|(go_simp;done)|(go_simp;rfl));(case hp=>exact (bu.none _ _));intro ana LU wu hb c_ dc;clear c_ dc;(first|rw [← EH.z] at wu|(simp only [Int.reduceToNat] at wu;rw [← EH.z] at wu));have Vq:=k0 (Kd.cH (Kd.cR (Kd.cR (Kd.cR wu (Kd.bK (aR bh.z))) (Kd.bK (aR bY.z))) (Kd.bK (aR cG.z))) (anG bl));replace bh:=k0 (Kd.cQ (aR bh.z) (Kd.aU wu) hb);replace bY:=k0 (Kd.cQ (aR bY.z) (Kd.aU wu) hb);replace cG:=k0 (Kd.cQ (aR cG.z) (Kd.aU wu) hb);replace HB:=k0 (anH bl hb);clear hb wu))
        go_loopg [9,10,11] k3 (fun kq v9 v10 v11 w'=>∃ (vp:Int) (vn:List Int) (iZ:Int),v9=.int .i64 vp∧v11=.int .i64 iZ∧ak (bx.l3 kq l0 anO bD dL kO aoY vp vn iZ=some r)∧ak (kq≤k3)∧ak (Kd.R (Kd.int .i64) 2 w' w.heap.size (fun k_=>some k_ ≠ (u5:Value).ownBlock∧some k_ ≠ (u6:Value).ownBlock∧some k_ ≠ (v10:Value).ownBlock) u3 anO)∧ak (Kd.R (Kd.int .i64) 2 w' w.heap.size (fun k_=>some k_ ≠ (u3:Value).ownBlock∧some k_ ≠ (u6:Value).ownBlock∧some k_ ≠ (v10:Value).ownBlock) u5 dL)∧ak (Kd.R (Kd.int .i64) 2 w' w.heap.size (fun k_=>some k_ ≠ (u3:Value).ownBlock∧some k_ ≠ (u5:Value).ownBlock∧some k_ ≠ (v10:Value).ownBlock) u6 kO)∧ak (Kd.R (Kd.int .i64) 2 w' w.heap.size (fun k_=>some k_ ≠ (u3:Value).ownBlock∧some k_ ≠ (u5:Value).ownBlock∧some k_ ≠ (u6:Value).ownBlock) v10 vn)∧ak (Below w.heap.size w w'))
        case atStart=>exact ⟨(0),(D7),(0),rs,rs,H',⟨Nat.le_refl _⟩,⟨aR (Kd.aT bh.z (fun _ hk=>⟨hk.1.1,⟨hk.1.2,hk.2⟩⟩))⟩,⟨aR (Kd.aT bY.z (fun _ hk=>⟨hk.1.1,⟨hk.1.2,hk.2⟩⟩))⟩,⟨aR (Kd.aT cG.z (fun _ hk=>⟨hk.1.1,⟨hk.1.2,hk.2⟩⟩))⟩,⟨aR (Kd.aT Vq.z (fun _ hk=>⟨hk.1.1.2,⟨hk.1.2,hk.2⟩⟩))⟩,⟨bl⟩⟩
        case round =>
         clear H'
         obtain ⟨vp,vn,iZ,rfl,rfl,HA,oV,bh,bY,cG,ox,HB⟩:=hrel
         cases gk with
         | zero=>exact absurd HA.z (by simp [bx.l3])
         | succ k4 =>
          have H:=HA.z
          clear HA
          simp only [bx.l3] at H
          by_cases c21:iZ < bD
          case neg =>
           rw [if_neg c21] at H
           have Ag:decide (iZ < bD)=false:=decide_eq_false c21
           clear c21
           replace H:=iS H;obtain ⟨c38,H⟩:=H
           have V0:=k0 c38
           clear c38
           obtain ⟨s6,sM⟩:∃ y_:List Int,y_=(dL ++ [wrap64 (-vp)]):=⟨_,rfl⟩
           replace H:(bx.l2 k4 l0 anO bD s6 vn (wrap64 (aoY+1)))=some r:=rH sM H
           have zY:=k0 sM
           clear sM
           have H':=k0 H
           clear H
           go_wp2_with (first|((with_reducible refine aoi (b:=.append) (xs:=#[.tmp 97,.tmp 100]) rfl ?_);at_builtin;refine Kd.qB (Kd.int .i64) (w0:=w) w.heap.size rfl (.tmp 97) (.tmp 100) 28 2 (.int .i64 0) 8 rfl Try.underlying28 aoj rfl (by decide) (by omega) u5 dL (wrap64 (-vp)) [.int .i64 (wrap64 (-vp))] (fun k_=>some k_ ≠ (u3:Value).ownBlock∧some k_ ≠ (u6:Value).ownBlock∧some k_ ≠ (u10:Value).ownBlock) (fun _=>False) rfl rfl ?aP (fun _ hk=>hk.elim) ?aF ?aO ?aB ?aS ?aL ?_;(case aP=>exact rfl);(case aB=>exact bl);(case aF=>exact (fun k_ hk=>⟨Kd.fresh' (Kd.bK (aR bh.z)) k_ hk,Kd.fresh' (Kd.bK (aR cG.z)) k_ hk,Kd.fresh' (Kd.bK (aR ox.z)) k_ hk⟩));(case aO=>exact (aR bY.z));(case aS=>exact (anG bl));(case aL=>have:=V0.out;omega);intro v124 w39 ho hb hg bz;rw [← zY.z] at ho;have av:=k0 (Kd.lz (ok:=(fun k_=>some k_ ≠ (u6:Value).ownBlock∧some k_ ≠ (u10:Value).ownBlock)) (by (with_reducible repeat (first|apply Kd.b_|apply Kd.bZ|apply Kd.bP));exact Kd.aT bh.z (fun _ hk=>⟨⟨hk.2.1,hk.2.2⟩,hk.1⟩)) hg bz);have ax:=k0 (Kd.lz (ok:=(fun k_=>some k_ ≠ (u3:Value).ownBlock∧some k_ ≠ (u10:Value).ownBlock)) (by (with_reducible repeat (first|apply Kd.b_|apply Kd.bZ|apply Kd.bP));exact Kd.aT cG.z (fun _ hk=>⟨⟨hk.1,hk.2.2⟩,hk.2.1⟩)) hg bz);have ay:=k0 (Kd.lz (ok:=(fun k_=>some k_ ≠ (u3:Value).ownBlock∧some k_ ≠ (u6:Value).ownBlock)) (by (with_reducible repeat (first|apply Kd.b_|apply Kd.bZ|apply Kd.bP));exact Kd.aT ox.z (fun _ hk=>⟨⟨hk.1,hk.2.2⟩,hk.2.1⟩)) hg bz);have anC:=k0 (hb);have aD:=k0 (ho);clear bh;clear cG;clear ox;clear HB;clear bY;have bh:=av;have cG:=ax;have ox:=ay;have HB:=anC;have jw:=aD;clear av ax ay anC aD;clear ho hb hg bz))
           first|go_roundg k4|(simp only [← mQ];go_roundg k4)|(simp only [← mR];go_roundg k4)
           case measure=>have:=bH.z;have:=eo.z;have:=iK.z;have:=oV.z;omega
           case rel=>exact ⟨(s6),(vn),(wrap64 (aoY+1)),rs,(by first|exact H'|(rw [mQ];exact H')|(rw [mR];exact H')),⟨by have:=bH.z;have:=eo.z;have:=iK.z;have:=oV.z;omega⟩,⟨aR (Kd.aT bh.z (fun _ hk=>⟨hk.2,hk.1.2⟩))⟩,⟨aR (Kd.aT jw.z (fun _ hk=>⟨hk.1,hk.2.2⟩))⟩,⟨aR (Kd.aT ox.z (fun _ hk=>⟨hk.1.1,hk.2⟩))⟩,⟨bl⟩⟩
          rw [if_pos c21] at H
          have Ag:=decide_eq_true c21
          clear c21
          replace H:=iS H;obtain ⟨c22,H⟩:=H
          have EV:=decide_eq_true c22
          clear c22
          replace H:=iS H;obtain ⟨c23,H⟩:=H
          have Ah:=decide_eq_true c23
          clear c23
          replace H:=iS H;obtain ⟨c24,H⟩:=H
          have apN:=decide_eq_true c24
          clear c24
          replace H:=iS H;obtain ⟨c25,H⟩:=H
          have EW:=decide_eq_true c25
          clear c25
          replace H:=iS H;obtain ⟨c26,H⟩:=H
          have IC:=decide_eq_true c26
          clear c26
          have H':=k0 H
          clear H
          try go_wp2
          replace bh:=k0 (Kd.bP bh.z);replace bY:=k0 (Kd.bP bY.z);replace cG:=k0 (Kd.bP cG.z);replace ox:=k0 (Kd.bP ox.z);replace HB:=k0 (anS HB.z)
          have yL:0≤(bD:Int):=oD
          have yU:bD < (l0.length:Int):=oD
          obtain ⟨Ii,afE,XF,e126,uQ,Rn,Q_⟩:=fu dh.z bD yL yU
          have acv:=uQ
          obtain rfl:lR=Ii:=(by injection e126)
          replace uQ:=hbc HB uQ
          have NH:=k0 Q_
          have agq:=k0 Rn
          clear Q_ Rn
          replace yL:=eq_true yL
          replace yU:=eq_true yU
          have KZ:0≤(iZ:Int):=oD
          have Lf:iZ < ((ai l0 bD).length:Int):=oD
          obtain ⟨Og,e127,FO⟩:=Kd.cm NH.z iZ KZ Lf
          have acw:=FO
          cases e127
          replace FO:=hbc HB FO
          replace KZ:=eq_true KZ
          replace Lf:=eq_true Lf
          obtain ⟨an2,dA,ry⟩:=Kd.cK cG.z
          (first|subst ry|(injection ry with ig aoq ij;have aor:=ig.symm;have aos:=ij.symm;clear ig aoq ij;subst aor;subst aos))
          have K0:0≤(iZ:Int):=oD
          have Lg:iZ < (kO.length:Int):=oD
          obtain ⟨tD,e128,Sf⟩:=Kd.cm (Kd.anT cG.z).2.2 iZ K0 Lg
          cases e128
          replace K0:=eq_true K0
          replace Lg:=eq_true Lg
          refine oO (n:=15) (S:=fun w'=>w'.cell? (lR.add (bD).toNat)=some (.slice (some Og) (ai l0 bD).length XF)∧w'.cell? (Og.add (iZ).toNat)=some (.int .i64 (rd (ai l0 bD) iZ))∧w'.cell? (tD.add (iZ).toNat)=some (.int .i64 (rd kO iZ))) (ds:=[]) (ba 15 0) (by kernel_rfl) rfl rfl ⟨(hbc HB acv),(hbc HB acw),Sf⟩ (fun hHeld=>?_);refine qt bx.ae0 bx.Xm (fun anM eE=>?_)
          generalize wr.drew=Gs at bh bY cG ox HB NH uQ FO Sf hHeld ⊢
          refine pu 0 (some 60) (ba 15 1) anM (h:=?_)
          refine pu 1 (some 61) (ba 15 3) anM (h:=?_)
          refine pu 2 (some 62) (ba 15 7) anM (h:=?_)
          refine pu 3 (some 63) (ba 15 15) anM (h:=?_)
          refine pu 5 (some 65) (ba 15 47) anM (h:=?_)
          refine pu 8 (some 68) (ba 15 303) anM (h:=?_)
          refine pu 9 (some 69) (ba 15 815) anM (h:=?_)
          refine pu 10 (some 70) (ba 15 1839) anM (h:=?_)
          refine ta 4 (some 64) (ba 15 1855) anM eE hHeld (hy:=Or.inl ⟨by rfl,by rintro w' ⟨s0,s1,s2⟩;go_simp;with_reducible rfl⟩) (h:=?_)
          refine pu 6 (some 66) (ba 15 1919) anM (h:=?_)
          refine ta 7 (some 67) (ba 15 2047) anM eE hHeld (hy:=Or.inl ⟨by rfl,by rintro w' ⟨s0,s1,s2⟩;go_simp;with_reducible rfl⟩) (h:=?_)
          refine ta 11 (some 71) (ba 15 4095) anM eE hHeld (hy:=Or.inl ⟨by rfl,by rintro w' ⟨s0,s1,s2⟩;go_simp;with_reducible rfl⟩) (h:=?_)
          refine pu 12 (some 72) (ba 15 8191) anM (h:=?_)
          refine pu 13 (some 73) (ba 15 16383) anM (h:=?_)
          refine pu 14 (some 9) (ba 15 32767) anM (h:=?_)
          refine o_ (qF anM.out (by kernel_rfl)) ?_
          try go_wp2
          go_loopg [12,13] k4 (fun kq v12 LL w'=>∃ (zh:Int) (nJ:Int),v12=.int .i64 zh∧LL=.int .i64 nJ∧ak (bx.l4 kq l0 anO bD dL kO aoY (wrap64 (vp+(wrap64 ((rd (ai l0 bD) iZ) * (rd kO iZ))))) vn iZ zh nJ=some r)∧ak (kq≤k4)∧ak (Kd.R (Kd.int .i64) 2 w' w.heap.size (fun k_=>some k_ ≠ (u5:Value).ownBlock∧some k_ ≠ ((.slice (some tD) kO.length dA):Value).ownBlock∧some k_ ≠ (u10:Value).ownBlock) u3 anO)∧ak (Kd.R (Kd.int .i64) 2 w' w.heap.size (fun k_=>some k_ ≠ (u3:Value).ownBlock∧some k_ ≠ ((.slice (some tD) kO.length dA):Value).ownBlock∧some k_ ≠ (u10:Value).ownBlock) u5 dL)∧ak (Kd.R (Kd.int .i64) 2 w' w.heap.size (fun k_=>some k_ ≠ (u3:Value).ownBlock∧some k_ ≠ (u5:Value).ownBlock∧some k_ ≠ (u10:Value).ownBlock) (.slice (some tD) kO.length dA) kO)∧ak (Kd.R (Kd.int .i64) 2 w' w.heap.size (fun k_=>some k_ ≠ (u3:Value).ownBlock∧some k_ ≠ (u5:Value).ownBlock∧some k_ ≠ ((.slice (some tD) kO.length dA):Value).ownBlock) u10 vn)∧ak (Below w.heap.size w w'))
          case atStart=>exact ⟨(0),(0),rs,rs,H',⟨Nat.le_refl _⟩,⟨aR (bh.z)⟩,⟨aR (bY.z)⟩,⟨aR (cG.z)⟩,⟨aR (ox.z)⟩,⟨bl⟩⟩
          case round =>
           clear H'
           obtain ⟨zh,nJ,rfl,rfl,HA,ni,bh,bY,cG,ox,HB⟩:=hrel
           cases gk with
           | zero=>exact absurd HA.z (by simp [bx.l4])
           | succ k5 =>
            have H:=HA.z
            clear HA
            simp only [bx.l4] at H
            by_cases c29:nJ < bD
            case neg =>
             rw [if_neg c29] at H
             have ID:decide (nJ < bD)=false:=decide_eq_false c29
             clear c29
             replace H:=iS H;obtain ⟨c36,H⟩:=H
             have VY:=k0 c36
             clear c36
             obtain ⟨Ua,Kr⟩:∃ y_:List Int,y_=(vn ++ [zh]):=⟨_,rfl⟩
             replace H:(bx.l3 k5 l0 anO bD dL kO aoY (wrap64 (vp+(wrap64 ((rd (ai l0 bD) iZ) * (rd kO iZ))))) Ua (wrap64 (iZ+1)))=some r:=rH Kr H
             have Wg:=k0 Kr
             clear Kr
             have H':=k0 H
             clear H
             go_wp2_with (first|((with_reducible refine aoi (b:=.append) (xs:=#[.tmp 93,.tmp 95]) rfl ?_);at_builtin;refine Kd.qB (Kd.int .i64) (w0:=w) w.heap.size rfl (.tmp 93) (.tmp 95) 28 2 (.int .i64 0) 8 rfl Try.underlying28 aoj rfl (by decide) (by omega) u10 vn zh [.int .i64 zh] (fun k_=>some k_ ≠ (u3:Value).ownBlock∧some k_ ≠ (u5:Value).ownBlock∧some k_ ≠ (.slice (some tD) kO.length dA:Value).ownBlock) (fun _=>False) rfl rfl ?aP (fun _ hk=>hk.elim) ?aF ?aO ?aB ?aS ?aL ?_;(case aP=>exact rfl);(case aB=>exact bl);(case aF=>exact (fun k_ hk=>⟨Kd.fresh' (Kd.bK (aR bh.z)) k_ hk,Kd.fresh' (Kd.bK (aR bY.z)) k_ hk,Kd.fresh' (Kd.bK (aR cG.z)) k_ hk⟩));(case aO=>exact (aR ox.z));(case aS=>exact (anG bl));(case aL=>have:=VY.out;omega);intro ane TY ho hb hg bz;rw [← Wg.z] at ho;have av:=k0 (Kd.lz (ok:=(fun k_=>some k_ ≠ (u5:Value).ownBlock∧some k_ ≠ (.slice (some tD) kO.length dA:Value).ownBlock)) (by (with_reducible repeat (first|apply Kd.b_|apply Kd.bZ|apply Kd.bP));exact Kd.aT bh.z (fun _ hk=>⟨⟨hk.1,hk.2.1⟩,hk.2.2⟩)) hg bz);have ax:=k0 (Kd.lz (ok:=(fun k_=>some k_ ≠ (u3:Value).ownBlock∧some k_ ≠ (.slice (some tD) kO.length dA:Value).ownBlock)) (by (with_reducible repeat (first|apply Kd.b_|apply Kd.bZ|apply Kd.bP));exact Kd.aT bY.z (fun _ hk=>⟨⟨hk.1,hk.2.1⟩,hk.2.2⟩)) hg bz);have ay:=k0 (Kd.lz (ok:=(fun k_=>some k_ ≠ (u3:Value).ownBlock∧some k_ ≠ (u5:Value).ownBlock)) (by (with_reducible repeat (first|apply Kd.b_|apply Kd.bZ|apply Kd.bP));exact Kd.aT cG.z (fun _ hk=>⟨⟨hk.1,hk.2.1⟩,hk.2.2⟩)) hg bz);have anC:=k0 (hb);have aD:=k0 (ho);clear bh;clear bY;clear cG;clear HB;clear ox;have bh:=av;have bY:=ax;have cG:=ay;have HB:=anC;have Vr:=aD;clear av ax ay anC aD;clear ho hb hg bz))
             first|go_roundg k5|(simp only [← mQ];go_roundg k5)|(simp only [← mR];go_roundg k5)
             case measure=>have:=bH.z;have:=eo.z;have:=iK.z;have:=oV.z;have:=ni.z;omega
             case rel=>exact ⟨((wrap64 (vp+(wrap64 ((rd (ai l0 bD) iZ) * (rd kO iZ)))))),(Ua),(wrap64 (iZ+1)),rs,rs,(by first|exact H'|(rw [mQ];exact H')|(rw [mR];exact H')),⟨by have:=bH.z;have:=eo.z;have:=iK.z;have:=oV.z;have:=ni.z;omega⟩,⟨aR (Kd.aT bh.z (fun _ hk=>⟨hk.1.1,⟨hk.1.2,hk.2⟩⟩))⟩,⟨aR (Kd.aT bY.z (fun _ hk=>⟨hk.1.1,⟨hk.1.2,hk.2⟩⟩))⟩,⟨aR (Kd.aT cG.z (fun _ hk=>⟨hk.1.1,⟨hk.1.2,hk.2⟩⟩))⟩,⟨aR (Vr.z)⟩,⟨bl⟩⟩
            rw [if_pos c29] at H
            have ID:=decide_eq_true c29
            clear c29
            replace H:=iS H;obtain ⟨c30,H⟩:=H
            have agQ:=decide_eq_true c30
            clear c30
            replace H:=iS H;obtain ⟨c31,H⟩:=H
            have agR:=decide_eq_true c31
            clear c31
            replace H:=iS H;obtain ⟨c32,H⟩:=H
            have Ai:=decide_eq_true c32
            clear c32
            replace H:=iS H;obtain ⟨c33,H⟩:=H
            have agS:=decide_eq_true c33
            clear c33
            replace H:=iS H;obtain ⟨c34,H⟩:=H
            have agT:=decide_eq_true c34
            clear c34
            have H':=k0 H
            clear H
            try go_wp2
            replace bh:=k0 (Kd.bP bh.z);replace bY:=k0 (Kd.bP bY.z);replace cG:=k0 (Kd.bP cG.z);replace ox:=k0 (Kd.bP ox.z);replace HB:=k0 (anS HB.z)
            have wJ:0≤(iZ:Int):=oD
            have wL:iZ < (l0.length:Int):=oD
            obtain ⟨Oh,Ef,apL,e129,tL,Da,C4⟩:=fu dh.z iZ wJ wL
            have acy:=tL
            obtain rfl:lR=Oh:=(by injection e129)
            replace tL:=hbc HB tL
            have apP:=k0 C4
            have Vc:=k0 Da
            clear C4 Da
            replace wJ:=eq_true wJ
            replace wL:=eq_true wL
            have K1:0≤(nJ:Int):=oD
            have Lh:nJ < ((ai l0 iZ).length:Int):=oD
            obtain ⟨Oi,e130,FP⟩:=Kd.cm apP.z nJ K1 Lh
            have acz:=FP
            cases e130
            replace FP:=hbc HB FP
            replace K1:=eq_true K1
            replace Lh:=eq_true Lh
            have K2:0≤(nJ:Int):=oD
            have Li:nJ < (kO.length:Int):=oD
            obtain ⟨WX,e131,Sg⟩:=Kd.cm (Kd.anT cG.z).2.2 nJ K2 Li
            obtain rfl:tD=WX:=(by injection e131)
            replace K2:=eq_true K2
            replace Li:=eq_true Li
            refine oO (n:=15) (S:=fun w'=>w'.cell? (lR.add (iZ).toNat)=some (.slice (some Oi) (ai l0 iZ).length apL)∧w'.cell? (Oi.add (nJ).toNat)=some (.int .i64 (rd (ai l0 iZ) nJ))∧w'.cell? (tD.add (nJ).toNat)=some (.int .i64 (rd kO nJ))) (ds:=[]) (ba 15 0) (by kernel_rfl) rfl rfl ⟨(hbc HB acy),(hbc HB acz),Sg⟩ (fun hHeld=>?_);refine qt bx.ae1 bx.Xn (fun anM eE=>?_)
            generalize wr.drew=TW at bh bY cG ox HB apP tL FP Sg hHeld ⊢
            refine pu 0 (some 79) (ba 15 1) anM (h:=?_)
            refine pu 1 (some 80) (ba 15 3) anM (h:=?_)
            refine pu 2 (some 81) (ba 15 7) anM (h:=?_)
            refine pu 3 (some 82) (ba 15 15) anM (h:=?_)
            refine pu 5 (some 84) (ba 15 47) anM (h:=?_)
            refine pu 8 (some 87) (ba 15 303) anM (h:=?_)
            refine pu 9 (some 88) (ba 15 815) anM (h:=?_)
            refine pu 10 (some 89) (ba 15 1839) anM (h:=?_)
            refine ta 4 (some 83) (ba 15 1855) anM eE hHeld (hy:=Or.inl ⟨by rfl,by rintro w' ⟨s0,s1,s2⟩;go_simp;with_reducible rfl⟩) (h:=?_)
            refine pu 6 (some 85) (ba 15 1919) anM (h:=?_)
            refine ta 7 (some 86) (ba 15 2047) anM eE hHeld (hy:=Or.inl ⟨by rfl,by rintro w' ⟨s0,s1,s2⟩;go_simp;with_reducible rfl⟩) (h:=?_)
            refine ta 11 (some 90) (ba 15 4095) anM eE hHeld (hy:=Or.inl ⟨by rfl,by rintro w' ⟨s0,s1,s2⟩;go_simp;with_reducible rfl⟩) (h:=?_)
            refine pu 12 (some 91) (ba 15 8191) anM (h:=?_)
            refine pu 13 (some 92) (ba 15 16383) anM (h:=?_)
            refine pu 14 (some 12) (ba 15 32767) anM (h:=?_)
            refine o_ (qF anM.out (by kernel_rfl)) ?_
            try go_wp2
            first|go_roundg k5|(simp only [← mQ];go_roundg k5)|(simp only [← mR];go_roundg k5)
            case measure=>have:=bH.z;have:=eo.z;have:=iK.z;have:=oV.z;have:=ni.z;omega
            case rel=>exact ⟨(wrap64 (zh+(wrap64 ((rd (ai l0 iZ) nJ) * (rd kO nJ))))),(wrap64 (nJ+1)),rs,rs,(by first|exact H'|(rw [mQ];exact H')|(rw [mR];exact H')),⟨by have:=bH.z;have:=eo.z;have:=iK.z;have:=oV.z;have:=ni.z;omega⟩,⟨aR (bh.z)⟩,⟨aR (bY.z)⟩,⟨aR (cG.z)⟩,⟨aR (ox.z)⟩,⟨bl⟩⟩
     rw [if_pos c11] at H
     have lS:=decide_eq_true c11
     clear c11
     replace H:=iS H;obtain ⟨c12,H⟩:=H
     have p6:=decide_eq_true c12
     clear c12
     replace H:=iS H;obtain ⟨c13,H⟩:=H
     have aoJ:=decide_eq_true c13
     clear c13
     replace H:=iS H;obtain ⟨c14,H⟩:=H
     have qC:=decide_eq_true c14
     clear c14
     replace H:=iS H;obtain ⟨c15,H⟩:=H
     have lD:=decide_eq_true c15
     clear c15
     replace H:=iS H;obtain ⟨c16,H⟩:=H
     have xd:=k0 c16
     clear c16
     obtain ⟨pW,pK⟩:∃ y_:List Int,y_=(dF ++ [rd (ai l0 eC) bD]):=⟨_,rfl⟩
     replace H:(bx.l1 k2 l0 anO bD Bb pW (wrap64 (eC+1)))=some r:=rH pK H
     have tv:=k0 pK
     clear pK
     have H':=k0 H
     clear H
     have pM:0≤(eC:Int):=oD
     have pO:eC < (l0.length:Int):=oD
     obtain ⟨xy,afD,agL,e115,pG,Rl,Q8⟩:=fu dh.z eC pM pO
     obtain rfl:lR=xy:=(by injection e115)
     replace pG:=hbc HB pG
     have VA:=k0 Q8
     have agn:=k0 Rl
     clear Q8 Rl
     replace pM:=eq_true pM
     replace pO:=eq_true pO
     have yJ:0≤(bD:Int):=oD
     have yS:bD < ((ai l0 eC).length:Int):=oD
     obtain ⟨WU,e116,yf⟩:=Kd.cm VA.z bD yJ yS
     cases e116
     replace yf:=hbc HB yf
     replace yJ:=eq_true yJ
     replace yS:=eq_true yS
     go_wp2_with (first|((with_reducible refine aoi (b:=.append) (xs:=#[.tmp 39,.tmp 47]) rfl ?_);at_builtin;refine Kd.qB (Kd.int .i64) (w0:=w) w.heap.size rfl (.tmp 39) (.tmp 47) 28 2 (.int .i64 0) 8 rfl Try.underlying28 aoj rfl (by decide) (by omega) u6 dF (rd (ai l0 eC) bD) [.int .i64 (rd (ai l0 eC) bD)] (fun k_=>some k_ ≠ (u3:Value).ownBlock∧some k_ ≠ (zc:Value).ownBlock) (fun _=>False) rfl rfl ?aP (fun _ hk=>hk.elim) ?aF ?aO ?aB ?aS ?aL ?_;(case aP=>exact rfl);(case aB=>exact bl);(case aF=>exact (fun k_ hk=>⟨Kd.fresh' (Kd.bK (aR bh.z)) k_ hk,Kd.fresh' (Kd.bK (aR bY.z)) k_ hk⟩));(case aO=>exact (aR cG.z));(case aS=>exact (anG bl));(case aL=>have:=xd.out;omega);intro Gl DY ho hb hg bz;rw [← tv.z] at ho;have av:=k0 (Kd.lz (ok:=(fun k_=>some k_ ≠ (zc:Value).ownBlock)) (aR bh.z) hg bz);have ax:=k0 (Kd.lz (ok:=(fun k_=>some k_ ≠ (u3:Value).ownBlock)) (aR bY.z) hg bz);have ay:=k0 (hb);have anC:=k0 (ho);clear bh;clear bY;clear HB;clear cG;have bh:=av;have bY:=ax;have HB:=ay;have fM:=anC;clear av ax ay anC;clear ho hb hg bz))
     first|go_roundg k2|(simp only [← mQ];go_roundg k2)|(simp only [← mR];go_roundg k2)
     case measure=>have:=bH.z;have:=eo.z;omega
     case rel=>exact ⟨(pW),(wrap64 (eC+1)),rs,(by first|exact H'|(rw [mQ];exact H')|(rw [mR];exact H')),⟨by have:=bH.z;have:=eo.z;omega⟩,⟨aR (bh.z)⟩,⟨aR (bY.z)⟩,⟨aR (fM.z)⟩,⟨bl⟩⟩
end Go.Proofs.Ytoebojnhchocaaa.G
/- Set with little white space, by a program. -/
