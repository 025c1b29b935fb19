/- The functions that one law reaches, each as a Lean function, and that Go's call comes to what it says. Condition of each: that the Lean function answers (is not none). -/
import Derived.Test.YtoebojnhchocaaaEx0
import Derived.Test.YtoebojnhchocaaaEx17
namespace Go.Proofs.Ytoebojnhchocaaa.E
open Go.RowKit Go.Proofs.bY.apf Go.Proofs.bY.ko Go.Proofs.bY.kN
attribute [local go_sem] max2_int min2_int max_two min_two max_three min_three max_four min_four   -- for this text's walks alone
set_option linter.unusedVariables false
set_option linter.unusedSimpArgs false
/-! ### F136: function 136 -/
mutual
def bX.l0 : Nat → List (List Int) → List Int → Int → Option (List Int)
 | 0,_,_,_=>none
 | k+1,x0,x3,x4=>if x4 < (x0.length:Int) then (if 0≤x4 then (if x4 < ((av x0 x4).length:Int) then (bX.l1 k x0 x3 x4 (([1,wrap64 (-(rd (av x0 x4) x4))]:List Int)) (([]:List Int)) 0) else (none)) else (none)) else ((pW.f k x3).bind fun t104=>(some t104))
def bX.l1 : Nat → List (List Int) → List Int → Int → List Int → List Int → Int → Option (List Int)
 | 0,_,_,_,_,_,_=>none
 | k+1,x0,x3,x4,x5,x6,x7=>if x7 < x4 then (if 0≤x7 then (if x7 < (x0.length:Int) then (if 0≤x4 then (if x4 < ((av x0 x7).length:Int) then (if x6.length < 17592186044416 then (bX.l1 k x0 x3 x4 x5 (x6 ++ [rd (av x0 x7) x4]) (wrap64 (x7+1))) else (none)) else (none)) else (none)) else (none)) else (none)) else (bX.l2 k x0 x3 x4 x5 x6 0)
def bX.l2 : Nat → List (List Int) → List Int → Int → List Int → List Int → Int → Option (List Int)
 | 0,_,_,_,_,_,_=>none
 | k+1,x0,x3,x4,x5,x6,x8=>if x8 < x4 then (bX.l3 k x0 x3 x4 x5 x6 x8 0 (([]:List Int)) 0) else (if 0≤(wrap64 (x4+2)) then (if (wrap64 (x4+2):Int).toNat≤35184372088832 then (bX.l5 k x0 x3 x4 x5 (List.replicate (wrap64 (x4+2):Int).toNat 0) 0) else (none)) else (none))
def bX.l3 : Nat → List (List Int) → List Int → Int → List Int → List Int → Int → Int → List Int → Int → Option (List Int)
 | 0,_,_,_,_,_,_,_,_,_=>none
 | k+1,x0,x3,x4,x5,x6,x8,x9,fS,lQ=>if lQ < x4 then (if 0≤x4 then (if x4 < (x0.length:Int) then (if 0≤lQ then (if lQ < ((av x0 x4).length:Int) then (if lQ < (x6.length:Int) then (bX.l4 k x0 x3 x4 x5 x6 x8 (wrap64 (x9+(wrap64 ((rd (av x0 x4) lQ) * (rd x6 lQ))))) fS lQ 0 0) else (none)) else (none)) else (none)) else (none)) else (none)) else (if x5.length < 17592186044416 then (bX.l2 k x0 x3 x4 (x5 ++ [wrap64 (-x9)]) fS (wrap64 (x8+1))) else (none))
def bX.l4 : Nat → List (List Int) → List Int → Int → List Int → List Int → Int → Int → List Int → Int → Int → Int → Option (List Int)
 | 0,_,_,_,_,_,_,_,_,_,_,_=>none
 | k+1,x0,x3,x4,x5,x6,x8,x9,fS,lQ,oz,jP=>if jP < x4 then (if 0≤lQ then (if lQ < (x0.length:Int) then (if 0≤jP then (if jP < ((av x0 lQ).length:Int) then (if jP < (x6.length:Int) then (bX.l4 k x0 x3 x4 x5 x6 x8 x9 fS lQ (wrap64 (oz+(wrap64 ((rd (av x0 lQ) jP) * (rd x6 jP))))) (wrap64 (jP+1))) else (none)) else (none)) else (none)) else (none)) else (none)) else (if fS.length < 17592186044416 then (bX.l3 k x0 x3 x4 x5 x6 x8 x9 (fS ++ [oz]) (wrap64 (lQ+1))) else (none))
def bX.l5 : Nat → List (List Int) → List Int → Int → List Int → List Int → Int → Option (List Int)
 | 0,_,_,_,_,_,_=>none
 | k+1,x0,x3,x4,x5,xK,lz=>if lz < (xK.length:Int) then (bX.l6 k x0 x3 x4 x5 xK lz 0) else (bX.l0 k x0 xK (wrap64 (x4+1)))
def bX.l6 : Nat → List (List Int) → List Int → Int → List Int → List Int → Int → Int → Option (List Int)
 | 0,_,_,_,_,_,_,_=>none
 | k+1,x0,x3,x4,x5,xK,lz,iA=>if iA < (x3.length:Int) then (if iA≤lz then (if 0≤lz then (if lz < (xK.length:Int) then (if 0≤(wrap64 (lz - iA)) then (if (wrap64 (lz - iA)) < (x5.length:Int) then (if 0≤iA then (bX.l6 k x0 x3 x4 x5 (xK.set (lz:Int).toNat (wrap64 ((rd xK lz)+(wrap64 ((rd x5 (wrap64 (lz - iA))) * (rd x3 iA)))))) lz (wrap64 (iA+1))) else (none)) else (none)) else (none)) else (none)) else (none)) else (bX.l5 k x0 x3 x4 x5 xK (wrap64 (lz+1)))) else (bX.l5 k x0 x3 x4 x5 xK (wrap64 (lz+1)))
end
def bX.f (k:Nat) (l0:List (List Int)):Option (List Int):=bX.l0 k l0 (([1]:List Int)) 0
def bX.O8:Bool × List (List Nat × List Nat):=(true,[([],[]),([],[]),([],[]),([1,2],[1,2]),([3],[3]),([],[]),([4,5],[4,5]),([6],[6]),([],[]),([],[]),([8,9],[8,9]),([10],[10]),([7,11],[7,11]),([0,12],[0,12]),([13,0,1,2,3,4,5,6,7,8,9,10,11,12,13],[0,13])])
def bX.U6:List Nat:=[0,0,0,6,14,0,62,126,0,0,768,1792,4094,8191,16383]
theorem bX.afu:iP .any (opsOf Try.f136 17)=bX.O8:=by kernel_rfl
theorem bX.Xp:nA bX.O8.2 bX.U6=true:=by kernel_rfl
def bX.O9:Bool × List (List Nat × List Nat):=(true,[([],[]),([],[]),([],[]),([1,2],[1,2]),([3],[3]),([],[]),([4,5],[4,5]),([6],[6]),([],[]),([],[]),([8,9],[8,9]),([10],[10]),([7,11],[7,11]),([0,12],[0,12]),([13,0,1,2,3,4,5,6,7,8,9,10,11,12,13],[0,13])])
def bX.U7:List Nat:=[0,0,0,6,14,0,62,126,0,0,768,1792,4094,8191,16383]
theorem bX.afv:iP .any (opsOf Try.f136 22)=bX.O9:=by kernel_rfl
theorem bX.Xq:nA bX.O9.2 bX.U7=true:=by kernel_rfl
def bX.O_:Bool × List (List Nat × List Nat):=(true,[([],[]),([],[]),([],[]),([],[]),([2,3],[2,3]),([4],[4]),([],[]),([],[]),([],[]),([7,8],[7,8]),([6,9],[6,9]),([10],[10]),([],[]),([],[]),([12,13],[12,13]),([14],[14]),([11,15],[11,15]),([5,16],[5,16]),([0,1,0,1,2,3,4,5,6,7,8,9,10,11,12,13,14,15,16,17],[0,1]),([18,17,0,1,2,3,4,5,6,7,8,9,10,11,12,13,14,15,16,17],[17,18])])
def bX.U8:List Nat:=[0,0,0,0,12,28,0,0,0,384,960,1984,0,0,12288,28672,65472,131068,262143,524287]
theorem bX.afw:iP .any (opsOf Try.f136 33)=bX.O_:=by kernel_rfl
theorem bX.Xr:nA bX.O_.2 bX.U8=true:=by kernel_rfl
set_option maxHeartbeats 8000000 in
set_option maxRecDepth 100000 in
theorem bX.calls (k : Nat) (A0 : Option Addr) (c0 : Nat) (l0 : List (List Int)) (r : List Int) (w : World) (cY : Kd.C (Kd.slice 2 (Kd.int .i64)) w A0 l0.length l0) (hc0 : l0.length ≤ c0) (h : bX.f k l0 = some r) :
  Calls Try.prog 136 #[.slice A0 l0.length c0] w fun e w'=>∃ eE:Value,e=.returned (eE)∧Kd.R (Kd.int .i64) 2 w' w.heap.size (fun _=>True) eE r∧Below w.heap.size w w':=by
 have ek:=k0 cY
 have jx:=k0 hc0
 clear cY hc0
 have HB:=k0 (Below.refl w.heap.size w)
 have H:(bX.l0 k l0 (([1]:List Int)) 0)=some r:=h
 clear h
 obtain ⟨iJ,j7⟩:∃ y_:List Int,y_=(([1]:List Int)):=⟨_,rfl⟩
 replace H:(bX.l0 k l0 iJ 0)=some r:=rH j7 H
 have jX:=k0 j7
 clear j7
 have H':=k0 H
 clear H
 go_enter Try.func136,Try.ntmps136
 go_wp2_with (first|((with_reducible refine bp (N:=17) rfl ?_);refine Kd.jr (Kd.int .i64) _ 2 ?hg (N:=17) ?hd (xs:=([1]:List Int)) (inner:=[.int .i64 1]) (ok:=fun _=>True) (b_:=fun _=>True) ?hr ?hp (fun _ hk=>hk) trivial (Below.refl _ _) (Nat.le_refl _) (by simp) ?_;(case hd=>rfl);(case hg=>rfl);(case hr=>first|(go_simp;done)|(go_simp;rfl));(case hp=>exact (bh.one (show Kd.M (Kd.int .i64) _ _ _ 1 [.int .i64 1] from rfl) (bh.none _ _)));intro o5 w2 uJ hb cJ cK;clear cJ cK;(first|rw [← jX.z] at uJ|(simp only [Int.reduceToNat] at uJ;rw [← jX.z] at uJ));have eJ:=k0 (Kd.cU uJ (aoS bl));replace HB:=k0 (aH bl hb);clear hb uJ))
 go_loopg [3,4] k (fun kq v3 v4 w'=>∃ (cn:List Int) (cu:Int),v4=.int .i64 cu∧aj (bX.l0 kq l0 cn cu=some r)∧aj (kq≤k)∧aj (Kd.R (Kd.int .i64) 2 w' w.heap.size (fun _=>True) v3 cn)∧aj (Below w.heap.size w w'))
 case atStart=>exact ⟨(iJ),(0),rs,H',⟨Nat.le_refl _⟩,⟨aR (eJ.z)⟩,⟨bl⟩⟩
 case round =>
  clear H'
  obtain ⟨cn,cu,rfl,HA,bx,bC,HB⟩:=hrel
  cases gk with
  | zero=>exact absurd HA.z (by simp [bX.l0])
  | succ k1 =>
   have H:=HA.z
   clear HA
   simp only [bX.l0] at H
   by_cases c4:cu < (l0.length:Int)
   case neg =>
    rw [if_neg c4] at H
    have fX:decide (cu < (l0.length:Int))=false:=decide_eq_false c4
    clear c4
    replace H:=Option.bind_eq_some_iff.mp H
    obtain ⟨t104,C4,H⟩:=H
    replace H:(some t104)=some r:=H
    have FH:=k0 C4
    clear C4
    obtain rfl:=Option.some.inj H
    obtain ⟨UY,Yv,Zz⟩:=Kd.dM bC.z
    subst Zz
    go_wp2_with (first|((with_reducible refine bg (f:=160) rfl ?_);refine gC (some 144) Try.func160 #[.slice UY cn.length Yv] ?_;(with_reducible refine (pW.calls k1 _ _ cn t104 _ ?aoN ?aoP FH.z).mono ?_);(case aoN=>exact aC ((Kd.cx bC.z).2.2));(case aoP=>exact (Kd.cx bC.z).2.1);rintro e w65 ⟨v105,rfl,aD,hb⟩;refine ⟨_,rfl,?_⟩;have gp:=k0 (Kd.cU (Kd.cT aD (Kd.bT (aR bC.z))) (aoS bl));replace bC:=k0 (Kd.ao9 (aR bC.z) (Kd.aU aD) hb);replace HB:=k0 (aH bl hb);))
    go_ret
    exact ⟨_,eR,by (with_reducible repeat (first|apply Kd.dK|apply Kd.dD|apply Kd.cB));exact Kd.aoY gp.z (fun _ hk=>trivial),bl⟩
   rw [if_pos c4] at H
   have fX:=decide_eq_true c4
   clear c4
   replace H:=iS H;obtain ⟨c5,H⟩:=H
   have jt:=decide_eq_true c5
   clear c5
   replace H:=iS H;obtain ⟨c6,H⟩:=H
   have kG:=decide_eq_true c6
   clear c6
   obtain ⟨mW,om⟩:∃ y_:List Int,y_=(([1,wrap64 (-(rd (av l0 cu) cu))]:List Int)):=⟨_,rfl⟩
   replace H:(bX.l1 k1 l0 cn cu mW (([]:List Int)) 0)=some r:=rH om H
   have sZ:=k0 om
   clear om
   obtain ⟨o_,oq⟩:∃ y_:List Int,y_=(([]:List Int)):=⟨_,rfl⟩
   replace H:(bX.l1 k1 l0 cn cu mW o_ 0)=some r:=rH oq H
   have vP:=k0 oq
   clear oq
   have H':=k0 H
   clear H
   have ji:0≤(cu:Int):=oD
   have jk:cu < (l0.length:Int):=oD
   obtain ⟨ni,Ba,zP,e107,iN,rE,rC⟩:=fW ek.z cu ji jk
   cases e107
   replace iN:=hbc HB iN
   have t_:=k0 rC
   have Dd:=k0 rE
   clear rC rE
   replace ji:=eq_true ji
   replace jk:=eq_true jk
   have iw:0≤(cu:Int):=oD
   have iy:cu < ((av l0 cu).length:Int):=oD
   obtain ⟨qG,e108,ij⟩:=Kd.cN t_.z cu iw iy
   cases e108
   replace ij:=hbc HB ij
   replace iw:=eq_true iw
   replace iy:=eq_true iy
   go_wp2_with (first|((with_reducible refine bp (N:=32) rfl ?_);refine Kd.jr (Kd.int .i64) _ 2 ?hg (N:=32) ?hd (xs:=([1,wrap64 (-(rd (av l0 cu) cu))]:List Int)) (inner:=[.int .i64 1,.int .i64 (wrap64 (-(rd (av l0 cu) cu)))]) (ok:=fun _=>True) (b_:=fun _=>True) ?hr ?hp (fun _ hk=>hk) trivial (Below.refl _ _) (Nat.le_refl _) (by simp) ?_;(case hd=>rfl);(case hg=>rfl);(case hr=>first|(go_simp;done)|(go_simp;rfl));(case hp=>exact (bh.one (show Kd.M (Kd.int .i64) _ _ _ 1 [.int .i64 1] from rfl) (bh.one (show Kd.M (Kd.int .i64) _ _ _ (wrap64 (-(rd (av l0 cu) cu))) [.int .i64 (wrap64 (-(rd (av l0 cu) cu)))] from rfl) (bh.none _ _))));intro wD w7 Ck hb cJ cK;clear cJ cK;(first|rw [← sZ.z] at Ck|(simp only [Int.reduceToNat] at Ck;rw [← sZ.z] at Ck));have nT:=k0 (Kd.cU (Kd.cT Ck (Kd.bT (aR bC.z))) (aoS bl));replace bC:=k0 (Kd.ao9 (aR bC.z) (Kd.aU Ck) hb);replace HB:=k0 (aH bl hb);clear hb Ck)|((with_reducible refine bp (N:=33) rfl ?_);refine Kd.jr (Kd.int .i64) _ 2 ?hg (N:=33) ?hd (xs:=([]:List Int)) (inner:=[]) (ok:=fun _=>True) (b_:=fun _=>True) ?hr ?hp (fun _ hk=>hk) trivial (Below.refl _ _) (Nat.le_refl _) (by simp) ?_;(case hd=>rfl);(case hg=>rfl);(case hr=>first|(go_simp;done)|(go_simp;rfl));(case hp=>exact (bh.none _ _));intro Ni w9 sq hb cJ cK;clear cJ cK;(first|rw [← vP.z] at sq|(simp only [Int.reduceToNat] at sq;rw [← vP.z] at sq));have sU:=k0 (Kd.cU (Kd.cT (Kd.cT sq (Kd.bT (aR bC.z))) (Kd.bT (aR nT.z))) (aoS bl));replace bC:=k0 (Kd.ao9 (aR bC.z) (Kd.aU sq) hb);replace nT:=k0 (Kd.ao9 (aR nT.z) (Kd.aU sq) hb);replace HB:=k0 (aH bl hb);clear hb sq))
   go_loopg [6,7] k1 (fun kq v6 v7 w'=>∃ (d_:List Int) (ez:Int),v7=.int .i64 ez∧aj (bX.l1 kq l0 cn cu mW d_ ez=some r)∧aj (kq≤k1)∧aj (Kd.R (Kd.int .i64) 2 w' w.heap.size (fun k_=>some k_ ≠ (wD:Value).ownBlock∧some k_ ≠ (v6:Value).ownBlock) u3 cn)∧aj (Kd.R (Kd.int .i64) 2 w' w.heap.size (fun k_=>some k_ ≠ (u3:Value).ownBlock∧some k_ ≠ (v6:Value).ownBlock) wD mW)∧aj (Kd.R (Kd.int .i64) 2 w' w.heap.size (fun k_=>some k_ ≠ (u3:Value).ownBlock∧some k_ ≠ (wD:Value).ownBlock) v6 d_)∧aj (Below w.heap.size w w'))
   case atStart=>exact ⟨(o_),(0),rs,H',⟨Nat.le_refl _⟩,⟨aR (Kd.aoY bC.z (fun _ hk=>⟨hk.1.2,hk.2⟩))⟩,⟨aR (Kd.aoY nT.z (fun _ hk=>⟨hk.1.2,hk.2⟩))⟩,⟨aR (Kd.aoY sU.z (fun _ hk=>⟨hk.1.2,hk.2⟩))⟩,⟨bl⟩⟩
   case round =>
    clear H'
    obtain ⟨d_,ez,rfl,HA,cD,bC,aoX,bz,HB⟩:=hrel
    cases gk with
    | zero=>exact absurd HA.z (by simp [bX.l1])
    | succ k2 =>
     have H:=HA.z
     clear HA
     simp only [bX.l1] at H
     by_cases c11:ez < cu
     case neg =>
      rw [if_neg c11] at H
      have ku:decide (ez < cu)=false:=decide_eq_false c11
      clear c11
      have H':=k0 H
      clear H
      go_wp2
      go_loopg [5,6,8] k2 (fun kq v5 v6 v8 w'=>∃ (gA:List Int) (l7:List Int) (iH:Int),v8=.int .i64 iH∧aj (bX.l2 kq l0 cn cu gA l7 iH=some r)∧aj (kq≤k2)∧aj (Kd.R (Kd.int .i64) 2 w' w.heap.size (fun k_=>some k_ ≠ (v5:Value).ownBlock∧some k_ ≠ (v6:Value).ownBlock) u3 cn)∧aj (Kd.R (Kd.int .i64) 2 w' w.heap.size (fun k_=>some k_ ≠ (u3:Value).ownBlock∧some k_ ≠ (v6:Value).ownBlock) v5 gA)∧aj (Kd.R (Kd.int .i64) 2 w' w.heap.size (fun k_=>some k_ ≠ (u3:Value).ownBlock∧some k_ ≠ (v5:Value).ownBlock) v6 l7)∧aj (Below w.heap.size w w'))
      case atStart=>exact ⟨(mW),(d_),(0),rs,H',⟨Nat.le_refl _⟩,⟨aR (bC.z)⟩,⟨aR (aoX.z)⟩,⟨aR (bz.z)⟩,⟨bl⟩⟩
      case round =>
       clear H'
       obtain ⟨gA,l7,iH,rfl,HA,iK,bC,aoX,bz,HB⟩:=hrel
       cases gk with
       | zero=>exact absurd HA.z (by simp [bX.l2])
       | succ k3 =>
        have H:=HA.z
        clear HA
        simp only [bX.l2] at H
        by_cases c18:iH < cu
        case neg =>
         rw [if_neg c18] at H
         have apY:decide (iH < cu)=false:=decide_eq_false c18
         clear c18
         obtain ⟨tu,jL⟩:∃ j_:Int,(wrap64 (cu+2))=j_:=⟨_,rfl⟩
         replace H:(if 0≤(tu) then (if (tu:Int).toNat≤35184372088832 then (bX.l5 k3 l0 cn cu gA (List.replicate (tu:Int).toNat 0) 0) else (none)) else (none))=some r:=by first|(rw [jL] at H;exact H)|(simp only [jL] at H ⊢;exact H)
         have amb:(IntKind.i64.wrap (cu+2))=tu:=(cm _).trans jL
         replace H:=iS H;obtain ⟨c41,H⟩:=H
         have Gk:=eq_true c41
         have PA:=decide_eq_true c41
         clear c41
         replace H:=iS H;obtain ⟨c42,H⟩:=H
         have XX:=eq_true c42
         have aha:=decide_eq_true c42
         clear c42
         obtain ⟨Uz,LZ⟩:∃ y_:List Int,y_=(List.replicate (tu:Int).toNat 0):=⟨_,rfl⟩
         replace H:(bX.l5 k3 l0 cn cu gA Uz 0)=some r:=rH LZ H
         have OL:=k0 LZ
         clear LZ
         have H':=k0 H
         clear H
         go_wp2_with (first|((with_reducible refine bp (N:=105) rfl ?_);refine Kd.JG (Kd.int .i64) _ 2 rfl (N:=105) rfl 28 _ _ rfl tu rfl rfl Try.underlying28 (.int .i64 0) 8 mR rfl (by decide) (by omega) 0 (ok:=fun _=>True) (b_:=fun _=>True) rfl (fun _ hk=>hk) trivial oD (Nat.le_trans (Nat.mul_le_mul_right _ (oD:tu.toNat≤35184372088832)) (by omega)) (Below.refl _ _) (Nat.le_refl _) ?_;intro Ij w43 qR hb cJ cK;clear cJ cK;(first|rw [← OL.z] at qR|(simp only [Int.reduceToNat] at qR;rw [← OL.z] at qR));have FU:=k0 (Kd.cU (Kd.cT (Kd.cT (Kd.cT qR (Kd.bT (aR bC.z))) (Kd.bT (aR aoX.z))) (Kd.bT (aR bz.z))) (aoS bl));replace bC:=k0 (Kd.ao9 (aR bC.z) (Kd.aU qR) hb);replace aoX:=k0 (Kd.ao9 (aR aoX.z) (Kd.aU qR) hb);replace bz:=k0 (Kd.ao9 (aR bz.z) (Kd.aU qR) hb);replace HB:=k0 (aH bl hb);clear hb qR))
         go_loopg [15] k3 (fun kq v15 w'=>∃ (wH:List Int) (jQ:Int),v15=.int .i64 jQ∧aj (bX.l5 kq l0 cn cu gA wH jQ=some r)∧aj (kq≤k3)∧aj (Kd.R (Kd.int .i64) 2 w' w.heap.size (fun k_=>some k_ ≠ (u5:Value).ownBlock∧some k_ ≠ (Ij:Value).ownBlock) u3 cn)∧aj (Kd.R (Kd.int .i64) 2 w' w.heap.size (fun k_=>some k_ ≠ (u3:Value).ownBlock∧some k_ ≠ (Ij:Value).ownBlock) u5 gA)∧aj (Kd.R (Kd.int .i64) 2 w' w.heap.size (fun k_=>some k_ ≠ (u3:Value).ownBlock∧some k_ ≠ (u5:Value).ownBlock) Ij wH)∧aj (Below w.heap.size w w'))
         case atStart=>exact ⟨(Uz),(0),rs,H',⟨Nat.le_refl _⟩,⟨aR (Kd.aoY bC.z (fun _ hk=>⟨hk.1.1,hk.2⟩))⟩,⟨aR (Kd.aoY aoX.z (fun _ hk=>⟨hk.1.1,hk.2⟩))⟩,⟨aR (Kd.aoY FU.z (fun _ hk=>⟨hk.1.1.2,hk.1.2⟩))⟩,⟨bl⟩⟩
         case round =>
          clear H'
          obtain ⟨wH,jQ,rfl,HA,oG,bC,aoX,p6,HB⟩:=hrel
          cases gk with
          | zero=>exact absurd HA.z (by simp [bX.l5])
          | succ k4 =>
           have H:=HA.z
           clear HA
           simp only [bX.l5] at H
           by_cases c45:jQ < (wH.length:Int)
           case neg =>
            rw [if_neg c45] at H
            have PB:decide (jQ < (wH.length:Int))=false:=decide_eq_false c45
            clear c45
            have H':=k0 H
            clear H
            obtain ⟨wK,xe,Gu⟩:=Kd.dM p6.z
            subst Gu
            go_wp2
            first|go_roundg k4|(simp only [← jL];go_roundg k4)|(simp only [← oh];go_roundg k4)
            case measure=>have:=bx.z;have:=cD.z;have:=iK.z;have:=oG.z;omega
            case rel=>exact ⟨(wH),(wrap64 (cu+1)),rs,(by first|exact H'|(rw [jL];exact H')|(rw [oh];exact H')),⟨by have:=bx.z;have:=cD.z;have:=iK.z;have:=oG.z;omega⟩,⟨aR (Kd.aoY p6.z (fun _ hk=>trivial))⟩,⟨bl⟩⟩
           rw [if_pos c45] at H
           have PB:=decide_eq_true c45
           clear c45
           have H':=k0 H
           clear H
           obtain ⟨ej,ee,aqD⟩:=Kd.dM p6.z
           subst aqD
           go_wp2
           go_loopg [16] k4 (fun kq v16 w'=>∃ (q6:List Int) (mI:Int),v16=.int .i64 mI∧aj (bX.l6 kq l0 cn cu gA q6 jQ mI=some r)∧aj (kq≤k4)∧aj (Kd.R (Kd.int .i64) 2 w' w.heap.size (fun k_=>some k_ ≠ (u5:Value).ownBlock∧some k_ ≠ ((.slice ej wH.length ee):Value).ownBlock) u3 cn)∧aj (Kd.R (Kd.int .i64) 2 w' w.heap.size (fun k_=>some k_ ≠ (u3:Value).ownBlock∧some k_ ≠ ((.slice ej wH.length ee):Value).ownBlock) u5 gA)∧aj (Kd.R (Kd.int .i64) 2 w' w.heap.size (fun k_=>some k_ ≠ (u3:Value).ownBlock∧some k_ ≠ (u5:Value).ownBlock) (.slice ej wH.length ee) q6)∧aj (Below w.heap.size w w'))
           case atStart=>exact ⟨(wH),(0),rs,H',⟨Nat.le_refl _⟩,⟨aR (bC.z)⟩,⟨aR (aoX.z)⟩,⟨aR (p6.z)⟩,⟨bl⟩⟩
           case round =>
            clear H'
            obtain ⟨q6,mI,rfl,HA,tZ,bC,aoX,p6,HB⟩:=hrel
            have apE:=(Kd.cx p6.z).1
            rw [apE] at p6
            (try simp only [apE])
            (try simp only [apE] at bC)
            (try simp only [apE] at aoX)
            cases gk with
            | zero=>exact absurd HA.z (by simp [bX.l6])
            | succ k5 =>
             have H:=HA.z
             clear HA
             simp only [bX.l6] at H
             by_cases c47:mI < (cn.length:Int)
             case neg =>
              rw [if_neg c47] at H
              have xd:decide (mI < (cn.length:Int))=false:=decide_eq_false c47
              (try simp only [apE] at xd)
              clear c47
              have H':=k0 H
              clear H
              obtain ⟨agh,ahK,Zx⟩:=Kd.dM bC.z
              subst Zx
              go_wp2
              (try simp only [← apE])
              first|go_roundg k5|(simp only [← jL];go_roundg k5)|(simp only [← oh];go_roundg k5)
              case measure=>have:=bx.z;have:=cD.z;have:=iK.z;have:=oG.z;have:=tZ.z;omega
              case rel=>exact ⟨(q6),(wrap64 (jQ+1)),rs,(by first|exact H'|(rw [jL];exact H')|(rw [oh];exact H')),⟨by have:=bx.z;have:=cD.z;have:=iK.z;have:=oG.z;have:=tZ.z;omega⟩,⟨by (try simp only [apE]);(with_reducible repeat (first|apply Kd.dK|apply Kd.dD|apply Kd.cB));exact bC.z⟩,⟨by (try simp only [apE]);(with_reducible repeat (first|apply Kd.dK|apply Kd.dD|apply Kd.cB));exact aoX.z⟩,⟨by (try simp only [apE]);(with_reducible repeat (first|apply Kd.dK|apply Kd.dD|apply Kd.cB));exact p6.z⟩,⟨bl⟩⟩
             rw [if_pos c47] at H
             have xd:=decide_eq_true c47
             (try simp only [apE] at xd)
             clear c47
             by_cases c48:mI≤jQ
             case neg =>
              rw [if_neg c48] at H
              have X0:decide (mI≤jQ)=false:=decide_eq_false c48
              clear c48
              have H':=k0 H
              clear H
              obtain ⟨agf,ahJ,Zw⟩:=Kd.dM bC.z
              subst Zw
              go_wp2
              (try simp only [← apE])
              first|go_roundg k5|(simp only [← jL];go_roundg k5)|(simp only [← oh];go_roundg k5)
              case measure=>have:=bx.z;have:=cD.z;have:=iK.z;have:=oG.z;have:=tZ.z;omega
              case rel=>exact ⟨(q6),(wrap64 (jQ+1)),rs,(by first|exact H'|(rw [jL];exact H')|(rw [oh];exact H')),⟨by have:=bx.z;have:=cD.z;have:=iK.z;have:=oG.z;have:=tZ.z;omega⟩,⟨by (try simp only [apE]);(with_reducible repeat (first|apply Kd.dK|apply Kd.dD|apply Kd.cB));exact bC.z⟩,⟨by (try simp only [apE]);(with_reducible repeat (first|apply Kd.dK|apply Kd.dD|apply Kd.cB));exact aoX.z⟩,⟨by (try simp only [apE]);(with_reducible repeat (first|apply Kd.dK|apply Kd.dD|apply Kd.cB));exact p6.z⟩,⟨bl⟩⟩
             rw [if_pos c48] at H
             have X0:=decide_eq_true c48
             clear c48
             replace H:=iS H;obtain ⟨c49,H⟩:=H
             have ahd:=decide_eq_true c49
             clear c49
             replace H:=iS H;obtain ⟨c50,H⟩:=H
             have X1:=decide_eq_true c50
             (try simp only [apE] at X1)
             clear c50
             obtain ⟨ap1,oh⟩:∃ j_:Int,(wrap64 (jQ - mI))=j_:=⟨_,rfl⟩
             replace H:(if 0≤(ap1) then (if (ap1) < (gA.length:Int) then (if 0≤mI then (bX.l6 k5 l0 cn cu gA (q6.set (jQ:Int).toNat (wrap64 ((rd q6 jQ)+(wrap64 ((rd gA (ap1)) * (rd cn mI)))))) jQ (wrap64 (mI+1))) else (none)) else (none)) else (none))=some r:=by first|(rw [oh] at H;exact H)|(simp only [oh] at H ⊢;exact H)
             have amd:(IntKind.i64.wrap (jQ - mI))=ap1:=(cm _).trans oh
             replace H:=iS H;obtain ⟨c52,H⟩:=H
             have BC:=decide_eq_true c52
             clear c52
             replace H:=iS H;obtain ⟨c53,H⟩:=H
             have X2:=decide_eq_true c53
             (try simp only [apE] at X2)
             clear c53
             replace H:=iS H;obtain ⟨c54,H⟩:=H
             have ahf:=decide_eq_true c54
             clear c54
             obtain ⟨aqN,Az⟩:∃ y_:List Int,y_=(q6.set (jQ:Int).toNat (wrap64 ((rd q6 jQ)+(wrap64 ((rd gA (ap1)) * (rd cn mI)))))):=⟨_,rfl⟩
             replace H:(bX.l6 k5 l0 cn cu gA aqN jQ (wrap64 (mI+1)))=some r:=rH Az H
             have JD:=k0 Az
             clear Az
             have H':=k0 H
             clear H
             obtain ⟨UW,Yt,Ka⟩:=Kd.dM bC.z
             subst Ka
             try go_wp2
             replace bC:=k0 (Kd.cB bC.z);replace aoX:=k0 (Kd.cB aoX.z);replace p6:=k0 (Kd.cB p6.z);replace HB:=k0 (aZ HB.z)
             have Mx:0≤(jQ:Int):=oD
             have MS:jQ < (q6.length:Int):=oD
             obtain ⟨ag2,e138,LJ⟩:=Kd.cN (Kd.cx p6.z).2.2 jQ Mx MS
             cases e138
             replace Mx:=eq_true Mx
             replace MS:=eq_true MS
             obtain ⟨N2,J4,z6⟩:=Kd.dM aoX.z
             (first|subst z6|(injection z6 with gv apr gw;have j4:=gv.symm;have j5:=gw.symm;clear gv apr gw;subst j4;subst j5))
             have My:0≤((ap1):Int):=oD
             have MT:(ap1) < (gA.length:Int):=oD
             obtain ⟨W6,e139,SF⟩:=Kd.cN (Kd.cx aoX.z).2.2 (ap1) My MT
             cases e139
             replace My:=eq_true My
             replace MT:=eq_true MT
             have Mz:0≤(mI:Int):=oD
             have MU:mI < (cn.length:Int):=oD
             obtain ⟨W7,e140,SG⟩:=Kd.cN (Kd.cx bC.z).2.2 mI Mz MU
             cases e140
             replace Mz:=eq_true Mz
             replace MU:=eq_true MU
             have MF:0≤(jQ:Int):=oD
             have M0:(jQ:Int) < ((q6.length:Int):Int):=oD
             obtain ⟨Ej,ux,BO,QI,ZW,ahA,Ok⟩:=Kd.aql p6.z (by omega)
             (first|cases BO|(injection BO with er apw apv;(first|subst er|(injection er with er;subst er));subst apv;clear apw))
             have agn:=k0 QI
             have VA:=k0 Ok
             clear QI ZW Ok
             (first|simp only [add_plain] at LJ|skip)
             obtain ⟨ac4,aa9⟩:=Kd.vR 0 p6.z (jQ:Int) MF M0
             replace MF:=eq_true MF
             replace M0:=eq_true M0
             have Ji:=Kd.WO p6.z (jQ:Int) (wrap64 ((rd q6 jQ)+(wrap64 ((rd gA (ap1)) * (rd cn mI)))))
             rw [← JD.z] at Ji
             have Ox:=k0 Ji
             clear Ji
             refine apA (n:=20) (S:=fun w'=>w'.cell? ⟨Ej,(jQ).toNat,none⟩=some (.int .i64 (rd q6 jQ))∧w'.cell? (W6.add ((ap1)).toNat)=some (.int .i64 (rd gA (ap1)))∧w'.cell? (W7.add (mI).toNat)=some (.int .i64 (rd cn mI))) (ds:=[19]) (ba 20 0) (by kernel_rfl) rfl rfl ⟨LJ,SF,SG⟩ (fun hHeld=>?_);refine nB bX.afw bX.Xr (fun az dA=>?_)
             generalize wr.drew=Ns at bC aoX p6 HB VA Ox aa9 LJ SF SG ac4 hHeld ⊢
             refine pu 0 (some 123) (ba 20 1) az (h:=?_)
             refine pu 1 (some 124) (ba 20 3) az (h:=?_)
             refine pu 2 (some 125) (ba 20 7) az (h:=?_)
             refine pu 3 (some 126) (ba 20 15) az (h:=?_)
             refine pu 4 (some 127) (ba 20 31) az (h:=?_)
             refine pu 6 (some 129) (ba 20 95) az (h:=?_)
             refine pu 7 (some 130) (ba 20 223) az (h:=?_)
             refine pu 8 (some 131) (ba 20 479) az (h:=?_)
             refine pu 9 (some 132) (ba 20 991) az (h:=?_)
             refine pu 10 (some 133) (ba 20 2015) az (h:=?_)
             refine pu 12 (some 135) (ba 20 6111) az (h:=?_)
             refine pu 13 (some 136) (ba 20 14303) az (h:=?_)
             refine pu 14 (some 137) (ba 20 30687) az (h:=?_)
             refine ta 5 (some 128) (ba 20 30719) az dA hHeld (hy:=Or.inl ⟨by rfl,by rintro w' ⟨s0,s1,s2⟩;go_simp;with_reducible rfl⟩) (h:=?_)
             refine ta 11 (some 134) (ba 20 32767) az dA hHeld (hy:=Or.inl ⟨by rfl,by rintro w' ⟨s0,s1,s2⟩;go_simp;with_reducible rfl⟩) (h:=?_)
             refine ta 15 (some 138) (ba 20 65535) az dA hHeld (hy:=Or.inl ⟨by rfl,by rintro w' ⟨s0,s1,s2⟩;go_simp;with_reducible rfl⟩) (h:=?_)
             refine pu 16 (some 139) (ba 20 131071) az (h:=?_)
             refine pu 17 (some 140) (ba 20 262143) az (h:=?_)
             refine pu 18 (some 141) (ba 20 524287) az (h:=?_)
             refine uW (i:=19) (N:=none) (ba 20 1048575) rfl rfl (hO az.out (by kernel_rfl)) (by decide) (fun K hK=>?_)
             refine tG (w1:=?_) (by rfl) rfl ?_ ?_
             rotate_left;· go_simp;rfl
             refine hK.out _ _ ?_
             clear hK K
             refine lY (nj az.out (by kernel_rfl)) ?_
             try go_wp2
             (try simp only [← apE])
             first|go_roundg k5|(simp only [← jL];go_roundg k5)|(simp only [← oh];go_roundg k5)
             case measure=>have:=bx.z;have:=cD.z;have:=iK.z;have:=oG.z;have:=tZ.z;omega
             case rel=>exact ⟨(aqN),(wrap64 (mI+1)),rs,(by first|exact H'|(rw [jL];exact H')|(rw [oh];exact H')),⟨by have:=bx.z;have:=cD.z;have:=iK.z;have:=oG.z;have:=tZ.z;omega⟩,⟨by (try simp only [apE]);(with_reducible repeat (first|apply Kd.dK|apply Kd.dD|apply Kd.cB));exact Kd.aoY (Kd.F4 (p:=⟨Ej,(jQ:Int).toNat,none⟩) (Kd.aoY bC.z (fun k_ hk=>(⟨hk,fun e_=>hk.2 (by rw [e_];rfl)⟩:_∧k_ ≠ Ej))) (fun _ hk=>hk.2) (.int .i64 (wrap64 ((rd q6 jQ)+(wrap64 ((rd gA (ap1)) * (rd cn mI))))))) (fun _ hk=>⟨hk.1.1,hk.1.2⟩)⟩,⟨by (try simp only [apE]);(with_reducible repeat (first|apply Kd.dK|apply Kd.dD|apply Kd.cB));exact Kd.aoY (Kd.F4 (p:=⟨Ej,(jQ:Int).toNat,none⟩) (Kd.aoY aoX.z (fun k_ hk=>(⟨hk,fun e_=>hk.2 (by rw [e_];rfl)⟩:_∧k_ ≠ Ej))) (fun _ hk=>hk.2) (.int .i64 (wrap64 ((rd q6 jQ)+(wrap64 ((rd gA (ap1)) * (rd cn mI))))))) (fun _ hk=>⟨hk.1.1,hk.1.2⟩)⟩,⟨by (try simp only [apE]);(with_reducible repeat (first|apply Kd.dK|apply Kd.dD|apply Kd.cB));exact Ox.out⟩,⟨aL HB.z⟩⟩
        rw [if_pos c18] at H
        have apY:=decide_eq_true c18
        clear c18
        obtain ⟨zb,Aw⟩:∃ y_:List Int,y_=(([]:List Int)):=⟨_,rfl⟩
        replace H:(bX.l3 k3 l0 cn cu gA l7 iH 0 zb 0)=some r:=rH Aw H
        have DB:=k0 Aw
        clear Aw
        have H':=k0 H
        clear H
        go_wp2_with (first|((with_reducible refine bp (N:=54) rfl ?_);refine Kd.jr (Kd.int .i64) _ 2 ?hg (N:=54) ?hd (xs:=([]:List Int)) (inner:=[]) (ok:=fun _=>True) (b_:=fun _=>True) ?hr ?hp (fun _ hk=>hk) trivial (Below.refl _ _) (Nat.le_refl _) (by simp) ?_;(case hd=>rfl);(case hg=>rfl);(case hr=>first|(go_simp;done)|(go_simp;rfl));(case hp=>exact (bh.none _ _));intro Ub CM qf hb cJ cK;clear cJ cK;(first|rw [← DB.z] at qf|(simp only [Int.reduceToNat] at qf;rw [← DB.z] at qf));have jI:=k0 (Kd.cU (Kd.cT (Kd.cT (Kd.cT qf (Kd.bT (aR bC.z))) (Kd.bT (aR aoX.z))) (Kd.bT (aR bz.z))) (aoS bl));replace bC:=k0 (Kd.ao9 (aR bC.z) (Kd.aU qf) hb);replace aoX:=k0 (Kd.ao9 (aR aoX.z) (Kd.aU qf) hb);replace bz:=k0 (Kd.ao9 (aR bz.z) (Kd.aU qf) hb);replace HB:=k0 (aH bl hb);clear hb qf))
        go_loopg [9,10,11] k3 (fun kq v9 v10 v11 w'=>∃ (xN:Int) (xJ:List Int) (jO:Int),v9=.int .i64 xN∧v11=.int .i64 jO∧aj (bX.l3 kq l0 cn cu gA l7 iH xN xJ jO=some r)∧aj (kq≤k3)∧aj (Kd.R (Kd.int .i64) 2 w' w.heap.size (fun k_=>some k_ ≠ (u5:Value).ownBlock∧some k_ ≠ (u6:Value).ownBlock∧some k_ ≠ (v10:Value).ownBlock) u3 cn)∧aj (Kd.R (Kd.int .i64) 2 w' w.heap.size (fun k_=>some k_ ≠ (u3:Value).ownBlock∧some k_ ≠ (u6:Value).ownBlock∧some k_ ≠ (v10:Value).ownBlock) u5 gA)∧aj (Kd.R (Kd.int .i64) 2 w' w.heap.size (fun k_=>some k_ ≠ (u3:Value).ownBlock∧some k_ ≠ (u5:Value).ownBlock∧some k_ ≠ (v10:Value).ownBlock) u6 l7)∧aj (Kd.R (Kd.int .i64) 2 w' w.heap.size (fun k_=>some k_ ≠ (u3:Value).ownBlock∧some k_ ≠ (u5:Value).ownBlock∧some k_ ≠ (u6:Value).ownBlock) v10 xJ)∧aj (Below w.heap.size w w'))
        case atStart=>exact ⟨(0),(zb),(0),rs,rs,H',⟨Nat.le_refl _⟩,⟨aR (Kd.aoY bC.z (fun _ hk=>⟨hk.1.1,⟨hk.1.2,hk.2⟩⟩))⟩,⟨aR (Kd.aoY aoX.z (fun _ hk=>⟨hk.1.1,⟨hk.1.2,hk.2⟩⟩))⟩,⟨aR (Kd.aoY bz.z (fun _ hk=>⟨hk.1.1,⟨hk.1.2,hk.2⟩⟩))⟩,⟨aR (Kd.aoY jI.z (fun _ hk=>⟨hk.1.1.2,⟨hk.1.2,hk.2⟩⟩))⟩,⟨bl⟩⟩
        case round =>
         clear H'
         obtain ⟨xN,xJ,jO,rfl,rfl,HA,oG,bC,aoX,bz,dw,HB⟩:=hrel
         cases gk with
         | zero=>exact absurd HA.z (by simp [bX.l3])
         | succ k4 =>
          have H:=HA.z
          clear HA
          simp only [bX.l3] at H
          by_cases c21:jO < cu
          case neg =>
           rw [if_neg c21] at H
           have yl:decide (jO < cu)=false:=decide_eq_false c21
           clear c21
           replace H:=iS H;obtain ⟨c38,H⟩:=H
           have Wg:=k0 c38
           clear c38
           obtain ⟨Fz,Ay⟩:∃ y_:List Int,y_=(gA ++ [wrap64 (-xN)]):=⟨_,rfl⟩
           replace H:(bX.l2 k4 l0 cn cu Fz xJ (wrap64 (iH+1)))=some r:=rH Ay H
           have JC:=k0 Ay
           clear Ay
           have H':=k0 H
           clear H
           go_wp2_with (first|((with_reducible refine kQ (b:=.append) (xs:=#[.tmp 97,.tmp 100]) rfl ?_);at_builtin;refine Kd.p9 (Kd.int .i64) (w0:=w) w.heap.size rfl (.tmp 97) (.tmp 100) 28 2 (.int .i64 0) 8 rfl Try.underlying28 mR rfl (by decide) (by omega) u5 gA (wrap64 (-xN)) [.int .i64 (wrap64 (-xN))] (fun k_=>some k_ ≠ (u3:Value).ownBlock∧some k_ ≠ (u6:Value).ownBlock∧some k_ ≠ (u10:Value).ownBlock) (fun _=>False) rfl rfl ?aP (fun _ hk=>hk.elim) ?aF ?aO ?aB ?aS ?aL ?_;(case aP=>exact rfl);(case aB=>exact bl);(case aF=>exact (fun k_ hk=>⟨Kd.fresh' (Kd.bT (aR bC.z)) k_ hk,Kd.fresh' (Kd.bT (aR bz.z)) k_ hk,Kd.fresh' (Kd.bT (aR dw.z)) k_ hk⟩));(case aO=>exact (aR aoX.z));(case aS=>exact (aoS bl));(case aL=>have:=Wg.out;omega);intro v124 Nr ho hb hg ao1;rw [← JC.z] at ho;have aq:=k0 (Kd.ap5 (ok:=(fun k_=>some k_ ≠ (u6:Value).ownBlock∧some k_ ≠ (u10:Value).ownBlock)) (by (with_reducible repeat (first|apply Kd.dK|apply Kd.dD|apply Kd.cB));exact Kd.aoY bC.z (fun _ hk=>⟨⟨hk.2.1,hk.2.2⟩,hk.1⟩)) hg ao1);have au:=k0 (Kd.ap5 (ok:=(fun k_=>some k_ ≠ (u3:Value).ownBlock∧some k_ ≠ (u10:Value).ownBlock)) (by (with_reducible repeat (first|apply Kd.dK|apply Kd.dD|apply Kd.cB));exact Kd.aoY bz.z (fun _ hk=>⟨⟨hk.1,hk.2.2⟩,hk.2.1⟩)) hg ao1);have ax:=k0 (Kd.ap5 (ok:=(fun k_=>some k_ ≠ (u3:Value).ownBlock∧some k_ ≠ (u6:Value).ownBlock)) (by (with_reducible repeat (first|apply Kd.dK|apply Kd.dD|apply Kd.cB));exact Kd.aoY dw.z (fun _ hk=>⟨⟨hk.1,hk.2.2⟩,hk.2.1⟩)) hg ao1);have aA:=k0 (hb);have aG:=k0 (ho);clear bC;clear bz;clear dw;clear HB;clear aoX;have bC:=aq;have bz:=au;have dw:=ax;have HB:=aA;have ei:=aG;clear aq au ax aA aG;clear ho hb hg ao1))
           first|go_roundg k4|(simp only [← jL];go_roundg k4)|(simp only [← oh];go_roundg k4)
           case measure=>have:=bx.z;have:=cD.z;have:=iK.z;have:=oG.z;omega
           case rel=>exact ⟨(Fz),(xJ),(wrap64 (iH+1)),rs,(by first|exact H'|(rw [jL];exact H')|(rw [oh];exact H')),⟨by have:=bx.z;have:=cD.z;have:=iK.z;have:=oG.z;omega⟩,⟨aR (Kd.aoY bC.z (fun _ hk=>⟨hk.2,hk.1.2⟩))⟩,⟨aR (Kd.aoY ei.z (fun _ hk=>⟨hk.1,hk.2.2⟩))⟩,⟨aR (Kd.aoY dw.z (fun _ hk=>⟨hk.1.1,hk.2⟩))⟩,⟨bl⟩⟩
          rw [if_pos c21] at H
          have yl:=decide_eq_true c21
          clear c21
          replace H:=iS H;obtain ⟨c22,H⟩:=H
          have DS:=decide_eq_true c22
          clear c22
          replace H:=iS H;obtain ⟨c23,H⟩:=H
          have DT:=decide_eq_true c23
          clear c23
          replace H:=iS H;obtain ⟨c24,H⟩:=H
          have BB:=decide_eq_true c24
          clear c24
          replace H:=iS H;obtain ⟨c25,H⟩:=H
          have Gj:=decide_eq_true c25
          clear c25
          replace H:=iS H;obtain ⟨c26,H⟩:=H
          have JV:=decide_eq_true c26
          clear c26
          have H':=k0 H
          clear H
          try go_wp2
          replace bC:=k0 (Kd.cB bC.z);replace aoX:=k0 (Kd.cB aoX.z);replace bz:=k0 (Kd.cB bz.z);replace dw:=k0 (Kd.cB dw.z);replace HB:=k0 (aZ HB.z)
          have AL:0≤(cu:Int):=oD
          have AQ:cu < (l0.length:Int):=oD
          obtain ⟨JM,af7,XO,e126,xw,RZ,RR⟩:=fW ek.z cu AL AQ
          have acW:=xw
          obtain rfl:ni=JM:=(by injection e126)
          replace xw:=hbc HB xw
          have Oz:=k0 RR
          have agI:=k0 RZ
          clear RR RZ
          replace AL:=eq_true AL
          replace AQ:=eq_true AQ
          have Mt:0≤(jO:Int):=oD
          have MO:jO < ((av l0 cu).length:Int):=oD
          obtain ⟨Pd,e127,Hv⟩:=Kd.cN Oz.z jO Mt MO
          have acX:=Hv
          cases e127
          replace Hv:=hbc HB Hv
          replace Mt:=eq_true Mt
          replace MO:=eq_true MO
          obtain ⟨C7,r7,xj⟩:=Kd.dM bz.z
          (first|subst xj|(injection xj with gv apr gw;have j4:=gv.symm;have j5:=gw.symm;clear gv apr gw;subst j4;subst j5))
          have Mu:0≤(jO:Int):=oD
          have MP:jO < (l7.length:Int):=oD
          obtain ⟨vV,e128,SD⟩:=Kd.cN (Kd.cx bz.z).2.2 jO Mu MP
          cases e128
          replace Mu:=eq_true Mu
          replace MP:=eq_true MP
          refine apA (n:=15) (S:=fun w'=>w'.cell? (ni.add (cu).toNat)=some (.slice (some Pd) (av l0 cu).length XO)∧w'.cell? (Pd.add (jO).toNat)=some (.int .i64 (rd (av l0 cu) jO))∧w'.cell? (vV.add (jO).toNat)=some (.int .i64 (rd l7 jO))) (ds:=[]) (ba 15 0) (by kernel_rfl) rfl rfl ⟨(hbc HB acW),(hbc HB acX),SD⟩ (fun hHeld=>?_);refine nB bX.afu bX.Xp (fun az dA=>?_)
          generalize wr.drew=xG at bC aoX bz dw HB Oz xw Hv SD hHeld ⊢
          refine pu 0 (some 60) (ba 15 1) az (h:=?_)
          refine pu 1 (some 61) (ba 15 3) az (h:=?_)
          refine pu 2 (some 62) (ba 15 7) az (h:=?_)
          refine pu 3 (some 63) (ba 15 15) az (h:=?_)
          refine pu 5 (some 65) (ba 15 47) az (h:=?_)
          refine pu 8 (some 68) (ba 15 303) az (h:=?_)
          refine pu 9 (some 69) (ba 15 815) az (h:=?_)
          refine pu 10 (some 70) (ba 15 1839) az (h:=?_)
          refine ta 4 (some 64) (ba 15 1855) az dA hHeld (hy:=Or.inl ⟨by rfl,by rintro w' ⟨s0,s1,s2⟩;go_simp;with_reducible rfl⟩) (h:=?_)
          refine pu 6 (some 66) (ba 15 1919) az (h:=?_)
          refine ta 7 (some 67) (ba 15 2047) az dA hHeld (hy:=Or.inl ⟨by rfl,by rintro w' ⟨s0,s1,s2⟩;go_simp;with_reducible rfl⟩) (h:=?_)
          refine ta 11 (some 71) (ba 15 4095) az dA hHeld (hy:=Or.inl ⟨by rfl,by rintro w' ⟨s0,s1,s2⟩;go_simp;with_reducible rfl⟩) (h:=?_)
          refine pu 12 (some 72) (ba 15 8191) az (h:=?_)
          refine pu 13 (some 73) (ba 15 16383) az (h:=?_)
          refine pu 14 (some 9) (ba 15 32767) az (h:=?_)
          refine lY (nj az.out (by kernel_rfl)) ?_
          try go_wp2
          go_loopg [12,13] k4 (fun kq v12 xC w'=>∃ (aqJ:Int) (o8:Int),v12=.int .i64 aqJ∧xC=.int .i64 o8∧aj (bX.l4 kq l0 cn cu gA l7 iH (wrap64 (xN+(wrap64 ((rd (av l0 cu) jO) * (rd l7 jO))))) xJ jO aqJ o8=some r)∧aj (kq≤k4)∧aj (Kd.R (Kd.int .i64) 2 w' w.heap.size (fun k_=>some k_ ≠ (u5:Value).ownBlock∧some k_ ≠ ((.slice (some vV) l7.length r7):Value).ownBlock∧some k_ ≠ (u10:Value).ownBlock) u3 cn)∧aj (Kd.R (Kd.int .i64) 2 w' w.heap.size (fun k_=>some k_ ≠ (u3:Value).ownBlock∧some k_ ≠ ((.slice (some vV) l7.length r7):Value).ownBlock∧some k_ ≠ (u10:Value).ownBlock) u5 gA)∧aj (Kd.R (Kd.int .i64) 2 w' w.heap.size (fun k_=>some k_ ≠ (u3:Value).ownBlock∧some k_ ≠ (u5:Value).ownBlock∧some k_ ≠ (u10:Value).ownBlock) (.slice (some vV) l7.length r7) l7)∧aj (Kd.R (Kd.int .i64) 2 w' w.heap.size (fun k_=>some k_ ≠ (u3:Value).ownBlock∧some k_ ≠ (u5:Value).ownBlock∧some k_ ≠ ((.slice (some vV) l7.length r7):Value).ownBlock) u10 xJ)∧aj (Below w.heap.size w w'))
          case atStart=>exact ⟨(0),(0),rs,rs,H',⟨Nat.le_refl _⟩,⟨aR (bC.z)⟩,⟨aR (aoX.z)⟩,⟨aR (bz.z)⟩,⟨aR (dw.z)⟩,⟨bl⟩⟩
          case round =>
           clear H'
           obtain ⟨aqJ,o8,rfl,rfl,HA,tZ,bC,aoX,bz,dw,HB⟩:=hrel
           cases gk with
           | zero=>exact absurd HA.z (by simp [bX.l4])
           | succ k5 =>
            have H:=HA.z
            clear HA
            simp only [bX.l4] at H
            by_cases c29:o8 < cu
            case neg =>
             rw [if_neg c29] at H
             have XT:decide (o8 < cu)=false:=decide_eq_false c29
             clear c29
             replace H:=iS H;obtain ⟨c36,H⟩:=H
             have We:=k0 c36
             clear c36
             obtain ⟨Ux,LX⟩:∃ y_:List Int,y_=(xJ ++ [aqJ]):=⟨_,rfl⟩
             replace H:(bX.l3 k5 l0 cn cu gA l7 iH (wrap64 (xN+(wrap64 ((rd (av l0 cu) jO) * (rd l7 jO))))) Ux (wrap64 (jO+1)))=some r:=rH LX H
             have WB:=k0 LX
             clear LX
             have H':=k0 H
             clear H
             go_wp2_with (first|((with_reducible refine kQ (b:=.append) (xs:=#[.tmp 93,.tmp 95]) rfl ?_);at_builtin;refine Kd.p9 (Kd.int .i64) (w0:=w) w.heap.size rfl (.tmp 93) (.tmp 95) 28 2 (.int .i64 0) 8 rfl Try.underlying28 mR rfl (by decide) (by omega) u10 xJ aqJ [.int .i64 aqJ] (fun k_=>some k_ ≠ (u3:Value).ownBlock∧some k_ ≠ (u5:Value).ownBlock∧some k_ ≠ (.slice (some vV) l7.length r7:Value).ownBlock) (fun _=>False) rfl rfl ?aP (fun _ hk=>hk.elim) ?aF ?aO ?aB ?aS ?aL ?_;(case aP=>exact rfl);(case aB=>exact bl);(case aF=>exact (fun k_ hk=>⟨Kd.fresh' (Kd.bT (aR bC.z)) k_ hk,Kd.fresh' (Kd.bT (aR aoX.z)) k_ hk,Kd.fresh' (Kd.bT (aR bz.z)) k_ hk⟩));(case aO=>exact (aR dw.z));(case aS=>exact (aoS bl));(case aL=>have:=We.out;omega);intro afJ aqH ho hb hg ao1;rw [← WB.z] at ho;have aq:=k0 (Kd.ap5 (ok:=(fun k_=>some k_ ≠ (u5:Value).ownBlock∧some k_ ≠ (.slice (some vV) l7.length r7:Value).ownBlock)) (by (with_reducible repeat (first|apply Kd.dK|apply Kd.dD|apply Kd.cB));exact Kd.aoY bC.z (fun _ hk=>⟨⟨hk.1,hk.2.1⟩,hk.2.2⟩)) hg ao1);have au:=k0 (Kd.ap5 (ok:=(fun k_=>some k_ ≠ (u3:Value).ownBlock∧some k_ ≠ (.slice (some vV) l7.length r7:Value).ownBlock)) (by (with_reducible repeat (first|apply Kd.dK|apply Kd.dD|apply Kd.cB));exact Kd.aoY aoX.z (fun _ hk=>⟨⟨hk.1,hk.2.1⟩,hk.2.2⟩)) hg ao1);have ax:=k0 (Kd.ap5 (ok:=(fun k_=>some k_ ≠ (u3:Value).ownBlock∧some k_ ≠ (u5:Value).ownBlock)) (by (with_reducible repeat (first|apply Kd.dK|apply Kd.dD|apply Kd.cB));exact Kd.aoY bz.z (fun _ hk=>⟨⟨hk.1,hk.2.1⟩,hk.2.2⟩)) hg ao1);have aA:=k0 (hb);have aG:=k0 (ho);clear bC;clear aoX;clear bz;clear HB;clear dw;have bC:=aq;have aoX:=au;have bz:=ax;have HB:=aA;have nU:=aG;clear aq au ax aA aG;clear ho hb hg ao1))
             first|go_roundg k5|(simp only [← jL];go_roundg k5)|(simp only [← oh];go_roundg k5)
             case measure=>have:=bx.z;have:=cD.z;have:=iK.z;have:=oG.z;have:=tZ.z;omega
             case rel=>exact ⟨((wrap64 (xN+(wrap64 ((rd (av l0 cu) jO) * (rd l7 jO)))))),(Ux),(wrap64 (jO+1)),rs,rs,(by first|exact H'|(rw [jL];exact H')|(rw [oh];exact H')),⟨by have:=bx.z;have:=cD.z;have:=iK.z;have:=oG.z;have:=tZ.z;omega⟩,⟨aR (Kd.aoY bC.z (fun _ hk=>⟨hk.1.1,⟨hk.1.2,hk.2⟩⟩))⟩,⟨aR (Kd.aoY aoX.z (fun _ hk=>⟨hk.1.1,⟨hk.1.2,hk.2⟩⟩))⟩,⟨aR (Kd.aoY bz.z (fun _ hk=>⟨hk.1.1,⟨hk.1.2,hk.2⟩⟩))⟩,⟨aR (nU.z)⟩,⟨bl⟩⟩
            rw [if_pos c29] at H
            have XT:=decide_eq_true c29
            clear c29
            replace H:=iS H;obtain ⟨c30,H⟩:=H
            have ag7:=decide_eq_true c30
            clear c30
            replace H:=iS H;obtain ⟨c31,H⟩:=H
            have ag8:=decide_eq_true c31
            clear c31
            replace H:=iS H;obtain ⟨c32,H⟩:=H
            have ag9:=decide_eq_true c32
            clear c32
            replace H:=iS H;obtain ⟨c33,H⟩:=H
            have ag':=decide_eq_true c33
            clear c33
            replace H:=iS H;obtain ⟨c34,H⟩:=H
            have ag_:=decide_eq_true c34
            clear c34
            have H':=k0 H
            clear H
            try go_wp2
            replace bC:=k0 (Kd.cB bC.z);replace aoX:=k0 (Kd.cB aoX.z);replace bz:=k0 (Kd.cB bz.z);replace dw:=k0 (Kd.cB dw.z);replace HB:=k0 (aZ HB.z)
            have yU:0≤(jO:Int):=oD
            have yX:jO < (l0.length:Int):=oD
            obtain ⟨Pe,FG,DR,e129,wq,EL,EG⟩:=fW ek.z jO yU yX
            have acY:=wq
            obtain rfl:ni=Pe:=(by injection e129)
            replace wq:=hbc HB wq
            have FY:=k0 EG
            have VJ:=k0 EL
            clear EG EL
            replace yU:=eq_true yU
            replace yX:=eq_true yX
            have Mv:0≤(o8:Int):=oD
            have MQ:o8 < ((av l0 jO).length:Int):=oD
            obtain ⟨Pf,e130,Hw⟩:=Kd.cN FY.z o8 Mv MQ
            have acZ:=Hw
            cases e130
            replace Hw:=hbc HB Hw
            replace Mv:=eq_true Mv
            replace MQ:=eq_true MQ
            have Mw:0≤(o8:Int):=oD
            have MR:o8 < (l7.length:Int):=oD
            obtain ⟨W5,e131,SE⟩:=Kd.cN (Kd.cx bz.z).2.2 o8 Mw MR
            obtain rfl:vV=W5:=(by injection e131)
            replace Mw:=eq_true Mw
            replace MR:=eq_true MR
            refine apA (n:=15) (S:=fun w'=>w'.cell? (ni.add (jO).toNat)=some (.slice (some Pf) (av l0 jO).length DR)∧w'.cell? (Pf.add (o8).toNat)=some (.int .i64 (rd (av l0 jO) o8))∧w'.cell? (vV.add (o8).toNat)=some (.int .i64 (rd l7 o8))) (ds:=[]) (ba 15 0) (by kernel_rfl) rfl rfl ⟨(hbc HB acY),(hbc HB acZ),SE⟩ (fun hHeld=>?_);refine nB bX.afv bX.Xq (fun az dA=>?_)
            generalize wr.drew=CR at bC aoX bz dw HB FY wq Hw SE hHeld ⊢
            refine pu 0 (some 79) (ba 15 1) az (h:=?_)
            refine pu 1 (some 80) (ba 15 3) az (h:=?_)
            refine pu 2 (some 81) (ba 15 7) az (h:=?_)
            refine pu 3 (some 82) (ba 15 15) az (h:=?_)
            refine pu 5 (some 84) (ba 15 47) az (h:=?_)
            refine pu 8 (some 87) (ba 15 303) az (h:=?_)
            refine pu 9 (some 88) (ba 15 815) az (h:=?_)
            refine pu 10 (some 89) (ba 15 1839) az (h:=?_)
            refine ta 4 (some 83) (ba 15 1855) az dA hHeld (hy:=Or.inl ⟨by rfl,by rintro w' ⟨s0,s1,s2⟩;go_simp;with_reducible rfl⟩) (h:=?_)
            refine pu 6 (some 85) (ba 15 1919) az (h:=?_)
            refine ta 7 (some 86) (ba 15 2047) az dA hHeld (hy:=Or.inl ⟨by rfl,by rintro w' ⟨s0,s1,s2⟩;go_simp;with_reducible rfl⟩) (h:=?_)
            refine ta 11 (some 90) (ba 15 4095) az dA hHeld (hy:=Or.inl ⟨by rfl,by rintro w' ⟨s0,s1,s2⟩;go_simp;with_reducible rfl⟩) (h:=?_)
            refine pu 12 (some 91) (ba 15 8191) az (h:=?_)
            refine pu 13 (some 92) (ba 15 16383) az (h:=?_)
            refine pu 14 (some 12) (ba 15 32767) az (h:=?_)
            refine lY (nj az.out (by kernel_rfl)) ?_
            try go_wp2
            first|go_roundg k5|(simp only [← jL];go_roundg k5)|(simp only [← oh];go_roundg k5)
            case measure=>have:=bx.z;have:=cD.z;have:=iK.z;have:=oG.z;have:=tZ.z;omega
            case rel=>exact ⟨(wrap64 (aqJ+(wrap64 ((rd (av l0 jO) o8) * (rd l7 o8))))),(wrap64 (o8+1)),rs,rs,(by first|exact H'|(rw [jL];exact H')|(rw [oh];exact H')),⟨by have:=bx.z;have:=cD.z;have:=iK.z;have:=oG.z;have:=tZ.z;omega⟩,⟨aR (bC.z)⟩,⟨aR (aoX.z)⟩,⟨aR (bz.z)⟩,⟨aR (dw.z)⟩,⟨bl⟩⟩
     rw [if_pos c11] at H
     have ku:=decide_eq_true c11
     clear c11
     replace H:=iS H;obtain ⟨c12,H⟩:=H
     have qJ:=decide_eq_true c12
     clear c12
     replace H:=iS H;obtain ⟨c13,H⟩:=H
     have ru:=decide_eq_true c13
     clear c13
     replace H:=iS H;obtain ⟨c14,H⟩:=H
     have pJ:=decide_eq_true c14
     clear c14
     replace H:=iS H;obtain ⟨c15,H⟩:=H
     have oN:=decide_eq_true c15
     clear c15
     replace H:=iS H;obtain ⟨c16,H⟩:=H
     have Dq:=k0 c16
     clear c16
     obtain ⟨IB,Av⟩:∃ y_:List Int,y_=(d_ ++ [rd (av l0 ez) cu]):=⟨_,rfl⟩
     replace H:(bX.l1 k2 l0 cn cu mW IB (wrap64 (ez+1)))=some r:=rH Av H
     have JB:=k0 Av
     clear Av
     have H':=k0 H
     clear H
     have qZ:0≤(ez:Int):=oD
     have apO:ez < (l0.length:Int):=oD
     obtain ⟨By,af6,ag3,e115,uO,RY,RQ⟩:=fW ek.z ez qZ apO
     obtain rfl:ni=By:=(by injection e115)
     replace uO:=hbc HB uO
     have VV:=k0 RQ
     have agH:=k0 RY
     clear RQ RY
     replace qZ:=eq_true qZ
     replace apO:=eq_true apO
     have Mr:0≤(cu:Int):=oD
     have MM:cu < ((av l0 ez).length:Int):=oD
     obtain ⟨ag1,e116,SC⟩:=Kd.cN VV.z cu Mr MM
     cases e116
     replace SC:=hbc HB SC
     replace Mr:=eq_true Mr
     replace MM:=eq_true MM
     go_wp2_with (first|((with_reducible refine kQ (b:=.append) (xs:=#[.tmp 39,.tmp 47]) rfl ?_);at_builtin;refine Kd.p9 (Kd.int .i64) (w0:=w) w.heap.size rfl (.tmp 39) (.tmp 47) 28 2 (.int .i64 0) 8 rfl Try.underlying28 mR rfl (by decide) (by omega) u6 d_ (rd (av l0 ez) cu) [.int .i64 (rd (av l0 ez) cu)] (fun k_=>some k_ ≠ (u3:Value).ownBlock∧some k_ ≠ (wD:Value).ownBlock) (fun _=>False) rfl rfl ?aP (fun _ hk=>hk.elim) ?aF ?aO ?aB ?aS ?aL ?_;(case aP=>exact rfl);(case aB=>exact bl);(case aF=>exact (fun k_ hk=>⟨Kd.fresh' (Kd.bT (aR bC.z)) k_ hk,Kd.fresh' (Kd.bT (aR aoX.z)) k_ hk⟩));(case aO=>exact (aR bz.z));(case aS=>exact (aoS bl));(case aL=>have:=Dq.out;omega);intro T_ xF ho hb hg ao1;rw [← JB.z] at ho;have aq:=k0 (Kd.ap5 (ok:=(fun k_=>some k_ ≠ (wD:Value).ownBlock)) (aR bC.z) hg ao1);have au:=k0 (Kd.ap5 (ok:=(fun k_=>some k_ ≠ (u3:Value).ownBlock)) (aR aoX.z) hg ao1);have ax:=k0 (hb);have aA:=k0 (ho);clear bC;clear aoX;clear HB;clear bz;have bC:=aq;have aoX:=au;have HB:=ax;have Bo:=aA;clear aq au ax aA;clear ho hb hg ao1))
     first|go_roundg k2|(simp only [← jL];go_roundg k2)|(simp only [← oh];go_roundg k2)
     case measure=>have:=bx.z;have:=cD.z;omega
     case rel=>exact ⟨(IB),(wrap64 (ez+1)),rs,(by first|exact H'|(rw [jL];exact H')|(rw [oh];exact H')),⟨by have:=bx.z;have:=cD.z;omega⟩,⟨aR (bC.z)⟩,⟨aR (aoX.z)⟩,⟨aR (Bo.z)⟩,⟨bl⟩⟩
end Go.Proofs.Ytoebojnhchocaaa.E
/- Set with little white space, by a program. -/
