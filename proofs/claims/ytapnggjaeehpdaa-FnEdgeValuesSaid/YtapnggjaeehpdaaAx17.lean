/- The functions that one law reaches, each as a Lean function, and that Go's call comes to what it says. Condition of each: that the Lean function answers (is not none). -/
import Derived.Test.YtapnggjaeehpdaaAx0
import Derived.Test.YtapnggjaeehpdaaAx16
namespace Go.Proofs.Ytapnggjaeehpdaa.A
open Go.RowKit Go.Proofs.bB.dI Go.Proofs.bB.ark Go.Proofs.bB.jd
attribute [local go_sem] max2_int min2_int max_two min_two max_three min_three max_four min_four   -- for this text's walks alone
set_option linter.unusedVariables false
set_option linter.unusedSimpArgs false
/-! ### F69: function 69 -/
mutual
def bA.l0 : Nat → List (List Int) → List Int → Int → Option (List Int)
 | 0,_,_,_=>none
 | k+1,x0,x3,x4=>if x4 < (x0.length:Int) then (if 0≤x4 then (if x4 < ((ah x0 x4).length:Int) then (bA.l1 k x0 x3 x4 (([1,wrap64 (-(rd (ah x0 x4) x4))]:List Int)) (([]:List Int)) 0) else (none)) else (none)) else ((pO.f k x3).bind fun t104=>(some t104))
def bA.l1 : Nat → List (List Int) → List Int → Int → List Int → List Int → Int → Option (List Int)
 | 0,_,_,_,_,_,_=>none
 | k+1,x0,x3,x4,x5,x6,x7=>if x7 < x4 then (if 0≤x7 then (if x7 < (x0.length:Int) then (if 0≤x4 then (if x4 < ((ah x0 x7).length:Int) then (if x6.length < 17592186044416 then (bA.l1 k x0 x3 x4 x5 (x6 ++ [rd (ah x0 x7) x4]) (wrap64 (x7+1))) else (none)) else (none)) else (none)) else (none)) else (none)) else (bA.l2 k x0 x3 x4 x5 x6 0)
def bA.l2 : Nat → List (List Int) → List Int → Int → List Int → List Int → Int → Option (List Int)
 | 0,_,_,_,_,_,_=>none
 | k+1,x0,x3,x4,x5,x6,x8=>if x8 < x4 then (bA.l3 k x0 x3 x4 x5 x6 x8 0 (([]:List Int)) 0) else (if 0≤(wrap64 (x4+2)) then (if (wrap64 (x4+2):Int).toNat≤35184372088832 then (bA.l5 k x0 x3 x4 x5 (List.replicate (wrap64 (x4+2):Int).toNat 0) 0) else (none)) else (none))
def bA.l3 : Nat → List (List Int) → List Int → Int → List Int → List Int → Int → Int → List Int → Int → Option (List Int)
 | 0,_,_,_,_,_,_,_,_,_=>none
 | k+1,x0,x3,x4,x5,x6,x8,x9,cY,aqS=>if aqS < x4 then (if 0≤x4 then (if x4 < (x0.length:Int) then (if 0≤aqS then (if aqS < ((ah x0 x4).length:Int) then (if aqS < (x6.length:Int) then (bA.l4 k x0 x3 x4 x5 x6 x8 (wrap64 (x9+(wrap64 ((rd (ah x0 x4) aqS) * (rd x6 aqS))))) cY aqS 0 0) else (none)) else (none)) else (none)) else (none)) else (none)) else (if x5.length < 17592186044416 then (bA.l2 k x0 x3 x4 (x5 ++ [wrap64 (-x9)]) cY (wrap64 (x8+1))) else (none))
def bA.l4 : Nat → List (List Int) → List Int → Int → List Int → List Int → Int → Int → List Int → Int → Int → Int → Option (List Int)
 | 0,_,_,_,_,_,_,_,_,_,_,_=>none
 | k+1,x0,x3,x4,x5,x6,x8,x9,cY,aqS,dJ,lV=>if lV < x4 then (if 0≤aqS then (if aqS < (x0.length:Int) then (if 0≤lV then (if lV < ((ah x0 aqS).length:Int) then (if lV < (x6.length:Int) then (bA.l4 k x0 x3 x4 x5 x6 x8 x9 cY aqS (wrap64 (dJ+(wrap64 ((rd (ah x0 aqS) lV) * (rd x6 lV))))) (wrap64 (lV+1))) else (none)) else (none)) else (none)) else (none)) else (none)) else (if cY.length < 17592186044416 then (bA.l3 k x0 x3 x4 x5 x6 x8 x9 (cY ++ [dJ]) (wrap64 (aqS+1))) else (none))
def bA.l5 : Nat → List (List Int) → List Int → Int → List Int → List Int → Int → Option (List Int)
 | 0,_,_,_,_,_,_=>none
 | k+1,x0,x3,x4,x5,pI,b7=>if b7 < (pI.length:Int) then (bA.l6 k x0 x3 x4 x5 pI b7 0) else (bA.l0 k x0 pI (wrap64 (x4+1)))
def bA.l6 : Nat → List (List Int) → List Int → Int → List Int → List Int → Int → Int → Option (List Int)
 | 0,_,_,_,_,_,_,_=>none
 | k+1,x0,x3,x4,x5,pI,b7,ey=>if ey < (x3.length:Int) then (if ey≤b7 then (if 0≤b7 then (if b7 < (pI.length:Int) then (if 0≤(wrap64 (b7 - ey)) then (if (wrap64 (b7 - ey)) < (x5.length:Int) then (if 0≤ey then (bA.l6 k x0 x3 x4 x5 (pI.set (b7:Int).toNat (wrap64 ((rd pI b7)+(wrap64 ((rd x5 (wrap64 (b7 - ey))) * (rd x3 ey)))))) b7 (wrap64 (ey+1))) else (none)) else (none)) else (none)) else (none)) else (none)) else (bA.l5 k x0 x3 x4 x5 pI (wrap64 (b7+1)))) else (bA.l5 k x0 x3 x4 x5 pI (wrap64 (b7+1)))
end
def bA.f (k:Nat) (l0:List (List Int)):Option (List Int):=bA.l0 k l0 (([1]:List Int)) 0
def bA.Rl:Bool × List (List Nat × List Nat):=(true,[([],[]),([],[]),([],[]),([1,2],[1,2]),([3],[3]),([],[]),([4,5],[4,5]),([6],[6]),([],[]),([],[]),([8,9],[8,9]),([10],[10]),([7,11],[7,11]),([0,12],[0,12]),([13,0,1,2,3,4,5,6,7,8,9,10,11,12,13],[0,13])])
def bA.Yo:List Nat:=[0,0,0,6,14,0,62,126,0,0,768,1792,4094,8191,16383]
theorem bA.ajb:eH .any (opsOf Try.f69 17)=bA.Rl:=by kernel_rfl
theorem bA.abW:iL bA.Rl.2 bA.Yo=true:=by kernel_rfl
def bA.DI:Bool × List (List Nat × List Nat):=(true,[([],[]),([],[]),([],[]),([1,2],[1,2]),([3],[3]),([],[]),([4,5],[4,5]),([6],[6]),([],[]),([],[]),([8,9],[8,9]),([10],[10]),([7,11],[7,11]),([0,12],[0,12]),([13,0,1,2,3,4,5,6,7,8,9,10,11,12,13],[0,13])])
def bA.JZ:List Nat:=[0,0,0,6,14,0,62,126,0,0,768,1792,4094,8191,16383]
theorem bA.Ow:eH .any (opsOf Try.f69 22)=bA.DI:=by kernel_rfl
theorem bA.Lj:iL bA.DI.2 bA.JZ=true:=by kernel_rfl
def bA.Rp:Bool × List (List Nat × List Nat):=(true,[([],[]),([],[]),([],[]),([],[]),([2,3],[2,3]),([4],[4]),([],[]),([],[]),([],[]),([7,8],[7,8]),([6,9],[6,9]),([10],[10]),([],[]),([],[]),([12,13],[12,13]),([14],[14]),([11,15],[11,15]),([5,16],[5,16]),([0,1,0,1,2,3,4,5,6,7,8,9,10,11,12,13,14,15,16,17],[0,1]),([18,17,0,1,2,3,4,5,6,7,8,9,10,11,12,13,14,15,16,17],[17,18])])
def bA.Yt:List Nat:=[0,0,0,0,12,28,0,0,0,384,960,1984,0,0,12288,28672,65472,131068,262143,524287]
theorem bA.aje:eH .any (opsOf Try.f69 33)=bA.Rp:=by kernel_rfl
theorem bA.abZ:iL bA.Rp.2 bA.Yt=true:=by kernel_rfl
set_option maxHeartbeats 8000000 in
set_option maxRecDepth 100000 in
theorem bA.calls (k : Nat) (A0 : Option Addr) (c0 : Nat) (l0 : List (List Int)) (r : List Int) (w : World) (bZ : Kd.C (Kd.slice 2 (Kd.int .i64)) w A0 l0.length l0) (hc0 : l0.length ≤ c0) (h : bA.f k l0 = some r) :
  Calls Try.prog 69 #[.slice A0 l0.length c0] w fun e w'=>∃ cR:Value,e=.returned (cR)∧Kd.R (Kd.int .i64) 2 w' w.heap.size (fun _=>True) cR r∧Below w.heap.size w w':=by
 have cP:=k0 bZ
 have fq:=k0 hc0
 clear bZ hc0
 have HB:=k0 (Below.refl w.heap.size w)
 unfold bA.f at h
 have H:=h
 clear h
 obtain ⟨mq,kQ⟩:=nY (([1]:List Int):List Int)
 replace H:(bA.l0 k l0 mq 0)=some r:=rH kQ.z H
 have H':=k0 H
 clear H
 go_enter Try.func69,Try.ntmps69
 go_wp2_with (first|(refine aqI (N:=17) rfl ?_;refine Kd.gw (Kd.int .i64) _ 2 ?hg (N:=17) ?hd (xs:=([1]:List Int)) (inner:=[.int .i64 1]) (ok:=fun _=>True) (bw:=fun _=>True) ?hr ?hp (fun _ hk=>hk) trivial (Below.refl _ _) (Nat.le_refl _) (by simp) ?_;(case hd=>rfl);(case hg=>rfl);(case hr=>first|(go_simp;done)|(go_simp;rfl));(case hp=>exact (aH.one (show Kd.M (Kd.int .i64) _ _ _ 1 [.int .i64 1] from rfl) (aH.none _ _)));intro tM w2 uS hb bH bI;clear bH bI;(first|rw [← kQ.z] at uS|(simp only [Int.reduceToNat] at uS;rw [← kQ.z] at uS));have mC:=k0 (Kd.cA uS (aqG bl));replace HB:=bW hb;clear hb uS))
 go_loopg [3,4] k (fun kq v3 v4 w'=>∃ (bp:List Int) (bR:Int),v4=.int .i64 bR∧ai (bA.l0 kq l0 bp bR=some r)∧ai (kq≤k)∧ai (Kd.R (Kd.int .i64) 2 w' w.heap.size (fun _=>True) v3 bp)∧ai (Below w.heap.size w w'))
 case atStart=>exact ⟨(mq),(0),rs,H',⟨Nat.le_refl _⟩,⟨aR (mC.z)⟩,⟨bl⟩⟩
 case round =>
  clear H'
  obtain ⟨bp,bR,rfl,HA,aI,aqK,HB⟩:=hrel
  cases gk with
  | zero=>exact absurd HA.z (by simp [bA.l0])
  | succ k1 =>
   have H:=HA.z
   clear HA
   simp only [bA.l0] at H
   replace H:=iC H;obtain ⟨ej,H⟩|⟨ej,H⟩:=H
   case inl =>
    replace H:=bS H;obtain ⟨t104,X9,H⟩:=H
    obtain rfl:=Option.some.inj H
    obtain ⟨Yk,adI,rfl⟩:=Kd.cy aqK.z
    go_wp2_with (first|(refine aqz (f:=112) rfl ?_;refine gC (some 144) Try.func112 #[.slice Yk bp.length adI] ?_;(with_reducible refine (pO.calls k1 _ _ bp t104 _ ?aq ?au X9.z).mono ?_);(case aq=>exact aC ((Kd.aqP aqK.z).2.2));(case au=>exact (Kd.aqP aqK.z).2.1);rintro e ata ⟨wj,rfl,aD,hb⟩;refine ⟨_,rfl,?_⟩;have fF:=k0 (Kd.cA (Kd.kS aD (Kd.eZ (aR aqK.z))) (aqG bl));replace aqK:=l_ aqK (Kd.cm aD) hb;replace HB:=bW hb))
    go_ret
    exact ⟨_,eR,aR (Kd.aqM fF.z (fun _ hk=>trivial)),bl⟩
   replace H:=iS H;obtain ⟨c5,H⟩:=H
   have gD:=decide_eq_true c5
   clear c5
   replace H:=iS H;obtain ⟨c6,H⟩:=H
   have fN:=decide_eq_true c6
   clear c6
   obtain ⟨qx,rY⟩:=nY (([1,wrap64 (-(rd (ah l0 bR) bR))]:List Int):List Int)
   replace H:(bA.l1 k1 l0 bp bR qx (([]:List Int)) 0)=some r:=rH rY.z H
   obtain ⟨C0,BF⟩:=nY (([]:List Int):List Int)
   replace H:(bA.l1 k1 l0 bp bR qx C0 0)=some r:=rH BF.z H
   have H':=k0 H
   clear H
   obtain ⟨arI,lg⟩:=iN bR (l0.length:Int)
   obtain ⟨rB,C1,DN,e107,mP,uM,uG⟩:=cD cP.z bR arI lg
   cases e107
   replace mP:=hbc HB mP
   have xK:=k0 uG
   have Gw:=k0 uM
   clear uG uM
   replace arI:=eT arI
   replace lg:=eT lg
   obtain ⟨arJ,j9⟩:=iN bR ((ah l0 bR).length:Int)
   obtain ⟨kn,e108,oq⟩:=Kd.bM xK.z bR arJ j9
   cases e108
   replace oq:=hbc HB oq
   replace arJ:=eT arJ
   replace j9:=eT j9
   go_wp2_with (first|(refine aqI (N:=32) rfl ?_;refine Kd.gw (Kd.int .i64) _ 2 ?hg (N:=32) ?hd (xs:=([1,wrap64 (-(rd (ah l0 bR) bR))]:List Int)) (inner:=[.int .i64 1,.int .i64 (wrap64 (-(rd (ah l0 bR) bR)))]) (ok:=fun _=>True) (bw:=fun _=>True) ?hr ?hp (fun _ hk=>hk) trivial (Below.refl _ _) (Nat.le_refl _) (by simp) ?_;(case hd=>rfl);(case hg=>rfl);(case hr=>first|(go_simp;done)|(go_simp;rfl));(case hp=>exact (aH.one (show Kd.M (Kd.int .i64) _ _ _ 1 [.int .i64 1] from rfl) (aH.one (show Kd.M (Kd.int .i64) _ _ _ (wrap64 (-(rd (ah l0 bR) bR))) [.int .i64 (wrap64 (-(rd (ah l0 bR) bR)))] from rfl) (aH.none _ _))));intro q4 w7 oo hb bH bI;clear bH bI;(first|rw [← rY.z] at oo|(simp only [Int.reduceToNat] at oo;rw [← rY.z] at oo));have ua:=k0 (Kd.cA (Kd.kS oo (Kd.eZ (aR aqK.z))) (aqG bl));replace aqK:=l_ aqK (Kd.cm oo) hb;replace HB:=bW hb;clear hb oo)|(refine aqI (N:=33) rfl ?_;refine Kd.gw (Kd.int .i64) _ 2 ?hg (N:=33) ?hd (xs:=([]:List Int)) (inner:=[]) (ok:=fun _=>True) (bw:=fun _=>True) ?hr ?hp (fun _ hk=>hk) trivial (Below.refl _ _) (Nat.le_refl _) (by simp) ?_;(case hd=>rfl);(case hg=>rfl);(case hr=>first|(go_simp;done)|(go_simp;rfl));(case hp=>exact (aH.none _ _));intro atJ w9 jP hb bH bI;clear bH bI;(first|rw [← BF.z] at jP|(simp only [Int.reduceToNat] at jP;rw [← BF.z] at jP));have vK:=k0 (Kd.cA (Kd.kS (Kd.kS jP (Kd.eZ (aR aqK.z))) (Kd.eZ (aR ua.z))) (aqG bl));replace aqK:=l_ aqK (Kd.cm jP) hb;replace ua:=l_ ua (Kd.cm jP) hb;replace HB:=bW hb;clear hb jP))
   go_loopg [6,7] k1 (fun kq v6 v7 w'=>∃ (mY:List Int) (dQ:Int),v7=.int .i64 dQ∧ai (bA.l1 kq l0 bp bR qx mY dQ=some r)∧ai (kq≤k1)∧ai (Kd.R (Kd.int .i64) 2 w' w.heap.size (fun k_=>some k_ ≠ (q4:Value).ownBlock∧some k_ ≠ (v6:Value).ownBlock) u3 bp)∧ai (Kd.R (Kd.int .i64) 2 w' w.heap.size (fun k_=>some k_ ≠ (u3:Value).ownBlock∧some k_ ≠ (v6:Value).ownBlock) q4 qx)∧ai (Kd.R (Kd.int .i64) 2 w' w.heap.size (fun k_=>some k_ ≠ (u3:Value).ownBlock∧some k_ ≠ (q4:Value).ownBlock) v6 mY)∧ai (Below w.heap.size w w'))
   case atStart=>exact ⟨(C0),(0),rs,H',⟨Nat.le_refl _⟩,⟨aR (Kd.aqM aqK.z (fun _ hk=>⟨hk.1.2,hk.2⟩))⟩,⟨aR (Kd.aqM ua.z (fun _ hk=>⟨hk.1.2,hk.2⟩))⟩,⟨aR (Kd.aqM vK.z (fun _ hk=>⟨hk.1.2,hk.2⟩))⟩,⟨bl⟩⟩
   case round =>
    clear H'
    obtain ⟨mY,dQ,rfl,HA,aqL,aqK,bf,cn,HB⟩:=hrel
    cases gk with
    | zero=>exact absurd HA.z (by simp [bA.l1])
    | succ k2 =>
     have H:=HA.z
     clear HA
     simp only [bA.l1] at H
     replace H:=iC H;obtain ⟨jy,H⟩|⟨jy,H⟩:=H
     case inl =>
      have H':=k0 H
      clear H
      go_wp2
      go_loopg [5,6,8] k2 (fun kq v5 v6 v8 w'=>∃ (eI:List Int) (kG:List Int) (gA:Int),v8=.int .i64 gA∧ai (bA.l2 kq l0 bp bR eI kG gA=some r)∧ai (kq≤k2)∧ai (Kd.R (Kd.int .i64) 2 w' w.heap.size (fun k_=>some k_ ≠ (v5:Value).ownBlock∧some k_ ≠ (v6:Value).ownBlock) u3 bp)∧ai (Kd.R (Kd.int .i64) 2 w' w.heap.size (fun k_=>some k_ ≠ (u3:Value).ownBlock∧some k_ ≠ (v6:Value).ownBlock) v5 eI)∧ai (Kd.R (Kd.int .i64) 2 w' w.heap.size (fun k_=>some k_ ≠ (u3:Value).ownBlock∧some k_ ≠ (v5:Value).ownBlock) v6 kG)∧ai (Below w.heap.size w w'))
      case atStart=>exact ⟨(qx),(mY),(0),rs,H',⟨Nat.le_refl _⟩,⟨aR (aqK.z)⟩,⟨aR (bf.z)⟩,⟨aR (cn.z)⟩,⟨bl⟩⟩
      case round =>
       clear H'
       obtain ⟨eI,kG,gA,rfl,HA,dR,aqK,bf,cn,HB⟩:=hrel
       cases gk with
       | zero=>exact absurd HA.z (by simp [bA.l2])
       | succ k3 =>
        have H:=HA.z
        clear HA
        simp only [bA.l2] at H
        replace H:=iC H;obtain ⟨B0,H⟩|⟨B0,H⟩:=H
        case inl =>
         obtain ⟨Av,arQ⟩:∃ j_:Int,(wrap64 (bR+2))=j_:=⟨_,rfl⟩
         replace H:(if 0≤(Av) then (if (Av:Int).toNat≤35184372088832 then (bA.l5 k3 l0 bp bR eI (List.replicate (Av:Int).toNat 0) 0) else (none)) else (none))=some r:=by first|(rw [arQ] at H;exact H)|(simp only [arQ] at H ⊢;exact H)
         have aol:(IntKind.i64.wrap (bR+2))=Av:=(bJ _).trans arQ
         replace H:=iS H;obtain ⟨c41,H⟩:=H
         have atz:=eq_true c41
         have R3:=decide_eq_true c41
         clear c41
         replace H:=iS H;obtain ⟨c42,H⟩:=H
         have amv:=eq_true c42
         have amw:=decide_eq_true c42
         clear c42
         obtain ⟨Xx,K0⟩:=nY (List.replicate (Av:Int).toNat 0:List Int)
         replace H:(bA.l5 k3 l0 bp bR eI Xx 0)=some r:=rH K0.z H
         have H':=k0 H
         clear H
         go_wp2_with (first|(refine aqI (N:=105) rfl ?_;refine Kd.BI (Kd.int .i64) _ 2 rfl (N:=105) rfl 29 _ _ rfl Av rfl rfl Try.underlying29 (.int .i64 0) 8 lS rfl (by decide) (by omega) 0 (ok:=fun _=>True) (bw:=fun _=>True) rfl (fun _ hk=>hk) trivial oD (Nat.le_trans (Nat.mul_le_mul_right _ (oD:Av.toNat≤35184372088832)) (by omega)) (Below.refl _ _) (Nat.le_refl _) ?_;intro I_ Xe qO hb bH bI;clear bH bI;(first|rw [← K0.z] at qO|(simp only [Int.reduceToNat] at qO;rw [← K0.z] at qO));have GF:=k0 (Kd.cA (Kd.kS (Kd.kS (Kd.kS qO (Kd.eZ (aR aqK.z))) (Kd.eZ (aR bf.z))) (Kd.eZ (aR cn.z))) (aqG bl));replace aqK:=l_ aqK (Kd.cm qO) hb;replace bf:=l_ bf (Kd.cm qO) hb;replace cn:=l_ cn (Kd.cm qO) hb;replace HB:=bW hb;clear hb qO))
         go_loopg [15] k3 (fun kq OI w'=>∃ (ze:List Int) (jB:Int),OI=.int .i64 jB∧ai (bA.l5 kq l0 bp bR eI ze jB=some r)∧ai (kq≤k3)∧ai (Kd.R (Kd.int .i64) 2 w' w.heap.size (fun k_=>some k_ ≠ (u5:Value).ownBlock∧some k_ ≠ (I_:Value).ownBlock) u3 bp)∧ai (Kd.R (Kd.int .i64) 2 w' w.heap.size (fun k_=>some k_ ≠ (u3:Value).ownBlock∧some k_ ≠ (I_:Value).ownBlock) u5 eI)∧ai (Kd.R (Kd.int .i64) 2 w' w.heap.size (fun k_=>some k_ ≠ (u3:Value).ownBlock∧some k_ ≠ (u5:Value).ownBlock) I_ ze)∧ai (Below w.heap.size w w'))
         case atStart=>exact ⟨(Xx),(0),rs,H',⟨Nat.le_refl _⟩,⟨aR (Kd.aqM aqK.z (fun _ hk=>⟨hk.1.1,hk.2⟩))⟩,⟨aR (Kd.aqM bf.z (fun _ hk=>⟨hk.1.1,hk.2⟩))⟩,⟨aR (Kd.aqM GF.z (fun _ hk=>⟨hk.1.1.2,hk.1.2⟩))⟩,⟨bl⟩⟩
         case round =>
          clear H'
          obtain ⟨ze,jB,rfl,HA,iu,aqK,bf,arY,HB⟩:=hrel
          cases gk with
          | zero=>exact absurd HA.z (by simp [bA.l5])
          | succ k4 =>
           have H:=HA.z
           clear HA
           simp only [bA.l5] at H
           replace H:=iC H;obtain ⟨asB,H⟩|⟨asB,H⟩:=H
           case inl =>
            have H':=k0 H
            clear H
            obtain ⟨vG,ux,rfl⟩:=Kd.cy arY.z
            go_wp2
            first|go_roundg k4|(simp only [← arQ];go_roundg k4)|(simp only [← nH];go_roundg k4)
            case measure=>have:=aI.z;have:=aqL.z;have:=dR.z;have:=iu.z;omega
            case rel=>exact ⟨(ze),(wrap64 (bR+1)),rs,(by first|exact H'|(rw [arQ];exact H')|(rw [nH];exact H')),⟨by have:=aI.z;have:=aqL.z;have:=dR.z;have:=iu.z;omega⟩,⟨aR (Kd.aqM arY.z (fun _ hk=>trivial))⟩,⟨bl⟩⟩
           have H':=k0 H
           clear H
           obtain ⟨Bh,as5,rfl⟩:=Kd.cy arY.z
           go_wp2
           go_loopg [16] k4 (fun kq as8 w'=>∃ (ri:List Int) (nO:Int),as8=.int .i64 nO∧ai (bA.l6 kq l0 bp bR eI ri jB nO=some r)∧ai (kq≤k4)∧ai (Kd.R (Kd.int .i64) 2 w' w.heap.size (fun k_=>some k_ ≠ (u5:Value).ownBlock∧some k_ ≠ ((.slice Bh ze.length as5):Value).ownBlock) u3 bp)∧ai (Kd.R (Kd.int .i64) 2 w' w.heap.size (fun k_=>some k_ ≠ (u3:Value).ownBlock∧some k_ ≠ ((.slice Bh ze.length as5):Value).ownBlock) u5 eI)∧ai (Kd.R (Kd.int .i64) 2 w' w.heap.size (fun k_=>some k_ ≠ (u3:Value).ownBlock∧some k_ ≠ (u5:Value).ownBlock) (.slice Bh ze.length as5) ri)∧ai (Below w.heap.size w w'))
           case atStart=>exact ⟨(ze),(0),rs,H',⟨Nat.le_refl _⟩,⟨aR (aqK.z)⟩,⟨aR (bf.z)⟩,⟨aR (arY.z)⟩,⟨bl⟩⟩
           case round =>
            clear H'
            obtain ⟨ri,nO,rfl,HA,jt,aqK,bf,arY,HB⟩:=hrel
            have mN:=(Kd.aqP arY.z).1
            rw [mN] at arY
            (try simp only [mN])
            (try simp only [mN] at aqK)
            (try simp only [mN] at bf)
            cases gk with
            | zero=>exact absurd HA.z (by simp [bA.l6])
            | succ k5 =>
             have H:=HA.z
             clear HA
             simp only [bA.l6] at H
             by_cases c47:nO < (bp.length:Int)
             case neg =>
              rw [if_neg c47] at H
              have as1:=decide_eq_false c47
              (try simp only [mN] at as1)
              clear c47
              have H':=k0 H
              clear H
              obtain ⟨akA,anE,rfl⟩:=Kd.cy aqK.z
              go_wp2
              (try simp only [← mN])
              first|go_roundg k5|(simp only [← arQ];go_roundg k5)|(simp only [← nH];go_roundg k5)
              case measure=>have:=aI.z;have:=aqL.z;have:=dR.z;have:=iu.z;have:=jt.z;omega
              case rel=>exact ⟨(ri),(wrap64 (jB+1)),rs,(by first|exact H'|(rw [arQ];exact H')|(rw [nH];exact H')),⟨by have:=aI.z;have:=aqL.z;have:=dR.z;have:=iu.z;have:=jt.z;omega⟩,⟨by (try simp only [mN]);(with_reducible repeat (first|apply Kd.qE|apply Kd.qF|apply Kd.fG));exact aqK.z⟩,⟨by (try simp only [mN]);(with_reducible repeat (first|apply Kd.qE|apply Kd.qF|apply Kd.fG));exact bf.z⟩,⟨by (try simp only [mN]);(with_reducible repeat (first|apply Kd.qE|apply Kd.qF|apply Kd.fG));exact arY.z⟩,⟨bl⟩⟩
             rw [if_pos c47] at H
             have as1:=decide_eq_true c47
             (try simp only [mN] at as1)
             clear c47
             replace H:=iC H;obtain ⟨R4,H⟩|⟨R4,H⟩:=H
             case inl =>
              have H':=k0 H
              clear H
              obtain ⟨akz,Sy,rfl⟩:=Kd.cy aqK.z
              go_wp2
              (try simp only [← mN])
              first|go_roundg k5|(simp only [← arQ];go_roundg k5)|(simp only [← nH];go_roundg k5)
              case measure=>have:=aI.z;have:=aqL.z;have:=dR.z;have:=iu.z;have:=jt.z;omega
              case rel=>exact ⟨(ri),(wrap64 (jB+1)),rs,(by first|exact H'|(rw [arQ];exact H')|(rw [nH];exact H')),⟨by have:=aI.z;have:=aqL.z;have:=dR.z;have:=iu.z;have:=jt.z;omega⟩,⟨by (try simp only [mN]);(with_reducible repeat (first|apply Kd.qE|apply Kd.qF|apply Kd.fG));exact aqK.z⟩,⟨by (try simp only [mN]);(with_reducible repeat (first|apply Kd.qE|apply Kd.qF|apply Kd.fG));exact bf.z⟩,⟨by (try simp only [mN]);(with_reducible repeat (first|apply Kd.qE|apply Kd.qF|apply Kd.fG));exact arY.z⟩,⟨bl⟩⟩
             replace H:=iS H;obtain ⟨c49,H⟩:=H
             have ac0:=decide_eq_true c49
             clear c49
             replace H:=iS H;obtain ⟨c50,H⟩:=H
             have LD:=decide_eq_true c50
             (try simp only [mN] at LD)
             clear c50
             obtain ⟨sw,nH⟩:∃ j_:Int,(wrap64 (jB - nO))=j_:=⟨_,rfl⟩
             replace H:(if 0≤(sw) then (if (sw) < (eI.length:Int) then (if 0≤nO then (bA.l6 k5 l0 bp bR eI (ri.set (jB:Int).toNat (wrap64 ((rd ri jB)+(wrap64 ((rd eI (sw)) * (rd bp nO)))))) jB (wrap64 (nO+1))) else (none)) else (none)) else (none))=some r:=by first|(rw [nH] at H;exact H)|(simp only [nH] at H ⊢;exact H)
             have aop:(IntKind.i64.wrap (jB - nO))=sw:=(bJ _).trans nH
             replace H:=iS H;obtain ⟨c52,H⟩:=H
             have as2:=decide_eq_true c52
             clear c52
             replace H:=iS H;obtain ⟨c53,H⟩:=H
             have LF:=decide_eq_true c53
             (try simp only [mN] at LF)
             clear c53
             replace H:=iS H;obtain ⟨c54,H⟩:=H
             have amz:=decide_eq_true c54
             clear c54
             obtain ⟨Bb,Dy⟩:=nY (ri.set (jB:Int).toNat (wrap64 ((rd ri jB)+(wrap64 ((rd eI (sw)) * (rd bp nO))))):List Int)
             replace H:(bA.l6 k5 l0 bp bR eI Bb jB (wrap64 (nO+1)))=some r:=rH Dy.z H
             have H':=k0 H
             clear H
             obtain ⟨kJ,kV,rfl⟩:=Kd.cy aqK.z
             try go_wp2
             replace aqK:=k0 (Kd.fG aqK.z);replace bf:=k0 (Kd.fG bf.z);replace arY:=k0 (Kd.fG arY.z);replace HB:=k0 (aqW HB.z)
             obtain ⟨AG,AR⟩:=iN jB (ri.length:Int)
             obtain ⟨abz,e138,Ie⟩:=Kd.bM (Kd.aqP arY.z).2.2 jB AG AR
             cases e138
             replace AG:=eT AG
             replace AR:=eT AR
             obtain ⟨Pt,LX,Ei⟩:=Kd.cy bf.z
             (first|subst Ei|(injection Ei with gh jY fU;have jZ:=gh.symm;have arq:=fU.symm;clear gh jY fU;subst jZ;subst arq))
             have yO:0≤((sw):Int):=oD
             have yY:(sw) < (eI.length:Int):=oD
             obtain ⟨Le,e139,FA⟩:=Kd.bM (Kd.aqP bf.z).2.2 (sw) yO yY
             cases e139
             replace yO:=eT yO
             replace yY:=eT yY
             obtain ⟨qT,qY⟩:=iN nO (bp.length:Int)
             obtain ⟨zR,e140,su⟩:=Kd.bM (Kd.aqP aqK.z).2.2 nO qT qY
             cases e140
             replace qT:=eT qT
             replace qY:=eT qY
             have NV:0≤(jB:Int):=oD
             have Ob:(jB:Int) < ((ri.length:Int):Int):=oD
             obtain ⟨Eu,wO,SY,Tm,aeJ,anj,PY⟩:=Kd.qG arY.z (by omega)
             (first|cases SY|(injection SY with bC eo ek;(first|subst bC|(injection bC with bC;subst bC));subst ek;clear eo))
             have akK:=k0 Tm
             have YZ:=k0 PY
             clear Tm aeJ PY
             (first|simp only [add_plain] at Ie|skip)
             obtain ⟨agh,afN⟩:=Kd.kR 0 arY.z (jB:Int) NV Ob
             replace NV:=eT NV
             replace Ob:=eT Ob
             have Kr:=Kd.abg arY.z (jB:Int) (wrap64 ((rd ri jB)+(wrap64 ((rd eI (sw)) * (rd bp nO)))))
             rw [← Dy.z] at Kr
             have Qj:=k0 Kr
             clear Kr
             refine gz (n:=20) (S:=fun w'=>w'.cell? ⟨Eu,(jB).toNat,none⟩=some (.int .i64 (rd ri jB))∧w'.cell? (Le.add ((sw)).toNat)=some (.int .i64 (rd eI (sw)))∧w'.cell? (zR.add (nO).toNat)=some (.int .i64 (rd bp nO))) (ds:=[19]) (ba 20 0) (by kernel_rfl) rfl rfl ⟨Ie,FA,su⟩ (fun hHeld=>?_);refine hJ bA.aje bA.abZ (fun ak bE=>?_)
             generalize wr.drew=OU at aqK bf arY HB YZ Qj afN Ie FA su agh hHeld ⊢
             refine pu 0 (some 123) (ba 20 1) ak (h:=?_)
             refine pu 1 (some 124) (ba 20 3) ak (h:=?_)
             refine pu 2 (some 125) (ba 20 7) ak (h:=?_)
             refine pu 3 (some 126) (ba 20 15) ak (h:=?_)
             refine pu 4 (some 127) (ba 20 31) ak (h:=?_)
             refine pu 6 (some 129) (ba 20 95) ak (h:=?_)
             refine pu 7 (some 130) (ba 20 223) ak (h:=?_)
             refine pu 8 (some 131) (ba 20 479) ak (h:=?_)
             refine pu 9 (some 132) (ba 20 991) ak (h:=?_)
             refine pu 10 (some 133) (ba 20 2015) ak (h:=?_)
             refine pu 12 (some 135) (ba 20 6111) ak (h:=?_)
             refine pu 13 (some 136) (ba 20 14303) ak (h:=?_)
             refine pu 14 (some 137) (ba 20 30687) ak (h:=?_)
             refine ta 5 (some 128) (ba 20 30719) ak bE hHeld (hy:=Or.inl ⟨by rfl,by rintro w' ⟨s0,s1,s2⟩;go_simp;with_reducible rfl⟩) (h:=?_)
             refine ta 11 (some 134) (ba 20 32767) ak bE hHeld (hy:=Or.inl ⟨by rfl,by rintro w' ⟨s0,s1,s2⟩;go_simp;with_reducible rfl⟩) (h:=?_)
             refine ta 15 (some 138) (ba 20 65535) ak bE hHeld (hy:=Or.inl ⟨by rfl,by rintro w' ⟨s0,s1,s2⟩;go_simp;with_reducible rfl⟩) (h:=?_)
             refine pu 16 (some 139) (ba 20 131071) ak (h:=?_)
             refine pu 17 (some 140) (ba 20 262143) ak (h:=?_)
             refine pu 18 (some 141) (ba 20 524287) ak (h:=?_)
             refine tD (i:=19) (N:=none) (ba 20 1048575) rfl rfl (dU ak.out (by kernel_rfl)) (by decide) (fun K hK=>?_)
             refine oz (w1:=?_) (by rfl) rfl ?_ ?_
             rotate_left;· go_simp;rfl
             refine hK.out _ _ ?_
             clear hK K
             refine gx (gZ ak.out (by kernel_rfl)) ?_
             try go_wp2
             (try simp only [← mN])
             first|go_roundg k5|(simp only [← arQ];go_roundg k5)|(simp only [← nH];go_roundg k5)
             case measure=>have:=aI.z;have:=aqL.z;have:=dR.z;have:=iu.z;have:=jt.z;omega
             case rel=>exact ⟨(Bb),(wrap64 (nO+1)),rs,(by first|exact H'|(rw [arQ];exact H')|(rw [nH];exact H')),⟨by have:=aI.z;have:=aqL.z;have:=dR.z;have:=iu.z;have:=jt.z;omega⟩,⟨by (try simp only [mN]);(with_reducible repeat (first|apply Kd.qE|apply Kd.qF|apply Kd.fG));exact Kd.aqM (Kd.DC (p:=⟨Eu,(jB:Int).toNat,none⟩) (Kd.aqM aqK.z (fun k_ hk=>(⟨hk,fun e_=>hk.2 (by rw [e_];rfl)⟩:_∧k_ ≠ Eu))) (fun _ hk=>hk.2) (.int .i64 (wrap64 ((rd ri jB)+(wrap64 ((rd eI (sw)) * (rd bp nO))))))) (fun _ hk=>⟨hk.1.1,hk.1.2⟩)⟩,⟨by (try simp only [mN]);(with_reducible repeat (first|apply Kd.qE|apply Kd.qF|apply Kd.fG));exact Kd.aqM (Kd.DC (p:=⟨Eu,(jB:Int).toNat,none⟩) (Kd.aqM bf.z (fun k_ hk=>(⟨hk,fun e_=>hk.2 (by rw [e_];rfl)⟩:_∧k_ ≠ Eu))) (fun _ hk=>hk.2) (.int .i64 (wrap64 ((rd ri jB)+(wrap64 ((rd eI (sw)) * (rd bp nO))))))) (fun _ hk=>⟨hk.1.1,hk.1.2⟩)⟩,⟨by (try simp only [mN]);(with_reducible repeat (first|apply Kd.qE|apply Kd.qF|apply Kd.fG));exact Qj.out⟩,⟨aL HB.z⟩⟩
        obtain ⟨Xu,KX⟩:=nY (([]:List Int):List Int)
        replace H:(bA.l3 k3 l0 bp bR eI kG gA 0 Xu 0)=some r:=rH KX.z H
        have H':=k0 H
        clear H
        go_wp2_with (first|(refine aqI (N:=54) rfl ?_;refine Kd.gw (Kd.int .i64) _ 2 ?hg (N:=54) ?hd (xs:=([]:List Int)) (inner:=[]) (ok:=fun _=>True) (bw:=fun _=>True) ?hr ?hp (fun _ hk=>hk) trivial (Below.refl _ _) (Nat.le_refl _) (by simp) ?_;(case hd=>rfl);(case hg=>rfl);(case hr=>first|(go_simp;done)|(go_simp;rfl));(case hp=>exact (aH.none _ _));intro aph asR yt hb bH bI;clear bH bI;(first|rw [← KX.z] at yt|(simp only [Int.reduceToNat] at yt;rw [← KX.z] at yt));have Zy:=k0 (Kd.cA (Kd.kS (Kd.kS (Kd.kS yt (Kd.eZ (aR aqK.z))) (Kd.eZ (aR bf.z))) (Kd.eZ (aR cn.z))) (aqG bl));replace aqK:=l_ aqK (Kd.cm yt) hb;replace bf:=l_ bf (Kd.cm yt) hb;replace cn:=l_ cn (Kd.cm yt) hb;replace HB:=bW hb;clear hb yt))
        go_loopg [9,10,11] k3 (fun kq v9 v10 v11 w'=>∃ (xm:Int) (xe:List Int) (jA:Int),v9=.int .i64 xm∧v11=.int .i64 jA∧ai (bA.l3 kq l0 bp bR eI kG gA xm xe jA=some r)∧ai (kq≤k3)∧ai (Kd.R (Kd.int .i64) 2 w' w.heap.size (fun k_=>some k_ ≠ (u5:Value).ownBlock∧some k_ ≠ (u6:Value).ownBlock∧some k_ ≠ (v10:Value).ownBlock) u3 bp)∧ai (Kd.R (Kd.int .i64) 2 w' w.heap.size (fun k_=>some k_ ≠ (u3:Value).ownBlock∧some k_ ≠ (u6:Value).ownBlock∧some k_ ≠ (v10:Value).ownBlock) u5 eI)∧ai (Kd.R (Kd.int .i64) 2 w' w.heap.size (fun k_=>some k_ ≠ (u3:Value).ownBlock∧some k_ ≠ (u5:Value).ownBlock∧some k_ ≠ (v10:Value).ownBlock) u6 kG)∧ai (Kd.R (Kd.int .i64) 2 w' w.heap.size (fun k_=>some k_ ≠ (u3:Value).ownBlock∧some k_ ≠ (u5:Value).ownBlock∧some k_ ≠ (u6:Value).ownBlock) v10 xe)∧ai (Below w.heap.size w w'))
        case atStart=>exact ⟨(0),(Xu),(0),rs,rs,H',⟨Nat.le_refl _⟩,⟨aR (Kd.aqM aqK.z (fun _ hk=>⟨hk.1.1,⟨hk.1.2,hk.2⟩⟩))⟩,⟨aR (Kd.aqM bf.z (fun _ hk=>⟨hk.1.1,⟨hk.1.2,hk.2⟩⟩))⟩,⟨aR (Kd.aqM cn.z (fun _ hk=>⟨hk.1.1,⟨hk.1.2,hk.2⟩⟩))⟩,⟨aR (Kd.aqM Zy.z (fun _ hk=>⟨hk.1.1.2,⟨hk.1.2,hk.2⟩⟩))⟩,⟨bl⟩⟩
        case round =>
         clear H'
         obtain ⟨xm,xe,jA,rfl,rfl,HA,iu,aqK,bf,cn,qC,HB⟩:=hrel
         cases gk with
         | zero=>exact absurd HA.z (by simp [bA.l3])
         | succ k4 =>
          have H:=HA.z
          clear HA
          simp only [bA.l3] at H
          replace H:=iC H;obtain ⟨asZ,H⟩|⟨asZ,H⟩:=H
          case inl =>
           replace H:=iS H;obtain ⟨c38,H⟩:=H
           have aae:=k0 c38
           clear c38
           obtain ⟨mz,uk⟩:=nY (eI ++ [wrap64 (-xm)]:List Int)
           replace H:(bA.l2 k4 l0 bp bR mz xe (wrap64 (gA+1)))=some r:=rH uk.z H
           have H':=k0 H
           clear H
           go_wp2_with (first|((with_reducible refine ars (b:=.append) (xs:=#[.tmp 97,.tmp 100]) rfl ?_);at_builtin;refine Kd.asb (Kd.int .i64) (w0:=w) w.heap.size rfl (.tmp 97) (.tmp 100) 29 2 (.int .i64 0) 8 rfl Try.underlying29 lS rfl (by decide) (by omega) u5 eI (wrap64 (-xm)) [.int .i64 (wrap64 (-xm))] (fun k_=>some k_ ≠ (u3:Value).ownBlock∧some k_ ≠ (u6:Value).ownBlock∧some k_ ≠ (u10:Value).ownBlock) (fun _=>False) rfl rfl ?aP (fun _ hk=>hk.elim) ?aF ?aO ?aB ?aS ?aL ?_;(case aP=>exact rfl);(case aB=>exact bl);(case aF=>exact (fun k_ hk=>⟨Kd.fresh' (Kd.eZ (aR aqK.z)) k_ hk,Kd.fresh' (Kd.eZ (aR cn.z)) k_ hk,Kd.fresh' (Kd.eZ (aR qC.z)) k_ hk⟩));(case aO=>exact (aR bf.z));(case aS=>exact (aqG bl));(case aL=>have:=aae.out;omega);intro OH qt ho hb hg bg;rw [← uk.z] at ho;replace aqK:=k0 (Kd.arZ (ok:=(fun k_=>some k_ ≠ (u6:Value).ownBlock∧some k_ ≠ (u10:Value).ownBlock)) (aR (Kd.aqM aqK.z (fun _ hk=>⟨⟨hk.2.1,hk.2.2⟩,hk.1⟩))) hg bg);replace cn:=k0 (Kd.arZ (ok:=(fun k_=>some k_ ≠ (u3:Value).ownBlock∧some k_ ≠ (u10:Value).ownBlock)) (aR (Kd.aqM cn.z (fun _ hk=>⟨⟨hk.1,hk.2.2⟩,hk.2.1⟩))) hg bg);replace qC:=k0 (Kd.arZ (ok:=(fun k_=>some k_ ≠ (u3:Value).ownBlock∧some k_ ≠ (u6:Value).ownBlock)) (aR (Kd.aqM qC.z (fun _ hk=>⟨⟨hk.1,hk.2.2⟩,hk.2.1⟩))) hg bg);replace HB:=k0 (hb);have iQ:=k0 (ho);clear bf;clear ho hb hg bg))
           first|go_roundg k4|(simp only [← arQ];go_roundg k4)|(simp only [← nH];go_roundg k4)
           case measure=>have:=aI.z;have:=aqL.z;have:=dR.z;have:=iu.z;omega
           case rel=>exact ⟨(mz),(xe),(wrap64 (gA+1)),rs,(by first|exact H'|(rw [arQ];exact H')|(rw [nH];exact H')),⟨by have:=aI.z;have:=aqL.z;have:=dR.z;have:=iu.z;omega⟩,⟨aR (Kd.aqM aqK.z (fun _ hk=>⟨hk.2,hk.1.2⟩))⟩,⟨aR (Kd.aqM iQ.z (fun _ hk=>⟨hk.1,hk.2.2⟩))⟩,⟨aR (Kd.aqM qC.z (fun _ hk=>⟨hk.1.1,hk.2⟩))⟩,⟨bl⟩⟩
          replace H:=iS H;obtain ⟨c22,H⟩:=H
          have B2:=decide_eq_true c22
          clear c22
          replace H:=iS H;obtain ⟨c23,H⟩:=H
          have RX:=decide_eq_true c23
          clear c23
          replace H:=iS H;obtain ⟨c24,H⟩:=H
          have wM:=decide_eq_true c24
          clear c24
          replace H:=iS H;obtain ⟨c25,H⟩:=H
          have asz:=decide_eq_true c25
          clear c25
          replace H:=iS H;obtain ⟨c26,H⟩:=H
          have as0:=decide_eq_true c26
          clear c26
          have H':=k0 H
          clear H
          try go_wp2
          replace aqK:=k0 (Kd.fG aqK.z);replace bf:=k0 (Kd.fG bf.z);replace cn:=k0 (Kd.fG cn.z);replace qC:=k0 (Kd.fG qC.z);replace HB:=k0 (aqW HB.z)
          obtain ⟨AE,AP⟩:=iN bR (l0.length:Int)
          obtain ⟨Lc,aj9,acs,e126,wV,U5,UG⟩:=cD cP.z bR AE AP
          have af8:=wV
          obtain rfl:rB=Lc:=(by injection e126)
          replace wV:=hbc HB wV
          have Qo:=k0 UG
          have alh:=k0 U5
          clear UG U5
          replace AE:=eT AE
          replace AP:=eT AP
          obtain ⟨yK,yT⟩:=iN jA ((ah l0 bR).length:Int)
          obtain ⟨ar9,e127,yy⟩:=Kd.bM Qo.z jA yK yT
          have af9:=yy
          cases e127
          replace yy:=hbc HB yy
          replace yK:=eT yK
          replace yT:=eT yT
          obtain ⟨xw,qd,Eg⟩:=Kd.cy cn.z
          (first|subst Eg|(injection Eg with gh jY fU;have jZ:=gh.symm;have arq:=fU.symm;clear gh jY fU;subst jZ;subst arq))
          obtain ⟨tG,tI⟩:=iN jA (kG.length:Int)
          obtain ⟨rC,e128,wW⟩:=Kd.bM (Kd.aqP cn.z).2.2 jA tG tI
          cases e128
          replace tG:=eT tG
          replace tI:=eT tI
          refine gz (n:=15) (S:=fun w'=>w'.cell? (rB.add (bR).toNat)=some (.slice (some ar9) (ah l0 bR).length acs)∧w'.cell? (ar9.add (jA).toNat)=some (.int .i64 (rd (ah l0 bR) jA))∧w'.cell? (rC.add (jA).toNat)=some (.int .i64 (rd kG jA))) (ds:=[]) (ba 15 0) (by kernel_rfl) rfl rfl ⟨(hbc HB af8),(hbc HB af9),wW⟩ (fun hHeld=>?_);refine hJ bA.ajb bA.abW (fun ak bE=>?_)
          generalize wr.drew=rL at aqK bf cn qC HB Qo wV yy wW hHeld ⊢
          refine pu 0 (some 60) (ba 15 1) ak (h:=?_)
          refine pu 1 (some 61) (ba 15 3) ak (h:=?_)
          refine pu 2 (some 62) (ba 15 7) ak (h:=?_)
          refine pu 3 (some 63) (ba 15 15) ak (h:=?_)
          refine pu 5 (some 65) (ba 15 47) ak (h:=?_)
          refine pu 8 (some 68) (ba 15 303) ak (h:=?_)
          refine pu 9 (some 69) (ba 15 815) ak (h:=?_)
          refine pu 10 (some 70) (ba 15 1839) ak (h:=?_)
          refine ta 4 (some 64) (ba 15 1855) ak bE hHeld (hy:=Or.inl ⟨by rfl,by rintro w' ⟨s0,s1,s2⟩;go_simp;with_reducible rfl⟩) (h:=?_)
          refine pu 6 (some 66) (ba 15 1919) ak (h:=?_)
          refine ta 7 (some 67) (ba 15 2047) ak bE hHeld (hy:=Or.inl ⟨by rfl,by rintro w' ⟨s0,s1,s2⟩;go_simp;with_reducible rfl⟩) (h:=?_)
          refine ta 11 (some 71) (ba 15 4095) ak bE hHeld (hy:=Or.inl ⟨by rfl,by rintro w' ⟨s0,s1,s2⟩;go_simp;with_reducible rfl⟩) (h:=?_)
          refine pu 12 (some 72) (ba 15 8191) ak (h:=?_)
          refine pu 13 (some 73) (ba 15 16383) ak (h:=?_)
          refine pu 14 (some 9) (ba 15 32767) ak (h:=?_)
          refine gx (gZ ak.out (by kernel_rfl)) ?_
          try go_wp2
          go_loopg [12,13] k4 (fun kq asx F2 w'=>∃ (asV:Int) (rO:Int),asx=.int .i64 asV∧F2=.int .i64 rO∧ai (bA.l4 kq l0 bp bR eI kG gA (wrap64 (xm+(wrap64 ((rd (ah l0 bR) jA) * (rd kG jA))))) xe jA asV rO=some r)∧ai (kq≤k4)∧ai (Kd.R (Kd.int .i64) 2 w' w.heap.size (fun k_=>some k_ ≠ (u5:Value).ownBlock∧some k_ ≠ ((.slice (some rC) kG.length qd):Value).ownBlock∧some k_ ≠ (u10:Value).ownBlock) u3 bp)∧ai (Kd.R (Kd.int .i64) 2 w' w.heap.size (fun k_=>some k_ ≠ (u3:Value).ownBlock∧some k_ ≠ ((.slice (some rC) kG.length qd):Value).ownBlock∧some k_ ≠ (u10:Value).ownBlock) u5 eI)∧ai (Kd.R (Kd.int .i64) 2 w' w.heap.size (fun k_=>some k_ ≠ (u3:Value).ownBlock∧some k_ ≠ (u5:Value).ownBlock∧some k_ ≠ (u10:Value).ownBlock) (.slice (some rC) kG.length qd) kG)∧ai (Kd.R (Kd.int .i64) 2 w' w.heap.size (fun k_=>some k_ ≠ (u3:Value).ownBlock∧some k_ ≠ (u5:Value).ownBlock∧some k_ ≠ ((.slice (some rC) kG.length qd):Value).ownBlock) u10 xe)∧ai (Below w.heap.size w w'))
          case atStart=>exact ⟨(0),(0),rs,rs,H',⟨Nat.le_refl _⟩,⟨aR (aqK.z)⟩,⟨aR (bf.z)⟩,⟨aR (cn.z)⟩,⟨aR (qC.z)⟩,⟨bl⟩⟩
          case round =>
           clear H'
           obtain ⟨asV,rO,rfl,rfl,HA,jt,aqK,bf,cn,qC,HB⟩:=hrel
           cases gk with
           | zero=>exact absurd HA.z (by simp [bA.l4])
           | succ k5 =>
            have H:=HA.z
            clear HA
            simp only [bA.l4] at H
            replace H:=iC H;obtain ⟨G_,H⟩|⟨G_,H⟩:=H
            case inl =>
             replace H:=iS H;obtain ⟨c36,H⟩:=H
             have Du:=k0 c36
             clear c36
             obtain ⟨Xv,QL⟩:=nY (xe ++ [asV]:List Int)
             replace H:(bA.l3 k5 l0 bp bR eI kG gA (wrap64 (xm+(wrap64 ((rd (ah l0 bR) jA) * (rd kG jA))))) Xv (wrap64 (jA+1)))=some r:=rH QL.z H
             have H':=k0 H
             clear H
             go_wp2_with (first|((with_reducible refine ars (b:=.append) (xs:=#[.tmp 93,.tmp 95]) rfl ?_);at_builtin;refine Kd.asb (Kd.int .i64) (w0:=w) w.heap.size rfl (.tmp 93) (.tmp 95) 29 2 (.int .i64 0) 8 rfl Try.underlying29 lS rfl (by decide) (by omega) u10 xe asV [.int .i64 asV] (fun k_=>some k_ ≠ (u3:Value).ownBlock∧some k_ ≠ (u5:Value).ownBlock∧some k_ ≠ (.slice (some rC) kG.length qd:Value).ownBlock) (fun _=>False) rfl rfl ?aP (fun _ hk=>hk.elim) ?aF ?aO ?aB ?aS ?aL ?_;(case aP=>exact rfl);(case aB=>exact bl);(case aF=>exact (fun k_ hk=>⟨Kd.fresh' (Kd.eZ (aR aqK.z)) k_ hk,Kd.fresh' (Kd.eZ (aR bf.z)) k_ hk,Kd.fresh' (Kd.eZ (aR cn.z)) k_ hk⟩));(case aO=>exact (aR qC.z));(case aS=>exact (aqG bl));(case aL=>have:=Du.out;omega);intro apm OT ho hb hg bg;rw [← QL.z] at ho;replace aqK:=k0 (Kd.arZ (ok:=(fun k_=>some k_ ≠ (u5:Value).ownBlock∧some k_ ≠ (.slice (some rC) kG.length qd:Value).ownBlock)) (aR (Kd.aqM aqK.z (fun _ hk=>⟨⟨hk.1,hk.2.1⟩,hk.2.2⟩))) hg bg);replace bf:=k0 (Kd.arZ (ok:=(fun k_=>some k_ ≠ (u3:Value).ownBlock∧some k_ ≠ (.slice (some rC) kG.length qd:Value).ownBlock)) (aR (Kd.aqM bf.z (fun _ hk=>⟨⟨hk.1,hk.2.1⟩,hk.2.2⟩))) hg bg);replace cn:=k0 (Kd.arZ (ok:=(fun k_=>some k_ ≠ (u3:Value).ownBlock∧some k_ ≠ (u5:Value).ownBlock)) (aR (Kd.aqM cn.z (fun _ hk=>⟨⟨hk.1,hk.2.1⟩,hk.2.2⟩))) hg bg);replace HB:=k0 (hb);have Zz:=k0 (ho);clear qC;clear ho hb hg bg))
             first|go_roundg k5|(simp only [← arQ];go_roundg k5)|(simp only [← nH];go_roundg k5)
             case measure=>have:=aI.z;have:=aqL.z;have:=dR.z;have:=iu.z;have:=jt.z;omega
             case rel=>exact ⟨((wrap64 (xm+(wrap64 ((rd (ah l0 bR) jA) * (rd kG jA)))))),(Xv),(wrap64 (jA+1)),rs,rs,(by first|exact H'|(rw [arQ];exact H')|(rw [nH];exact H')),⟨by have:=aI.z;have:=aqL.z;have:=dR.z;have:=iu.z;have:=jt.z;omega⟩,⟨aR (Kd.aqM aqK.z (fun _ hk=>⟨hk.1.1,⟨hk.1.2,hk.2⟩⟩))⟩,⟨aR (Kd.aqM bf.z (fun _ hk=>⟨hk.1.1,⟨hk.1.2,hk.2⟩⟩))⟩,⟨aR (Kd.aqM cn.z (fun _ hk=>⟨hk.1.1,⟨hk.1.2,hk.2⟩⟩))⟩,⟨aR (Zz.z)⟩,⟨bl⟩⟩
            replace H:=iS H;obtain ⟨c30,H⟩:=H
            have RZ:=decide_eq_true c30
            clear c30
            replace H:=iS H;obtain ⟨c31,H⟩:=H
            have amt:=decide_eq_true c31
            clear c31
            replace H:=iS H;obtain ⟨c32,H⟩:=H
            have amu:=decide_eq_true c32
            clear c32
            replace H:=iS H;obtain ⟨c33,H⟩:=H
            have aty:=decide_eq_true c33
            clear c33
            replace H:=iS H;obtain ⟨c34,H⟩:=H
            have LB:=decide_eq_true c34
            clear c34
            have H':=k0 H
            clear H
            try go_wp2
            replace aqK:=k0 (Kd.fG aqK.z);replace bf:=k0 (Kd.fG bf.z);replace cn:=k0 (Kd.fG cn.z);replace qC:=k0 (Kd.fG qC.z);replace HB:=k0 (aqW HB.z)
            obtain ⟨ox,oy⟩:=iN jA (l0.length:Int)
            obtain ⟨BQ,sP,ar_,e129,mQ,uO,uI⟩:=cD cP.z jA ox oy
            have af':=mQ
            obtain rfl:rB=BQ:=(by injection e129)
            replace mQ:=hbc HB mQ
            have wD:=k0 uI
            have J_:=k0 uO
            clear uI uO
            replace ox:=eT ox
            replace oy:=eT oy
            obtain ⟨AF,AQ⟩:=iN rO ((ah l0 jA).length:Int)
            obtain ⟨GZ,e130,Fy⟩:=Kd.bM wD.z rO AF AQ
            have af_:=Fy
            cases e130
            replace Fy:=hbc HB Fy
            replace AF:=eT AF
            replace AQ:=eT AQ
            obtain ⟨yL,yU⟩:=iN rO (kG.length:Int)
            obtain ⟨Ld,e131,uY⟩:=Kd.bM (Kd.aqP cn.z).2.2 rO yL yU
            obtain rfl:rC=Ld:=(by injection e131)
            replace yL:=eT yL
            replace yU:=eT yU
            refine gz (n:=15) (S:=fun w'=>w'.cell? (rB.add (jA).toNat)=some (.slice (some GZ) (ah l0 jA).length ar_)∧w'.cell? (GZ.add (rO).toNat)=some (.int .i64 (rd (ah l0 jA) rO))∧w'.cell? (rC.add (rO).toNat)=some (.int .i64 (rd kG rO))) (ds:=[]) (ba 15 0) (by kernel_rfl) rfl rfl ⟨(hbc HB af'),(hbc HB af_),uY⟩ (fun hHeld=>?_);refine hJ bA.Ow bA.Lj (fun ak bE=>?_)
            generalize wr.drew=Jg at aqK bf cn qC HB wD mQ Fy uY hHeld ⊢
            refine pu 0 (some 79) (ba 15 1) ak (h:=?_)
            refine pu 1 (some 80) (ba 15 3) ak (h:=?_)
            refine pu 2 (some 81) (ba 15 7) ak (h:=?_)
            refine pu 3 (some 82) (ba 15 15) ak (h:=?_)
            refine pu 5 (some 84) (ba 15 47) ak (h:=?_)
            refine pu 8 (some 87) (ba 15 303) ak (h:=?_)
            refine pu 9 (some 88) (ba 15 815) ak (h:=?_)
            refine pu 10 (some 89) (ba 15 1839) ak (h:=?_)
            refine ta 4 (some 83) (ba 15 1855) ak bE hHeld (hy:=Or.inl ⟨by rfl,by rintro w' ⟨s0,s1,s2⟩;go_simp;with_reducible rfl⟩) (h:=?_)
            refine pu 6 (some 85) (ba 15 1919) ak (h:=?_)
            refine ta 7 (some 86) (ba 15 2047) ak bE hHeld (hy:=Or.inl ⟨by rfl,by rintro w' ⟨s0,s1,s2⟩;go_simp;with_reducible rfl⟩) (h:=?_)
            refine ta 11 (some 90) (ba 15 4095) ak bE hHeld (hy:=Or.inl ⟨by rfl,by rintro w' ⟨s0,s1,s2⟩;go_simp;with_reducible rfl⟩) (h:=?_)
            refine pu 12 (some 91) (ba 15 8191) ak (h:=?_)
            refine pu 13 (some 92) (ba 15 16383) ak (h:=?_)
            refine pu 14 (some 12) (ba 15 32767) ak (h:=?_)
            refine gx (gZ ak.out (by kernel_rfl)) ?_
            try go_wp2
            first|go_roundg k5|(simp only [← arQ];go_roundg k5)|(simp only [← nH];go_roundg k5)
            case measure=>have:=aI.z;have:=aqL.z;have:=dR.z;have:=iu.z;have:=jt.z;omega
            case rel=>exact ⟨(wrap64 (asV+(wrap64 ((rd (ah l0 jA) rO) * (rd kG rO))))),(wrap64 (rO+1)),rs,rs,(by first|exact H'|(rw [arQ];exact H')|(rw [nH];exact H')),⟨by have:=aI.z;have:=aqL.z;have:=dR.z;have:=iu.z;have:=jt.z;omega⟩,⟨aR (aqK.z)⟩,⟨aR (bf.z)⟩,⟨aR (cn.z)⟩,⟨aR (qC.z)⟩,⟨bl⟩⟩
     replace H:=iS H;obtain ⟨c12,H⟩:=H
     have arN:=decide_eq_true c12
     clear c12
     replace H:=iS H;obtain ⟨c13,H⟩:=H
     have arT:=decide_eq_true c13
     clear c13
     replace H:=iS H;obtain ⟨c14,H⟩:=H
     have mH:=decide_eq_true c14
     clear c14
     replace H:=iS H;obtain ⟨c15,H⟩:=H
     have kU:=decide_eq_true c15
     clear c15
     replace H:=iS H;obtain ⟨c16,H⟩:=H
     have wE:=k0 c16
     clear c16
     obtain ⟨asg,xN⟩:=nY (mY ++ [rd (ah l0 dQ) bR]:List Int)
     replace H:(bA.l1 k2 l0 bp bR qx asg (wrap64 (dQ+1)))=some r:=rH xN.z H
     have H':=k0 H
     clear H
     obtain ⟨qQ,qW⟩:=iN dQ (l0.length:Int)
     obtain ⟨BO,aj8,amh,e115,vY,U2,UD⟩:=cD cP.z dQ qQ qW
     obtain rfl:rB=BO:=(by injection e115)
     replace vY:=hbc HB vY
     have ZI:=k0 UD
     have ale:=k0 U2
     clear UD U2
     replace qQ:=eT qQ
     replace qW:=eT qW
     obtain ⟨AB,AM⟩:=iN bR ((ah l0 dQ).length:Int)
     obtain ⟨abr,e116,Ic⟩:=Kd.bM ZI.z bR AB AM
     cases e116
     replace Ic:=hbc HB Ic
     replace AB:=eT AB
     replace AM:=eT AM
     go_wp2_with (first|((with_reducible refine ars (b:=.append) (xs:=#[.tmp 39,.tmp 47]) rfl ?_);at_builtin;refine Kd.asb (Kd.int .i64) (w0:=w) w.heap.size rfl (.tmp 39) (.tmp 47) 29 2 (.int .i64 0) 8 rfl Try.underlying29 lS rfl (by decide) (by omega) u6 mY (rd (ah l0 dQ) bR) [.int .i64 (rd (ah l0 dQ) bR)] (fun k_=>some k_ ≠ (u3:Value).ownBlock∧some k_ ≠ (q4:Value).ownBlock) (fun _=>False) rfl rfl ?aP (fun _ hk=>hk.elim) ?aF ?aO ?aB ?aS ?aL ?_;(case aP=>exact rfl);(case aB=>exact bl);(case aF=>exact (fun k_ hk=>⟨Kd.fresh' (Kd.eZ (aR aqK.z)) k_ hk,Kd.fresh' (Kd.eZ (aR bf.z)) k_ hk⟩));(case aO=>exact (aR cn.z));(case aS=>exact (aqG bl));(case aL=>have:=wE.out;omega);intro apg y_ ho hb hg bg;rw [← xN.z] at ho;replace aqK:=k0 (Kd.arZ (ok:=(fun k_=>some k_ ≠ (q4:Value).ownBlock)) (aR aqK.z) hg bg);replace bf:=k0 (Kd.arZ (ok:=(fun k_=>some k_ ≠ (u3:Value).ownBlock)) (aR bf.z) hg bg);replace HB:=k0 (hb);have Zx:=k0 (ho);clear cn;clear ho hb hg bg))
     first|go_roundg k2|(simp only [← arQ];go_roundg k2)|(simp only [← nH];go_roundg k2)
     case measure=>have:=aI.z;have:=aqL.z;omega
     case rel=>exact ⟨(asg),(wrap64 (dQ+1)),rs,(by first|exact H'|(rw [arQ];exact H')|(rw [nH];exact H')),⟨by have:=aI.z;have:=aqL.z;omega⟩,⟨aR (aqK.z)⟩,⟨aR (bf.z)⟩,⟨aR (Zx.z)⟩,⟨bl⟩⟩
end Go.Proofs.Ytapnggjaeehpdaa.A
/- Set with little white space, by a program. -/
