/- Go's calls come to what the Lean functions say. Condition of each: that the Lean function answers. -/
import Derived.Test.YtapnggjaeehpdaaBx0
import Derived.Test.YtapnggjaeehpdaaBx13
namespace Go.Proofs.Ytapnggjaeehpdaa.B
open Go.RowKit Go.Proofs.bz.dI Go.Proofs.bz.iY Go.Proofs.bz.jn
attribute [local go_sem] max2_int min2_int max_two min_two max_three min_three max_four min_four
set_option linter.unusedVariables false
set_option linter.unusedSimpArgs false
/-! ### F82: function 82 -/
mutual
def bI.l0 : Nat → Int → List (List Int) → List Int → Int → Option (List Int)
 | 0,_,_,_,_=>none
 | k+1,x0,x1,x5,x6=>if x6 < (x1.length:Int) then (if 0≤x6 then (if x6 < ((ai x1 x6).length:Int) then ((xL.f x0 (wrap64 (-(rd (ai x1 x6) x6)))).bind fun t109=>(bI.l1 k x0 x1 x5 x6 (([1,t109]:List Int)) (([]:List Int)) 0)) else (none)) else (none)) else ((qt.f k x5).bind fun t104=>(some t104))
def bI.l1 : Nat → Int → List (List Int) → List Int → Int → List Int → List Int → Int → Option (List Int)
 | 0,_,_,_,_,_,_,_=>none
 | k+1,x0,x1,x5,x6,x7,x8,x9=>if x9 < x6 then (if 0≤x9 then (if x9 < (x1.length:Int) then (if 0≤x6 then (if x6 < ((ai x1 x9).length:Int) then (if x8.length < 17592186044416 then (bI.l1 k x0 x1 x5 x6 x7 (x8 ++ [rd (ai x1 x9) x6]) (wrap64 (x9+1))) else (none)) else (none)) else (none)) else (none)) else (none)) else (bI.l2 k x0 x1 x5 x6 x7 x8 0)
def bI.l2 : Nat → Int → List (List Int) → List Int → Int → List Int → List Int → Int → Option (List Int)
 | 0,_,_,_,_,_,_,_=>none
 | k+1,x0,x1,x5,x6,x7,x8,eS=>if eS < x6 then (bI.l3 k x0 x1 x5 x6 x7 x8 eS 0 (([]:List Int)) 0) else (if 0≤(wrap64 (x6+2)) then (if (wrap64 (x6+2):Int).toNat≤35184372088832 then (bI.l5 k x0 x1 x5 x6 x7 (List.replicate (wrap64 (x6+2):Int).toNat 0) 0) else (none)) else (none))
def bI.l3 : Nat → Int → List (List Int) → List Int → Int → List Int → List Int → Int → Int → List Int → Int → Option (List Int)
 | 0,_,_,_,_,_,_,_,_,_,_=>none
 | k+1,x0,x1,x5,x6,x7,x8,eS,atx,bA,b6=>if b6 < x6 then (if 0≤x6 then (if x6 < (x1.length:Int) then (if 0≤b6 then (if b6 < ((ai x1 x6).length:Int) then (if b6 < (x8.length:Int) then (if x0=0 then (none) else (bI.l4 k x0 x1 x5 x6 x7 x8 eS (Int.tmod (wrap64 (atx+(wrap64 ((rd (ai x1 x6) b6) * (rd x8 b6))))) x0) bA b6 0 0)) else (none)) else (none)) else (none)) else (none)) else (none)) else ((xL.f x0 (wrap64 (-atx))).bind fun t124=>(if x7.length < 17592186044416 then (bI.l2 k x0 x1 x5 x6 (x7 ++ [t124]) bA (wrap64 (eS+1))) else (none)))
def bI.l4 : Nat → Int → List (List Int) → List Int → Int → List Int → List Int → Int → Int → List Int → Int → Int → Int → Option (List Int)
 | 0,_,_,_,_,_,_,_,_,_,_,_,_=>none
 | k+1,x0,x1,x5,x6,x7,x8,eS,atx,bA,b6,nR,fu=>if fu < x6 then (if 0≤b6 then (if b6 < (x1.length:Int) then (if 0≤fu then (if fu < ((ai x1 b6).length:Int) then (if fu < (x8.length:Int) then (if x0=0 then (none) else (bI.l4 k x0 x1 x5 x6 x7 x8 eS atx bA b6 (Int.tmod (wrap64 (nR+(wrap64 ((rd (ai x1 b6) fu) * (rd x8 fu))))) x0) (wrap64 (fu+1)))) else (none)) else (none)) else (none)) else (none)) else (none)) else (if bA.length < 17592186044416 then (bI.l3 k x0 x1 x5 x6 x7 x8 eS atx (bA ++ [nR]) (wrap64 (b6+1))) else (none))
def bI.l5 : Nat → Int → List (List Int) → List Int → Int → List Int → List Int → Int → Option (List Int)
 | 0,_,_,_,_,_,_,_=>none
 | k+1,x0,x1,x5,x6,x7,atj,dQ=>if dQ < (atj.length:Int) then (bI.l6 k x0 x1 x5 x6 x7 atj dQ 0) else (bI.l0 k x0 x1 atj (wrap64 (x6+1)))
def bI.l6 : Nat → Int → List (List Int) → List Int → Int → List Int → List Int → Int → Int → Option (List Int)
 | 0,_,_,_,_,_,_,_,_=>none
 | k+1,x0,x1,x5,x6,x7,atj,dQ,jY=>if jY < (x5.length:Int) then (if jY≤dQ then (if 0≤dQ then (if dQ < (atj.length:Int) then (if 0≤(wrap64 (dQ - jY)) then (if (wrap64 (dQ - jY)) < (x7.length:Int) then (if 0≤jY then (if x0=0 then (none) else (bI.l6 k x0 x1 x5 x6 x7 (atj.set (dQ:Int).toNat (Int.tmod (wrap64 ((rd atj dQ)+(wrap64 ((rd x7 (wrap64 (dQ - jY))) * (rd x5 jY))))) x0)) dQ (wrap64 (jY+1)))) else (none)) else (none)) else (none)) else (none)) else (none)) else (bI.l5 k x0 x1 x5 x6 x7 atj (wrap64 (dQ+1)))) else (bI.l5 k x0 x1 x5 x6 x7 atj (wrap64 (dQ+1)))
end
def bI.f (k:Nat) (a0:Int) (l1:List (List Int)):Option (List Int):=bI.l0 k a0 l1 (([1]:List Int)) 0
def bI.TV:Bool × List (List Nat × List Nat):=(true,[([],[]),([],[]),([],[]),([1,2],[1,2]),([3],[3]),([],[]),([4,5],[4,5]),([6],[6]),([],[]),([],[]),([8,9],[8,9]),([10],[10]),([7,11],[7,11]),([0,12],[0,12]),([],[]),([13,14],[13,14]),([15,0,1,2,3,4,5,6,7,8,9,10,11,12,13,14,15],[0,15])])
def bI.B17:List Nat:=[0,0,0,6,14,0,62,126,0,0,768,1792,4094,8191,0,32767,65535]
theorem bI.akB:eB .any (opsOf Try.f82 17)=bI.TV:=by kernel_rfl
theorem bI.adv:ie bI.TV.2 bI.B17=true:=by kernel_rfl
def bI.TY:Bool × List (List Nat × List Nat):=(true,[([],[]),([],[]),([],[]),([1,2],[1,2]),([3],[3]),([],[]),([4,5],[4,5]),([6],[6]),([],[]),([],[]),([8,9],[8,9]),([10],[10]),([7,11],[7,11]),([0,12],[0,12]),([],[]),([13,14],[13,14]),([15,0,1,2,3,4,5,6,7,8,9,10,11,12,13,14,15],[0,15])])
def bI.B22:List Nat:=[0,0,0,6,14,0,62,126,0,0,768,1792,4094,8191,0,32767,65535]
theorem bI.akE:eB .any (opsOf Try.f82 22)=bI.TY:=by kernel_rfl
theorem bI.ady:ie bI.TY.2 bI.B22=true:=by kernel_rfl
def bI.T1:Bool × List (List Nat × List Nat):=(true,[([],[]),([],[]),([],[]),([],[]),([2,3],[2,3]),([4],[4]),([],[]),([],[]),([],[]),([7,8],[7,8]),([6,9],[6,9]),([10],[10]),([],[]),([],[]),([12,13],[12,13]),([14],[14]),([11,15],[11,15]),([5,16],[5,16]),([],[]),([17,18],[17,18]),([0,1,0,1,2,3,4,5,6,7,8,9,10,11,12,13,14,15,16,17,18,19],[0,1]),([20,19,0,1,2,3,4,5,6,7,8,9,10,11,12,13,14,15,16,17,18,19],[19,20])])
def bI.B33:List Nat:=[0,0,0,0,12,28,0,0,0,384,960,1984,0,0,12288,28672,65472,131068,0,524284,1048575,2097151]
theorem bI.akG:eB .any (opsOf Try.f82 33)=bI.T1:=by kernel_rfl
theorem bI.adA:ie bI.T1.2 bI.B33=true:=by kernel_rfl
set_option maxHeartbeats 8000000 in
set_option maxRecDepth 100000 in
theorem bI.calls (k : Nat) (a0 : Int) (A1 : Option Addr) (c1 : Nat) (l1 : List (List Int)) (r : List Int) (w : World) (gl : Kd.C (Kd.slice 2 (Kd.int .i64)) w A1 l1.length l1) (iQ : l1.length ≤ c1) (h : bI.f k a0 l1 = some r) :
  Calls Try.prog 82 #[.int .i64 a0,.slice A1 l1.length c1] w fun e w'=>∃ ati:Value,e=.returned (ati)∧Kd.R (Kd.int .i64) 2 w' w.heap.size (fun _=>True) ati r∧Below w.heap.size w w':=by
 have iM:=k0 gl
 have yE:=k0 iQ
 clear gl iQ
 have HB:=k0 (Below.refl w.heap.size w)
 unfold bI.f at h
 have H:=h
 clear h
 obtain ⟨atN,gH⟩:=nY (([1]:List Int):List Int)
 replace H:(bI.l0 k a0 l1 atN 0)=some r:=rH gH.z H
 have H':=k0 H
 clear H
 go_enter Try.func82,Try.ntmps82
 go_wp2_with (first|(refine aX (N:=19) rfl ?_;refine jM 2 (N:=19) (xs:=([1]:List Int)) (inner:=[.int .i64 1]) (aJ.one (show Kd.M (Kd.int .i64) _ _ _ 1 [.int .i64 1] from rfl) (aJ.none _ _)) ?_;intro nO w3 fM hb bR atf;clear bR atf;(first|rw [← gH.z] at fM|(simp only [Int.reduceToNat] at fM;rw [← gH.z] at fM));have eV:=k0 (Kd.cg fM (as8 bl));replace HB:=bW hb;clear hb fM))
 go_loopg [5,6] k (fun kq v5 v6 w'=>∃ (aD:List Int) (as1:Int),v6=.int .i64 as1∧af (bI.l0 kq a0 l1 aD as1=some r)∧af (kq≤k)∧af (Kd.R (Kd.int .i64) 2 w' w.heap.size (fun _=>True) v5 aD)∧af (Below w.heap.size w w'))
 case atStart=>exact ⟨(atN),(0),rs,H',⟨Nat.le_refl _⟩,⟨aR (eV.z)⟩,⟨bl⟩⟩
 case round =>
  clear H'
  obtain ⟨aD,as1,rfl,HA,as3,aq,HB⟩:=hrel
  cases gk with
  | zero=>exact absurd HA.z (by simp [bI.l0])
  | succ k1 =>
   have H:=HA.z
   clear HA
   simp only [bI.l0] at H
   replace H:=iC H;obtain ⟨gJ,H⟩|⟨gJ,H⟩:=H
   case inl =>
    replace H:=bS H;obtain ⟨t104,A69,H⟩:=H
    obtain rfl:=Option.some.inj H
    obtain ⟨aan,ae3,rfl⟩:=Kd.b9 aq.z
    go_wp2_with (first|(refine aT (f:=112) rfl ?_;refine gC (some 156) Try.func112 #[.slice aan aD.length ae3] ?_;(with_reducible refine (qt.calls k1 _ _ aD t104 _ ?av ?ax A69.z).mono ?_);(case av=>exact aC ((Kd.bD aq.z).2.2));(case ax=>exact (Kd.bD aq.z).2.1);rintro e w71 ⟨qV,rfl,as2,hb⟩;refine ⟨_,rfl,?_⟩;have dG:=k0 (Kd.cg (Kd.cU as2 (Kd.bV (aR aq.z))) (as8 bl));replace aq:=eO aq (Kd.bh as2) hb;replace HB:=bW hb))
    go_ret
    exact ⟨_,eR,aR (Kd.aH dG.z (fun _ hk=>trivial)),bl⟩
   replace H:=iS H;obtain ⟨c6,H⟩:=H
   have iP:=decide_eq_true c6
   clear c6
   replace H:=iS H;obtain ⟨c7,H⟩:=H
   have pn:=decide_eq_true c7
   clear c7
   replace H:=bS H;obtain ⟨t109,A8,H⟩:=H
   obtain ⟨tX,yO⟩:=nY (([1,t109]:List Int):List Int)
   replace H:(bI.l1 k1 a0 l1 aD as1 tX (([]:List Int)) 0)=some r:=rH yO.z H
   obtain ⟨vr,uq⟩:=nY (([]:List Int):List Int)
   replace H:(bI.l1 k1 a0 l1 aD as1 tX vr 0)=some r:=rH uq.z H
   have H':=k0 H
   clear H
   obtain ⟨jv,jw⟩:=iN as1 (l1.length:Int)
   obtain ⟨qA,Fl,Ga,e107,jt,wq,wj⟩:=b8 iM.z as1 jv jw
   cases e107
   replace jt:=hbc HB jt
   have z7:=k0 wj
   have Ja:=k0 wq
   clear wj wq
   replace jv:=eT jv
   replace jw:=eT jw
   obtain ⟨ia,ic⟩:=iN as1 ((ai l1 as1).length:Int)
   obtain ⟨ux,e108,jH⟩:=Kd.bK z7.z as1 ia ic
   cases e108
   replace jH:=hbc HB jH
   replace ia:=eT ia
   replace ic:=eT ic
   go_wp2_with (first|(refine aT (f:=120) rfl ?_;refine gC (some 35) Try.func120 #[.int .i64 a0,.int .i64 (wrap64 (-(rd (ai l1 as1) as1)))] ?_;(with_reducible refine (xL.calls a0 (wrap64 (-(rd (ai l1 as1) as1))) t109 _ A8.z).mono ?_);rintro e w' ⟨rfl,⟨nd,rfl⟩⟩;refine ⟨_,rfl,?_⟩)|(refine aX (N:=36) rfl ?_;refine jM 2 (N:=36) (xs:=([1,t109]:List Int)) (inner:=[.int .i64 1,.int .i64 t109]) (aJ.one (show Kd.M (Kd.int .i64) _ _ _ 1 [.int .i64 1] from rfl) (aJ.one (show Kd.M (Kd.int .i64) _ _ _ t109 [.int .i64 t109] from rfl) (aJ.none _ _))) ?_;intro zx w9 uH hb bR atf;clear bR atf;(first|rw [← yO.z] at uH|(simp only [Int.reduceToNat] at uH;rw [← yO.z] at uH));have nw:=k0 (Kd.cg (Kd.cU uH (Kd.bV (aR aq.z))) (as8 bl));replace aq:=eO aq (Kd.bh uH) hb;replace HB:=bW hb;clear hb uH)|(refine aX (N:=37) rfl ?_;refine jM 2 (N:=37) (xs:=([]:List Int)) (inner:=[]) (aJ.none _ _) ?_;intro Lr Bo su hb bR atf;clear bR atf;(first|rw [← uq.z] at su|(simp only [Int.reduceToNat] at su;rw [← uq.z] at su));have mD:=k0 (Kd.cg (Kd.cU (Kd.cU su (Kd.bV (aR aq.z))) (Kd.bV (aR nw.z))) (as8 bl));replace aq:=eO aq (Kd.bh su) hb;replace nw:=eO nw (Kd.bh su) hb;replace HB:=bW hb;clear hb su))
   go_loopg [8,9] k1 (fun kq v8 v9 w'=>∃ (cJ:List Int) (fZ:Int),v9=.int .i64 fZ∧af (bI.l1 kq a0 l1 aD as1 tX cJ fZ=some r)∧af (kq≤k1)∧af (Kd.R (Kd.int .i64) 2 w' w.heap.size (fun k_=>some k_ ≠ (zx:Value).ownBlock∧some k_ ≠ (v8:Value).ownBlock) u5 aD)∧af (Kd.R (Kd.int .i64) 2 w' w.heap.size (fun k_=>some k_ ≠ (u5:Value).ownBlock∧some k_ ≠ (v8:Value).ownBlock) zx tX)∧af (Kd.R (Kd.int .i64) 2 w' w.heap.size (fun k_=>some k_ ≠ (u5:Value).ownBlock∧some k_ ≠ (zx:Value).ownBlock) v8 cJ)∧af (Below w.heap.size w w'))
   case atStart=>exact ⟨(vr),(0),rs,H',⟨Nat.le_refl _⟩,⟨aR (Kd.aH aq.z (fun _ hk=>⟨hk.1.2,hk.2⟩))⟩,⟨aR (Kd.aH nw.z (fun _ hk=>⟨hk.1.2,hk.2⟩))⟩,⟨aR (Kd.aH mD.z (fun _ hk=>⟨hk.1.2,hk.2⟩))⟩,⟨bl⟩⟩
   case round =>
    clear H'
    obtain ⟨cJ,fZ,rfl,HA,bw,aq,bG,dx,HB⟩:=hrel
    cases gk with
    | zero=>exact absurd HA.z (by simp [bI.l1])
    | succ k2 =>
     have H:=HA.z
     clear HA
     simp only [bI.l1] at H
     replace H:=iC H;obtain ⟨qF,H⟩|⟨qF,H⟩:=H
     case inl =>
      have H':=k0 H
      clear H
      go_wp2
      go_loopg [7,8,10] k2 (fun kq v7 v8 v10 w'=>∃ (gP:List Int) (fe:List Int) (zC:Int),v10=.int .i64 zC∧af (bI.l2 kq a0 l1 aD as1 gP fe zC=some r)∧af (kq≤k2)∧af (Kd.R (Kd.int .i64) 2 w' w.heap.size (fun k_=>some k_ ≠ (v7:Value).ownBlock∧some k_ ≠ (v8:Value).ownBlock) u5 aD)∧af (Kd.R (Kd.int .i64) 2 w' w.heap.size (fun k_=>some k_ ≠ (u5:Value).ownBlock∧some k_ ≠ (v8:Value).ownBlock) v7 gP)∧af (Kd.R (Kd.int .i64) 2 w' w.heap.size (fun k_=>some k_ ≠ (u5:Value).ownBlock∧some k_ ≠ (v7:Value).ownBlock) v8 fe)∧af (Below w.heap.size w w'))
      case atStart=>exact ⟨(tX),(cJ),(0),rs,H',⟨Nat.le_refl _⟩,⟨aR (aq.z)⟩,⟨aR (bG.z)⟩,⟨aR (dx.z)⟩,⟨bl⟩⟩
      case round =>
       clear H'
       obtain ⟨gP,fe,zC,rfl,HA,cS,aq,bG,dx,HB⟩:=hrel
       cases gk with
       | zero=>exact absurd HA.z (by simp [bI.l2])
       | succ k3 =>
        have H:=HA.z
        clear HA
        simp only [bI.l2] at H
        replace H:=iC H;obtain ⟨au3,H⟩|⟨au3,H⟩:=H
        case inl =>
         obtain ⟨CT,oz⟩:∃ j_:Int,(wrap64 (as1+2))=j_:=⟨_,rfl⟩
         replace H:(if 0≤(CT) then (if (CT:Int).toNat≤35184372088832 then (bI.l5 k3 a0 l1 aD as1 gP (List.replicate (CT:Int).toNat 0) 0) else (none)) else (none))=some r:=by first|(rw [oz] at H;exact H)|(simp only [oz] at H ⊢;exact H)
         have aqg:(IntKind.i64.wrap (as1+2))=CT:=(bp _).trans oz
         replace H:=iS H;obtain ⟨c46,H⟩:=H
         have aei:=eq_true c46
         have anG:=decide_eq_true c46
         clear c46
         replace H:=iS H;obtain ⟨c47,H⟩:=H
         have Uv:=eq_true c47
         have anH:=decide_eq_true c47
         clear c47
         obtain ⟨Z9,Ns⟩:=nY (List.replicate (CT:Int).toNat 0:List Int)
         replace H:(bI.l5 k3 a0 l1 aD as1 gP Z9 0)=some r:=rH Ns.z H
         have H':=k0 H
         clear H
         go_wp2_with (first|(refine aX (N:=115) rfl ?_;refine Kd.Jw (Kd.int .i64) _ 2 rfl (N:=115) rfl 29 _ _ rfl CT rfl rfl Try.underlying29 (.int .i64 0) 8 ju rfl (by decide) (by omega) 0 (ok:=fun _=>True) (cm:=fun _=>True) rfl (fun _ hk=>hk) trivial oD (Nat.le_trans (Nat.mul_le_mul_right _ (oD:CT.toNat≤35184372088832)) (by omega)) (Below.refl _ _) (Nat.le_refl _) ?_;intro Rn Ly AQ hb bR atf;clear bR atf;(first|rw [← Ns.z] at AQ|(simp only [Int.reduceToNat] at AQ;rw [← Ns.z] at AQ));have abm:=k0 (Kd.cg (Kd.cU (Kd.cU (Kd.cU AQ (Kd.bV (aR aq.z))) (Kd.bV (aR bG.z))) (Kd.bV (aR dx.z))) (as8 bl));replace aq:=eO aq (Kd.bh AQ) hb;replace bG:=eO bG (Kd.bh AQ) hb;replace dx:=eO dx (Kd.bh AQ) hb;replace HB:=bW hb;clear hb AQ))
         go_loopg [17] k3 (fun kq C9 w'=>∃ (Bu:List Int) (ku:Int),C9=.int .i64 ku∧af (bI.l5 kq a0 l1 aD as1 gP Bu ku=some r)∧af (kq≤k3)∧af (Kd.R (Kd.int .i64) 2 w' w.heap.size (fun k_=>some k_ ≠ (u7:Value).ownBlock∧some k_ ≠ (Rn:Value).ownBlock) u5 aD)∧af (Kd.R (Kd.int .i64) 2 w' w.heap.size (fun k_=>some k_ ≠ (u5:Value).ownBlock∧some k_ ≠ (Rn:Value).ownBlock) u7 gP)∧af (Kd.R (Kd.int .i64) 2 w' w.heap.size (fun k_=>some k_ ≠ (u5:Value).ownBlock∧some k_ ≠ (u7:Value).ownBlock) Rn Bu)∧af (Below w.heap.size w w'))
         case atStart=>exact ⟨(Z9),(0),rs,H',⟨Nat.le_refl _⟩,⟨aR (Kd.aH aq.z (fun _ hk=>⟨hk.1.1,hk.2⟩))⟩,⟨aR (Kd.aH bG.z (fun _ hk=>⟨hk.1.1,hk.2⟩))⟩,⟨aR (Kd.aH abm.z (fun _ hk=>⟨hk.1.1.2,hk.1.2⟩))⟩,⟨bl⟩⟩
         case round =>
          clear H'
          obtain ⟨Bu,ku,rfl,HA,aty,aq,bG,fX,HB⟩:=hrel
          cases gk with
          | zero=>exact absurd HA.z (by simp [bI.l5])
          | succ k4 =>
           have H:=HA.z
           clear HA
           simp only [bI.l5] at H
           replace H:=iC H;obtain ⟨Uw,H⟩|⟨Uw,H⟩:=H
           case inl =>
            have H':=k0 H
            clear H
            obtain ⟨L5,Om,rfl⟩:=Kd.b9 fX.z
            go_wp2
            first|go_roundg k4|(simp only [← oz];go_roundg k4)|(simp only [← oA];go_roundg k4)
            case measure=>have:=as3.z;have:=bw.z;have:=cS.z;have:=aty.z;omega
            case rel=>exact ⟨(Bu),(wrap64 (as1+1)),rs,(by first|exact H'|(rw [oz];exact H')|(rw [oA];exact H')),⟨by have:=as3.z;have:=bw.z;have:=cS.z;have:=aty.z;omega⟩,⟨aR (Kd.aH fX.z (fun _ hk=>trivial))⟩,⟨bl⟩⟩
           have H':=k0 H
           clear H
           obtain ⟨yB,auC,rfl⟩:=Kd.b9 fX.z
           go_wp2
           go_loopg [18] k4 (fun kq v18 w'=>∃ (bU:List Int) (oU:Int),v18=.int .i64 oU∧af (bI.l6 kq a0 l1 aD as1 gP bU ku oU=some r)∧af (kq≤k4)∧af (Kd.R (Kd.int .i64) 2 w' w.heap.size (fun k_=>some k_ ≠ (u7:Value).ownBlock∧some k_ ≠ ((.slice yB Bu.length auC):Value).ownBlock) u5 aD)∧af (Kd.R (Kd.int .i64) 2 w' w.heap.size (fun k_=>some k_ ≠ (u5:Value).ownBlock∧some k_ ≠ ((.slice yB Bu.length auC):Value).ownBlock) u7 gP)∧af (Kd.R (Kd.int .i64) 2 w' w.heap.size (fun k_=>some k_ ≠ (u5:Value).ownBlock∧some k_ ≠ (u7:Value).ownBlock) (.slice yB Bu.length auC) bU)∧af (Below w.heap.size w w'))
           case atStart=>exact ⟨(Bu),(0),rs,H',⟨Nat.le_refl _⟩,⟨aR (aq.z)⟩,⟨aR (bG.z)⟩,⟨aR (fX.z)⟩,⟨bl⟩⟩
           case round =>
            clear H'
            obtain ⟨bU,oU,rfl,HA,iu,aq,bG,fX,HB⟩:=hrel
            have auf:=(Kd.bD fX.z).1
            rw [auf] at fX
            (try simp only [auf])
            (try simp only [auf] at aq)
            (try simp only [auf] at bG)
            cases gk with
            | zero=>exact absurd HA.z (by simp [bI.l6])
            | succ k5 =>
             have H:=HA.z
             clear HA
             simp only [bI.l6] at H
             by_cases c52:oU < (aD.length:Int)
             case neg =>
              rw [if_neg c52] at H
              have rz:=decide_eq_false c52
              (try simp only [auf] at rz)
              clear c52
              have H':=k0 H
              clear H
              obtain ⟨rS,r7,rfl⟩:=Kd.b9 aq.z
              go_wp2
              (try simp only [← auf])
              first|go_roundg k5|(simp only [← oz];go_roundg k5)|(simp only [← oA];go_roundg k5)
              case measure=>have:=as3.z;have:=bw.z;have:=cS.z;have:=aty.z;have:=iu.z;omega
              case rel=>exact ⟨(bU),(wrap64 (ku+1)),rs,(by first|exact H'|(rw [oz];exact H')|(rw [oA];exact H')),⟨by have:=as3.z;have:=bw.z;have:=cS.z;have:=aty.z;have:=iu.z;omega⟩,⟨by (try simp only [auf]);(with_reducible repeat (first|apply Kd.kT|apply Kd.kU|apply Kd.di));exact aq.z⟩,⟨by (try simp only [auf]);(with_reducible repeat (first|apply Kd.kT|apply Kd.kU|apply Kd.di));exact bG.z⟩,⟨by (try simp only [auf]);(with_reducible repeat (first|apply Kd.kT|apply Kd.kU|apply Kd.di));exact fX.z⟩,⟨bl⟩⟩
             rw [if_pos c52] at H
             have rz:=decide_eq_true c52
             (try simp only [auf] at rz)
             clear c52
             replace H:=iC H;obtain ⟨Ux,H⟩|⟨Ux,H⟩:=H
             case inl =>
              have H':=k0 H
              clear H
              obtain ⟨amg,aoX,rfl⟩:=Kd.b9 aq.z
              go_wp2
              (try simp only [← auf])
              first|go_roundg k5|(simp only [← oz];go_roundg k5)|(simp only [← oA];go_roundg k5)
              case measure=>have:=as3.z;have:=bw.z;have:=cS.z;have:=aty.z;have:=iu.z;omega
              case rel=>exact ⟨(bU),(wrap64 (ku+1)),rs,(by first|exact H'|(rw [oz];exact H')|(rw [oA];exact H')),⟨by have:=as3.z;have:=bw.z;have:=cS.z;have:=aty.z;have:=iu.z;omega⟩,⟨by (try simp only [auf]);(with_reducible repeat (first|apply Kd.kT|apply Kd.kU|apply Kd.di));exact aq.z⟩,⟨by (try simp only [auf]);(with_reducible repeat (first|apply Kd.kT|apply Kd.kU|apply Kd.di));exact bG.z⟩,⟨by (try simp only [auf]);(with_reducible repeat (first|apply Kd.kT|apply Kd.kU|apply Kd.di));exact fX.z⟩,⟨bl⟩⟩
             replace H:=iS H;obtain ⟨c54,H⟩:=H
             have Uy:=decide_eq_true c54
             clear c54
             replace H:=iS H;obtain ⟨c55,H⟩:=H
             have ael:=decide_eq_true c55
             (try simp only [auf] at ael)
             clear c55
             obtain ⟨tK,oA⟩:∃ j_:Int,(wrap64 (ku - oU))=j_:=⟨_,rfl⟩
             replace H:(if 0≤(tK) then (if (tK) < (gP.length:Int) then (if 0≤oU then (if a0=0 then (none) else (bI.l6 k5 a0 l1 aD as1 gP (bU.set (ku:Int).toNat (Int.tmod (wrap64 ((rd bU ku)+(wrap64 ((rd gP (tK)) * (rd aD oU))))) a0)) ku (wrap64 (oU+1)))) else (none)) else (none)) else (none))=some r:=by first|(rw [oA] at H;exact H)|(simp only [oA] at H ⊢;exact H)
             have aqh:(IntKind.i64.wrap (ku - oU))=tK:=(bp _).trans oA
             replace H:=iS H;obtain ⟨c57,H⟩:=H
             have Uz:=decide_eq_true c57
             clear c57
             replace H:=iS H;obtain ⟨c58,H⟩:=H
             have aem:=decide_eq_true c58
             (try simp only [auf] at aem)
             clear c58
             replace H:=iS H;obtain ⟨c59,H⟩:=H
             have Er:=decide_eq_true c59
             clear c59
             by_cases c60:a0=0
             case neg =>
              rw [if_neg c60] at H
              have Gd:=beq_eq_false_iff_ne.mpr c60
              have JT:=bne_iff_ne.mpr c60
              obtain ⟨IP,FT⟩:=nY (bU.set (ku:Int).toNat (Int.tmod (wrap64 ((rd bU ku)+(wrap64 ((rd gP (tK)) * (rd aD oU))))) a0):List Int)
              replace H:(bI.l6 k5 a0 l1 aD as1 gP IP ku (wrap64 (oU+1)))=some r:=rH FT.z H
              have H':=k0 H
              clear H
              obtain ⟨ua,uB,rfl⟩:=Kd.b9 aq.z
              try go_wp2
              replace aq:=k0 (Kd.di aq.z);replace bG:=k0 (Kd.di bG.z);replace fX:=k0 (Kd.di fX.z);replace HB:=k0 (eZ HB.z)
              obtain ⟨uW,uZ⟩:=iN ku (bU.length:Int)
              obtain ⟨Ef,e140,tI⟩:=Kd.bK (Kd.bD fX.z).2.2 ku uW uZ
              cases e140
              replace uW:=eT uW
              replace uZ:=eT uZ
              obtain ⟨ame,aoV,Vp⟩:=Kd.b9 bG.z
              (first|subst Vp|(injection Vp with atu jq fc;have jr:=atu.symm;have js:=fc.symm;clear atu jq fc;subst jr;subst js))
              have uX:0≤((tK):Int):=oD
              have u_:(tK) < (gP.length:Int):=oD
              obtain ⟨Eg,e141,tJ⟩:=Kd.bK (Kd.bD bG.z).2.2 (tK) uX u_
              cases e141
              replace uX:=eT uX
              replace u_:=eT u_
              obtain ⟨C1,C4⟩:=iN oU (aD.length:Int)
              obtain ⟨JF,e142,avJ⟩:=Kd.bK (Kd.bD aq.z).2.2 oU C1 C4
              cases e142
              replace C1:=eT C1
              replace C4:=eT C4
              have Qz:0≤(ku:Int):=oD
              have Q0:(ku:Int) < ((bU.length:Int):Int):=oD
              obtain ⟨GI,aoT,Vn,VR,afU,aoB,SD⟩:=Kd.aun fX.z (by omega)
              (first|cases Vn|(injection Vn with atd atk dM;(first|subst atd|(injection atd with atd;subst atd));subst dM;clear atk))
              have amo:=k0 VR
              have aaV:=k0 SD
              clear VR afU SD
              (first|simp only [add_plain] at tI|skip)
              obtain ⟨ahE,ag2⟩:=Kd.nA 0 fX.z (ku:Int) Qz Q0
              replace Qz:=eT Qz
              replace Q0:=eT Q0
              have MH:=Kd.Jy fX.z (ku:Int) (Int.tmod (wrap64 ((rd bU ku)+(wrap64 ((rd gP (tK)) * (rd aD oU))))) a0)
              rw [← FT.z] at MH
              have SY:=k0 MH
              clear MH
              refine atG (n:=22) (S:=fun w'=>w'.cell? ⟨GI,(ku).toNat,none⟩=some (.int .i64 (rd bU ku))∧w'.cell? (Eg.add ((tK)).toNat)=some (.int .i64 (rd gP (tK)))∧w'.cell? (JF.add (oU).toNat)=some (.int .i64 (rd aD oU))) (ds:=[21]) (ba 22 0) (by kernel_rfl) rfl rfl ⟨tI,tJ,avJ⟩ (fun hHeld=>?_);refine jX bI.akG bI.adA (fun aj bP=>?_)
              generalize wr.drew=RH at aq bG fX HB aaV SY ag2 tI tJ avJ ahE hHeld ⊢
              refine pu 0 (some 133) (ba 22 1) aj (h:=?_)
              refine pu 1 (some 134) (ba 22 3) aj (h:=?_)
              refine pu 2 (some 135) (ba 22 7) aj (h:=?_)
              refine pu 3 (some 136) (ba 22 15) aj (h:=?_)
              refine pu 4 (some 137) (ba 22 31) aj (h:=?_)
              refine pu 6 (some 139) (ba 22 95) aj (h:=?_)
              refine pu 7 (some 140) (ba 22 223) aj (h:=?_)
              refine pu 8 (some 141) (ba 22 479) aj (h:=?_)
              refine pu 9 (some 142) (ba 22 991) aj (h:=?_)
              refine pu 10 (some 143) (ba 22 2015) aj (h:=?_)
              refine pu 12 (some 145) (ba 22 6111) aj (h:=?_)
              refine pu 13 (some 146) (ba 22 14303) aj (h:=?_)
              refine pu 14 (some 147) (ba 22 30687) aj (h:=?_)
              refine pu 18 (some 151) (ba 22 292831) aj (h:=?_)
              refine jA 5 (some 138) (ba 22 292863) aj bP hHeld (h:=?_)
              refine jA 11 (some 144) (ba 22 294911) aj bP hHeld (h:=?_)
              refine jA 15 (some 148) (ba 22 327679) aj bP hHeld (h:=?_)
              refine pu 16 (some 149) (ba 22 393215) aj (h:=?_)
              refine pu 17 (some 150) (ba 22 524287) aj (h:=?_)
              refine pu 19 (some 152) (ba 22 1048575) aj (h:=?_)
              refine pu 20 (some 153) (ba 22 2097151) aj (h:=?_)
              refine oK (i:=21) (N:=none) (ba 22 4194303) rfl rfl (atq aj.out (by kernel_rfl)) (by decide) (fun K hK=>?_)
              refine lf (w1:=?_) (by rfl) rfl ?_ ?_
              rotate_left;· go_simp;rfl
              refine hK.out _ _ ?_
              clear hK K
              refine gY (jU aj.out (by kernel_rfl)) ?_
              try go_wp2
              (try simp only [← auf])
              first|go_roundg k5|(simp only [← oz];go_roundg k5)|(simp only [← oA];go_roundg k5)
              case measure=>have:=as3.z;have:=bw.z;have:=cS.z;have:=aty.z;have:=iu.z;omega
              case rel=>exact ⟨(IP),(wrap64 (oU+1)),rs,(by first|exact H'|(rw [oz];exact H')|(rw [oA];exact H')),⟨by have:=as3.z;have:=bw.z;have:=cS.z;have:=aty.z;have:=iu.z;omega⟩,⟨by (try simp only [auf]);(with_reducible repeat (first|apply Kd.kT|apply Kd.kU|apply Kd.di));exact Kd.aH (Kd.D9 (p:=⟨GI,(ku:Int).toNat,none⟩) (Kd.aH aq.z (fun k_ hk=>(⟨hk,fun e_=>hk.2 (by rw [e_];rfl)⟩:_∧k_ ≠ GI))) (fun _ hk=>hk.2) (.int .i64 (Int.tmod (wrap64 ((rd bU ku)+(wrap64 ((rd gP (tK)) * (rd aD oU))))) a0))) (fun _ hk=>⟨hk.1.1,hk.1.2⟩)⟩,⟨by (try simp only [auf]);(with_reducible repeat (first|apply Kd.kT|apply Kd.kU|apply Kd.di));exact Kd.aH (Kd.D9 (p:=⟨GI,(ku:Int).toNat,none⟩) (Kd.aH bG.z (fun k_ hk=>(⟨hk,fun e_=>hk.2 (by rw [e_];rfl)⟩:_∧k_ ≠ GI))) (fun _ hk=>hk.2) (.int .i64 (Int.tmod (wrap64 ((rd bU ku)+(wrap64 ((rd gP (tK)) * (rd aD oU))))) a0))) (fun _ hk=>⟨hk.1.1,hk.1.2⟩)⟩,⟨by (try simp only [auf]);(with_reducible repeat (first|apply Kd.kT|apply Kd.kU|apply Kd.di));exact SY.out⟩,⟨aL HB.z⟩⟩
             rw [if_pos c60] at H
             exact absurd H (by simp)
        obtain ⟨qY,rW⟩:=nY (([]:List Int):List Int)
        replace H:(bI.l3 k3 a0 l1 aD as1 gP fe zC 0 qY 0)=some r:=rH rW.z H
        have H':=k0 H
        clear H
        go_wp2_with (first|(refine aX (N:=58) rfl ?_;refine jM 2 (N:=58) (xs:=([]:List Int)) (inner:=[]) (aJ.none _ _) ?_;intro Ls Lw AP hb bR atf;clear bR atf;(first|rw [← rW.z] at AP|(simp only [Int.reduceToNat] at AP;rw [← rW.z] at AP));have iL:=k0 (Kd.cg (Kd.cU (Kd.cU (Kd.cU AP (Kd.bV (aR aq.z))) (Kd.bV (aR bG.z))) (Kd.bV (aR dx.z))) (as8 bl));replace aq:=eO aq (Kd.bh AP) hb;replace bG:=eO bG (Kd.bh AP) hb;replace dx:=eO dx (Kd.bh AP) hb;replace HB:=bW hb;clear hb AP))
        go_loopg [11,12,13] k3 (fun kq v11 sD tQ w'=>∃ (Bs:Int) (zE:List Int) (kr:Int),v11=.int .i64 Bs∧tQ=.int .i64 kr∧af (bI.l3 kq a0 l1 aD as1 gP fe zC Bs zE kr=some r)∧af (kq≤k3)∧af (Kd.R (Kd.int .i64) 2 w' w.heap.size (fun k_=>some k_ ≠ (u7:Value).ownBlock∧some k_ ≠ (u8:Value).ownBlock∧some k_ ≠ (sD:Value).ownBlock) u5 aD)∧af (Kd.R (Kd.int .i64) 2 w' w.heap.size (fun k_=>some k_ ≠ (u5:Value).ownBlock∧some k_ ≠ (u8:Value).ownBlock∧some k_ ≠ (sD:Value).ownBlock) u7 gP)∧af (Kd.R (Kd.int .i64) 2 w' w.heap.size (fun k_=>some k_ ≠ (u5:Value).ownBlock∧some k_ ≠ (u7:Value).ownBlock∧some k_ ≠ (sD:Value).ownBlock) u8 fe)∧af (Kd.R (Kd.int .i64) 2 w' w.heap.size (fun k_=>some k_ ≠ (u5:Value).ownBlock∧some k_ ≠ (u7:Value).ownBlock∧some k_ ≠ (u8:Value).ownBlock) sD zE)∧af (Below w.heap.size w w'))
        case atStart=>exact ⟨(0),(qY),(0),rs,rs,H',⟨Nat.le_refl _⟩,⟨aR (Kd.aH aq.z (fun _ hk=>⟨hk.1.1,⟨hk.1.2,hk.2⟩⟩))⟩,⟨aR (Kd.aH bG.z (fun _ hk=>⟨hk.1.1,⟨hk.1.2,hk.2⟩⟩))⟩,⟨aR (Kd.aH dx.z (fun _ hk=>⟨hk.1.1,⟨hk.1.2,hk.2⟩⟩))⟩,⟨aR (Kd.aH iL.z (fun _ hk=>⟨hk.1.1.2,⟨hk.1.2,hk.2⟩⟩))⟩,⟨bl⟩⟩
        case round =>
         clear H'
         obtain ⟨Bs,zE,kr,rfl,rfl,HA,aty,aq,bG,dx,cK,HB⟩:=hrel
         cases gk with
         | zero=>exact absurd HA.z (by simp [bI.l3])
         | succ k4 =>
          have H:=HA.z
          clear HA
          simp only [bI.l3] at H
          replace H:=iC H;obtain ⟨yZ,H⟩|⟨yZ,H⟩:=H
          case inl =>
           replace H:=bS H;obtain ⟨t124,L1,H⟩:=H
           replace H:=iS H;obtain ⟨c43,H⟩:=H
           have Nj:=k0 c43
           clear c43
           obtain ⟨IK,FQ⟩:=nY (gP ++ [t124]:List Int)
           replace H:(bI.l2 k4 a0 l1 aD as1 IK zE (wrap64 (zC+1)))=some r:=rH FQ.z H
           have H':=k0 H
           clear H
           go_wp2_with (first|(refine aT (f:=120) rfl ?_;refine gC (some 109) Try.func120 #[.int .i64 a0,.int .i64 (wrap64 (-Bs))] ?_;(with_reducible refine (xL.calls a0 (wrap64 (-Bs)) t124 _ L1.z).mono ?_);rintro e w' ⟨rfl,⟨nd,rfl⟩⟩;refine ⟨_,rfl,?_⟩)|((with_reducible refine ji (b:=.append) (xs:=#[.tmp 105,.tmp 110]) rfl ?_);at_builtin;refine Kd.oh (Kd.int .i64) (w0:=w) w.heap.size rfl (.tmp 105) (.tmp 110) 29 2 (.int .i64 0) 8 rfl Try.underlying29 ju rfl (by decide) (by omega) u7 gP t124 [.int .i64 t124] (fun k_=>some k_ ≠ (u5:Value).ownBlock∧some k_ ≠ (u8:Value).ownBlock∧some k_ ≠ (u12:Value).ownBlock) (fun _=>False) rfl rfl ?aP (fun _ hk=>hk.elim) ?aF ?aO ?aB ?aS ?aL ?_;(case aP=>exact rfl);(case aB=>exact bl);(case aF=>exact (fun k_ hk=>⟨Kd.fresh' (Kd.bV (aR aq.z)) k_ hk,Kd.fresh' (Kd.bV (aR dx.z)) k_ hk,Kd.fresh' (Kd.bV (aR cK.z)) k_ hk⟩));(case aO=>exact (aR bG.z));(case aS=>exact (as8 bl));(case aL=>have:=Nj.out;omega);intro Zt RD ho hb hg a_;rw [← FQ.z] at ho;replace aq:=k0 (Kd.s7 (ok:=(fun k_=>some k_ ≠ (u8:Value).ownBlock∧some k_ ≠ (u12:Value).ownBlock)) (aR (Kd.aH aq.z (fun _ hk=>⟨⟨hk.2.1,hk.2.2⟩,hk.1⟩))) hg a_);replace dx:=k0 (Kd.s7 (ok:=(fun k_=>some k_ ≠ (u5:Value).ownBlock∧some k_ ≠ (u12:Value).ownBlock)) (aR (Kd.aH dx.z (fun _ hk=>⟨⟨hk.1,hk.2.2⟩,hk.2.1⟩))) hg a_);replace cK:=k0 (Kd.s7 (ok:=(fun k_=>some k_ ≠ (u5:Value).ownBlock∧some k_ ≠ (u8:Value).ownBlock)) (aR (Kd.aH cK.z (fun _ hk=>⟨⟨hk.1,hk.2.2⟩,hk.2.1⟩))) hg a_);replace HB:=k0 hb;have pY:=k0 ho;clear bG;clear ho hb hg a_))
           first|go_roundg k4|(simp only [← oz];go_roundg k4)|(simp only [← oA];go_roundg k4)
           case measure=>have:=as3.z;have:=bw.z;have:=cS.z;have:=aty.z;omega
           case rel=>exact ⟨(IK),(zE),(wrap64 (zC+1)),rs,(by first|exact H'|(rw [oz];exact H')|(rw [oA];exact H')),⟨by have:=as3.z;have:=bw.z;have:=cS.z;have:=aty.z;omega⟩,⟨aR (Kd.aH aq.z (fun _ hk=>⟨hk.2,hk.1.2⟩))⟩,⟨aR (Kd.aH pY.z (fun _ hk=>⟨hk.1,hk.2.2⟩))⟩,⟨aR (Kd.aH cK.z (fun _ hk=>⟨hk.1.1,hk.2⟩))⟩,⟨bl⟩⟩
          replace H:=iS H;obtain ⟨c24,H⟩:=H
          have Aq:=decide_eq_true c24
          clear c24
          replace H:=iS H;obtain ⟨c25,H⟩:=H
          have Ce:=decide_eq_true c25
          clear c25
          replace H:=iS H;obtain ⟨c26,H⟩:=H
          have Cf:=decide_eq_true c26
          clear c26
          replace H:=iS H;obtain ⟨c27,H⟩:=H
          have N0:=decide_eq_true c27
          clear c27
          replace H:=iS H;obtain ⟨c28,H⟩:=H
          have N1:=decide_eq_true c28
          clear c28
          by_cases c29:a0=0
          case neg =>
           rw [if_neg c29] at H
           have ad7:=beq_eq_false_iff_ne.mpr c29
           have ad8:=bne_iff_ne.mpr c29
           have H':=k0 H
           clear H
           try go_wp2
           replace aq:=k0 (Kd.di aq.z);replace bG:=k0 (Kd.di bG.z);replace dx:=k0 (Kd.di dx.z);replace cK:=k0 (Kd.di cK.z);replace HB:=k0 (eZ HB.z)
           obtain ⟨Qi,QF⟩:=iN as1 (l1.length:Int)
           obtain ⟨acX,alN,adS,e128,KE,XD,Xl⟩:=b8 iM.z as1 Qi QF
           have ahq:=KE
           obtain rfl:qA=acX:=(by injection e128)
           replace KE:=hbc HB KE
           have S4:=k0 Xl
           have amP:=k0 XD
           clear Xl XD
           replace Qi:=eT Qi
           replace QF:=eT QF
           obtain ⟨nJ,mO⟩:=iN kr ((ai l1 as1).length:Int)
           obtain ⟨avq,e129,qM⟩:=Kd.bK S4.z kr nJ mO
           have ahr:=qM
           cases e129
           replace qM:=hbc HB qM
           replace nJ:=eT nJ
           replace mO:=eT mO
           obtain ⟨xI,pz,Ve⟩:=Kd.b9 dx.z
           (first|subst Ve|(injection Ve with atu jq fc;have jr:=atu.symm;have js:=fc.symm;clear atu jq fc;subst jr;subst js))
           obtain ⟨Qj,QG⟩:=iN kr (fe.length:Int)
           obtain ⟨xZ,e130,X4⟩:=Kd.bK (Kd.bD dx.z).2.2 kr Qj QG
           cases e130
           replace Qj:=eT Qj
           replace QG:=eT QG
           refine atG (n:=17) (S:=fun w'=>w'.cell? (qA.add (as1).toNat)=some (.slice (some avq) (ai l1 as1).length adS)∧w'.cell? (avq.add (kr).toNat)=some (.int .i64 (rd (ai l1 as1) kr))∧w'.cell? (xZ.add (kr).toNat)=some (.int .i64 (rd fe kr))) (ds:=[]) (ba 17 0) (by kernel_rfl) rfl rfl ⟨(hbc HB ahq),(hbc HB ahr),X4⟩ (fun hHeld=>?_);refine jX bI.akB bI.adv (fun aj bP=>?_)
           generalize wr.drew=Bp at aq bG dx cK HB S4 KE qM X4 hHeld ⊢
           refine pu 0 (some 64) (ba 17 1) aj (h:=?_)
           refine pu 1 (some 65) (ba 17 3) aj (h:=?_)
           refine pu 2 (some 66) (ba 17 7) aj (h:=?_)
           refine pu 3 (some 67) (ba 17 15) aj (h:=?_)
           refine pu 5 (some 69) (ba 17 47) aj (h:=?_)
           refine pu 8 (some 72) (ba 17 303) aj (h:=?_)
           refine pu 9 (some 73) (ba 17 815) aj (h:=?_)
           refine pu 10 (some 74) (ba 17 1839) aj (h:=?_)
           refine pu 14 (some 78) (ba 17 18223) aj (h:=?_)
           refine jA 4 (some 68) (ba 17 18239) aj bP hHeld (h:=?_)
           refine pu 6 (some 70) (ba 17 18303) aj (h:=?_)
           refine jA 7 (some 71) (ba 17 18431) aj bP hHeld (h:=?_)
           refine jA 11 (some 75) (ba 17 20479) aj bP hHeld (h:=?_)
           refine pu 12 (some 76) (ba 17 24575) aj (h:=?_)
           refine pu 13 (some 77) (ba 17 32767) aj (h:=?_)
           refine pu 15 (some 79) (ba 17 65535) aj (h:=?_)
           refine pu 16 (some 11) (ba 17 131071) aj (h:=?_)
           refine gY (jU aj.out (by kernel_rfl)) ?_
           try go_wp2
           go_loopg [14,15] k4 (fun kq Ro Rp w'=>∃ (Di:Int) (sI:Int),Ro=.int .i64 Di∧Rp=.int .i64 sI∧af (bI.l4 kq a0 l1 aD as1 gP fe zC (Int.tmod (wrap64 (Bs+(wrap64 ((rd (ai l1 as1) kr) * (rd fe kr))))) a0) zE kr Di sI=some r)∧af (kq≤k4)∧af (Kd.R (Kd.int .i64) 2 w' w.heap.size (fun k_=>some k_ ≠ (u7:Value).ownBlock∧some k_ ≠ ((.slice (some xZ) fe.length pz):Value).ownBlock∧some k_ ≠ (u12:Value).ownBlock) u5 aD)∧af (Kd.R (Kd.int .i64) 2 w' w.heap.size (fun k_=>some k_ ≠ (u5:Value).ownBlock∧some k_ ≠ ((.slice (some xZ) fe.length pz):Value).ownBlock∧some k_ ≠ (u12:Value).ownBlock) u7 gP)∧af (Kd.R (Kd.int .i64) 2 w' w.heap.size (fun k_=>some k_ ≠ (u5:Value).ownBlock∧some k_ ≠ (u7:Value).ownBlock∧some k_ ≠ (u12:Value).ownBlock) (.slice (some xZ) fe.length pz) fe)∧af (Kd.R (Kd.int .i64) 2 w' w.heap.size (fun k_=>some k_ ≠ (u5:Value).ownBlock∧some k_ ≠ (u7:Value).ownBlock∧some k_ ≠ ((.slice (some xZ) fe.length pz):Value).ownBlock) u12 zE)∧af (Below w.heap.size w w'))
           case atStart=>exact ⟨(0),(0),rs,rs,H',⟨Nat.le_refl _⟩,⟨aR (aq.z)⟩,⟨aR (bG.z)⟩,⟨aR (dx.z)⟩,⟨aR (cK.z)⟩,⟨bl⟩⟩
           case round =>
            clear H'
            obtain ⟨Di,sI,rfl,rfl,HA,iu,aq,bG,dx,cK,HB⟩:=hrel
            cases gk with
            | zero=>exact absurd HA.z (by simp [bI.l4])
            | succ k5 =>
             have H:=HA.z
             clear HA
             simp only [bI.l4] at H
             replace H:=iC H;obtain ⟨Ch,H⟩|⟨Ch,H⟩:=H
             case inl =>
              replace H:=iS H;obtain ⟨c40,H⟩:=H
              have ab3:=k0 c40
              clear c40
              obtain ⟨Z8,Tq⟩:=nY (zE ++ [Di]:List Int)
              replace H:(bI.l3 k5 a0 l1 aD as1 gP fe zC (Int.tmod (wrap64 (Bs+(wrap64 ((rd (ai l1 as1) kr) * (rd fe kr))))) a0) Z8 (wrap64 (kr+1)))=some r:=rH Tq.z H
              have H':=k0 H
              clear H
              go_wp2_with (first|((with_reducible refine ji (b:=.append) (xs:=#[.tmp 101,.tmp 103]) rfl ?_);at_builtin;refine Kd.oh (Kd.int .i64) (w0:=w) w.heap.size rfl (.tmp 101) (.tmp 103) 29 2 (.int .i64 0) 8 rfl Try.underlying29 ju rfl (by decide) (by omega) u12 zE Di [.int .i64 Di] (fun k_=>some k_ ≠ (u5:Value).ownBlock∧some k_ ≠ (u7:Value).ownBlock∧some k_ ≠ (.slice (some xZ) fe.length pz:Value).ownBlock) (fun _=>False) rfl rfl ?aP (fun _ hk=>hk.elim) ?aF ?aO ?aB ?aS ?aL ?_;(case aP=>exact rfl);(case aB=>exact bl);(case aF=>exact (fun k_ hk=>⟨Kd.fresh' (Kd.bV (aR aq.z)) k_ hk,Kd.fresh' (Kd.bV (aR bG.z)) k_ hk,Kd.fresh' (Kd.bV (aR dx.z)) k_ hk⟩));(case aO=>exact (aR cK.z));(case aS=>exact (as8 bl));(case aL=>have:=ab3.out;omega);intro Zu w41 ho hb hg a_;rw [← Tq.z] at ho;replace aq:=k0 (Kd.s7 (ok:=(fun k_=>some k_ ≠ (u7:Value).ownBlock∧some k_ ≠ (.slice (some xZ) fe.length pz:Value).ownBlock)) (aR (Kd.aH aq.z (fun _ hk=>⟨⟨hk.1,hk.2.1⟩,hk.2.2⟩))) hg a_);replace bG:=k0 (Kd.s7 (ok:=(fun k_=>some k_ ≠ (u5:Value).ownBlock∧some k_ ≠ (.slice (some xZ) fe.length pz:Value).ownBlock)) (aR (Kd.aH bG.z (fun _ hk=>⟨⟨hk.1,hk.2.1⟩,hk.2.2⟩))) hg a_);replace dx:=k0 (Kd.s7 (ok:=(fun k_=>some k_ ≠ (u5:Value).ownBlock∧some k_ ≠ (u7:Value).ownBlock)) (aR (Kd.aH dx.z (fun _ hk=>⟨⟨hk.1,hk.2.1⟩,hk.2.2⟩))) hg a_);replace HB:=k0 hb;have z5:=k0 ho;clear cK;clear ho hb hg a_))
              first|go_roundg k5|(simp only [← oz];go_roundg k5)|(simp only [← oA];go_roundg k5)
              case measure=>have:=as3.z;have:=bw.z;have:=cS.z;have:=aty.z;have:=iu.z;omega
              case rel=>exact ⟨((Int.tmod (wrap64 (Bs+(wrap64 ((rd (ai l1 as1) kr) * (rd fe kr))))) a0)),(Z8),(wrap64 (kr+1)),rs,rs,(by first|exact H'|(rw [oz];exact H')|(rw [oA];exact H')),⟨by have:=as3.z;have:=bw.z;have:=cS.z;have:=aty.z;have:=iu.z;omega⟩,⟨aR (Kd.aH aq.z (fun _ hk=>⟨hk.1.1,⟨hk.1.2,hk.2⟩⟩))⟩,⟨aR (Kd.aH bG.z (fun _ hk=>⟨hk.1.1,⟨hk.1.2,hk.2⟩⟩))⟩,⟨aR (Kd.aH dx.z (fun _ hk=>⟨hk.1.1,⟨hk.1.2,hk.2⟩⟩))⟩,⟨aR (z5.z)⟩,⟨bl⟩⟩
             replace H:=iS H;obtain ⟨c33,H⟩:=H
             have aeb:=decide_eq_true c33
             clear c33
             replace H:=iS H;obtain ⟨c34,H⟩:=H
             have uy:=decide_eq_true c34
             clear c34
             replace H:=iS H;obtain ⟨c35,H⟩:=H
             have N3:=decide_eq_true c35
             clear c35
             replace H:=iS H;obtain ⟨c36,H⟩:=H
             have Eo:=decide_eq_true c36
             clear c36
             replace H:=iS H;obtain ⟨c37,H⟩:=H
             have N4:=decide_eq_true c37
             clear c37
             by_cases c38:a0=0
             case neg =>
              rw [if_neg c38] at H
              have N5:=beq_eq_false_iff_ne.mpr c38
              have aed:=bne_iff_ne.mpr c38
              have H':=k0 H
              clear H
              try go_wp2
              replace aq:=k0 (Kd.di aq.z);replace bG:=k0 (Kd.di bG.z);replace dx:=k0 (Kd.di dx.z);replace cK:=k0 (Kd.di cK.z);replace HB:=k0 (eZ HB.z)
              obtain ⟨Qk,QH⟩:=iN kr (l1.length:Int)
              obtain ⟨acY,alO,adV,e131,KF,XE,Xm⟩:=b8 iM.z kr Qk QH
              have ahs:=KF
              obtain rfl:qA=acY:=(by injection e131)
              replace KF:=hbc HB KF
              have S5:=k0 Xm
              have amQ:=k0 XE
              clear Xm XE
              replace Qk:=eT Qk
              replace QH:=eT QH
              obtain ⟨Ql,QI⟩:=iN sI ((ai l1 kr).length:Int)
              obtain ⟨T',e132,KG⟩:=Kd.bK S5.z sI Ql QI
              have aht:=KG
              cases e132
              replace KG:=hbc HB KG
              replace Ql:=eT Ql
              replace QI:=eT QI
              obtain ⟨tN,tO⟩:=iN sI (fe.length:Int)
              obtain ⟨Ah,e133,wP⟩:=Kd.bK (Kd.bD dx.z).2.2 sI tN tO
              obtain rfl:xZ=Ah:=(by injection e133)
              replace tN:=eT tN
              replace tO:=eT tO
              refine atG (n:=17) (S:=fun w'=>w'.cell? (qA.add (kr).toNat)=some (.slice (some T') (ai l1 kr).length adV)∧w'.cell? (T'.add (sI).toNat)=some (.int .i64 (rd (ai l1 kr) sI))∧w'.cell? (xZ.add (sI).toNat)=some (.int .i64 (rd fe sI))) (ds:=[]) (ba 17 0) (by kernel_rfl) rfl rfl ⟨(hbc HB ahs),(hbc HB aht),wP⟩ (fun hHeld=>?_);refine jX bI.akE bI.ady (fun aj bP=>?_)
              generalize wr.drew=Db at aq bG dx cK HB S5 KF KG wP hHeld ⊢
              refine pu 0 (some 85) (ba 17 1) aj (h:=?_)
              refine pu 1 (some 86) (ba 17 3) aj (h:=?_)
              refine pu 2 (some 87) (ba 17 7) aj (h:=?_)
              refine pu 3 (some 88) (ba 17 15) aj (h:=?_)
              refine pu 5 (some 90) (ba 17 47) aj (h:=?_)
              refine pu 8 (some 93) (ba 17 303) aj (h:=?_)
              refine pu 9 (some 94) (ba 17 815) aj (h:=?_)
              refine pu 10 (some 95) (ba 17 1839) aj (h:=?_)
              refine pu 14 (some 99) (ba 17 18223) aj (h:=?_)
              refine jA 4 (some 89) (ba 17 18239) aj bP hHeld (h:=?_)
              refine pu 6 (some 91) (ba 17 18303) aj (h:=?_)
              refine jA 7 (some 92) (ba 17 18431) aj bP hHeld (h:=?_)
              refine jA 11 (some 96) (ba 17 20479) aj bP hHeld (h:=?_)
              refine pu 12 (some 97) (ba 17 24575) aj (h:=?_)
              refine pu 13 (some 98) (ba 17 32767) aj (h:=?_)
              refine pu 15 (some 100) (ba 17 65535) aj (h:=?_)
              refine pu 16 (some 14) (ba 17 131071) aj (h:=?_)
              refine gY (jU aj.out (by kernel_rfl)) ?_
              try go_wp2
              first|go_roundg k5|(simp only [← oz];go_roundg k5)|(simp only [← oA];go_roundg k5)
              case measure=>have:=as3.z;have:=bw.z;have:=cS.z;have:=aty.z;have:=iu.z;omega
              case rel=>exact ⟨(Int.tmod (wrap64 (Di+(wrap64 ((rd (ai l1 kr) sI) * (rd fe sI))))) a0),(wrap64 (sI+1)),rs,rs,(by first|exact H'|(rw [oz];exact H')|(rw [oA];exact H')),⟨by have:=as3.z;have:=bw.z;have:=cS.z;have:=aty.z;have:=iu.z;omega⟩,⟨aR (aq.z)⟩,⟨aR (bG.z)⟩,⟨aR (dx.z)⟩,⟨aR (cK.z)⟩,⟨bl⟩⟩
             rw [if_pos c38] at H
             exact absurd H (by simp)
          rw [if_pos c29] at H
          exact absurd H (by simp)
     replace H:=iS H;obtain ⟨c14,H⟩:=H
     have ov:=decide_eq_true c14
     clear c14
     replace H:=iS H;obtain ⟨c15,H⟩:=H
     have qG:=decide_eq_true c15
     clear c15
     replace H:=iS H;obtain ⟨c16,H⟩:=H
     have auo:=decide_eq_true c16
     clear c16
     replace H:=iS H;obtain ⟨c17,H⟩:=H
     have Ap:=decide_eq_true c17
     clear c17
     replace H:=iS H;obtain ⟨c18,H⟩:=H
     have abX:=k0 c18
     clear c18
     obtain ⟨lq,og⟩:=nY (cJ ++ [rd (ai l1 fZ) as1]:List Int)
     replace H:(bI.l1 k2 a0 l1 aD as1 tX lq (wrap64 (fZ+1)))=some r:=rH og.z H
     have H':=k0 H
     clear H
     obtain ⟨qh,qi⟩:=iN fZ (l1.length:Int)
     obtain ⟨Ec,RY,Up,e116,tG,AK,AD⟩:=b8 iM.z fZ qh qi
     obtain rfl:qA=Ec:=(by injection e116)
     replace tG:=hbc HB tG
     have BX:=k0 AD
     have Sn:=k0 AK
     clear AD AK
     replace qh:=eT qh
     replace qi:=eT qi
     obtain ⟨auT,auX⟩:=iN as1 ((ai l1 fZ).length:Int)
     obtain ⟨avW,e117,KD⟩:=Kd.bK BX.z as1 auT auX
     cases e117
     replace KD:=hbc HB KD
     replace auT:=eT auT
     replace auX:=eT auX
     go_wp2_with (first|((with_reducible refine ji (b:=.append) (xs:=#[.tmp 43,.tmp 51]) rfl ?_);at_builtin;refine Kd.oh (Kd.int .i64) (w0:=w) w.heap.size rfl (.tmp 43) (.tmp 51) 29 2 (.int .i64 0) 8 rfl Try.underlying29 ju rfl (by decide) (by omega) u8 cJ (rd (ai l1 fZ) as1) [.int .i64 (rd (ai l1 fZ) as1)] (fun k_=>some k_ ≠ (u5:Value).ownBlock∧some k_ ≠ (zx:Value).ownBlock) (fun _=>False) rfl rfl ?aP (fun _ hk=>hk.elim) ?aF ?aO ?aB ?aS ?aL ?_;(case aP=>exact rfl);(case aB=>exact bl);(case aF=>exact (fun k_ hk=>⟨Kd.fresh' (Kd.bV (aR aq.z)) k_ hk,Kd.fresh' (Kd.bV (aR bG.z)) k_ hk⟩));(case aO=>exact (aR dx.z));(case aS=>exact (as8 bl));(case aL=>have:=abX.out;omega);intro tP C_ ho hb hg a_;rw [← og.z] at ho;replace aq:=k0 (Kd.s7 (ok:=(fun k_=>some k_ ≠ (zx:Value).ownBlock)) (aR aq.z) hg a_);replace bG:=k0 (Kd.s7 (ok:=(fun k_=>some k_ ≠ (u5:Value).ownBlock)) (aR bG.z) hg a_);replace HB:=k0 hb;have lS:=k0 ho;clear dx;clear ho hb hg a_))
     first|go_roundg k2|(simp only [← oz];go_roundg k2)|(simp only [← oA];go_roundg k2)
     case measure=>have:=as3.z;have:=bw.z;omega
     case rel=>exact ⟨(lq),(wrap64 (fZ+1)),rs,(by first|exact H'|(rw [oz];exact H')|(rw [oA];exact H')),⟨by have:=as3.z;have:=bw.z;omega⟩,⟨aR (aq.z)⟩,⟨aR (bG.z)⟩,⟨aR (lS.z)⟩,⟨bl⟩⟩
end Go.Proofs.Ytapnggjaeehpdaa.B
/- Set with little white space, by a program. -/
