/- Go's calls come to what the Lean functions say. Condition of each: that the Lean function answers. -/
import Derived.Test.YtgjdbnipcpmhiaaPx0
import Derived.Test.YtgjdbnipcpmhiaaPx2
namespace Go.Proofs.Ytgjdbnipcpmhiaa.P
open Go.RowKit Go.Proofs.YtgjdbnipcpmhiaaW.PrintWords Go.Proofs.YtgjdbnipcpmhiaaW.PrintLast Go.Proofs.YtgjdbnipcpmhiaaW.PrintMore
attribute [local go_sem] max2_int min2_int max_two min_two max_three min_three max_four min_four
set_option linter.unusedVariables false
set_option linter.unusedSimpArgs false
/-! ### F98: function 98 -/
mutual
def F98.l0 : Nat → List (List Int) → List Int → Int → Option (List Int)
 | 0,_,_,_=>none
 | k+1,x0,x3,x4=>if x4 < (x0.length:Int) then (if 0≤x4 then (if x4 < ((rd_L1 x0 x4).length:Int) then (F98.l1 k x0 x3 x4 (([1,wrap64 (-(rd (rd_L1 x0 x4) x4))]:List Int)) (([]:List Int)) 0) else (none)) else (none)) else ((F90.f k x3).bind fun t104=>(some t104))
def F98.l1 : Nat → List (List Int) → List Int → Int → List Int → List Int → Int → Option (List Int)
 | 0,_,_,_,_,_,_=>none
 | k+1,x0,x3,x4,x5,x6,x7=>if x7 < x4 then (if 0≤x7 then (if x7 < (x0.length:Int) then (if 0≤x4 then (if x4 < ((rd_L1 x0 x7).length:Int) then (if x6.length < 17592186044416 then (F98.l1 k x0 x3 x4 x5 (x6 ++ [rd (rd_L1 x0 x7) x4]) (wrap64 (x7+1))) else (none)) else (none)) else (none)) else (none)) else (none)) else (F98.l2 k x0 x3 x4 x5 x6 0)
def F98.l2 : Nat → List (List Int) → List Int → Int → List Int → List Int → Int → Option (List Int)
 | 0,_,_,_,_,_,_=>none
 | k+1,x0,x3,x4,x5,x6,x8=>if x8 < x4 then (F98.l3 k x0 x3 x4 x5 x6 x8 0 (([]:List Int)) 0) else (if 0≤(wrap64 (x4+2)) then (if (wrap64 (x4+2):Int).toNat≤35184372088832 then (F98.l5 k x0 x3 x4 x5 (List.replicate (wrap64 (x4+2):Int).toNat 0) 0) else (none)) else (none))
def F98.l3 : Nat → List (List Int) → List Int → Int → List Int → List Int → Int → Int → List Int → Int → Option (List Int)
 | 0,_,_,_,_,_,_,_,_,_=>none
 | k+1,x0,x3,x4,x5,x6,x8,x9,x10,x11=>if x11 < x4 then (if 0≤x4 then (if x4 < (x0.length:Int) then (if 0≤x11 then (if x11 < ((rd_L1 x0 x4).length:Int) then (if x11 < (x6.length:Int) then (F98.l4 k x0 x3 x4 x5 x6 x8 (wrap64 (x9+(wrap64 ((rd (rd_L1 x0 x4) x11) * (rd x6 x11))))) x10 x11 0 0) else (none)) else (none)) else (none)) else (none)) else (none)) else (if x5.length < 17592186044416 then (F98.l2 k x0 x3 x4 (x5 ++ [wrap64 (-x9)]) x10 (wrap64 (x8+1))) else (none))
def F98.l4 : Nat → List (List Int) → List Int → Int → List Int → List Int → Int → Int → List Int → Int → Int → Int → Option (List Int)
 | 0,_,_,_,_,_,_,_,_,_,_,_=>none
 | k+1,x0,x3,x4,x5,x6,x8,x9,x10,x11,x12,x13=>if x13 < x4 then (if 0≤x11 then (if x11 < (x0.length:Int) then (if 0≤x13 then (if x13 < ((rd_L1 x0 x11).length:Int) then (if x13 < (x6.length:Int) then (F98.l4 k x0 x3 x4 x5 x6 x8 x9 x10 x11 (wrap64 (x12+(wrap64 ((rd (rd_L1 x0 x11) x13) * (rd x6 x13))))) (wrap64 (x13+1))) else (none)) else (none)) else (none)) else (none)) else (none)) else (if x10.length < 17592186044416 then (F98.l3 k x0 x3 x4 x5 x6 x8 x9 (x10 ++ [x12]) (wrap64 (x11+1))) else (none))
def F98.l5 : Nat → List (List Int) → List Int → Int → List Int → List Int → Int → Option (List Int)
 | 0,_,_,_,_,_,_=>none
 | k+1,x0,x3,x4,x5,x14,x15=>if x15 < (x14.length:Int) then (F98.l6 k x0 x3 x4 x5 x14 x15 0) else (F98.l0 k x0 x14 (wrap64 (x4+1)))
def F98.l6 : Nat → List (List Int) → List Int → Int → List Int → List Int → Int → Int → Option (List Int)
 | 0,_,_,_,_,_,_,_=>none
 | k+1,x0,x3,x4,x5,x14,x15,x16=>if x16 < (x3.length:Int) then (if x16≤x15 then (if 0≤x15 then (if x15 < (x14.length:Int) then (if 0≤(wrap64 (x15 - x16)) then (if (wrap64 (x15 - x16)) < (x5.length:Int) then (if 0≤x16 then (F98.l6 k x0 x3 x4 x5 (x14.set (x15:Int).toNat (wrap64 ((rd x14 x15)+(wrap64 ((rd x5 (wrap64 (x15 - x16))) * (rd x3 x16)))))) x15 (wrap64 (x16+1))) else (none)) else (none)) else (none)) else (none)) else (none)) else (F98.l5 k x0 x3 x4 x5 x14 (wrap64 (x15+1)))) else (F98.l5 k x0 x3 x4 x5 x14 (wrap64 (x15+1)))
end
def F98.f (k:Nat) (l0:List (List Int)):Option (List Int):=F98.l0 k l0 (([1]:List Int)) 0
def F98.T17:Bool × List (List Nat × List Nat):=(true,[([],[]),([],[]),([],[]),([1,2],[1,2]),([3],[3]),([],[]),([4,5],[4,5]),([6],[6]),([],[]),([],[]),([8,9],[8,9]),([10],[10]),([7,11],[7,11]),([0,12],[0,12]),([13,0,1,2,3,4,5,6,7,8,9,10,11,12,13],[0,13])])
def F98.B17:List Nat:=[0,0,0,6,14,0,62,126,0,0,768,1792,4094,8191,16383]
theorem F98.tab17:rtab .any (opsOf Try.f98 17)=F98.T17:=by kernel_rfl
theorem F98.bits17:waitsOk F98.T17.2 F98.B17=true:=by kernel_rfl
def F98.T22:Bool × List (List Nat × List Nat):=(true,[([],[]),([],[]),([],[]),([1,2],[1,2]),([3],[3]),([],[]),([4,5],[4,5]),([6],[6]),([],[]),([],[]),([8,9],[8,9]),([10],[10]),([7,11],[7,11]),([0,12],[0,12]),([13,0,1,2,3,4,5,6,7,8,9,10,11,12,13],[0,13])])
def F98.B22:List Nat:=[0,0,0,6,14,0,62,126,0,0,768,1792,4094,8191,16383]
theorem F98.tab22:rtab .any (opsOf Try.f98 22)=F98.T22:=by kernel_rfl
theorem F98.bits22:waitsOk F98.T22.2 F98.B22=true:=by kernel_rfl
def F98.T33:Bool × List (List Nat × List Nat):=(true,[([],[]),([],[]),([],[]),([],[]),([2,3],[2,3]),([4],[4]),([],[]),([],[]),([],[]),([7,8],[7,8]),([6,9],[6,9]),([10],[10]),([],[]),([],[]),([12,13],[12,13]),([14],[14]),([11,15],[11,15]),([5,16],[5,16]),([0,1,0,1,2,3,4,5,6,7,8,9,10,11,12,13,14,15,16,17],[0,1]),([18,17,0,1,2,3,4,5,6,7,8,9,10,11,12,13,14,15,16,17],[17,18])])
def F98.B33:List Nat:=[0,0,0,0,12,28,0,0,0,384,960,1984,0,0,12288,28672,65472,131068,262143,524287]
theorem F98.tab33:rtab .any (opsOf Try.f98 33)=F98.T33:=by kernel_rfl
theorem F98.bits33:waitsOk F98.T33.2 F98.B33=true:=by kernel_rfl
set_option maxHeartbeats 8000000 in
set_option maxRecDepth 100000 in
theorem F98.calls (k : Nat) (A0 : Option Addr) (c0 : Nat) (l0 : List (List Int)) (r : List Int) (w : World) (hr0 : Kd.C (Kd.slice 2 (Kd.int .i64)) w A0 l0.length l0) (hc0 : l0.length ≤ c0) (h : F98.f k l0 = some r) :
  Calls Try.prog 98 #[.slice A0 l0.length c0] w fun e w'=>∃ v0_:Value,e=.returned (v0_)∧Kd.R (Kd.int .i64) 2 w' w.heap.size (fun _=>True) v0_ r∧Below w.heap.size w w':=by
 have HR0:=k0 hr0
 have HC0:=k0 hc0
 clear hr0 hc0
 have HB:=k0 (Below.refl w.heap.size w)
 unfold F98.f at h
 have H:=h
 clear h
 obtain ⟨y101,Ny101⟩:=nY (([1]:List Int):List Int)
 replace H:(F98.l0 k l0 y101 0)=some r:=rH Ny101.z H
 have H':=k0 H
 clear H
 go_enter Try.func98,Try.ntmps98
 go_wp2_with (first|(refine gate_dst (N:=17) rfl ?_;refine zRt 2 (N:=17) (xs:=([1]:List Int)) (inner:=[.int .i64 1]) (Reps.one (show Kd.M (Kd.int .i64) _ _ _ 1 [.int .i64 1] from rfl) (Reps.none _ _)) ?_;intro v102 w2 ho3 hb hg_ hnew_;clear hg_ hnew_;(first|rw [← Ny101.z] at ho3|(simp only [Int.reduceToNat] at ho3;rw [← Ny101.z] at ho3));have HO103:=k0 (Kd.R_lower ho3 (below_size bl));replace HB:=bW hb;clear hb ho3))
 go_loopg [3,4] k (fun kq v3 v4 w'=>∃ (x3_1:List Int) (x4_1:Int),v4=.int .i64 x4_1∧Aside0 (F98.l0 kq l0 x3_1 x4_1=some r)∧Aside0 (kq≤k)∧Aside0 (Kd.R (Kd.int .i64) 2 w' w.heap.size (fun _=>True) v3 x3_1)∧Aside0 (Below w.heap.size w w'))
 case atStart=>exact ⟨(y101),(0),rs,H',⟨Nat.le_refl _⟩,⟨aR (HO103.z)⟩,⟨bl⟩⟩
 case round =>
  clear H'
  obtain ⟨x3_1,x4_1,rfl,HA,HK1,HO_3,HB⟩:=hrel
  cases gk with
  | zero=>exact absurd HA.z (by simp [F98.l0])
  | succ k1 =>
   have H:=HA.z
   clear HA
   simp only [F98.l0] at H
   replace H:=iC H;obtain ⟨c4b0,H⟩|⟨c4b0,H⟩:=H
   case inl =>
    replace H:=bS H;obtain ⟨t104,A63,H⟩:=H
    obtain rfl:=Option.some.inj H
    obtain ⟨Ao64,co64,rfl⟩:=Kd.R_slice HO_3.z
    go_wp2_with (first|(refine gate_callee (f:=90) rfl ?_;refine gC (some 144) Try.func90 #[.slice Ao64 x3_1.length co64] ?_;(with_reducible refine (F90.calls k1 _ _ x3_1 t104 _ ?side1 ?side2 A63.z).mono ?_);(case side1=>exact aC ((Kd.R_reads' HO_3.z).2.2));(case side2=>exact (Kd.R_reads' HO_3.z).2.1);rintro e w65 ⟨v105,rfl,ho0,hb⟩;refine ⟨_,rfl,?_⟩;have HO106:=k0 (Kd.R_lower (Kd.R_new' ho0 (Kd.R_lt (aR HO_3.z))) (below_size bl));replace HO_3:=elR HO_3 (Kd.R_base ho0) hb;replace HB:=bW hb))
    go_ret
    exact ⟨_,eR,aR (Kd.R_mono HO106.z (fun _ hk=>trivial)),bl⟩
   replace H:=iS H;obtain ⟨c5,H⟩:=H
   have c5b0:=decide_eq_true c5
   clear c5
   replace H:=iS H;obtain ⟨c6,H⟩:=H
   have c6b0:=decide_eq_true c6
   clear c6
   obtain ⟨y109,Ny109⟩:=nY (([1,wrap64 (-(rd (rd_L1 l0 x4_1) x4_1))]:List Int):List Int)
   replace H:(F98.l1 k1 l0 x3_1 x4_1 y109 (([]:List Int)) 0)=some r:=rH Ny109.z H
   obtain ⟨y112,Ny112⟩:=nY (([]:List Int):List Int)
   replace H:(F98.l1 k1 l0 x3_1 x4_1 y109 y112 0)=some r:=rH Ny112.z H
   have H':=k0 H
   clear H
   obtain ⟨p107,q107⟩:=iN x4_1 (l0.length:Int)
   obtain ⟨ad107,A107_0,c107_0,e107,hx107_0,hl107_0,hi107_0⟩:=at_L1 HR0.z x4_1 p107 q107
   cases e107
   replace hx107_0:=hbc HB hx107_0
   have HR107_0:=k0 hi107_0
   have HC107_0:=k0 hl107_0
   clear hi107_0 hl107_0
   replace p107:=eT p107
   replace q107:=eT q107
   obtain ⟨p108,q108⟩:=iN x4_1 ((rd_L1 l0 x4_1).length:Int)
   obtain ⟨ad108,e108,hx108_0⟩:=Kd.at_int HR107_0.z x4_1 p108 q108
   cases e108
   replace hx108_0:=hbc HB hx108_0
   replace p108:=eT p108
   replace q108:=eT q108
   go_wp2_with (first|(refine gate_dst (N:=32) rfl ?_;refine zRt 2 (N:=32) (xs:=([1,wrap64 (-(rd (rd_L1 l0 x4_1) x4_1))]:List Int)) (inner:=[.int .i64 1,.int .i64 (wrap64 (-(rd (rd_L1 l0 x4_1) x4_1)))]) (Reps.one (show Kd.M (Kd.int .i64) _ _ _ 1 [.int .i64 1] from rfl) (Reps.one (show Kd.M (Kd.int .i64) _ _ _ (wrap64 (-(rd (rd_L1 l0 x4_1) x4_1))) [.int .i64 (wrap64 (-(rd (rd_L1 l0 x4_1) x4_1)))] from rfl) (Reps.none _ _))) ?_;intro v110 w7 ho8 hb hg_ hnew_;clear hg_ hnew_;(first|rw [← Ny109.z] at ho8|(simp only [Int.reduceToNat] at ho8;rw [← Ny109.z] at ho8));have HO111:=k0 (Kd.R_lower (Kd.R_new' ho8 (Kd.R_lt (aR HO_3.z))) (below_size bl));replace HO_3:=elR HO_3 (Kd.R_base ho8) hb;replace HB:=bW hb;clear hb ho8)|(refine gate_dst (N:=33) rfl ?_;refine zRt 2 (N:=33) (xs:=([]:List Int)) (inner:=[]) (Reps.none _ _) ?_;intro v113 w9 ho10 hb hg_ hnew_;clear hg_ hnew_;(first|rw [← Ny112.z] at ho10|(simp only [Int.reduceToNat] at ho10;rw [← Ny112.z] at ho10));have HO114:=k0 (Kd.R_lower (Kd.R_new' (Kd.R_new' ho10 (Kd.R_lt (aR HO_3.z))) (Kd.R_lt (aR HO111.z))) (below_size bl));replace HO_3:=elR HO_3 (Kd.R_base ho10) hb;replace HO111:=elR HO111 (Kd.R_base ho10) hb;replace HB:=bW hb;clear hb ho10))
   go_loopg [6,7] k1 (fun kq v6 v7 w'=>∃ (x6_2:List Int) (x7_2:Int),v7=.int .i64 x7_2∧Aside0 (F98.l1 kq l0 x3_1 x4_1 y109 x6_2 x7_2=some r)∧Aside0 (kq≤k1)∧Aside0 (Kd.R (Kd.int .i64) 2 w' w.heap.size (fun k_=>some k_ ≠ (v110:Value).ownBlock∧some k_ ≠ (v6:Value).ownBlock) u3 x3_1)∧Aside0 (Kd.R (Kd.int .i64) 2 w' w.heap.size (fun k_=>some k_ ≠ (u3:Value).ownBlock∧some k_ ≠ (v6:Value).ownBlock) v110 y109)∧Aside0 (Kd.R (Kd.int .i64) 2 w' w.heap.size (fun k_=>some k_ ≠ (u3:Value).ownBlock∧some k_ ≠ (v110:Value).ownBlock) v6 x6_2)∧Aside0 (Below w.heap.size w w'))
   case atStart=>exact ⟨(y112),(0),rs,H',⟨Nat.le_refl _⟩,⟨aR (Kd.R_mono HO_3.z (fun _ hk=>⟨hk.1.2,hk.2⟩))⟩,⟨aR (Kd.R_mono HO111.z (fun _ hk=>⟨hk.1.2,hk.2⟩))⟩,⟨aR (Kd.R_mono HO114.z (fun _ hk=>⟨hk.1.2,hk.2⟩))⟩,⟨bl⟩⟩
   case round =>
    clear H'
    obtain ⟨x6_2,x7_2,rfl,HA,HK2,HO_3,HO_5,HO_6,HB⟩:=hrel
    cases gk with
    | zero=>exact absurd HA.z (by simp [F98.l1])
    | succ k2 =>
     have H:=HA.z
     clear HA
     simp only [F98.l1] at H
     replace H:=iC H;obtain ⟨c11b0,H⟩|⟨c11b0,H⟩:=H
     case inl =>
      have H':=k0 H
      clear H
      go_wp2
      go_loopg [5,6,8] k2 (fun kq v5 v6 v8 w'=>∃ (x5_3:List Int) (x6_3:List Int) (x8_3:Int),v8=.int .i64 x8_3∧Aside0 (F98.l2 kq l0 x3_1 x4_1 x5_3 x6_3 x8_3=some r)∧Aside0 (kq≤k2)∧Aside0 (Kd.R (Kd.int .i64) 2 w' w.heap.size (fun k_=>some k_ ≠ (v5:Value).ownBlock∧some k_ ≠ (v6:Value).ownBlock) u3 x3_1)∧Aside0 (Kd.R (Kd.int .i64) 2 w' w.heap.size (fun k_=>some k_ ≠ (u3:Value).ownBlock∧some k_ ≠ (v6:Value).ownBlock) v5 x5_3)∧Aside0 (Kd.R (Kd.int .i64) 2 w' w.heap.size (fun k_=>some k_ ≠ (u3:Value).ownBlock∧some k_ ≠ (v5:Value).ownBlock) v6 x6_3)∧Aside0 (Below w.heap.size w w'))
      case atStart=>exact ⟨(y109),(x6_2),(0),rs,H',⟨Nat.le_refl _⟩,⟨aR (HO_3.z)⟩,⟨aR (HO_5.z)⟩,⟨aR (HO_6.z)⟩,⟨bl⟩⟩
      case round =>
       clear H'
       obtain ⟨x5_3,x6_3,x8_3,rfl,HA,HK3,HO_3,HO_5,HO_6,HB⟩:=hrel
       cases gk with
       | zero=>exact absurd HA.z (by simp [F98.l2])
       | succ k3 =>
        have H:=HA.z
        clear HA
        simp only [F98.l2] at H
        replace H:=iC H;obtain ⟨c18b0,H⟩|⟨c18b0,H⟩:=H
        case inl =>
         obtain ⟨ji40,hji40⟩:∃ j_:Int,(wrap64 (x4_1+2))=j_:=⟨_,rfl⟩
         replace H:(if 0≤(ji40) then (if (ji40:Int).toNat≤35184372088832 then (F98.l5 k3 l0 x3_1 x4_1 x5_3 (List.replicate (ji40:Int).toNat 0) 0) else (none)) else (none))=some r:=by first|(rw [hji40] at H;exact H)|(simp only [hji40] at H ⊢;exact H)
         have hji40w:(IntKind.i64.wrap (x4_1+2))=ji40:=(i64_w _).trans hji40
         replace H:=iS H;obtain ⟨c41,H⟩:=H
         have c41b0:=eq_true c41
         have c41b1:=decide_eq_true c41
         clear c41
         replace H:=iS H;obtain ⟨c42,H⟩:=H
         have c42b0:=eq_true c42
         have c42b1:=decide_eq_true c42
         clear c42
         obtain ⟨y135,Ny135⟩:=nY (List.replicate (ji40:Int).toNat 0:List Int)
         replace H:(F98.l5 k3 l0 x3_1 x4_1 x5_3 y135 0)=some r:=rH Ny135.z H
         have H':=k0 H
         clear H
         go_wp2_with (first|(refine gate_dst (N:=105) rfl ?_;refine Kd.R_make (Kd.int .i64) _ 2 rfl (N:=105) rfl 27 _ _ rfl ji40 rfl rfl Try.underlying27 (.int .i64 0) 8 info2 rfl (by decide) (by omega) 0 (ok:=fun _=>True) (okp:=fun _=>True) rfl (fun _ hk=>hk) trivial oD (Nat.le_trans (Nat.mul_le_mul_right _ (oD:ji40.toNat≤35184372088832)) (by omega)) (Below.refl _ _) (Nat.le_refl _) ?_;intro v136 w43 ho44 hb hg_ hnew_;clear hg_ hnew_;(first|rw [← Ny135.z] at ho44|(simp only [Int.reduceToNat] at ho44;rw [← Ny135.z] at ho44));have HO137:=k0 (Kd.R_lower (Kd.R_new' (Kd.R_new' (Kd.R_new' ho44 (Kd.R_lt (aR HO_3.z))) (Kd.R_lt (aR HO_5.z))) (Kd.R_lt (aR HO_6.z))) (below_size bl));replace HO_3:=elR HO_3 (Kd.R_base ho44) hb;replace HO_5:=elR HO_5 (Kd.R_base ho44) hb;replace HO_6:=elR HO_6 (Kd.R_base ho44) hb;replace HB:=bW hb;clear hb ho44))
         go_loopg [15] k3 (fun kq v15 w'=>∃ (x14_4:List Int) (x15_4:Int),v15=.int .i64 x15_4∧Aside0 (F98.l5 kq l0 x3_1 x4_1 x5_3 x14_4 x15_4=some r)∧Aside0 (kq≤k3)∧Aside0 (Kd.R (Kd.int .i64) 2 w' w.heap.size (fun k_=>some k_ ≠ (u5:Value).ownBlock∧some k_ ≠ (v136:Value).ownBlock) u3 x3_1)∧Aside0 (Kd.R (Kd.int .i64) 2 w' w.heap.size (fun k_=>some k_ ≠ (u3:Value).ownBlock∧some k_ ≠ (v136:Value).ownBlock) u5 x5_3)∧Aside0 (Kd.R (Kd.int .i64) 2 w' w.heap.size (fun k_=>some k_ ≠ (u3:Value).ownBlock∧some k_ ≠ (u5:Value).ownBlock) v136 x14_4)∧Aside0 (Below w.heap.size w w'))
         case atStart=>exact ⟨(y135),(0),rs,H',⟨Nat.le_refl _⟩,⟨aR (Kd.R_mono HO_3.z (fun _ hk=>⟨hk.1.1,hk.2⟩))⟩,⟨aR (Kd.R_mono HO_5.z (fun _ hk=>⟨hk.1.1,hk.2⟩))⟩,⟨aR (Kd.R_mono HO137.z (fun _ hk=>⟨hk.1.1.2,hk.1.2⟩))⟩,⟨bl⟩⟩
         case round =>
          clear H'
          obtain ⟨x14_4,x15_4,rfl,HA,HK4,HO_3,HO_5,HO_14,HB⟩:=hrel
          cases gk with
          | zero=>exact absurd HA.z (by simp [F98.l5])
          | succ k4 =>
           have H:=HA.z
           clear HA
           simp only [F98.l5] at H
           replace H:=iC H;obtain ⟨c45b0,H⟩|⟨c45b0,H⟩:=H
           case inl =>
            have H':=k0 H
            clear H
            obtain ⟨Ao62,co62,rfl⟩:=Kd.R_slice HO_14.z
            go_wp2
            first|go_roundg k4|(simp only [← hji40];go_roundg k4)|(simp only [← hji51];go_roundg k4)
            case measure=>have:=HK1.z;have:=HK2.z;have:=HK3.z;have:=HK4.z;omega
            case rel=>exact ⟨(x14_4),(wrap64 (x4_1+1)),rs,(by first|exact H'|(rw [hji40];exact H')|(rw [hji51];exact H')),⟨by have:=HK1.z;have:=HK2.z;have:=HK3.z;have:=HK4.z;omega⟩,⟨aR (Kd.R_mono HO_14.z (fun _ hk=>trivial))⟩,⟨bl⟩⟩
           have H':=k0 H
           clear H
           obtain ⟨Ao46,co46,rfl⟩:=Kd.R_slice HO_14.z
           go_wp2
           go_loopg [16] k4 (fun kq v16 w'=>∃ (x14_5:List Int) (x16_5:Int),v16=.int .i64 x16_5∧Aside0 (F98.l6 kq l0 x3_1 x4_1 x5_3 x14_5 x15_4 x16_5=some r)∧Aside0 (kq≤k4)∧Aside0 (Kd.R (Kd.int .i64) 2 w' w.heap.size (fun k_=>some k_ ≠ (u5:Value).ownBlock∧some k_ ≠ ((.slice Ao46 x14_4.length co46):Value).ownBlock) u3 x3_1)∧Aside0 (Kd.R (Kd.int .i64) 2 w' w.heap.size (fun k_=>some k_ ≠ (u3:Value).ownBlock∧some k_ ≠ ((.slice Ao46 x14_4.length co46):Value).ownBlock) u5 x5_3)∧Aside0 (Kd.R (Kd.int .i64) 2 w' w.heap.size (fun k_=>some k_ ≠ (u3:Value).ownBlock∧some k_ ≠ (u5:Value).ownBlock) (.slice Ao46 x14_4.length co46) x14_5)∧Aside0 (Below w.heap.size w w'))
           case atStart=>exact ⟨(x14_4),(0),rs,H',⟨Nat.le_refl _⟩,⟨aR (HO_3.z)⟩,⟨aR (HO_5.z)⟩,⟨aR (HO_14.z)⟩,⟨bl⟩⟩
           case round =>
            clear H'
            obtain ⟨x14_5,x16_5,rfl,HA,HK5,HO_3,HO_5,HO_14,HB⟩:=hrel
            have hl14_5:=(Kd.R_reads' HO_14.z).1
            rw [hl14_5] at HO_14
            (try simp only [hl14_5])
            (try simp only [hl14_5] at HO_3)
            (try simp only [hl14_5] at HO_5)
            cases gk with
            | zero=>exact absurd HA.z (by simp [F98.l6])
            | succ k5 =>
             have H:=HA.z
             clear HA
             simp only [F98.l6] at H
             by_cases c47:x16_5 < (x3_1.length:Int)
             case neg =>
              rw [if_neg c47] at H
              have c47b0:=decide_eq_false c47
              (try simp only [hl14_5] at c47b0)
              clear c47
              have H':=k0 H
              clear H
              obtain ⟨Ao61,co61,rfl⟩:=Kd.R_slice HO_3.z
              go_wp2
              (try simp only [← hl14_5])
              first|go_roundg k5|(simp only [← hji40];go_roundg k5)|(simp only [← hji51];go_roundg k5)
              case measure=>have:=HK1.z;have:=HK2.z;have:=HK3.z;have:=HK4.z;have:=HK5.z;omega
              case rel=>exact ⟨(x14_5),(wrap64 (x15_4+1)),rs,(by first|exact H'|(rw [hji40];exact H')|(rw [hji51];exact H')),⟨by have:=HK1.z;have:=HK2.z;have:=HK3.z;have:=HK4.z;have:=HK5.z;omega⟩,⟨by (try simp only [hl14_5]);(with_reducible repeat (first|apply Kd.R_alloc|apply Kd.R_drewN|apply Kd.R_drew));exact HO_3.z⟩,⟨by (try simp only [hl14_5]);(with_reducible repeat (first|apply Kd.R_alloc|apply Kd.R_drewN|apply Kd.R_drew));exact HO_5.z⟩,⟨by (try simp only [hl14_5]);(with_reducible repeat (first|apply Kd.R_alloc|apply Kd.R_drewN|apply Kd.R_drew));exact HO_14.z⟩,⟨bl⟩⟩
             rw [if_pos c47] at H
             have c47b0:=decide_eq_true c47
             (try simp only [hl14_5] at c47b0)
             clear c47
             replace H:=iC H;obtain ⟨c48b0,H⟩|⟨c48b0,H⟩:=H
             case inl =>
              have H':=k0 H
              clear H
              obtain ⟨Ao60,co60,rfl⟩:=Kd.R_slice HO_3.z
              go_wp2
              (try simp only [← hl14_5])
              first|go_roundg k5|(simp only [← hji40];go_roundg k5)|(simp only [← hji51];go_roundg k5)
              case measure=>have:=HK1.z;have:=HK2.z;have:=HK3.z;have:=HK4.z;have:=HK5.z;omega
              case rel=>exact ⟨(x14_5),(wrap64 (x15_4+1)),rs,(by first|exact H'|(rw [hji40];exact H')|(rw [hji51];exact H')),⟨by have:=HK1.z;have:=HK2.z;have:=HK3.z;have:=HK4.z;have:=HK5.z;omega⟩,⟨by (try simp only [hl14_5]);(with_reducible repeat (first|apply Kd.R_alloc|apply Kd.R_drewN|apply Kd.R_drew));exact HO_3.z⟩,⟨by (try simp only [hl14_5]);(with_reducible repeat (first|apply Kd.R_alloc|apply Kd.R_drewN|apply Kd.R_drew));exact HO_5.z⟩,⟨by (try simp only [hl14_5]);(with_reducible repeat (first|apply Kd.R_alloc|apply Kd.R_drewN|apply Kd.R_drew));exact HO_14.z⟩,⟨bl⟩⟩
             replace H:=iS H;obtain ⟨c49,H⟩:=H
             have c49b0:=decide_eq_true c49
             clear c49
             replace H:=iS H;obtain ⟨c50,H⟩:=H
             have c50b0:=decide_eq_true c50
             (try simp only [hl14_5] at c50b0)
             clear c50
             obtain ⟨ji51,hji51⟩:∃ j_:Int,(wrap64 (x15_4 - x16_5))=j_:=⟨_,rfl⟩
             replace H:(if 0≤(ji51) then (if (ji51) < (x5_3.length:Int) then (if 0≤x16_5 then (F98.l6 k5 l0 x3_1 x4_1 x5_3 (x14_5.set (x15_4:Int).toNat (wrap64 ((rd x14_5 x15_4)+(wrap64 ((rd x5_3 (ji51)) * (rd x3_1 x16_5)))))) x15_4 (wrap64 (x16_5+1))) else (none)) else (none)) else (none))=some r:=by first|(rw [hji51] at H;exact H)|(simp only [hji51] at H ⊢;exact H)
             have hji51w:(IntKind.i64.wrap (x15_4 - x16_5))=ji51:=(i64_w _).trans hji51
             replace H:=iS H;obtain ⟨c52,H⟩:=H
             have c52b0:=decide_eq_true c52
             clear c52
             replace H:=iS H;obtain ⟨c53,H⟩:=H
             have c53b0:=decide_eq_true c53
             (try simp only [hl14_5] at c53b0)
             clear c53
             replace H:=iS H;obtain ⟨c54,H⟩:=H
             have c54b0:=decide_eq_true c54
             clear c54
             obtain ⟨y141,Ny141⟩:=nY (x14_5.set (x15_4:Int).toNat (wrap64 ((rd x14_5 x15_4)+(wrap64 ((rd x5_3 (ji51)) * (rd x3_1 x16_5))))):List Int)
             replace H:(F98.l6 k5 l0 x3_1 x4_1 x5_3 y141 x15_4 (wrap64 (x16_5+1)))=some r:=rH Ny141.z H
             have H':=k0 H
             clear H
             obtain ⟨Ao56,co56,rfl⟩:=Kd.R_slice HO_3.z
             try go_wp2
             replace HO_3:=k0 (Kd.R_drew HO_3.z);replace HO_5:=k0 (Kd.R_drew HO_5.z);replace HO_14:=k0 (Kd.R_drew HO_14.z);replace HB:=k0 (below_drew1 HB.z)
             obtain ⟨p138,q138⟩:=iN x15_4 (x14_5.length:Int)
             obtain ⟨ad138,e138,hx138_0⟩:=Kd.at_int (Kd.R_reads' HO_14.z).2.2 x15_4 p138 q138
             cases e138
             replace p138:=eT p138
             replace q138:=eT q138
             obtain ⟨Ao58,co58,eo58⟩:=Kd.R_slice HO_5.z
             (first|subst eo58|(injection eo58 with f1_ f2_ f3_;have f4_:=f1_.symm;have f5_:=f3_.symm;clear f1_ f2_ f3_;subst f4_;subst f5_))
             have p139:0≤((ji51):Int):=oD
             have q139:(ji51) < (x5_3.length:Int):=oD
             obtain ⟨ad139,e139,hx139_0⟩:=Kd.at_int (Kd.R_reads' HO_5.z).2.2 (ji51) p139 q139
             cases e139
             replace p139:=eT p139
             replace q139:=eT q139
             obtain ⟨p140,q140⟩:=iN x16_5 (x3_1.length:Int)
             obtain ⟨ad140,e140,hx140_0⟩:=Kd.at_int (Kd.R_reads' HO_3.z).2.2 x16_5 p140 q140
             cases e140
             replace p140:=eT p140
             replace q140:=eT q140
             have p55:0≤(x15_4:Int):=oD
             have q55:(x15_4:Int) < ((x14_5.length:Int):Int):=oD
             obtain ⟨go55,co55,eo55,gb55,gl55,cl55,HG55⟩:=Kd.R_form HO_14.z (by omega)
             (first|cases eo55|(injection eo55 with ea_ en_ ec_;(first|subst ea_|(injection ea_ with ea_;subst ea_));subst ec_;clear en_))
             have GB55:=k0 gb55
             have GG55:=k0 HG55
             clear gb55 gl55 HG55
             (first|simp only [add_plain] at hx138_0|skip)
             obtain ⟨hx55_0,hf55_0⟩:=Kd.R_celln 0 HO_14.z (x15_4:Int) p55 q55
             replace p55:=eT p55
             replace q55:=eT q55
             have HP59:=Kd.R_putn HO_14.z (x15_4:Int) (wrap64 ((rd x14_5 x15_4)+(wrap64 ((rd x5_3 (ji51)) * (rd x3_1 x16_5)))))
             rw [← Ny141.z] at HP59
             have HQ59:=k0 HP59
             clear HP59
             refine start_ (n:=20) (S:=fun w'=>w'.cell? ⟨go55,(x15_4).toNat,none⟩=some (.int .i64 (rd x14_5 x15_4))∧w'.cell? (ad139.add ((ji51)).toNat)=some (.int .i64 (rd x5_3 (ji51)))∧w'.cell? (ad140.add (x16_5).toNat)=some (.int .i64 (rd x3_1 x16_5))) (ds:=[19]) (ba 20 0) (by kernel_rfl) rfl rfl ⟨hx138_0,hx139_0,hx140_0⟩ (fun hHeld=>?_);refine with_tabW F98.tab33 F98.bits33 (fun HT_ HW_=>?_)
             generalize wr.drew=w57 at HO_3 HO_5 HO_14 HB GG55 HQ59 hf55_0 hx138_0 hx139_0 hx140_0 hx55_0 hHeld ⊢
             refine pu 0 (some 123) (ba 20 1) HT_ (h:=?_)
             refine pu 1 (some 124) (ba 20 3) HT_ (h:=?_)
             refine pu 2 (some 125) (ba 20 7) HT_ (h:=?_)
             refine pu 3 (some 126) (ba 20 15) HT_ (h:=?_)
             refine pu 4 (some 127) (ba 20 31) HT_ (h:=?_)
             refine pu 6 (some 129) (ba 20 95) HT_ (h:=?_)
             refine pu 7 (some 130) (ba 20 223) HT_ (h:=?_)
             refine pu 8 (some 131) (ba 20 479) HT_ (h:=?_)
             refine pu 9 (some 132) (ba 20 991) HT_ (h:=?_)
             refine pu 10 (some 133) (ba 20 2015) HT_ (h:=?_)
             refine pu 12 (some 135) (ba 20 6111) HT_ (h:=?_)
             refine pu 13 (some 136) (ba 20 14303) HT_ (h:=?_)
             refine pu 14 (some 137) (ba 20 30687) HT_ (h:=?_)
             refine zT3 5 (some 128) (ba 20 30719) HT_ HW_ hHeld (h:=?_)
             refine zT3 11 (some 134) (ba 20 32767) HT_ HW_ hHeld (h:=?_)
             refine zT3 15 (some 138) (ba 20 65535) HT_ HW_ hHeld (h:=?_)
             refine pu 16 (some 139) (ba 20 131071) HT_ (h:=?_)
             refine pu 17 (some 140) (ba 20 262143) HT_ (h:=?_)
             refine pu 18 (some 141) (ba 20 524287) HT_ (h:=?_)
             refine last_ (i:=19) (N:=none) (ba 20 1048575) rfl rfl (one_of HT_.out (by kernel_rfl)) (by decide) (fun K hK=>?_)
             refine skip_ (w1:=?_) (by rfl) rfl ?_ ?_
             rotate_left;· go_simp;rfl
             refine hK.out _ _ ?_
             clear hK K
             refine done_ (done_of HT_.out (by kernel_rfl)) ?_
             try go_wp2
             (try simp only [← hl14_5])
             first|go_roundg k5|(simp only [← hji40];go_roundg k5)|(simp only [← hji51];go_roundg k5)
             case measure=>have:=HK1.z;have:=HK2.z;have:=HK3.z;have:=HK4.z;have:=HK5.z;omega
             case rel=>exact ⟨(y141),(wrap64 (x16_5+1)),rs,(by first|exact H'|(rw [hji40];exact H')|(rw [hji51];exact H')),⟨by have:=HK1.z;have:=HK2.z;have:=HK3.z;have:=HK4.z;have:=HK5.z;omega⟩,⟨by (try simp only [hl14_5]);(with_reducible repeat (first|apply Kd.R_alloc|apply Kd.R_drewN|apply Kd.R_drew));exact Kd.R_mono (Kd.R_far (p:=⟨go55,(x15_4:Int).toNat,none⟩) (Kd.R_mono HO_3.z (fun k_ hk=>(⟨hk,fun e_=>hk.2 (by rw [e_];rfl)⟩:_∧k_ ≠ go55))) (fun _ hk=>hk.2) (.int .i64 (wrap64 ((rd x14_5 x15_4)+(wrap64 ((rd x5_3 (ji51)) * (rd x3_1 x16_5))))))) (fun _ hk=>⟨hk.1.1,hk.1.2⟩)⟩,⟨by (try simp only [hl14_5]);(with_reducible repeat (first|apply Kd.R_alloc|apply Kd.R_drewN|apply Kd.R_drew));exact Kd.R_mono (Kd.R_far (p:=⟨go55,(x15_4:Int).toNat,none⟩) (Kd.R_mono HO_5.z (fun k_ hk=>(⟨hk,fun e_=>hk.2 (by rw [e_];rfl)⟩:_∧k_ ≠ go55))) (fun _ hk=>hk.2) (.int .i64 (wrap64 ((rd x14_5 x15_4)+(wrap64 ((rd x5_3 (ji51)) * (rd x3_1 x16_5))))))) (fun _ hk=>⟨hk.1.1,hk.1.2⟩)⟩,⟨by (try simp only [hl14_5]);(with_reducible repeat (first|apply Kd.R_alloc|apply Kd.R_drewN|apply Kd.R_drew));exact HQ59.out⟩,⟨aL HB.z⟩⟩
        obtain ⟨y120,Ny120⟩:=nY (([]:List Int):List Int)
        replace H:(F98.l3 k3 l0 x3_1 x4_1 x5_3 x6_3 x8_3 0 y120 0)=some r:=rH Ny120.z H
        have H':=k0 H
        clear H
        go_wp2_with (first|(refine gate_dst (N:=54) rfl ?_;refine zRt 2 (N:=54) (xs:=([]:List Int)) (inner:=[]) (Reps.none _ _) ?_;intro v121 w19 ho20 hb hg_ hnew_;clear hg_ hnew_;(first|rw [← Ny120.z] at ho20|(simp only [Int.reduceToNat] at ho20;rw [← Ny120.z] at ho20));have HO122:=k0 (Kd.R_lower (Kd.R_new' (Kd.R_new' (Kd.R_new' ho20 (Kd.R_lt (aR HO_3.z))) (Kd.R_lt (aR HO_5.z))) (Kd.R_lt (aR HO_6.z))) (below_size bl));replace HO_3:=elR HO_3 (Kd.R_base ho20) hb;replace HO_5:=elR HO_5 (Kd.R_base ho20) hb;replace HO_6:=elR HO_6 (Kd.R_base ho20) hb;replace HB:=bW hb;clear hb ho20))
        go_loopg [9,10,11] k3 (fun kq v9 v10 v11 w'=>∃ (x9_4:Int) (x10_4:List Int) (x11_4:Int),v9=.int .i64 x9_4∧v11=.int .i64 x11_4∧Aside0 (F98.l3 kq l0 x3_1 x4_1 x5_3 x6_3 x8_3 x9_4 x10_4 x11_4=some r)∧Aside0 (kq≤k3)∧Aside0 (Kd.R (Kd.int .i64) 2 w' w.heap.size (fun k_=>some k_ ≠ (u5:Value).ownBlock∧some k_ ≠ (u6:Value).ownBlock∧some k_ ≠ (v10:Value).ownBlock) u3 x3_1)∧Aside0 (Kd.R (Kd.int .i64) 2 w' w.heap.size (fun k_=>some k_ ≠ (u3:Value).ownBlock∧some k_ ≠ (u6:Value).ownBlock∧some k_ ≠ (v10:Value).ownBlock) u5 x5_3)∧Aside0 (Kd.R (Kd.int .i64) 2 w' w.heap.size (fun k_=>some k_ ≠ (u3:Value).ownBlock∧some k_ ≠ (u5:Value).ownBlock∧some k_ ≠ (v10:Value).ownBlock) u6 x6_3)∧Aside0 (Kd.R (Kd.int .i64) 2 w' w.heap.size (fun k_=>some k_ ≠ (u3:Value).ownBlock∧some k_ ≠ (u5:Value).ownBlock∧some k_ ≠ (u6:Value).ownBlock) v10 x10_4)∧Aside0 (Below w.heap.size w w'))
        case atStart=>exact ⟨(0),(y120),(0),rs,rs,H',⟨Nat.le_refl _⟩,⟨aR (Kd.R_mono HO_3.z (fun _ hk=>⟨hk.1.1,⟨hk.1.2,hk.2⟩⟩))⟩,⟨aR (Kd.R_mono HO_5.z (fun _ hk=>⟨hk.1.1,⟨hk.1.2,hk.2⟩⟩))⟩,⟨aR (Kd.R_mono HO_6.z (fun _ hk=>⟨hk.1.1,⟨hk.1.2,hk.2⟩⟩))⟩,⟨aR (Kd.R_mono HO122.z (fun _ hk=>⟨hk.1.1.2,⟨hk.1.2,hk.2⟩⟩))⟩,⟨bl⟩⟩
        case round =>
         clear H'
         obtain ⟨x9_4,x10_4,x11_4,rfl,rfl,HA,HK4,HO_3,HO_5,HO_6,HO_10,HB⟩:=hrel
         cases gk with
         | zero=>exact absurd HA.z (by simp [F98.l3])
         | succ k4 =>
          have H:=HA.z
          clear HA
          simp only [F98.l3] at H
          replace H:=iC H;obtain ⟨c21b0,H⟩|⟨c21b0,H⟩:=H
          case inl =>
           replace H:=iS H;obtain ⟨c38,H⟩:=H
           have LMc38:=k0 c38
           clear c38
           obtain ⟨y123,Ny123⟩:=nY (x5_3 ++ [wrap64 (-x9_4)]:List Int)
           replace H:(F98.l2 k4 l0 x3_1 x4_1 y123 x10_4 (wrap64 (x8_3+1)))=some r:=rH Ny123.z H
           have H':=k0 H
           clear H
           go_wp2_with (first|((with_reducible refine gate_builtin (b:=.append) (xs:=#[.tmp 97,.tmp 100]) rfl ?_);at_builtin;refine Kd.R_append (Kd.int .i64) (w0:=w) w.heap.size rfl (.tmp 97) (.tmp 100) 27 2 (.int .i64 0) 8 rfl Try.underlying27 info2 rfl (by decide) (by omega) u5 x5_3 (wrap64 (-x9_4)) [.int .i64 (wrap64 (-x9_4))] (fun k_=>some k_ ≠ (u3:Value).ownBlock∧some k_ ≠ (u6:Value).ownBlock∧some k_ ≠ (u10:Value).ownBlock) (fun _=>False) rfl rfl ?aP (fun _ hk=>hk.elim) ?aF ?aO ?aB ?aS ?aL ?_;(case aP=>exact rfl);(case aB=>exact bl);(case aF=>exact (fun k_ hk=>⟨Kd.fresh' (Kd.R_lt (aR HO_3.z)) k_ hk,Kd.fresh' (Kd.R_lt (aR HO_6.z)) k_ hk,Kd.fresh' (Kd.R_lt (aR HO_10.z)) k_ hk⟩));(case aO=>exact (aR HO_5.z));(case aS=>exact (below_size bl));(case aL=>have:=LMc38.out;omega);intro v124 w39 ho hb hg hat;rw [← Ny123.z] at ho;replace HO_3:=k0 (Kd.R_after (ok:=(fun k_=>some k_ ≠ (u6:Value).ownBlock∧some k_ ≠ (u10:Value).ownBlock)) (aR (Kd.R_mono HO_3.z (fun _ hk=>⟨⟨hk.2.1,hk.2.2⟩,hk.1⟩))) hg hat);replace HO_6:=k0 (Kd.R_after (ok:=(fun k_=>some k_ ≠ (u3:Value).ownBlock∧some k_ ≠ (u10:Value).ownBlock)) (aR (Kd.R_mono HO_6.z (fun _ hk=>⟨⟨hk.1,hk.2.2⟩,hk.2.1⟩))) hg hat);replace HO_10:=k0 (Kd.R_after (ok:=(fun k_=>some k_ ≠ (u3:Value).ownBlock∧some k_ ≠ (u6:Value).ownBlock)) (aR (Kd.R_mono HO_10.z (fun _ hk=>⟨⟨hk.1,hk.2.2⟩,hk.2.1⟩))) hg hat);replace HB:=k0 hb;have HO125:=k0 ho;clear HO_5;clear ho hb hg hat))
           first|go_roundg k4|(simp only [← hji40];go_roundg k4)|(simp only [← hji51];go_roundg k4)
           case measure=>have:=HK1.z;have:=HK2.z;have:=HK3.z;have:=HK4.z;omega
           case rel=>exact ⟨(y123),(x10_4),(wrap64 (x8_3+1)),rs,(by first|exact H'|(rw [hji40];exact H')|(rw [hji51];exact H')),⟨by have:=HK1.z;have:=HK2.z;have:=HK3.z;have:=HK4.z;omega⟩,⟨aR (Kd.R_mono HO_3.z (fun _ hk=>⟨hk.2,hk.1.2⟩))⟩,⟨aR (Kd.R_mono HO125.z (fun _ hk=>⟨hk.1,hk.2.2⟩))⟩,⟨aR (Kd.R_mono HO_10.z (fun _ hk=>⟨hk.1.1,hk.2⟩))⟩,⟨bl⟩⟩
          replace H:=iS H;obtain ⟨c22,H⟩:=H
          have c22b0:=decide_eq_true c22
          clear c22
          replace H:=iS H;obtain ⟨c23,H⟩:=H
          have c23b0:=decide_eq_true c23
          clear c23
          replace H:=iS H;obtain ⟨c24,H⟩:=H
          have c24b0:=decide_eq_true c24
          clear c24
          replace H:=iS H;obtain ⟨c25,H⟩:=H
          have c25b0:=decide_eq_true c25
          clear c25
          replace H:=iS H;obtain ⟨c26,H⟩:=H
          have c26b0:=decide_eq_true c26
          clear c26
          have H':=k0 H
          clear H
          try go_wp2
          replace HO_3:=k0 (Kd.R_drew HO_3.z);replace HO_5:=k0 (Kd.R_drew HO_5.z);replace HO_6:=k0 (Kd.R_drew HO_6.z);replace HO_10:=k0 (Kd.R_drew HO_10.z);replace HB:=k0 (below_drew1 HB.z)
          obtain ⟨p126,q126⟩:=iN x4_1 (l0.length:Int)
          obtain ⟨ad126,A126_0,c126_0,e126,hx126_0,hl126_0,hi126_0⟩:=at_L1 HR0.z x4_1 p126 q126
          have hw126_0:=hx126_0
          obtain rfl:ad107=ad126:=(by injection e126)
          replace hx126_0:=hbc HB hx126_0
          have HR126_0:=k0 hi126_0
          have HC126_0:=k0 hl126_0
          clear hi126_0 hl126_0
          replace p126:=eT p126
          replace q126:=eT q126
          obtain ⟨p127,q127⟩:=iN x11_4 ((rd_L1 l0 x4_1).length:Int)
          obtain ⟨ad127,e127,hx127_0⟩:=Kd.at_int HR126_0.z x11_4 p127 q127
          have hw127_0:=hx127_0
          cases e127
          replace hx127_0:=hbc HB hx127_0
          replace p127:=eT p127
          replace q127:=eT q127
          obtain ⟨Ao28,co28,eo28⟩:=Kd.R_slice HO_6.z
          (first|subst eo28|(injection eo28 with f1_ f2_ f3_;have f4_:=f1_.symm;have f5_:=f3_.symm;clear f1_ f2_ f3_;subst f4_;subst f5_))
          obtain ⟨p128,q128⟩:=iN x11_4 (x6_3.length:Int)
          obtain ⟨ad128,e128,hx128_0⟩:=Kd.at_int (Kd.R_reads' HO_6.z).2.2 x11_4 p128 q128
          cases e128
          replace p128:=eT p128
          replace q128:=eT q128
          refine start_ (n:=15) (S:=fun w'=>w'.cell? (ad107.add (x4_1).toNat)=some (.slice (some ad127) (rd_L1 l0 x4_1).length c126_0)∧w'.cell? (ad127.add (x11_4).toNat)=some (.int .i64 (rd (rd_L1 l0 x4_1) x11_4))∧w'.cell? (ad128.add (x11_4).toNat)=some (.int .i64 (rd x6_3 x11_4))) (ds:=[]) (ba 15 0) (by kernel_rfl) rfl rfl ⟨(hbc HB hw126_0 :),(hbc HB hw127_0 :),hx128_0⟩ (fun hHeld=>?_);refine with_tabW F98.tab17 F98.bits17 (fun HT_ HW_=>?_)
          generalize wr.drew=w27 at HO_3 HO_5 HO_6 HO_10 HB HR126_0 hx126_0 hx127_0 hx128_0 hHeld ⊢
          refine pu 0 (some 60) (ba 15 1) HT_ (h:=?_)
          refine pu 1 (some 61) (ba 15 3) HT_ (h:=?_)
          refine pu 2 (some 62) (ba 15 7) HT_ (h:=?_)
          refine pu 3 (some 63) (ba 15 15) HT_ (h:=?_)
          refine pu 5 (some 65) (ba 15 47) HT_ (h:=?_)
          refine pu 8 (some 68) (ba 15 303) HT_ (h:=?_)
          refine pu 9 (some 69) (ba 15 815) HT_ (h:=?_)
          refine pu 10 (some 70) (ba 15 1839) HT_ (h:=?_)
          refine zT3 4 (some 64) (ba 15 1855) HT_ HW_ hHeld (h:=?_)
          refine pu 6 (some 66) (ba 15 1919) HT_ (h:=?_)
          refine zT3 7 (some 67) (ba 15 2047) HT_ HW_ hHeld (h:=?_)
          refine zT3 11 (some 71) (ba 15 4095) HT_ HW_ hHeld (h:=?_)
          refine pu 12 (some 72) (ba 15 8191) HT_ (h:=?_)
          refine pu 13 (some 73) (ba 15 16383) HT_ (h:=?_)
          refine pu 14 (some 9) (ba 15 32767) HT_ (h:=?_)
          refine done_ (done_of HT_.out (by kernel_rfl)) ?_
          try go_wp2
          go_loopg [12,13] k4 (fun kq v12 v13 w'=>∃ (x12_5:Int) (x13_5:Int),v12=.int .i64 x12_5∧v13=.int .i64 x13_5∧Aside0 (F98.l4 kq l0 x3_1 x4_1 x5_3 x6_3 x8_3 (wrap64 (x9_4+(wrap64 ((rd (rd_L1 l0 x4_1) x11_4) * (rd x6_3 x11_4))))) x10_4 x11_4 x12_5 x13_5=some r)∧Aside0 (kq≤k4)∧Aside0 (Kd.R (Kd.int .i64) 2 w' w.heap.size (fun k_=>some k_ ≠ (u5:Value).ownBlock∧some k_ ≠ ((.slice (some ad128) x6_3.length co28):Value).ownBlock∧some k_ ≠ (u10:Value).ownBlock) u3 x3_1)∧Aside0 (Kd.R (Kd.int .i64) 2 w' w.heap.size (fun k_=>some k_ ≠ (u3:Value).ownBlock∧some k_ ≠ ((.slice (some ad128) x6_3.length co28):Value).ownBlock∧some k_ ≠ (u10:Value).ownBlock) u5 x5_3)∧Aside0 (Kd.R (Kd.int .i64) 2 w' w.heap.size (fun k_=>some k_ ≠ (u3:Value).ownBlock∧some k_ ≠ (u5:Value).ownBlock∧some k_ ≠ (u10:Value).ownBlock) (.slice (some ad128) x6_3.length co28) x6_3)∧Aside0 (Kd.R (Kd.int .i64) 2 w' w.heap.size (fun k_=>some k_ ≠ (u3:Value).ownBlock∧some k_ ≠ (u5:Value).ownBlock∧some k_ ≠ ((.slice (some ad128) x6_3.length co28):Value).ownBlock) u10 x10_4)∧Aside0 (Below w.heap.size w w'))
          case atStart=>exact ⟨(0),(0),rs,rs,H',⟨Nat.le_refl _⟩,⟨aR (HO_3.z)⟩,⟨aR (HO_5.z)⟩,⟨aR (HO_6.z)⟩,⟨aR (HO_10.z)⟩,⟨bl⟩⟩
          case round =>
           clear H'
           obtain ⟨x12_5,x13_5,rfl,rfl,HA,HK5,HO_3,HO_5,HO_6,HO_10,HB⟩:=hrel
           cases gk with
           | zero=>exact absurd HA.z (by simp [F98.l4])
           | succ k5 =>
            have H:=HA.z
            clear HA
            simp only [F98.l4] at H
            replace H:=iC H;obtain ⟨c29b0,H⟩|⟨c29b0,H⟩:=H
            case inl =>
             replace H:=iS H;obtain ⟨c36,H⟩:=H
             have LMc36:=k0 c36
             clear c36
             obtain ⟨y132,Ny132⟩:=nY (x10_4 ++ [x12_5]:List Int)
             replace H:(F98.l3 k5 l0 x3_1 x4_1 x5_3 x6_3 x8_3 (wrap64 (x9_4+(wrap64 ((rd (rd_L1 l0 x4_1) x11_4) * (rd x6_3 x11_4))))) y132 (wrap64 (x11_4+1)))=some r:=rH Ny132.z H
             have H':=k0 H
             clear H
             go_wp2_with (first|((with_reducible refine gate_builtin (b:=.append) (xs:=#[.tmp 93,.tmp 95]) rfl ?_);at_builtin;refine Kd.R_append (Kd.int .i64) (w0:=w) w.heap.size rfl (.tmp 93) (.tmp 95) 27 2 (.int .i64 0) 8 rfl Try.underlying27 info2 rfl (by decide) (by omega) u10 x10_4 x12_5 [.int .i64 x12_5] (fun k_=>some k_ ≠ (u3:Value).ownBlock∧some k_ ≠ (u5:Value).ownBlock∧some k_ ≠ (.slice (some ad128) x6_3.length co28:Value).ownBlock) (fun _=>False) rfl rfl ?aP (fun _ hk=>hk.elim) ?aF ?aO ?aB ?aS ?aL ?_;(case aP=>exact rfl);(case aB=>exact bl);(case aF=>exact (fun k_ hk=>⟨Kd.fresh' (Kd.R_lt (aR HO_3.z)) k_ hk,Kd.fresh' (Kd.R_lt (aR HO_5.z)) k_ hk,Kd.fresh' (Kd.R_lt (aR HO_6.z)) k_ hk⟩));(case aO=>exact (aR HO_10.z));(case aS=>exact (below_size bl));(case aL=>have:=LMc36.out;omega);intro v133 w37 ho hb hg hat;rw [← Ny132.z] at ho;replace HO_3:=k0 (Kd.R_after (ok:=(fun k_=>some k_ ≠ (u5:Value).ownBlock∧some k_ ≠ (.slice (some ad128) x6_3.length co28:Value).ownBlock)) (aR (Kd.R_mono HO_3.z (fun _ hk=>⟨⟨hk.1,hk.2.1⟩,hk.2.2⟩))) hg hat);replace HO_5:=k0 (Kd.R_after (ok:=(fun k_=>some k_ ≠ (u3:Value).ownBlock∧some k_ ≠ (.slice (some ad128) x6_3.length co28:Value).ownBlock)) (aR (Kd.R_mono HO_5.z (fun _ hk=>⟨⟨hk.1,hk.2.1⟩,hk.2.2⟩))) hg hat);replace HO_6:=k0 (Kd.R_after (ok:=(fun k_=>some k_ ≠ (u3:Value).ownBlock∧some k_ ≠ (u5:Value).ownBlock)) (aR (Kd.R_mono HO_6.z (fun _ hk=>⟨⟨hk.1,hk.2.1⟩,hk.2.2⟩))) hg hat);replace HB:=k0 hb;have HO134:=k0 ho;clear HO_10;clear ho hb hg hat))
             first|go_roundg k5|(simp only [← hji40];go_roundg k5)|(simp only [← hji51];go_roundg k5)
             case measure=>have:=HK1.z;have:=HK2.z;have:=HK3.z;have:=HK4.z;have:=HK5.z;omega
             case rel=>exact ⟨((wrap64 (x9_4+(wrap64 ((rd (rd_L1 l0 x4_1) x11_4) * (rd x6_3 x11_4)))))),(y132),(wrap64 (x11_4+1)),rs,rs,(by first|exact H'|(rw [hji40];exact H')|(rw [hji51];exact H')),⟨by have:=HK1.z;have:=HK2.z;have:=HK3.z;have:=HK4.z;have:=HK5.z;omega⟩,⟨aR (Kd.R_mono HO_3.z (fun _ hk=>⟨hk.1.1,⟨hk.1.2,hk.2⟩⟩))⟩,⟨aR (Kd.R_mono HO_5.z (fun _ hk=>⟨hk.1.1,⟨hk.1.2,hk.2⟩⟩))⟩,⟨aR (Kd.R_mono HO_6.z (fun _ hk=>⟨hk.1.1,⟨hk.1.2,hk.2⟩⟩))⟩,⟨aR (HO134.z)⟩,⟨bl⟩⟩
            replace H:=iS H;obtain ⟨c30,H⟩:=H
            have c30b0:=decide_eq_true c30
            clear c30
            replace H:=iS H;obtain ⟨c31,H⟩:=H
            have c31b0:=decide_eq_true c31
            clear c31
            replace H:=iS H;obtain ⟨c32,H⟩:=H
            have c32b0:=decide_eq_true c32
            clear c32
            replace H:=iS H;obtain ⟨c33,H⟩:=H
            have c33b0:=decide_eq_true c33
            clear c33
            replace H:=iS H;obtain ⟨c34,H⟩:=H
            have c34b0:=decide_eq_true c34
            clear c34
            have H':=k0 H
            clear H
            try go_wp2
            replace HO_3:=k0 (Kd.R_drew HO_3.z);replace HO_5:=k0 (Kd.R_drew HO_5.z);replace HO_6:=k0 (Kd.R_drew HO_6.z);replace HO_10:=k0 (Kd.R_drew HO_10.z);replace HB:=k0 (below_drew1 HB.z)
            obtain ⟨p129,q129⟩:=iN x11_4 (l0.length:Int)
            obtain ⟨ad129,A129_0,c129_0,e129,hx129_0,hl129_0,hi129_0⟩:=at_L1 HR0.z x11_4 p129 q129
            have hw129_0:=hx129_0
            obtain rfl:ad107=ad129:=(by injection e129)
            replace hx129_0:=hbc HB hx129_0
            have HR129_0:=k0 hi129_0
            have HC129_0:=k0 hl129_0
            clear hi129_0 hl129_0
            replace p129:=eT p129
            replace q129:=eT q129
            obtain ⟨p130,q130⟩:=iN x13_5 ((rd_L1 l0 x11_4).length:Int)
            obtain ⟨ad130,e130,hx130_0⟩:=Kd.at_int HR129_0.z x13_5 p130 q130
            have hw130_0:=hx130_0
            cases e130
            replace hx130_0:=hbc HB hx130_0
            replace p130:=eT p130
            replace q130:=eT q130
            obtain ⟨p131,q131⟩:=iN x13_5 (x6_3.length:Int)
            obtain ⟨ad131,e131,hx131_0⟩:=Kd.at_int (Kd.R_reads' HO_6.z).2.2 x13_5 p131 q131
            obtain rfl:ad128=ad131:=(by injection e131)
            replace p131:=eT p131
            replace q131:=eT q131
            refine start_ (n:=15) (S:=fun w'=>w'.cell? (ad107.add (x11_4).toNat)=some (.slice (some ad130) (rd_L1 l0 x11_4).length c129_0)∧w'.cell? (ad130.add (x13_5).toNat)=some (.int .i64 (rd (rd_L1 l0 x11_4) x13_5))∧w'.cell? (ad128.add (x13_5).toNat)=some (.int .i64 (rd x6_3 x13_5))) (ds:=[]) (ba 15 0) (by kernel_rfl) rfl rfl ⟨(hbc HB hw129_0 :),(hbc HB hw130_0 :),hx131_0⟩ (fun hHeld=>?_);refine with_tabW F98.tab22 F98.bits22 (fun HT_ HW_=>?_)
            generalize wr.drew=w35 at HO_3 HO_5 HO_6 HO_10 HB HR129_0 hx129_0 hx130_0 hx131_0 hHeld ⊢
            refine pu 0 (some 79) (ba 15 1) HT_ (h:=?_)
            refine pu 1 (some 80) (ba 15 3) HT_ (h:=?_)
            refine pu 2 (some 81) (ba 15 7) HT_ (h:=?_)
            refine pu 3 (some 82) (ba 15 15) HT_ (h:=?_)
            refine pu 5 (some 84) (ba 15 47) HT_ (h:=?_)
            refine pu 8 (some 87) (ba 15 303) HT_ (h:=?_)
            refine pu 9 (some 88) (ba 15 815) HT_ (h:=?_)
            refine pu 10 (some 89) (ba 15 1839) HT_ (h:=?_)
            refine zT3 4 (some 83) (ba 15 1855) HT_ HW_ hHeld (h:=?_)
            refine pu 6 (some 85) (ba 15 1919) HT_ (h:=?_)
            refine zT3 7 (some 86) (ba 15 2047) HT_ HW_ hHeld (h:=?_)
            refine zT3 11 (some 90) (ba 15 4095) HT_ HW_ hHeld (h:=?_)
            refine pu 12 (some 91) (ba 15 8191) HT_ (h:=?_)
            refine pu 13 (some 92) (ba 15 16383) HT_ (h:=?_)
            refine pu 14 (some 12) (ba 15 32767) HT_ (h:=?_)
            refine done_ (done_of HT_.out (by kernel_rfl)) ?_
            try go_wp2
            first|go_roundg k5|(simp only [← hji40];go_roundg k5)|(simp only [← hji51];go_roundg k5)
            case measure=>have:=HK1.z;have:=HK2.z;have:=HK3.z;have:=HK4.z;have:=HK5.z;omega
            case rel=>exact ⟨(wrap64 (x12_5+(wrap64 ((rd (rd_L1 l0 x11_4) x13_5) * (rd x6_3 x13_5))))),(wrap64 (x13_5+1)),rs,rs,(by first|exact H'|(rw [hji40];exact H')|(rw [hji51];exact H')),⟨by have:=HK1.z;have:=HK2.z;have:=HK3.z;have:=HK4.z;have:=HK5.z;omega⟩,⟨aR (HO_3.z)⟩,⟨aR (HO_5.z)⟩,⟨aR (HO_6.z)⟩,⟨aR (HO_10.z)⟩,⟨bl⟩⟩
     replace H:=iS H;obtain ⟨c12,H⟩:=H
     have c12b0:=decide_eq_true c12
     clear c12
     replace H:=iS H;obtain ⟨c13,H⟩:=H
     have c13b0:=decide_eq_true c13
     clear c13
     replace H:=iS H;obtain ⟨c14,H⟩:=H
     have c14b0:=decide_eq_true c14
     clear c14
     replace H:=iS H;obtain ⟨c15,H⟩:=H
     have c15b0:=decide_eq_true c15
     clear c15
     replace H:=iS H;obtain ⟨c16,H⟩:=H
     have LMc16:=k0 c16
     clear c16
     obtain ⟨y117,Ny117⟩:=nY (x6_2 ++ [rd (rd_L1 l0 x7_2) x4_1]:List Int)
     replace H:(F98.l1 k2 l0 x3_1 x4_1 y109 y117 (wrap64 (x7_2+1)))=some r:=rH Ny117.z H
     have H':=k0 H
     clear H
     obtain ⟨p115,q115⟩:=iN x7_2 (l0.length:Int)
     obtain ⟨ad115,A115_0,c115_0,e115,hx115_0,hl115_0,hi115_0⟩:=at_L1 HR0.z x7_2 p115 q115
     obtain rfl:ad107=ad115:=(by injection e115)
     replace hx115_0:=hbc HB hx115_0
     have HR115_0:=k0 hi115_0
     have HC115_0:=k0 hl115_0
     clear hi115_0 hl115_0
     replace p115:=eT p115
     replace q115:=eT q115
     obtain ⟨p116,q116⟩:=iN x4_1 ((rd_L1 l0 x7_2).length:Int)
     obtain ⟨ad116,e116,hx116_0⟩:=Kd.at_int HR115_0.z x4_1 p116 q116
     cases e116
     replace hx116_0:=hbc HB hx116_0
     replace p116:=eT p116
     replace q116:=eT q116
     go_wp2_with (first|((with_reducible refine gate_builtin (b:=.append) (xs:=#[.tmp 39,.tmp 47]) rfl ?_);at_builtin;refine Kd.R_append (Kd.int .i64) (w0:=w) w.heap.size rfl (.tmp 39) (.tmp 47) 27 2 (.int .i64 0) 8 rfl Try.underlying27 info2 rfl (by decide) (by omega) u6 x6_2 (rd (rd_L1 l0 x7_2) x4_1) [.int .i64 (rd (rd_L1 l0 x7_2) x4_1)] (fun k_=>some k_ ≠ (u3:Value).ownBlock∧some k_ ≠ (v110:Value).ownBlock) (fun _=>False) rfl rfl ?aP (fun _ hk=>hk.elim) ?aF ?aO ?aB ?aS ?aL ?_;(case aP=>exact rfl);(case aB=>exact bl);(case aF=>exact (fun k_ hk=>⟨Kd.fresh' (Kd.R_lt (aR HO_3.z)) k_ hk,Kd.fresh' (Kd.R_lt (aR HO_5.z)) k_ hk⟩));(case aO=>exact (aR HO_6.z));(case aS=>exact (below_size bl));(case aL=>have:=LMc16.out;omega);intro v118 w17 ho hb hg hat;rw [← Ny117.z] at ho;replace HO_3:=k0 (Kd.R_after (ok:=(fun k_=>some k_ ≠ (v110:Value).ownBlock)) (aR HO_3.z) hg hat);replace HO_5:=k0 (Kd.R_after (ok:=(fun k_=>some k_ ≠ (u3:Value).ownBlock)) (aR HO_5.z) hg hat);replace HB:=k0 hb;have HO119:=k0 ho;clear HO_6;clear ho hb hg hat))
     first|go_roundg k2|(simp only [← hji40];go_roundg k2)|(simp only [← hji51];go_roundg k2)
     case measure=>have:=HK1.z;have:=HK2.z;omega
     case rel=>exact ⟨(y117),(wrap64 (x7_2+1)),rs,(by first|exact H'|(rw [hji40];exact H')|(rw [hji51];exact H')),⟨by have:=HK1.z;have:=HK2.z;omega⟩,⟨aR (HO_3.z)⟩,⟨aR (HO_5.z)⟩,⟨aR (HO119.z)⟩,⟨bl⟩⟩
end Go.Proofs.Ytgjdbnipcpmhiaa.P
/- Set with little white space, by a program. -/
