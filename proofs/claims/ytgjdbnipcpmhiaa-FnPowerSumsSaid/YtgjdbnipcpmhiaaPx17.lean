/- Go's calls come to what the Lean functions say. Condition of each: that the Lean function answers. -/
import Derived.Test.YtgjdbnipcpmhiaaPx0
import Derived.Test.YtgjdbnipcpmhiaaPx5
import Derived.Test.YtgjdbnipcpmhiaaPx8
import Derived.Test.YtgjdbnipcpmhiaaPx13
import Derived.Test.YtgjdbnipcpmhiaaPx14
import Derived.Test.YtgjdbnipcpmhiaaPx15
namespace Go.Proofs.Ytgjdbnipcpmhiaa.P
open Go.RowKit Go.Proofs.YtgjdbnipcpmhiaaW.PrintWords Go.Proofs.YtgjdbnipcpmhiaaW.PrintLast Go.Proofs.YtgjdbnipcpmhiaaW.PrintMore
attribute [local go_sem] max2_int min2_int max_two min_two max_three min_three max_four min_four
set_option linter.unusedVariables false
set_option linter.unusedSimpArgs false
set_option maxHeartbeats 8000000
set_option maxRecDepth 100000
/-! ### F97: function 97 -/
mutual
def F97.l0 : Nat → List (List Int) → List Int → List (List Int) → Int → Option (List Int)
 | 0,_,_,_,_=>none
 | k+1,x0,x3,x4,x5=>if x5≤(x0.length:Int) then ((F111.f k x0 x4).bind fun t110=>(F97.l1 k x0 x3 t110 x5 (t110.length:Int) 0)) else ((F77.f k x3).bind fun t107=>(some t107))
def F97.l1 : Nat → List (List Int) → List Int → List (List Int) → Int → Int → Int → Option (List Int)
 | 0,_,_,_,_,_,_=>none
 | k+1,x0,x3,x4,x5,x21,x22=>if x22 < x21 then (if 0≤x22 then (if x22 < (x4.length:Int) then (if x22 < ((rd_L1 x4 x22).length:Int) then (if 0≤(wrap64 (x5 - 1)) then (if (wrap64 (x5 - 1)) < (x3.length:Int) then (F97.l1 k x0 x3 (x4.set (x22:Int).toNat ((rd_L1 x4 x22).set (x22:Int).toNat (wrap64 ((rd (rd_L1 x4 x22) x22)+(rd x3 (wrap64 (x5 - 1))))))) x5 x21 (wrap64 (x22+1))) else (none)) else (none)) else (none)) else (none)) else (none)) else ((F111.f k x0 x4).bind fun t119=>((F110.f k t119).bind fun t122=>(if x5=0 then (none) else (if x3.length < 17592186044416 then (F97.l0 k x0 (x3 ++ [wrap64 (Int.tdiv (wrap64 (-t122)) x5)]) x4 (wrap64 (x5+1))) else (none)))))
end
def F97.f (k:Nat) (l0:List (List Int)):Option (List Int):=(F100.f k (l0.length:Int)).bind fun t104=>(F97.l0 k l0 (([1]:List Int)) t104 1)
def F97.T9:Bool × List (List Nat × List Nat):=(true,[([],[]),([],[]),([0,1],[0,1]),([2],[2]),([],[]),([3,4],[3,4]),([5],[5]),([],[]),([],[]),([8],[8]),([7,9],[7,9]),([10],[10]),([6,11],[6,11]),([3,4,0,1,2,3,4,5,6,7,8,9,10,11,12],[3,4]),([13,12,0,1,2,3,4,5,6,7,8,9,10,11,12],[12,13])])
def F97.B9:List Nat:=[0,0,3,7,0,31,63,0,0,256,896,1920,4095,8191,16383]
theorem F97.tab9:rtab .any (opsOf Try.f97 9)=F97.T9:=by kernel_rfl
theorem F97.bits9:waitsOk F97.T9.2 F97.B9=true:=by kernel_rfl
theorem F97.calls (k : Nat) (A0 : Option Addr) (c0 : Nat) (l0 : List (List Int)) (r : List Int) (w : World) (hr0 : Kd.C (Kd.slice 2 (Kd.int .i64)) w A0 l0.length l0) (hc0 : l0.length ≤ c0) (h : F97.f k l0 = some r) :
  Calls Try.prog 97 #[.slice A0 l0.length c0] w fun e w'=>∃ v0_:Value,e=.returned (v0_)∧Kd.R (Kd.int .i64) 2 w' w.heap.size (fun _=>True) v0_ r∧Below w.heap.size w w':=by
 have HR0:=k0 hr0
 have HC0:=k0 hc0
 clear hr0 hc0
 have HB:=k0 (Below.refl w.heap.size w)
 unfold F97.f at h
 have H:=h
 clear h
 obtain ⟨y101,Ny101⟩:=nY (([1]:List Int):List Int)
 replace H:((F100.f k (l0.length:Int)).bind fun t104=>(F97.l0 k l0 y101 t104 1))=some r:=rH Ny101.z H
 replace H:=bS H;obtain ⟨t104,A2,H⟩:=H
 have H':=k0 H
 clear H
 go_enter Try.func97,Try.ntmps97
 go_wp2_with (first|(refine gate_dst (N:=7) rfl ?_;refine zRt 2 (N:=7) (xs:=([1]:List Int)) (inner:=[.int .i64 1]) (Reps.one (show Kd.M (Kd.int .i64) _ _ _ 1 [.int .i64 1] from rfl) (Reps.none _ _)) ?_;intro v102 w3 ho4 hb hg_ hnew_;clear hg_ hnew_;(first|rw [← Ny101.z] at ho4|(simp only [Int.reduceToNat] at ho4;rw [← Ny101.z] at ho4));have HO103:=k0 (Kd.R_lower ho4 (below_size bl));replace HB:=bW hb;clear hb ho4)|(refine gate_callee (f:=100) rfl ?_;refine gC (some 10) Try.func100 #[.int .i64 (l0.length:Int)] ?_;(with_reducible refine (F100.calls k (l0.length:Int) t104 _ A2.z).mono ?_);rintro e w5 ⟨v105,rfl,ho0,hb⟩;refine ⟨_,rfl,?_⟩;have HO106:=k0 (Kd.S_lower (Kd.S_new' ho0 (Kd.R_lt (aR HO103.z))) (below_size bl));replace HO103:=bwR HO103 hb;replace HB:=bW hb))
 go_loopg [3,4,5] k (fun kq v3 v4 v5 w'=>∃ (x3_1:List Int) (x4_1:List (List Int)) (x5_1:Int),v5=.int .i64 x5_1∧Aside0 (F97.l0 kq l0 x3_1 x4_1 x5_1=some r)∧Aside0 (kq≤k)∧Aside0 (Kd.R (Kd.int .i64) 2 w' w.heap.size (fun _=>True) v3 x3_1)∧Aside0 (Kd.S (Kd.slice 2 (Kd.int .i64)) 27 w' w.heap.size (fun k_=>some k_ ≠ (v3:Value).ownBlock) v4 x4_1)∧Aside0 (Below w.heap.size w w'))
 case atStart=>exact ⟨(y101),(t104),(1),rs,H',⟨Nat.le_refl _⟩,⟨aR (HO103.z)⟩,⟨aS (Kd.S_mono HO106.z (fun _ hk=>hk.2))⟩,⟨bl⟩⟩
 case round =>
  clear H'
  obtain ⟨x3_1,x4_1,x5_1,rfl,HA,HK1,HO_3,HO_4,HB⟩:=hrel
  cases gk with
  | zero=>exact absurd HA.z (by simp [F97.l0])
  | succ k1 =>
   have H:=HA.z
   clear HA
   simp only [F97.l0] at H
   replace H:=iC H;obtain ⟨c6b0,H⟩|⟨c6b0,H⟩:=H
   case inl =>
    replace H:=bS H;obtain ⟨t107,A30,H⟩:=H
    obtain rfl:=Option.some.inj H
    obtain ⟨Ao31,co31,rfl⟩:=Kd.R_slice HO_3.z
    go_wp2_with (first|(refine gate_callee (f:=77) rfl ?_;refine gC (some 51) Try.func77 #[.slice Ao31 x3_1.length co31] ?_;(with_reducible refine (F77.calls k1 (fun k_=>some k_=(.slice Ao31 x3_1.length co31:Value).ownBlock) _ _ x3_1 t107 _ ?side1 A30.z).mono ?_);(case side1=>exact Kd.R_V (Kd.R_tight rfl (Kd.R_apart' (HO_3.z) (Kd.S_typed HO_4.z) (by decide))));rintro e w32 ⟨v108,rfl,ho0,hb⟩;refine ⟨_,rfl,?_⟩;replace HO_4:=elS HO_4 (Kd.R_base ho0) hb;have HO109:=k0 (Kd.R_lower (Kd.R_new' (Kd.R_mono (ok':=fun k_=>True) ho0 (fun _ hk_=>trivial)) (Kd.R_lt (aR HO_3.z))) (below_size bl));replace HO_3:=elR HO_3 (Kd.R_base ho0) hb;replace HB:=bW hb))
    go_ret
    exact ⟨_,eR,aR (Kd.R_mono HO109.z (fun _ hk=>trivial)),bl⟩
   replace H:=bS H;obtain ⟨t110,A7,H⟩:=H
   have H':=k0 H
   clear H
   obtain ⟨Ao8,co8,rfl⟩:=Kd.S_slice HO_4.z
   go_wp2_with (first|(refine gate_callee (f:=111) rfl ?_;refine gC (some 19) Try.func111 #[.slice A0 l0.length c0,.slice Ao8 x4_1.length co8] ?_;(with_reducible refine (F111.calls k1 _ _ l0 _ _ x4_1 t110 _ ?side1 ?side2 ?side3 ?side4 A7.z).mono ?_);(case side1=>exact aC (Kd.C_below HR0.z HB.z));(case side2=>exact HC0.z);(case side3=>exact aC ((Kd.S_reads' HO_4.z).2.2));(case side4=>exact (Kd.S_reads' HO_4.z).2.1);rintro e w9 ⟨v111,rfl,ho0,hb⟩;refine ⟨_,rfl,?_⟩;have HO112:=k0 (Kd.S_lower (Kd.S_new' (Kd.S_new' ho0 (Kd.R_lt (aR HO_3.z))) (Kd.S_lt (aS HO_4.z))) (below_size bl));replace HO_3:=bwR HO_3 hb;replace HO_4:=elS HO_4 (Kd.S_base ho0) hb;replace HB:=bW hb;obtain ⟨Ao10,co10,rfl⟩:=Kd.S_slice HO112.z))
   go_loopg [22] k1 (fun kq v22 w'=>∃ (x3_2:List Int) (x4_2:List (List Int)) (x22_2:Int),v22=.int .i64 x22_2∧Aside0 (F97.l1 kq l0 x3_2 x4_2 x5_1 (t110.length:Int) x22_2=some r)∧Aside0 (kq≤k1)∧Aside0 (Kd.R (Kd.int .i64) 2 w' w.heap.size (fun _=>True) u3 x3_2)∧Aside0 (Kd.S (Kd.slice 2 (Kd.int .i64)) 27 w' w.heap.size (fun k_=>some k_ ≠ (u3:Value).ownBlock) (.slice Ao10 t110.length co10) x4_2)∧Aside0 (Below w.heap.size w w'))
   case atStart=>exact ⟨(x3_1),(t110),(0),rs,H',⟨Nat.le_refl _⟩,⟨aR (HO_3.z)⟩,⟨aS (Kd.S_mono HO112.z (fun _ hk=>hk.1.2))⟩,⟨bl⟩⟩
   case round =>
    clear H'
    obtain ⟨x3_2,x4_2,x22_2,rfl,HA,HK2,HO_3,HO_4,HB⟩:=hrel
    have hl4_2:=(Kd.S_reads' HO_4.z).1
    rw [hl4_2] at HO_4
    (try simp only [hl4_2])
    (try simp only [hl4_2] at HO_3)
    cases gk with
    | zero=>exact absurd HA.z (by simp [F97.l1])
    | succ k2 =>
     have H:=HA.z
     clear HA
     simp only [F97.l1] at H
     by_cases c11:x22_2 < (t110.length:Int)
     case neg =>
      rw [if_neg c11] at H
      have c11b0:=decide_eq_false c11
      (try simp only [hl4_2] at c11b0)
      clear c11
      replace H:=bS H;obtain ⟨t119,A23,H⟩:=H
      replace H:=bS H;obtain ⟨t122,A24,H⟩:=H
      by_cases c25:x5_1=0
      case neg =>
       rw [if_neg c25] at H
       have c25b0:=beq_eq_false_iff_ne.mpr c25
       have c25b1:=bne_iff_ne.mpr c25
       replace H:=iS H;obtain ⟨c26,H⟩:=H
       have LMc26:=k0 c26
       clear c26
       obtain ⟨y123,Ny123⟩:=nY (x3_2 ++ [wrap64 (Int.tdiv (wrap64 (-t122)) x5_1)]:List Int)
       replace H:(F97.l0 k2 l0 y123 x4_2 (wrap64 (x5_1+1)))=some r:=rH Ny123.z H
       have H':=k0 H
       clear H
       go_wp2_with (first|(refine gate_callee (f:=111) rfl ?_;refine gC (some 43) Try.func111 #[.slice A0 l0.length c0,.slice Ao10 x4_2.length co10] ?_;(with_reducible refine (F111.calls k2 _ _ l0 _ _ x4_2 t119 _ ?side1 ?side2 ?side3 ?side4 A23.z).mono ?_);(case side1=>exact aC (Kd.C_below HR0.z HB.z));(case side2=>exact HC0.z);(case side3=>exact aC ((Kd.S_reads' HO_4.z).2.2));(case side4=>exact (Kd.S_reads' HO_4.z).2.1);rintro e w27 ⟨v120,rfl,ho0,hb⟩;refine ⟨_,rfl,?_⟩;have HO121:=k0 (Kd.S_lower (Kd.S_new' (Kd.S_new' ho0 (Kd.R_lt (aR HO_3.z))) (Kd.S_lt (aS HO_4.z))) (below_size bl));replace HO_3:=bwR HO_3 hb;replace HO_4:=elS HO_4 (Kd.S_base ho0) hb;replace HB:=bW hb;obtain ⟨Ao28,co28,rfl⟩:=Kd.S_slice HO121.z)|(refine gate_callee (f:=110) rfl ?_;refine gC (some 44) Try.func110 #[.slice Ao28 t119.length co28] ?_;(with_reducible refine (F110.calls k2 _ _ t119 t122 _ ?side1 ?side2 A24.z).mono ?_);(case side1=>exact aC ((Kd.S_reads' HO121.z).2.2));(case side2=>exact (Kd.S_reads' HO121.z).2.1);rintro e w' ⟨rfl,⟨nd,rfl⟩⟩;refine ⟨_,rfl,?_⟩)|((with_reducible refine gate_builtin (b:=.append) (xs:=#[.tmp 40,.tmp 48]) rfl ?_);at_builtin;refine Kd.R_append (Kd.int .i64) (w0:=w) w.heap.size rfl (.tmp 40) (.tmp 48) 27 2 (.int .i64 0) 8 rfl Try.underlying27 info2 rfl (by decide) (by omega) u3 x3_2 (wrap64 (Int.tdiv (wrap64 (-t122)) x5_1)) [.int .i64 (wrap64 (Int.tdiv (wrap64 (-t122)) x5_1))] (fun _=>True) (fun _=>False) rfl rfl ?aP (fun _ hk=>hk.elim) ?aF ?aO ?aB ?aS ?aL ?_;(case aP=>exact rfl);(case aB=>exact bl);(case aF=>exact (fun _ _=>trivial));(case aO=>exact (aR HO_3.z));(case aS=>exact (below_size bl));(case aL=>have:=LMc26.out;omega);intro v124 w29 ho hb hg hat;rw [← Ny123.z] at ho;replace HO_4:=k0 (Kd.S_after (ok:=(fun k_=>some k_ ≠ (.slice Ao28 t119.length co28:Value).ownBlock)) (aS (Kd.S_mono HO_4.z (fun _ hk=>⟨hk.2,hk.1⟩))) hg hat);replace HO121:=k0 (Kd.S_after (ok:=(fun k_=>some k_ ≠ (.slice Ao10 x4_2.length co10:Value).ownBlock)) (aS (Kd.S_mono HO121.z (fun _ hk=>⟨hk.2,hk.1.2⟩))) hg hat);replace HB:=k0 hb;have HO125:=k0 ho;clear HO_3;clear ho hb hg hat))
       (try simp only [← hl4_2])
       first|go_roundg k2|(simp only [← hji15];go_roundg k2)
       case measure=>have:=HK1.z;have:=HK2.z;omega
       case rel=>exact ⟨(y123),(x4_2),(wrap64 (x5_1+1)),rs,(by first|exact H'|(rw [hji15];exact H')),⟨by have:=HK1.z;have:=HK2.z;omega⟩,⟨by (try simp only [hl4_2]);(with_reducible repeat (first|apply Kd.R_alloc|apply Kd.R_drewN|apply Kd.R_drew));exact HO125.z⟩,⟨by (try simp only [hl4_2]);(with_reducible repeat (first|apply Kd.S_alloc|apply Kd.S_drewN|apply Kd.S_drew));exact Kd.S_mono HO_4.z (fun _ hk=>hk.2)⟩,⟨bl⟩⟩
      rw [if_pos c25] at H
      exact absurd H (by simp)
     rw [if_pos c11] at H
     have c11b0:=decide_eq_true c11
     (try simp only [hl4_2] at c11b0)
     clear c11
     replace H:=iS H;obtain ⟨c12,H⟩:=H
     have c12b0:=decide_eq_true c12
     clear c12
     replace H:=iS H;obtain ⟨c13,H⟩:=H
     have c13b0:=decide_eq_true c13
     (try simp only [hl4_2] at c13b0)
     clear c13
     replace H:=iS H;obtain ⟨c14,H⟩:=H
     have c14b0:=decide_eq_true c14
     (try simp only [hl4_2] at c14b0)
     clear c14
     obtain ⟨ji15,hji15⟩:∃ j_:Int,(wrap64 (x5_1 - 1))=j_:=⟨_,rfl⟩
     replace H:(if 0≤(ji15) then (if (ji15) < (x3_2.length:Int) then (F97.l1 k2 l0 x3_2 (x4_2.set (x22_2:Int).toNat ((rd_L1 x4_2 x22_2).set (x22_2:Int).toNat (wrap64 ((rd (rd_L1 x4_2 x22_2) x22_2)+(rd x3_2 (ji15)))))) x5_1 (t110.length:Int) (wrap64 (x22_2+1))) else (none)) else (none))=some r:=by first|(rw [hji15] at H;exact H)|(simp only [hji15] at H ⊢;exact H)
     have hji15w:(IntKind.i64.wrap (x5_1 - 1))=ji15:=(i64_w _).trans hji15
     replace H:=iS H;obtain ⟨c16,H⟩:=H
     have c16b0:=decide_eq_true c16
     clear c16
     replace H:=iS H;obtain ⟨c17,H⟩:=H
     have c17b0:=decide_eq_true c17
     (try simp only [hl4_2] at c17b0)
     clear c17
     obtain ⟨y116,Ny116⟩:=nY ((rd_L1 x4_2 x22_2).set (x22_2:Int).toNat (wrap64 ((rd (rd_L1 x4_2 x22_2) x22_2)+(rd x3_2 (ji15)))):List Int)
     replace H:(F97.l1 k2 l0 x3_2 (x4_2.set (x22_2:Int).toNat y116) x5_1 (t110.length:Int) (wrap64 (x22_2+1)))=some r:=rH Ny116.z H
     obtain ⟨y118,Ny118⟩:=nY (x4_2.set (x22_2:Int).toNat y116:List (List Int))
     replace H:(F97.l1 k2 l0 x3_2 y118 x5_1 (t110.length:Int) (wrap64 (x22_2+1)))=some r:=rH Ny118.z H
     have H':=k0 H
     clear H
     try go_wp2
     replace HO_3:=k0 (Kd.R_drew HO_3.z);replace HO_4:=k0 (Kd.S_drew HO_4.z);replace HB:=k0 (below_drew1 HB.z)
     obtain ⟨p113,q113⟩:=iN x22_2 (x4_2.length:Int)
     obtain ⟨ad113,A113_0,c113_0,e113,hx113_0,hl113_0,hi113_0⟩:=at_L1 (Kd.S_reads' HO_4.z).2.2 x22_2 p113 q113
     cases e113
     obtain ⟨ce113,hce113,hMe113,hcc113⟩:=Kd.S_get HO_4.z [] x22_2 p113 (by first|exact q113|exact oD|(have e_:=(Kd.S_reads' HO_4.z).1;omega))
     obtain ⟨ve113_0,rfl,ge113_0⟩:=hMe113
     have hv113_0:=hcc113 0 _ rfl
     rw [Nat.add_zero,show ((Kd.slice 2 (Kd.int .i64))).sz=1 from rfl,Nat.mul_one] at hv113_0
     replace hv113_0:=Option.some.inj (hv113_0.symm.trans hx113_0)
     rw [hv113_0] at ge113_0
     have HL113_0:=k0 (show Kd.R (Kd.int .i64) 2 _ _ _ _ (rd_L1 x4_2 x22_2) from ge113_0)
     clear hv113_0 ge113_0
     have HX113_0:=k0 hx113_0
     clear hcc113 hce113
     have HR113_0:=k0 hi113_0
     have HC113_0:=k0 hl113_0
     clear hi113_0 hl113_0
     replace p113:=eT p113
     replace q113:=eT q113
     obtain ⟨p114,q114⟩:=iN x22_2 ((rd_L1 x4_2 x22_2).length:Int)
     obtain ⟨ad114,e114,hx114_0⟩:=Kd.at_int (by repeat (first|(with_reducible exact HR113_0.z)|(with_reducible refine Kd.C_alloc ?_ _)|(with_reducible refine Kd.C_drewN ?_ _)|(with_reducible refine Kd.C_drew ?_)|exact HR113_0.z)) x22_2 p114 q114
     cases e114
     replace p114:=eT p114
     replace q114:=eT q114
     obtain ⟨Ao20,co20,eo20⟩:=Kd.R_slice HO_3.z
     (first|subst eo20|(injection eo20 with f1_ f2_ f3_;have f4_:=f1_.symm;have f5_:=f3_.symm;clear f1_ f2_ f3_;subst f4_;subst f5_))
     have p115:0≤((ji15):Int):=oD
     have q115:(ji15) < (x3_2.length:Int):=oD
     obtain ⟨ad115,e115,hx115_0⟩:=Kd.at_int (Kd.R_reads' HO_3.z).2.2 (ji15) p115 q115
     cases e115
     replace p115:=eT p115
     replace q115:=eT q115
     have p18:0≤(x22_2:Int):=oD
     have q18:(x22_2:Int) < (((rd_L1 x4_2 x22_2).length:Int):Int):=oD
     obtain ⟨go18,co18,eo18,gb18,gl18,cl18,HG18⟩:=Kd.R_form HL113_0.z (by omega)
     (first|cases eo18|(injection eo18 with ea_ en_ ec_;(first|subst ea_|(injection ea_ with ea_;subst ea_));subst ec_;clear en_))
     (first|simp only [add_plain] at hx114_0|skip)
     have GB18:=k0 gb18
     have GG18:=k0 HG18
     clear gb18 gl18 HG18
     (first|simp only [add_plain] at hx114_0|skip)
     obtain ⟨hx18_0,hf18_0⟩:=Kd.R_celln 0 HL113_0.z (x22_2:Int) p18 q18
     replace p18:=eT p18
     replace q18:=eT q18
     have hq21:(x22_2:Int) < (x4_2.length:Int):=(by have h_:(x22_2:Int) < ((x4_2.length:Int):Int):=oD;first|exact h_|(have e_:=(Kd.S_reads' HO_4.z).1;omega)|simpa only [List.length_set,List.length_set] using h_)
     obtain ⟨oki21,ce21,hcl21,hM21,hcc21,hok21,hbk21⟩:=Kd.S_borrow HO_4.z [] (x22_2:Int) oD (by first|exact hq21|(have e_:=(Kd.S_reads' HO_4.z).1;omega))
     obtain ⟨ve21_0,rfl,ge21_0⟩:=hM21
     have hv21:=hcc21 0 _ rfl
     rw [Nat.add_zero,show ((Kd.slice 2 (Kd.int .i64))).sz=1 from rfl,Nat.mul_one] at hv21
     replace hv21:=Option.some.inj (hv21.symm.trans HX113_0.z)
     subst hv21
     clear hcc21 hcl21
     replace ge21_0:=(show Kd.R (Kd.int .i64) 2 _ _ _ _ (rd_L1 x4_2 x22_2) from ge21_0)
     have HP21:=Kd.R_putg ge21_0 (x22_2:Int) (wrap64 ((rd (rd_L1 x4_2 x22_2) x22_2)+(rd x3_2 (ji15))))
     have HXp21:=k0 (cell_grown HP21.2 HX113_0.z (cell_ne (hok21 _ (ge21_0.1 _ rfl)).2))
     rw [← Ny116.z] at HP21
     have HPr21:=k0 HP21.1
     have HS21:=hbk21 HP21.2 (fun k_ e_=>by injection e_ with e_;subst e_;exact ge21_0.1 _ rfl) (x':=y116) (Kd.M_row HP21.1)
     rw [← Ny118.z] at HS21
     have HQ21:=k0 HS21
     clear HP21 HS21 hbk21 hok21
     refine start_ (n:=15) (S:=fun w'=>w'.cell? (ad113.add (x22_2).toNat)=some (.slice (some ⟨go18,0,none⟩) (rd_L1 x4_2 x22_2).length c113_0)∧w'.cell? ⟨go18,(x22_2).toNat,none⟩=some (.int .i64 (rd (rd_L1 x4_2 x22_2) x22_2))∧w'.cell? (ad115.add ((ji15)).toNat)=some (.int .i64 (rd x3_2 (ji15)))) (ds:=[14]) (ba 15 0) (by kernel_rfl) rfl rfl ⟨hx113_0,hx114_0,hx115_0⟩ (fun hHeld=>?_);refine with_tabW F97.tab9 F97.bits9 (fun HT_ HW_=>?_)
     generalize wr.drew=w19 at HO_3 HO_4 HB GG18 HL113_0 HQ21 HR113_0 HX113_0 HXp21 hf18_0 hx113_0 hx114_0 hx115_0 hx18_0 hHeld ⊢
     refine pu 0 (some 25) (ba 15 1) HT_ (h:=?_)
     refine pu 1 (some 26) (ba 15 3) HT_ (h:=?_)
     refine pu 2 (some 27) (ba 15 7) HT_ (h:=?_)
     refine pu 4 (some 29) (ba 15 23) HT_ (h:=?_)
     refine pu 7 (some 32) (ba 15 151) HT_ (h:=?_)
     refine pu 8 (some 33) (ba 15 407) HT_ (h:=?_)
     refine pu 9 (some 34) (ba 15 919) HT_ (h:=?_)
     refine pu 10 (some 35) (ba 15 1943) HT_ (h:=?_)
     refine zT3 3 (some 28) (ba 15 1951) HT_ HW_ hHeld (h:=?_)
     refine pu 5 (some 30) (ba 15 1983) HT_ (h:=?_)
     refine zT3 6 (some 31) (ba 15 2047) HT_ HW_ hHeld (h:=?_)
     refine zT3 11 (some 36) (ba 15 4095) HT_ HW_ hHeld (h:=?_)
     refine pu 12 (some 37) (ba 15 8191) HT_ (h:=?_)
     refine pu 13 (some 38) (ba 15 16383) HT_ (h:=?_)
     refine last_ (i:=14) (N:=none) (ba 15 32767) rfl rfl (one_of HT_.out (by kernel_rfl)) (by decide) (fun K hK=>?_)
     refine skip_ (w1:=?_) (by rfl) rfl ?_ ?_
     rotate_left;· go_simp;rfl
     refine hK.out _ _ ?_
     clear hK K
     refine done_ (done_of HT_.out (by kernel_rfl)) ?_
     try go_wp2
     (try simp only [← hl4_2])
     first|go_roundg k2|(simp only [← hji15];go_roundg k2)
     case measure=>have:=HK1.z;have:=HK2.z;omega
     case rel=>exact ⟨(x3_2),(y118),(wrap64 (x22_2+1)),rs,(by first|exact H'|(rw [hji15];exact H')),⟨by have:=HK1.z;have:=HK2.z;omega⟩,⟨by (try simp only [hl4_2]);(with_reducible repeat (first|apply Kd.R_alloc|apply Kd.R_drewN|apply Kd.R_drew));exact Kd.R_mono (Kd.R_far (p:=⟨go18,(x22_2:Int).toNat,none⟩) (Kd.R_far1 HO_3.z rfl ((HL113_0.z.1 _ rfl).1)) (fun _ hk=>hk.2) (.int .i64 (wrap64 ((rd (rd_L1 x4_2 x22_2) x22_2)+(rd x3_2 (ji15)))))) (fun _ hk=>trivial)⟩,⟨by (try simp only [hl4_2]);(with_reducible repeat (first|apply Kd.S_alloc|apply Kd.S_drewN|apply Kd.S_drew));exact HQ21.out⟩,⟨aL HB.z⟩⟩
/-! ### F56: function 56 -/
def F56.f (k:Nat) (a0_0:Int) (l0_1:List (List Int)):Option (List Int):=(F83.f k a0_0 l0_1).bind fun t102=>((F97.f k t102).bind fun t105=>(some t105))
theorem F56.calls (k : Nat) (a0_0 : Int) (A0_1 : Option Addr) (c0_1 : Nat) (l0_1 : List (List Int)) (r : List Int) (w : World) (hr0_1 : Kd.C (Kd.slice 2 (Kd.int .i64)) w A0_1 l0_1.length l0_1) (hc0_1 : l0_1.length ≤ c0_1) (h : F56.f k a0_0 l0_1 = some r) :
  Calls Try.prog 56 #[.agg #[.int .i64 a0_0,.slice A0_1 l0_1.length c0_1]] w fun e w'=>∃ v0_:Value,e=.returned (v0_)∧Kd.R (Kd.int .i64) 2 w' w.heap.size (fun _=>True) v0_ r∧Below w.heap.size w w':=by
 have hu26:=Try.underlying26
 have HR0_1:=k0 hr0_1
 have HC0_1:=k0 hc0_1
 clear hr0_1 hc0_1
 have HB:=k0 (Below.refl w.heap.size w)
 unfold F56.f at h
 have H:=h
 clear h
 replace H:=bS H;obtain ⟨t102,A2,H⟩:=H
 replace H:=bS H;obtain ⟨t105,A3,H⟩:=H
 obtain rfl:=Option.some.inj H
 go_enter Try.func56,Try.ntmps56
 go_wp2_with (first|(refine gate_dst (N:=1) rfl ?_;refine bxz 1 #[.int .i64 a0_0,.slice A0_1 l0_1.length c0_1] 26 bl ?_;intro gb101 w4 BK101 GW101 HB;have GE101:=GW101;obtain ⟨_,_,_,_⟩:=cz2 BK101)|(refine gate_callee (f:=83) rfl ?_;refine gC (some 4) Try.func83 #[.agg #[.int .i64 a0_0,.slice A0_1 l0_1.length c0_1]] ?_;(with_reducible refine (F83.calls k a0_0 _ _ l0_1 t102 _ ?side1 ?side2 A2.z).mono ?_);(case side1=>exact aC (Kd.C_below HR0_1.z HB.z));(case side2=>exact HC0_1.z);rintro e w6 ⟨v103,rfl,ho0,hb⟩;refine ⟨_,rfl,?_⟩;have HO104:=k0 (Kd.S_lower ho0 (below_size bl));replace BK101:=kB BK101 hb;replace HB:=bW hb;obtain ⟨Ao7,co7,rfl⟩:=Kd.S_slice HO104.z)|(refine gate_callee (f:=97) rfl ?_;refine gC (some 5) Try.func97 #[.slice Ao7 t102.length co7] ?_;(with_reducible refine (F97.calls k _ _ t102 t105 _ ?side1 ?side2 A3.z).mono ?_);(case side1=>exact aC ((Kd.S_reads' HO104.z).2.2));(case side2=>exact (Kd.S_reads' HO104.z).2.1);rintro e w8 ⟨v106,rfl,ho0,hb⟩;refine ⟨_,rfl,?_⟩;replace HO104:=elS HO104 (Kd.R_base ho0) hb;have HO107:=k0 (Kd.R_lower ho0 (below_size bl));replace BK101:=kB BK101 hb;replace HB:=bW hb))
 go_ret
 exact ⟨_,eR,aR HO107.z,bl⟩
/-! ### F87: function 87 -/
def F87.f (k:Nat) (a0_0:Int) (l0_1:List (List Int)) (a1:Int):Option Int :=
 (F49.f k a0_0 l0_1).bind fun b=>if b=true then ((F70.f a1 0 12).bind fun q0=>if q0=true then some 0 else some 2) else some 1
theorem F87.calls {b1 : Nat} (k : Nat) (a0_0 : Int) (A0_1 : Option Addr) (c0_1 : Nat) (l0_1 : List (List Int)) (a1 : Int) (r : Int) (w : World) (hr0_1 : Kd.C (Kd.slice 2 (Kd.int .i64)) w A0_1 l0_1.length l0_1) (hc0_1 : l0_1.length ≤ c0_1) (hb1 : w.heap[b1]? = some (.cells #[.int .i64 a1] 2 (0, 0))) (h : F87.f k a0_0 l0_1 a1 = some r) :
  Calls Try.prog 40 #[.agg #[.int .i64 a0_0,.slice A0_1 l0_1.length c0_1],.func (.func 87) #[] #[.pointer (some ⟨b1,0,none⟩)]] w fun e w'=>e=.returned (.int .i64 r)∧Below w.heap.size w w':=by
 have HR0:=k0 hr0_1
 clear hr0_1
 have BK1:=k0 hb1
 have BZ1:=blk_lt hb1
 clear hb1
 unfold F87.f at h
 obtain ⟨b,hb,h⟩:=Option.bind_eq_some_iff.mp h
 have HG:=fun W (hw:Below w.heap.size w W)=>F49.calls k a0_0 A0_1 c0_1 l0_1 b W (Kd.C_below HR0.z hw) hc0_1 hb
 have HG':=k0 HG
 clear HG hb
 cases b
 case' true =>
  simp only [if_true] at h
  obtain ⟨q0,hq0,h⟩:=Option.bind_eq_some_iff.mp h
  have HQ0:=fun W (hw:Below w.heap.size w W)=>F70.calls (a1) (0) (12) q0 W  hq0
  have HQ0':=k0 HQ0
  clear HQ0 hq0
  cases q0
  case' true =>
   simp only [if_true] at h
 all_goals
  simp only [Bool.false_eq_true,if_false,Option.some.injEq] at h
  subst h
  go_enter Try.func40,Try.ntmps40
  go_wp2_with (first|(go_at_call 49;refine (HG'.out _ (by repeat (first|exact Below.refl _ _|apply below_alloc|apply pw_below_drewN))).mono ?_;rintro e w1 ⟨rfl,hb1⟩;have HB1:=k0 (below_step (by repeat (first|exact Below.refl _ _|apply below_alloc|apply pw_below_drewN)) hb1:Below w.heap.size w w1);clear hb1;have hcz_w1_1_0:w1.cell? ⟨b1,0,none⟩=some (.int .i64 a1):=(blk_cell (blk_below BK1.z HB1.z) 0).trans rfl;have hfz_w1_1_0:=blk_frozen (blk_below BK1.z HB1.z) 0)|(go_at_call 70;refine (HQ0'.out _ (by repeat (first|exact HB1.z|apply below_alloc|apply pw_below_drewN))).mono ?_;rintro e w_ ⟨rfl,⟨nd_,rfl⟩⟩)|go_in)
  go_ret
  exact ⟨rs,by repeat (first|exact HB1.z|apply below_alloc|apply pw_below_drewN|apply below_drew1)⟩
/-! ### F32: function 32 -/
def F32.l0 : Nat → List Int → List Int → Int → Int → Option (List Int × Int)
 | 0,_,_,_,_=>none
 | k+1,x7,x8,x20,x21=>if x21 < x20 then ((F71.f x8 x21).bind fun t110=>(if x7.length < 17592186044416 then (F32.l0 k (x7 ++ [t110]) x8 x20 (wrap64 (x21+1))) else (none))) else (some (x7,0))
def F32.f (k:Nat) (a0_0:Int) (l0_1:List (List Int)) (a1:Int):Option (List Int × Int):=(F87.f k a0_0 l0_1 a1).bind fun t103=>(if t103=0 then ((F56.f k a0_0 l0_1).bind fun t107=>(F32.l0 k (([]:List Int)) t107 (wrap64 (a1+1)) 0)) else (some (([]:List Int),t103)))
theorem F32.calls (k : Nat) (a0_0 : Int) (A0_1 : Option Addr) (c0_1 : Nat) (l0_1 : List (List Int)) (a1 : Int) (r1 : List Int) (r2 : Int) (w : World) (hr0_1 : Kd.C (Kd.slice 2 (Kd.int .i64)) w A0_1 l0_1.length l0_1) (hc0_1 : l0_1.length ≤ c0_1) (h : F32.f k a0_0 l0_1 a1 = some (r1, r2)) :
  Calls Try.prog 32 #[.agg #[.int .i64 a0_0,.slice A0_1 l0_1.length c0_1],.int .i64 a1] w fun e w'=>∃ v0_:Value,e=.returned (.tuple #[v0_,.int .i64 r2])∧Kd.R (Kd.int .i64) 2 w' w.heap.size (fun _=>True) v0_ r1∧Below w.heap.size w w':=by
 have hu26:=Try.underlying26
 have HR0_1:=k0 hr0_1
 have HC0_1:=k0 hc0_1
 clear hr0_1 hc0_1
 have HB:=k0 (Below.refl w.heap.size w)
 unfold F32.f at h
 have H:=h
 clear h
 replace H:=bS H;obtain ⟨t103,A3,H⟩:=H
 replace H:=iE H;obtain ⟨c4,c4b0,c4b1,H⟩|⟨c4b0,c4b1,H⟩:=H
 case inl =>
  obtain ⟨rfl,rfl⟩:=zSo H
  go_enter Try.func32,Try.ntmps32
  go_wp2_with (first|(refine gate_dst (N:=2) rfl ?_;refine bxz 2 #[.int .i64 a0_0,.slice A0_1 l0_1.length c0_1] 26 bl ?_;intro gb101 w21 BK101 GW101 HB;have GE101:=GW101)|(refine gate_dst (N:=3) rfl ?_;refine bxe 3 #[.int .i64 a1] 2 ?_;intro gb102 hg w22 hbox hb;have BK102:=k0 hbox;have GW102:=gW hg (below_size bl);have GE102:=GW102;replace HB:=bW hb;have NB101_102:=nL hg BK101;have NB102_101:=nG NB101_102;replace BK101:=kB BK101 hb;clear hb hbox hg;obtain ⟨_,_⟩:=nE NB101_102;obtain ⟨_,_,_,_⟩:=cz2 BK101)|(refine gate_callee (f:=40) rfl ?_;refine gC (some 12) Try.func40 #[.agg #[.int .i64 a0_0,.slice A0_1 l0_1.length c0_1],.func (.func 87) #[] #[.pointer (some ⟨gb102,0,none⟩)]] ?_;(with_reducible refine (F87.calls k a0_0 _ _ l0_1 a1 t103 _ ?side1 ?side2 ?side3 A3.z).mono ?_);(case side1=>exact aC (Kd.C_below HR0_1.z HB.z));(case side2=>exact HC0_1.z);(case side3=>exact by exact bk);rintro e w25 ⟨rfl,hb⟩;refine ⟨_,rfl,?_⟩;replace BK101:=kB BK101 hb;replace BK102:=kB BK102 hb;replace HB:=bW hb))
  go_ret2
  exact ⟨_,eR,by first|exact Kd.R_nil _ _ _ _ _|exact Kd.N_nil _ _ _ _ _|exact Kd.V_nil _ _ _ _ _|exact Kd.Q_nil _ _ _ _ _|exact Kd.S_nil _ _ _ _ _,bl⟩
 obtain ⟨y104,Ny104⟩:=nY (([]:List Int):List Int)
 replace H:((F56.f k a0_0 l0_1).bind fun t107=>(F32.l0 k y104 t107 (wrap64 (a1+1)) 0))=some (r1,r2):=rH Ny104.z H
 replace H:=bS H;obtain ⟨t107,A5,H⟩:=H
 have H':=k0 H
 clear H
 go_enter Try.func32,Try.ntmps32
 go_wp2_with (first|(refine gate_dst (N:=2) rfl ?_;refine bxz 2 #[.int .i64 a0_0,.slice A0_1 l0_1.length c0_1] 26 bl ?_;intro gb101 w6 BK101 GW101 HB;have GE101:=GW101)|(refine gate_dst (N:=3) rfl ?_;refine bxe 3 #[.int .i64 a1] 2 ?_;intro gb102 hg w7 hbox hb;have BK102:=k0 hbox;have GW102:=gW hg (below_size bl);have GE102:=GW102;replace HB:=bW hb;have NB101_102:=nL hg BK101;have NB102_101:=nG NB101_102;replace BK101:=kB BK101 hb;clear hb hbox hg;obtain ⟨_,_⟩:=nE NB101_102;obtain ⟨_,_,_,_⟩:=cz2 BK101)|(refine gate_callee (f:=40) rfl ?_;refine gC (some 12) Try.func40 #[.agg #[.int .i64 a0_0,.slice A0_1 l0_1.length c0_1],.func (.func 87) #[] #[.pointer (some ⟨gb102,0,none⟩)]] ?_;(with_reducible refine (F87.calls k a0_0 _ _ l0_1 a1 t103 _ ?side1 ?side2 ?side3 A3.z).mono ?_);(case side1=>exact aC (Kd.C_below HR0_1.z HB.z));(case side2=>exact HC0_1.z);(case side3=>exact by exact bk);rintro e w10 ⟨rfl,hb⟩;refine ⟨_,rfl,?_⟩;replace BK101:=kB BK101 hb;replace BK102:=kB BK102 hb;replace HB:=bW hb)|(refine gate_dst (N:=16) rfl ?_;refine zRt 2 (N:=16) (xs:=([]:List Int)) (inner:=[]) (Reps.none _ _) ?_;intro v105 w11 ho12 hb hg_ hnew_;clear hg_ hnew_;(first|rw [← Ny104.z] at ho12|(simp only [Int.reduceToNat] at ho12;rw [← Ny104.z] at ho12));have HO106:=k0 (Kd.R_lower (Kd.R_newB ho12 (aB BK102.z)) (below_size bl));replace BK101:=kB BK101 hb;replace BK102:=kB BK102 hb;replace HB:=bW hb;clear hb ho12;obtain ⟨_,_,_,_⟩:=cz2 BK101)|(refine gate_callee (f:=56) rfl ?_;refine gC (some 18) Try.func56 #[.agg #[.int .i64 a0_0,.slice A0_1 l0_1.length c0_1]] ?_;(with_reducible refine (F56.calls k a0_0 _ _ l0_1 t107 _ ?side1 ?side2 A5.z).mono ?_);(case side1=>exact aC (Kd.C_below HR0_1.z HB.z));(case side2=>exact HC0_1.z);rintro e w14 ⟨v108,rfl,ho0,hb⟩;refine ⟨_,rfl,?_⟩;have HO109:=k0 (Kd.R_lower (Kd.R_newB (Kd.R_new' ho0 (Kd.R_lt (aR HO106.z))) (aB BK102.z)) (below_size bl));replace HO106:=elR HO106 (Kd.R_base ho0) hb;replace BK101:=kB BK101 hb;replace BK102:=kB BK102 hb;replace HB:=bW hb;obtain ⟨_,_⟩:=cz1 BK102))
 go_loopg [7,21] k (fun kq v7 v21 w'=>∃ (x7_1:List Int) (x21_1:Int),v21=.int .i64 x21_1∧Aside0 (F32.l0 kq x7_1 t107 (wrap64 (a1+1)) x21_1=some (r1,r2))∧Aside0 (kq≤k)∧Aside0 (Kd.R (Kd.int .i64) 2 w' w.heap.size (fun k_=>some k_ ≠ (v108:Value).ownBlock∧k_ ≠ gb102) v7 x7_1)∧Aside0 (Kd.R (Kd.int .i64) 2 w' w.heap.size (fun k_=>some k_ ≠ (v7:Value).ownBlock∧k_ ≠ gb102) v108 t107)∧Aside0 (w'.heap[gb101]?=some (sO a0_0 A0_1 l0_1 c0_1 26))∧Aside0 (w'.heap[gb102]?=some (.cells #[.int .i64 a1] 2 (0,0)))∧Aside0 (Below w.heap.size w w'))
 case atStart=>exact ⟨(y104),(0),rs,H',⟨Nat.le_refl _⟩,⟨aR (Kd.R_mono HO106.z (fun _ hk=>⟨hk.2,hk.1.2⟩))⟩,⟨aR (Kd.R_mono HO109.z (fun _ hk=>⟨hk.1.2,hk.2⟩))⟩,⟨bk⟩,⟨bk⟩,⟨bl⟩⟩
 case round =>
  clear H'
  obtain ⟨x7_1,x21_1,rfl,HA,HK1,HO_7,HO_8,BK101,BK102,HB⟩:=hrel
  cases gk with
  | zero=>exact absurd HA.z (by simp [F32.l0])
  | succ k1 =>
   have H:=HA.z
   clear HA
   simp only [F32.l0] at H
   replace H:=iC H;obtain ⟨c16b0,H⟩|⟨c16b0,H⟩:=H
   case inl =>
    obtain ⟨rfl,rfl⟩:=zSo H
    go_wp2
    go_ret2
    exact ⟨_,eR,aR (Kd.R_mono HO_7.z (fun _ hk=>trivial)),bl⟩
   replace H:=bS H;obtain ⟨t110,A17,H⟩:=H
   replace H:=iS H;obtain ⟨c18,H⟩:=H
   have LMc18:=k0 c18
   clear c18
   obtain ⟨y111,Ny111⟩:=nY (x7_1 ++ [t110]:List Int)
   replace H:(F32.l0 k1 y111 t107 (wrap64 (a1+1)) (wrap64 (x21_1+1)))=some (r1,r2):=rH Ny111.z H
   have H':=k0 H
   clear H
   obtain ⟨Ao19,co19,rfl⟩:=Kd.R_slice HO_8.z
   go_wp2_with (first|(refine gate_callee (f:=71) rfl ?_;refine gC (some 27) Try.func71 #[.slice Ao19 t107.length co19,.int .i64 x21_1] ?_;(with_reducible refine (F71.calls _ _ t107 x21_1 t110 _ ?side1 ?side2 A17.z).mono ?_);(case side1=>exact aC ((Kd.R_reads' HO_8.z).2.2));(case side2=>exact (Kd.R_reads' HO_8.z).2.1);rintro e w' ⟨rfl,⟨nd,rfl⟩⟩;refine ⟨_,rfl,?_⟩)|((with_reducible refine gate_builtin (b:=.append) (xs:=#[.tmp 24,.tmp 28]) rfl ?_);at_builtin;refine Kd.R_append (Kd.int .i64) (w0:=w) w.heap.size rfl (.tmp 24) (.tmp 28) 27 2 (.int .i64 0) 8 rfl Try.underlying27 info2 rfl (by decide) (by omega) u7 x7_1 t110 [.int .i64 t110] (fun k_=>some k_ ≠ (.slice Ao19 t107.length co19:Value).ownBlock∧k_ ≠ gb102) (fun _=>False) rfl rfl ?aP (fun _ hk=>hk.elim) ?aF ?aO ?aB ?aS ?aL ?_;(case aP=>exact rfl);(case aB=>exact bl);(case aF=>exact (fun k_ hk=>⟨Kd.fresh' (Kd.R_lt (aR HO_8.z)) k_ hk,Kd.freshB (aB BK102.z) k_ hk⟩));(case aO=>exact (aR HO_7.z));(case aS=>exact (below_size bl));(case aL=>have:=LMc18.out;omega);intro v112 w20 ho hb hg hat;rw [← Ny111.z] at ho;replace HO_8:=k0 (Kd.R_after (ok:=(fun k_=>k_ ≠ gb102)) (aR (Kd.R_mono HO_8.z (fun _ hk=>⟨hk.2,hk.1⟩))) hg hat);replace BK101:=k0 (blk_grown (aB BK101.z) hg (Kd.R_ne HO_7.z BK101.z (by decide)));replace BK102:=k0 (blk_grown (aB BK102.z) hg (Kd.R_away HO_7.z (fun _ hk=>hk.2)));replace HB:=k0 hb;have HO113:=k0 ho;clear HO_7;clear ho hb hg hat))
   go_roundg k1
   case measure=>have:=HK1.z;omega
   case rel=>exact ⟨(y111),(wrap64 (x21_1+1)),rs,H',⟨by have:=HK1.z;omega⟩,⟨aR (HO113.z)⟩,⟨aR (Kd.R_mono HO_8.z (fun _ hk=>⟨hk.2,hk.1⟩))⟩,⟨bk⟩,⟨bk⟩,⟨bl⟩⟩
end Go.Proofs.Ytgjdbnipcpmhiaa.P
/- Set with little white space, by a program. -/
