/- Go's calls come to what the Lean functions say. Condition of each: that the Lean function answers. -/
import Derived.Test.YtgjdbnipcpmhiaaPx0
import Derived.Test.YtgjdbnipcpmhiaaPx6
import Derived.Test.YtgjdbnipcpmhiaaPx18
import Derived.Test.YtgjdbnipcpmhiaaPx19
namespace Go.Proofs.Ytgjdbnipcpmhiaa.P
open Go.RowKit Go.Proofs.YtgjdbnipcpmhiaaW.PrintWords Go.Proofs.YtgjdbnipcpmhiaaW.PrintLast Go.Proofs.YtgjdbnipcpmhiaaW.PrintMore
attribute [local go_sem] max2_int min2_int max_two min_two max_three min_three max_four min_four
set_option linter.unusedVariables false
set_option linter.unusedSimpArgs false
/-! ### F36: function 36 -/
mutual
def F36.l0 : Nat → List Int → List Int → Int → Option (List Int × Int)
 | 0,_,_,_=>none
 | k+1,x0,x4,x5=>if x5≤(x0.length:Int) then (F36.l1 k x0 x4 x5 0 1) else (some (x4,0))
def F36.l1 : Nat → List Int → List Int → Int → Int → Int → Option (List Int × Int)
 | 0,_,_,_,_,_=>none
 | k+1,x0,x4,x5,x6,x7=>if x7≤x5 then (if x7=0 then (none) else (if (Int.tmod x5 x7)=0 then ((F91.f k (wrap64 (Int.tdiv x5 x7))).bind fun t108=>(if 0≤(wrap64 (x7 - 1)) then (if (wrap64 (x7 - 1)) < (x0.length:Int) then ((F75.f x6 t108 (rd x0 (wrap64 (x7 - 1)))).bind fun bt110=>(if bt110.2=true then (F36.l1 k x0 x4 x5 bt110.1 (wrap64 (x7+1))) else (some (([]:List Int),3)))) else (none)) else (none))) else (F36.l1 k x0 x4 x5 x6 (wrap64 (x7+1))))) else (if x5=0 then (none) else (if (Int.tmod x6 x5)=0 then (if x4.length < 17592186044416 then (F36.l0 k x0 (x4 ++ [wrap64 (Int.tdiv x6 x5)]) (wrap64 (x5+1))) else (none)) else (some (([]:List Int),4))))
end
def F36.f (k:Nat) (l0:List Int):Option (List Int × Int):=(F89.f k l0).bind fun t101=>(if t101=true then (F36.l0 k l0 (([]:List Int)) 1) else (some (([]:List Int),2)))
def F36.T12:Bool × List (List Nat × List Nat):=(true,[([],[]),([],[]),([],[]),([1,2],[1,2]),([3],[3]),([],[]),([],[]),([6],[6]),([5,7],[5,7]),([8],[8]),([0,4,9,4],[0,4,9]),([10],[10]),([11],[11]),([11],[11]),([12,10,0,1,2,3,4,5,6,7,8,9,10,11,12],[12]),([13,14,0,1,2,3,4,5,6,7,8,9,10,11,12,13,14],[13])])
def F36.B12:List Nat:=[0,0,0,6,14,0,0,64,224,480,1023,2047,4095,4095,8191,32767]
theorem F36.tab12:rtab .any (opsOf Try.f36 12)=F36.T12:=by kernel_rfl
theorem F36.bits12:waitsOk F36.T12.2 F36.B12=true:=by kernel_rfl
set_option maxHeartbeats 8000000 in
set_option maxRecDepth 100000 in
theorem F36.calls (k : Nat) (A0 : Option Addr) (c0 : Nat) (l0 : List Int) (r1 : List Int) (r2 : Int) (w : World) (hr0 : Kd.C (Kd.int .i64) w A0 l0.length l0) (hc0 : l0.length ≤ c0) (h : F36.f k l0 = some (r1, r2)) :
  Calls Try.prog 36 #[.slice A0 l0.length c0] w fun e w'=>∃ v0_:Value,e=.returned (.tuple #[v0_,.int .i64 r2])∧Kd.R (Kd.int .i64) 2 w' w.heap.size (fun _=>True) v0_ r1∧Below w.heap.size w w':=by
 have HR0:=k0 hr0
 have HC0:=k0 hc0
 clear hr0 hc0
 have HB:=k0 (Below.refl w.heap.size w)
 unfold F36.f at h
 have H:=h
 clear h
 replace H:=bS H;obtain ⟨t101,A2,H⟩:=H
 cases t101
 case false =>
  replace H:=iF H
  obtain ⟨rfl,rfl⟩:=zSo H
  go_enter Try.func36,Try.ntmps36
  go_wp2_with (first|(refine gate_callee (f:=89) rfl ?_;refine gC (some 11) Try.func89 #[.slice A0 l0.length c0] ?_;(with_reducible refine (F89.calls k _ _ l0 false _ ?side1 ?side2 A2.z).mono ?_);(case side1=>exact aC HR0.z);(case side2=>exact HC0.z);rintro e w' ⟨rfl,⟨nd,rfl⟩⟩;refine ⟨_,rfl,?_⟩))
  go_ret2
  exact ⟨_,eR,by first|exact Kd.R_nil _ _ _ _ _|exact Kd.N_nil _ _ _ _ _|exact Kd.V_nil _ _ _ _ _|exact Kd.Q_nil _ _ _ _ _|exact Kd.S_nil _ _ _ _ _,bl⟩
 replace H:=iT H
 obtain ⟨y102,Ny102⟩:=nY (([]:List Int):List Int)
 replace H:(F36.l0 k l0 y102 1)=some (r1,r2):=rH Ny102.z H
 have H':=k0 H
 clear H
 go_enter Try.func36,Try.ntmps36
 go_wp2_with (first|(refine gate_callee (f:=89) rfl ?_;refine gC (some 11) Try.func89 #[.slice A0 l0.length c0] ?_;(with_reducible refine (F89.calls k _ _ l0 true _ ?side1 ?side2 A2.z).mono ?_);(case side1=>exact aC HR0.z);(case side2=>exact HC0.z);rintro e w' ⟨rfl,⟨nd,rfl⟩⟩;refine ⟨_,rfl,?_⟩)|(refine gate_dst (N:=13) rfl ?_;refine zRt 2 (N:=13) (xs:=([]:List Int)) (inner:=[]) (Reps.none _ _) ?_;intro v103 w4 ho5 hb hg_ hnew_;clear hg_ hnew_;(first|rw [← Ny102.z] at ho5|(simp only [Int.reduceToNat] at ho5;rw [← Ny102.z] at ho5));have HO104:=k0 (Kd.R_lower ho5 (below_size bl));replace HB:=bW hb;clear hb ho5))
 go_loopg [4,5] k (fun kq v4 v5 w'=>∃ (x4_1:List Int) (x5_1:Int),v5=.int .i64 x5_1∧Aside0 (F36.l0 kq l0 x4_1 x5_1=some (r1,r2))∧Aside0 (kq≤k)∧Aside0 (Kd.R (Kd.int .i64) 2 w' w.heap.size (fun _=>True) v4 x4_1)∧Aside0 (Below w.heap.size w w'))
 case atStart=>exact ⟨(y102),(1),rs,H',⟨Nat.le_refl _⟩,⟨aR (HO104.z)⟩,⟨bl⟩⟩
 case round =>
  clear H'
  obtain ⟨x4_1,x5_1,rfl,HA,HK1,HO_4,HB⟩:=hrel
  cases gk with
  | zero=>exact absurd HA.z (by simp [F36.l0])
  | succ k1 =>
   have H:=HA.z
   clear HA
   simp only [F36.l0] at H
   replace H:=iC H;obtain ⟨c6b0,H⟩|⟨c6b0,H⟩:=H
   case inl =>
    obtain ⟨rfl,rfl⟩:=zSo H
    go_wp2
    go_ret2
    exact ⟨_,eR,aR HO_4.z,bl⟩
   have H':=k0 H
   clear H
   go_wp2
   go_loopg [6,7] k1 (fun kq v6 v7 w'=>∃ (x6_2:Int) (x7_2:Int),v6=.int .i64 x6_2∧v7=.int .i64 x7_2∧Aside0 (F36.l1 kq l0 x4_1 x5_1 x6_2 x7_2=some (r1,r2))∧Aside0 (kq≤k1)∧Aside0 (Kd.R (Kd.int .i64) 2 w' w.heap.size (fun _=>True) u4 x4_1)∧Aside0 (Below w.heap.size w w'))
   case atStart=>exact ⟨(0),(1),rs,rs,H',⟨Nat.le_refl _⟩,⟨aR (HO_4.z)⟩,⟨bl⟩⟩
   case round =>
    clear H'
    obtain ⟨x6_2,x7_2,rfl,rfl,HA,HK2,HO_4,HB⟩:=hrel
    cases gk with
    | zero=>exact absurd HA.z (by simp [F36.l1])
    | succ k2 =>
     have H:=HA.z
     clear HA
     simp only [F36.l1] at H
     replace H:=iC H;obtain ⟨c7b0,H⟩|⟨c7b0,H⟩:=H
     case inl =>
      by_cases c20:x5_1=0
      case neg =>
       rw [if_neg c20] at H
       have c20b0:=beq_eq_false_iff_ne.mpr c20
       have c20b1:=bne_iff_ne.mpr c20
       replace H:=iE H;obtain ⟨c21,c21b0,c21b1,H⟩|⟨c21b0,c21b1,H⟩:=H
       case inl =>
        obtain ⟨rfl,rfl⟩:=zSo H
        go_wp2
        go_ret2
        exact ⟨_,eR,by first|exact Kd.R_nil _ _ _ _ _|exact Kd.N_nil _ _ _ _ _|exact Kd.V_nil _ _ _ _ _|exact Kd.Q_nil _ _ _ _ _|exact Kd.S_nil _ _ _ _ _,bl⟩
       replace H:=iS H;obtain ⟨c22,H⟩:=H
       have LMc22:=k0 c22
       clear c22
       obtain ⟨y105,Ny105⟩:=nY (x4_1 ++ [wrap64 (Int.tdiv x6_2 x5_1)]:List Int)
       replace H:(F36.l0 k2 l0 y105 (wrap64 (x5_1+1)))=some (r1,r2):=rH Ny105.z H
       have H':=k0 H
       clear H
       go_wp2_with (first|((with_reducible refine gate_builtin (b:=.append) (xs:=#[.tmp 50,.tmp 54]) rfl ?_);at_builtin;refine Kd.R_append (Kd.int .i64) (w0:=w) w.heap.size rfl (.tmp 50) (.tmp 54) 27 2 (.int .i64 0) 8 rfl Try.underlying27 info2 rfl (by decide) (by omega) u4 x4_1 (wrap64 (Int.tdiv x6_2 x5_1)) [.int .i64 (wrap64 (Int.tdiv x6_2 x5_1))] (fun _=>True) (fun _=>False) rfl rfl ?aP (fun _ hk=>hk.elim) ?aF ?aO ?aB ?aS ?aL ?_;(case aP=>exact rfl);(case aB=>exact bl);(case aF=>exact (fun _ _=>trivial));(case aO=>exact (aR HO_4.z));(case aS=>exact (below_size bl));(case aL=>have:=LMc22.out;omega);intro v106 w23 ho hb hg hat;rw [← Ny105.z] at ho;replace HB:=k0 hb;have HO107:=k0 ho;clear HO_4;clear ho hb hg hat))
       first|go_roundg k2|(simp only [← hji11];go_roundg k2)
       case measure=>have:=HK1.z;have:=HK2.z;omega
       case rel=>exact ⟨(y105),(wrap64 (x5_1+1)),rs,(by first|exact H'|(rw [hji11];exact H')),⟨by have:=HK1.z;have:=HK2.z;omega⟩,⟨aR (HO107.z)⟩,⟨bl⟩⟩
      rw [if_pos c20] at H
      exact absurd H (by simp)
     by_cases c8:x7_2=0
     case neg =>
      rw [if_neg c8] at H
      have c8b0:=beq_eq_false_iff_ne.mpr c8
      have c8b1:=bne_iff_ne.mpr c8
      replace H:=iE H;obtain ⟨c9,c9b0,c9b1,H⟩|⟨c9b0,c9b1,H⟩:=H
      case inl =>
       have H':=k0 H
       clear H
       go_wp2
       first|go_roundg k2|(simp only [← hji11];go_roundg k2)
       case measure=>have:=HK1.z;have:=HK2.z;omega
       case rel=>exact ⟨(x6_2),(wrap64 (x7_2+1)),rs,rs,(by first|exact H'|(rw [hji11];exact H')),⟨by have:=HK1.z;have:=HK2.z;omega⟩,⟨aR (HO_4.z)⟩,⟨bl⟩⟩
      replace H:=bS H;obtain ⟨t108,A10,H⟩:=H
      obtain ⟨ji11,hji11⟩:∃ j_:Int,(wrap64 (x7_2 - 1))=j_:=⟨_,rfl⟩
      replace H:(if 0≤(ji11) then (if (ji11) < (l0.length:Int) then ((F75.f x6_2 t108 (rd l0 (ji11))).bind fun bt110=>(if bt110.2=true then (F36.l1 k2 l0 x4_1 x5_1 bt110.1 (wrap64 (x7_2+1))) else (some (([]:List Int),3)))) else (none)) else (none))=some (r1,r2):=by first|(rw [hji11] at H;exact H)|(simp only [hji11] at H ⊢;exact H)
      (try rw [hji11] at A10)
      have hji11w:(IntKind.i64.wrap (x7_2 - 1))=ji11:=(i64_w _).trans hji11
      replace H:=iS H;obtain ⟨c12,H⟩:=H
      have c12b0:=decide_eq_true c12
      clear c12
      replace H:=iS H;obtain ⟨c13,H⟩:=H
      have c13b0:=decide_eq_true c13
      clear c13
      replace H:=bS H;obtain ⟨⟨t110,t111⟩,A14,H⟩:=H
      dsimp only at H
      cases t111
      case false =>
       replace H:=iF H
       obtain ⟨rfl,rfl⟩:=zSo H
       try go_wp2
       replace HO_4:=k0 (Kd.R_drew HO_4.z);replace HB:=k0 (below_drew1 HB.z)
       have p109:0≤((ji11):Int):=oD
       have q109:(ji11) < (l0.length:Int):=oD
       obtain ⟨ad109,e109,hx109_0⟩:=Kd.at_int HR0.z (ji11) p109 q109
       have hw109_0:=hx109_0
       cases e109
       replace hx109_0:=hbc HB hx109_0
       replace p109:=eT p109
       replace q109:=eT q109
       refine start_ (n:=16) (S:=fun w'=>w'.cell? (ad109.add ((ji11)).toNat)=some (.int .i64 (rd l0 (ji11)))) (ds:=[]) (ba 16 0) (by kernel_rfl) rfl rfl ((hbc HB hw109_0 :)) (fun hHeld=>?_);refine with_tabW F36.tab12 F36.bits12 (fun HT_ HW_=>?_)
       generalize wr.drew=w18 at HO_4 HB hx109_0 hHeld ⊢
       refine pu 0 (some 30) (ba 16 1) HT_ (h:=?_)
       refine pu 1 (some 31) (ba 16 3) HT_ (h:=?_)
       refine pu 2 (some 32) (ba 16 7) HT_ (h:=?_)
       refine pu 3 (some 33) (ba 16 15) HT_ (h:=?_)
       refine pu 5 (some 35) (ba 16 47) HT_ (h:=?_)
       refine pu 6 (some 36) (ba 16 111) HT_ (h:=?_)
       refine pu 7 (some 37) (ba 16 239) HT_ (h:=?_)
       refine pu 8 (some 38) (ba 16 495) HT_ (h:=?_)
       refine ta 9 (some 39) (ba 16 1007) HT_ HW_ hHeld (hy:=Or.inl ⟨by rfl,by intro w' s0;go_simp;with_reducible rfl⟩) (h:=?_)
       refine one_ (i:=4) (N:=some 34) (ba 16 1023) rfl rfl (one_of HT_.out (by kernel_rfl)) (by decide) (fun K hK=>?_)
       refine goes_ Try.func91 (by kernel_rfl) rfl #[.int .i64 (wrap64 (Int.tdiv x5_1 x7_2))] (by rfl) rfl rfl gm ?_
       with_reducible refine (F91.calls k2 (wrap64 (Int.tdiv x5_1 x7_2)) t108 _ A10.z).mono ?_
       rintro e w' ⟨rfl,⟨nd,rfl⟩⟩
       refine ⟨_,rfl,?_⟩
       refine hK.out _ _ ((hbc HB hw109_0 :)) (fun hHeld=>?_)
       clear hK K
       refine norm_ (a':=?_) ?_ ?_
       rotate_left;· show Act.put _ (some 34) _=_;simp only [Act.put,zI,zZ,zS,i64_w,i32_w];rfl
       refine one_ (i:=10) (N:=some 40) (ba 16 2047) rfl rfl (one_of HT_.out (by kernel_rfl)) (by decide) (fun K hK=>?_)
       refine goes_ Try.func75 (by kernel_rfl) rfl #[.int .i64 x6_2,.int .i64 t108,.int .i64 (rd l0 (ji11))] (by rfl) rfl rfl (by (try simp only [List.map_toArray,List.map_cons,List.map_nil]);first|done|(simp only [hji11];rfl)|rfl|(simp only [List.length_drop,List.length_take];rfl)) ?_
       with_reducible refine (F75.calls x6_2 t108 (rd l0 (ji11)) t110 false _ A14.z).mono ?_
       rintro e w19 ⟨rfl,hb⟩
       refine ⟨_,rfl,?_⟩
       replace HO_4:=bwR HO_4 hb;replace HB:=bW hb
       refine hK.out _ _ ((hbc HB hw109_0 :)) (fun hHeld=>?_)
       clear hK K
       refine norm_ (a':=?_) ?_ ?_
       rotate_left;· show Act.put _ (some 40) _=_;simp only [Act.put,zI,zZ,zS,i64_w,i32_w];rfl
       refine pu 11 (some 29) (ba 16 4095) HT_ (h:=?_)
       refine pu 12 (some 41) (ba 16 8191) HT_ (h:=?_)
       refine pu 13 (some 42) (ba 16 16383) HT_ (h:=?_)
       refine pu 14 (some 8) (ba 16 32767) HT_ (h:=?_)
       refine pu 15 (some 9) (ba 16 65535) HT_ (h:=?_)
       refine done_ (done_of HT_.out (by kernel_rfl)) ?_
       try go_wp2
       go_ret2
       exact ⟨_,by first|rfl|(simp [errW_none,errW_some]<;>rfl)|(simp only [← hji11];first|rfl|(simp [errW_none,errW_some]<;>rfl))|(simp [*,errW_none,errW_some]<;>rfl),by first|exact Kd.R_nil _ _ _ _ _|exact Kd.N_nil _ _ _ _ _|exact Kd.V_nil _ _ _ _ _|exact Kd.Q_nil _ _ _ _ _|exact Kd.S_nil _ _ _ _ _,bl⟩
      replace H:=iT H
      have H':=k0 H
      clear H
      try go_wp2
      replace HO_4:=k0 (Kd.R_drew HO_4.z);replace HB:=k0 (below_drew1 HB.z)
      have p109:0≤((ji11):Int):=oD
      have q109:(ji11) < (l0.length:Int):=oD
      obtain ⟨ad109,e109,hx109_0⟩:=Kd.at_int HR0.z (ji11) p109 q109
      have hw109_0:=hx109_0
      cases e109
      replace hx109_0:=hbc HB hx109_0
      replace p109:=eT p109
      replace q109:=eT q109
      refine start_ (n:=16) (S:=fun w'=>w'.cell? (ad109.add ((ji11)).toNat)=some (.int .i64 (rd l0 (ji11)))) (ds:=[]) (ba 16 0) (by kernel_rfl) rfl rfl ((hbc HB hw109_0 :)) (fun hHeld=>?_);refine with_tabW F36.tab12 F36.bits12 (fun HT_ HW_=>?_)
      generalize wr.drew=w16 at HO_4 HB hx109_0 hHeld ⊢
      refine pu 0 (some 30) (ba 16 1) HT_ (h:=?_)
      refine pu 1 (some 31) (ba 16 3) HT_ (h:=?_)
      refine pu 2 (some 32) (ba 16 7) HT_ (h:=?_)
      refine pu 3 (some 33) (ba 16 15) HT_ (h:=?_)
      refine pu 5 (some 35) (ba 16 47) HT_ (h:=?_)
      refine pu 6 (some 36) (ba 16 111) HT_ (h:=?_)
      refine pu 7 (some 37) (ba 16 239) HT_ (h:=?_)
      refine pu 8 (some 38) (ba 16 495) HT_ (h:=?_)
      refine ta 9 (some 39) (ba 16 1007) HT_ HW_ hHeld (hy:=Or.inl ⟨by rfl,by intro w' s0;go_simp;with_reducible rfl⟩) (h:=?_)
      refine one_ (i:=4) (N:=some 34) (ba 16 1023) rfl rfl (one_of HT_.out (by kernel_rfl)) (by decide) (fun K hK=>?_)
      refine goes_ Try.func91 (by kernel_rfl) rfl #[.int .i64 (wrap64 (Int.tdiv x5_1 x7_2))] (by rfl) rfl rfl gm ?_
      with_reducible refine (F91.calls k2 (wrap64 (Int.tdiv x5_1 x7_2)) t108 _ A10.z).mono ?_
      rintro e w' ⟨rfl,⟨nd,rfl⟩⟩
      refine ⟨_,rfl,?_⟩
      refine hK.out _ _ ((hbc HB hw109_0 :)) (fun hHeld=>?_)
      clear hK K
      refine norm_ (a':=?_) ?_ ?_
      rotate_left;· show Act.put _ (some 34) _=_;simp only [Act.put,zI,zZ,zS,i64_w,i32_w];rfl
      refine one_ (i:=10) (N:=some 40) (ba 16 2047) rfl rfl (one_of HT_.out (by kernel_rfl)) (by decide) (fun K hK=>?_)
      refine goes_ Try.func75 (by kernel_rfl) rfl #[.int .i64 x6_2,.int .i64 t108,.int .i64 (rd l0 (ji11))] (by rfl) rfl rfl (by (try simp only [List.map_toArray,List.map_cons,List.map_nil]);first|done|(simp only [hji11];rfl)|rfl|(simp only [List.length_drop,List.length_take];rfl)) ?_
      with_reducible refine (F75.calls x6_2 t108 (rd l0 (ji11)) t110 true _ A14.z).mono ?_
      rintro e w17 ⟨rfl,hb⟩
      refine ⟨_,rfl,?_⟩
      replace HO_4:=bwR HO_4 hb;replace HB:=bW hb
      refine hK.out _ _ ((hbc HB hw109_0 :)) (fun hHeld=>?_)
      clear hK K
      refine norm_ (a':=?_) ?_ ?_
      rotate_left;· show Act.put _ (some 40) _=_;simp only [Act.put,zI,zZ,zS,i64_w,i32_w];rfl
      refine pu 11 (some 29) (ba 16 4095) HT_ (h:=?_)
      refine pu 12 (some 41) (ba 16 8191) HT_ (h:=?_)
      refine pu 13 (some 42) (ba 16 16383) HT_ (h:=?_)
      refine pu 14 (some 8) (ba 16 32767) HT_ (h:=?_)
      refine pu 15 (some 9) (ba 16 65535) HT_ (h:=?_)
      refine done_ (done_of HT_.out (by kernel_rfl)) ?_
      try go_wp2
      first|go_roundg k2|(simp only [← hji11];go_roundg k2)
      case measure=>have:=HK1.z;have:=HK2.z;omega
      case rel=>exact ⟨(t110),(wrap64 (x7_2+1)),rs,rs,(by first|exact H'|(rw [hji11];exact H')),⟨by have:=HK1.z;have:=HK2.z;omega⟩,⟨aR (HO_4.z)⟩,⟨bl⟩⟩
     rw [if_pos c8] at H
     exact absurd H (by simp)
end Go.Proofs.Ytgjdbnipcpmhiaa.P
/- Set with little white space, by a program. -/
