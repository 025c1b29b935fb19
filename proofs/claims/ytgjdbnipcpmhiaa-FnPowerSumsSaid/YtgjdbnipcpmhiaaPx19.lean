/- Go's calls come to what the Lean functions say. Condition of each: that the Lean function answers. -/
import Derived.Test.YtgjdbnipcpmhiaaPx0
import Derived.Test.YtgjdbnipcpmhiaaPx1
import Derived.Test.YtgjdbnipcpmhiaaPx2
import Derived.Test.YtgjdbnipcpmhiaaPx6
import Derived.Test.YtgjdbnipcpmhiaaPx18
namespace Go.Proofs.Ytgjdbnipcpmhiaa.P
open Go.RowKit Go.Proofs.YtgjdbnipcpmhiaaW.PrintWords Go.Proofs.YtgjdbnipcpmhiaaW.PrintLast Go.Proofs.YtgjdbnipcpmhiaaW.PrintMore
attribute [local go_sem] max2_int min2_int max_two min_two max_three min_three max_four min_four
set_option linter.unusedVariables false
set_option linter.unusedSimpArgs false
set_option maxHeartbeats 8000000
set_option maxRecDepth 100000
/-! ### F34: function 34 -/
mutual
def F34.l0 : Nat → List Int → List Int → Int → Option (List Int × Int)
 | 0,_,_,_=>none
 | k+1,x0,x4,x5=>if x5≤(x0.length:Int) then (F34.l1 k x0 x4 x5 0 0) else ((F90.f k x4).bind fun t105=>(some (t105,0)))
def F34.l1 : Nat → List Int → List Int → Int → Int → Int → Option (List Int × Int)
 | 0,_,_,_,_,_=>none
 | k+1,x0,x4,x5,x6,x7=>if x7 < x5 then (if 0≤x7 then (if x7 < (x4.length:Int) then (if 0≤(wrap64 ((wrap64 (x5 - x7)) - 1)) then (if (wrap64 ((wrap64 (x5 - x7)) - 1)) < (x0.length:Int) then ((F75.f x6 (rd x4 x7) (rd x0 (wrap64 ((wrap64 (x5 - x7)) - 1)))).bind fun bt110=>(if bt110.2=true then (F34.l1 k x0 x4 x5 bt110.1 (wrap64 (x7+1))) else (some (([]:List Int),3)))) else (none)) else (none)) else (none)) else (none)) else (if x5=0 then (none) else (if (Int.tmod x6 x5)=0 then (if x4.length < 17592186044416 then (F34.l0 k x0 (x4 ++ [wrap64 (Int.tdiv (wrap64 (-x6)) x5)]) (wrap64 (x5+1))) else (none)) else (some (([]:List Int),4))))
end
def F34.f (k:Nat) (l0:List Int):Option (List Int × Int):=(F89.f k l0).bind fun t101=>(if t101=true then (F34.l0 k l0 (([1]:List Int)) 1) else (some (([]:List Int),2)))
def F34.T11:Bool × List (List Nat × List Nat):=(true,[([],[]),([],[]),([],[]),([1,2],[1,2]),([3],[3]),([],[]),([],[]),([],[]),([6,7],[6,7]),([8],[8]),([5,9],[5,9]),([10],[10]),([0,4,11],[0,4,11]),([12],[12]),([13],[13]),([13],[13]),([14,12,0,1,2,3,4,5,6,7,8,9,10,11,12,13,14],[14]),([15,16,0,1,2,3,4,5,6,7,8,9,10,11,12,13,14,15,16],[15])])
def F34.B11:List Nat:=[0,0,0,6,14,0,0,0,192,448,992,2016,4095,8191,16383,16383,32767,131071]
theorem F34.tab11:rtab .any (opsOf Try.f34 11)=F34.T11:=by kernel_rfl
theorem F34.bits11:waitsOk F34.T11.2 F34.B11=true:=by kernel_rfl
theorem F34.calls (k : Nat) (A0 : Option Addr) (c0 : Nat) (l0 : List Int) (r1 : List Int) (r2 : Int) (w : World) (hr0 : Kd.C (Kd.int .i64) w A0 l0.length l0) (hc0 : l0.length ≤ c0) (h : F34.f k l0 = some (r1, r2)) :
  Calls Try.prog 34 #[.slice A0 l0.length c0] w fun e w'=>∃ v0_:Value,e=.returned (.tuple #[v0_,.int .i64 r2])∧Kd.R (Kd.int .i64) 2 w' w.heap.size (fun _=>True) v0_ r1∧Below w.heap.size w w':=by
 have HR0:=k0 hr0
 have HC0:=k0 hc0
 clear hr0 hc0
 have HB:=k0 (Below.refl w.heap.size w)
 unfold F34.f at h
 have H:=h
 clear h
 replace H:=bS H;obtain ⟨t101,A2,H⟩:=H
 cases t101
 case false =>
  replace H:=iF H
  obtain ⟨rfl,rfl⟩:=zSo H
  go_enter Try.func34,Try.ntmps34
  go_wp2_with (first|(refine gate_callee (f:=89) rfl ?_;refine gC (some 11) Try.func89 #[.slice A0 l0.length c0] ?_;(with_reducible refine (F89.calls k _ _ l0 false _ ?side1 ?side2 A2.z).mono ?_);(case side1=>exact aC HR0.z);(case side2=>exact HC0.z);rintro e w' ⟨rfl,⟨nd,rfl⟩⟩;refine ⟨_,rfl,?_⟩))
  go_ret2
  exact ⟨_,eR,by first|exact Kd.R_nil _ _ _ _ _|exact Kd.N_nil _ _ _ _ _|exact Kd.V_nil _ _ _ _ _|exact Kd.Q_nil _ _ _ _ _|exact Kd.S_nil _ _ _ _ _,bl⟩
 replace H:=iT H
 obtain ⟨y102,Ny102⟩:=nY (([1]:List Int):List Int)
 replace H:(F34.l0 k l0 y102 1)=some (r1,r2):=rH Ny102.z H
 have H':=k0 H
 clear H
 go_enter Try.func34,Try.ntmps34
 go_wp2_with (first|(refine gate_callee (f:=89) rfl ?_;refine gC (some 11) Try.func89 #[.slice A0 l0.length c0] ?_;(with_reducible refine (F89.calls k _ _ l0 true _ ?side1 ?side2 A2.z).mono ?_);(case side1=>exact aC HR0.z);(case side2=>exact HC0.z);rintro e w' ⟨rfl,⟨nd,rfl⟩⟩;refine ⟨_,rfl,?_⟩)|(refine gate_dst (N:=13) rfl ?_;refine zRt 2 (N:=13) (xs:=([1]:List Int)) (inner:=[.int .i64 1]) (Reps.one (show Kd.M (Kd.int .i64) _ _ _ 1 [.int .i64 1] from rfl) (Reps.none _ _)) ?_;intro v103 w4 ho5 hb hg_ hnew_;clear hg_ hnew_;(first|rw [← Ny102.z] at ho5|(simp only [Int.reduceToNat] at ho5;rw [← Ny102.z] at ho5));have HO104:=k0 (Kd.R_lower ho5 (below_size bl));replace HB:=bW hb;clear hb ho5))
 go_loopg [4,5] k (fun kq v4 v5 w'=>∃ (x4_1:List Int) (x5_1:Int),v5=.int .i64 x5_1∧Aside0 (F34.l0 kq l0 x4_1 x5_1=some (r1,r2))∧Aside0 (kq≤k)∧Aside0 (Kd.R (Kd.int .i64) 2 w' w.heap.size (fun _=>True) v4 x4_1)∧Aside0 (Below w.heap.size w w'))
 case atStart=>exact ⟨(y102),(1),rs,H',⟨Nat.le_refl _⟩,⟨aR (HO104.z)⟩,⟨bl⟩⟩
 case round =>
  clear H'
  obtain ⟨x4_1,x5_1,rfl,HA,HK1,HO_4,HB⟩:=hrel
  cases gk with
  | zero=>exact absurd HA.z (by simp [F34.l0])
  | succ k1 =>
   have H:=HA.z
   clear HA
   simp only [F34.l0] at H
   replace H:=iC H;obtain ⟨c6b0,H⟩|⟨c6b0,H⟩:=H
   case inl =>
    replace H:=bS H;obtain ⟨t105,A25,H⟩:=H
    obtain ⟨rfl,rfl⟩:=zSo H
    obtain ⟨Ao26,co26,rfl⟩:=Kd.R_slice HO_4.z
    go_wp2_with (first|(refine gate_callee (f:=90) rfl ?_;refine gC (some 56) Try.func90 #[.slice Ao26 x4_1.length co26] ?_;(with_reducible refine (F90.calls k1 _ _ x4_1 t105 _ ?side1 ?side2 A25.z).mono ?_);(case side1=>exact aC ((Kd.R_reads' HO_4.z).2.2));(case side2=>exact (Kd.R_reads' HO_4.z).2.1);rintro e w27 ⟨v106,rfl,ho0,hb⟩;refine ⟨_,rfl,?_⟩;have HO107:=k0 (Kd.R_lower (Kd.R_new' ho0 (Kd.R_lt (aR HO_4.z))) (below_size bl));replace HO_4:=elR HO_4 (Kd.R_base ho0) hb;replace HB:=bW hb))
    go_ret2
    exact ⟨_,eR,aR (Kd.R_mono HO107.z (fun _ hk=>trivial)),bl⟩
   have H':=k0 H
   clear H
   go_wp2
   go_loopg [6,7] k1 (fun kq v6 v7 w'=>∃ (x6_2:Int) (x7_2:Int),v6=.int .i64 x6_2∧v7=.int .i64 x7_2∧Aside0 (F34.l1 kq l0 x4_1 x5_1 x6_2 x7_2=some (r1,r2))∧Aside0 (kq≤k1)∧Aside0 (Kd.R (Kd.int .i64) 2 w' w.heap.size (fun _=>True) u4 x4_1)∧Aside0 (Below w.heap.size w w'))
   case atStart=>exact ⟨(0),(0),rs,rs,H',⟨Nat.le_refl _⟩,⟨aR (HO_4.z)⟩,⟨bl⟩⟩
   case round =>
    clear H'
    obtain ⟨x6_2,x7_2,rfl,rfl,HA,HK2,HO_4,HB⟩:=hrel
    cases gk with
    | zero=>exact absurd HA.z (by simp [F34.l1])
    | succ k2 =>
     have H:=HA.z
     clear HA
     simp only [F34.l1] at H
     replace H:=iC H;obtain ⟨c7b0,H⟩|⟨c7b0,H⟩:=H
     case inl =>
      by_cases c21:x5_1=0
      case neg =>
       rw [if_neg c21] at H
       have c21b0:=beq_eq_false_iff_ne.mpr c21
       have c21b1:=bne_iff_ne.mpr c21
       replace H:=iE H;obtain ⟨c22,c22b0,c22b1,H⟩|⟨c22b0,c22b1,H⟩:=H
       case inl =>
        obtain ⟨rfl,rfl⟩:=zSo H
        go_wp2
        go_ret2
        exact ⟨_,eR,by first|exact Kd.R_nil _ _ _ _ _|exact Kd.N_nil _ _ _ _ _|exact Kd.V_nil _ _ _ _ _|exact Kd.Q_nil _ _ _ _ _|exact Kd.S_nil _ _ _ _ _,bl⟩
       replace H:=iS H;obtain ⟨c23,H⟩:=H
       have LMc23:=k0 c23
       clear c23
       obtain ⟨y112,Ny112⟩:=nY (x4_1 ++ [wrap64 (Int.tdiv (wrap64 (-x6_2)) x5_1)]:List Int)
       replace H:(F34.l0 k2 l0 y112 (wrap64 (x5_1+1)))=some (r1,r2):=rH Ny112.z H
       have H':=k0 H
       clear H
       go_wp2_with (first|((with_reducible refine gate_builtin (b:=.append) (xs:=#[.tmp 48,.tmp 53]) rfl ?_);at_builtin;refine Kd.R_append (Kd.int .i64) (w0:=w) w.heap.size rfl (.tmp 48) (.tmp 53) 27 2 (.int .i64 0) 8 rfl Try.underlying27 info2 rfl (by decide) (by omega) u4 x4_1 (wrap64 (Int.tdiv (wrap64 (-x6_2)) x5_1)) [.int .i64 (wrap64 (Int.tdiv (wrap64 (-x6_2)) x5_1))] (fun _=>True) (fun _=>False) rfl rfl ?aP (fun _ hk=>hk.elim) ?aF ?aO ?aB ?aS ?aL ?_;(case aP=>exact rfl);(case aB=>exact bl);(case aF=>exact (fun _ _=>trivial));(case aO=>exact (aR HO_4.z));(case aS=>exact (below_size bl));(case aL=>have:=LMc23.out;omega);intro v113 w24 ho hb hg hat;rw [← Ny112.z] at ho;replace HB:=k0 hb;have HO114:=k0 ho;clear HO_4;clear ho hb hg hat))
       first|go_roundg k2|(simp only [← hji10];go_roundg k2)
       case measure=>have:=HK1.z;have:=HK2.z;omega
       case rel=>exact ⟨(y112),(wrap64 (x5_1+1)),rs,(by first|exact H'|(rw [hji10];exact H')),⟨by have:=HK1.z;have:=HK2.z;omega⟩,⟨aR (HO114.z)⟩,⟨bl⟩⟩
      rw [if_pos c21] at H
      exact absurd H (by simp)
     replace H:=iS H;obtain ⟨c8,H⟩:=H
     have c8b0:=decide_eq_true c8
     clear c8
     replace H:=iS H;obtain ⟨c9,H⟩:=H
     have c9b0:=decide_eq_true c9
     clear c9
     obtain ⟨ji10,hji10⟩:∃ j_:Int,(wrap64 ((wrap64 (x5_1 - x7_2)) - 1))=j_:=⟨_,rfl⟩
     replace H:(if 0≤(ji10) then (if (ji10) < (l0.length:Int) then ((F75.f x6_2 (rd x4_1 x7_2) (rd l0 (ji10))).bind fun bt110=>(if bt110.2=true then (F34.l1 k2 l0 x4_1 x5_1 bt110.1 (wrap64 (x7_2+1))) else (some (([]:List Int),3)))) else (none)) else (none))=some (r1,r2):=by first|(rw [hji10] at H;exact H)|(simp only [hji10] at H ⊢;exact H)
     have hji10w:(IntKind.i64.wrap ((wrap64 (x5_1 - x7_2)) - 1))=ji10:=(i64_w _).trans hji10
     replace H:=iS H;obtain ⟨c11,H⟩:=H
     have c11b0:=decide_eq_true c11
     clear c11
     replace H:=iS H;obtain ⟨c12,H⟩:=H
     have c12b0:=decide_eq_true c12
     clear c12
     replace H:=bS H;obtain ⟨⟨t110,t111⟩,A13,H⟩:=H
     dsimp only at H
     cases t111
     case false =>
      replace H:=iF H
      obtain ⟨rfl,rfl⟩:=zSo H
      try go_wp2
      replace HO_4:=k0 (Kd.R_drew HO_4.z);replace HB:=k0 (below_drew1 HB.z)
      obtain ⟨Ao19,co19,eo19⟩:=Kd.R_slice HO_4.z
      (first|subst eo19|(injection eo19 with f1_ f2_ f3_;have f4_:=f1_.symm;have f5_:=f3_.symm;clear f1_ f2_ f3_;subst f4_;subst f5_))
      obtain ⟨p108,q108⟩:=iN x7_2 (x4_1.length:Int)
      obtain ⟨ad108,e108,hx108_0⟩:=Kd.at_int (Kd.R_reads' HO_4.z).2.2 x7_2 p108 q108
      cases e108
      replace p108:=eT p108
      replace q108:=eT q108
      have p109:0≤((ji10):Int):=oD
      have q109:(ji10) < (l0.length:Int):=oD
      obtain ⟨ad109,e109,hx109_0⟩:=Kd.at_int HR0.z (ji10) p109 q109
      have hw109_0:=hx109_0
      cases e109
      replace hx109_0:=hbc HB hx109_0
      replace p109:=eT p109
      replace q109:=eT q109
      refine start_ (n:=18) (S:=fun w'=>w'.cell? (ad108.add (x7_2).toNat)=some (.int .i64 (rd x4_1 x7_2))∧w'.cell? (ad109.add ((ji10)).toNat)=some (.int .i64 (rd l0 (ji10)))) (ds:=[]) (ba 18 0) (by kernel_rfl) rfl rfl ⟨hx108_0,(hbc HB hw109_0 :)⟩ (fun hHeld=>?_);refine with_tabW F34.tab11 F34.bits11 (fun HT_ HW_=>?_)
      generalize wr.drew=w18 at HO_4 HB hx108_0 hx109_0 hHeld ⊢
      refine pu 0 (some 26) (ba 18 1) HT_ (h:=?_)
      refine pu 1 (some 27) (ba 18 3) HT_ (h:=?_)
      refine pu 2 (some 28) (ba 18 7) HT_ (h:=?_)
      refine pu 3 (some 29) (ba 18 15) HT_ (h:=?_)
      refine pu 5 (some 31) (ba 18 47) HT_ (h:=?_)
      refine pu 6 (some 32) (ba 18 111) HT_ (h:=?_)
      refine pu 7 (some 33) (ba 18 239) HT_ (h:=?_)
      refine pu 8 (some 34) (ba 18 495) HT_ (h:=?_)
      refine pu 9 (some 35) (ba 18 1007) HT_ (h:=?_)
      refine pu 10 (some 36) (ba 18 2031) HT_ (h:=?_)
      refine zT2 4 (some 30) (ba 18 2047) HT_ HW_ hHeld (h:=?_)
      refine zT2 11 (some 37) (ba 18 4095) HT_ HW_ hHeld (h:=?_)
      refine one_ (i:=12) (N:=some 38) (ba 18 8191) rfl rfl (one_of HT_.out (by kernel_rfl)) (by decide) (fun K hK=>?_)
      refine goes_ Try.func75 (by kernel_rfl) rfl #[.int .i64 x6_2,.int .i64 (rd x4_1 x7_2),.int .i64 (rd l0 (ji10))] (by rfl) rfl rfl (by (try simp only [List.map_toArray,List.map_cons,List.map_nil]);first|done|(simp only [hji10];rfl)|rfl|(simp only [List.length_drop,List.length_take];rfl)) ?_
      with_reducible refine (F75.calls x6_2 (rd x4_1 x7_2) (rd l0 (ji10)) t110 false _ A13.z).mono ?_
      rintro e w20 ⟨rfl,hb⟩
      have HS0_:=(hb.cell (World.block_lt_of_cell? _ _ (hHeld.1))).trans (hHeld.1)
      refine ⟨_,rfl,?_⟩
      replace HO_4:=bwR HO_4 hb;replace HB:=bW hb
      refine hK.out _ _ ⟨HS0_,(hbc HB hw109_0 :)⟩ (fun hHeld=>?_)
      clear hK K
      refine norm_ (a':=?_) ?_ ?_
      rotate_left;· show Act.put _ (some 38) _=_;simp only [Act.put,zI,zZ,zS,i64_w,i32_w];rfl
      refine pu 13 (some 25) (ba 18 16383) HT_ (h:=?_)
      refine pu 14 (some 39) (ba 18 32767) HT_ (h:=?_)
      refine pu 15 (some 40) (ba 18 65535) HT_ (h:=?_)
      refine pu 16 (some 8) (ba 18 131071) HT_ (h:=?_)
      refine pu 17 (some 9) (ba 18 262143) HT_ (h:=?_)
      refine done_ (done_of HT_.out (by kernel_rfl)) ?_
      try go_wp2
      go_ret2
      exact ⟨_,by first|rfl|(simp [errW_none,errW_some]<;>rfl)|(simp only [← hji10];first|rfl|(simp [errW_none,errW_some]<;>rfl))|(simp [*,errW_none,errW_some]<;>rfl),by first|exact Kd.R_nil _ _ _ _ _|exact Kd.N_nil _ _ _ _ _|exact Kd.V_nil _ _ _ _ _|exact Kd.Q_nil _ _ _ _ _|exact Kd.S_nil _ _ _ _ _,bl⟩
     replace H:=iT H
     have H':=k0 H
     clear H
     try go_wp2
     replace HO_4:=k0 (Kd.R_drew HO_4.z);replace HB:=k0 (below_drew1 HB.z)
     obtain ⟨Ao16,co16,eo16⟩:=Kd.R_slice HO_4.z
     (first|subst eo16|(injection eo16 with f1_ f2_ f3_;have f4_:=f1_.symm;have f5_:=f3_.symm;clear f1_ f2_ f3_;subst f4_;subst f5_))
     obtain ⟨p108,q108⟩:=iN x7_2 (x4_1.length:Int)
     obtain ⟨ad108,e108,hx108_0⟩:=Kd.at_int (Kd.R_reads' HO_4.z).2.2 x7_2 p108 q108
     cases e108
     replace p108:=eT p108
     replace q108:=eT q108
     have p109:0≤((ji10):Int):=oD
     have q109:(ji10) < (l0.length:Int):=oD
     obtain ⟨ad109,e109,hx109_0⟩:=Kd.at_int HR0.z (ji10) p109 q109
     have hw109_0:=hx109_0
     cases e109
     replace hx109_0:=hbc HB hx109_0
     replace p109:=eT p109
     replace q109:=eT q109
     refine start_ (n:=18) (S:=fun w'=>w'.cell? (ad108.add (x7_2).toNat)=some (.int .i64 (rd x4_1 x7_2))∧w'.cell? (ad109.add ((ji10)).toNat)=some (.int .i64 (rd l0 (ji10)))) (ds:=[]) (ba 18 0) (by kernel_rfl) rfl rfl ⟨hx108_0,(hbc HB hw109_0 :)⟩ (fun hHeld=>?_);refine with_tabW F34.tab11 F34.bits11 (fun HT_ HW_=>?_)
     generalize wr.drew=w15 at HO_4 HB hx108_0 hx109_0 hHeld ⊢
     refine pu 0 (some 26) (ba 18 1) HT_ (h:=?_)
     refine pu 1 (some 27) (ba 18 3) HT_ (h:=?_)
     refine pu 2 (some 28) (ba 18 7) HT_ (h:=?_)
     refine pu 3 (some 29) (ba 18 15) HT_ (h:=?_)
     refine pu 5 (some 31) (ba 18 47) HT_ (h:=?_)
     refine pu 6 (some 32) (ba 18 111) HT_ (h:=?_)
     refine pu 7 (some 33) (ba 18 239) HT_ (h:=?_)
     refine pu 8 (some 34) (ba 18 495) HT_ (h:=?_)
     refine pu 9 (some 35) (ba 18 1007) HT_ (h:=?_)
     refine pu 10 (some 36) (ba 18 2031) HT_ (h:=?_)
     refine zT2 4 (some 30) (ba 18 2047) HT_ HW_ hHeld (h:=?_)
     refine zT2 11 (some 37) (ba 18 4095) HT_ HW_ hHeld (h:=?_)
     refine one_ (i:=12) (N:=some 38) (ba 18 8191) rfl rfl (one_of HT_.out (by kernel_rfl)) (by decide) (fun K hK=>?_)
     refine goes_ Try.func75 (by kernel_rfl) rfl #[.int .i64 x6_2,.int .i64 (rd x4_1 x7_2),.int .i64 (rd l0 (ji10))] (by rfl) rfl rfl (by (try simp only [List.map_toArray,List.map_cons,List.map_nil]);first|done|(simp only [hji10];rfl)|rfl|(simp only [List.length_drop,List.length_take];rfl)) ?_
     with_reducible refine (F75.calls x6_2 (rd x4_1 x7_2) (rd l0 (ji10)) t110 true _ A13.z).mono ?_
     rintro e w17 ⟨rfl,hb⟩
     have HS0_:=(hb.cell (World.block_lt_of_cell? _ _ (hHeld.1))).trans (hHeld.1)
     refine ⟨_,rfl,?_⟩
     replace HO_4:=bwR HO_4 hb;replace HB:=bW hb
     refine hK.out _ _ ⟨HS0_,(hbc HB hw109_0 :)⟩ (fun hHeld=>?_)
     clear hK K
     refine norm_ (a':=?_) ?_ ?_
     rotate_left;· show Act.put _ (some 38) _=_;simp only [Act.put,zI,zZ,zS,i64_w,i32_w];rfl
     refine pu 13 (some 25) (ba 18 16383) HT_ (h:=?_)
     refine pu 14 (some 39) (ba 18 32767) HT_ (h:=?_)
     refine pu 15 (some 40) (ba 18 65535) HT_ (h:=?_)
     refine pu 16 (some 8) (ba 18 131071) HT_ (h:=?_)
     refine pu 17 (some 9) (ba 18 262143) HT_ (h:=?_)
     refine done_ (done_of HT_.out (by kernel_rfl)) ?_
     try go_wp2
     first|go_roundg k2|(simp only [← hji10];go_roundg k2)
     case measure=>have:=HK1.z;have:=HK2.z;omega
     case rel=>exact ⟨(t110),(wrap64 (x7_2+1)),rs,rs,(by first|exact H'|(rw [hji10];exact H')),⟨by have:=HK1.z;have:=HK2.z;omega⟩,⟨aR (HO_4.z)⟩,⟨bl⟩⟩
/-! ### F35: function 35 -/
def F35.f (k:Nat) (l0:List Int):Option (List Int):=(F37.f k l0).bind fun bt101=>((F88.f k bt101.1 bt101.2.1 bt101.2.2).bind fun bt105=>(some bt105.1))
theorem F35.calls (k : Nat) (A0 : Option Addr) (c0 : Nat) (l0 : List Int) (r : List Int) (w : World) (hr0 : Kd.C (Kd.int .u8) w A0 l0.length l0) (hc0 : l0.length ≤ c0) (h : F35.f k l0 = some r) :
  Calls Try.prog 35 #[.slice A0 l0.length c0] w fun e w'=>∃ v0_:Value,e=.returned (v0_)∧Kd.R (Kd.int .i64) 2 w' w.heap.size (fun _=>True) v0_ r∧Below w.heap.size w w':=by
 have HR0:=k0 hr0
 have HC0:=k0 hc0
 clear hr0 hc0
 have HB:=k0 (Below.refl w.heap.size w)
 unfold F35.f at h
 have H:=h
 clear h
 replace H:=bS H;obtain ⟨⟨t101,t102,t103⟩,A2,H⟩:=H
 dsimp only at H
 replace H:=bS H;obtain ⟨⟨t105,t108,t109⟩,A3,H⟩:=H
 dsimp only at H
 obtain rfl:=Option.some.inj H
 go_enter Try.func35,Try.ntmps35
 go_wp2_with (first|(refine gate_callee (f:=37) rfl ?_;refine gC (some 4) Try.func37 #[.slice A0 l0.length c0] ?_;(with_reducible refine (F37.calls k _ _ l0 t101 t102 t103 w _ ?side1 ?side2 ?side3 A2.z).mono ?_);(case side1=>exact aL HB.z);(case side2=>exact HR0.z);(case side3=>exact HC0.z);rintro e w4 ⟨g104,rfl,hi,hb,hb2⟩;refine ⟨_,rfl,?_⟩;replace HB:=k0 hb;have HI104:=k0 hi)|(refine gate_callee (f:=88) rfl ?_;refine gC (some 5) Try.func88 #[.pointer (some ⟨g104,0,none⟩)] ?_;(with_reducible refine (F88.calls k g104 t101 t102 t103 t105 t108 t109 w _ ?side1 ?side2 A3.z).mono ?_);(case side1=>exact aIsS89 HI104.z);(case side2=>exact aG (IsS89.ge HI104.z) HB.z);rintro e w5 ⟨v106,rfl,ho0,hi,hb,hk⟩;refine ⟨_,rfl,?_⟩;have HO107:=k0 (Kd.R_lower ho0 (below_size (aG (IsS89.ge HI104.z) HB.z)));replace HB:=k0 hb;replace HI104:=k0 hi))
 go_ret
 exact ⟨_,eR,aR HO107.z,aG (IsS89.ge HI104.z) HB.z⟩
/-! ### F91: function 91 -/
def F91.l0 : Nat → Int → Int → Int → Option (Int)
 | 0,_,_,_=>none
 | k+1,x0,x3,x4=>if x4≤x0 then (if x4=0 then (none) else (if (Int.tmod x0 x4)=0 then (if (Int.tmod (wrap64 (Int.tdiv x0 x4)) x4)=0 then (some 0) else (F91.l0 k (wrap64 (Int.tdiv x0 x4)) (wrap64 (-x3)) (wrap64 (x4+1)))) else (F91.l0 k x0 x3 (wrap64 (x4+1))))) else (some x3)
def F91.f (k:Nat) (a0:Int):Option (Int):=F91.l0 k a0 1 2
theorem F91.calls (k : Nat) (a0 : Int) (r : Int) (w : World) (h : F91.f k a0 = some r) :
  Calls Try.prog 91 #[.int .i64 a0] w fun e w'=>e=.returned (.int .i64 r)∧Drawn0 w w':=by
 unfold F91.f at h
 have H:=h
 clear h
 have H':=k0 H
 clear H
 go_enter Try.func91,Try.ntmps91
 go_wp2
 go_loopg [0,3,4] k (fun kq v0 v3 v4 w'=>∃ (x0_1:Int) (x3_1:Int) (x4_1:Int),v0=.int .i64 x0_1∧v3=.int .i64 x3_1∧v4=.int .i64 x4_1∧Aside0 (F91.l0 kq x0_1 x3_1 x4_1=some r)∧Aside0 (kq≤k)∧Drawn0 w w')
 case atStart=>exact ⟨(a0),(1),(2),rs,rs,rs,H',⟨Nat.le_refl _⟩,dW⟩
 case round =>
  clear H'
  obtain ⟨x0_1,x3_1,x4_1,rfl,rfl,rfl,HA,HK1,⟨m1,rfl⟩⟩:=hrel
  cases gk with
  | zero=>exact absurd HA.z (by simp [F91.l0])
  | succ k1 =>
   have H:=HA.z
   clear HA
   simp only [F91.l0] at H
   replace H:=iC H;obtain ⟨c2b0,H⟩|⟨c2b0,H⟩:=H
   case inl =>
    obtain rfl:=Option.some.inj H
    go_wp2
    go_ret
    exact ⟨rs,dW⟩
   by_cases c3:x4_1=0
   case neg =>
    rw [if_neg c3] at H
    have c3b0:=beq_eq_false_iff_ne.mpr c3
    have c3b1:=bne_iff_ne.mpr c3
    replace H:=iE H;obtain ⟨c4,c4b0,c4b1,H⟩|⟨c4b0,c4b1,H⟩:=H
    case inl =>
     have H':=k0 H
     clear H
     go_wp2
     go_roundg k1
     case measure=>have:=HK1.z;omega
     case rel=>exact ⟨(x0_1),(x3_1),(wrap64 (x4_1+1)),rs,rs,rs,H',⟨by have:=HK1.z;omega⟩,dW⟩
    replace H:=iE H;obtain ⟨c5,c5b0,c5b1,H⟩|⟨c5b0,c5b1,H⟩:=H
    case inl =>
     have H':=k0 H
     clear H
     go_wp2
     go_roundg k1
     case measure=>have:=HK1.z;omega
     case rel=>exact ⟨(wrap64 (Int.tdiv x0_1 x4_1)),(wrap64 (-x3_1)),(wrap64 (x4_1+1)),rs,rs,rs,H',⟨by have:=HK1.z;omega⟩,dW⟩
    obtain rfl:=Option.some.inj H
    go_wp2
    go_ret
    exact ⟨rs,dW⟩
   rw [if_pos c3] at H
   exact absurd H (by simp)
end Go.Proofs.Ytgjdbnipcpmhiaa.P
/- Set with little white space, by a program. -/
