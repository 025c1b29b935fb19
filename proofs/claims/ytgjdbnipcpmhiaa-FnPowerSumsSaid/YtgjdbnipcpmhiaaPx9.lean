/- Go's calls come to what the Lean functions say. Condition of each: that the Lean function answers. -/
import Derived.Test.YtgjdbnipcpmhiaaPx0
import Derived.Test.YtgjdbnipcpmhiaaPx2
namespace Go.Proofs.Ytgjdbnipcpmhiaa.P
open Go.RowKit Go.Proofs.YtgjdbnipcpmhiaaW.PrintWords Go.Proofs.YtgjdbnipcpmhiaaW.PrintLast Go.Proofs.YtgjdbnipcpmhiaaW.PrintMore
attribute [local go_sem] max2_int min2_int max_two min_two max_three min_three max_four min_four
set_option linter.unusedVariables false
set_option linter.unusedSimpArgs false
/-! ### F114: function 114 -/
def F114.l0 : Nat → Int → Int → List (List Int) → Int → List (List Int) → Option (Int × (List (List Int)))
 | 0,_,_,_,_,_=>none
 | k+1,x4,x102000,x102001,x107000,x107001=>if x4 < (x102001.length:Int) then (if 0≤x4 then ((F94.f (rd_L1 x102001 x4)).bind fun t108=>(if x107001.length < 5864062014805 then (F114.l0 k (wrap64 (x4+1)) x102000 x102001 x107000 (x107001 ++ [t108])) else (none))) else (none)) else (some (x107000,x107001))
def F114.f (k:Nat) (a0_0:Int) (l0_1:List (List Int)):Option (Int × (List (List Int))):=F114.l0 k 0 a0_0 l0_1 a0_0 (([]:List (List Int)))
def F114.T5:Bool × List (List Nat × List Nat):=(true,[([],[]),([0],[0]),([],[]),([2],[2]),([],[]),([3,4],[3,4]),([5],[5]),([6],[6]),([7],[7]),([1,8,7],[1,8]),([0,1,2,3,4,5,6,7,8,9],[]),([10,9,9,0,1,2,3,4,5,6,7,8,9],[9,10])])
def F114.B5:List Nat:=[0,1,0,4,0,28,60,124,252,511,1023,2047]
theorem F114.tab5:rtab .any (opsOf Try.f114 5)=F114.T5:=by kernel_rfl
theorem F114.bits5:waitsOk F114.T5.2 F114.B5=true:=by kernel_rfl
set_option maxHeartbeats 8000000 in
set_option maxRecDepth 100000 in
theorem F114.calls (k : Nat) (a0_0 : Int) (A0_1 : Option Addr) (c0_1 : Nat) (l0_1 : List (List Int)) (r1 : Int) (r2 : List (List Int)) (w : World) (hr0_1 : Kd.C (Kd.slice 2 (Kd.int .i64)) w A0_1 l0_1.length l0_1) (hc0_1 : l0_1.length ≤ c0_1) (h : F114.f k a0_0 l0_1 = some (r1, r2)) :
  Calls Try.prog 114 #[.agg #[.int .i64 a0_0,.slice A0_1 l0_1.length c0_1]] w fun e w'=>∃ v1_:Value,e=.returned (.agg #[.int .i64 r1,v1_])∧Kd.S (Kd.slice 2 (Kd.int .i64)) 27 w' w.heap.size (fun _=>True) v1_ r2∧Below w.heap.size w w':=by
 have hu26:=Try.underlying26
 have HR0_1:=k0 hr0_1
 have HC0_1:=k0 hc0_1
 clear hr0_1 hc0_1
 have HB:=k0 (Below.refl w.heap.size w)
 unfold F114.f at h
 have H:=h
 clear h
 obtain ⟨y103,Ny103⟩:=nY (([]:List (List Int)):List (List Int))
 replace H:(F114.l0 k 0 a0_0 l0_1 a0_0 y103)=some (r1,r2):=rH Ny103.z H
 have H':=k0 H
 clear H
 go_enter Try.func114,Try.ntmps114
 go_wp2_with (first|(refine gate_dst (N:=1) rfl ?_;refine bxz 1 #[.int .i64 a0_0,.slice A0_1 l0_1.length c0_1] 26 bl ?_;intro gb101 w2 BK101 GW101 HB;have GE101:=GW101)|(refine gate_dst (N:=2) rfl ?_;refine bxe 2 #[.int .i64 0,.slice none 0 0] 26 ?_;intro gb102 hg w3 hbox hb;have BK102:=k0 hbox;have GW102:=gW hg (below_size bl);have GE102:=GW102;replace HB:=bW hb;have NB101_102:=nL hg BK101;have NB102_101:=nG NB101_102;replace BK101:=kB BK101 hb;clear hb hbox hg;obtain ⟨_,_⟩:=nE NB101_102;obtain ⟨_,_,_,_⟩:=cz2 BK101)|(refine gate_dst (N:=7) rfl ?_;refine Kd.S_lit (Kd.slice 2 (Kd.int .i64)) _ 27 ?hg (N:=7) ?hd (xs:=([]:List (List Int))) (inner:=[]) (ok:=fun _=>True) (okp:=fun _=>True) ?hr ?hp (fun _ hk=>hk) trivial (Below.refl _ _) (Nat.le_refl _) (by simp) ?_;(case hd=>rfl);(case hg=>rfl);(case hr=>first|(go_simp;done)|(go_simp;rfl));(case hp=>exact (Reps.none _ _));intro v104 w6 ho7 hb hg_ hnew_;clear hg_ hnew_;(first|rw [← Ny103.z] at ho7|(simp only [Int.reduceToNat] at ho7;rw [← Ny103.z] at ho7));have HO105:=k0 (Kd.S_lower ho7 (below_size bl));replace BK101:=kB BK101 hb;replace BK102:=kB BK102 hb;replace HB:=bW hb;clear hb ho7;obtain ⟨Ao8,co8,rfl⟩:=Kd.S_slice HO105.z)|(refine gate_dst (N:=3) rfl ?_;refine bxe 3 #[.int .i64 0,.slice none 0 0] 26 ?_;intro gb106 hg w9 hbox hb;replace HO105:=bwS HO105 hb;have BK106:=k0 hbox;have GW106:=gW hg (below_size bl);have GE106:=GW106;replace HB:=bW hb;have NB101_106:=nL hg BK101;replace BK101:=kB BK101 hb;have NB106_101:=nG NB101_106;have NB102_106:=nL hg BK102;replace BK102:=kB BK102 hb;have NB106_102:=nG NB102_106;clear hb hbox hg;obtain ⟨_,_⟩:=nE NB106_101;obtain ⟨_,_⟩:=nE NB106_102;obtain ⟨_,_,_,_⟩:=cz2 BK106))
 go_loopg [4] k (fun kq v4 w'=>∃ (x4_1:Int) (x107001_1:List (List Int)) (u107001:Value),v4=.int .i64 x4_1∧Aside0 (F114.l0 kq x4_1 a0_0 l0_1 a0_0 x107001_1=some (r1,r2))∧Aside0 (kq≤k)∧Aside0 (Kd.S (Kd.slice 2 (Kd.int .i64)) 27 w' w.heap.size (fun _=>True) u107001 x107001_1)∧Aside0 (w'.heap[gb101]?=some (sO a0_0 A0_1 l0_1 c0_1 26))∧Aside0 (w'.heap[gb102]?=some (.cells #[.int .i64 0,(.slice none 0 0)] 26 (0,0)))∧Aside0 (w'.heap[gb106]?=some (.cells #[.int .i64 a0_0,u107001] 26 (0,0)))∧Aside0 (Below w.heap.size w w'))
 case atStart=>exact ⟨(0),(y103),(.slice Ao8 y103.length co8),rs,H',⟨Nat.le_refl _⟩,⟨aS (Kd.S_mono (gS 1 (.slice Ao8 y103.length co8) (gS 0 (.int .i64 a0_0) (tS HO105 BK106))) (fun _ hk=>trivial))⟩,⟨kZ⟩,⟨kZ⟩,⟨kZ⟩,⟨bl⟩⟩
 case round =>
  clear H'
  obtain ⟨x4_1,x107001_1,u107001,rfl,HA,HK1,HO_107001,BK101,BK102,BK106,HB⟩:=hrel
  cases gk with
  | zero=>exact absurd HA.z (by simp [F114.l0])
  | succ k1 =>
   have H:=HA.z
   clear HA
   simp only [F114.l0] at H
   replace H:=iC H;obtain ⟨c13b0,H⟩|⟨c13b0,H⟩:=H
   case inl =>
    obtain ⟨rfl,rfl⟩:=zSo H
    obtain ⟨_,_⟩:=nE NB101_102
    obtain ⟨_,_⟩:=nE NB101_106
    obtain ⟨_,_,_,_⟩:=cz2 BK101
    obtain ⟨_,_⟩:=nE NB106_102
    obtain ⟨_,_,_,_⟩:=cz2 BK106
    obtain ⟨_,_,_,_⟩:=cz2 BK102
    obtain ⟨Ao32,co32,rfl⟩:=Kd.S_slice HO_107001.z
    go_wp2
    refine bodyPost_ret (results_cell_row rfl _ _ gb102 26 #[.int .i64 a0_0,.slice Ao32 x107001_1.length co32] (0,0) _ rfl kZ Try.underlying26 rfl (by kernel_rfl)) rfl ?_
    exact ⟨_,eR,aS (Kd.S_mono (gS 1 (.slice Ao32 x107001_1.length co32) (gS 0 (.int .i64 a0_0) (tS HO_107001 BK102))) (fun _ hk=>trivial)),bl⟩
   replace H:=iS H;obtain ⟨c14,H⟩:=H
   have c14b0:=decide_eq_true c14
   clear c14
   replace H:=bS H;obtain ⟨t108,A15,H⟩:=H
   replace H:=iS H;obtain ⟨c16,H⟩:=H
   have LMc16:=k0 c16
   clear c16
   obtain ⟨y111,Ny111⟩:=nY (x107001_1 ++ [t108]:List (List Int))
   replace H:(F114.l0 k1 (wrap64 (x4_1+1)) a0_0 l0_1 a0_0 y111)=some (r1,r2):=rH Ny111.z H
   have H':=k0 H
   clear H
   obtain ⟨_,_⟩:=nE NB101_102
   obtain ⟨_,_⟩:=nE NB101_106
   obtain ⟨_,_,_,_⟩:=cz2 BK101
   try go_wp2
   replace HO_107001:=k0 (Kd.S_drew HO_107001.z);replace BK101:=k0 (blk_drew BK101.z);replace BK102:=k0 (blk_drew BK102.z);replace BK106:=k0 (blk_drew BK106.z);replace HB:=k0 (below_drew1 HB.z)
   obtain ⟨p107,q107⟩:=iN x4_1 (l0_1.length:Int)
   obtain ⟨ad107,A107_0,c107_0,e107,hx107_0,hl107_0,hi107_0⟩:=at_L1 HR0_1.z x4_1 p107 q107
   have hw107_0:=hx107_0
   cases e107
   replace hx107_0:=hbc HB hx107_0
   have HR107_0:=k0 hi107_0
   have HC107_0:=k0 hl107_0
   clear hi107_0 hl107_0
   replace p107:=eT p107
   replace q107:=eT q107
   refine start_ (n:=12) (S:=fun w'=>w'.cell? ⟨gb106,0,none⟩=some (.int .i64 a0_0)∧w'.cell? ⟨gb106,1,none⟩=some (u107001)∧w'.cell? ⟨gb101,0,none⟩=some (.int .i64 a0_0)∧w'.cell? ⟨gb101,1,none⟩=some (.slice (some ad107) l0_1.length c0_1)∧w'.cell? (ad107.add (x4_1).toNat)=some (.slice A107_0 (rd_L1 l0_1 x4_1).length c107_0)) (ds:=[11]) (ba 12 0) (by kernel_rfl) rfl rfl ⟨ce0 BK106,ce1 BK106,ce0 BK101,ce1 BK101,(hbc HB hw107_0 :)⟩ (fun hHeld=>?_);refine with_tabW F114.tab5 F114.bits5 (fun HT_ HW_=>?_)
   generalize wr.drew=w20 at HO_107001 BK101 BK102 BK106 HB HR107_0 hx107_0 hHeld ⊢
   refine pu 0 (some 16) (ba 12 1) HT_ (h:=?_)
   refine pu 2 (some 18) (ba 12 5) HT_ (h:=?_)
   refine pu 4 (some 20) (ba 12 21) HT_ (h:=?_)
   refine zT5 1 (some 17) (ba 12 23) HT_ HW_ hHeld (h:=?_)
   refine zT5 3 (some 19) (ba 12 31) HT_ HW_ hHeld (h:=?_)
   refine pu 5 (some 21) (ba 12 63) HT_ (h:=?_)
   refine zT5 6 (some 22) (ba 12 127) HT_ HW_ hHeld (h:=?_)
   refine one_ (i:=7) (N:=some 23) (ba 12 255) rfl rfl (one_of HT_.out (by kernel_rfl)) (by decide) (fun K hK=>?_)
   refine goes_ Try.func94 (by kernel_rfl) rfl #[.slice A107_0 (rd_L1 l0_1 x4_1).length c107_0] (by rfl) rfl rfl gm ?_
   with_reducible refine (F94.calls _ _ (rd_L1 l0_1 x4_1) t108 _ ?side1 ?side2 A15.z).mono ?_
   (case side1=>exact aC (Kd.C_below HR107_0.z HB.z))
   (case side2=>exact HC107_0.z)
   rintro e w21 ⟨v109,rfl,ho0,hb⟩
   refine ⟨_,rfl,?_⟩
   replace HO_107001:=elS HO_107001 (Kd.R_base ho0) hb;have HO110:=k0 (Kd.R_lower ho0 (below_size bl));replace BK101:=kB BK101 hb;replace BK102:=kB BK102 hb;replace BK106:=kB BK106 hb;replace HB:=bW hb
   obtain ⟨Ao23,co23,eo23⟩:=Kd.R_slice HO110.z
   (first|subst eo23|(injection eo23 with f1_ f2_ f3_;have f4_:=f1_.symm;have f5_:=f3_.symm;clear f1_ f2_ f3_;subst f4_;subst f5_))
   refine hK.out _ _ ⟨ce0 BK106,ce1 BK106,ce0 BK101,ce1 BK101,(hbc HB hw107_0 :)⟩ (fun hHeld=>?_)
   clear hK K
   refine norm_ (a':=?_) ?_ ?_
   rotate_left;· show Act.put _ (some 23) _=_;simp only [Act.put,zI,zZ,zS,i64_w,i32_w];rfl
   refine one_ (i:=8) (N:=some 24) (ba 12 511) rfl rfl (one_of HT_.out (by kernel_rfl)) (by decide) (fun K hK=>?_)
   refine value_ (w1:=?_) (v:=?_) (by rfl) rfl ?_ ?_
   rotate_left 2
   ·go_simp
    constructor
    ·rfl
    ·rfl
   refine hK.out _ _ ⟨(blk_cell (blk_alloc BK106.z _) 0).trans rfl,(blk_cell (blk_alloc BK106.z _) 1).trans rfl,(blk_cell (blk_alloc BK101.z _) 0).trans rfl,(blk_cell (blk_alloc BK101.z _) 1).trans rfl,(World.cell?_alloc_lt _ _ _ (World.block_lt_of_cell? _ _ ((hbc HB hw107_0 :)))).trans ((hbc HB hw107_0 :))⟩ (fun hHeld=>?_)
   clear hK K
   refine norm_ (a':=?_) ?_ ?_
   rotate_left;· show Act.put _ (some 24) _=_;simp only [Act.put,zI,zZ,zS,i64_w,i32_w];rfl
   refine one_ (i:=9) (N:=some 25) (ba 12 1023) rfl rfl (one_of HT_.out (by kernel_rfl)) (by decide) (fun K hK=>?_)
   refine Kd.S_append_step (Kd.slice 2 (Kd.int .i64)) (w0:=w) w.heap.size (by rfl) (.tmp 17) (.tmp 24) 24 27 (.slice none 0 0) 24 rfl Try.underlying24 info27 rfl (by decide) (by omega) u107001 x107001_1 t108 [.slice Ao23 t108.length co23] (fun _=>True) (fun k_=>some k_=(.slice Ao23 t108.length co23:Value).ownBlock) rfl rfl ?aP (fun k_ hk_=>((Kd.R_mono (ok':=fun k_=>((fun _=>True)) k_∧some k_ ≠ (u107001:Value).ownBlock) (Kd.R_apart' (HO110.z) (Kd.S_typed HO_107001.z) (by decide)) (fun k_ hk=>⟨trivial,hk.2⟩))).1 k_ hk_.symm) ?aF ?aO ?aB ?aS ?aL ?_
   (case aP=>exact Kd.M_row (Kd.R_mono (Kd.R_tight rfl (Kd.R_mono (ok':=fun k_=>((fun _=>True)) k_∧some k_ ≠ (u107001:Value).ownBlock) (Kd.R_apart' (HO110.z) (Kd.S_typed HO_107001.z) (by decide)) (fun k_ hk=>⟨trivial,hk.2⟩))) (fun _ h_=>h_)))
   (case aB=>exact bl)
   (case aF=>exact (fun _ _=>trivial))
   (case aO=>exact (aS (Kd.S_mono HO_107001.z (fun k_ hk=>⟨trivial,fun e_=>hk.2 e_⟩))))
   (case aS=>exact (below_size bl))
   (case aL=>have:=LMc16.out;omega)
   intro v112 w22 ho hb hg hat
   rw [← Ny111.z] at ho
   replace BK101:=k0 (blk_grown (aB BK101.z) hg (Kd.S_ne HO_107001.z BK101.z (by decide)));replace BK102:=k0 (blk_grown (aB BK102.z) hg (Kd.S_ne HO_107001.z BK102.z (by decide)));replace BK106:=k0 (blk_grown (aB BK106.z) hg (Kd.S_ne HO_107001.z BK106.z (by decide)));replace HB:=k0 hb;have HO113:=k0 ho;clear HO_107001 HO110
   clear ho hb hg hat
   obtain ⟨Ao24,co24,eo24⟩:=Kd.S_slice HO113.z
   (first|subst eo24|(injection eo24 with f1_ f2_ f3_;have f4_:=f1_.symm;have f5_:=f3_.symm;clear f1_ f2_ f3_;subst f4_;subst f5_))
   refine hK.out _ _ ⟨ce0 BK106,ce1 BK106,ce0 BK101,ce1 BK101,(hbc HB hw107_0 :)⟩ (fun hHeld=>?_)
   clear hK K
   refine norm_ (a':=?_) ?_ ?_
   rotate_left;· show Act.put _ (some 25) _=_;simp only [Act.put,zI,zZ,zS,i64_w,i32_w];rfl
   refine pu 10 (some 26) (ba 12 2047) HT_ (h:=?_)
   refine last_ (i:=11) (N:=none) (ba 12 4095) rfl rfl (one_of HT_.out (by kernel_rfl)) (by decide) (fun K hK=>?_)
   have hs25:=ce1 BK106
   have hfs25:=bF BK106 1
   have hns25_0:=NB101_106.z
   have hns25_1:=NB102_106.z
   have hms25_0:=NB106_101.z
   have hms25_1:=NB106_102.z
   refine skip_ (w1:=?_) (by rfl) rfl ?_ ?_
   rotate_left;· go_simp;rfl
   refine hK.out _ _ ?_
   clear hK K
   refine done_ (done_of HT_.out (by kernel_rfl)) ?_
   try go_wp2
   go_roundg k1
   case measure=>have:=HK1.z;omega
   case rel=>exact ⟨(wrap64 (x4_1+1)),(y111),(.slice Ao24 y111.length co24),rs,H',⟨by have:=HK1.z;omega⟩,⟨aS (Kd.S_mono (gS 1 (.slice Ao24 y111.length co24) (tS HO113 BK106)) (fun _ hk=>trivial))⟩,⟨kZ⟩,⟨kZ⟩,⟨kZ⟩,⟨bl⟩⟩
end Go.Proofs.Ytgjdbnipcpmhiaa.P
/- Set with little white space, by a program. -/
