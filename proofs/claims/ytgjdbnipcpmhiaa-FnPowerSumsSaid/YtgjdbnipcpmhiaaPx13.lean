/- Go's calls come to what the Lean functions say. Condition of each: that the Lean function answers. -/
import Derived.Test.YtgjdbnipcpmhiaaPx0
import Derived.Test.YtgjdbnipcpmhiaaPx1
import Derived.Test.YtgjdbnipcpmhiaaPx2
import Derived.Test.YtgjdbnipcpmhiaaPx4
import Derived.Test.YtgjdbnipcpmhiaaPx5
import Derived.Test.YtgjdbnipcpmhiaaPx10
import Derived.Test.YtgjdbnipcpmhiaaPx12
namespace Go.Proofs.Ytgjdbnipcpmhiaa.P
open Go.RowKit Go.Proofs.YtgjdbnipcpmhiaaW.PrintWords Go.Proofs.YtgjdbnipcpmhiaaW.PrintLast Go.Proofs.YtgjdbnipcpmhiaaW.PrintMore
attribute [local go_sem] max2_int min2_int max_two min_two max_three min_three max_four min_four
set_option linter.unusedVariables false
set_option linter.unusedSimpArgs false
set_option maxHeartbeats 8000000
set_option maxRecDepth 100000
/-! ### F93: function 93 -/
def F93.f (k:Nat) (s0_0:List Int) (s0_1:Int) (s0_2:Int):Option (Int × (List (List Int)) × Int × Int):=(F60.f s0_0 s0_1 s0_2 4).bind fun bt102=>(if bt102.1=0 then ((F115.f).bind fun t105=>((F60.f s0_0 bt102.2.1 bt102.2.2 (t105.length:Int)).bind fun bt108=>(if 0≤bt108.1 then (if bt108.1 < (t105.length:Int) then ((F116.f k (rdOf ByteArray.empty t105 bt108.1)).bind fun bt112=>(some (bt112.1,bt112.2.1,bt108.2.1,bt108.2.2))) else (none)) else (none)))) else ((F60.f s0_0 bt102.2.1 bt102.2.2 8).bind fun bt118=>((F67.f s0_0 bt118.2.1 bt118.2.2 (([1,2,3,3,4,4,5,6,wrap64 (1+bt118.1)]:List Int))).bind fun bt124=>((F67.f s0_0 bt124.2.1 bt124.2.2 (([2,4,6,6,8,10]:List Int))).bind fun bt130=>((F63.f k s0_0 bt130.2.1 bt130.2.2 bt124.1 bt130.1).bind fun bt133=>(some (bt133.1,bt133.2.1,bt133.2.2.1,bt133.2.2.2)))))))
theorem F93.calls (k : Nat) (g : Nat) (s0_0 : List Int) (s0_1 : Int) (s0_2 : Int) (r1 : Int) (r2 : List (List Int)) (r3 : Int) (r4 : Int) (w0 w : World) (hI : IsS89 w0 w g s0_0 s0_1 s0_2) (hB : Below w0.heap.size w0 w) (h : F93.f k s0_0 s0_1 s0_2 = some (r1, r2, r3, r4)) :
  Calls Try.prog 93 #[.pointer (some ⟨g,0,none⟩)] w fun e w'=>∃ v1_:Value,e=.returned (.agg #[.int .i64 r1,v1_])∧Kd.S (Kd.slice 2 (Kd.int .i64)) 27 w' w.heap.size (fun _=>True) v1_ r2∧IsS89 w0 w' g s0_0 r3 r4∧Below w0.heap.size w0 w'∧KeepBut w w' g none:=by
 have hu26:=Try.underlying26
 have HI0:=k0 hI
 have HK:=k0 (KeepBut.refl w g none)
 have HL:=k0 hB.size
 clear hI
 have HW0:=k0 hB.size
 have HB:=k0 hB
 clear hB
 unfold F93.f at h
 have H:=h
 clear h
 replace H:=bS H;obtain ⟨⟨t102,t103,t104⟩,A2,H⟩:=H
 dsimp only at H
 replace H:=iE H;obtain ⟨c3,c3b0,c3b1,H⟩|⟨c3b0,c3b1,H⟩:=H
 case inl =>
  replace H:=bS H;obtain ⟨⟨t118,t119,t120⟩,A22,H⟩:=H
  dsimp only at H
  obtain ⟨y121,Ny121⟩:=nY (([1,2,3,3,4,4,5,6,wrap64 (1+t118)]:List Int):List Int)
  replace H:((F67.f s0_0 t119 t120 y121).bind fun bt124=>((F67.f s0_0 bt124.2.1 bt124.2.2 (([2,4,6,6,8,10]:List Int))).bind fun bt130=>((F63.f k s0_0 bt130.2.1 bt130.2.2 bt124.1 bt130.1).bind fun bt133=>(some (bt133.1,bt133.2.1,bt133.2.2.1,bt133.2.2.2)))))=some (r1,r2,r3,r4):=rH Ny121.z H
  replace H:=bS H;obtain ⟨⟨t124,t125,t126⟩,A23,H⟩:=H
  dsimp only at H
  obtain ⟨y127,Ny127⟩:=nY (([2,4,6,6,8,10]:List Int):List Int)
  replace H:((F67.f s0_0 t125 t126 y127).bind fun bt130=>((F63.f k s0_0 bt130.2.1 bt130.2.2 t124 bt130.1).bind fun bt133=>(some (bt133.1,bt133.2.1,bt133.2.2.1,bt133.2.2.2))))=some (r1,r2,r3,r4):=rH Ny127.z H
  replace H:=bS H;obtain ⟨⟨t130,t131,t132⟩,A24,H⟩:=H
  dsimp only at H
  replace H:=bS H;obtain ⟨⟨t133,t134,t137,t138⟩,A25,H⟩:=H
  dsimp only at H
  simp only [Option.some.injEq,Prod.mk.injEq] at H
  obtain ⟨rfl,rfl,rfl,rfl⟩:=H
  go_enter Try.func93,Try.ntmps93
  go_wp2_with (first|(refine gate_dst (N:=2) rfl ?_;refine bxe 2 #[.int .i64 0,.slice none 0 0] 26 ?_;intro gb101 hg w26 hbox hb;replace HB:=k0 (below_step (aG (IsS89.ge HI0.z) HB.z) hb);have BK101:=k0 hbox;have GW101:=gW hg (keep_size (aK HK.z));have GE101:=k0 (Nat.le_trans HW0.z GW101.z);replace HK:=zKd HK hb;have NB0_101:=k0 ((by rw [hg];exact Nat.ne_of_lt (IsS89.lt (show IsS89 w0 _ g s0_0 s0_1 s0_2 from aIsS89 HI0.z)):g ≠ gb101));have NB101_0:=k0 ((by rw [hg];exact Nat.ne_of_gt (IsS89.lt (show IsS89 w0 _ g s0_0 s0_1 s0_2 from aIsS89 HI0.z)):gb101 ≠ g));replace HI0:=k0 (IsS89.below (aIsS89 HI0.z) hb);clear hb hbox hg)|(refine gate_callee (f:=60) rfl ?_;refine gC (some 7) Try.func60 #[.pointer (some ⟨g,0,none⟩),.int .i64 4] ?_;(with_reducible refine (F60.calls g s0_0 s0_1 s0_2 4 t102 t103 t104 w0 _ ?side1 ?side2 A2.z).mono ?_);(case side1=>exact aIsS89 HI0.z);(case side2=>exact aG (IsS89.ge HI0.z) HB.z);rintro e w27 ⟨rfl,hi,hb,hk⟩;refine ⟨_,rfl,?_⟩;replace BK101:=kK hk BK101 NB101_0;replace HK:=zKc HK hk;replace HB:=k0 hb;replace HI0:=k0 hi)|(refine gate_callee (f:=60) rfl ?_;refine gC (some 25) Try.func60 #[.pointer (some ⟨g,0,none⟩),.int .i64 8] ?_;(with_reducible refine (F60.calls g s0_0 t103 t104 8 t118 t119 t120 w0 _ ?side1 ?side2 A22.z).mono ?_);(case side1=>exact aIsS89 HI0.z);(case side2=>exact aG (IsS89.ge HI0.z) HB.z);rintro e w28 ⟨rfl,hi,hb,hk⟩;refine ⟨_,rfl,?_⟩;replace BK101:=kK hk BK101 NB101_0;replace HK:=zKc HK hk;replace HB:=k0 hb;replace HI0:=k0 hi)|(refine gate_dst (N:=27) rfl ?_;refine zRt 2 (N:=27) (xs:=([1,2,3,3,4,4,5,6,wrap64 (1+t118)]:List Int)) (inner:=[.int .i64 1,.int .i64 2,.int .i64 3,.int .i64 3,.int .i64 4,.int .i64 4,.int .i64 5,.int .i64 6,.int .i64 (wrap64 (1+t118))]) (Reps.one (show Kd.M (Kd.int .i64) _ _ _ 1 [.int .i64 1] from rfl) (Reps.one (show Kd.M (Kd.int .i64) _ _ _ 2 [.int .i64 2] from rfl) (Reps.one (show Kd.M (Kd.int .i64) _ _ _ 3 [.int .i64 3] from rfl) (Reps.one (show Kd.M (Kd.int .i64) _ _ _ 3 [.int .i64 3] from rfl) (Reps.one (show Kd.M (Kd.int .i64) _ _ _ 4 [.int .i64 4] from rfl) (Reps.one (show Kd.M (Kd.int .i64) _ _ _ 4 [.int .i64 4] from rfl) (Reps.one (show Kd.M (Kd.int .i64) _ _ _ 5 [.int .i64 5] from rfl) (Reps.one (show Kd.M (Kd.int .i64) _ _ _ 6 [.int .i64 6] from rfl) (Reps.one (show Kd.M (Kd.int .i64) _ _ _ (wrap64 (1+t118)) [.int .i64 (wrap64 (1+t118))] from rfl) (Reps.none _ _)))))))))) ?_;intro v122 w29 ho30 hb hg_ hnew_;clear hg_ hnew_;(first|rw [← Ny121.z] at ho30|(simp only [Int.reduceToNat] at ho30;rw [← Ny121.z] at ho30));have HO123:=k0 (Kd.R_lower ho30 (keep_size (aK HK.z)));replace BK101:=kB BK101 hb;replace HK:=zKd HK hb;replace HB:=k0 (below_step (aG (IsS89.ge HI0.z) HB.z) hb);replace HI0:=k0 (IsS89.below (aIsS89 HI0.z) hb);clear hb ho30;obtain ⟨Ao31,co31,rfl⟩:=Kd.R_slice HO123.z)|(refine gate_callee (f:=67) rfl ?_;refine gC (some 28) Try.func67 #[.pointer (some ⟨g,0,none⟩),.slice Ao31 y121.length co31] ?_;(with_reducible refine (F67.calls g s0_0 t119 t120 _ _ y121 t124 t125 t126 w0 _ ?side1 ?side2 ?side3 ?side4 ?side5 A23.z).mono ?_);(case side1=>exact aIsS89 HI0.z);(case side2=>exact aG (IsS89.ge HI0.z) HB.z);(case side3=>exact aC ((Kd.R_reads' HO123.z).2.2));(case side4=>exact (Kd.R_reads' HO123.z).2.1);(case side5=>exact far_slice (IsS89.own_ne HI0.z HO123.z (by decide)));rintro e w32 ⟨rfl,hi,hb,hk⟩;refine ⟨_,rfl,?_⟩;replace BK101:=kK hk BK101 NB101_0;replace HO123:=k0 (Kd.R_mono (Kd.R_keep (IsS89.apart (show IsS89 w0 _ g s0_0 t119 t120 from aIsS89 HI0.z) (aR HO123.z) (by decide)) hk (fun _ h=>h.2)) (fun _ h=>h.1));replace HK:=zKc HK hk;replace HB:=k0 hb;replace HI0:=k0 hi)|(refine gate_dst (N:=30) rfl ?_;refine zRt 2 (N:=30) (xs:=([2,4,6,6,8,10]:List Int)) (inner:=[.int .i64 2,.int .i64 4,.int .i64 6,.int .i64 6,.int .i64 8,.int .i64 10]) (Reps.one (show Kd.M (Kd.int .i64) _ _ _ 2 [.int .i64 2] from rfl) (Reps.one (show Kd.M (Kd.int .i64) _ _ _ 4 [.int .i64 4] from rfl) (Reps.one (show Kd.M (Kd.int .i64) _ _ _ 6 [.int .i64 6] from rfl) (Reps.one (show Kd.M (Kd.int .i64) _ _ _ 6 [.int .i64 6] from rfl) (Reps.one (show Kd.M (Kd.int .i64) _ _ _ 8 [.int .i64 8] from rfl) (Reps.one (show Kd.M (Kd.int .i64) _ _ _ 10 [.int .i64 10] from rfl) (Reps.none _ _))))))) ?_;intro v128 w33 ho34 hb hg_ hnew_;clear hg_ hnew_;(first|rw [← Ny127.z] at ho34|(simp only [Int.reduceToNat] at ho34;rw [← Ny127.z] at ho34));have HO129:=k0 (Kd.R_lower (Kd.R_new' ho34 (Kd.R_lt (aR HO123.z))) (keep_size (aK HK.z)));replace HO123:=elR HO123 (Kd.R_base ho34) hb;replace BK101:=kB BK101 hb;replace HK:=zKd HK hb;replace HB:=k0 (below_step (aG (IsS89.ge HI0.z) HB.z) hb);replace HI0:=k0 (IsS89.below (aIsS89 HI0.z) hb);clear hb ho34;obtain ⟨Ao35,co35,rfl⟩:=Kd.R_slice HO129.z)|(refine gate_callee (f:=67) rfl ?_;refine gC (some 31) Try.func67 #[.pointer (some ⟨g,0,none⟩),.slice Ao35 y127.length co35] ?_;(with_reducible refine (F67.calls g s0_0 t125 t126 _ _ y127 t130 t131 t132 w0 _ ?side1 ?side2 ?side3 ?side4 ?side5 A24.z).mono ?_);(case side1=>exact aIsS89 HI0.z);(case side2=>exact aG (IsS89.ge HI0.z) HB.z);(case side3=>exact aC ((Kd.R_reads' HO129.z).2.2));(case side4=>exact (Kd.R_reads' HO129.z).2.1);(case side5=>exact far_slice (IsS89.own_ne HI0.z HO129.z (by decide)));rintro e w36 ⟨rfl,hi,hb,hk⟩;refine ⟨_,rfl,?_⟩;replace BK101:=kK hk BK101 NB101_0;replace HO123:=k0 (Kd.R_mono (Kd.R_keep (IsS89.apart (show IsS89 w0 _ g s0_0 t125 t126 from aIsS89 HI0.z) (aR HO123.z) (by decide)) hk (fun _ h=>h.2)) (fun _ h=>h.1));replace HO129:=k0 (Kd.R_mono (Kd.R_keep (IsS89.apart (show IsS89 w0 _ g s0_0 t125 t126 from aIsS89 HI0.z) (aR HO129.z) (by decide)) hk (fun _ h=>h.2)) (fun _ h=>h.1));replace HK:=zKc HK hk;replace HB:=k0 hb;replace HI0:=k0 hi)|(refine gate_callee (f:=63) rfl ?_;refine gC (some 32) Try.func63 #[.pointer (some ⟨g,0,none⟩),.int .i64 t124,.int .i64 t130] ?_;(with_reducible refine (F63.calls k g s0_0 t131 t132 t124 t130 t133 t134 t137 t138 w0 _ ?side1 ?side2 A25.z).mono ?_);(case side1=>exact aIsS89 HI0.z);(case side2=>exact aG (IsS89.ge HI0.z) HB.z);rintro e w37 ⟨v135,rfl,ho0,hi,hb,hk⟩;refine ⟨_,rfl,?_⟩;replace BK101:=kK hk BK101 NB101_0;have HO136:=k0 (Kd.S_lower (Kd.S_new' (Kd.S_new' ho0 (Kd.R_lt (aR HO123.z))) (Kd.R_lt (aR HO129.z))) (keep_size (aK HK.z)));replace HO123:=k0 (Kd.R_mono (Kd.R_keep (IsS89.apart (show IsS89 w0 _ g s0_0 t131 t132 from aIsS89 HI0.z) (aR HO123.z) (by decide)) hk (fun _ h=>h.2)) (fun _ h=>h.1));replace HO129:=k0 (Kd.R_mono (Kd.R_keep (IsS89.apart (show IsS89 w0 _ g s0_0 t131 t132 from aIsS89 HI0.z) (aR HO129.z) (by decide)) hk (fun _ h=>h.2)) (fun _ h=>h.1));replace HK:=zKc HK hk;replace HB:=k0 hb;replace HI0:=k0 hi;obtain ⟨_,_⟩:=nE NB101_0;obtain ⟨_,_,_,_⟩:=cz2 BK101;obtain ⟨Ao40,co40,rfl⟩:=Kd.S_slice HO136.z))
  refine bodyPost_ret (results_cell_row rfl _ _ gb101 26 #[.int .i64 t133,.slice Ao40 t134.length co40] (0,0) _ rfl kZ Try.underlying26 rfl (by kernel_rfl)) rfl ?_
  exact ⟨_,eR,aS (Kd.S_mono (gS 1 (.slice Ao40 t134.length co40) (gS 0 (.int .i64 t133) (tS HO136 BK101))) (fun _ hk=>trivial)),aIsS89 HI0.z,aG (IsS89.ge HI0.z) HB.z,aK HK.z⟩
 replace H:=bS H;obtain ⟨t105,A4,H⟩:=H
 replace H:=bS H;obtain ⟨⟨t108,t109,t110⟩,A5,H⟩:=H
 dsimp only at H
 replace H:=iS H;obtain ⟨c6,H⟩:=H
 have c6b0:=decide_eq_true c6
 clear c6
 replace H:=iS H;obtain ⟨c7,H⟩:=H
 have c7b0:=decide_eq_true c7
 clear c7
 replace H:=bS H;obtain ⟨⟨t112,t113,t116⟩,A8,H⟩:=H
 dsimp only at H
 simp only [Option.some.injEq,Prod.mk.injEq] at H
 obtain ⟨rfl,rfl,rfl,rfl⟩:=H
 go_enter Try.func93,Try.ntmps93
 go_wp2_with (first|(refine gate_dst (N:=2) rfl ?_;refine bxe 2 #[.int .i64 0,.slice none 0 0] 26 ?_;intro gb101 hg w9 hbox hb;replace HB:=k0 (below_step (aG (IsS89.ge HI0.z) HB.z) hb);have BK101:=k0 hbox;have GW101:=gW hg (keep_size (aK HK.z));have GE101:=k0 (Nat.le_trans HW0.z GW101.z);replace HK:=zKd HK hb;have NB0_101:=k0 ((by rw [hg];exact Nat.ne_of_lt (IsS89.lt (show IsS89 w0 _ g s0_0 s0_1 s0_2 from aIsS89 HI0.z)):g ≠ gb101));have NB101_0:=k0 ((by rw [hg];exact Nat.ne_of_gt (IsS89.lt (show IsS89 w0 _ g s0_0 s0_1 s0_2 from aIsS89 HI0.z)):gb101 ≠ g));replace HI0:=k0 (IsS89.below (aIsS89 HI0.z) hb);clear hb hbox hg)|(refine gate_callee (f:=60) rfl ?_;refine gC (some 7) Try.func60 #[.pointer (some ⟨g,0,none⟩),.int .i64 4] ?_;(with_reducible refine (F60.calls g s0_0 s0_1 s0_2 4 t102 t103 t104 w0 _ ?side1 ?side2 A2.z).mono ?_);(case side1=>exact aIsS89 HI0.z);(case side2=>exact aG (IsS89.ge HI0.z) HB.z);rintro e w10 ⟨rfl,hi,hb,hk⟩;refine ⟨_,rfl,?_⟩;replace BK101:=kK hk BK101 NB101_0;replace HK:=zKc HK hk;replace HB:=k0 hb;replace HI0:=k0 hi)|(refine gate_callee (f:=115) rfl ?_;refine gC (some 9) Try.func115 #[] ?_;(with_reducible refine (F115.calls  t105 _ A4.z).mono ?_);rintro e w11 ⟨v106,rfl,ho0,hb⟩;refine ⟨_,rfl,?_⟩;have HO107:=k0 (Kd.R_lower ho0 (keep_size (aK HK.z)));replace BK101:=kB BK101 hb;replace HK:=zKd HK hb;replace HB:=k0 (below_step (aG (IsS89.ge HI0.z) HB.z) hb);replace HI0:=k0 (IsS89.below (aIsS89 HI0.z) hb);obtain ⟨Ao12,co12,rfl⟩:=Kd.R_slice HO107.z)|(refine gate_callee (f:=60) rfl ?_;refine gC (some 15) Try.func60 #[.pointer (some ⟨g,0,none⟩),.int .i64 (t105.length:Int)] ?_;(with_reducible refine (F60.calls g s0_0 t103 t104 (t105.length:Int) t108 t109 t110 w0 _ ?side1 ?side2 A5.z).mono ?_);(case side1=>exact aIsS89 HI0.z);(case side2=>exact aG (IsS89.ge HI0.z) HB.z);rintro e w13 ⟨rfl,hi,hb,hk⟩;refine ⟨_,rfl,?_⟩;replace BK101:=kK hk BK101 NB101_0;replace HO107:=k0 (Kd.R_mono (Kd.R_keep (IsS89.apart (show IsS89 w0 _ g s0_0 t103 t104 from aIsS89 HI0.z) (aR HO107.z) (by decide)) hk (fun _ h=>h.2)) (fun _ h=>h.1));replace HK:=zKc HK hk;replace HB:=k0 hb;replace HI0:=k0 hi;obtain ⟨p111,q111⟩:=iN t108 (t105.length:Int);obtain ⟨ad111,e111,hx111_0⟩:=Kd.at_string (Kd.R_reads' HO107.z).2.2 t108 p111 q111;cases e111;replace p111:=eT p111;replace q111:=eT q111)|(refine gate_callee (f:=116) rfl ?_;refine gC (some 18) Try.func116 #[.string (rdOf ByteArray.empty t105 t108)] ?_;(with_reducible refine (F116.calls k (rdOf ByteArray.empty t105 t108) t112 t113 t116 _ A8.z).mono ?_);rintro e w14 ⟨v114,rfl,ho0,hb⟩;refine ⟨_,rfl,?_⟩;replace HO107:=bwR HO107 hb;have HO115:=k0 (Kd.S_lower ho0 (keep_size (aK HK.z)));replace BK101:=kB BK101 hb;replace HK:=zKd HK hb;replace HB:=k0 (below_step (aG (IsS89.ge HI0.z) HB.z) hb);replace HI0:=k0 (IsS89.below (aIsS89 HI0.z) hb))|(refine gate_dst (N:=4) rfl ?_;refine bxe 4 #[.int .i64 0,.slice none 0 0] 26 ?_;intro gb117 hg w15 hbox hb;replace HO107:=bwR HO107 hb;replace HO115:=bwS HO115 hb;replace HB:=k0 (below_step (aG (IsS89.ge HI0.z) HB.z) hb);have BK117:=k0 hbox;have GW117:=gW hg (keep_size (aK HK.z));have GE117:=k0 (Nat.le_trans HW0.z GW117.z);replace HK:=zKd HK hb;have NB101_117:=nL hg BK101;have NB117_101:=nG NB101_117;replace BK101:=kB BK101 hb;have NB0_117:=k0 ((by rw [hg];exact Nat.ne_of_lt (IsS89.lt (show IsS89 w0 _ g s0_0 t109 t110 from aIsS89 HI0.z)):g ≠ gb117));have NB117_0:=k0 ((by rw [hg];exact Nat.ne_of_gt (IsS89.lt (show IsS89 w0 _ g s0_0 t109 t110 from aIsS89 HI0.z)):gb117 ≠ g));replace HI0:=k0 (IsS89.below (aIsS89 HI0.z) hb);clear hb hbox hg;obtain ⟨_,_⟩:=nE NB117_101;obtain ⟨_,_⟩:=nE NB117_0;obtain ⟨_,_,_,_⟩:=cz2 BK117;obtain ⟨Ao19,co19,rfl⟩:=Kd.S_slice HO115.z;obtain ⟨_,_⟩:=nE NB101_0;obtain ⟨_,_,_,_⟩:=cz2 BK101))
 refine bodyPost_ret (results_cell_row rfl _ _ gb101 26 #[.int .i64 t112,.slice Ao19 t113.length co19] (0,0) _ rfl kZ Try.underlying26 rfl (by kernel_rfl)) rfl ?_
 exact ⟨_,eR,aS (Kd.S_mono (Kd.S_far (p:=⟨gb101,1,none⟩) (Kd.S_far (p:=⟨gb101,0,none⟩) (Kd.S_far (p:=⟨gb117,1,none⟩) (Kd.S_far (p:=⟨gb117,0,none⟩) (Kd.S_types (tS HO115 BK117) BK101.z (by decide)) (fun _ hk=>hk.1.2) (.int .i64 t112)) (fun _ hk=>hk.1.2) (.slice Ao19 t113.length co19)) (fun _ hk=>hk.2) (.int .i64 t112)) (fun _ hk=>hk.2) (.slice Ao19 t113.length co19)) (fun _ hk=>trivial)),aIsS89 HI0.z,aG (IsS89.ge HI0.z) HB.z,aK HK.z⟩
/-! ### F38: function 38 -/
def F38.f (k:Nat) (s0_0:List Int) (s0_1:Int) (s0_2:Int):Option (Int × (List (List Int)) × Int × Int):=(F93.f k s0_0 s0_1 s0_2).bind fun bt102=>((F92.f k s0_0 bt102.2.2.1 bt102.2.2.2 bt102.1 bt102.2.1).bind fun bt108=>(some (bt108.1,bt108.2.1,bt108.2.2.1,bt108.2.2.2)))
theorem F38.calls (k : Nat) (g : Nat) (s0_0 : List Int) (s0_1 : Int) (s0_2 : Int) (r1 : Int) (r2 : List (List Int)) (r3 : Int) (r4 : Int) (w0 w : World) (hI : IsS89 w0 w g s0_0 s0_1 s0_2) (hB : Below w0.heap.size w0 w) (h : F38.f k s0_0 s0_1 s0_2 = some (r1, r2, r3, r4)) :
  Calls Try.prog 38 #[.pointer (some ⟨g,0,none⟩)] w fun e w'=>∃ v1_:Value,e=.returned (.agg #[.int .i64 r1,v1_])∧Kd.V (Kd.slice 2 (Kd.int .i64)) 27 w' w.heap.size (fun k_=>(w.heap.size≤k_)) v1_ r2∧IsS89 w0 w' g s0_0 r3 r4∧Below w0.heap.size w0 w'∧KeepBut w w' g none:=by
 have hu26:=Try.underlying26
 have HI0:=k0 hI
 have HK:=k0 (KeepBut.refl w g none)
 have HL:=k0 hB.size
 clear hI
 have HW0:=k0 hB.size
 have HB:=k0 hB
 clear hB
 unfold F38.f at h
 have H:=h
 clear h
 replace H:=bS H;obtain ⟨⟨t102,t103,t106,t107⟩,A2,H⟩:=H
 dsimp only at H
 replace H:=bS H;obtain ⟨⟨t108,t109,t112,t113⟩,A3,H⟩:=H
 dsimp only at H
 simp only [Option.some.injEq,Prod.mk.injEq] at H
 obtain ⟨rfl,rfl,rfl,rfl⟩:=H
 go_enter Try.func38,Try.ntmps38
 go_wp2_with (first|(refine gate_dst (N:=2) rfl ?_;refine bxe 2 #[.int .i64 0,.slice none 0 0] 26 ?_;intro gb101 hg w4 hbox hb;replace HB:=k0 (below_step (aG (IsS89.ge HI0.z) HB.z) hb);have BK101:=k0 hbox;have GW101:=gW hg (keep_size (aK HK.z));have GE101:=k0 (Nat.le_trans HW0.z GW101.z);replace HK:=zKd HK hb;have NB0_101:=k0 ((by rw [hg];exact Nat.ne_of_lt (IsS89.lt (show IsS89 w0 _ g s0_0 s0_1 s0_2 from aIsS89 HI0.z)):g ≠ gb101));have NB101_0:=k0 ((by rw [hg];exact Nat.ne_of_gt (IsS89.lt (show IsS89 w0 _ g s0_0 s0_1 s0_2 from aIsS89 HI0.z)):gb101 ≠ g));replace HI0:=k0 (IsS89.below (aIsS89 HI0.z) hb);clear hb hbox hg)|(refine gate_callee (f:=93) rfl ?_;refine gC (some 5) Try.func93 #[.pointer (some ⟨g,0,none⟩)] ?_;(with_reducible refine (F93.calls k g s0_0 s0_1 s0_2 t102 t103 t106 t107 w0 _ ?side1 ?side2 A2.z).mono ?_);(case side1=>exact aIsS89 HI0.z);(case side2=>exact aG (IsS89.ge HI0.z) HB.z);rintro e w5 ⟨v104,rfl,ho0,hi,hb,hk⟩;refine ⟨_,rfl,?_⟩;replace BK101:=kK hk BK101 NB101_0;have HO105:=k0 (Kd.S_lower (Kd.S_newM (M:=fun k_=>(w.heap.size≤k_)) ho0 (keep_size (aK HK.z)) (fun k_ h_=>h_)) (keep_size (aK HK.z)));replace HK:=zKc HK hk;replace HB:=k0 hb;replace HI0:=k0 hi;obtain ⟨Ao6,co6,rfl⟩:=Kd.S_slice HO105.z)|(refine gate_callee (f:=92) rfl ?_;refine gC (some 6) Try.func92 #[.pointer (some ⟨g,0,none⟩),.agg #[.int .i64 t102,.slice Ao6 t103.length co6]] ?_;(with_reducible refine (F92.calls k g s0_0 t106 t107 t102 (fun k_=>((((w.heap.size≤k_)∧True)∧k_ ≠ gb101)∧k_ ≠ g)) _ _ t103 t108 t109 t112 t113 w0 _ ?side1 ?side2 ?side3 A3.z).mono ?_);(case side1=>exact aIsS89 HI0.z);(case side2=>exact aG (IsS89.ge HI0.z) HB.z);(case side3=>exact Kd.V_mono (Kd.S_V (IsS89.apartS HI0.z (Kd.S_types (HO105.z) BK101.z (by decide)) (by decide))) (fun k_ hk_=>⟨hk_,hk_.2⟩));rintro e w7 ⟨v110,rfl,ho0,hi,hb,hk⟩;refine ⟨_,rfl,?_⟩;replace HO105:=k0 (Kd.S_mono (Kd.S_keep (IsS89.apartS (show IsS89 w0 _ g s0_0 t106 t107 from aIsS89 HI0.z) (aS HO105.z) (by decide)) hk (fun _ h=>h.2)) (fun _ h=>h.1));have HO111:=k0 (Kd.V_lower (Kd.V_mono (ok':=fun k_=>(w.heap.size≤k_)∧k_ ≠ gb101∧k_ ≠ g) ho0 (fun k_ hk_=>⟨Or.elim hk_ (fun hs_=>hs_.1.1.1) (fun hn_=>(Nat.le_trans (keep_size (aK HK.z)) hn_)),Or.elim hk_ (fun hs_=>hs_.1.2) (fun hn_=>(Kd.freshB (aB BK101.z) k_ hn_)),Or.elim hk_ (fun hs_=>hs_.2) (fun hn_=>(IsS89.fresh (aIsS89 HI0.z) k_ hn_))⟩)) (keep_size (aK HK.z)));replace BK101:=kK hk BK101 NB101_0;replace HK:=zKc HK hk;replace HB:=k0 hb;replace HI0:=k0 hi;obtain ⟨_,_⟩:=nE NB101_0;obtain ⟨_,_,_,_⟩:=cz2 BK101;obtain ⟨Ao10,co10,rfl⟩:=Kd.V_slice HO111.z))
 refine bodyPost_ret (results_cell_row rfl _ _ gb101 26 #[.int .i64 t108,.slice Ao10 t109.length co10] (0,0) _ rfl kZ Try.underlying26 rfl (by kernel_rfl)) rfl ?_
 exact ⟨_,eR,aV (Kd.V_mono (Kd.V_far (p:=⟨gb101,1,none⟩) (Kd.V_far (p:=⟨gb101,0,none⟩) (Kd.V_mono HO111.z (fun k_ hk=>(⟨hk,hk.2.1⟩:_∧k_ ≠ gb101))) (fun _ hk=>hk.2) (.int .i64 t108)) (fun _ hk=>hk.2) (.slice Ao10 t109.length co10)) (fun _ hk=>hk.1.1)),aIsS89 HI0.z,aG (IsS89.ge HI0.z) HB.z,aK HK.z⟩
/-! ### F78: function 78 -/
def F78.f (k:Nat) (l0:List Int):Option (Int × (List (List Int)) × Int):=(F37.f k l0).bind fun bt102=>((F38.f k bt102.1 bt102.2.1 bt102.2.2).bind fun bt106=>((F68.f bt102.1 bt106.2.2.1 bt106.2.2.2 12).bind fun bt112=>((F67.f bt102.1 bt112.2.1 bt112.2.2 (([1,2,3,4,5,bt112.1]:List Int))).bind fun bt118=>(some (bt106.1,bt106.2.1,bt118.1)))))
theorem F78.calls (k : Nat) (A0 : Option Addr) (c0 : Nat) (l0 : List Int) (r1 : Int) (r2 : List (List Int)) (r3 : Int) (w : World) (hr0 : Kd.C (Kd.int .u8) w A0 l0.length l0) (hc0 : l0.length ≤ c0) (h : F78.f k l0 = some (r1, r2, r3)) :
  Calls Try.prog 78 #[.slice A0 l0.length c0] w fun e w'=>∃ v1_:Value,e=.returned (.tuple #[.agg #[.int .i64 r1,v1_],.int .i64 r3])∧Kd.V (Kd.slice 2 (Kd.int .i64)) 27 w' w.heap.size (fun k_=>(w.heap.size≤k_)) v1_ r2∧Below w.heap.size w w':=by
 have hu26:=Try.underlying26
 have HR0:=k0 hr0
 have HC0:=k0 hc0
 clear hr0 hc0
 have HB:=k0 (Below.refl w.heap.size w)
 unfold F78.f at h
 have H:=h
 clear h
 replace H:=bS H;obtain ⟨⟨t102,t103,t104⟩,A2,H⟩:=H
 dsimp only at H
 replace H:=bS H;obtain ⟨⟨t106,t107,t110,t111⟩,A3,H⟩:=H
 dsimp only at H
 replace H:=bS H;obtain ⟨⟨t112,t113,t114⟩,A4,H⟩:=H
 dsimp only at H
 obtain ⟨y115,Ny115⟩:=nY (([1,2,3,4,5,t112]:List Int):List Int)
 replace H:((F67.f t102 t113 t114 y115).bind fun bt118=>(some (t106,t107,bt118.1)))=some (r1,r2,r3):=rH Ny115.z H
 replace H:=bS H;obtain ⟨⟨t118,t119,t120⟩,A5,H⟩:=H
 dsimp only at H
 simp only [Option.some.injEq,Prod.mk.injEq] at H
 obtain ⟨rfl,rfl,rfl⟩:=H
 go_enter Try.func78,Try.ntmps78
 go_wp2_with (first|(refine gate_dst (N:=2) rfl ?_;refine bxz 2 #[.int .i64 0,.slice none 0 0] 26 bl ?_;intro gb101 w6 BK101 GW101 HB;have GE101:=GW101)|(refine gate_callee (f:=37) rfl ?_;refine gC (some 6) Try.func37 #[.slice A0 l0.length c0] ?_;(with_reducible refine (F37.calls k _ _ l0 t102 t103 t104 w _ ?side1 ?side2 ?side3 A2.z).mono ?_);(case side1=>exact aL HB.z);(case side2=>exact HR0.z);(case side3=>exact HC0.z);rintro e w7 ⟨g105,rfl,hi,hb,hb2⟩;refine ⟨_,rfl,?_⟩;replace HB:=k0 hb;have HI105:=k0 hi;have NB105_101:=k0 (IsS89.ne_blk hi (blk_below (aB BK101.z) hb2) (by decide));have NB101_105:=k0 (Ne.symm (IsS89.ne_blk hi (blk_below (aB BK101.z) hb2) (by decide)));replace BK101:=kB BK101 hb2)|(refine gate_callee (f:=38) rfl ?_;refine gC (some 8) Try.func38 #[.pointer (some ⟨g105,0,none⟩)] ?_;(with_reducible refine (F38.calls k g105 t102 t103 t104 t106 t107 t110 t111 w _ ?side1 ?side2 A3.z).mono ?_);(case side1=>exact aIsS89 HI105.z);(case side2=>exact aG (IsS89.ge HI105.z) HB.z);rintro e w8 ⟨v108,rfl,ho0,hi,hb,hk⟩;refine ⟨_,rfl,?_⟩;have HO109:=k0 (Kd.V_lower (Kd.V_mono (ok':=fun k_=>(w.heap.size≤k_)∧k_ ≠ gb101∧k_ ≠ g105) ho0 (fun k_ hk_=>⟨(Nat.le_trans (below_size (aG (IsS89.ge HI105.z) HB.z)) hk_),(Kd.freshB (aB BK101.z) k_ hk_),(IsS89.fresh (aIsS89 HI105.z) k_ hk_)⟩)) (below_size (aG (IsS89.ge HI105.z) HB.z)));replace BK101:=kK hk BK101 NB101_105;replace HB:=k0 hb;replace HI105:=k0 hi)|(refine gate_callee (f:=68) rfl ?_;refine gC (some 11) Try.func68 #[.pointer (some ⟨g105,0,none⟩),.int .i64 12] ?_;(with_reducible refine (F68.calls g105 t102 t110 t111 12 t112 t113 t114 w _ ?side1 ?side2 A4.z).mono ?_);(case side1=>exact aIsS89 HI105.z);(case side2=>exact aG (IsS89.ge HI105.z) HB.z);rintro e w9 ⟨rfl,hi,hb,hk⟩;refine ⟨_,rfl,?_⟩;replace BK101:=kK hk BK101 NB101_105;replace HO109:=k0 (Kd.V_mono (Kd.V_keep (Kd.V_mono (ok:=fun k_=>(((w.heap.size≤k_))∧(k_ ≠ gb101∧k_ ≠ g105))) (aV HO109.z) (fun k_ hk_=>(⟨hk_,hk_.2.2⟩:_∧k_ ≠ g105))) hk (fun _ h=>h.2)) (fun _ h=>h.1));replace HB:=k0 hb;replace HI105:=k0 hi)|(refine gate_dst (N:=12) rfl ?_;refine zRt 2 (N:=12) (xs:=([1,2,3,4,5,t112]:List Int)) (inner:=[.int .i64 1,.int .i64 2,.int .i64 3,.int .i64 4,.int .i64 5,.int .i64 t112]) (Reps.one (show Kd.M (Kd.int .i64) _ _ _ 1 [.int .i64 1] from rfl) (Reps.one (show Kd.M (Kd.int .i64) _ _ _ 2 [.int .i64 2] from rfl) (Reps.one (show Kd.M (Kd.int .i64) _ _ _ 3 [.int .i64 3] from rfl) (Reps.one (show Kd.M (Kd.int .i64) _ _ _ 4 [.int .i64 4] from rfl) (Reps.one (show Kd.M (Kd.int .i64) _ _ _ 5 [.int .i64 5] from rfl) (Reps.one (show Kd.M (Kd.int .i64) _ _ _ t112 [.int .i64 t112] from rfl) (Reps.none _ _))))))) ?_;intro v116 w10 ho11 hb hg_ hnew_;clear hg_ hnew_;(first|rw [← Ny115.z] at ho11|(simp only [Int.reduceToNat] at ho11;rw [← Ny115.z] at ho11));replace HO109:=elV HO109 (Kd.R_base ho11) hb;have HO117:=k0 (Kd.R_lower (Kd.R_newM (M:=fun k_=>(w.heap.size≤k_)) ho11 (below_size (aG (IsS89.ge HI105.z) HB.z)) (fun k_ h_=>h_)) (below_size (aG (IsS89.ge HI105.z) HB.z)));replace BK101:=kB BK101 hb;replace HB:=k0 (below_step (aG (IsS89.ge HI105.z) HB.z) hb);replace HI105:=k0 (IsS89.below (aIsS89 HI105.z) hb);clear hb ho11;obtain ⟨Ao12,co12,rfl⟩:=Kd.R_slice HO117.z)|(refine gate_callee (f:=67) rfl ?_;refine gC (some 13) Try.func67 #[.pointer (some ⟨g105,0,none⟩),.slice Ao12 y115.length co12] ?_;(with_reducible refine (F67.calls g105 t102 t113 t114 _ _ y115 t118 t119 t120 w _ ?side1 ?side2 ?side3 ?side4 ?side5 A5.z).mono ?_);(case side1=>exact aIsS89 HI105.z);(case side2=>exact aG (IsS89.ge HI105.z) HB.z);(case side3=>exact aC ((Kd.R_reads' HO117.z).2.2));(case side4=>exact (Kd.R_reads' HO117.z).2.1);(case side5=>exact far_slice (IsS89.own_ne HI105.z HO117.z (by decide)));rintro e w13 ⟨rfl,hi,hb,hk⟩;refine ⟨_,rfl,?_⟩;replace BK101:=kK hk BK101 NB101_105;replace HO109:=k0 (Kd.V_mono (Kd.V_keep (Kd.V_mono (ok:=fun k_=>((((w.heap.size≤k_))∧(k_ ≠ gb101∧k_ ≠ g105))∧some k_ ≠ (.slice Ao12 y115.length co12:Value).ownBlock)) (aV HO109.z) (fun k_ hk_=>(⟨hk_,hk_.1.2.2⟩:_∧k_ ≠ g105))) hk (fun _ h=>h.2)) (fun _ h=>h.1));replace HO117:=k0 (Kd.R_mono (Kd.R_keep (IsS89.apart (show IsS89 w _ g105 t102 t113 t114 from aIsS89 HI105.z) (aR HO117.z) (by decide)) hk (fun _ h=>h.2)) (fun _ h=>h.1));replace HB:=k0 hb;replace HI105:=k0 hi;obtain ⟨_,_⟩:=nE NB101_105;obtain ⟨_,_,_,_⟩:=cz2 BK101;obtain ⟨Ao16,co16,rfl⟩:=Kd.V_slice HO109.z))
 refine bodyPost_ret (results_ct rfl _ _ gb101 26 #[.int .i64 t106,.slice Ao16 t107.length co16] (0,0) _ rfl kZ Try.underlying26 rfl (by kernel_rfl)) rfl ?_
 exact ⟨_,eR,aV (Kd.V_mono (Kd.V_far (p:=⟨gb101,1,none⟩) (Kd.V_far (p:=⟨gb101,0,none⟩) (Kd.V_mono HO109.z (fun k_ hk=>(⟨hk,hk.1.2.1⟩:_∧k_ ≠ gb101))) (fun _ hk=>hk.2) (.int .i64 t106)) (fun _ hk=>hk.2) (.slice Ao16 t107.length co16)) (fun _ hk=>hk.1.1.1)),aG (IsS89.ge HI105.z) HB.z⟩
/-! ### F28: function 28 -/
def F28.f (k:Nat) (l0:List Int):Option (Int × (List (List Int)) × Int):=(F78.f k l0).bind fun bt102=>(some (bt102.1,bt102.2.1,bt102.2.2))
theorem F28.calls (k : Nat) (A0 : Option Addr) (c0 : Nat) (l0 : List Int) (r1 : Int) (r2 : List (List Int)) (r3 : Int) (w : World) (hr0 : Kd.C (Kd.int .u8) w A0 l0.length l0) (hc0 : l0.length ≤ c0) (h : F28.f k l0 = some (r1, r2, r3)) :
  Calls Try.prog 28 #[.slice A0 l0.length c0] w fun e w'=>∃ v1_:Value,e=.returned (.tuple #[.agg #[.int .i64 r1,v1_],.int .i64 r3])∧Kd.V (Kd.slice 2 (Kd.int .i64)) 27 w' w.heap.size (fun k_=>(w.heap.size≤k_)) v1_ r2∧Below w.heap.size w w':=by
 have hu26:=Try.underlying26
 have HR0:=k0 hr0
 have HC0:=k0 hc0
 clear hr0 hc0
 have HB:=k0 (Below.refl w.heap.size w)
 unfold F28.f at h
 have H:=h
 clear h
 replace H:=bS H;obtain ⟨⟨t102,t103,t106⟩,A2,H⟩:=H
 dsimp only at H
 simp only [Option.some.injEq,Prod.mk.injEq] at H
 obtain ⟨rfl,rfl,rfl⟩:=H
 go_enter Try.func28,Try.ntmps28
 go_wp2_with (first|(refine gate_dst (N:=2) rfl ?_;refine bxz 2 #[.int .i64 0,.slice none 0 0] 26 bl ?_;intro gb101 w3 BK101 GW101 HB;have GE101:=GW101)|(refine gate_callee (f:=78) rfl ?_;refine gC (some 8) Try.func78 #[.slice A0 l0.length c0] ?_;(with_reducible refine (F78.calls k _ _ l0 t102 t103 t106 _ ?side1 ?side2 A2.z).mono ?_);(case side1=>exact aC (Kd.C_below HR0.z HB.z));(case side2=>exact HC0.z);rintro e w4 ⟨v104,rfl,ho0,hb⟩;refine ⟨_,rfl,?_⟩;have HO105:=k0 (Kd.V_lower (Kd.V_mono (ok':=fun k_=>(w.heap.size≤k_)∧k_ ≠ gb101) ho0 (fun k_ hk_=>⟨(Nat.le_trans (below_size bl) hk_),(Kd.freshB (aB BK101.z) k_ hk_)⟩)) (below_size bl));replace BK101:=kB BK101 hb;replace HB:=bW hb)|(refine gate_dst (N:=4) rfl ?_;refine bxe 4 #[.int .i64 0,.slice none 0 0] 26 ?_;intro gb107 hg w5 hbox hb;replace HO105:=ebV HO105 hg hb;have BK107:=k0 hbox;have GW107:=gW hg (below_size bl);have GE107:=GW107;replace HB:=bW hb;have NB101_107:=nL hg BK101;have NB107_101:=nG NB101_107;replace BK101:=kB BK101 hb;clear hb hbox hg;obtain ⟨_,_⟩:=nE NB107_101;obtain ⟨_,_,_,_⟩:=cz2 BK107;obtain ⟨Ao8,co8,rfl⟩:=Kd.V_slice HO105.z;obtain ⟨_,_,_,_⟩:=cz2 BK101))
 refine bodyPost_ret (results_ct rfl _ _ gb101 26 #[.int .i64 t102,.slice Ao8 t103.length co8] (0,0) _ rfl kZ Try.underlying26 rfl (by kernel_rfl)) rfl ?_
 exact ⟨_,eR,aV (Kd.V_mono (Kd.V_far (p:=⟨gb101,1,none⟩) (Kd.V_far (p:=⟨gb101,0,none⟩) (Kd.V_far (p:=⟨gb107,1,none⟩) (Kd.V_far (p:=⟨gb107,0,none⟩) (Kd.V_mono (Kd.V_mono HO105.z (fun k_ hk=>(⟨hk,hk.2⟩:_∧k_ ≠ gb107))) (fun k_ hk=>(⟨hk,hk.1.1.2⟩:_∧k_ ≠ gb101))) (fun _ hk=>hk.1.2) (.int .i64 t102)) (fun _ hk=>hk.1.2) (.slice Ao8 t103.length co8)) (fun _ hk=>hk.2) (.int .i64 t102)) (fun _ hk=>hk.2) (.slice Ao8 t103.length co8)) (fun _ hk=>hk.1.1.1.1)),bl⟩
/-! ### F49: function 49 -/
def F49.l0 : Nat → List (List Int) → Int → Int → Int → List (List Int) → Option (Bool)
 | 0,_,_,_,_,_=>none
 | k+1,x6,x7,x8,x102000,x102001=>if x8 < x7 then (if 0≤x8 then (if x8 < (x6.length:Int) then (if ((rd_L1 x6 x8).length:Int)=2 then (if 0 < ((rd_L1 x6 x8).length:Int) then ((F70.f (rd (rd_L1 x6 x8) 0) 0 (wrap64 (x102000 - 1))).bind fun t105=>(if t105=true then (if 1 < ((rd_L1 x6 x8).length:Int) then ((F70.f (rd (rd_L1 x6 x8) 1) 0 (wrap64 (x102000 - 1))).bind fun t107=>(if t107=true then (F49.l0 k x6 x7 (wrap64 (x8+1)) x102000 x102001) else (some false))) else (none)) else (some false))) else (none)) else (some false)) else (none)) else (none)) else ((F70.f x102000 1 8).bind fun t102=>(if t102=true then (some (decide ((x102001.length:Int)≤10))) else (some false)))
def F49.f (k:Nat) (a0_0:Int) (l0_1:List (List Int)):Option (Bool):=F49.l0 k l0_1 (l0_1.length:Int) 0 a0_0 l0_1
theorem F49.calls (k : Nat) (a0_0 : Int) (A0_1 : Option Addr) (c0_1 : Nat) (l0_1 : List (List Int)) (r : Bool) (w : World) (hr0_1 : Kd.C (Kd.slice 2 (Kd.int .i64)) w A0_1 l0_1.length l0_1) (hc0_1 : l0_1.length ≤ c0_1) (h : F49.f k a0_0 l0_1 = some r) :
  Calls Try.prog 49 #[.agg #[.int .i64 a0_0,.slice A0_1 l0_1.length c0_1]] w fun e w'=>e=.returned (.bool r)∧Below w.heap.size w w':=by
 have hu26:=Try.underlying26
 have HR0_1:=k0 hr0_1
 have HC0_1:=k0 hc0_1
 clear hr0_1 hc0_1
 have HB:=k0 (Below.refl w.heap.size w)
 unfold F49.f at h
 have H:=h
 clear h
 have H':=k0 H
 clear H
 go_enter Try.func49,Try.ntmps49
 go_wp2_with (first|(refine gate_dst (N:=1) rfl ?_;(try (refine gate_guard (by rfl) ?_;dsimp only));refine bxz 1 #[.int .i64 a0_0,.slice A0_1 l0_1.length c0_1] 26 bl ?_;intro gb101 w2 BK101 GW101 HB;have GE101:=GW101;obtain ⟨hcz3_0,hcz3_1,hfz3_0,hfz3_1⟩:=cz2 BK101))
 repeat (go_quiet (first|(refine gate_dst (N:=1) rfl ?_;(try (refine gate_guard (by rfl) ?_;dsimp only));refine bxz 1 #[.int .i64 a0_0,.slice A0_1 l0_1.length c0_1] 26 bl ?_;intro gb101 w2 BK101 GW101 HB;have GE101:=GW101;obtain ⟨hcz3_0,hcz3_1,hfz3_0,hfz3_1⟩:=cz2 BK101));try go_wp2_with (first|(refine gate_dst (N:=1) rfl ?_;(try (refine gate_guard (by rfl) ?_;dsimp only));refine bxz 1 #[.int .i64 a0_0,.slice A0_1 l0_1.length c0_1] 26 bl ?_;intro gb101 w2 BK101 GW101 HB;have GE101:=GW101;obtain ⟨hcz3_0,hcz3_1,hfz3_0,hfz3_1⟩:=cz2 BK101)))
 go_loopg [8] k (fun kq v8 w'=>∃ (x8_1:Int),v8=.int .i64 x8_1∧Aside0 (F49.l0 kq l0_1 (l0_1.length:Int) x8_1 a0_0 l0_1=some r)∧Aside0 (kq≤k)∧Aside0 (w'.heap[gb101]?=some (sO a0_0 A0_1 l0_1 c0_1 26))∧Aside0 (Below w.heap.size w w'))
 case atStart=>exact ⟨(0),rs,H',⟨Nat.le_refl _⟩,⟨bk⟩,⟨bl⟩⟩
 case round =>
  clear H'
  obtain ⟨x8_1,rfl,HA,HK1,BK101,HB⟩:=hrel
  cases gk with
  | zero=>exact absurd HA.z (by simp [F49.l0])
  | succ k1 =>
   have H:=HA.z
   clear HA
   simp only [F49.l0] at H
   replace H:=iC H;obtain ⟨c4b0,H⟩|⟨c4b0,H⟩:=H
   case inl =>
    replace H:=bS H;obtain ⟨t102,A17,H⟩:=H
    cases t102
    case false =>
     replace H:=iF H
     obtain rfl:=Option.some.inj H
     obtain ⟨_,_,_,_⟩:=cz2 BK101
     go_wp2_with (first|(go_at_call 70;(with_reducible refine (F70.calls a0_0 1 8 false _ A17.z).mono ?_);rintro e w' ⟨rfl,⟨nd,rfl⟩⟩;(try exact dN)))
     repeat (go_quiet (first|(go_at_call 70;(with_reducible refine (F70.calls a0_0 1 8 false _ A17.z).mono ?_);rintro e w' ⟨rfl,⟨nd,rfl⟩⟩;(try exact dN)));try go_wp2_with (first|(go_at_call 70;(with_reducible refine (F70.calls a0_0 1 8 false _ A17.z).mono ?_);rintro e w' ⟨rfl,⟨nd,rfl⟩⟩;(try exact dN))))
     go_ret
     exact ⟨eR,bl⟩
    replace H:=iT H
    obtain rfl:=Option.some.inj H
    obtain ⟨_,_,_,_⟩:=cz2 BK101
    go_wp2_with (first|(go_at_call 70;(with_reducible refine (F70.calls a0_0 1 8 true _ A17.z).mono ?_);rintro e w' ⟨rfl,⟨nd,rfl⟩⟩;(try exact dN)))
    repeat (go_quiet (first|(go_at_call 70;(with_reducible refine (F70.calls a0_0 1 8 true _ A17.z).mono ?_);rintro e w' ⟨rfl,⟨nd,rfl⟩⟩;(try exact dN)));try go_wp2_with (first|(go_at_call 70;(with_reducible refine (F70.calls a0_0 1 8 true _ A17.z).mono ?_);rintro e w' ⟨rfl,⟨nd,rfl⟩⟩;(try exact dN))))
    go_ret
    exact ⟨eR,bl⟩
   replace H:=iS H;obtain ⟨c5,H⟩:=H
   have c5b0:=decide_eq_true c5
   clear c5
   replace H:=iS H;obtain ⟨c6,H⟩:=H
   have c6b0:=decide_eq_true c6
   clear c6
   replace H:=iE H;obtain ⟨c7,c7b0,c7b1,H⟩|⟨c7b0,c7b1,H⟩:=H
   case inl =>
    obtain rfl:=Option.some.inj H
    obtain ⟨p103,q103⟩:=iN x8_1 (l0_1.length:Int)
    obtain ⟨ad103,A103_0,c103_0,e103,hx103_0,hl103_0,hi103_0⟩:=at_L1 HR0_1.z x8_1 p103 q103
    cases e103
    replace hx103_0:=hbc HB hx103_0
    have HR103_0:=k0 hi103_0
    have HC103_0:=k0 hl103_0
    clear hi103_0 hl103_0
    replace p103:=eT p103
    replace q103:=eT q103
    go_wp2
    repeat (go_quiet (fail);try go_wp2)
    go_ret
    exact ⟨eR,bl⟩
   replace H:=iS H;obtain ⟨c8,H⟩:=H
   have c8b0:=decide_eq_true c8
   have c8b1:decide (0 < (rd_L1 l0_1 x8_1).length)=true:=decide_eq_true (by omega)
   clear c8
   replace H:=bS H;obtain ⟨t105,A9,H⟩:=H
   cases t105
   case false =>
    replace H:=iF H
    obtain rfl:=Option.some.inj H
    obtain ⟨p103,q103⟩:=iN x8_1 (l0_1.length:Int)
    obtain ⟨ad103,A103_0,c103_0,e103,hx103_0,hl103_0,hi103_0⟩:=at_L1 HR0_1.z x8_1 p103 q103
    cases e103
    replace hx103_0:=hbc HB hx103_0
    have HR103_0:=k0 hi103_0
    have HC103_0:=k0 hl103_0
    clear hi103_0 hl103_0
    replace p103:=eT p103
    replace q103:=eT q103
    have p104:0≤(0:Int):=(by omega)
    have q104:0 < ((rd_L1 l0_1 x8_1).length:Int):=oD
    obtain ⟨ad104,e104,hx104_0⟩:=Kd.at_int HR103_0.z 0 p104 q104
    cases e104
    have qi104:(0 < (rd_L1 l0_1 x8_1).length)=True:=eq_true (by omega)
    (try rw [show ((0:Int)).toNat=0 from rfl] at hx104_0)
    (try rw [Addr.add_zero'] at hx104_0)
    replace hx104_0:=hbc HB hx104_0
    replace p104:=eT p104
    replace q104:=eT q104
    obtain ⟨_,_,_,_⟩:=cz2 BK101
    go_wp2_with (first|(go_at_call 70;(with_reducible refine (F70.calls (rd (rd_L1 l0_1 x8_1) 0) 0 (wrap64 (a0_0 - 1)) false _ A9.z).mono ?_);rintro e w' ⟨rfl,⟨nd,rfl⟩⟩;(try exact dN)))
    repeat (go_quiet (first|(go_at_call 70;(with_reducible refine (F70.calls (rd (rd_L1 l0_1 x8_1) 0) 0 (wrap64 (a0_0 - 1)) false _ A9.z).mono ?_);rintro e w' ⟨rfl,⟨nd,rfl⟩⟩;(try exact dN)));try go_wp2_with (first|(go_at_call 70;(with_reducible refine (F70.calls (rd (rd_L1 l0_1 x8_1) 0) 0 (wrap64 (a0_0 - 1)) false _ A9.z).mono ?_);rintro e w' ⟨rfl,⟨nd,rfl⟩⟩;(try exact dN))))
    go_ret
    exact ⟨eR,bl⟩
   replace H:=iT H
   replace H:=iS H;obtain ⟨c11,H⟩:=H
   have c11b0:=decide_eq_true c11
   have c11b1:decide (1 < (rd_L1 l0_1 x8_1).length)=true:=decide_eq_true (by omega)
   clear c11
   replace H:=bS H;obtain ⟨t107,A12,H⟩:=H
   cases t107
   case false =>
    replace H:=iF H
    obtain rfl:=Option.some.inj H
    obtain ⟨p103,q103⟩:=iN x8_1 (l0_1.length:Int)
    obtain ⟨ad103,A103_0,c103_0,e103,hx103_0,hl103_0,hi103_0⟩:=at_L1 HR0_1.z x8_1 p103 q103
    cases e103
    replace hx103_0:=hbc HB hx103_0
    have HR103_0:=k0 hi103_0
    have HC103_0:=k0 hl103_0
    clear hi103_0 hl103_0
    replace p103:=eT p103
    replace q103:=eT q103
    have p104:0≤(0:Int):=(by omega)
    have q104:0 < ((rd_L1 l0_1 x8_1).length:Int):=oD
    obtain ⟨ad104,e104,hx104_0⟩:=Kd.at_int HR103_0.z 0 p104 q104
    cases e104
    have qi104:(0 < (rd_L1 l0_1 x8_1).length)=True:=eq_true (by omega)
    (try rw [show ((0:Int)).toNat=0 from rfl] at hx104_0)
    (try rw [Addr.add_zero'] at hx104_0)
    replace hx104_0:=hbc HB hx104_0
    replace p104:=eT p104
    replace q104:=eT q104
    obtain ⟨_,_,_,_⟩:=cz2 BK101
    have p106:0≤(1:Int):=(by omega)
    have q106:1 < ((rd_L1 l0_1 x8_1).length:Int):=oD
    obtain ⟨ad106,e106,hx106_0⟩:=Kd.at_int HR103_0.z 1 p106 q106
    obtain rfl:ad104=ad106:=(by injection e106)
    (try simp only [show (1:Int).toNat=1 from rfl,Nat.reduceMul,Nat.reduceEqDiff,Go.Addr.add,↓reduceIte] at hx106_0)
    have qi106:(1 < (rd_L1 l0_1 x8_1).length)=True:=eq_true (by omega)
    (try rw [show ((1:Int)).toNat=1 from rfl] at hx106_0)
    replace hx106_0:=hbc HB hx106_0
    replace p106:=eT p106
    replace q106:=eT q106
    go_wp2_with (first|(go_at_call 70;(with_reducible refine (F70.calls (rd (rd_L1 l0_1 x8_1) 0) 0 (wrap64 (a0_0 - 1)) true _ A9.z).mono ?_);rintro e w' ⟨rfl,⟨nd,rfl⟩⟩;(try exact dN))|(go_at_call 70;(with_reducible refine (F70.calls (rd (rd_L1 l0_1 x8_1) 1) 0 (wrap64 (a0_0 - 1)) false _ A12.z).mono ?_);rintro e w' ⟨rfl,⟨nd,rfl⟩⟩;(try exact dN)))
    repeat (go_quiet (first|(go_at_call 70;(with_reducible refine (F70.calls (rd (rd_L1 l0_1 x8_1) 0) 0 (wrap64 (a0_0 - 1)) true _ A9.z).mono ?_);rintro e w' ⟨rfl,⟨nd,rfl⟩⟩;(try exact dN))|(go_at_call 70;(with_reducible refine (F70.calls (rd (rd_L1 l0_1 x8_1) 1) 0 (wrap64 (a0_0 - 1)) false _ A12.z).mono ?_);rintro e w' ⟨rfl,⟨nd,rfl⟩⟩;(try exact dN)));try go_wp2_with (first|(go_at_call 70;(with_reducible refine (F70.calls (rd (rd_L1 l0_1 x8_1) 0) 0 (wrap64 (a0_0 - 1)) true _ A9.z).mono ?_);rintro e w' ⟨rfl,⟨nd,rfl⟩⟩;(try exact dN))|(go_at_call 70;(with_reducible refine (F70.calls (rd (rd_L1 l0_1 x8_1) 1) 0 (wrap64 (a0_0 - 1)) false _ A12.z).mono ?_);rintro e w' ⟨rfl,⟨nd,rfl⟩⟩;(try exact dN))))
    go_ret
    exact ⟨eR,bl⟩
   replace H:=iT H
   have H':=k0 H
   clear H
   obtain ⟨p103,q103⟩:=iN x8_1 (l0_1.length:Int)
   obtain ⟨ad103,A103_0,c103_0,e103,hx103_0,hl103_0,hi103_0⟩:=at_L1 HR0_1.z x8_1 p103 q103
   cases e103
   replace hx103_0:=hbc HB hx103_0
   have HR103_0:=k0 hi103_0
   have HC103_0:=k0 hl103_0
   clear hi103_0 hl103_0
   replace p103:=eT p103
   replace q103:=eT q103
   have p104:0≤(0:Int):=(by omega)
   have q104:0 < ((rd_L1 l0_1 x8_1).length:Int):=oD
   obtain ⟨ad104,e104,hx104_0⟩:=Kd.at_int HR103_0.z 0 p104 q104
   cases e104
   have qi104:(0 < (rd_L1 l0_1 x8_1).length)=True:=eq_true (by omega)
   (try rw [show ((0:Int)).toNat=0 from rfl] at hx104_0)
   (try rw [Addr.add_zero'] at hx104_0)
   replace hx104_0:=hbc HB hx104_0
   replace p104:=eT p104
   replace q104:=eT q104
   obtain ⟨_,_,_,_⟩:=cz2 BK101
   have p106:0≤(1:Int):=(by omega)
   have q106:1 < ((rd_L1 l0_1 x8_1).length:Int):=oD
   obtain ⟨ad106,e106,hx106_0⟩:=Kd.at_int HR103_0.z 1 p106 q106
   obtain rfl:ad104=ad106:=(by injection e106)
   (try simp only [show (1:Int).toNat=1 from rfl,Nat.reduceMul,Nat.reduceEqDiff,Go.Addr.add,↓reduceIte] at hx106_0)
   have qi106:(1 < (rd_L1 l0_1 x8_1).length)=True:=eq_true (by omega)
   (try rw [show ((1:Int)).toNat=1 from rfl] at hx106_0)
   replace hx106_0:=hbc HB hx106_0
   replace p106:=eT p106
   replace q106:=eT q106
   go_wp2_with (first|(go_at_call 70;(with_reducible refine (F70.calls (rd (rd_L1 l0_1 x8_1) 0) 0 (wrap64 (a0_0 - 1)) true _ A9.z).mono ?_);rintro e w' ⟨rfl,⟨nd,rfl⟩⟩;(try exact dN))|(go_at_call 70;(with_reducible refine (F70.calls (rd (rd_L1 l0_1 x8_1) 1) 0 (wrap64 (a0_0 - 1)) true _ A12.z).mono ?_);rintro e w' ⟨rfl,⟨nd,rfl⟩⟩;(try exact dN)))
   repeat (go_quiet (first|(go_at_call 70;(with_reducible refine (F70.calls (rd (rd_L1 l0_1 x8_1) 0) 0 (wrap64 (a0_0 - 1)) true _ A9.z).mono ?_);rintro e w' ⟨rfl,⟨nd,rfl⟩⟩;(try exact dN))|(go_at_call 70;(with_reducible refine (F70.calls (rd (rd_L1 l0_1 x8_1) 1) 0 (wrap64 (a0_0 - 1)) true _ A12.z).mono ?_);rintro e w' ⟨rfl,⟨nd,rfl⟩⟩;(try exact dN)));try go_wp2_with (first|(go_at_call 70;(with_reducible refine (F70.calls (rd (rd_L1 l0_1 x8_1) 0) 0 (wrap64 (a0_0 - 1)) true _ A9.z).mono ?_);rintro e w' ⟨rfl,⟨nd,rfl⟩⟩;(try exact dN))|(go_at_call 70;(with_reducible refine (F70.calls (rd (rd_L1 l0_1 x8_1) 1) 0 (wrap64 (a0_0 - 1)) true _ A12.z).mono ?_);rintro e w' ⟨rfl,⟨nd,rfl⟩⟩;(try exact dN))))
   go_roundg k1
   case measure=>have:=HK1.z;omega
   case rel=>exact ⟨(wrap64 (x8_1+1)),rs,H',⟨by have:=HK1.z;omega⟩,⟨bk⟩,⟨bl⟩⟩
-- NOT PRINTED: function 40 (impl_graphCode)
/-! ### F80: function 80 -/
def F80.f (a0:Int):Option (Bool):=(F70.f a0 1 12).bind fun t101=>(some t101)
theorem F80.calls (a0 : Int) (r : Bool) (w : World) (h : F80.f a0 = some r) :
  Calls Try.prog 80 #[.int .i64 a0] w fun e w'=>e=.returned (.bool r)∧Drawn0 w w':=by
 unfold F80.f at h
 have H:=h
 clear h
 replace H:=bS H;obtain ⟨t101,A2,H⟩:=H
 obtain rfl:=Option.some.inj H
 go_enter Try.func80,Try.ntmps80
 go_wp2_with (first|(refine gate_callee (f:=70) rfl ?_;refine gC (some 4) Try.func70 #[.int .i64 a0,.int .i64 1,.int .i64 12] ?_;(with_reducible refine (F70.calls a0 1 12 t101 _ A2.z).mono ?_);rintro e w' ⟨rfl,⟨nd,rfl⟩⟩;refine ⟨_,rfl,?_⟩))
 go_ret
 exact ⟨rs,dW⟩
/-! ### F79: function 79 -/
def F79.f (k:Nat) (a0_0:Int) (l0_1:List (List Int)) (a1:Int):Option Int :=
 (F49.f k a0_0 l0_1).bind fun b=>if b=true then ((F80.f a1).bind fun q0=>if q0=true then some 0 else some 2) else some 1
theorem F79.calls {b1 : Nat} (k : Nat) (a0_0 : Int) (A0_1 : Option Addr) (c0_1 : Nat) (l0_1 : List (List Int)) (a1 : Int) (r : Int) (w : World) (hr0_1 : Kd.C (Kd.slice 2 (Kd.int .i64)) w A0_1 l0_1.length l0_1) (hc0_1 : l0_1.length ≤ c0_1) (hb1 : w.heap[b1]? = some (.cells #[.int .i64 a1] 2 (0, 0))) (h : F79.f k a0_0 l0_1 a1 = some r) :
  Calls Try.prog 40 #[.agg #[.int .i64 a0_0,.slice A0_1 l0_1.length c0_1],.func (.func 79) #[] #[.pointer (some ⟨b1,0,none⟩)]] w fun e w'=>e=.returned (.int .i64 r)∧Below w.heap.size w w':=by
 have HR0:=k0 hr0_1
 clear hr0_1
 have BK1:=k0 hb1
 have BZ1:=blk_lt hb1
 clear hb1
 unfold F79.f at h
 obtain ⟨b,hb,h⟩:=Option.bind_eq_some_iff.mp h
 have HG:=fun W (hw:Below w.heap.size w W)=>F49.calls k a0_0 A0_1 c0_1 l0_1 b W (Kd.C_below HR0.z hw) hc0_1 hb
 have HG':=k0 HG
 clear HG hb
 cases b
 case' true =>
  simp only [if_true] at h
  obtain ⟨q0,hq0,h⟩:=Option.bind_eq_some_iff.mp h
  have HQ0:=fun W (hw:Below w.heap.size w W)=>F80.calls (a1) q0 W  hq0
  have HQ0':=k0 HQ0
  clear HQ0 hq0
  cases q0
  case' true =>
   simp only [if_true] at h
 all_goals
  simp only [Bool.false_eq_true,if_false,Option.some.injEq] at h
  subst h
  go_enter Try.func40,Try.ntmps40
  go_wp2_with (first|(go_at_call 49;refine (HG'.out _ (by repeat (first|exact Below.refl _ _|apply below_alloc|apply pw_below_drewN))).mono ?_;rintro e w1 ⟨rfl,hb1⟩;have HB1:=k0 (below_step (by repeat (first|exact Below.refl _ _|apply below_alloc|apply pw_below_drewN)) hb1:Below w.heap.size w w1);clear hb1;have hcz_w1_1_0:w1.cell? ⟨b1,0,none⟩=some (.int .i64 a1):=(blk_cell (blk_below BK1.z HB1.z) 0).trans rfl;have hfz_w1_1_0:=blk_frozen (blk_below BK1.z HB1.z) 0)|(go_at_call 80;refine (HQ0'.out _ (by repeat (first|exact HB1.z|apply below_alloc|apply pw_below_drewN))).mono ?_;rintro e w_ ⟨rfl,⟨nd_,rfl⟩⟩)|go_in)
  go_ret
  exact ⟨rs,by repeat (first|exact HB1.z|apply below_alloc|apply pw_below_drewN|apply below_drew1)⟩
/-! ### F86: function 86 -/
def F86.l0 : Nat → Int → Int → Int → Option (Int)
 | 0,_,_,_=>none
 | k+1,x0,x3,x4=>if x4≤x0 then (if x4=0 then (none) else (if (Int.tmod x0 x4)=0 then (if (Int.tmod (wrap64 (Int.tdiv x0 x4)) x4)=0 then (some 0) else (F86.l0 k (wrap64 (Int.tdiv x0 x4)) (wrap64 (-x3)) (wrap64 (x4+1)))) else (F86.l0 k x0 x3 (wrap64 (x4+1))))) else (some x3)
def F86.f (k:Nat) (a0:Int):Option (Int):=F86.l0 k a0 1 2
theorem F86.calls (k : Nat) (a0 : Int) (r : Int) (w : World) (h : F86.f k a0 = some r) :
  Calls Try.prog 86 #[.int .i64 a0] w fun e w'=>e=.returned (.int .i64 r)∧Drawn0 w w':=by
 unfold F86.f at h
 have H:=h
 clear h
 have H':=k0 H
 clear H
 go_enter Try.func86,Try.ntmps86
 go_wp2
 go_loopg [0,3,4] k (fun kq v0 v3 v4 w'=>∃ (x0_1:Int) (x3_1:Int) (x4_1:Int),v0=.int .i64 x0_1∧v3=.int .i64 x3_1∧v4=.int .i64 x4_1∧Aside0 (F86.l0 kq x0_1 x3_1 x4_1=some r)∧Aside0 (kq≤k)∧Drawn0 w w')
 case atStart=>exact ⟨(a0),(1),(2),rs,rs,rs,H',⟨Nat.le_refl _⟩,dW⟩
 case round =>
  clear H'
  obtain ⟨x0_1,x3_1,x4_1,rfl,rfl,rfl,HA,HK1,⟨m1,rfl⟩⟩:=hrel
  cases gk with
  | zero=>exact absurd HA.z (by simp [F86.l0])
  | succ k1 =>
   have H:=HA.z
   clear HA
   simp only [F86.l0] at H
   replace H:=iC H;obtain ⟨c2b0,H⟩|⟨c2b0,H⟩:=H
   case inl =>
    obtain rfl:=Option.some.inj H
    go_wp2
    go_ret
    exact ⟨rs,dW⟩
   by_cases c3:x4_1=0
   case neg =>
    rw [if_neg c3] at H
    have c3b0:=beq_eq_false_iff_ne.mpr c3
    have c3b1:=bne_iff_ne.mpr c3
    replace H:=iE H;obtain ⟨c4,c4b0,c4b1,H⟩|⟨c4b0,c4b1,H⟩:=H
    case inl =>
     have H':=k0 H
     clear H
     go_wp2
     go_roundg k1
     case measure=>have:=HK1.z;omega
     case rel=>exact ⟨(x0_1),(x3_1),(wrap64 (x4_1+1)),rs,rs,rs,H',⟨by have:=HK1.z;omega⟩,dW⟩
    replace H:=iE H;obtain ⟨c5,c5b0,c5b1,H⟩|⟨c5b0,c5b1,H⟩:=H
    case inl =>
     have H':=k0 H
     clear H
     go_wp2
     go_roundg k1
     case measure=>have:=HK1.z;omega
     case rel=>exact ⟨(wrap64 (Int.tdiv x0_1 x4_1)),(wrap64 (-x3_1)),(wrap64 (x4_1+1)),rs,rs,rs,H',⟨by have:=HK1.z;omega⟩,dW⟩
    obtain rfl:=Option.some.inj H
    go_wp2
    go_ret
    exact ⟨rs,dW⟩
   rw [if_pos c3] at H
   exact absurd H (by simp)
end Go.Proofs.Ytgjdbnipcpmhiaa.P
/- Set with little white space, by a program. -/
