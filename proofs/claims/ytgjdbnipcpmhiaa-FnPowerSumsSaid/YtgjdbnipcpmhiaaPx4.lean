/- Go's calls come to what the Lean functions say. Condition of each: that the Lean function answers. -/
import Derived.Test.YtgjdbnipcpmhiaaPx0
import Derived.Test.YtgjdbnipcpmhiaaPx1
import Derived.Test.YtgjdbnipcpmhiaaPx2
namespace Go.Proofs.Ytgjdbnipcpmhiaa.P
open Go.RowKit Go.Proofs.YtgjdbnipcpmhiaaW.PrintWords Go.Proofs.YtgjdbnipcpmhiaaW.PrintLast Go.Proofs.YtgjdbnipcpmhiaaW.PrintMore
attribute [local go_sem] max2_int min2_int max_two min_two max_three min_three max_four min_four
set_option linter.unusedVariables false
set_option linter.unusedSimpArgs false
set_option maxHeartbeats 8000000
set_option maxRecDepth 100000
/-! ### F67: function 67 -/
def F67.f (s0_0:List Int) (s0_1:Int) (s0_2:Int) (l1:List Int):Option (Int × Int × Int):=(F60.f s0_0 s0_1 s0_2 (l1.length:Int)).bind fun bt101=>(if 0≤bt101.1 then (if bt101.1 < (l1.length:Int) then (some (rd l1 bt101.1,bt101.2.1,bt101.2.2)) else (none)) else (none))
theorem F67.calls (g : Nat) (s0_0 : List Int) (s0_1 : Int) (s0_2 : Int) (A1 : Option Addr) (c1 : Nat) (l1 : List Int) (r1 : Int) (r2 : Int) (r3 : Int) (w0 w : World) (hI : IsS89 w0 w g s0_0 s0_1 s0_2) (hB : Below w0.heap.size w0 w) (hr1 : Kd.C (Kd.int .i64) w A1 l1.length l1) (hc1 : l1.length ≤ c1) (hf1 : ∀ ad, A1 = some ad → 0 < l1.length → ad.block ≠ g) (h : F67.f s0_0 s0_1 s0_2 l1 = some (r1, r2, r3)) :
  Calls Try.prog 67 #[.pointer (some ⟨g,0,none⟩),.slice A1 l1.length c1] w fun e w'=>e=.returned (.int .i64 r1)∧IsS89 w0 w' g s0_0 r2 r3∧Below w0.heap.size w0 w'∧KeepBut w w' g none:=by
 have HR1:=k0 hr1
 have HC1:=k0 hc1
 clear hr1 hc1
 have HI0:=k0 hI
 have HK:=k0 (KeepBut.refl w g none)
 have HL:=k0 hB.size
 clear hI
 have HW0:=k0 hB.size
 have HB:=k0 hB
 clear hB
 unfold F67.f at h
 have H:=h
 clear h
 replace H:=bS H;obtain ⟨⟨t101,t102,t103⟩,A3,H⟩:=H
 dsimp only at H
 replace H:=iS H;obtain ⟨c4,H⟩:=H
 have c4b0:=decide_eq_true c4
 clear c4
 replace H:=iS H;obtain ⟨c5,H⟩:=H
 have c5b0:=decide_eq_true c5
 clear c5
 simp only [Option.some.injEq,Prod.mk.injEq] at H
 obtain ⟨rfl,rfl,rfl⟩:=H
 go_enter Try.func67,Try.ntmps67
 go_wp2_with (first|(refine gate_callee (f:=60) rfl ?_;refine gC (some 9) Try.func60 #[.pointer (some ⟨g,0,none⟩),.int .i64 (l1.length:Int)] ?_;(with_reducible refine (F60.calls g s0_0 s0_1 s0_2 (l1.length:Int) t101 t102 t103 w0 _ ?side1 ?side2 A3.z).mono ?_);(case side1=>exact aIsS89 HI0.z);(case side2=>exact aG (IsS89.ge HI0.z) HB.z);rintro e w6 ⟨rfl,hi,hb,hk⟩;refine ⟨_,rfl,?_⟩;replace HK:=zKc HK hk;replace HB:=k0 hb;replace HI0:=k0 hi;obtain ⟨p104,q104⟩:=iN t101 (l1.length:Int);obtain ⟨ad104,e104,hx104_0⟩:=Kd.at_int HR1.z t101 p104 q104;cases e104;replace hx104_0:=keep_cell HK.z hx104_0 (by first|(rw [add_block];exact hf1 _ rfl (by omega))|exact hf1 _ rfl (by omega)|exact hf1 ad104 rfl (by omega));replace p104:=eT p104;replace q104:=eT q104))
 go_ret
 exact ⟨eR,aIsS89 HI0.z,aG (IsS89.ge HI0.z) HB.z,aK HK.z⟩
/-! ### F103: function 103 -/
def F103.l0 : Nat → List Int → Int → Int → List Int → Int → Int → Option (List Int × Int × Int)
 | 0,_,_,_,_,_,_=>none
 | k+1,x5,x6,x7,x1000,x1001,x1002=>if x7 > 0 then ((F60.f x1000 x1001 x1002 (wrap64 ((wrap64 (2 * x6))+1))).bind fun bt113=>((F67.f x1000 bt113.2.1 bt113.2.2 (([0,1,1]:List Int))).bind fun bt119=>(if x5.length < 17592186044416 then (F103.l0 k (x5 ++ [wrap64 ((wrap64 (bt113.1 - x6)) * bt119.1)]) x6 (wrap64 (x7 - 1)) x1000 bt119.2.1 bt119.2.2) else (none)))) else ((F90.f k x5).bind fun t125=>(some (t125,x1001,x1002)))
def F103.f (k:Nat) (s0_0:List Int) (s0_1:Int) (s0_2:Int) (a1:Int):Option (List Int × Int × Int):=(F67.f s0_0 s0_1 s0_2 (([1,3,9,100,1000000]:List Int))).bind fun bt107=>((F60.f s0_0 bt107.2.1 bt107.2.2 (wrap64 (a1+1))).bind fun bt110=>(F103.l0 k (([]:List Int)) bt107.1 bt110.1 s0_0 bt110.2.1 bt110.2.2))
theorem F103.calls (k : Nat) (g : Nat) (s0_0 : List Int) (s0_1 : Int) (s0_2 : Int) (a1 : Int) (r1 : List Int) (r2 : Int) (r3 : Int) (w0 w : World) (hI : IsS89 w0 w g s0_0 s0_1 s0_2) (hB : Below w0.heap.size w0 w) (h : F103.f k s0_0 s0_1 s0_2 a1 = some (r1, r2, r3)) :
  Calls Try.prog 103 #[.pointer (some ⟨g,0,none⟩),.int .i64 a1] w fun e w'=>∃ v0_:Value,e=.returned (v0_)∧Kd.R (Kd.int .i64) 2 w' w.heap.size (fun _=>True) v0_ r1∧IsS89 w0 w' g s0_0 r2 r3∧Below w0.heap.size w0 w'∧KeepBut w w' g none:=by
 have HI0:=k0 hI
 have HK:=k0 (KeepBut.refl w g none)
 have HL:=k0 hB.size
 clear hI
 have HW0:=k0 hB.size
 have HB:=k0 hB
 clear hB
 unfold F103.f at h
 have H:=h
 clear h
 obtain ⟨y101,Ny101⟩:=nY (([]:List Int):List Int)
 replace H:((F67.f s0_0 s0_1 s0_2 (([1,3,9,100,1000000]:List Int))).bind fun bt107=>((F60.f s0_0 bt107.2.1 bt107.2.2 (wrap64 (a1+1))).bind fun bt110=>(F103.l0 k y101 bt107.1 bt110.1 s0_0 bt110.2.1 bt110.2.2)))=some (r1,r2,r3):=rH Ny101.z H
 obtain ⟨y104,Ny104⟩:=nY (([1,3,9,100,1000000]:List Int):List Int)
 replace H:((F67.f s0_0 s0_1 s0_2 y104).bind fun bt107=>((F60.f s0_0 bt107.2.1 bt107.2.2 (wrap64 (a1+1))).bind fun bt110=>(F103.l0 k y101 bt107.1 bt110.1 s0_0 bt110.2.1 bt110.2.2)))=some (r1,r2,r3):=rH Ny104.z H
 replace H:=bS H;obtain ⟨⟨t107,t108,t109⟩,A3,H⟩:=H
 dsimp only at H
 replace H:=bS H;obtain ⟨⟨t110,t111,t112⟩,A4,H⟩:=H
 dsimp only at H
 have H':=k0 H
 clear H
 go_enter Try.func103,Try.ntmps103
 go_wp2_with (first|(refine gate_dst (N:=8) rfl ?_;refine zRt 2 (N:=8) (xs:=([]:List Int)) (inner:=[]) (Reps.none _ _) ?_;intro v102 w5 ho6 hb hg_ hnew_;clear hg_ hnew_;(first|rw [← Ny101.z] at ho6|(simp only [Int.reduceToNat] at ho6;rw [← Ny101.z] at ho6));have HO103:=k0 (Kd.R_lower ho6 (keep_size (aK HK.z)));replace HK:=zKd HK hb;replace HB:=k0 (below_step (aG (IsS89.ge HI0.z) HB.z) hb);replace HI0:=k0 (IsS89.below (aIsS89 HI0.z) hb);clear hb ho6)|(refine gate_dst (N:=10) rfl ?_;refine zRt 2 (N:=10) (xs:=([1,3,9,100,1000000]:List Int)) (inner:=[.int .i64 1,.int .i64 3,.int .i64 9,.int .i64 100,.int .i64 1000000]) (Reps.one (show Kd.M (Kd.int .i64) _ _ _ 1 [.int .i64 1] from rfl) (Reps.one (show Kd.M (Kd.int .i64) _ _ _ 3 [.int .i64 3] from rfl) (Reps.one (show Kd.M (Kd.int .i64) _ _ _ 9 [.int .i64 9] from rfl) (Reps.one (show Kd.M (Kd.int .i64) _ _ _ 100 [.int .i64 100] from rfl) (Reps.one (show Kd.M (Kd.int .i64) _ _ _ 1000000 [.int .i64 1000000] from rfl) (Reps.none _ _)))))) ?_;intro v105 w7 ho8 hb hg_ hnew_;clear hg_ hnew_;(first|rw [← Ny104.z] at ho8|(simp only [Int.reduceToNat] at ho8;rw [← Ny104.z] at ho8));have HO106:=k0 (Kd.R_lower (Kd.R_new' ho8 (Kd.R_lt (aR HO103.z))) (keep_size (aK HK.z)));replace HO103:=elR HO103 (Kd.R_base ho8) hb;replace HK:=zKd HK hb;replace HB:=k0 (below_step (aG (IsS89.ge HI0.z) HB.z) hb);replace HI0:=k0 (IsS89.below (aIsS89 HI0.z) hb);clear hb ho8;obtain ⟨Ao9,co9,rfl⟩:=Kd.R_slice HO106.z)|(refine gate_callee (f:=67) rfl ?_;refine gC (some 11) Try.func67 #[.pointer (some ⟨g,0,none⟩),.slice Ao9 y104.length co9] ?_;(with_reducible refine (F67.calls g s0_0 s0_1 s0_2 _ _ y104 t107 t108 t109 w0 _ ?side1 ?side2 ?side3 ?side4 ?side5 A3.z).mono ?_);(case side1=>exact aIsS89 HI0.z);(case side2=>exact aG (IsS89.ge HI0.z) HB.z);(case side3=>exact aC ((Kd.R_reads' HO106.z).2.2));(case side4=>exact (Kd.R_reads' HO106.z).2.1);(case side5=>exact far_slice (IsS89.own_ne HI0.z HO106.z (by decide)));rintro e w10 ⟨rfl,hi,hb,hk⟩;refine ⟨_,rfl,?_⟩;replace HO103:=k0 (Kd.R_mono (Kd.R_keep (IsS89.apart (show IsS89 w0 _ g s0_0 s0_1 s0_2 from aIsS89 HI0.z) (aR HO103.z) (by decide)) hk (fun _ h=>h.2)) (fun _ h=>h.1));replace HO106:=k0 (Kd.R_mono (Kd.R_keep (IsS89.apart (show IsS89 w0 _ g s0_0 s0_1 s0_2 from aIsS89 HI0.z) (aR HO106.z) (by decide)) hk (fun _ h=>h.2)) (fun _ h=>h.1));replace HK:=zKc HK hk;replace HB:=k0 hb;replace HI0:=k0 hi)|(refine gate_callee (f:=60) rfl ?_;refine gC (some 15) Try.func60 #[.pointer (some ⟨g,0,none⟩),.int .i64 (wrap64 (a1+1))] ?_;(with_reducible refine (F60.calls g s0_0 t108 t109 (wrap64 (a1+1)) t110 t111 t112 w0 _ ?side1 ?side2 A4.z).mono ?_);(case side1=>exact aIsS89 HI0.z);(case side2=>exact aG (IsS89.ge HI0.z) HB.z);rintro e w11 ⟨rfl,hi,hb,hk⟩;refine ⟨_,rfl,?_⟩;replace HO103:=k0 (Kd.R_mono (Kd.R_keep (IsS89.apart (show IsS89 w0 _ g s0_0 t108 t109 from aIsS89 HI0.z) (aR HO103.z) (by decide)) hk (fun _ h=>h.2)) (fun _ h=>h.1));replace HO106:=k0 (Kd.R_mono (Kd.R_keep (IsS89.apart (show IsS89 w0 _ g s0_0 t108 t109 from aIsS89 HI0.z) (aR HO106.z) (by decide)) hk (fun _ h=>h.2)) (fun _ h=>h.1));replace HK:=zKc HK hk;replace HB:=k0 hb;replace HI0:=k0 hi))
 go_loopg [5,7] k (fun kq v5 v7 w'=>∃ (x5_1:List Int) (x7_1:Int) (x1001_1:Int) (x1002_1:Int),v7=.int .i64 x7_1∧Aside0 (F103.l0 kq x5_1 t107 x7_1 s0_0 x1001_1 x1002_1=some (r1,r2,r3))∧Aside0 (kq≤k)∧Aside0 (Kd.R (Kd.int .i64) 2 w' w.heap.size (fun _=>True) v5 x5_1)∧Aside0 (IsS89 w0 w' g s0_0 x1001_1 x1002_1)∧Aside0 (KeepBut w w' g none)∧Aside0 (Below w0.heap.size w0 w'))
 case atStart=>exact ⟨(y101),(t110),(t111),(t112),rs,H',⟨Nat.le_refl _⟩,⟨aR (Kd.R_mono HO103.z (fun _ hk=>trivial))⟩,⟨aIsS89 HI0.z⟩,⟨aK HK.z⟩,⟨aG (IsS89.ge HI0.z) HB.z⟩⟩
 case round =>
  clear H'
  obtain ⟨x5_1,x7_1,x1001_1,x1002_1,rfl,HA,HK1,HO_5,HI0,HK,HB⟩:=hrel
  cases gk with
  | zero=>exact absurd HA.z (by simp [F103.l0])
  | succ k1 =>
   have H:=HA.z
   clear HA
   simp only [F103.l0] at H
   replace H:=iC H;obtain ⟨c12b0,H⟩|⟨c12b0,H⟩:=H
   case inl =>
    replace H:=bS H;obtain ⟨t125,A22,H⟩:=H
    simp only [Option.some.injEq,Prod.mk.injEq] at H
    obtain ⟨rfl,rfl,rfl⟩:=H
    obtain ⟨Ao23,co23,rfl⟩:=Kd.R_slice HO_5.z
    go_wp2_with (first|(refine gate_callee (f:=90) rfl ?_;refine gC (some 35) Try.func90 #[.slice Ao23 x5_1.length co23] ?_;(with_reducible refine (F90.calls k1 _ _ x5_1 t125 _ ?side1 ?side2 A22.z).mono ?_);(case side1=>exact aC ((Kd.R_reads' HO_5.z).2.2));(case side2=>exact (Kd.R_reads' HO_5.z).2.1);rintro e w24 ⟨v126,rfl,ho0,hb⟩;refine ⟨_,rfl,?_⟩;have HO127:=k0 (Kd.R_lower (Kd.R_new' ho0 (Kd.R_lt (aR HO_5.z))) (keep_size (aK HK.z)));replace HO_5:=elR HO_5 (Kd.R_base ho0) hb;replace HK:=zKd HK hb;replace HB:=k0 (below_step (aG (IsS89.ge HI0.z) HB.z) hb);replace HI0:=k0 (IsS89.below (aIsS89 HI0.z) hb)))
    go_ret
    exact ⟨_,eR,aR (Kd.R_mono HO127.z (fun _ hk=>trivial)),aIsS89 HI0.z,aG (IsS89.ge HI0.z) HB.z,aK HK.z⟩
   replace H:=bS H;obtain ⟨⟨t113,t114,t115⟩,A13,H⟩:=H
   dsimp only at H
   obtain ⟨y116,Ny116⟩:=nY (([0,1,1]:List Int):List Int)
   replace H:((F67.f s0_0 t114 t115 y116).bind fun bt119=>(if x5_1.length < 17592186044416 then (F103.l0 k1 (x5_1 ++ [wrap64 ((wrap64 (t113 - t107)) * bt119.1)]) t107 (wrap64 (x7_1 - 1)) s0_0 bt119.2.1 bt119.2.2) else (none)))=some (r1,r2,r3):=rH Ny116.z H
   replace H:=bS H;obtain ⟨⟨t119,t120,t121⟩,A14,H⟩:=H
   dsimp only at H
   replace H:=iS H;obtain ⟨c15,H⟩:=H
   have LMc15:=k0 c15
   clear c15
   obtain ⟨y122,Ny122⟩:=nY (x5_1 ++ [wrap64 ((wrap64 (t113 - t107)) * t119)]:List Int)
   replace H:(F103.l0 k1 y122 t107 (wrap64 (x7_1 - 1)) s0_0 t120 t121)=some (r1,r2,r3):=rH Ny122.z H
   have H':=k0 H
   clear H
   go_wp2_with (first|(refine gate_callee (f:=60) rfl ?_;refine gC (some 25) Try.func60 #[.pointer (some ⟨g,0,none⟩),.int .i64 (wrap64 ((wrap64 (2 * t107))+1))] ?_;(with_reducible refine (F60.calls g s0_0 x1001_1 x1002_1 (wrap64 ((wrap64 (2 * t107))+1)) t113 t114 t115 w0 _ ?side1 ?side2 A13.z).mono ?_);(case side1=>exact aIsS89 HI0.z);(case side2=>exact aG (IsS89.ge HI0.z) HB.z);rintro e w16 ⟨rfl,hi,hb,hk⟩;refine ⟨_,rfl,?_⟩;replace HO_5:=k0 (Kd.R_mono (Kd.R_keep (IsS89.apart (show IsS89 w0 _ g s0_0 x1001_1 x1002_1 from aIsS89 HI0.z) (aR HO_5.z) (by decide)) hk (fun _ h=>h.2)) (fun _ h=>h.1));replace HK:=zKc HK hk;replace HB:=k0 hb;replace HI0:=k0 hi)|(refine gate_dst (N:=29) rfl ?_;refine zRt 2 (N:=29) (xs:=([0,1,1]:List Int)) (inner:=[.int .i64 0,.int .i64 1,.int .i64 1]) (Reps.one (show Kd.M (Kd.int .i64) _ _ _ 0 [.int .i64 0] from rfl) (Reps.one (show Kd.M (Kd.int .i64) _ _ _ 1 [.int .i64 1] from rfl) (Reps.one (show Kd.M (Kd.int .i64) _ _ _ 1 [.int .i64 1] from rfl) (Reps.none _ _)))) ?_;intro v117 w17 ho18 hb hg_ hnew_;clear hg_ hnew_;(first|rw [← Ny116.z] at ho18|(simp only [Int.reduceToNat] at ho18;rw [← Ny116.z] at ho18));have HO118:=k0 (Kd.R_lower (Kd.R_new' ho18 (Kd.R_lt (aR HO_5.z))) (keep_size (aK HK.z)));replace HO_5:=elR HO_5 (Kd.R_base ho18) hb;replace HK:=zKd HK hb;replace HB:=k0 (below_step (aG (IsS89.ge HI0.z) HB.z) hb);replace HI0:=k0 (IsS89.below (aIsS89 HI0.z) hb);clear hb ho18;obtain ⟨Ao19,co19,rfl⟩:=Kd.R_slice HO118.z)|(refine gate_callee (f:=67) rfl ?_;refine gC (some 30) Try.func67 #[.pointer (some ⟨g,0,none⟩),.slice Ao19 y116.length co19] ?_;(with_reducible refine (F67.calls g s0_0 t114 t115 _ _ y116 t119 t120 t121 w0 _ ?side1 ?side2 ?side3 ?side4 ?side5 A14.z).mono ?_);(case side1=>exact aIsS89 HI0.z);(case side2=>exact aG (IsS89.ge HI0.z) HB.z);(case side3=>exact aC ((Kd.R_reads' HO118.z).2.2));(case side4=>exact (Kd.R_reads' HO118.z).2.1);(case side5=>exact far_slice (IsS89.own_ne HI0.z HO118.z (by decide)));rintro e w20 ⟨rfl,hi,hb,hk⟩;refine ⟨_,rfl,?_⟩;replace HO_5:=k0 (Kd.R_mono (Kd.R_keep (IsS89.apart (show IsS89 w0 _ g s0_0 t114 t115 from aIsS89 HI0.z) (aR HO_5.z) (by decide)) hk (fun _ h=>h.2)) (fun _ h=>h.1));replace HO118:=k0 (Kd.R_mono (Kd.R_keep (IsS89.apart (show IsS89 w0 _ g s0_0 t114 t115 from aIsS89 HI0.z) (aR HO118.z) (by decide)) hk (fun _ h=>h.2)) (fun _ h=>h.1));replace HK:=zKc HK hk;replace HB:=k0 hb;replace HI0:=k0 hi)|((with_reducible refine gate_builtin (b:=.append) (xs:=#[.tmp 20,.tmp 32]) rfl ?_);at_builtin;refine Kd.R_append (Kd.int .i64) w.heap.size rfl (.tmp 20) (.tmp 32) 27 2 (.int .i64 0) 8 rfl Try.underlying27 info2 rfl (by decide) (by omega) u5 x5_1 (wrap64 ((wrap64 (t113 - t107)) * t119)) [.int .i64 (wrap64 ((wrap64 (t113 - t107)) * t119))] (fun k_=>some k_ ≠ (.slice Ao19 y116.length co19:Value).ownBlock) (fun _=>False) rfl rfl ?aP (fun _ hk=>hk.elim) ?aF ?aO (Below.refl _ _) ?aS ?aL ?_;(case aP=>exact rfl);(case aF=>exact (fun k_ hk=>Kd.fresh' (Kd.R_lt (aR HO118.z)) k_ hk));(case aO=>exact (aR (Kd.R_mono HO_5.z (fun _ hk=>hk.2))));(case aS=>exact (keep_size (aK HK.z)));(case aL=>have:=LMc15.out;omega);intro v123 w21 ho hb hg hat;rw [← Ny122.z] at ho;replace HO118:=k0 (Kd.R_after (ok:=(fun _=>True)) (aR HO118.z) hg hat);replace HB:=k0 (below_weaken (aG (IsS89.ge HI0.z) HB.z) HL.z hb);replace HI0:=k0 (IsS89.grown (aIsS89 HI0.z) hg (IsS89.own_ne HI0.z HO_5.z (by decide)));replace HK:=k0 (KeepBut.trans (aK HK.z) (KeepBut.of_grown hg g) (Kd.R_base2 HO_5.z));have HO124:=k0 ho;clear HO_5;clear ho hb hg hat))
   go_roundg k1
   case measure=>have:=HK1.z;omega
   case rel=>exact ⟨(y122),(wrap64 (x7_1 - 1)),(t120),(t121),rs,H',⟨by have:=HK1.z;omega⟩,⟨aR (Kd.R_mono HO124.z (fun _ hk=>trivial))⟩,⟨aIsS89 HI0.z⟩,⟨aK HK.z⟩,⟨aG (IsS89.ge HI0.z) HB.z⟩⟩
/-! ### F101: function 101 -/
def F101.f (a0_0:Int) (l0_1:List (List Int)) (a1:Int):Option (Int × Int):=if 0≤(wrap64 (Int.tdiv a1 2)) then (if (wrap64 (Int.tdiv a1 2)) < (l0_1.length:Int) then (if (Int.tmod a1 2)=1 then (if 1 < ((rd_L1 l0_1 (wrap64 (Int.tdiv a1 2))).length:Int) then (if 0 < ((rd_L1 l0_1 (wrap64 (Int.tdiv a1 2))).length:Int) then (some (rd (rd_L1 l0_1 (wrap64 (Int.tdiv a1 2))) 1,rd (rd_L1 l0_1 (wrap64 (Int.tdiv a1 2))) 0)) else (none)) else (none)) else (if 0 < ((rd_L1 l0_1 (wrap64 (Int.tdiv a1 2))).length:Int) then (if 1 < ((rd_L1 l0_1 (wrap64 (Int.tdiv a1 2))).length:Int) then (some (rd (rd_L1 l0_1 (wrap64 (Int.tdiv a1 2))) 0,rd (rd_L1 l0_1 (wrap64 (Int.tdiv a1 2))) 1)) else (none)) else (none))) else (none)) else (none)
theorem F101.calls (a0_0 : Int) (A0_1 : Option Addr) (c0_1 : Nat) (l0_1 : List (List Int)) (a1 : Int) (r1 : Int) (r2 : Int) (w : World) (hr0_1 : Kd.C (Kd.slice 2 (Kd.int .i64)) w A0_1 l0_1.length l0_1) (hc0_1 : l0_1.length ≤ c0_1) (h : F101.f a0_0 l0_1 a1 = some (r1, r2)) :
  Calls Try.prog 101 #[.agg #[.int .i64 a0_0,.slice A0_1 l0_1.length c0_1],.int .i64 a1] w fun e w'=>e=.returned (.tuple #[.int .i64 r1,.int .i64 r2])∧Below w.heap.size w w':=by
 have hu26:=Try.underlying26
 have HR0_1:=k0 hr0_1
 have HC0_1:=k0 hc0_1
 clear hr0_1 hc0_1
 have HB:=k0 (Below.refl w.heap.size w)
 unfold F101.f at h
 have H:=h
 clear h
 obtain ⟨ji3,hji3⟩:∃ j_:Int,(wrap64 (Int.tdiv a1 2))=j_:=⟨_,rfl⟩
 replace H:(if 0≤(ji3) then (if (ji3) < (l0_1.length:Int) then (if (Int.tmod a1 2)=1 then (if 1 < ((rd_L1 l0_1 (ji3)).length:Int) then (if 0 < ((rd_L1 l0_1 (ji3)).length:Int) then (some (rd (rd_L1 l0_1 (ji3)) 1,rd (rd_L1 l0_1 (ji3)) 0)) else (none)) else (none)) else (if 0 < ((rd_L1 l0_1 (ji3)).length:Int) then (if 1 < ((rd_L1 l0_1 (ji3)).length:Int) then (some (rd (rd_L1 l0_1 (ji3)) 0,rd (rd_L1 l0_1 (ji3)) 1)) else (none)) else (none))) else (none)) else (none))=some (r1,r2):=by first|(rw [hji3] at H;exact H)|(simp only [hji3] at H ⊢;exact H)
 have hji3w:(IntKind.i64.wrap (Int.tdiv a1 2))=ji3:=(i64_w _).trans hji3
 replace H:=iS H;obtain ⟨c4,H⟩:=H
 have c4b0:=decide_eq_true c4
 clear c4
 replace H:=iS H;obtain ⟨c5,H⟩:=H
 have c5b0:=decide_eq_true c5
 clear c5
 replace H:=iE H;obtain ⟨c6,c6b0,c6b1,H⟩|⟨c6b0,c6b1,H⟩:=H
 case inl =>
  replace H:=iS H;obtain ⟨c11,H⟩:=H
  have c11b0:=decide_eq_true c11
  have c11b1:decide (0 < (rd_L1 l0_1 (ji3)).length)=true:=decide_eq_true (by omega)
  clear c11
  replace H:=iS H;obtain ⟨c12,H⟩:=H
  have c12b0:=decide_eq_true c12
  have c12b1:decide (1 < (rd_L1 l0_1 (ji3)).length)=true:=decide_eq_true (by omega)
  clear c12
  obtain ⟨rfl,rfl⟩:=zSo H
  go_enter Try.func101,Try.ntmps101
  go_wp2_with (first|(refine gate_dst (N:=2) rfl ?_;refine bxz 2 #[.int .i64 a0_0,.slice A0_1 l0_1.length c0_1] 26 bl ?_;intro gb101 w13 BK101 GW101 HB;have GE101:=GW101;obtain ⟨hcz14_0,hcz14_1,hfz14_0,hfz14_1⟩:=cz2 BK101;have p102:0≤((ji3):Int):=oD;have q102:(ji3) < (l0_1.length:Int):=oD;obtain ⟨ad102,A102_0,c102_0,e102,hx102_0,hl102_0,hi102_0⟩:=at_L1 HR0_1.z (ji3) p102 q102;cases e102;replace hx102_0:=hbc HB hx102_0;have HR102_0:=k0 hi102_0;have HC102_0:=k0 hl102_0;clear hi102_0 hl102_0;replace p102:=eT p102;replace q102:=eT q102;have p105:0≤(0:Int):=(by omega);have q105:0 < ((rd_L1 l0_1 (ji3)).length:Int):=oD;obtain ⟨ad105,e105,hx105_0⟩:=Kd.at_int HR102_0.z 0 p105 q105;cases e105;have qi105:(0 < (rd_L1 l0_1 (ji3)).length)=True:=eq_true (by omega);(try rw [show ((0:Int)).toNat=0 from rfl] at hx105_0);(try rw [Addr.add_zero'] at hx105_0);replace hx105_0:=hbc HB hx105_0;replace p105:=eT p105;replace q105:=eT q105;have p106:0≤(1:Int):=(by omega);have q106:1 < ((rd_L1 l0_1 (ji3)).length:Int):=oD;obtain ⟨ad106,e106,hx106_0⟩:=Kd.at_int HR102_0.z 1 p106 q106;obtain rfl:ad105=ad106:=(by injection e106);(try simp only [show (1:Int).toNat=1 from rfl,Nat.reduceMul,Nat.reduceEqDiff,Go.Addr.add,↓reduceIte] at hx106_0);have qi106:(1 < (rd_L1 l0_1 (ji3)).length)=True:=eq_true (by omega);(try rw [show ((1:Int)).toNat=1 from rfl] at hx106_0);replace hx106_0:=hbc HB hx106_0;replace p106:=eT p106;replace q106:=eT q106))
  repeat (go_quiet (first|(refine gate_dst (N:=2) rfl ?_;refine bxz 2 #[.int .i64 a0_0,.slice A0_1 l0_1.length c0_1] 26 bl ?_;intro gb101 w13 BK101 GW101 HB;have GE101:=GW101;obtain ⟨hcz14_0,hcz14_1,hfz14_0,hfz14_1⟩:=cz2 BK101;have p102:0≤((ji3):Int):=oD;have q102:(ji3) < (l0_1.length:Int):=oD;obtain ⟨ad102,A102_0,c102_0,e102,hx102_0,hl102_0,hi102_0⟩:=at_L1 HR0_1.z (ji3) p102 q102;cases e102;replace hx102_0:=hbc HB hx102_0;have HR102_0:=k0 hi102_0;have HC102_0:=k0 hl102_0;clear hi102_0 hl102_0;replace p102:=eT p102;replace q102:=eT q102;have p105:0≤(0:Int):=(by omega);have q105:0 < ((rd_L1 l0_1 (ji3)).length:Int):=oD;obtain ⟨ad105,e105,hx105_0⟩:=Kd.at_int HR102_0.z 0 p105 q105;cases e105;have qi105:(0 < (rd_L1 l0_1 (ji3)).length)=True:=eq_true (by omega);(try rw [show ((0:Int)).toNat=0 from rfl] at hx105_0);(try rw [Addr.add_zero'] at hx105_0);replace hx105_0:=hbc HB hx105_0;replace p105:=eT p105;replace q105:=eT q105;have p106:0≤(1:Int):=(by omega);have q106:1 < ((rd_L1 l0_1 (ji3)).length:Int):=oD;obtain ⟨ad106,e106,hx106_0⟩:=Kd.at_int HR102_0.z 1 p106 q106;obtain rfl:ad105=ad106:=(by injection e106);(try simp only [show (1:Int).toNat=1 from rfl,Nat.reduceMul,Nat.reduceEqDiff,Go.Addr.add,↓reduceIte] at hx106_0);have qi106:(1 < (rd_L1 l0_1 (ji3)).length)=True:=eq_true (by omega);(try rw [show ((1:Int)).toNat=1 from rfl] at hx106_0);replace hx106_0:=hbc HB hx106_0;replace p106:=eT p106;replace q106:=eT q106));try go_wp2_with (first|(refine gate_dst (N:=2) rfl ?_;refine bxz 2 #[.int .i64 a0_0,.slice A0_1 l0_1.length c0_1] 26 bl ?_;intro gb101 w13 BK101 GW101 HB;have GE101:=GW101;obtain ⟨hcz14_0,hcz14_1,hfz14_0,hfz14_1⟩:=cz2 BK101;have p102:0≤((ji3):Int):=oD;have q102:(ji3) < (l0_1.length:Int):=oD;obtain ⟨ad102,A102_0,c102_0,e102,hx102_0,hl102_0,hi102_0⟩:=at_L1 HR0_1.z (ji3) p102 q102;cases e102;replace hx102_0:=hbc HB hx102_0;have HR102_0:=k0 hi102_0;have HC102_0:=k0 hl102_0;clear hi102_0 hl102_0;replace p102:=eT p102;replace q102:=eT q102;have p105:0≤(0:Int):=(by omega);have q105:0 < ((rd_L1 l0_1 (ji3)).length:Int):=oD;obtain ⟨ad105,e105,hx105_0⟩:=Kd.at_int HR102_0.z 0 p105 q105;cases e105;have qi105:(0 < (rd_L1 l0_1 (ji3)).length)=True:=eq_true (by omega);(try rw [show ((0:Int)).toNat=0 from rfl] at hx105_0);(try rw [Addr.add_zero'] at hx105_0);replace hx105_0:=hbc HB hx105_0;replace p105:=eT p105;replace q105:=eT q105;have p106:0≤(1:Int):=(by omega);have q106:1 < ((rd_L1 l0_1 (ji3)).length:Int):=oD;obtain ⟨ad106,e106,hx106_0⟩:=Kd.at_int HR102_0.z 1 p106 q106;obtain rfl:ad105=ad106:=(by injection e106);(try simp only [show (1:Int).toNat=1 from rfl,Nat.reduceMul,Nat.reduceEqDiff,Go.Addr.add,↓reduceIte] at hx106_0);have qi106:(1 < (rd_L1 l0_1 (ji3)).length)=True:=eq_true (by omega);(try rw [show ((1:Int)).toNat=1 from rfl] at hx106_0);replace hx106_0:=hbc HB hx106_0;replace p106:=eT p106;replace q106:=eT q106)))
  go_ret2
  exact ⟨by first|rfl|(simp [errW_none,errW_some]<;>rfl)|(simp only [← hji3];first|rfl|(simp [errW_none,errW_some]<;>rfl))|(simp [*,errW_none,errW_some]<;>rfl),bl⟩
 replace H:=iS H;obtain ⟨c7,H⟩:=H
 have c7b0:=decide_eq_true c7
 have c7b1:decide (1 < (rd_L1 l0_1 (ji3)).length)=true:=decide_eq_true (by omega)
 clear c7
 replace H:=iS H;obtain ⟨c8,H⟩:=H
 have c8b0:=decide_eq_true c8
 have c8b1:decide (0 < (rd_L1 l0_1 (ji3)).length)=true:=decide_eq_true (by omega)
 clear c8
 obtain ⟨rfl,rfl⟩:=zSo H
 go_enter Try.func101,Try.ntmps101
 go_wp2_with (first|(refine gate_dst (N:=2) rfl ?_;refine bxz 2 #[.int .i64 a0_0,.slice A0_1 l0_1.length c0_1] 26 bl ?_;intro gb101 w9 BK101 GW101 HB;have GE101:=GW101;obtain ⟨hcz10_0,hcz10_1,hfz10_0,hfz10_1⟩:=cz2 BK101;have p102:0≤((ji3):Int):=oD;have q102:(ji3) < (l0_1.length:Int):=oD;obtain ⟨ad102,A102_0,c102_0,e102,hx102_0,hl102_0,hi102_0⟩:=at_L1 HR0_1.z (ji3) p102 q102;cases e102;replace hx102_0:=hbc HB hx102_0;have HR102_0:=k0 hi102_0;have HC102_0:=k0 hl102_0;clear hi102_0 hl102_0;replace p102:=eT p102;replace q102:=eT q102;have p103:0≤(1:Int):=(by omega);have q103:1 < ((rd_L1 l0_1 (ji3)).length:Int):=oD;obtain ⟨ad103,e103,hx103_0⟩:=Kd.at_int HR102_0.z 1 p103 q103;cases e103;(try simp only [show (1:Int).toNat=1 from rfl,Nat.reduceMul,Nat.reduceEqDiff,Go.Addr.add,↓reduceIte] at hx103_0);have qi103:(1 < (rd_L1 l0_1 (ji3)).length)=True:=eq_true (by omega);(try rw [show ((1:Int)).toNat=1 from rfl] at hx103_0);replace hx103_0:=hbc HB hx103_0;replace p103:=eT p103;replace q103:=eT q103;have p104:0≤(0:Int):=(by omega);have q104:0 < ((rd_L1 l0_1 (ji3)).length:Int):=oD;obtain ⟨ad104,e104,hx104_0⟩:=Kd.at_int HR102_0.z 0 p104 q104;obtain rfl:ad103=ad104:=(by injection e104);have qi104:(0 < (rd_L1 l0_1 (ji3)).length)=True:=eq_true (by omega);(try rw [show ((0:Int)).toNat=0 from rfl] at hx104_0);(try rw [Addr.add_zero'] at hx104_0);replace hx104_0:=hbc HB hx104_0;replace p104:=eT p104;replace q104:=eT q104))
 repeat (go_quiet (first|(refine gate_dst (N:=2) rfl ?_;refine bxz 2 #[.int .i64 a0_0,.slice A0_1 l0_1.length c0_1] 26 bl ?_;intro gb101 w9 BK101 GW101 HB;have GE101:=GW101;obtain ⟨hcz10_0,hcz10_1,hfz10_0,hfz10_1⟩:=cz2 BK101;have p102:0≤((ji3):Int):=oD;have q102:(ji3) < (l0_1.length:Int):=oD;obtain ⟨ad102,A102_0,c102_0,e102,hx102_0,hl102_0,hi102_0⟩:=at_L1 HR0_1.z (ji3) p102 q102;cases e102;replace hx102_0:=hbc HB hx102_0;have HR102_0:=k0 hi102_0;have HC102_0:=k0 hl102_0;clear hi102_0 hl102_0;replace p102:=eT p102;replace q102:=eT q102;have p103:0≤(1:Int):=(by omega);have q103:1 < ((rd_L1 l0_1 (ji3)).length:Int):=oD;obtain ⟨ad103,e103,hx103_0⟩:=Kd.at_int HR102_0.z 1 p103 q103;cases e103;(try simp only [show (1:Int).toNat=1 from rfl,Nat.reduceMul,Nat.reduceEqDiff,Go.Addr.add,↓reduceIte] at hx103_0);have qi103:(1 < (rd_L1 l0_1 (ji3)).length)=True:=eq_true (by omega);(try rw [show ((1:Int)).toNat=1 from rfl] at hx103_0);replace hx103_0:=hbc HB hx103_0;replace p103:=eT p103;replace q103:=eT q103;have p104:0≤(0:Int):=(by omega);have q104:0 < ((rd_L1 l0_1 (ji3)).length:Int):=oD;obtain ⟨ad104,e104,hx104_0⟩:=Kd.at_int HR102_0.z 0 p104 q104;obtain rfl:ad103=ad104:=(by injection e104);have qi104:(0 < (rd_L1 l0_1 (ji3)).length)=True:=eq_true (by omega);(try rw [show ((0:Int)).toNat=0 from rfl] at hx104_0);(try rw [Addr.add_zero'] at hx104_0);replace hx104_0:=hbc HB hx104_0;replace p104:=eT p104;replace q104:=eT q104));try go_wp2_with (first|(refine gate_dst (N:=2) rfl ?_;refine bxz 2 #[.int .i64 a0_0,.slice A0_1 l0_1.length c0_1] 26 bl ?_;intro gb101 w9 BK101 GW101 HB;have GE101:=GW101;obtain ⟨hcz10_0,hcz10_1,hfz10_0,hfz10_1⟩:=cz2 BK101;have p102:0≤((ji3):Int):=oD;have q102:(ji3) < (l0_1.length:Int):=oD;obtain ⟨ad102,A102_0,c102_0,e102,hx102_0,hl102_0,hi102_0⟩:=at_L1 HR0_1.z (ji3) p102 q102;cases e102;replace hx102_0:=hbc HB hx102_0;have HR102_0:=k0 hi102_0;have HC102_0:=k0 hl102_0;clear hi102_0 hl102_0;replace p102:=eT p102;replace q102:=eT q102;have p103:0≤(1:Int):=(by omega);have q103:1 < ((rd_L1 l0_1 (ji3)).length:Int):=oD;obtain ⟨ad103,e103,hx103_0⟩:=Kd.at_int HR102_0.z 1 p103 q103;cases e103;(try simp only [show (1:Int).toNat=1 from rfl,Nat.reduceMul,Nat.reduceEqDiff,Go.Addr.add,↓reduceIte] at hx103_0);have qi103:(1 < (rd_L1 l0_1 (ji3)).length)=True:=eq_true (by omega);(try rw [show ((1:Int)).toNat=1 from rfl] at hx103_0);replace hx103_0:=hbc HB hx103_0;replace p103:=eT p103;replace q103:=eT q103;have p104:0≤(0:Int):=(by omega);have q104:0 < ((rd_L1 l0_1 (ji3)).length:Int):=oD;obtain ⟨ad104,e104,hx104_0⟩:=Kd.at_int HR102_0.z 0 p104 q104;obtain rfl:ad103=ad104:=(by injection e104);have qi104:(0 < (rd_L1 l0_1 (ji3)).length)=True:=eq_true (by omega);(try rw [show ((0:Int)).toNat=0 from rfl] at hx104_0);(try rw [Addr.add_zero'] at hx104_0);replace hx104_0:=hbc HB hx104_0;replace p104:=eT p104;replace q104:=eT q104)))
 go_ret2
 exact ⟨by first|rfl|(simp [errW_none,errW_some]<;>rfl)|(simp only [← hji3];first|rfl|(simp [errW_none,errW_some]<;>rfl))|(simp [*,errW_none,errW_some]<;>rfl),bl⟩
/-! ### F118: function 118 -/
def F118.f (a0_0:Int) (l0_1:List (List Int)) (a1:Int) (a2:Int):Option (Bool):=(F101.f a0_0 l0_1 a1).bind fun bt102=>((F101.f a0_0 l0_1 a2).bind fun bt104=>(if bt102.2=bt104.1 then (if (wrap64 (Int.tdiv a1 2))=(wrap64 (Int.tdiv a2 2)) then (some (a1 == a2)) else (some true)) else (some false)))
theorem F118.calls (a0_0 : Int) (A0_1 : Option Addr) (c0_1 : Nat) (l0_1 : List (List Int)) (a1 : Int) (a2 : Int) (r : Bool) (w : World) (hr0_1 : Kd.C (Kd.slice 2 (Kd.int .i64)) w A0_1 l0_1.length l0_1) (hc0_1 : l0_1.length ≤ c0_1) (h : F118.f a0_0 l0_1 a1 a2 = some r) :
  Calls Try.prog 118 #[.agg #[.int .i64 a0_0,.slice A0_1 l0_1.length c0_1],.int .i64 a1,.int .i64 a2] w fun e w'=>e=.returned (.bool r)∧Below w.heap.size w w':=by
 have hu26:=Try.underlying26
 have HR0_1:=k0 hr0_1
 have HC0_1:=k0 hc0_1
 clear hr0_1 hc0_1
 have HB:=k0 (Below.refl w.heap.size w)
 unfold F118.f at h
 have H:=h
 clear h
 replace H:=bS H;obtain ⟨⟨t102,t103⟩,A4,H⟩:=H
 dsimp only at H
 replace H:=bS H;obtain ⟨⟨t104,t105⟩,A5,H⟩:=H
 dsimp only at H
 replace H:=iE H;obtain ⟨c6,c6b0,c6b1,H⟩|⟨c6b0,c6b1,H⟩:=H
 case inl =>
  obtain rfl:=Option.some.inj H
  go_enter Try.func118,Try.ntmps118
  go_wp2_with (first|(refine gate_dst (N:=3) rfl ?_;refine bxz 3 #[.int .i64 a0_0,.slice A0_1 l0_1.length c0_1] 26 bl ?_;intro gb101 w18 BK101 GW101 HB;have GE101:=GW101;obtain ⟨_,_,_,_⟩:=cz2 BK101)|(refine gate_callee (f:=101) rfl ?_;refine gC (some 14) Try.func101 #[.agg #[.int .i64 a0_0,.slice A0_1 l0_1.length c0_1],.int .i64 a1] ?_;(with_reducible refine (F101.calls a0_0 _ _ l0_1 a1 t102 t103 _ ?side1 ?side2 A4.z).mono ?_);(case side1=>exact aC (Kd.C_below HR0_1.z HB.z));(case side2=>exact HC0_1.z);rintro e w20 ⟨rfl,hb⟩;refine ⟨_,rfl,?_⟩;replace BK101:=kB BK101 hb;replace HB:=bW hb;obtain ⟨_,_,_,_⟩:=cz2 BK101)|(refine gate_callee (f:=101) rfl ?_;refine gC (some 20) Try.func101 #[.agg #[.int .i64 a0_0,.slice A0_1 l0_1.length c0_1],.int .i64 a2] ?_;(with_reducible refine (F101.calls a0_0 _ _ l0_1 a2 t104 t105 _ ?side1 ?side2 A5.z).mono ?_);(case side1=>exact aC (Kd.C_below HR0_1.z HB.z));(case side2=>exact HC0_1.z);rintro e w22 ⟨rfl,hb⟩;refine ⟨_,rfl,?_⟩;replace BK101:=kB BK101 hb;replace HB:=bW hb))
  go_ret
  exact ⟨eR,bl⟩
 replace H:=iE H;obtain ⟨c7,c7b0,c7b1,H⟩|⟨c7b0,c7b1,H⟩:=H
 case inl =>
  obtain rfl:=Option.some.inj H
  go_enter Try.func118,Try.ntmps118
  go_wp2_with (first|(refine gate_dst (N:=3) rfl ?_;refine bxz 3 #[.int .i64 a0_0,.slice A0_1 l0_1.length c0_1] 26 bl ?_;intro gb101 w13 BK101 GW101 HB;have GE101:=GW101;obtain ⟨_,_,_,_⟩:=cz2 BK101)|(refine gate_callee (f:=101) rfl ?_;refine gC (some 14) Try.func101 #[.agg #[.int .i64 a0_0,.slice A0_1 l0_1.length c0_1],.int .i64 a1] ?_;(with_reducible refine (F101.calls a0_0 _ _ l0_1 a1 t102 t103 _ ?side1 ?side2 A4.z).mono ?_);(case side1=>exact aC (Kd.C_below HR0_1.z HB.z));(case side2=>exact HC0_1.z);rintro e w15 ⟨rfl,hb⟩;refine ⟨_,rfl,?_⟩;replace BK101:=kB BK101 hb;replace HB:=bW hb;obtain ⟨_,_,_,_⟩:=cz2 BK101)|(refine gate_callee (f:=101) rfl ?_;refine gC (some 20) Try.func101 #[.agg #[.int .i64 a0_0,.slice A0_1 l0_1.length c0_1],.int .i64 a2] ?_;(with_reducible refine (F101.calls a0_0 _ _ l0_1 a2 t104 t105 _ ?side1 ?side2 A5.z).mono ?_);(case side1=>exact aC (Kd.C_below HR0_1.z HB.z));(case side2=>exact HC0_1.z);rintro e w17 ⟨rfl,hb⟩;refine ⟨_,rfl,?_⟩;replace BK101:=kB BK101 hb;replace HB:=bW hb))
  go_ret
  exact ⟨eR,bl⟩
 obtain rfl:=Option.some.inj H
 go_enter Try.func118,Try.ntmps118
 go_wp2_with (first|(refine gate_dst (N:=3) rfl ?_;refine bxz 3 #[.int .i64 a0_0,.slice A0_1 l0_1.length c0_1] 26 bl ?_;intro gb101 w8 BK101 GW101 HB;have GE101:=GW101;obtain ⟨_,_,_,_⟩:=cz2 BK101)|(refine gate_callee (f:=101) rfl ?_;refine gC (some 14) Try.func101 #[.agg #[.int .i64 a0_0,.slice A0_1 l0_1.length c0_1],.int .i64 a1] ?_;(with_reducible refine (F101.calls a0_0 _ _ l0_1 a1 t102 t103 _ ?side1 ?side2 A4.z).mono ?_);(case side1=>exact aC (Kd.C_below HR0_1.z HB.z));(case side2=>exact HC0_1.z);rintro e w10 ⟨rfl,hb⟩;refine ⟨_,rfl,?_⟩;replace BK101:=kB BK101 hb;replace HB:=bW hb;obtain ⟨_,_,_,_⟩:=cz2 BK101)|(refine gate_callee (f:=101) rfl ?_;refine gC (some 20) Try.func101 #[.agg #[.int .i64 a0_0,.slice A0_1 l0_1.length c0_1],.int .i64 a2] ?_;(with_reducible refine (F101.calls a0_0 _ _ l0_1 a2 t104 t105 _ ?side1 ?side2 A5.z).mono ?_);(case side1=>exact aC (Kd.C_below HR0_1.z HB.z));(case side2=>exact HC0_1.z);rintro e w12 ⟨rfl,hb⟩;refine ⟨_,rfl,?_⟩;replace BK101:=kB BK101 hb;replace HB:=bW hb))
 go_ret
 exact ⟨eR,bl⟩
/-! ### F104: function 104 -/
mutual
def F104.l0 : Nat → List (List Int) → Int → Int → Int → List (List Int) → Option ((List (List Int)))
 | 0,_,_,_,_,_=>none
 | k+1,x3,x4,x5,x102000,x102001=>if x5 < x4 then (if 0≤x4 then (if (x4:Int).toNat≤35184372088832 then (F104.l1 k x3 x4 x5 (List.replicate (x4:Int).toNat 0) 0 x102000 x102001) else (none)) else (none)) else (some x3)
def F104.l1 : Nat → List (List Int) → Int → Int → List Int → Int → Int → List (List Int) → Option ((List (List Int)))
 | 0,_,_,_,_,_,_,_=>none
 | k+1,x3,x4,x5,x6,x7,x102000,x102001=>if x7 < x4 then ((F118.f x102000 x102001 x5 x7).bind fun t108=>(if t108=true then (if 0≤x7 then (if x7 < (x6.length:Int) then (F104.l1 k x3 x4 x5 (x6.set (x7:Int).toNat 1) (wrap64 (x7+1)) x102000 x102001) else (none)) else (none)) else (F104.l1 k x3 x4 x5 x6 (wrap64 (x7+1)) x102000 x102001))) else (if x3.length < 5864062014805 then (F104.l0 k (x3 ++ [x6]) x4 (wrap64 (x5+1)) x102000 x102001) else (none))
end
def F104.f (k:Nat) (a0_0:Int) (l0_1:List (List Int)):Option ((List (List Int))):=F104.l0 k (([]:List (List Int))) (wrap64 (2 * (l0_1.length:Int))) 0 a0_0 l0_1
theorem F104.calls (k : Nat) (a0_0 : Int) (A0_1 : Option Addr) (c0_1 : Nat) (l0_1 : List (List Int)) (r : List (List Int)) (w : World) (hr0_1 : Kd.C (Kd.slice 2 (Kd.int .i64)) w A0_1 l0_1.length l0_1) (hc0_1 : l0_1.length ≤ c0_1) (h : F104.f k a0_0 l0_1 = some r) :
  Calls Try.prog 104 #[.agg #[.int .i64 a0_0,.slice A0_1 l0_1.length c0_1]] w fun e w'=>∃ v0_:Value,e=.returned (v0_)∧Kd.S (Kd.slice 2 (Kd.int .i64)) 27 w' w.heap.size (fun _=>True) v0_ r∧Below w.heap.size w w':=by
 have hu26:=Try.underlying26
 have HR0_1:=k0 hr0_1
 have HC0_1:=k0 hc0_1
 clear hr0_1 hc0_1
 have HB:=k0 (Below.refl w.heap.size w)
 unfold F104.f at h
 have H:=h
 clear h
 obtain ⟨y102,Ny102⟩:=nY (([]:List (List Int)):List (List Int))
 replace H:(F104.l0 k y102 (wrap64 (2 * (l0_1.length:Int))) 0 a0_0 l0_1)=some r:=rH Ny102.z H
 have H':=k0 H
 clear H
 go_enter Try.func104,Try.ntmps104
 try go_wp2_with (first|(refine gate_dst (N:=1) rfl ?_;refine bxz 1 #[.int .i64 a0_0,.slice A0_1 l0_1.length c0_1] 26 bl ?_;intro gb101 w2 BK101 GW101 HB;have GE101:=GW101))
 replace BK101:=k0 (blk_drew BK101.z);replace HB:=k0 (below_drew1 HB.z)
 refine start_ (n:=7) (S:=fun w'=>w'.cell? ⟨gb101,0,none⟩=some (.int .i64 a0_0)∧w'.cell? ⟨gb101,1,none⟩=some (.slice A0_1 l0_1.length c0_1)) (ds:=[]) (ba 7 0) (by kernel_rfl) rfl rfl ⟨ce0 BK101,ce1 BK101⟩ (fun hHeld=>?_)
 generalize w2.drew=w3 at BK101 HB hHeld ⊢
 refine pure_ (i:=1) (N:=some 9) (v:=?_) (a':=?_) (ba 7 2) rfl rfl (by kernel_rfl) (fun _ _ _ h=>h) (Or.inl ⟨by rfl,?_⟩) ?_ ?_
 rotate_left;· intro w';go_simp;with_reducible rfl
 rotate_left;· simp only [Act.put,zI,zZ,zS,i64_w,i32_w];rfl
 refine take_ (i:=2) (N:=some 10) (v:=?_) (a':=?_) (ba 7 6) rfl rfl (by kernel_rfl) (fun _ _ _ h=>h) (Or.inl ⟨by rfl,?_⟩) hHeld ?_ ?_
 rotate_left;· rintro w' ⟨s0,s1⟩;go_simp;with_reducible rfl
 rotate_left;· simp only [Act.put,zI,zZ,zS,i64_w,i32_w];rfl
 refine pure_ (i:=3) (N:=some 11) (v:=?_) (a':=?_) (ba 7 14) rfl rfl (by kernel_rfl) (fun _ _ _ h=>h) (Or.inl ⟨by rfl,?_⟩) ?_ ?_
 rotate_left;· intro w';go_simp;with_reducible rfl
 rotate_left;· simp only [Act.put,zI,zZ,zS,i64_w,i32_w];rfl
 refine pure_ (i:=4) (N:=some 12) (v:=?_) (a':=?_) (ba 7 30) rfl rfl (by kernel_rfl) (fun _ _ _ h=>h) (Or.inl ⟨by rfl,?_⟩) ?_ ?_
 rotate_left;· intro w';go_simp;with_reducible rfl
 rotate_left;· simp only [Act.put,zI,zZ,zS,i64_w,i32_w];rfl
 refine one_ (i:=0) (N:=some 8) (ba 7 31) rfl rfl (by kernel_rfl) (by decide) (fun K hK=>?_)
 refine Kd.S_lit_step (Kd.slice 2 (Kd.int .i64)) _ 27 ?hg (N:=8) ?hd (xs:=([]:List (List Int))) (inner:=[]) (ok:=fun _=>True) (okp:=fun _=>True) ?hr ?hp (fun _ hk=>hk) trivial (Below.refl _ _) (Nat.le_refl _) (by simp) ?_;(case hd=>rfl);(case hg=>rfl);(case hr=>first|(go_simp;done)|(go_simp;rfl));(case hp=>exact (Reps.none _ _))
 intro v103 w4 ho5 hb hg_ hnew_
 clear hg_ hnew_
 (first|rw [← Ny102.z] at ho5|(simp only [Int.reduceToNat] at ho5;rw [← Ny102.z] at ho5))
 have HO104:=k0 (Kd.S_lower ho5 (below_size bl));replace BK101:=kB BK101 hb;replace HB:=bW hb
 clear hb ho5
 refine hK.out _ _ ⟨ce0 BK101,ce1 BK101⟩ (fun hHeld=>?_)
 clear hK K
 refine norm_ (a':=?_) ?_ ?_
 rotate_left;· show Act.put _ (some 8) _=_;simp only [Act.put,zI,zZ,zS,i64_w,i32_w];rfl
 refine pure_ (i:=5) (N:=some 3) (v:=?_) (a':=?_) (ba 7 63) rfl rfl (by kernel_rfl) (fun _ _ _ h=>h) (Or.inl ⟨by rfl,?_⟩) ?_ ?_
 rotate_left;· intro w';go_simp;with_reducible rfl
 rotate_left;· simp only [Act.put,zI,zZ,zS,i64_w,i32_w];rfl
 refine pure_ (i:=6) (N:=some 4) (v:=?_) (a':=?_) (ba 7 127) rfl rfl (by kernel_rfl) (fun _ _ _ h=>h) (Or.inl ⟨by rfl,?_⟩) ?_ ?_
 rotate_left;· intro w';go_simp;with_reducible rfl
 rotate_left;· simp only [Act.put,zI,zZ,zS,i64_w,i32_w];rfl
 refine done_ (by kernel_rfl) ?_
 try go_wp2
 go_loopg [3,5] k (fun kq v3 v5 w'=>∃ (x3_1:List (List Int)) (x5_1:Int),v5=.int .i64 x5_1∧Aside0 (F104.l0 kq x3_1 (wrap64 (2 * (l0_1.length:Int))) x5_1 a0_0 l0_1=some r)∧Aside0 (kq≤k)∧Aside0 (Kd.S (Kd.slice 2 (Kd.int .i64)) 27 w' w.heap.size (fun _=>True) v3 x3_1)∧Aside0 (w'.heap[gb101]?=some (sO a0_0 A0_1 l0_1 c0_1 26))∧Aside0 (Below w.heap.size w w'))
 case atStart=>exact ⟨(y102),(0),rs,H',⟨Nat.le_refl _⟩,⟨aS (HO104.z)⟩,⟨bk⟩,⟨bl⟩⟩
 case round =>
  clear H'
  obtain ⟨x3_1,x5_1,rfl,HA,HK1,HO_3,BK101,HB⟩:=hrel
  cases gk with
  | zero=>exact absurd HA.z (by simp [F104.l0])
  | succ k1 =>
   have H:=HA.z
   clear HA
   simp only [F104.l0] at H
   replace H:=iC H;obtain ⟨c6b0,H⟩|⟨c6b0,H⟩:=H
   case inl =>
    obtain rfl:=Option.some.inj H
    go_wp2
    go_ret
    exact ⟨_,eR,aS HO_3.z,bl⟩
   obtain ⟨ji7,hji7⟩:∃ j_:Int,(wrap64 (2 * (l0_1.length:Int)))=j_:=⟨_,rfl⟩
   replace H:(if 0≤(ji7) then (if ((ji7):Int).toNat≤35184372088832 then (F104.l1 k1 x3_1 (ji7) x5_1 (List.replicate ((ji7):Int).toNat 0) 0 a0_0 l0_1) else (none)) else (none))=some r:=by first|(rw [hji7] at H;exact H)|(simp only [hji7] at H ⊢;exact H)
   (try rw [hji7] at c6b0)
   have hji7w:(IntKind.i64.wrap (2 * (l0_1.length:Int)))=ji7:=(i64_w _).trans hji7
   replace H:=iS H;obtain ⟨c8,H⟩:=H
   have c8b0:=eq_true c8
   have c8b1:=decide_eq_true c8
   clear c8
   replace H:=iS H;obtain ⟨c9,H⟩:=H
   have c9b0:=eq_true c9
   have c9b1:=decide_eq_true c9
   clear c9
   obtain ⟨y105,Ny105⟩:=nY (List.replicate ((ji7):Int).toNat 0:List Int)
   replace H:(F104.l1 k1 x3_1 (ji7) x5_1 y105 0 a0_0 l0_1)=some r:=rH Ny105.z H
   have H':=k0 H
   clear H
   go_wp2_with (first|(refine gate_dst (N:=19) rfl ?_;(try simp only [hji7,hji7w]);refine Kd.R_make (Kd.int .i64) _ 2 rfl (N:=19) rfl 27 _ _ rfl (ji7) rfl rfl Try.underlying27 (.int .i64 0) 8 info2 rfl (by decide) (by omega) 0 (ok:=fun _=>True) (okp:=fun _=>True) rfl (fun _ hk=>hk) trivial oD (Nat.le_trans (Nat.mul_le_mul_right _ (oD:(ji7).toNat≤35184372088832)) (by omega)) (Below.refl _ _) (Nat.le_refl _) ?_;intro v106 w10 ho11 hb hg_ hnew_;clear hg_ hnew_;(first|rw [← Ny105.z] at ho11|(simp only [Int.reduceToNat] at ho11;rw [← Ny105.z] at ho11));replace HO_3:=elS HO_3 (Kd.R_base ho11) hb;have HO107:=k0 (Kd.R_lower ho11 (below_size bl));replace BK101:=kB BK101 hb;replace HB:=bW hb;clear hb ho11))
   go_loopg [7] k1 (fun kq v7 w'=>∃ (x6_2:List Int) (x7_2:Int),v7=.int .i64 x7_2∧Aside0 (F104.l1 kq x3_1 (ji7) x5_1 x6_2 x7_2 a0_0 l0_1=some r)∧Aside0 (kq≤k1)∧Aside0 (Kd.S (Kd.slice 2 (Kd.int .i64)) 27 w' w.heap.size (fun k_=>some k_ ≠ (v106:Value).ownBlock) u3 x3_1)∧Aside0 (Kd.R (Kd.int .i64) 2 w' w.heap.size (fun _=>True) v106 x6_2)∧Aside0 (w'.heap[gb101]?=some (sO a0_0 A0_1 l0_1 c0_1 26))∧Aside0 (Below w.heap.size w w'))
   case atStart=>exact ⟨(y105),(0),rs,H',⟨Nat.le_refl _⟩,⟨aS (Kd.S_mono HO_3.z (fun _ hk=>hk.2))⟩,⟨aR (HO107.z)⟩,⟨bk⟩,⟨bl⟩⟩
   case round =>
    clear H'
    obtain ⟨x6_2,x7_2,rfl,HA,HK2,HO_3,HO_6,BK101,HB⟩:=hrel
    cases gk with
    | zero=>exact absurd HA.z (by simp [F104.l1])
    | succ k2 =>
     have H:=HA.z
     clear HA
     simp only [F104.l1] at H
     replace H:=iC H;obtain ⟨c12b0,H⟩|⟨c12b0,H⟩:=H
     case inl =>
      replace H:=iS H;obtain ⟨c24,H⟩:=H
      have LMc24:=k0 c24
      clear c24
      obtain ⟨y110,Ny110⟩:=nY (x3_1 ++ [x6_2]:List (List Int))
      replace H:(F104.l0 k2 y110 (ji7) (wrap64 (x5_1+1)) a0_0 l0_1)=some r:=rH Ny110.z H
      have H':=k0 H
      clear H
      obtain ⟨Ao26,co26,rfl⟩:=Kd.R_slice HO_6.z
      go_wp2_with (first|((with_reducible refine gate_builtin (b:=.append) (xs:=#[.tmp 32,.tmp 34]) rfl ?_);at_builtin;refine Kd.S_append (Kd.slice 2 (Kd.int .i64)) (w0:=w) w.heap.size rfl (.tmp 32) (.tmp 34) 24 27 (.slice none 0 0) 24 rfl Try.underlying24 info27 rfl (by decide) (by omega) u3 x3_1 x6_2 [.slice Ao26 x6_2.length co26] (fun _=>True) (fun k_=>some k_=(.slice Ao26 x6_2.length co26:Value).ownBlock) rfl rfl ?aP (fun k_ hk_=>((Kd.R_mono (ok':=fun k_=>((fun _=>True)) k_∧some k_ ≠ (u3:Value).ownBlock) (Kd.R_apart' (HO_6.z) (Kd.S_typed HO_3.z) (by decide)) (fun k_ hk=>⟨trivial,hk.2⟩))).1 k_ hk_.symm) ?aF ?aO ?aB ?aS ?aL ?_;(case aP=>exact Kd.M_row (Kd.R_mono (Kd.R_tight rfl (Kd.R_mono (ok':=fun k_=>((fun _=>True)) k_∧some k_ ≠ (u3:Value).ownBlock) (Kd.R_apart' (HO_6.z) (Kd.S_typed HO_3.z) (by decide)) (fun k_ hk=>⟨trivial,hk.2⟩))) (fun _ h_=>h_)));(case aB=>exact bl);(case aF=>exact (fun _ _=>trivial));(case aO=>exact (aS (Kd.S_mono HO_3.z (fun k_ hk=>⟨trivial,fun e_=>hk e_⟩))));(case aS=>exact (below_size bl));(case aL=>have:=LMc24.out;omega);intro v111 w25 ho hb hg hat;rw [← Ny110.z] at ho;replace BK101:=k0 (blk_grown (aB BK101.z) hg (Kd.S_ne HO_3.z BK101.z (by decide)));replace HB:=k0 hb;have HO112:=k0 ho;clear HO_3 HO_6;clear ho hb hg hat))
      first|go_roundg k2|(simp only [← hji7];go_roundg k2)
      case measure=>have:=HK1.z;have:=HK2.z;omega
      case rel=>exact ⟨(y110),(wrap64 (x5_1+1)),rs,(by first|exact H'|(rw [hji7];exact H')),⟨by have:=HK1.z;have:=HK2.z;omega⟩,⟨aS (HO112.z)⟩,⟨bk⟩,⟨bl⟩⟩
     replace H:=bS H;obtain ⟨t108,A13,H⟩:=H
     cases t108
     case false =>
      replace H:=iF H
      have H':=k0 H
      clear H
      obtain ⟨_,_,_,_⟩:=cz2 BK101
      go_wp2_with (first|(refine gate_callee (f:=118) rfl ?_;refine gC (some 28) Try.func118 #[.agg #[.int .i64 a0_0,.slice A0_1 l0_1.length c0_1],.int .i64 x5_1,.int .i64 x7_2] ?_;(with_reducible refine (F118.calls a0_0 _ _ l0_1 x5_1 x7_2 false _ ?side1 ?side2 A13.z).mono ?_);(case side1=>exact aC (Kd.C_below HR0_1.z HB.z));(case side2=>exact HC0_1.z);rintro e w23 ⟨rfl,hb⟩;refine ⟨_,rfl,?_⟩;replace HO_3:=bwS HO_3 hb;replace HO_6:=bwR HO_6 hb;replace BK101:=kB BK101 hb;replace HB:=bW hb))
      first|go_roundg k2|(simp only [← hji7];go_roundg k2)
      case measure=>have:=HK1.z;have:=HK2.z;omega
      case rel=>exact ⟨(x6_2),(wrap64 (x7_2+1)),rs,(by first|exact H'|(rw [hji7];exact H')),⟨by have:=HK1.z;have:=HK2.z;omega⟩,⟨aS (HO_3.z)⟩,⟨aR (HO_6.z)⟩,⟨bk⟩,⟨bl⟩⟩
     replace H:=iT H
     replace H:=iS H;obtain ⟨c15,H⟩:=H
     have c15b0:=decide_eq_true c15
     clear c15
     replace H:=iS H;obtain ⟨c16,H⟩:=H
     have c16b0:=decide_eq_true c16
     clear c16
     obtain ⟨y109,Ny109⟩:=nY (x6_2.set (x7_2:Int).toNat 1:List Int)
     replace H:(F104.l1 k2 x3_1 (ji7) x5_1 y109 (wrap64 (x7_2+1)) a0_0 l0_1)=some r:=rH Ny109.z H
     have H':=k0 H
     clear H
     obtain ⟨_,_,_,_⟩:=cz2 BK101
     go_wp2_with (first|(refine gate_callee (f:=118) rfl ?_;refine gC (some 28) Try.func118 #[.agg #[.int .i64 a0_0,.slice A0_1 l0_1.length c0_1],.int .i64 x5_1,.int .i64 x7_2] ?_;(with_reducible refine (F118.calls a0_0 _ _ l0_1 x5_1 x7_2 true _ ?side1 ?side2 A13.z).mono ?_);(case side1=>exact aC (Kd.C_below HR0_1.z HB.z));(case side2=>exact HC0_1.z);rintro e w19 ⟨rfl,hb⟩;refine ⟨_,rfl,?_⟩;replace HO_3:=bwS HO_3 hb;replace HO_6:=bwR HO_6 hb;replace BK101:=kB BK101 hb;replace HB:=bW hb;have p17:0≤(x7_2:Int):=oD;have q17:(x7_2:Int) < ((x6_2.length:Int):Int):=oD;obtain ⟨go17,co17,eo17,gb17,gl17,cl17,HG17⟩:=Kd.R_form HO_6.z (by omega);(first|cases eo17|(injection eo17 with ea_ en_ ec_;(first|subst ea_|(injection ea_ with ea_;subst ea_));subst ec_;clear en_));have GB17:=k0 gb17;have GG17:=k0 HG17;clear gb17 gl17 HG17;obtain ⟨hx17_0,hf17_0⟩:=Kd.R_celln 0 HO_6.z (x7_2:Int) p17 q17;replace p17:=eT p17;replace q17:=eT q17;obtain ⟨hy20_,hz20_⟩:=Kd.R_celln 0 HO_6.z (x7_2:Int) oD oD;have HP20:=Kd.R_putg HO_6.z (x7_2:Int) 1)|((with_reducible refine gate_store (t:=2) (p:=31) rfl ?_);refine store_event (t:=2) (p:=31) (v:=?vo_w21) (w1:=(w19.setCell ⟨go17,(x7_2:Int).toNat,none⟩ (.int .i64 1))) ?hg ?ho ?hn ?hr ?_;(case ho=>rfl);(case hg=>rfl);(case hn=>rfl);(case hr=>first|(go_simp;done)|(go_simp;rfl));intro w21 hw;have hg:w19.grownBy w21 (some go17):=(by rw [hw];exact HP20.2);have hp_:Kd.R (Kd.int .i64) 2 w21 w.heap.size (fun _=>True) (.slice (some ⟨go17,0,none⟩) x6_2.length co17) y109:=(by rw [hw,Ny109.z];exact HP20.1);clear HP20;replace HO_3:=k0 (Kd.S_after (v:=(.slice (some ⟨go17,0,none⟩) x6_2.length co17)) (v1:=(.slice (some ⟨go17,0,none⟩) x6_2.length co17)) (ok:=(fun _=>True)) (aS (Kd.S_mono HO_3.z (fun _ hk=>⟨trivial,hk⟩))) hg (.inl rfl));replace BK101:=k0 (blk_grown (aB BK101.z) hg (Kd.R_ne HO_6.z BK101.z (by decide)));replace HO_6:=k0 hp_;replace HB:=k0 ((by rw [hw];exact below_set (HB.z) GB17.out:Below w.heap.size w w21));clear hg hw hp_))
     first|go_roundg k2|(simp only [← hji7];go_roundg k2)
     case measure=>have:=HK1.z;have:=HK2.z;omega
     case rel=>exact ⟨(y109),(wrap64 (x7_2+1)),rs,(by first|exact H'|(rw [hji7];exact H')),⟨by have:=HK1.z;have:=HK2.z;omega⟩,⟨aS (Kd.S_mono HO_3.z (fun _ hk=>hk.2))⟩,⟨aR (HO_6.z)⟩,⟨bk⟩,⟨bl⟩⟩
/-! ### F105: function 105 -/
def F105.l0 : Nat → List Int → List Int → Int → Int → Option (List Int × Int × Int)
 | 0,_,_,_,_=>none
 | k+1,x5,x1000,x1001,x1002=>if (x5.length:Int)≤40 then (if x5.length < 17592186044416 then (F105.l0 k (x5 ++ [1]) x1000 x1001 x1002) else (none)) else (some (x5,x1001,x1002))
def F105.f (k:Nat) (s0_0:List Int) (s0_1:Int) (s0_2:Int) (l1:List Int):Option (List Int × Int × Int):=(F60.f s0_0 s0_1 s0_2 30).bind fun bt101=>(if bt101.1=0 then ((F94.f l1).bind fun t104=>(if t104.length < 17592186044416 then (some ((t104 ++ [0]),bt101.2.1,bt101.2.2)) else (none))) else (if bt101.1=1 then ((F94.f l1).bind fun t110=>((F67.f s0_0 bt101.2.1 bt101.2.2 (([1000000000000001,(-1000000000000001)]:List Int))).bind fun bt116=>(if t110.length < 17592186044416 then (some ((t110 ++ [bt116.1]),bt116.2.1,bt116.2.2)) else (none)))) else (if bt101.1=2 then ((F94.f l1).bind fun t122=>((F67.f s0_0 bt101.2.1 bt101.2.2 (([1000000000000000,(-1000000000000000),333333333333333]:List Int))).bind fun bt128=>(if t122.length < 17592186044416 then (some ((t122 ++ [bt128.1]),bt128.2.1,bt128.2.2)) else (none)))) else (if bt101.1=3 then ((F94.f l1).bind fun t134=>(F105.l0 k t134 s0_0 bt101.2.1 bt101.2.2)) else (some (l1,bt101.2.1,bt101.2.2))))))
theorem F105.calls (k : Nat) (g : Nat) (s0_0 : List Int) (s0_1 : Int) (s0_2 : Int) (P1_ : Nat → Prop) (u9000_ : Value) (l1 : List Int) (r1 : List Int) (r2 : Int) (r3 : Int) (w0 w : World) (hI : IsS89 w0 w g s0_0 s0_1 s0_2) (hB : Below w0.heap.size w0 w) (ho1 : Kd.R (Kd.int .i64) 2 w w0.heap.size P1_ u9000_ l1) (h : F105.f k s0_0 s0_1 s0_2 l1 = some (r1, r2, r3)) :
  Calls Try.prog 105 #[.pointer (some ⟨g,0,none⟩),u9000_] w fun e w'=>∃ v0_:Value,e=.returned (v0_)∧Kd.R (Kd.int .i64) 2 w' w0.heap.size (fun k_=>(P1_ k_∨w.heap.size≤k_)) v0_ r1∧IsS89 w0 w' g s0_0 r2 r3∧Below w0.heap.size w0 w'∧Kept w w' (fun k_=>(P1_ k_)∨k_=g):=by
 have HO1:=k0 (show Kd.R (Kd.int .i64) 2 w w0.heap.size (fun k_=>(P1_ k_∨w.heap.size≤k_)) u9000_ l1 from Kd.R_mono ho1 (fun k_ hk=>(.inl hk)))
 have HI0:=k0 hI
 have HL:=k0 hB.size
 clear hI
 have HK:=k0 (Kept.refl w (fun k_=>(P1_ k_)∨k_=g))
 have HW0:=k0 hB.size
 have HB:=k0 hB
 clear hB
 unfold F105.f at h
 have H:=h
 clear h
 replace H:=bS H;obtain ⟨⟨t101,t102,t103⟩,A3,H⟩:=H
 dsimp only at H
 replace H:=iE H;obtain ⟨c4,c4b0,c4b1,H⟩|⟨c4b0,c4b1,H⟩:=H
 case inl =>
  replace H:=iE H;obtain ⟨c11,c11b0,c11b1,H⟩|⟨c11b0,c11b1,H⟩:=H
  case inl =>
   replace H:=iE H;obtain ⟨c23,c23b0,c23b1,H⟩|⟨c23b0,c23b1,H⟩:=H
   case inl =>
    replace H:=iE H;obtain ⟨c35,c35b0,c35b1,H⟩|⟨c35b0,c35b1,H⟩:=H
    case inl =>
     simp only [Option.some.injEq,Prod.mk.injEq] at H
     obtain ⟨rfl,rfl,rfl⟩:=H
     go_enter Try.func105,Try.ntmps105
     go_wp2_with (first|(refine gate_callee (f:=60) rfl ?_;refine gC (some 7) Try.func60 #[.pointer (some ⟨g,0,none⟩),.int .i64 30] ?_;(with_reducible refine (F60.calls g s0_0 s0_1 s0_2 30 t101 t102 t103 w0 _ ?side1 ?side2 A3.z).mono ?_);(case side1=>exact aIsS89 HI0.z);(case side2=>exact aG (IsS89.ge HI0.z) HB.z);rintro e w45 ⟨rfl,hi,hb,hk⟩;refine ⟨_,rfl,?_⟩;replace HO1:=k0 (Kd.R_mono (Kd.R_keep (IsS89.apart (show IsS89 w0 _ g s0_0 s0_1 s0_2 from aIsS89 HI0.z) (aR HO1.z) (by decide)) hk (fun _ h=>h.2)) (fun _ h=>h.1));replace HK:=k0 (Kept.of_keep (S:=(fun k_=>(P1_ k_)∨k_=g)) (by repeat (first|(with_reducible first|exact HK.z|apply Kept.alloc|apply Kept.drewN|apply Kept.drew|refine Kept.setCell ?_ (.inl (.inr rfl)) _)|exact HK.z)) hk (.inl (.inr rfl)));replace HB:=k0 hb;replace HI0:=k0 hi))
     go_ret
     exact ⟨_,eR,aR HO1.z,aIsS89 HI0.z,aG (IsS89.ge HI0.z) HB.z,by repeat (first|(with_reducible first|exact HK.z|apply Kept.alloc|apply Kept.drewN|apply Kept.drew|refine Kept.setCell ?_ (.inl (.inr rfl)) _)|exact HK.z)⟩
    replace H:=bS H;obtain ⟨t134,A36,H⟩:=H
    have H':=k0 H
    clear H
    go_enter Try.func105,Try.ntmps105
    go_wp2_with (first|(refine gate_callee (f:=60) rfl ?_;refine gC (some 7) Try.func60 #[.pointer (some ⟨g,0,none⟩),.int .i64 30] ?_;(with_reducible refine (F60.calls g s0_0 s0_1 s0_2 30 t101 t102 t103 w0 _ ?side1 ?side2 A3.z).mono ?_);(case side1=>exact aIsS89 HI0.z);(case side2=>exact aG (IsS89.ge HI0.z) HB.z);rintro e w37 ⟨rfl,hi,hb,hk⟩;refine ⟨_,rfl,?_⟩;replace HO1:=k0 (Kd.R_mono (Kd.R_keep (IsS89.apart (show IsS89 w0 _ g s0_0 s0_1 s0_2 from aIsS89 HI0.z) (aR HO1.z) (by decide)) hk (fun _ h=>h.2)) (fun _ h=>h.1));replace HK:=k0 (Kept.of_keep (S:=(fun k_=>(P1_ k_)∨k_=g)) (by repeat (first|(with_reducible first|exact HK.z|apply Kept.alloc|apply Kept.drewN|apply Kept.drew|refine Kept.setCell ?_ (.inl (.inr rfl)) _)|exact HK.z)) hk (.inl (.inr rfl)));replace HB:=k0 hb;replace HI0:=k0 hi;obtain ⟨Ao38,co38,rfl⟩:=Kd.R_slice HO1.z)|(refine gate_callee (f:=94) rfl ?_;refine gC (some 35) Try.func94 #[.slice Ao38 l1.length co38] ?_;(with_reducible refine (F94.calls _ _ l1 t134 _ ?side1 ?side2 A36.z).mono ?_);(case side1=>exact aC ((Kd.R_reads' HO1.z).2.2));(case side2=>exact (Kd.R_reads' HO1.z).2.1);rintro e w39 ⟨v135,rfl,ho0,hb⟩;refine ⟨_,rfl,?_⟩;have HO136:=k0 (Kd.R_lower (Kd.R_new' (Kd.R_newM (M:=fun k_=>(P1_ k_∨w.heap.size≤k_)) ho0 (by first|exact HK.z.1|exact (show Kept w _ (fun k_=>(P1_ k_)∨k_=g) from by repeat (first|(with_reducible first|exact HK.z|apply Kept.alloc|apply Kept.drewN|apply Kept.drew|refine Kept.setCell ?_ (.inl (.inr rfl)) _)|exact HK.z)).1) (fun k_ h_=>.inr h_)) (Kd.R_lt (aR HO1.z))) (below_size (aG (IsS89.ge HI0.z) HB.z)));replace HO1:=elR HO1 (Kd.R_base ho0) hb;replace HK:=k0 (Kept.below (S:=(fun k_=>(P1_ k_)∨k_=g)) (by repeat (first|(with_reducible first|exact HK.z|apply Kept.alloc|apply Kept.drewN|apply Kept.drew|refine Kept.setCell ?_ (.inl (.inr rfl)) _)|exact HK.z)) hb);replace HB:=k0 (below_step (aG (IsS89.ge HI0.z) HB.z) hb);replace HI0:=k0 (IsS89.below (aIsS89 HI0.z) hb)))
    go_loopg [5] k (fun kq v5 w'=>∃ (x5_1:List Int),Aside0 (F105.l0 kq x5_1 s0_0 t102 t103=some (r1,r2,r3))∧Aside0 (kq≤k)∧Aside0 (Kd.R (Kd.int .i64) 2 w' w0.heap.size (fun k_=>(P1_ k_∨w.heap.size≤k_)) v5 x5_1)∧Aside0 (IsS89 w0 w' g s0_0 t102 t103)∧Aside0 (Kept w w' (fun k_=>(P1_ k_)∨k_=g))∧Aside0 (Below w0.heap.size w0 w'))
    case atStart=>exact ⟨(t134),H',⟨Nat.le_refl _⟩,⟨aR (Kd.R_mono HO136.z (fun _ hk=>hk.1.1))⟩,⟨aIsS89 HI0.z⟩,⟨by repeat (first|(with_reducible first|exact HK.z|apply Kept.alloc|apply Kept.drewN|apply Kept.drew|refine Kept.setCell ?_ (.inl (.inr rfl)) _)|exact HK.z)⟩,⟨aG (IsS89.ge HI0.z) HB.z⟩⟩
    case round =>
     clear H'
     obtain ⟨x5_1,HA,HK1,HO_5,HI0,HK,HB⟩:=hrel
     cases gk with
     | zero=>exact absurd HA.z (by simp [F105.l0])
     | succ k1 =>
      have H:=HA.z
      clear HA
      simp only [F105.l0] at H
      by_cases c40:(x5_1.length:Int)≤40
      case neg =>
       rw [if_neg c40] at H
       have c40b0:=decide_eq_false c40
       have c40b1:decide (x5_1.length≤40)=false:=decide_eq_false (by omega)
       clear c40
       simp only [Option.some.injEq,Prod.mk.injEq] at H
       obtain ⟨rfl,rfl,rfl⟩:=H
       obtain ⟨Ao44,co44,rfl⟩:=Kd.R_slice HO_5.z
       go_wp2
       go_ret
       exact ⟨_,eR,aR HO_5.z,aIsS89 HI0.z,aG (IsS89.ge HI0.z) HB.z,by repeat (first|(with_reducible first|exact HK.z|apply Kept.alloc|apply Kept.drewN|apply Kept.drew|refine Kept.setCell ?_ (.inl (.inr rfl)) _)|exact HK.z)⟩
      rw [if_pos c40] at H
      have c40b0:=decide_eq_true c40
      have c40b1:decide (x5_1.length≤40)=true:=decide_eq_true (by omega)
      clear c40
      replace H:=iS H;obtain ⟨c41,H⟩:=H
      have LMc41:=k0 c41
      clear c41
      obtain ⟨y137,Ny137⟩:=nY (x5_1 ++ [1]:List Int)
      replace H:(F105.l0 k1 y137 s0_0 t102 t103)=some (r1,r2,r3):=rH Ny137.z H
      have H':=k0 H
      clear H
      obtain ⟨Ao42,co42,rfl⟩:=Kd.R_slice HO_5.z
      go_wp2_with (first|((with_reducible refine gate_builtin (b:=.append) (xs:=#[.tmp 39,.tmp 40]) rfl ?_);at_builtin;refine Kd.R_append (Kd.int .i64) (w0:=w0) w0.heap.size rfl (.tmp 39) (.tmp 40) 27 2 (.int .i64 0) 8 rfl Try.underlying27 info2 rfl (by decide) (by omega) (.slice Ao42 x5_1.length co42) x5_1 1 [.int .i64 1] (fun k_=>(P1_ k_∨w.heap.size≤k_)) (fun _=>False) rfl rfl ?aP (fun _ hk=>hk.elim) ?aF ?aO ?aB ?aS ?aL ?_;(case aP=>exact rfl);(case aB=>exact (aG (IsS89.ge HI0.z) HB.z));(case aF=>exact (fun k_ hk=>(.inr (Nat.le_trans (by first|exact HK.z.1|exact (show Kept w _ (fun k_=>(P1_ k_)∨k_=g) from by repeat (first|(with_reducible first|exact HK.z|apply Kept.alloc|apply Kept.drewN|apply Kept.drew|refine Kept.setCell ?_ (.inl (.inr rfl)) _)|exact HK.z)).1) hk))));(case aO=>exact (aR HO_5.z));(case aS=>exact (below_size (aG (IsS89.ge HI0.z) HB.z)));(case aL=>have:=LMc41.out;omega);intro v138 w43 ho hb hg hat;rw [← Ny137.z] at ho;replace HI0:=k0 (IsS89.grown (aIsS89 HI0.z) hg (IsS89.own_ne HI0.z HO_5.z (by decide)));replace HB:=k0 hb;replace HK:=k0 (Kept.of_grown (S:=(fun k_=>(P1_ k_)∨k_=g)) hg (by repeat (first|(with_reducible first|exact HK.z|apply Kept.alloc|apply Kept.drewN|apply Kept.drew|refine Kept.setCell ?_ (.inl (.inr rfl)) _)|exact HK.z)) (fun k_ e_=>Or.imp_left Or.inl ((HO_5.z.1 k_ e_))));have HO139:=k0 ho;clear HO_5;clear ho hb hg hat))
      go_roundg k1
      case measure=>have:=HK1.z;omega
      case rel=>exact ⟨(y137),H',⟨by have:=HK1.z;omega⟩,⟨aR (HO139.z)⟩,⟨aIsS89 HI0.z⟩,⟨by repeat (first|(with_reducible first|exact HK.z|apply Kept.alloc|apply Kept.drewN|apply Kept.drew|refine Kept.setCell ?_ (.inl (.inr rfl)) _)|exact HK.z)⟩,⟨aG (IsS89.ge HI0.z) HB.z⟩⟩
   replace H:=bS H;obtain ⟨t122,A24,H⟩:=H
   obtain ⟨y125,Ny125⟩:=nY (([1000000000000000,(-1000000000000000),333333333333333]:List Int):List Int)
   replace H:((F67.f s0_0 t102 t103 y125).bind fun bt128=>(if t122.length < 17592186044416 then (some ((t122 ++ [bt128.1]),bt128.2.1,bt128.2.2)) else (none)))=some (r1,r2,r3):=rH Ny125.z H
   replace H:=bS H;obtain ⟨⟨t128,t129,t130⟩,A25,H⟩:=H
   dsimp only at H
   replace H:=iS H;obtain ⟨c26,H⟩:=H
   have LMc26:=k0 c26
   clear c26
   obtain ⟨y131,Ny131⟩:=nY (t122 ++ [t128]:List Int)
   replace H:(some (y131,t129,t130))=some (r1,r2,r3):=rH Ny131.z H
   simp only [Option.some.injEq,Prod.mk.injEq] at H
   obtain ⟨rfl,rfl,rfl⟩:=H
   go_enter Try.func105,Try.ntmps105
   go_wp2_with (first|(refine gate_callee (f:=60) rfl ?_;refine gC (some 7) Try.func60 #[.pointer (some ⟨g,0,none⟩),.int .i64 30] ?_;(with_reducible refine (F60.calls g s0_0 s0_1 s0_2 30 t101 t102 t103 w0 _ ?side1 ?side2 A3.z).mono ?_);(case side1=>exact aIsS89 HI0.z);(case side2=>exact aG (IsS89.ge HI0.z) HB.z);rintro e w27 ⟨rfl,hi,hb,hk⟩;refine ⟨_,rfl,?_⟩;replace HO1:=k0 (Kd.R_mono (Kd.R_keep (IsS89.apart (show IsS89 w0 _ g s0_0 s0_1 s0_2 from aIsS89 HI0.z) (aR HO1.z) (by decide)) hk (fun _ h=>h.2)) (fun _ h=>h.1));replace HK:=k0 (Kept.of_keep (S:=(fun k_=>(P1_ k_)∨k_=g)) (by repeat (first|(with_reducible first|exact HK.z|apply Kept.alloc|apply Kept.drewN|apply Kept.drew|refine Kept.setCell ?_ (.inl (.inr rfl)) _)|exact HK.z)) hk (.inl (.inr rfl)));replace HB:=k0 hb;replace HI0:=k0 hi;obtain ⟨Ao28,co28,rfl⟩:=Kd.R_slice HO1.z)|(refine gate_callee (f:=94) rfl ?_;refine gC (some 26) Try.func94 #[.slice Ao28 l1.length co28] ?_;(with_reducible refine (F94.calls _ _ l1 t122 _ ?side1 ?side2 A24.z).mono ?_);(case side1=>exact aC ((Kd.R_reads' HO1.z).2.2));(case side2=>exact (Kd.R_reads' HO1.z).2.1);rintro e w29 ⟨v123,rfl,ho0,hb⟩;refine ⟨_,rfl,?_⟩;have HO124:=k0 (Kd.R_lower (Kd.R_new' (Kd.R_newM (M:=fun k_=>(P1_ k_∨w.heap.size≤k_)) ho0 (by first|exact HK.z.1|exact (show Kept w _ (fun k_=>(P1_ k_)∨k_=g) from by repeat (first|(with_reducible first|exact HK.z|apply Kept.alloc|apply Kept.drewN|apply Kept.drew|refine Kept.setCell ?_ (.inl (.inr rfl)) _)|exact HK.z)).1) (fun k_ h_=>.inr h_)) (Kd.R_lt (aR HO1.z))) (below_size (aG (IsS89.ge HI0.z) HB.z)));replace HO1:=elR HO1 (Kd.R_base ho0) hb;replace HK:=k0 (Kept.below (S:=(fun k_=>(P1_ k_)∨k_=g)) (by repeat (first|(with_reducible first|exact HK.z|apply Kept.alloc|apply Kept.drewN|apply Kept.drew|refine Kept.setCell ?_ (.inl (.inr rfl)) _)|exact HK.z)) hb);replace HB:=k0 (below_step (aG (IsS89.ge HI0.z) HB.z) hb);replace HI0:=k0 (IsS89.below (aIsS89 HI0.z) hb))|(refine gate_dst (N:=28) rfl ?_;refine zRt 2 (N:=28) (xs:=([1000000000000000,(-1000000000000000),333333333333333]:List Int)) (inner:=[.int .i64 1000000000000000,.int .i64 (-1000000000000000),.int .i64 333333333333333]) (Reps.one (show Kd.M (Kd.int .i64) _ _ _ 1000000000000000 [.int .i64 1000000000000000] from rfl) (Reps.one (show Kd.M (Kd.int .i64) _ _ _ (-1000000000000000) [.int .i64 (-1000000000000000)] from rfl) (Reps.one (show Kd.M (Kd.int .i64) _ _ _ 333333333333333 [.int .i64 333333333333333] from rfl) (Reps.none _ _)))) ?_;intro v126 w30 ho31 hb hg_ hnew_;clear hg_ hnew_;(first|rw [← Ny125.z] at ho31|(simp only [Int.reduceToNat] at ho31;rw [← Ny125.z] at ho31));have HO127:=k0 (Kd.R_lower (Kd.R_new' (Kd.R_new' (Kd.R_newM (M:=fun k_=>(P1_ k_∨w.heap.size≤k_)) ho31 (by first|exact HK.z.1|exact (show Kept w _ (fun k_=>(P1_ k_)∨k_=g) from by repeat (first|(with_reducible first|exact HK.z|apply Kept.alloc|apply Kept.drewN|apply Kept.drew|refine Kept.setCell ?_ (.inl (.inr rfl)) _)|exact HK.z)).1) (fun k_ h_=>.inr h_)) (Kd.R_lt (aR HO1.z))) (Kd.R_lt (aR HO124.z))) (below_size (aG (IsS89.ge HI0.z) HB.z)));replace HO1:=elR HO1 (Kd.R_base ho31) hb;replace HO124:=elR HO124 (Kd.R_base ho31) hb;replace HK:=k0 (Kept.below (S:=(fun k_=>(P1_ k_)∨k_=g)) (by repeat (first|(with_reducible first|exact HK.z|apply Kept.alloc|apply Kept.drewN|apply Kept.drew|refine Kept.setCell ?_ (.inl (.inr rfl)) _)|exact HK.z)) hb);replace HB:=k0 (below_step (aG (IsS89.ge HI0.z) HB.z) hb);replace HI0:=k0 (IsS89.below (aIsS89 HI0.z) hb);clear hb ho31;obtain ⟨Ao32,co32,rfl⟩:=Kd.R_slice HO127.z)|(refine gate_callee (f:=67) rfl ?_;refine gC (some 29) Try.func67 #[.pointer (some ⟨g,0,none⟩),.slice Ao32 y125.length co32] ?_;(with_reducible refine (F67.calls g s0_0 t102 t103 _ _ y125 t128 t129 t130 w0 _ ?side1 ?side2 ?side3 ?side4 ?side5 A25.z).mono ?_);(case side1=>exact aIsS89 HI0.z);(case side2=>exact aG (IsS89.ge HI0.z) HB.z);(case side3=>exact aC ((Kd.R_reads' HO127.z).2.2));(case side4=>exact (Kd.R_reads' HO127.z).2.1);(case side5=>exact far_slice (IsS89.own_ne HI0.z HO127.z (by decide)));rintro e w33 ⟨rfl,hi,hb,hk⟩;refine ⟨_,rfl,?_⟩;replace HO1:=k0 (Kd.R_mono (Kd.R_keep (IsS89.apart (show IsS89 w0 _ g s0_0 t102 t103 from aIsS89 HI0.z) (aR HO1.z) (by decide)) hk (fun _ h=>h.2)) (fun _ h=>h.1));replace HO124:=k0 (Kd.R_mono (Kd.R_keep (IsS89.apart (show IsS89 w0 _ g s0_0 t102 t103 from aIsS89 HI0.z) (aR HO124.z) (by decide)) hk (fun _ h=>h.2)) (fun _ h=>h.1));replace HO127:=k0 (Kd.R_mono (Kd.R_keep (IsS89.apart (show IsS89 w0 _ g s0_0 t102 t103 from aIsS89 HI0.z) (aR HO127.z) (by decide)) hk (fun _ h=>h.2)) (fun _ h=>h.1));replace HK:=k0 (Kept.of_keep (S:=(fun k_=>(P1_ k_)∨k_=g)) (by repeat (first|(with_reducible first|exact HK.z|apply Kept.alloc|apply Kept.drewN|apply Kept.drew|refine Kept.setCell ?_ (.inl (.inr rfl)) _)|exact HK.z)) hk (.inl (.inr rfl)));replace HB:=k0 hb;replace HI0:=k0 hi)|((with_reducible refine gate_builtin (b:=.append) (xs:=#[.tmp 26,.tmp 30]) rfl ?_);at_builtin;refine Kd.R_append (Kd.int .i64) (w0:=w0) w0.heap.size rfl (.tmp 26) (.tmp 30) 27 2 (.int .i64 0) 8 rfl Try.underlying27 info2 rfl (by decide) (by omega) v123 t122 t128 [.int .i64 t128] (fun k_=>(P1_ k_∨w.heap.size≤k_)∧some k_ ≠ (.slice Ao28 l1.length co28:Value).ownBlock∧some k_ ≠ (.slice Ao32 y125.length co32:Value).ownBlock) (fun _=>False) rfl rfl ?aP (fun _ hk=>hk.elim) ?aF ?aO ?aB ?aS ?aL ?_;(case aP=>exact rfl);(case aB=>exact (aG (IsS89.ge HI0.z) HB.z));(case aF=>exact (fun k_ hk=>⟨(.inr (Nat.le_trans (by first|exact HK.z.1|exact (show Kept w _ (fun k_=>(P1_ k_)∨k_=g) from by repeat (first|(with_reducible first|exact HK.z|apply Kept.alloc|apply Kept.drewN|apply Kept.drew|refine Kept.setCell ?_ (.inl (.inr rfl)) _)|exact HK.z)).1) hk)),Kd.fresh' (Kd.R_lt (aR HO1.z)) k_ hk,Kd.fresh' (Kd.R_lt (aR HO127.z)) k_ hk⟩));(case aO=>exact (aR (Kd.R_mono HO124.z (fun _ hk=>⟨hk.1.1.1,⟨hk.1.2,hk.2⟩⟩))));(case aS=>exact (below_size (aG (IsS89.ge HI0.z) HB.z)));(case aL=>have:=LMc26.out;omega);intro v132 w34 ho hb hg hat;rw [← Ny131.z] at ho;replace HI0:=k0 (IsS89.grown (aIsS89 HI0.z) hg (IsS89.own_ne HI0.z HO124.z (by decide)));replace HO1:=k0 (Kd.R_after (ok:=(fun k_=>(P1_ k_∨w.heap.size≤k_)∧some k_ ≠ (.slice Ao32 y125.length co32:Value).ownBlock)) (aR (Kd.R_mono HO1.z (fun _ hk=>⟨⟨hk.1.1,hk.2⟩,hk.1.2⟩))) hg hat);replace HO127:=k0 (Kd.R_after (ok:=(fun k_=>(P1_ k_∨w.heap.size≤k_)∧some k_ ≠ (.slice Ao28 l1.length co28:Value).ownBlock)) (aR (Kd.R_mono HO127.z (fun _ hk=>⟨⟨hk.1.1.1,hk.1.2⟩,hk.2⟩))) hg hat);replace HB:=k0 hb;replace HK:=k0 (Kept.of_grown (S:=(fun k_=>(P1_ k_)∨k_=g)) hg (by repeat (first|(with_reducible first|exact HK.z|apply Kept.alloc|apply Kept.drewN|apply Kept.drew|refine Kept.setCell ?_ (.inl (.inr rfl)) _)|exact HK.z)) (fun k_ e_=>Or.imp_left Or.inl ((HO124.z.1 k_ e_).1.1.1)));have HO133:=k0 ho;clear HO124;clear ho hb hg hat))
   go_ret
   exact ⟨_,eR,aR (Kd.R_mono HO133.z (fun _ hk=>hk.1)),aIsS89 HI0.z,aG (IsS89.ge HI0.z) HB.z,by repeat (first|(with_reducible first|exact HK.z|apply Kept.alloc|apply Kept.drewN|apply Kept.drew|refine Kept.setCell ?_ (.inl (.inr rfl)) _)|exact HK.z)⟩
  replace H:=bS H;obtain ⟨t110,A12,H⟩:=H
  obtain ⟨y113,Ny113⟩:=nY (([1000000000000001,(-1000000000000001)]:List Int):List Int)
  replace H:((F67.f s0_0 t102 t103 y113).bind fun bt116=>(if t110.length < 17592186044416 then (some ((t110 ++ [bt116.1]),bt116.2.1,bt116.2.2)) else (none)))=some (r1,r2,r3):=rH Ny113.z H
  replace H:=bS H;obtain ⟨⟨t116,t117,t118⟩,A13,H⟩:=H
  dsimp only at H
  replace H:=iS H;obtain ⟨c14,H⟩:=H
  have LMc14:=k0 c14
  clear c14
  obtain ⟨y119,Ny119⟩:=nY (t110 ++ [t116]:List Int)
  replace H:(some (y119,t117,t118))=some (r1,r2,r3):=rH Ny119.z H
  simp only [Option.some.injEq,Prod.mk.injEq] at H
  obtain ⟨rfl,rfl,rfl⟩:=H
  go_enter Try.func105,Try.ntmps105
  go_wp2_with (first|(refine gate_callee (f:=60) rfl ?_;refine gC (some 7) Try.func60 #[.pointer (some ⟨g,0,none⟩),.int .i64 30] ?_;(with_reducible refine (F60.calls g s0_0 s0_1 s0_2 30 t101 t102 t103 w0 _ ?side1 ?side2 A3.z).mono ?_);(case side1=>exact aIsS89 HI0.z);(case side2=>exact aG (IsS89.ge HI0.z) HB.z);rintro e w15 ⟨rfl,hi,hb,hk⟩;refine ⟨_,rfl,?_⟩;replace HO1:=k0 (Kd.R_mono (Kd.R_keep (IsS89.apart (show IsS89 w0 _ g s0_0 s0_1 s0_2 from aIsS89 HI0.z) (aR HO1.z) (by decide)) hk (fun _ h=>h.2)) (fun _ h=>h.1));replace HK:=k0 (Kept.of_keep (S:=(fun k_=>(P1_ k_)∨k_=g)) (by repeat (first|(with_reducible first|exact HK.z|apply Kept.alloc|apply Kept.drewN|apply Kept.drew|refine Kept.setCell ?_ (.inl (.inr rfl)) _)|exact HK.z)) hk (.inl (.inr rfl)));replace HB:=k0 hb;replace HI0:=k0 hi;obtain ⟨Ao16,co16,rfl⟩:=Kd.R_slice HO1.z)|(refine gate_callee (f:=94) rfl ?_;refine gC (some 17) Try.func94 #[.slice Ao16 l1.length co16] ?_;(with_reducible refine (F94.calls _ _ l1 t110 _ ?side1 ?side2 A12.z).mono ?_);(case side1=>exact aC ((Kd.R_reads' HO1.z).2.2));(case side2=>exact (Kd.R_reads' HO1.z).2.1);rintro e w17 ⟨v111,rfl,ho0,hb⟩;refine ⟨_,rfl,?_⟩;have HO112:=k0 (Kd.R_lower (Kd.R_new' (Kd.R_newM (M:=fun k_=>(P1_ k_∨w.heap.size≤k_)) ho0 (by first|exact HK.z.1|exact (show Kept w _ (fun k_=>(P1_ k_)∨k_=g) from by repeat (first|(with_reducible first|exact HK.z|apply Kept.alloc|apply Kept.drewN|apply Kept.drew|refine Kept.setCell ?_ (.inl (.inr rfl)) _)|exact HK.z)).1) (fun k_ h_=>.inr h_)) (Kd.R_lt (aR HO1.z))) (below_size (aG (IsS89.ge HI0.z) HB.z)));replace HO1:=elR HO1 (Kd.R_base ho0) hb;replace HK:=k0 (Kept.below (S:=(fun k_=>(P1_ k_)∨k_=g)) (by repeat (first|(with_reducible first|exact HK.z|apply Kept.alloc|apply Kept.drewN|apply Kept.drew|refine Kept.setCell ?_ (.inl (.inr rfl)) _)|exact HK.z)) hb);replace HB:=k0 (below_step (aG (IsS89.ge HI0.z) HB.z) hb);replace HI0:=k0 (IsS89.below (aIsS89 HI0.z) hb))|(refine gate_dst (N:=19) rfl ?_;refine zRt 2 (N:=19) (xs:=([1000000000000001,(-1000000000000001)]:List Int)) (inner:=[.int .i64 1000000000000001,.int .i64 (-1000000000000001)]) (Reps.one (show Kd.M (Kd.int .i64) _ _ _ 1000000000000001 [.int .i64 1000000000000001] from rfl) (Reps.one (show Kd.M (Kd.int .i64) _ _ _ (-1000000000000001) [.int .i64 (-1000000000000001)] from rfl) (Reps.none _ _))) ?_;intro v114 w18 ho19 hb hg_ hnew_;clear hg_ hnew_;(first|rw [← Ny113.z] at ho19|(simp only [Int.reduceToNat] at ho19;rw [← Ny113.z] at ho19));have HO115:=k0 (Kd.R_lower (Kd.R_new' (Kd.R_new' (Kd.R_newM (M:=fun k_=>(P1_ k_∨w.heap.size≤k_)) ho19 (by first|exact HK.z.1|exact (show Kept w _ (fun k_=>(P1_ k_)∨k_=g) from by repeat (first|(with_reducible first|exact HK.z|apply Kept.alloc|apply Kept.drewN|apply Kept.drew|refine Kept.setCell ?_ (.inl (.inr rfl)) _)|exact HK.z)).1) (fun k_ h_=>.inr h_)) (Kd.R_lt (aR HO1.z))) (Kd.R_lt (aR HO112.z))) (below_size (aG (IsS89.ge HI0.z) HB.z)));replace HO1:=elR HO1 (Kd.R_base ho19) hb;replace HO112:=elR HO112 (Kd.R_base ho19) hb;replace HK:=k0 (Kept.below (S:=(fun k_=>(P1_ k_)∨k_=g)) (by repeat (first|(with_reducible first|exact HK.z|apply Kept.alloc|apply Kept.drewN|apply Kept.drew|refine Kept.setCell ?_ (.inl (.inr rfl)) _)|exact HK.z)) hb);replace HB:=k0 (below_step (aG (IsS89.ge HI0.z) HB.z) hb);replace HI0:=k0 (IsS89.below (aIsS89 HI0.z) hb);clear hb ho19;obtain ⟨Ao20,co20,rfl⟩:=Kd.R_slice HO115.z)|(refine gate_callee (f:=67) rfl ?_;refine gC (some 20) Try.func67 #[.pointer (some ⟨g,0,none⟩),.slice Ao20 y113.length co20] ?_;(with_reducible refine (F67.calls g s0_0 t102 t103 _ _ y113 t116 t117 t118 w0 _ ?side1 ?side2 ?side3 ?side4 ?side5 A13.z).mono ?_);(case side1=>exact aIsS89 HI0.z);(case side2=>exact aG (IsS89.ge HI0.z) HB.z);(case side3=>exact aC ((Kd.R_reads' HO115.z).2.2));(case side4=>exact (Kd.R_reads' HO115.z).2.1);(case side5=>exact far_slice (IsS89.own_ne HI0.z HO115.z (by decide)));rintro e w21 ⟨rfl,hi,hb,hk⟩;refine ⟨_,rfl,?_⟩;replace HO1:=k0 (Kd.R_mono (Kd.R_keep (IsS89.apart (show IsS89 w0 _ g s0_0 t102 t103 from aIsS89 HI0.z) (aR HO1.z) (by decide)) hk (fun _ h=>h.2)) (fun _ h=>h.1));replace HO112:=k0 (Kd.R_mono (Kd.R_keep (IsS89.apart (show IsS89 w0 _ g s0_0 t102 t103 from aIsS89 HI0.z) (aR HO112.z) (by decide)) hk (fun _ h=>h.2)) (fun _ h=>h.1));replace HO115:=k0 (Kd.R_mono (Kd.R_keep (IsS89.apart (show IsS89 w0 _ g s0_0 t102 t103 from aIsS89 HI0.z) (aR HO115.z) (by decide)) hk (fun _ h=>h.2)) (fun _ h=>h.1));replace HK:=k0 (Kept.of_keep (S:=(fun k_=>(P1_ k_)∨k_=g)) (by repeat (first|(with_reducible first|exact HK.z|apply Kept.alloc|apply Kept.drewN|apply Kept.drew|refine Kept.setCell ?_ (.inl (.inr rfl)) _)|exact HK.z)) hk (.inl (.inr rfl)));replace HB:=k0 hb;replace HI0:=k0 hi)|((with_reducible refine gate_builtin (b:=.append) (xs:=#[.tmp 17,.tmp 21]) rfl ?_);at_builtin;refine Kd.R_append (Kd.int .i64) (w0:=w0) w0.heap.size rfl (.tmp 17) (.tmp 21) 27 2 (.int .i64 0) 8 rfl Try.underlying27 info2 rfl (by decide) (by omega) v111 t110 t116 [.int .i64 t116] (fun k_=>(P1_ k_∨w.heap.size≤k_)∧some k_ ≠ (.slice Ao16 l1.length co16:Value).ownBlock∧some k_ ≠ (.slice Ao20 y113.length co20:Value).ownBlock) (fun _=>False) rfl rfl ?aP (fun _ hk=>hk.elim) ?aF ?aO ?aB ?aS ?aL ?_;(case aP=>exact rfl);(case aB=>exact (aG (IsS89.ge HI0.z) HB.z));(case aF=>exact (fun k_ hk=>⟨(.inr (Nat.le_trans (by first|exact HK.z.1|exact (show Kept w _ (fun k_=>(P1_ k_)∨k_=g) from by repeat (first|(with_reducible first|exact HK.z|apply Kept.alloc|apply Kept.drewN|apply Kept.drew|refine Kept.setCell ?_ (.inl (.inr rfl)) _)|exact HK.z)).1) hk)),Kd.fresh' (Kd.R_lt (aR HO1.z)) k_ hk,Kd.fresh' (Kd.R_lt (aR HO115.z)) k_ hk⟩));(case aO=>exact (aR (Kd.R_mono HO112.z (fun _ hk=>⟨hk.1.1.1,⟨hk.1.2,hk.2⟩⟩))));(case aS=>exact (below_size (aG (IsS89.ge HI0.z) HB.z)));(case aL=>have:=LMc14.out;omega);intro v120 w22 ho hb hg hat;rw [← Ny119.z] at ho;replace HI0:=k0 (IsS89.grown (aIsS89 HI0.z) hg (IsS89.own_ne HI0.z HO112.z (by decide)));replace HO1:=k0 (Kd.R_after (ok:=(fun k_=>(P1_ k_∨w.heap.size≤k_)∧some k_ ≠ (.slice Ao20 y113.length co20:Value).ownBlock)) (aR (Kd.R_mono HO1.z (fun _ hk=>⟨⟨hk.1.1,hk.2⟩,hk.1.2⟩))) hg hat);replace HO115:=k0 (Kd.R_after (ok:=(fun k_=>(P1_ k_∨w.heap.size≤k_)∧some k_ ≠ (.slice Ao16 l1.length co16:Value).ownBlock)) (aR (Kd.R_mono HO115.z (fun _ hk=>⟨⟨hk.1.1.1,hk.1.2⟩,hk.2⟩))) hg hat);replace HB:=k0 hb;replace HK:=k0 (Kept.of_grown (S:=(fun k_=>(P1_ k_)∨k_=g)) hg (by repeat (first|(with_reducible first|exact HK.z|apply Kept.alloc|apply Kept.drewN|apply Kept.drew|refine Kept.setCell ?_ (.inl (.inr rfl)) _)|exact HK.z)) (fun k_ e_=>Or.imp_left Or.inl ((HO112.z.1 k_ e_).1.1.1)));have HO121:=k0 ho;clear HO112;clear ho hb hg hat))
  go_ret
  exact ⟨_,eR,aR (Kd.R_mono HO121.z (fun _ hk=>hk.1)),aIsS89 HI0.z,aG (IsS89.ge HI0.z) HB.z,by repeat (first|(with_reducible first|exact HK.z|apply Kept.alloc|apply Kept.drewN|apply Kept.drew|refine Kept.setCell ?_ (.inl (.inr rfl)) _)|exact HK.z)⟩
 replace H:=bS H;obtain ⟨t104,A5,H⟩:=H
 replace H:=iS H;obtain ⟨c6,H⟩:=H
 have LMc6:=k0 c6
 clear c6
 obtain ⟨y107,Ny107⟩:=nY (t104 ++ [0]:List Int)
 replace H:(some (y107,t102,t103))=some (r1,r2,r3):=rH Ny107.z H
 simp only [Option.some.injEq,Prod.mk.injEq] at H
 obtain ⟨rfl,rfl,rfl⟩:=H
 go_enter Try.func105,Try.ntmps105
 go_wp2_with (first|(refine gate_callee (f:=60) rfl ?_;refine gC (some 7) Try.func60 #[.pointer (some ⟨g,0,none⟩),.int .i64 30] ?_;(with_reducible refine (F60.calls g s0_0 s0_1 s0_2 30 t101 t102 t103 w0 _ ?side1 ?side2 A3.z).mono ?_);(case side1=>exact aIsS89 HI0.z);(case side2=>exact aG (IsS89.ge HI0.z) HB.z);rintro e w7 ⟨rfl,hi,hb,hk⟩;refine ⟨_,rfl,?_⟩;replace HO1:=k0 (Kd.R_mono (Kd.R_keep (IsS89.apart (show IsS89 w0 _ g s0_0 s0_1 s0_2 from aIsS89 HI0.z) (aR HO1.z) (by decide)) hk (fun _ h=>h.2)) (fun _ h=>h.1));replace HK:=k0 (Kept.of_keep (S:=(fun k_=>(P1_ k_)∨k_=g)) (by repeat (first|(with_reducible first|exact HK.z|apply Kept.alloc|apply Kept.drewN|apply Kept.drew|refine Kept.setCell ?_ (.inl (.inr rfl)) _)|exact HK.z)) hk (.inl (.inr rfl)));replace HB:=k0 hb;replace HI0:=k0 hi;obtain ⟨Ao8,co8,rfl⟩:=Kd.R_slice HO1.z)|(refine gate_callee (f:=94) rfl ?_;refine gC (some 11) Try.func94 #[.slice Ao8 l1.length co8] ?_;(with_reducible refine (F94.calls _ _ l1 t104 _ ?side1 ?side2 A5.z).mono ?_);(case side1=>exact aC ((Kd.R_reads' HO1.z).2.2));(case side2=>exact (Kd.R_reads' HO1.z).2.1);rintro e w9 ⟨v105,rfl,ho0,hb⟩;refine ⟨_,rfl,?_⟩;have HO106:=k0 (Kd.R_lower (Kd.R_new' (Kd.R_newM (M:=fun k_=>(P1_ k_∨w.heap.size≤k_)) ho0 (by first|exact HK.z.1|exact (show Kept w _ (fun k_=>(P1_ k_)∨k_=g) from by repeat (first|(with_reducible first|exact HK.z|apply Kept.alloc|apply Kept.drewN|apply Kept.drew|refine Kept.setCell ?_ (.inl (.inr rfl)) _)|exact HK.z)).1) (fun k_ h_=>.inr h_)) (Kd.R_lt (aR HO1.z))) (below_size (aG (IsS89.ge HI0.z) HB.z)));replace HO1:=elR HO1 (Kd.R_base ho0) hb;replace HK:=k0 (Kept.below (S:=(fun k_=>(P1_ k_)∨k_=g)) (by repeat (first|(with_reducible first|exact HK.z|apply Kept.alloc|apply Kept.drewN|apply Kept.drew|refine Kept.setCell ?_ (.inl (.inr rfl)) _)|exact HK.z)) hb);replace HB:=k0 (below_step (aG (IsS89.ge HI0.z) HB.z) hb);replace HI0:=k0 (IsS89.below (aIsS89 HI0.z) hb))|((with_reducible refine gate_builtin (b:=.append) (xs:=#[.tmp 11,.tmp 12]) rfl ?_);at_builtin;refine Kd.R_append (Kd.int .i64) (w0:=w0) w0.heap.size rfl (.tmp 11) (.tmp 12) 27 2 (.int .i64 0) 8 rfl Try.underlying27 info2 rfl (by decide) (by omega) v105 t104 0 [.int .i64 0] (fun k_=>(P1_ k_∨w.heap.size≤k_)∧some k_ ≠ (.slice Ao8 l1.length co8:Value).ownBlock) (fun _=>False) rfl rfl ?aP (fun _ hk=>hk.elim) ?aF ?aO ?aB ?aS ?aL ?_;(case aP=>exact rfl);(case aB=>exact (aG (IsS89.ge HI0.z) HB.z));(case aF=>exact (fun k_ hk=>⟨(.inr (Nat.le_trans (by first|exact HK.z.1|exact (show Kept w _ (fun k_=>(P1_ k_)∨k_=g) from by repeat (first|(with_reducible first|exact HK.z|apply Kept.alloc|apply Kept.drewN|apply Kept.drew|refine Kept.setCell ?_ (.inl (.inr rfl)) _)|exact HK.z)).1) hk)),Kd.fresh' (Kd.R_lt (aR HO1.z)) k_ hk⟩));(case aO=>exact (aR (Kd.R_mono HO106.z (fun _ hk=>⟨hk.1.1,hk.2⟩))));(case aS=>exact (below_size (aG (IsS89.ge HI0.z) HB.z)));(case aL=>have:=LMc6.out;omega);intro v108 w10 ho hb hg hat;rw [← Ny107.z] at ho;replace HI0:=k0 (IsS89.grown (aIsS89 HI0.z) hg (IsS89.own_ne HI0.z HO106.z (by decide)));replace HO1:=k0 (Kd.R_after (ok:=(fun k_=>(P1_ k_∨w.heap.size≤k_))) (aR HO1.z) hg hat);replace HB:=k0 hb;replace HK:=k0 (Kept.of_grown (S:=(fun k_=>(P1_ k_)∨k_=g)) hg (by repeat (first|(with_reducible first|exact HK.z|apply Kept.alloc|apply Kept.drewN|apply Kept.drew|refine Kept.setCell ?_ (.inl (.inr rfl)) _)|exact HK.z)) (fun k_ e_=>Or.imp_left Or.inl ((HO106.z.1 k_ e_).1.1)));have HO109:=k0 ho;clear HO106;clear ho hb hg hat))
 go_ret
 exact ⟨_,eR,aR (Kd.R_mono HO109.z (fun _ hk=>hk.1)),aIsS89 HI0.z,aG (IsS89.ge HI0.z) HB.z,by repeat (first|(with_reducible first|exact HK.z|apply Kept.alloc|apply Kept.drewN|apply Kept.drew|refine Kept.setCell ?_ (.inl (.inr rfl)) _)|exact HK.z)⟩
end Go.Proofs.Ytgjdbnipcpmhiaa.P
/- Set with little white space, by a program. -/
