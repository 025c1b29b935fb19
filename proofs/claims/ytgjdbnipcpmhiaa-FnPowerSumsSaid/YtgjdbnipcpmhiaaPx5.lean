/- Go's calls come to what the Lean functions say. Condition of each: that the Lean function answers. -/
import Derived.Test.YtgjdbnipcpmhiaaPx0
import Derived.Test.YtgjdbnipcpmhiaaPx1
import Derived.Test.YtgjdbnipcpmhiaaPx2
import Derived.Test.YtgjdbnipcpmhiaaPx3
import Derived.Test.YtgjdbnipcpmhiaaPx4
namespace Go.Proofs.Ytgjdbnipcpmhiaa.P
open Go.RowKit Go.Proofs.YtgjdbnipcpmhiaaW.PrintWords Go.Proofs.YtgjdbnipcpmhiaaW.PrintLast Go.Proofs.YtgjdbnipcpmhiaaW.PrintMore
attribute [local go_sem] max2_int min2_int max_two min_two max_three min_three max_four min_four
set_option linter.unusedVariables false
set_option linter.unusedSimpArgs false
set_option maxHeartbeats 8000000
set_option maxRecDepth 100000
/-! ### F66: function 66 -/
def F66.j0 : Nat → List Int → List Int → Int → Int → Option (List Int × Int × Int)
 | 0,_,_,_,_=>none
 | k+1,x3,x1000,x1001,x1002=>(F60.f x1000 x1001 x1002 20).bind fun bt133=>(if bt133.1=0 then ((F103.f k x1000 bt133.2.1 bt133.2.2 5).bind fun bt136=>((F105.f k x1000 bt136.2.1 bt136.2.2 bt136.1).bind fun bt141=>(some (bt141.1,bt141.2.1,bt141.2.2)))) else ((F105.f k x1000 bt133.2.1 bt133.2.2 x3).bind fun bt146=>(some (bt146.1,bt146.2.1,bt146.2.2))))
def F66.f (k:Nat) (s0_0:List Int) (s0_1:Int) (s0_2:Int):Option (List Int × Int × Int):=(some (([1]:List Int):List Int)).bind fun y101=>((F103.f k s0_0 s0_1 s0_2 6).bind fun bt104=>(if y101.length+bt104.1.length < 17592186044416 then ((F90.f k (y101 ++ bt104.1)).bind fun t112=>((F60.f s0_0 bt104.2.1 bt104.2.2 3).bind fun bt115=>(if bt115.1=0 then ((F60.f s0_0 bt115.2.1 bt115.2.2 4).bind fun bt118=>((F63.f k s0_0 bt118.2.1 bt118.2.2 (wrap64 (1+bt118.1)) 4).bind fun bt121=>((F104.f k bt121.1 bt121.2.1).bind fun t127=>((F98.f k t127).bind fun t130=>(F66.j0 k t130 s0_0 bt121.2.2.1 bt121.2.2.2))))) else (F66.j0 k t112 s0_0 bt115.2.1 bt115.2.2)))) else (none)))
theorem F66.calls (k : Nat) (g : Nat) (s0_0 : List Int) (s0_1 : Int) (s0_2 : Int) (r1 : List Int) (r2 : Int) (r3 : Int) (w0 w : World) (hI : IsS89 w0 w g s0_0 s0_1 s0_2) (hB : Below w0.heap.size w0 w) (h : F66.f k s0_0 s0_1 s0_2 = some (r1, r2, r3)) :
  Calls Try.prog 66 #[.pointer (some ⟨g,0,none⟩)] w fun e w'=>∃ v0_:Value,e=.returned (v0_)∧Kd.R (Kd.int .i64) 2 w' w.heap.size (fun _=>True) v0_ r1∧IsS89 w0 w' g s0_0 r2 r3∧Below w0.heap.size w0 w'∧KeepBut w w' g none:=by
 have HI0:=k0 hI
 have HK:=k0 (KeepBut.refl w g none)
 have HL:=k0 hB.size
 clear hI
 have HW0:=k0 hB.size
 have HB:=k0 hB
 clear hB
 unfold F66.f at h
 have H:=h
 clear h
 obtain ⟨y101,Ny101⟩:=nY (([1]:List Int):List Int)
 replace H:((F103.f k s0_0 s0_1 s0_2 6).bind fun bt104=>(if y101.length+bt104.1.length < 17592186044416 then ((F90.f k (y101 ++ bt104.1)).bind fun t112=>((F60.f s0_0 bt104.2.1 bt104.2.2 3).bind fun bt115=>(if bt115.1=0 then ((F60.f s0_0 bt115.2.1 bt115.2.2 4).bind fun bt118=>((F63.f k s0_0 bt118.2.1 bt118.2.2 (wrap64 (1+bt118.1)) 4).bind fun bt121=>((F104.f k bt121.1 bt121.2.1).bind fun t127=>((F98.f k t127).bind fun t130=>(F66.j0 k t130 s0_0 bt121.2.2.1 bt121.2.2.2))))) else (F66.j0 k t112 s0_0 bt115.2.1 bt115.2.2)))) else (none)))=some (r1,r2,r3):=rH Ny101.z H
 replace H:=bS H;obtain ⟨⟨t104,t107,t108⟩,A2,H⟩:=H
 dsimp only at H
 replace H:=iS H;obtain ⟨c3,H⟩:=H
 have LMc3:=k0 c3
 clear c3
 obtain ⟨y109,Ny109⟩:=nY (y101 ++ t104:List Int)
 replace H:((F90.f k y109).bind fun t112=>((F60.f s0_0 t107 t108 3).bind fun bt115=>(if bt115.1=0 then ((F60.f s0_0 bt115.2.1 bt115.2.2 4).bind fun bt118=>((F63.f k s0_0 bt118.2.1 bt118.2.2 (wrap64 (1+bt118.1)) 4).bind fun bt121=>((F104.f k bt121.1 bt121.2.1).bind fun t127=>((F98.f k t127).bind fun t130=>(F66.j0 k t130 s0_0 bt121.2.2.1 bt121.2.2.2))))) else (F66.j0 k t112 s0_0 bt115.2.1 bt115.2.2))))=some (r1,r2,r3):=rH Ny109.z H
 replace H:=bS H;obtain ⟨t112,A4,H⟩:=H
 replace H:=bS H;obtain ⟨⟨t115,t116,t117⟩,A5,H⟩:=H
 dsimp only at H
 have HC6:=k0 H
 clear H
 go_enter Try.func66,Try.ntmps66
 go_upto_if 11 with (first|(refine gate_dst (N:=4) rfl ?_;refine zRt 2 (N:=4) (xs:=([1]:List Int)) (inner:=[.int .i64 1]) (Reps.one (show Kd.M (Kd.int .i64) _ _ _ 1 [.int .i64 1] from rfl) (Reps.none _ _)) ?_;intro v102 w7 ho8 hb hg_ hnew_;clear hg_ hnew_;(first|rw [← Ny101.z] at ho8|(simp only [Int.reduceToNat] at ho8;rw [← Ny101.z] at ho8));have HO103:=k0 (Kd.R_lower ho8 (keep_size (aK HK.z)));replace HK:=zKd HK hb;replace HB:=k0 (below_step (aG (IsS89.ge HI0.z) HB.z) hb);replace HI0:=k0 (IsS89.below (aIsS89 HI0.z) hb);clear hb ho8)|(refine gate_callee (f:=103) rfl ?_;refine gC (some 6) Try.func103 #[.pointer (some ⟨g,0,none⟩),.int .i64 6] ?_;(with_reducible refine (F103.calls k g s0_0 s0_1 s0_2 6 t104 t107 t108 w0 _ ?side1 ?side2 A2.z).mono ?_);(case side1=>exact aIsS89 HI0.z);(case side2=>exact aG (IsS89.ge HI0.z) HB.z);rintro e w9 ⟨v105,rfl,ho0,hi,hb,hk⟩;refine ⟨_,rfl,?_⟩;have HO106:=k0 (Kd.R_lower (Kd.R_new' ho0 (Kd.R_lt (aR HO103.z))) (keep_size (aK HK.z)));replace HO103:=k0 (Kd.R_mono (Kd.R_told (Kd.R_oldK (IsS89.apart (show IsS89 w0 _ g s0_0 s0_1 s0_2 from aIsS89 HI0.z) (aR HO103.z) (by decide)) hk) (Kd.R_base ho0)) (fun _ h_=>h_.1));replace HK:=zKc HK hk;replace HB:=k0 hb;replace HI0:=k0 hi;obtain ⟨Ao11,co11,rfl⟩:=Kd.R_slice HO106.z)|((with_reducible refine gate_builtin (b:=.append) (xs:=#[.tmp 4,.tmp 6]) rfl ?_);at_builtin;refine Kd.R_append_rows (Kd.int .i64) w.heap.size rfl (.tmp 4) (.tmp 6) 27 2 (.int .i64 0) 8 rfl Try.underlying27 info2 rfl (by decide) (by omega) v102 y101 t104 _ _ _ (fun k_=>some k_ ≠ (.slice Ao11 t104.length co11:Value).ownBlock) (fun _=>False) rfl rfl ?aO ?aR (fun _ _ h=>h) (fun _ h=>h.elim) ?aF (Below.refl _ _) ?aS ?aL ?_;(case aR=>repeat (first|exact (Kd.R_reads' HO106.z).2.2|(with_reducible refine Kd.C_alloc ?_ _)|(with_reducible refine Kd.C_drewN ?_ _)|(with_reducible refine Kd.C_drew ?_)));(case aF=>exact (fun k_ hk=>Kd.fresh' (Kd.R_lt (aR HO106.z)) k_ hk));(case aO=>exact (aR (Kd.R_mono HO103.z (fun _ hk=>hk.2))));(case aS=>exact (keep_size (aK HK.z)));(case aL=>have:=LMc3.out;omega);intro v110 w10 ho hb hg hat;rw [← Ny109.z] at ho;replace HO106:=k0 (Kd.R_after (ok:=(fun _=>True)) (aR HO106.z) hg hat);replace HB:=k0 (below_weaken (aG (IsS89.ge HI0.z) HB.z) HL.z hb);replace HI0:=k0 (IsS89.grown (aIsS89 HI0.z) hg (IsS89.own_ne HI0.z HO103.z (by decide)));replace HK:=k0 (KeepBut.trans (aK HK.z) (KeepBut.of_grown hg g) (Kd.R_base2 HO103.z));have HO111:=k0 ho;clear HO103;clear ho hb hg hat;obtain ⟨Ao12,co12,rfl⟩:=Kd.R_slice HO111.z)|(refine gate_callee (f:=90) rfl ?_;refine gC (some 8) Try.func90 #[.slice Ao12 y109.length co12] ?_;(with_reducible refine (F90.calls k _ _ y109 t112 _ ?side1 ?side2 A4.z).mono ?_);(case side1=>exact aC ((Kd.R_reads' HO111.z).2.2));(case side2=>exact (Kd.R_reads' HO111.z).2.1);rintro e w13 ⟨v113,rfl,ho0,hb⟩;refine ⟨_,rfl,?_⟩;have HO114:=k0 (Kd.R_lower (Kd.R_new' (Kd.R_new' ho0 (Kd.R_lt (aR HO106.z))) (Kd.R_lt (aR HO111.z))) (keep_size (aK HK.z)));replace HO106:=elR HO106 (Kd.R_base ho0) hb;replace HO111:=elR HO111 (Kd.R_base ho0) hb;replace HK:=zKd HK hb;replace HB:=k0 (below_step (aG (IsS89.ge HI0.z) HB.z) hb);replace HI0:=k0 (IsS89.below (aIsS89 HI0.z) hb))|(refine gate_callee (f:=60) rfl ?_;refine gC (some 10) Try.func60 #[.pointer (some ⟨g,0,none⟩),.int .i64 3] ?_;(with_reducible refine (F60.calls g s0_0 t107 t108 3 t115 t116 t117 w0 _ ?side1 ?side2 A5.z).mono ?_);(case side1=>exact aIsS89 HI0.z);(case side2=>exact aG (IsS89.ge HI0.z) HB.z);rintro e w14 ⟨rfl,hi,hb,hk⟩;refine ⟨_,rfl,?_⟩;replace HO106:=k0 (Kd.R_mono (Kd.R_keep (IsS89.apart (show IsS89 w0 _ g s0_0 t107 t108 from aIsS89 HI0.z) (aR HO106.z) (by decide)) hk (fun _ h=>h.2)) (fun _ h=>h.1));replace HO111:=k0 (Kd.R_mono (Kd.R_keep (IsS89.apart (show IsS89 w0 _ g s0_0 t107 t108 from aIsS89 HI0.z) (aR HO111.z) (by decide)) hk (fun _ h=>h.2)) (fun _ h=>h.1));replace HO114:=k0 (Kd.R_mono (Kd.R_keep (IsS89.apart (show IsS89 w0 _ g s0_0 t107 t108 from aIsS89 HI0.z) (aR HO114.z) (by decide)) hk (fun _ h=>h.2)) (fun _ h=>h.1));replace HK:=zKc HK hk;replace HB:=k0 hb;replace HI0:=k0 hi))
 (try simp only [Act.put,zI,zZ,zS])
 go_cut [3] (fun v3 wc=>∃ (kq:Nat) (x3_5:List Int) (x1001_5:Int) (x1002_5:Int),Aside0 (F66.j0 kq x3_5 s0_0 x1001_5 x1002_5=some (r1,r2,r3))∧Aside0 (kq≤k)∧Aside0 (Kd.R (Kd.int .i64) 2 wc w.heap.size (fun _=>True) v3 x3_5)∧Aside0 (IsS89 w0 wc g s0_0 x1001_5 x1002_5)∧Aside0 (KeepBut w wc g none)∧Aside0 (Below w0.heap.size w0 wc))
 case first =>
  have H:=HC6.z
  clear HC6
  replace H:=iE H;obtain ⟨c15,c15b0,c15b1,H⟩|⟨c15b0,c15b1,H⟩:=H
  case inl =>
   (first|rw [c15b0]|(simp only [i64_w,i32_w];rw [c15b0])|skip)
   have H':=k0 H
   clear H
   go_wp2
   go_meet
   case rel=>exact ⟨_,(t112),(t116),(t117),H',⟨oL⟩,⟨aR (Kd.R_mono HO114.z (fun _ hk=>trivial))⟩,⟨aIsS89 HI0.z⟩,⟨aK HK.z⟩,⟨aG (IsS89.ge HI0.z) HB.z⟩⟩
  (first|rw [c15b0]|(simp only [i64_w,i32_w];rw [c15b0])|skip)
  replace H:=bS H;obtain ⟨⟨t118,t119,t120⟩,A16,H⟩:=H
  dsimp only at H
  replace H:=bS H;obtain ⟨⟨t121,t122,t125,t126⟩,A17,H⟩:=H
  dsimp only at H
  replace H:=bS H;obtain ⟨t127,A18,H⟩:=H
  replace H:=bS H;obtain ⟨t130,A19,H⟩:=H
  have H':=k0 H
  clear H
  go_wp2_with (first|(refine gate_callee (f:=60) rfl ?_;refine gC (some 14) Try.func60 #[.pointer (some ⟨g,0,none⟩),.int .i64 4] ?_;(with_reducible refine (F60.calls g s0_0 t116 t117 4 t118 t119 t120 w0 _ ?side1 ?side2 A16.z).mono ?_);(case side1=>exact aIsS89 HI0.z);(case side2=>exact aG (IsS89.ge HI0.z) HB.z);rintro e w20 ⟨rfl,hi,hb,hk⟩;refine ⟨_,rfl,?_⟩;replace HO106:=k0 (Kd.R_mono (Kd.R_keep (IsS89.apart (show IsS89 w0 _ g s0_0 t116 t117 from aIsS89 HI0.z) (aR HO106.z) (by decide)) hk (fun _ h=>h.2)) (fun _ h=>h.1));replace HO111:=k0 (Kd.R_mono (Kd.R_keep (IsS89.apart (show IsS89 w0 _ g s0_0 t116 t117 from aIsS89 HI0.z) (aR HO111.z) (by decide)) hk (fun _ h=>h.2)) (fun _ h=>h.1));replace HO114:=k0 (Kd.R_mono (Kd.R_keep (IsS89.apart (show IsS89 w0 _ g s0_0 t116 t117 from aIsS89 HI0.z) (aR HO114.z) (by decide)) hk (fun _ h=>h.2)) (fun _ h=>h.1));replace HK:=zKc HK hk;replace HB:=k0 hb;replace HI0:=k0 hi)|(refine gate_callee (f:=63) rfl ?_;refine gC (some 16) Try.func63 #[.pointer (some ⟨g,0,none⟩),.int .i64 (wrap64 (1+t118)),.int .i64 4] ?_;(with_reducible refine (F63.calls k g s0_0 t119 t120 (wrap64 (1+t118)) 4 t121 t122 t125 t126 w0 _ ?side1 ?side2 A17.z).mono ?_);(case side1=>exact aIsS89 HI0.z);(case side2=>exact aG (IsS89.ge HI0.z) HB.z);rintro e w21 ⟨v123,rfl,ho0,hi,hb,hk⟩;refine ⟨_,rfl,?_⟩;have HO124:=k0 (Kd.S_lower (Kd.S_new' (Kd.S_new' (Kd.S_new' ho0 (Kd.R_lt (aR HO106.z))) (Kd.R_lt (aR HO111.z))) (Kd.R_lt (aR HO114.z))) (keep_size (aK HK.z)));replace HO106:=k0 (Kd.R_mono (Kd.R_keep (IsS89.apart (show IsS89 w0 _ g s0_0 t119 t120 from aIsS89 HI0.z) (aR HO106.z) (by decide)) hk (fun _ h=>h.2)) (fun _ h=>h.1));replace HO111:=k0 (Kd.R_mono (Kd.R_keep (IsS89.apart (show IsS89 w0 _ g s0_0 t119 t120 from aIsS89 HI0.z) (aR HO111.z) (by decide)) hk (fun _ h=>h.2)) (fun _ h=>h.1));replace HO114:=k0 (Kd.R_mono (Kd.R_keep (IsS89.apart (show IsS89 w0 _ g s0_0 t119 t120 from aIsS89 HI0.z) (aR HO114.z) (by decide)) hk (fun _ h=>h.2)) (fun _ h=>h.1));replace HK:=zKc HK hk;replace HB:=k0 hb;replace HI0:=k0 hi;obtain ⟨Ao22,co22,rfl⟩:=Kd.S_slice HO124.z)|(refine gate_callee (f:=104) rfl ?_;refine gC (some 17) Try.func104 #[.agg #[.int .i64 t121,.slice Ao22 t122.length co22]] ?_;(with_reducible refine (F104.calls k t121 _ _ t122 t127 _ ?side1 ?side2 A18.z).mono ?_);(case side1=>exact aC ((Kd.S_reads' HO124.z).2.2));(case side2=>exact (Kd.S_reads' HO124.z).2.1);rintro e w23 ⟨v128,rfl,ho0,hb⟩;refine ⟨_,rfl,?_⟩;have HO129:=k0 (Kd.S_lower (Kd.S_new' (Kd.S_new' (Kd.S_new' (Kd.S_new' ho0 (Kd.R_lt (aR HO106.z))) (Kd.R_lt (aR HO111.z))) (Kd.R_lt (aR HO114.z))) (Kd.S_lt (aS HO124.z))) (keep_size (aK HK.z)));replace HO106:=bwR HO106 hb;replace HO111:=bwR HO111 hb;replace HO114:=bwR HO114 hb;replace HO124:=elS HO124 (Kd.S_base ho0) hb;replace HK:=zKd HK hb;replace HB:=k0 (below_step (aG (IsS89.ge HI0.z) HB.z) hb);replace HI0:=k0 (IsS89.below (aIsS89 HI0.z) hb);obtain ⟨Ao24,co24,rfl⟩:=Kd.S_slice HO129.z)|(refine gate_callee (f:=98) rfl ?_;refine gC (some 18) Try.func98 #[.slice Ao24 t127.length co24] ?_;(with_reducible refine (F98.calls k _ _ t127 t130 _ ?side1 ?side2 A19.z).mono ?_);(case side1=>exact aC ((Kd.S_reads' HO129.z).2.2));(case side2=>exact (Kd.S_reads' HO129.z).2.1);rintro e w25 ⟨v131,rfl,ho0,hb⟩;refine ⟨_,rfl,?_⟩;replace HO124:=elS HO124 (Kd.R_base ho0) hb;replace HO129:=elS HO129 (Kd.R_base ho0) hb;have HO132:=k0 (Kd.R_lower (Kd.R_new' (Kd.R_new' (Kd.R_new' ho0 (Kd.R_lt (aR HO106.z))) (Kd.R_lt (aR HO111.z))) (Kd.R_lt (aR HO114.z))) (keep_size (aK HK.z)));replace HO106:=elR HO106 (Kd.R_base ho0) hb;replace HO111:=elR HO111 (Kd.R_base ho0) hb;replace HO114:=elR HO114 (Kd.R_base ho0) hb;replace HK:=zKd HK hb;replace HB:=k0 (below_step (aG (IsS89.ge HI0.z) HB.z) hb);replace HI0:=k0 (IsS89.below (aIsS89 HI0.z) hb)))
  go_meet
  case rel=>exact ⟨_,(t130),(t125),(t126),H',⟨oL⟩,⟨aR (Kd.R_mono HO132.z (fun _ hk=>trivial))⟩,⟨aIsS89 HI0.z⟩,⟨aK HK.z⟩,⟨aG (IsS89.ge HI0.z) HB.z⟩⟩
 case rest =>
  clear HC6
  obtain ⟨kq,x3_5,x1001_5,x1002_5,HA,HJ5,HO_3,HI0,HK,HB⟩:=hcut
  cases kq with
  | zero=>exact absurd HA.z (by simp [F66.j0])
  | succ kj5 =>
   have H:=HA.z
   clear HA
   simp only [F66.j0] at H
   replace H:=bS H;obtain ⟨⟨t133,t134,t135⟩,A26,H⟩:=H
   dsimp only at H
   replace H:=iE H;obtain ⟨c27,c27b0,c27b1,H⟩|⟨c27b0,c27b1,H⟩:=H
   case inl =>
    replace H:=bS H;obtain ⟨⟨t146,t149,t150⟩,A34,H⟩:=H
    dsimp only at H
    simp only [Option.some.injEq,Prod.mk.injEq] at H
    obtain ⟨rfl,rfl,rfl⟩:=H
    go_wp2_with (first|(refine gate_callee (f:=60) rfl ?_;refine gC (some 20) Try.func60 #[.pointer (some ⟨g,0,none⟩),.int .i64 20] ?_;(with_reducible refine (F60.calls g s0_0 x1001_5 x1002_5 20 t133 t134 t135 w0 _ ?side1 ?side2 A26.z).mono ?_);(case side1=>exact aIsS89 HI0.z);(case side2=>exact aG (IsS89.ge HI0.z) HB.z);rintro e w35 ⟨rfl,hi,hb,hk⟩;refine ⟨_,rfl,?_⟩;replace HO_3:=k0 (Kd.R_mono (Kd.R_keep (IsS89.apart (show IsS89 w0 _ g s0_0 x1001_5 x1002_5 from aIsS89 HI0.z) (aR HO_3.z) (by decide)) hk (fun _ h=>h.2)) (fun _ h=>h.1));replace HK:=zKc HK hk;replace HB:=k0 hb;replace HI0:=k0 hi;obtain ⟨Ao36,co36,rfl⟩:=Kd.R_slice HO_3.z)|(refine gate_callee (f:=105) rfl ?_;refine gC (some 26) Try.func105 #[.pointer (some ⟨g,0,none⟩),.slice Ao36 x3_5.length co36] ?_;(with_reducible refine (F105.calls kj5 g s0_0 t134 t135 (fun k_=>some k_=(.slice Ao36 x3_5.length co36:Value).ownBlock) (.slice Ao36 x3_5.length co36) x3_5 t146 t149 t150 w0 _ ?side1 ?side2 ?side3 A34.z).mono ?_);(case side1=>exact aIsS89 HI0.z);(case side2=>exact aG (IsS89.ge HI0.z) HB.z);(case side3=>exact Kd.R_lower (Kd.R_tight rfl HO_3.z) HL.z);rintro e w37 ⟨v147,rfl,ho0,hi,hb,hkp⟩;refine ⟨_,rfl,?_⟩;replace HI0:=k0 hi;have HO148:=k0 (Kd.R_mono (ok':=fun k_=>True) (Kd.R_raise (d:=(Kd.int .i64)) (b:=w0.heap.size) (b':=w.heap.size) (fun _ _ _ _ h_=>h_) ho0 (fun k_ e_=>Or.elim (ho0.1 k_ e_) (fun hs_=>(fun e_=>Kd.R_base HO_3.z k_ e_.symm) hs_) (fun hn_=>Nat.le_trans (keep_size (aK HK.z)) hn_))) (fun k_ hk_=>trivial));replace HK:=k0 (Kept.keepG (aK HK.z) hkp (fun k_ hs_=>Or.elim hs_ (fun hs_=>(fun e_=>.inr (Kd.R_base HO_3.z k_ e_.symm)) hs_) (fun e_=>.inl e_)));replace HB:=k0 hb;clear HO_3))
    go_ret
    exact ⟨_,eR,aR HO148.z,aIsS89 HI0.z,aG (IsS89.ge HI0.z) HB.z,aK HK.z⟩
   replace H:=bS H;obtain ⟨⟨t136,t139,t140⟩,A28,H⟩:=H
   dsimp only at H
   replace H:=bS H;obtain ⟨⟨t141,t144,t145⟩,A29,H⟩:=H
   dsimp only at H
   simp only [Option.some.injEq,Prod.mk.injEq] at H
   obtain ⟨rfl,rfl,rfl⟩:=H
   go_wp2_with (first|(refine gate_callee (f:=60) rfl ?_;refine gC (some 20) Try.func60 #[.pointer (some ⟨g,0,none⟩),.int .i64 20] ?_;(with_reducible refine (F60.calls g s0_0 x1001_5 x1002_5 20 t133 t134 t135 w0 _ ?side1 ?side2 A26.z).mono ?_);(case side1=>exact aIsS89 HI0.z);(case side2=>exact aG (IsS89.ge HI0.z) HB.z);rintro e w30 ⟨rfl,hi,hb,hk⟩;refine ⟨_,rfl,?_⟩;replace HO_3:=k0 (Kd.R_mono (Kd.R_keep (IsS89.apart (show IsS89 w0 _ g s0_0 x1001_5 x1002_5 from aIsS89 HI0.z) (aR HO_3.z) (by decide)) hk (fun _ h=>h.2)) (fun _ h=>h.1));replace HK:=zKc HK hk;replace HB:=k0 hb;replace HI0:=k0 hi)|(refine gate_callee (f:=103) rfl ?_;refine gC (some 23) Try.func103 #[.pointer (some ⟨g,0,none⟩),.int .i64 5] ?_;(with_reducible refine (F103.calls kj5 g s0_0 t134 t135 5 t136 t139 t140 w0 _ ?side1 ?side2 A28.z).mono ?_);(case side1=>exact aIsS89 HI0.z);(case side2=>exact aG (IsS89.ge HI0.z) HB.z);rintro e w31 ⟨v137,rfl,ho0,hi,hb,hk⟩;refine ⟨_,rfl,?_⟩;have HO138:=k0 (Kd.R_lower (Kd.R_new' ho0 (Kd.R_lt (aR HO_3.z))) (keep_size (aK HK.z)));replace HO_3:=k0 (Kd.R_mono (Kd.R_told (Kd.R_oldK (IsS89.apart (show IsS89 w0 _ g s0_0 t134 t135 from aIsS89 HI0.z) (aR HO_3.z) (by decide)) hk) (Kd.R_base ho0)) (fun _ h_=>h_.1));replace HK:=zKc HK hk;replace HB:=k0 hb;replace HI0:=k0 hi;obtain ⟨Ao32,co32,rfl⟩:=Kd.R_slice HO138.z)|(refine gate_callee (f:=105) rfl ?_;refine gC (some 26) Try.func105 #[.pointer (some ⟨g,0,none⟩),.slice Ao32 t136.length co32] ?_;(with_reducible refine (F105.calls kj5 g s0_0 t139 t140 (fun k_=>some k_=(.slice Ao32 t136.length co32:Value).ownBlock) (.slice Ao32 t136.length co32) t136 t141 t144 t145 w0 _ ?side1 ?side2 ?side3 A29.z).mono ?_);(case side1=>exact aIsS89 HI0.z);(case side2=>exact aG (IsS89.ge HI0.z) HB.z);(case side3=>exact Kd.R_lower (Kd.R_tight rfl HO138.z) HL.z);rintro e w33 ⟨v142,rfl,ho0,hi,hb,hkp⟩;refine ⟨_,rfl,?_⟩;have HO143:=k0 (Kd.R_mono (ok':=fun k_=>some k_ ≠ (u3:Value).ownBlock) (Kd.R_raise (d:=(Kd.int .i64)) (b:=w0.heap.size) (b':=w.heap.size) (fun _ _ _ _ h_=>h_) ho0 (fun k_ e_=>Or.elim (ho0.1 k_ e_) (fun hs_=>(fun e_=>Kd.R_base HO138.z k_ e_.symm) hs_) (fun hn_=>Nat.le_trans (keep_size (aK HK.z)) hn_))) (fun k_ hk_=>Or.elim hk_ (fun hs_=>fun e_=>((((IsS89.apart HI0.z HO_3.z (by decide))).1 k_ e_.symm).1.2) hs_) (fun hn_=>(Kd.fresh' (Kd.R_lt (aR HO_3.z)) k_ hn_))));replace HO_3:=k0 (Kd.R_mono (ok':=fun k_=>some k_ ≠ (v142:Value).ownBlock) (Kd.R_keptB ((IsS89.apart HI0.z HO_3.z (by decide))) hkp (fun k_ hk_ hs_=>Or.elim hs_ (fun hs_=>(hk_.1.2) hs_) (fun e_=>(hk_.2) e_))) (fun k_ hk_=>fun e_=>Or.elim (ho0.1 k_ e_.symm) (fun hs_=>hk_.2.1 (.inl hs_)) (fun hn_=>Nat.not_le.2 hk_.2.2 hn_)));replace HI0:=k0 hi;replace HK:=k0 (Kept.keepG (aK HK.z) hkp (fun k_ hs_=>Or.elim hs_ (fun hs_=>(fun e_=>.inr (Kd.R_base HO138.z k_ e_.symm)) hs_) (fun e_=>.inl e_)));replace HB:=k0 hb;clear HO138))
   go_ret
   exact ⟨_,eR,aR (Kd.R_mono HO143.z (fun _ hk=>trivial)),aIsS89 HI0.z,aG (IsS89.ge HI0.z) HB.z,aK HK.z⟩
/-! ### F68: function 68 -/
def F68.f (s0_0:List Int) (s0_1:Int) (s0_2:Int) (a1:Int):Option (Int × Int × Int):=(F60.f s0_0 s0_1 s0_2 14).bind fun bt101=>(if bt101.1=0 then ((F67.f s0_0 bt101.2.1 bt101.2.2 (([(-1),wrap64 (a1+1),1099511627776,(-4611686018427387904)]:List Int))).bind fun bt107=>(some (bt107.1,bt107.2.1,bt107.2.2))) else ((F60.f s0_0 bt101.2.1 bt101.2.2 (wrap64 (a1+1))).bind fun bt110=>(some (bt110.1,bt110.2.1,bt110.2.2))))
theorem F68.calls (g : Nat) (s0_0 : List Int) (s0_1 : Int) (s0_2 : Int) (a1 : Int) (r1 : Int) (r2 : Int) (r3 : Int) (w0 w : World) (hI : IsS89 w0 w g s0_0 s0_1 s0_2) (hB : Below w0.heap.size w0 w) (h : F68.f s0_0 s0_1 s0_2 a1 = some (r1, r2, r3)) :
  Calls Try.prog 68 #[.pointer (some ⟨g,0,none⟩),.int .i64 a1] w fun e w'=>e=.returned (.int .i64 r1)∧IsS89 w0 w' g s0_0 r2 r3∧Below w0.heap.size w0 w'∧KeepBut w w' g none:=by
 have HI0:=k0 hI
 have HK:=k0 (KeepBut.refl w g none)
 have HL:=k0 hB.size
 clear hI
 have HW0:=k0 hB.size
 have HB:=k0 hB
 clear hB
 unfold F68.f at h
 have H:=h
 clear h
 replace H:=bS H;obtain ⟨⟨t101,t102,t103⟩,A3,H⟩:=H
 dsimp only at H
 replace H:=iE H;obtain ⟨c4,c4b0,c4b1,H⟩|⟨c4b0,c4b1,H⟩:=H
 case inl =>
  replace H:=bS H;obtain ⟨⟨t110,t111,t112⟩,A11,H⟩:=H
  dsimp only at H
  simp only [Option.some.injEq,Prod.mk.injEq] at H
  obtain ⟨rfl,rfl,rfl⟩:=H
  go_enter Try.func68,Try.ntmps68
  go_wp2_with (first|(refine gate_callee (f:=60) rfl ?_;refine gC (some 6) Try.func60 #[.pointer (some ⟨g,0,none⟩),.int .i64 14] ?_;(with_reducible refine (F60.calls g s0_0 s0_1 s0_2 14 t101 t102 t103 w0 _ ?side1 ?side2 A3.z).mono ?_);(case side1=>exact aIsS89 HI0.z);(case side2=>exact aG (IsS89.ge HI0.z) HB.z);rintro e w12 ⟨rfl,hi,hb,hk⟩;refine ⟨_,rfl,?_⟩;replace HK:=zKc HK hk;replace HB:=k0 hb;replace HI0:=k0 hi)|(refine gate_callee (f:=60) rfl ?_;refine gC (some 16) Try.func60 #[.pointer (some ⟨g,0,none⟩),.int .i64 (wrap64 (a1+1))] ?_;(with_reducible refine (F60.calls g s0_0 t102 t103 (wrap64 (a1+1)) t110 t111 t112 w0 _ ?side1 ?side2 A11.z).mono ?_);(case side1=>exact aIsS89 HI0.z);(case side2=>exact aG (IsS89.ge HI0.z) HB.z);rintro e w13 ⟨rfl,hi,hb,hk⟩;refine ⟨_,rfl,?_⟩;replace HK:=zKc HK hk;replace HB:=k0 hb;replace HI0:=k0 hi))
  go_ret
  exact ⟨eR,aIsS89 HI0.z,aG (IsS89.ge HI0.z) HB.z,aK HK.z⟩
 obtain ⟨y104,Ny104⟩:=nY (([(-1),wrap64 (a1+1),1099511627776,(-4611686018427387904)]:List Int):List Int)
 replace H:((F67.f s0_0 t102 t103 y104).bind fun bt107=>(some (bt107.1,bt107.2.1,bt107.2.2)))=some (r1,r2,r3):=rH Ny104.z H
 replace H:=bS H;obtain ⟨⟨t107,t108,t109⟩,A5,H⟩:=H
 dsimp only at H
 simp only [Option.some.injEq,Prod.mk.injEq] at H
 obtain ⟨rfl,rfl,rfl⟩:=H
 go_enter Try.func68,Try.ntmps68
 go_wp2_with (first|(refine gate_callee (f:=60) rfl ?_;refine gC (some 6) Try.func60 #[.pointer (some ⟨g,0,none⟩),.int .i64 14] ?_;(with_reducible refine (F60.calls g s0_0 s0_1 s0_2 14 t101 t102 t103 w0 _ ?side1 ?side2 A3.z).mono ?_);(case side1=>exact aIsS89 HI0.z);(case side2=>exact aG (IsS89.ge HI0.z) HB.z);rintro e w6 ⟨rfl,hi,hb,hk⟩;refine ⟨_,rfl,?_⟩;replace HK:=zKc HK hk;replace HB:=k0 hb;replace HI0:=k0 hi)|(refine gate_dst (N:=11) rfl ?_;refine zRt 2 (N:=11) (xs:=([(-1),wrap64 (a1+1),1099511627776,(-4611686018427387904)]:List Int)) (inner:=[.int .i64 (-1),.int .i64 (wrap64 (a1+1)),.int .i64 1099511627776,.int .i64 (-4611686018427387904)]) (Reps.one (show Kd.M (Kd.int .i64) _ _ _ (-1) [.int .i64 (-1)] from rfl) (Reps.one (show Kd.M (Kd.int .i64) _ _ _ (wrap64 (a1+1)) [.int .i64 (wrap64 (a1+1))] from rfl) (Reps.one (show Kd.M (Kd.int .i64) _ _ _ 1099511627776 [.int .i64 1099511627776] from rfl) (Reps.one (show Kd.M (Kd.int .i64) _ _ _ (-4611686018427387904) [.int .i64 (-4611686018427387904)] from rfl) (Reps.none _ _))))) ?_;intro v105 w7 ho8 hb hg_ hnew_;clear hg_ hnew_;(first|rw [← Ny104.z] at ho8|(simp only [Int.reduceToNat] at ho8;rw [← Ny104.z] at ho8));have HO106:=k0 (Kd.R_lower ho8 (keep_size (aK HK.z)));replace HK:=zKd HK hb;replace HB:=k0 (below_step (aG (IsS89.ge HI0.z) HB.z) hb);replace HI0:=k0 (IsS89.below (aIsS89 HI0.z) hb);clear hb ho8;obtain ⟨Ao9,co9,rfl⟩:=Kd.R_slice HO106.z)|(refine gate_callee (f:=67) rfl ?_;refine gC (some 12) Try.func67 #[.pointer (some ⟨g,0,none⟩),.slice Ao9 y104.length co9] ?_;(with_reducible refine (F67.calls g s0_0 t102 t103 _ _ y104 t107 t108 t109 w0 _ ?side1 ?side2 ?side3 ?side4 ?side5 A5.z).mono ?_);(case side1=>exact aIsS89 HI0.z);(case side2=>exact aG (IsS89.ge HI0.z) HB.z);(case side3=>exact aC ((Kd.R_reads' HO106.z).2.2));(case side4=>exact (Kd.R_reads' HO106.z).2.1);(case side5=>exact far_slice (IsS89.own_ne HI0.z HO106.z (by decide)));rintro e w10 ⟨rfl,hi,hb,hk⟩;refine ⟨_,rfl,?_⟩;replace HO106:=k0 (Kd.R_mono (Kd.R_keep (IsS89.apart (show IsS89 w0 _ g s0_0 t102 t103 from aIsS89 HI0.z) (aR HO106.z) (by decide)) hk (fun _ h=>h.2)) (fun _ h=>h.1));replace HK:=zKc HK hk;replace HB:=k0 hb;replace HI0:=k0 hi))
 go_ret
 exact ⟨eR,aIsS89 HI0.z,aG (IsS89.ge HI0.z) HB.z,aK HK.z⟩
/-! ### F24: function 24 -/
def F24.f (k:Nat) (l0:List Int):Option (List Int × Int):=(F37.f k l0).bind fun bt101=>((F66.f k bt101.1 bt101.2.1 bt101.2.2).bind fun bt105=>((F68.f bt101.1 bt105.2.1 bt105.2.2 24).bind fun bt110=>((F67.f bt101.1 bt110.2.1 bt110.2.2 (([0,1,3,6,bt110.1]:List Int))).bind fun bt116=>(some (bt105.1,bt116.1)))))
theorem F24.calls (k : Nat) (A0 : Option Addr) (c0 : Nat) (l0 : List Int) (r1 : List Int) (r2 : Int) (w : World) (hr0 : Kd.C (Kd.int .u8) w A0 l0.length l0) (hc0 : l0.length ≤ c0) (h : F24.f k l0 = some (r1, r2)) :
  Calls Try.prog 24 #[.slice A0 l0.length c0] w fun e w'=>∃ v0_:Value,e=.returned (.tuple #[v0_,.int .i64 r2])∧Kd.R (Kd.int .i64) 2 w' w.heap.size (fun _=>True) v0_ r1∧Below w.heap.size w w':=by
 have HR0:=k0 hr0
 have HC0:=k0 hc0
 clear hr0 hc0
 have HB:=k0 (Below.refl w.heap.size w)
 unfold F24.f at h
 have H:=h
 clear h
 replace H:=bS H;obtain ⟨⟨t101,t102,t103⟩,A2,H⟩:=H
 dsimp only at H
 replace H:=bS H;obtain ⟨⟨t105,t108,t109⟩,A3,H⟩:=H
 dsimp only at H
 replace H:=bS H;obtain ⟨⟨t110,t111,t112⟩,A4,H⟩:=H
 dsimp only at H
 obtain ⟨y113,Ny113⟩:=nY (([0,1,3,6,t110]:List Int):List Int)
 replace H:((F67.f t101 t111 t112 y113).bind fun bt116=>(some (t105,bt116.1)))=some (r1,r2):=rH Ny113.z H
 replace H:=bS H;obtain ⟨⟨t116,t117,t118⟩,A5,H⟩:=H
 dsimp only at H
 obtain ⟨rfl,rfl⟩:=zSo H
 go_enter Try.func24,Try.ntmps24
 go_wp2_with (first|(refine gate_callee (f:=37) rfl ?_;refine gC (some 6) Try.func37 #[.slice A0 l0.length c0] ?_;(with_reducible refine (F37.calls k _ _ l0 t101 t102 t103 w _ ?side1 ?side2 ?side3 A2.z).mono ?_);(case side1=>exact aL HB.z);(case side2=>exact HR0.z);(case side3=>exact HC0.z);rintro e w6 ⟨g104,rfl,hi,hb,hb2⟩;refine ⟨_,rfl,?_⟩;replace HB:=k0 hb;have HI104:=k0 hi)|(refine gate_callee (f:=66) rfl ?_;refine gC (some 8) Try.func66 #[.pointer (some ⟨g104,0,none⟩)] ?_;(with_reducible refine (F66.calls k g104 t101 t102 t103 t105 t108 t109 w _ ?side1 ?side2 A3.z).mono ?_);(case side1=>exact aIsS89 HI104.z);(case side2=>exact aG (IsS89.ge HI104.z) HB.z);rintro e w7 ⟨v106,rfl,ho0,hi,hb,hk⟩;refine ⟨_,rfl,?_⟩;have HO107:=k0 (Kd.R_lower ho0 (below_size (aG (IsS89.ge HI104.z) HB.z)));replace HB:=k0 hb;replace HI104:=k0 hi)|(refine gate_callee (f:=68) rfl ?_;refine gC (some 11) Try.func68 #[.pointer (some ⟨g104,0,none⟩),.int .i64 24] ?_;(with_reducible refine (F68.calls g104 t101 t108 t109 24 t110 t111 t112 w _ ?side1 ?side2 A4.z).mono ?_);(case side1=>exact aIsS89 HI104.z);(case side2=>exact aG (IsS89.ge HI104.z) HB.z);rintro e w8 ⟨rfl,hi,hb,hk⟩;refine ⟨_,rfl,?_⟩;replace HO107:=k0 (Kd.R_mono (Kd.R_keep (IsS89.apart (show IsS89 w _ g104 t101 t108 t109 from aIsS89 HI104.z) (aR HO107.z) (by decide)) hk (fun _ h=>h.2)) (fun _ h=>h.1));replace HB:=k0 hb;replace HI104:=k0 hi)|(refine gate_dst (N:=12) rfl ?_;refine zRt 2 (N:=12) (xs:=([0,1,3,6,t110]:List Int)) (inner:=[.int .i64 0,.int .i64 1,.int .i64 3,.int .i64 6,.int .i64 t110]) (Reps.one (show Kd.M (Kd.int .i64) _ _ _ 0 [.int .i64 0] from rfl) (Reps.one (show Kd.M (Kd.int .i64) _ _ _ 1 [.int .i64 1] from rfl) (Reps.one (show Kd.M (Kd.int .i64) _ _ _ 3 [.int .i64 3] from rfl) (Reps.one (show Kd.M (Kd.int .i64) _ _ _ 6 [.int .i64 6] from rfl) (Reps.one (show Kd.M (Kd.int .i64) _ _ _ t110 [.int .i64 t110] from rfl) (Reps.none _ _)))))) ?_;intro v114 w9 ho10 hb hg_ hnew_;clear hg_ hnew_;(first|rw [← Ny113.z] at ho10|(simp only [Int.reduceToNat] at ho10;rw [← Ny113.z] at ho10));have HO115:=k0 (Kd.R_lower (Kd.R_new' ho10 (Kd.R_lt (aR HO107.z))) (below_size (aG (IsS89.ge HI104.z) HB.z)));replace HO107:=elR HO107 (Kd.R_base ho10) hb;replace HB:=k0 (below_step (aG (IsS89.ge HI104.z) HB.z) hb);replace HI104:=k0 (IsS89.below (aIsS89 HI104.z) hb);clear hb ho10;obtain ⟨Ao11,co11,rfl⟩:=Kd.R_slice HO115.z)|(refine gate_callee (f:=67) rfl ?_;refine gC (some 13) Try.func67 #[.pointer (some ⟨g104,0,none⟩),.slice Ao11 y113.length co11] ?_;(with_reducible refine (F67.calls g104 t101 t111 t112 _ _ y113 t116 t117 t118 w _ ?side1 ?side2 ?side3 ?side4 ?side5 A5.z).mono ?_);(case side1=>exact aIsS89 HI104.z);(case side2=>exact aG (IsS89.ge HI104.z) HB.z);(case side3=>exact aC ((Kd.R_reads' HO115.z).2.2));(case side4=>exact (Kd.R_reads' HO115.z).2.1);(case side5=>exact far_slice (IsS89.own_ne HI104.z HO115.z (by decide)));rintro e w12 ⟨rfl,hi,hb,hk⟩;refine ⟨_,rfl,?_⟩;replace HO107:=k0 (Kd.R_mono (Kd.R_keep (IsS89.apart (show IsS89 w _ g104 t101 t111 t112 from aIsS89 HI104.z) (aR HO107.z) (by decide)) hk (fun _ h=>h.2)) (fun _ h=>h.1));replace HO115:=k0 (Kd.R_mono (Kd.R_keep (IsS89.apart (show IsS89 w _ g104 t101 t111 t112 from aIsS89 HI104.z) (aR HO115.z) (by decide)) hk (fun _ h=>h.2)) (fun _ h=>h.1));replace HB:=k0 hb;replace HI104:=k0 hi))
 go_ret2
 exact ⟨_,eR,aR (Kd.R_mono HO107.z (fun _ hk=>trivial)),aG (IsS89.ge HI104.z) HB.z⟩
/-! ### F70: function 70 -/
def F70.f (a0:Int) (a1:Int) (a2:Int):Option (Bool):=if a0 ≥ a1 then (some (decide (a0≤a2))) else (some false)
theorem F70.calls (a0 : Int) (a1 : Int) (a2 : Int) (r : Bool) (w : World) (h : F70.f a0 a1 a2 = some r) :
  Calls Try.prog 70 #[.int .i64 a0,.int .i64 a1,.int .i64 a2] w fun e w'=>e=.returned (.bool r)∧Drawn0 w w':=by
 unfold F70.f at h
 have H:=h
 clear h
 replace H:=iC H;obtain ⟨c4b0,H⟩|⟨c4b0,H⟩:=H
 case inl =>
  obtain rfl:=Option.some.inj H
  go_enter Try.func70,Try.ntmps70
  go_wp2
  go_ret
  exact ⟨rs,dW⟩
 obtain rfl:=Option.some.inj H
 go_enter Try.func70,Try.ntmps70
 go_wp2
 go_ret
 exact ⟨rs,dW⟩
/-! ### F106: function 106 -/
def F106.f (a0:Int):Option (Bool):=(F70.f a0 (-1000000000000000) 1000000000000000).bind fun t101=>(some t101)
theorem F106.calls (a0 : Int) (r : Bool) (w : World) (h : F106.f a0 = some r) :
  Calls Try.prog 106 #[.int .i64 a0] w fun e w'=>e=.returned (.bool r)∧Drawn0 w w':=by
 unfold F106.f at h
 have H:=h
 clear h
 replace H:=bS H;obtain ⟨t101,A2,H⟩:=H
 obtain rfl:=Option.some.inj H
 go_enter Try.func106,Try.ntmps106
 go_wp2_with (first|(refine gate_callee (f:=70) rfl ?_;refine gC (some 4) Try.func70 #[.int .i64 a0,.int .i64 (-1000000000000000),.int .i64 1000000000000000] ?_;(with_reducible refine (F70.calls a0 (-1000000000000000) 1000000000000000 t101 _ A2.z).mono ?_);rintro e w' ⟨rfl,⟨nd,rfl⟩⟩;refine ⟨_,rfl,?_⟩))
 go_ret
 exact ⟨rs,dW⟩
/-! ### F69: function 69 -/
def F69.l0 : Nat → List Int → List Int → Int → Int → Option (Bool)
 | 0,_,_,_,_=>none
 | k+1,x0,x5,x6,x7=>if x7 < x6 then (if 0≤x7 then (if x7 < (x5.length:Int) then ((F106.f (rd x5 x7)).bind fun t102=>(if t102=true then (F69.l0 k x0 x5 x6 (wrap64 (x7+1))) else (some false))) else (none)) else (none)) else (if (x0.length:Int)≤40 then (if (x0.length:Int)=0 then (some true) else (if 0≤(wrap64 ((x0.length:Int) - 1)) then (if (wrap64 ((x0.length:Int) - 1)) < (x0.length:Int) then (some ((rd x0 (wrap64 ((x0.length:Int) - 1))) != 0)) else (none)) else (none))) else (some false))
def F69.f (k:Nat) (l0:List Int):Option (Bool):=F69.l0 k l0 l0 (l0.length:Int) 0
theorem F69.calls (k : Nat) (A0 : Option Addr) (c0 : Nat) (l0 : List Int) (r : Bool) (w : World) (hr0 : Kd.C (Kd.int .i64) w A0 l0.length l0) (hc0 : l0.length ≤ c0) (h : F69.f k l0 = some r) :
  Calls Try.prog 69 #[.slice A0 l0.length c0] w fun e w'=>e=.returned (.bool r)∧Drawn0 w w':=by
 have HR0:=k0 hr0
 have HC0:=k0 hc0
 clear hr0 hc0
 unfold F69.f at h
 have H:=h
 clear h
 have H':=k0 H
 clear H
 go_enter Try.func69,Try.ntmps69
 go_wp2
 go_loopg [7] k (fun kq v7 w'=>∃ (x7_1:Int),v7=.int .i64 x7_1∧Aside0 (F69.l0 kq l0 l0 (l0.length:Int) x7_1=some r)∧Aside0 (kq≤k)∧Drawn0 w w')
 case atStart=>exact ⟨(0),rs,H',⟨Nat.le_refl _⟩,dW⟩
 case round =>
  clear H'
  obtain ⟨x7_1,rfl,HA,HK1,⟨m1,rfl⟩⟩:=hrel
  cases gk with
  | zero=>exact absurd HA.z (by simp [F69.l0])
  | succ k1 =>
   have H:=HA.z
   clear HA
   simp only [F69.l0] at H
   replace H:=iC H;obtain ⟨c2b0,H⟩|⟨c2b0,H⟩:=H
   case inl =>
    by_cases c7:(l0.length:Int)≤40
    case neg =>
     rw [if_neg c7] at H
     have c7b0:=decide_eq_false c7
     have c7b1:decide (l0.length≤40)=false:=decide_eq_false (by omega)
     clear c7
     obtain rfl:=Option.some.inj H
     go_wp2
     go_ret
     exact ⟨rs,dW⟩
    rw [if_pos c7] at H
    have c7b0:=decide_eq_true c7
    have c7b1:decide (l0.length≤40)=true:=decide_eq_true (by omega)
    clear c7
    replace H:=iE H;obtain ⟨c8,c8b0,c8b1,H⟩|⟨c8b0,c8b1,H⟩:=H
    case inl =>
     have c8b2:¬ (l0=[]):=fun h_=>c8 (by rw [h_];rfl)
     obtain ⟨ji9,hji9⟩:∃ j_:Int,(wrap64 ((l0.length:Int) - 1))=j_:=⟨_,rfl⟩
     replace H:(if 0≤(ji9) then (if (ji9) < (l0.length:Int) then (some ((rd l0 (ji9)) != 0)) else (none)) else (none))=some r:=by first|(rw [hji9] at H;exact H)|(simp only [hji9] at H ⊢;exact H)
     have hji9w:(IntKind.i64.wrap ((l0.length:Int) - 1))=ji9:=(i64_w _).trans hji9
     replace H:=iS H;obtain ⟨c10,H⟩:=H
     have c10b0:=decide_eq_true c10
     clear c10
     replace H:=iS H;obtain ⟨c11,H⟩:=H
     have c11b0:=decide_eq_true c11
     clear c11
     obtain rfl:=Option.some.inj H
     have p103:0≤((ji9):Int):=oD
     have q103:(ji9) < (l0.length:Int):=oD
     obtain ⟨ad103,e103,hx103_0⟩:=Kd.at_int HR0.z (ji9) p103 q103
     cases e103
     replace p103:=eT p103
     replace q103:=eT q103
     go_wp2
     go_ret
     exact ⟨by first|rfl|(simp;done)|(simp only [← hji9]<;>(first|rfl|simp))|(simp [*];done),dW⟩
    obtain rfl:=Option.some.inj H
    go_wp2
    go_ret
    exact ⟨rs,dW⟩
   replace H:=iS H;obtain ⟨c3,H⟩:=H
   have c3b0:=decide_eq_true c3
   clear c3
   replace H:=iS H;obtain ⟨c4,H⟩:=H
   have c4b0:=decide_eq_true c4
   clear c4
   replace H:=bS H;obtain ⟨t102,A5,H⟩:=H
   cases t102
   case false =>
    replace H:=iF H
    obtain rfl:=Option.some.inj H
    obtain ⟨p101,q101⟩:=iN x7_1 (l0.length:Int)
    obtain ⟨ad101,e101,hx101_0⟩:=Kd.at_int HR0.z x7_1 p101 q101
    cases e101
    replace p101:=eT p101
    replace q101:=eT q101
    go_wp2_with (first|(refine gate_callee (f:=106) rfl ?_;refine gC (some 12) Try.func106 #[.int .i64 (rd l0 x7_1)] ?_;(with_reducible refine (F106.calls (rd l0 x7_1) false _ A5.z).mono ?_);rintro e w' ⟨rfl,⟨nd,rfl⟩⟩;refine ⟨_,rfl,?_⟩))
    go_ret
    exact ⟨rs,dW⟩
   replace H:=iT H
   have H':=k0 H
   clear H
   obtain ⟨p101,q101⟩:=iN x7_1 (l0.length:Int)
   obtain ⟨ad101,e101,hx101_0⟩:=Kd.at_int HR0.z x7_1 p101 q101
   cases e101
   replace p101:=eT p101
   replace q101:=eT q101
   go_wp2_with (first|(refine gate_callee (f:=106) rfl ?_;refine gC (some 12) Try.func106 #[.int .i64 (rd l0 x7_1)] ?_;(with_reducible refine (F106.calls (rd l0 x7_1) true _ A5.z).mono ?_);rintro e w' ⟨rfl,⟨nd,rfl⟩⟩;refine ⟨_,rfl,?_⟩))
   first|go_roundg k1|(simp only [← hji9];go_roundg k1)
   case measure=>have:=HK1.z;omega
   case rel=>exact ⟨(wrap64 (x7_1+1)),rs,(by first|exact H'|(rw [hji9];exact H')),⟨by have:=HK1.z;omega⟩,dW⟩
/-! ### F71: function 71 -/
def F71.f (l0:List Int) (a1:Int):Option (Int):=if a1 < (l0.length:Int) then (if 0≤a1 then (some (rd l0 a1)) else (none)) else (some 0)
theorem F71.calls (A0 : Option Addr) (c0 : Nat) (l0 : List Int) (a1 : Int) (r : Int) (w : World) (hr0 : Kd.C (Kd.int .i64) w A0 l0.length l0) (hc0 : l0.length ≤ c0) (h : F71.f l0 a1 = some r) :
  Calls Try.prog 71 #[.slice A0 l0.length c0,.int .i64 a1] w fun e w'=>e=.returned (.int .i64 r)∧Drawn0 w w':=by
 have HR0:=k0 hr0
 have HC0:=k0 hc0
 clear hr0 hc0
 unfold F71.f at h
 have H:=h
 clear h
 replace H:=iC H;obtain ⟨c3b0,H⟩|⟨c3b0,H⟩:=H
 case inl =>
  obtain rfl:=Option.some.inj H
  go_enter Try.func71,Try.ntmps71
  go_wp2
  go_ret
  exact ⟨rs,dW⟩
 replace H:=iS H;obtain ⟨c4,H⟩:=H
 have c4b0:=decide_eq_true c4
 clear c4
 obtain rfl:=Option.some.inj H
 obtain ⟨p101,q101⟩:=iN a1 (l0.length:Int)
 obtain ⟨ad101,e101,hx101_0⟩:=Kd.at_int HR0.z a1 p101 q101
 cases e101
 replace p101:=eT p101
 replace q101:=eT q101
 go_enter Try.func71,Try.ntmps71
 go_wp2
 go_ret
 exact ⟨rs,dW⟩
/-! ### F107: function 107 -/
def F107.f (a0:Int):Option (Int):=some (mx a0 (wrap64 (-a0)))
theorem F107.calls (a0 : Int) (r : Int) (w : World) (h : F107.f a0 = some r) :
  Calls Try.prog 107 #[.int .i64 a0] w fun e w'=>e=.returned (.int .i64 r)∧Below w.heap.size w w':=by
 have HB:=k0 (Below.refl w.heap.size w)
 unfold F107.f at h
 have H:=h
 clear h
 obtain ⟨ji2,hji2⟩:∃ j_:Int,(mx a0 (wrap64 (-a0)))=j_:=⟨_,rfl⟩
 replace H:(some ji2)=some r:=by first|(rw [hji2] at H;exact H)|(simp only [hji2] at H ⊢;exact H)
 have hji2_:(if a0 < (wrap64 (-a0)) then (wrap64 (-a0)) else a0)=ji2:=hji2
 obtain rfl:=Option.some.inj H
 go_enter Try.func107,Try.ntmps107
 go_wp2
 go_ret
 exact ⟨by first|rfl|(simp [errW_none,errW_some]<;>rfl)|(simp only [← hji2];first|rfl|(simp [errW_none,errW_some]<;>rfl))|(simp [*,errW_none,errW_some]<;>rfl),bl⟩
/-! ### F72: function 72 -/
def F72.j0 : Nat → Int → Int → Int → Bool → Option (Int × Bool)
 | 0,_,_,_,_=>none
 | k+1,x0,x1,x2,x13=>if x13=true then (some (x0,true)) else ((F107.f x1).bind fun t101=>((F107.f x2).bind fun t102=>(if t102=0 then (none) else (if t101 > (wrap64 ((1000000000000000:Int) / t102)) then (some (0,false)) else ((F106.f (wrap64 (x0+(wrap64 (x1 * x2))))).bind fun t103=>(some (wrap64 (x0+(wrap64 (x1 * x2))),t103)))))))
def F72.f (k:Nat) (a0:Int) (a1:Int) (a2:Int):Option (Int × Bool):=if a1=0 then (F72.j0 k a0 a1 a2 true) else (F72.j0 k a0 a1 a2 (a2 == 0))
theorem F72.calls (k : Nat) (a0 : Int) (a1 : Int) (a2 : Int) (r1 : Int) (r2 : Bool) (w : World) (h : F72.f k a0 a1 a2 = some (r1, r2)) :
  Calls Try.prog 72 #[.int .i64 a0,.int .i64 a1,.int .i64 a2] w fun e w'=>e=.returned (.tuple #[.int .i64 r1,.bool r2])∧Below w.heap.size w w':=by
 have HB:=k0 (Below.refl w.heap.size w)
 unfold F72.f at h
 have H:=h
 clear h
 have HC4:=k0 H
 clear H
 go_enter Try.func72,Try.ntmps72
 go_upto_region 1 with (fail)
 go_cut [13] (fun v13 wc=>∃ (kq:Nat) (x13_3:Bool),v13=.bool x13_3∧Aside0 (F72.j0 kq a0 a1 a2 x13_3=some (r1,r2))∧Aside0 (kq≤k)∧Aside0 (Below w.heap.size w wc))
 case first =>
  have H:=HC4.z
  clear HC4
  replace H:=iE H;obtain ⟨c5,c5b0,c5b1,H⟩|⟨c5b0,c5b1,H⟩:=H
  case inl =>
   (first|rw [c5b0]|(simp only [i64_w,i32_w];rw [c5b0])|skip)
   have H':=k0 H
   clear H
   go_wp2
   go_meet
   case rel=>exact ⟨_,((a2 == 0)),rs,H',⟨oL⟩,⟨bl⟩⟩
  (first|rw [c5b0]|(simp only [i64_w,i32_w];rw [c5b0])|skip)
  have H':=k0 H
  clear H
  go_wp2
  go_meet
  case rel=>exact ⟨_,(true),rs,H',⟨oL⟩,⟨bl⟩⟩
 case rest =>
  clear HC4
  obtain ⟨kq,x13_3,rfl,HA,HJ3,HB⟩:=hcut
  cases kq with
  | zero=>exact absurd HA.z (by simp [F72.j0])
  | succ kj3 =>
   have H:=HA.z
   clear HA
   simp only [F72.j0] at H
   cases x13_3
   case false =>
    replace H:=iF H
    replace H:=bS H;obtain ⟨t101,A7,H⟩:=H
    replace H:=bS H;obtain ⟨t102,A8,H⟩:=H
    by_cases c9:t102=0
    case neg =>
     rw [if_neg c9] at H
     have c9b0:=beq_eq_false_iff_ne.mpr c9
     have c9b1:=bne_iff_ne.mpr c9
     by_cases c10:t101 > (wrap64 ((1000000000000000:Int) / t102))
     case neg =>
      rw [if_neg c10] at H
      have c10b0:=decide_eq_false c10
      have c10b0t:decide ((wrap64 (Int.tdiv 1000000000000000 t102)) < t101)=false:=by rw [Int.tdiv_eq_ediv_of_nonneg (by decide)];exact c10b0
      clear c10
      replace H:=bS H;obtain ⟨t103,A13,H⟩:=H
      obtain ⟨rfl,rfl⟩:=zSo H
      go_wp2_with (first|(refine gate_callee (f:=107) rfl ?_;refine gC (some 16) Try.func107 #[.int .i64 a1] ?_;(with_reducible refine (F107.calls a1 t101 _ A7.z).mono ?_);rintro e w14 ⟨rfl,hb⟩;refine ⟨_,rfl,?_⟩;replace HB:=bW hb)|(refine gate_callee (f:=107) rfl ?_;refine gC (some 18) Try.func107 #[.int .i64 a2] ?_;(with_reducible refine (F107.calls a2 t102 _ A8.z).mono ?_);rintro e w15 ⟨rfl,hb⟩;refine ⟨_,rfl,?_⟩;replace HB:=bW hb)|(refine gate_callee (f:=106) rfl ?_;refine gC (some 28) Try.func106 #[.int .i64 (wrap64 (a0+(wrap64 (a1 * a2))))] ?_;(with_reducible refine (F106.calls (wrap64 (a0+(wrap64 (a1 * a2)))) t103 _ A13.z).mono ?_);rintro e w' ⟨rfl,⟨nd,rfl⟩⟩;refine ⟨_,rfl,?_⟩))
      go_ret2
      exact ⟨eR,bl⟩
     rw [if_pos c10] at H
     have c10b0:=decide_eq_true c10
     have c10b0t:decide ((wrap64 (Int.tdiv 1000000000000000 t102)) < t101)=true:=by rw [Int.tdiv_eq_ediv_of_nonneg (by decide)];exact c10b0
     clear c10
     obtain ⟨rfl,rfl⟩:=zSo H
     go_wp2_with (first|(refine gate_callee (f:=107) rfl ?_;refine gC (some 16) Try.func107 #[.int .i64 a1] ?_;(with_reducible refine (F107.calls a1 t101 _ A7.z).mono ?_);rintro e w11 ⟨rfl,hb⟩;refine ⟨_,rfl,?_⟩;replace HB:=bW hb)|(refine gate_callee (f:=107) rfl ?_;refine gC (some 18) Try.func107 #[.int .i64 a2] ?_;(with_reducible refine (F107.calls a2 t102 _ A8.z).mono ?_);rintro e w12 ⟨rfl,hb⟩;refine ⟨_,rfl,?_⟩;replace HB:=bW hb))
     go_ret2
     exact ⟨eR,bl⟩
    rw [if_pos c9] at H
    exact absurd H (by simp)
   replace H:=iT H
   obtain ⟨rfl,rfl⟩:=zSo H
   go_wp2
   go_ret2
   exact ⟨eR,bl⟩
end Go.Proofs.Ytgjdbnipcpmhiaa.P
/- Set with little white space, by a program. -/
