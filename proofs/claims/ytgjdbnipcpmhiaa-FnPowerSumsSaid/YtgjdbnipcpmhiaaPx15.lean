/- Go's calls come to what the Lean functions say. Condition of each: that the Lean function answers. -/
import Derived.Test.YtgjdbnipcpmhiaaPx0
import Derived.Test.YtgjdbnipcpmhiaaPx13
import Derived.Test.YtgjdbnipcpmhiaaPx14
namespace Go.Proofs.Ytgjdbnipcpmhiaa.P
open Go.RowKit Go.Proofs.YtgjdbnipcpmhiaaW.PrintWords Go.Proofs.YtgjdbnipcpmhiaaW.PrintLast Go.Proofs.YtgjdbnipcpmhiaaW.PrintMore
attribute [local go_sem] max2_int min2_int max_two min_two max_three min_three max_four min_four
set_option linter.unusedVariables false
set_option linter.unusedSimpArgs false
set_option maxHeartbeats 8000000
set_option maxRecDepth 100000
/-! ### F82: function 82 -/
def F82.l0 : Nat → List (List Int) → List Int → List (List Int) → Int → Int → Option (List Int)
 | 0,_,_,_,_,_=>none
 | k+1,x0,x5,x6,x9,x10=>if x10 < x9 then ((F110.f k x6).bind fun t104=>(if x5.length < 17592186044416 then ((F111.f k x6 x0).bind fun t108=>(F82.l0 k x0 (x5 ++ [t104]) t108 x9 (wrap64 (x10+1)))) else (none))) else (some x5)
def F82.f (k:Nat) (l0:List (List Int)) (a1:Int):Option (List Int):=F82.l0 k l0 (([]:List Int)) l0 a1 0
theorem F82.calls (k : Nat) (P0_ : Nat → Prop) (A0 : Option Addr) (c0 : Nat) (l0 : List (List Int)) (a1 : Int) (r : List Int) (w : World) (hs0 : Kd.V (Kd.slice 2 (Kd.int .i64)) 27 w w.heap.size (fun k_ => P0_ k_) (.slice A0 l0.length c0) l0) (h : F82.f k l0 a1 = some r) :
  Calls Try.prog 82 #[.slice A0 l0.length c0,.int .i64 a1] w fun e w'=>∃ v0_:Value,e=.returned (v0_)∧Kd.R (Kd.int .i64) 2 w' w.heap.size (fun k_=>(w.heap.size≤k_)) v0_ r∧Below w.heap.size w w':=by
 have HO0:=k0 (show Kd.V (Kd.slice 2 (Kd.int .i64)) 27 w w.heap.size (fun k_=>(P0_ k_∨w.heap.size≤k_)) (.slice A0 l0.length c0) l0 from Kd.V_mono hs0 (fun k_ hk=>.inl hk))
 have HB:=k0 (Below.refl w.heap.size w)
 unfold F82.f at h
 have H:=h
 clear h
 obtain ⟨y101,Ny101⟩:=nY (([]:List Int):List Int)
 replace H:(F82.l0 k l0 y101 l0 a1 0)=some r:=rH Ny101.z H
 have H':=k0 H
 clear H
 go_enter Try.func82,Try.ntmps82
 go_wp2_with (first|(refine gate_dst (N:=7) rfl ?_;refine zRt 2 (N:=7) (xs:=([]:List Int)) (inner:=[]) (Reps.none _ _) ?_;intro v102 w3 ho4 hb hg_ hnew_;clear hg_ hnew_;(first|rw [← Ny101.z] at ho4|(simp only [Int.reduceToNat] at ho4;rw [← Ny101.z] at ho4));replace HO0:=elV HO0 (Kd.R_base ho4) hb;have HO103:=k0 (Kd.R_lower (Kd.R_newM (M:=fun k_=>(w.heap.size≤k_)) ho4 (below_size bl) (fun k_ h_=>h_)) (below_size bl));replace HB:=bW hb;clear hb ho4))
 go_loopg [5,6,10] k (fun kq v5 v6 v10 w'=>∃ (x5_1:List Int) (x6_1:List (List Int)) (x10_1:Int),v10=.int .i64 x10_1∧Aside0 (F82.l0 kq l0 x5_1 x6_1 a1 x10_1=some r)∧Aside0 (kq≤k)∧Aside0 (Kd.V (Kd.slice 2 (Kd.int .i64)) 27 w' w.heap.size (fun k_=>(P0_ k_∨w.heap.size≤k_)∧some k_ ≠ (v5:Value).ownBlock) (.slice A0 l0.length c0) l0)∧Aside0 (Kd.R (Kd.int .i64) 2 w' w.heap.size (fun k_=>(w.heap.size≤k_)) v5 x5_1)∧Aside0 (Kd.V (Kd.slice 2 (Kd.int .i64)) 27 w' w.heap.size (fun k_=>(P0_ k_∨w.heap.size≤k_)∧some k_ ≠ (v5:Value).ownBlock) v6 x6_1)∧Aside0 (Below w.heap.size w w'))
 case atStart=>exact ⟨(y101),(l0),(0),rs,H',⟨Nat.le_refl _⟩,⟨aV (HO0.z)⟩,⟨aR (Kd.R_mono HO103.z (fun _ hk=>hk.1))⟩,⟨aV (HO0.z)⟩,⟨bl⟩⟩
 case round =>
  clear H'
  obtain ⟨x5_1,x6_1,x10_1,rfl,HA,HK1,HO_0,HO_5,HO_6,HB⟩:=hrel
  cases gk with
  | zero=>exact absurd HA.z (by simp [F82.l0])
  | succ k1 =>
   have H:=HA.z
   clear HA
   simp only [F82.l0] at H
   replace H:=iC H;obtain ⟨c5b0,H⟩|⟨c5b0,H⟩:=H
   case inl =>
    obtain rfl:=Option.some.inj H
    go_wp2
    go_ret
    exact ⟨_,eR,aR HO_5.z,bl⟩
   replace H:=bS H;obtain ⟨t104,A6,H⟩:=H
   replace H:=iS H;obtain ⟨c7,H⟩:=H
   have LMc7:=k0 c7
   clear c7
   obtain ⟨y105,Ny105⟩:=nY (x5_1 ++ [t104]:List Int)
   replace H:((F111.f k1 x6_1 l0).bind fun t108=>(F82.l0 k1 l0 y105 t108 a1 (wrap64 (x10_1+1))))=some r:=rH Ny105.z H
   replace H:=bS H;obtain ⟨t108,A8,H⟩:=H
   have H':=k0 H
   clear H
   obtain ⟨Ao9,co9,rfl⟩:=Kd.V_slice HO_6.z
   go_wp2_with (first|(refine gate_callee (f:=110) rfl ?_;refine gC (some 14) Try.func110 #[.slice Ao9 x6_1.length co9] ?_;(with_reducible refine (F110.calls k1 _ _ x6_1 t104 _ ?side1 ?side2 A6.z).mono ?_);(case side1=>exact aC ((Kd.V_reads' HO_6.z).2.2));(case side2=>exact (Kd.V_reads' HO_6.z).2.1);rintro e w' ⟨rfl,⟨nd,rfl⟩⟩;refine ⟨_,rfl,?_⟩)|((with_reducible refine gate_builtin (b:=.append) (xs:=#[.tmp 12,.tmp 15]) rfl ?_);at_builtin;refine Kd.R_append (Kd.int .i64) (w0:=w) w.heap.size rfl (.tmp 12) (.tmp 15) 27 2 (.int .i64 0) 8 rfl Try.underlying27 info2 rfl (by decide) (by omega) u5 x5_1 t104 [.int .i64 t104] (fun k_=>(w.heap.size≤k_)) (fun _=>False) rfl rfl ?aP (fun _ hk=>hk.elim) ?aF ?aO ?aB ?aS ?aL ?_;(case aP=>exact rfl);(case aB=>exact bl);(case aF=>exact (fun k_ hk=>(Nat.le_trans (below_size bl) hk)));(case aO=>exact (aR HO_5.z));(case aS=>exact (below_size bl));(case aL=>have:=LMc7.out;omega);intro v106 w10 ho hb hg hat;rw [← Ny105.z] at ho;replace HO_0:=k0 (Kd.V_afterv (ok:=(fun k_=>(P0_ k_∨w.heap.size≤k_))) (aV HO_0.z) hg hat);replace HO_6:=k0 (Kd.V_afterv (ok:=(fun k_=>(P0_ k_∨w.heap.size≤k_))) (aV HO_6.z) hg hat);replace HB:=k0 hb;have HO107:=k0 ho;clear HO_5;clear ho hb hg hat)|(refine gate_callee (f:=111) rfl ?_;refine gC (some 19) Try.func111 #[.slice Ao9 x6_1.length co9,.slice A0 l0.length c0] ?_;(with_reducible refine (F111.calls k1 _ _ x6_1 _ _ l0 t108 _ ?side1 ?side2 ?side3 ?side4 A8.z).mono ?_);(case side1=>exact aC ((Kd.V_reads' HO_6.z).2.2));(case side2=>exact (Kd.V_reads' HO_6.z).2.1);(case side3=>exact aC ((Kd.V_reads' HO_0.z).2.2));(case side4=>exact (Kd.V_reads' HO_0.z).2.1);rintro e w11 ⟨v109,rfl,ho0,hb⟩;refine ⟨_,rfl,?_⟩;replace HO_0:=elV HO_0 (Kd.S_base ho0) hb;replace HO_6:=elV HO_6 (Kd.S_base ho0) hb;have HO110:=k0 (Kd.S_lower (Kd.S_new' (Kd.S_newM (M:=fun k_=>(w.heap.size≤k_)) ho0 (below_size bl) (fun k_ h_=>h_)) (Kd.R_lt (aR HO107.z))) (below_size bl));replace HO107:=bwR HO107 hb;replace HB:=bW hb))
   go_roundg k1
   case measure=>have:=HK1.z;omega
   case rel=>exact ⟨(y105),(t108),(wrap64 (x10_1+1)),rs,H',⟨by have:=HK1.z;omega⟩,⟨aV (Kd.V_mono HO_0.z (fun _ hk=>⟨hk.1.1,hk.1.2⟩))⟩,⟨aR (HO107.z)⟩,⟨Kd.V_mono (Kd.S_V (aS (Kd.S_mono (ok':=fun k_=>w.heap.size≤k_∧some k_ ≠ (v106:Value).ownBlock) HO110.z (fun _ hk=>⟨hk.1.1,hk.2⟩)))) (fun k_ hk=>by first|exact ⟨(.inr (hk.1)),hk.2⟩|exact (.inr (hk)))⟩,⟨bl⟩⟩
/-! ### F112: function 112 -/
def F112.f (a0_0:Int) (l0_1:List (List Int)):Option (Int):=some (l0_1.length:Int)
theorem F112.calls (a0_0 : Int) (A0_1 : Option Addr) (c0_1 : Nat) (l0_1 : List (List Int)) (r : Int) (w : World) (hr0_1 : Kd.C (Kd.slice 2 (Kd.int .i64)) w A0_1 l0_1.length l0_1) (hc0_1 : l0_1.length ≤ c0_1) (h : F112.f a0_0 l0_1 = some r) :
  Calls Try.prog 112 #[.agg #[.int .i64 a0_0,.slice A0_1 l0_1.length c0_1]] w fun e w'=>e=.returned (.int .i64 r)∧Below w.heap.size w w':=by
 have hu26:=Try.underlying26
 have HR0_1:=k0 hr0_1
 have HC0_1:=k0 hc0_1
 clear hr0_1 hc0_1
 have HB:=k0 (Below.refl w.heap.size w)
 unfold F112.f at h
 have H:=h
 clear h
 obtain rfl:=Option.some.inj H
 go_enter Try.func112,Try.ntmps112
 go_wp2_with (first|(refine gate_dst (N:=1) rfl ?_;refine bxz 1 #[.int .i64 a0_0,.slice A0_1 l0_1.length c0_1] 26 bl ?_;intro gb101 w2 BK101 GW101 HB;have GE101:=GW101;obtain ⟨_,_,_,_⟩:=cz2 BK101))
 go_ret
 exact ⟨eR,bl⟩
/-! ### F113: function 113 -/
def F113.f (a0_0:Int) (l0_1:List (List Int)) (a1:Int):Option (Int × Int):=if 0≤(wrap64 (Int.tdiv a1 2)) then (if (wrap64 (Int.tdiv a1 2)) < (l0_1.length:Int) then (if 0≤(Int.tmod a1 2) then (if (Int.tmod a1 2) < ((rd_L1 l0_1 (wrap64 (Int.tdiv a1 2))).length:Int) then (if 0≤(wrap64 (1 - (Int.tmod a1 2))) then (if (wrap64 (1 - (Int.tmod a1 2))) < ((rd_L1 l0_1 (wrap64 (Int.tdiv a1 2))).length:Int) then (some (rd (rd_L1 l0_1 (wrap64 (Int.tdiv a1 2))) (Int.tmod a1 2),rd (rd_L1 l0_1 (wrap64 (Int.tdiv a1 2))) (wrap64 (1 - (Int.tmod a1 2))))) else (none)) else (none)) else (none)) else (none)) else (none)) else (none)
theorem F113.calls (a0_0 : Int) (A0_1 : Option Addr) (c0_1 : Nat) (l0_1 : List (List Int)) (a1 : Int) (r1 : Int) (r2 : Int) (w : World) (hr0_1 : Kd.C (Kd.slice 2 (Kd.int .i64)) w A0_1 l0_1.length l0_1) (hc0_1 : l0_1.length ≤ c0_1) (h : F113.f a0_0 l0_1 a1 = some (r1, r2)) :
  Calls Try.prog 113 #[.agg #[.int .i64 a0_0,.slice A0_1 l0_1.length c0_1],.int .i64 a1] w fun e w'=>e=.returned (.tuple #[.int .i64 r1,.int .i64 r2])∧Below w.heap.size w w':=by
 have hu26:=Try.underlying26
 have HR0_1:=k0 hr0_1
 have HC0_1:=k0 hc0_1
 clear hr0_1 hc0_1
 have HB:=k0 (Below.refl w.heap.size w)
 unfold F113.f at h
 have H:=h
 clear h
 obtain ⟨ji3,hji3⟩:∃ j_:Int,(wrap64 (Int.tdiv a1 2))=j_:=⟨_,rfl⟩
 replace H:(if 0≤(ji3) then (if (ji3) < (l0_1.length:Int) then (if 0≤(Int.tmod a1 2) then (if (Int.tmod a1 2) < ((rd_L1 l0_1 (ji3)).length:Int) then (if 0≤(wrap64 (1 - (Int.tmod a1 2))) then (if (wrap64 (1 - (Int.tmod a1 2))) < ((rd_L1 l0_1 (ji3)).length:Int) then (some (rd (rd_L1 l0_1 (ji3)) (Int.tmod a1 2),rd (rd_L1 l0_1 (ji3)) (wrap64 (1 - (Int.tmod a1 2))))) else (none)) else (none)) else (none)) else (none)) else (none)) else (none))=some (r1,r2):=by first|(rw [hji3] at H;exact H)|(simp only [hji3] at H ⊢;exact H)
 have hji3w:(IntKind.i64.wrap (Int.tdiv a1 2))=ji3:=(i64_w _).trans hji3
 replace H:=iS H;obtain ⟨c4,H⟩:=H
 have c4b0:=decide_eq_true c4
 clear c4
 replace H:=iS H;obtain ⟨c5,H⟩:=H
 have c5b0:=decide_eq_true c5
 clear c5
 obtain ⟨ji6,hji6⟩:∃ j_:Int,(Int.tmod a1 2)=j_:=⟨_,rfl⟩
 replace H:(if 0≤(ji6) then (if (ji6) < ((rd_L1 l0_1 (ji3)).length:Int) then (if 0≤(wrap64 (1 - (ji6))) then (if (wrap64 (1 - (ji6))) < ((rd_L1 l0_1 (ji3)).length:Int) then (some (rd (rd_L1 l0_1 (ji3)) (ji6),rd (rd_L1 l0_1 (ji3)) (wrap64 (1 - (ji6))))) else (none)) else (none)) else (none)) else (none))=some (r1,r2):=by first|(rw [hji6] at H;exact H)|(simp only [hji6] at H ⊢;exact H)
 replace H:=iS H;obtain ⟨c7,H⟩:=H
 have c7b0:=decide_eq_true c7
 clear c7
 replace H:=iS H;obtain ⟨c8,H⟩:=H
 have c8b0:=decide_eq_true c8
 clear c8
 obtain ⟨ji9,hji9⟩:∃ j_:Int,(wrap64 (1 - (ji6)))=j_:=⟨_,rfl⟩
 replace H:(if 0≤(ji9) then (if (ji9) < ((rd_L1 l0_1 (ji3)).length:Int) then (some (rd (rd_L1 l0_1 (ji3)) (ji6),rd (rd_L1 l0_1 (ji3)) (ji9))) else (none)) else (none))=some (r1,r2):=by first|(rw [hji9] at H;exact H)|(simp only [hji9] at H ⊢;exact H)
 have hji9w:(IntKind.i64.wrap (1 - (ji6)))=ji9:=(i64_w _).trans hji9
 replace H:=iS H;obtain ⟨c10,H⟩:=H
 have c10b0:=decide_eq_true c10
 clear c10
 replace H:=iS H;obtain ⟨c11,H⟩:=H
 have c11b0:=decide_eq_true c11
 clear c11
 obtain ⟨rfl,rfl⟩:=zSo H
 go_enter Try.func113,Try.ntmps113
 go_wp2_with (first|(refine gate_dst (N:=2) rfl ?_;refine bxz 2 #[.int .i64 a0_0,.slice A0_1 l0_1.length c0_1] 26 bl ?_;intro gb101 w12 BK101 GW101 HB;have GE101:=GW101;obtain ⟨hcz13_0,hcz13_1,hfz13_0,hfz13_1⟩:=cz2 BK101;have p102:0≤((ji3):Int):=oD;have q102:(ji3) < (l0_1.length:Int):=oD;obtain ⟨ad102,A102_0,c102_0,e102,hx102_0,hl102_0,hi102_0⟩:=at_L1 HR0_1.z (ji3) p102 q102;cases e102;replace hx102_0:=hbc HB hx102_0;have HR102_0:=k0 hi102_0;have HC102_0:=k0 hl102_0;clear hi102_0 hl102_0;replace p102:=eT p102;replace q102:=eT q102;have p103:0≤((ji6):Int):=oD;have q103:(ji6) < ((rd_L1 l0_1 (ji3)).length:Int):=oD;obtain ⟨ad103,e103,hx103_0⟩:=Kd.at_int HR102_0.z (ji6) p103 q103;cases e103;replace hx103_0:=hbc HB hx103_0;replace p103:=eT p103;replace q103:=eT q103;have p104:0≤((ji9):Int):=oD;have q104:(ji9) < ((rd_L1 l0_1 (ji3)).length:Int):=oD;obtain ⟨ad104,e104,hx104_0⟩:=Kd.at_int HR102_0.z (ji9) p104 q104;obtain rfl:ad103=ad104:=(by injection e104);replace hx104_0:=hbc HB hx104_0;replace p104:=eT p104;replace q104:=eT q104))
 repeat (go_quiet (first|(refine gate_dst (N:=2) rfl ?_;refine bxz 2 #[.int .i64 a0_0,.slice A0_1 l0_1.length c0_1] 26 bl ?_;intro gb101 w12 BK101 GW101 HB;have GE101:=GW101;obtain ⟨hcz13_0,hcz13_1,hfz13_0,hfz13_1⟩:=cz2 BK101;have p102:0≤((ji3):Int):=oD;have q102:(ji3) < (l0_1.length:Int):=oD;obtain ⟨ad102,A102_0,c102_0,e102,hx102_0,hl102_0,hi102_0⟩:=at_L1 HR0_1.z (ji3) p102 q102;cases e102;replace hx102_0:=hbc HB hx102_0;have HR102_0:=k0 hi102_0;have HC102_0:=k0 hl102_0;clear hi102_0 hl102_0;replace p102:=eT p102;replace q102:=eT q102;have p103:0≤((ji6):Int):=oD;have q103:(ji6) < ((rd_L1 l0_1 (ji3)).length:Int):=oD;obtain ⟨ad103,e103,hx103_0⟩:=Kd.at_int HR102_0.z (ji6) p103 q103;cases e103;replace hx103_0:=hbc HB hx103_0;replace p103:=eT p103;replace q103:=eT q103;have p104:0≤((ji9):Int):=oD;have q104:(ji9) < ((rd_L1 l0_1 (ji3)).length:Int):=oD;obtain ⟨ad104,e104,hx104_0⟩:=Kd.at_int HR102_0.z (ji9) p104 q104;obtain rfl:ad103=ad104:=(by injection e104);replace hx104_0:=hbc HB hx104_0;replace p104:=eT p104;replace q104:=eT q104));try go_wp2_with (first|(refine gate_dst (N:=2) rfl ?_;refine bxz 2 #[.int .i64 a0_0,.slice A0_1 l0_1.length c0_1] 26 bl ?_;intro gb101 w12 BK101 GW101 HB;have GE101:=GW101;obtain ⟨hcz13_0,hcz13_1,hfz13_0,hfz13_1⟩:=cz2 BK101;have p102:0≤((ji3):Int):=oD;have q102:(ji3) < (l0_1.length:Int):=oD;obtain ⟨ad102,A102_0,c102_0,e102,hx102_0,hl102_0,hi102_0⟩:=at_L1 HR0_1.z (ji3) p102 q102;cases e102;replace hx102_0:=hbc HB hx102_0;have HR102_0:=k0 hi102_0;have HC102_0:=k0 hl102_0;clear hi102_0 hl102_0;replace p102:=eT p102;replace q102:=eT q102;have p103:0≤((ji6):Int):=oD;have q103:(ji6) < ((rd_L1 l0_1 (ji3)).length:Int):=oD;obtain ⟨ad103,e103,hx103_0⟩:=Kd.at_int HR102_0.z (ji6) p103 q103;cases e103;replace hx103_0:=hbc HB hx103_0;replace p103:=eT p103;replace q103:=eT q103;have p104:0≤((ji9):Int):=oD;have q104:(ji9) < ((rd_L1 l0_1 (ji3)).length:Int):=oD;obtain ⟨ad104,e104,hx104_0⟩:=Kd.at_int HR102_0.z (ji9) p104 q104;obtain rfl:ad103=ad104:=(by injection e104);replace hx104_0:=hbc HB hx104_0;replace p104:=eT p104;replace q104:=eT q104)))
 go_ret2
 exact ⟨by first|rfl|(simp [errW_none,errW_some]<;>rfl)|(simp only [← hji3,← hji6,← hji9];first|rfl|(simp [errW_none,errW_some]<;>rfl))|(simp [*,errW_none,errW_some]<;>rfl),bl⟩
/-! ### F83: function 83 -/
mutual
def F83.l0 : Nat → List (List Int) → Int → Int → Int → List (List Int) → Option ((List (List Int)))
 | 0,_,_,_,_,_=>none
 | k+1,x3,x16,x17,x102000,x102001=>if x17 < x16 then ((F113.f x102000 x102001 x17).bind fun bt107=>((F112.f x102000 x102001).bind fun t109=>(F83.l1 k x3 x17 bt107.2 x16 x17 (wrap64 (2 * t109)) 0 x102000 x102001))) else (some x3)
def F83.l1 : Nat → List (List Int) → Int → Int → Int → Int → Int → Int → Int → List (List Int) → Option ((List (List Int)))
 | 0,_,_,_,_,_,_,_,_,_=>none
 | k+1,x3,x4,x6,x16,x17,x28,x29,x102000,x102001=>if x29 < x28 then ((F113.f x102000 x102001 x29).bind fun bt110=>(if bt110.1=x6 then (if x29=(Go.bits .xor .i64 x4 1) then (F83.l1 k x3 x4 x6 x16 x17 x28 (wrap64 (x29+1)) x102000 x102001) else (if 0≤x4 then (if x4 < (x3.length:Int) then (if 0≤x29 then (if x29 < ((rd_L1 x3 x4).length:Int) then (F83.l1 k (x3.set (x4:Int).toNat ((rd_L1 x3 x4).set (x29:Int).toNat 1)) x4 x6 x16 x17 x28 (wrap64 (x29+1)) x102000 x102001) else (none)) else (none)) else (none)) else (none))) else (F83.l1 k x3 x4 x6 x16 x17 x28 (wrap64 (x29+1)) x102000 x102001))) else (F83.l0 k x3 x16 (wrap64 (x17+1)) x102000 x102001)
end
def F83.f (k:Nat) (a0_0:Int) (l0_1:List (List Int)):Option ((List (List Int))):=(F112.f a0_0 l0_1).bind fun t102=>((F100.f k (wrap64 (2 * t102))).bind fun t103=>((F112.f a0_0 l0_1).bind fun t106=>(F83.l0 k t103 (wrap64 (2 * t106)) 0 a0_0 l0_1)))
theorem F83.calls (k : Nat) (a0_0 : Int) (A0_1 : Option Addr) (c0_1 : Nat) (l0_1 : List (List Int)) (r : List (List Int)) (w : World) (hr0_1 : Kd.C (Kd.slice 2 (Kd.int .i64)) w A0_1 l0_1.length l0_1) (hc0_1 : l0_1.length ≤ c0_1) (h : F83.f k a0_0 l0_1 = some r) :
  Calls Try.prog 83 #[.agg #[.int .i64 a0_0,.slice A0_1 l0_1.length c0_1]] w fun e w'=>∃ v0_:Value,e=.returned (v0_)∧Kd.S (Kd.slice 2 (Kd.int .i64)) 27 w' w.heap.size (fun _=>True) v0_ r∧Below w.heap.size w w':=by
 have hu26:=Try.underlying26
 have HR0_1:=k0 hr0_1
 have HC0_1:=k0 hc0_1
 clear hr0_1 hc0_1
 have HB:=k0 (Below.refl w.heap.size w)
 unfold F83.f at h
 have H:=h
 clear h
 replace H:=bS H;obtain ⟨t102,A2,H⟩:=H
 replace H:=bS H;obtain ⟨t103,A3,H⟩:=H
 replace H:=bS H;obtain ⟨t106,A4,H⟩:=H
 have H':=k0 H
 clear H
 go_enter Try.func83,Try.ntmps83
 go_wp2_with (first|(refine gate_dst (N:=1) rfl ?_;refine bxz 1 #[.int .i64 a0_0,.slice A0_1 l0_1.length c0_1] 26 bl ?_;intro gb101 w5 BK101 GW101 HB;have GE101:=GW101;obtain ⟨_,_,_,_⟩:=cz2 BK101)|(refine gate_callee (f:=112) rfl ?_;refine gC (some 11) Try.func112 #[.agg #[.int .i64 a0_0,.slice A0_1 l0_1.length c0_1]] ?_;(with_reducible refine (F112.calls a0_0 _ _ l0_1 t102 _ ?side1 ?side2 A2.z).mono ?_);(case side1=>exact aC (Kd.C_below HR0_1.z HB.z));(case side2=>exact HC0_1.z);rintro e w7 ⟨rfl,hb⟩;refine ⟨_,rfl,?_⟩;replace BK101:=kB BK101 hb;replace HB:=bW hb)|(refine gate_callee (f:=100) rfl ?_;refine gC (some 13) Try.func100 #[.int .i64 (wrap64 (2 * t102))] ?_;(with_reducible refine (F100.calls k (wrap64 (2 * t102)) t103 _ A3.z).mono ?_);rintro e w8 ⟨v104,rfl,ho0,hb⟩;refine ⟨_,rfl,?_⟩;have HO105:=k0 (Kd.S_lower ho0 (below_size bl));replace BK101:=kB BK101 hb;replace HB:=bW hb;obtain ⟨_,_,_,_⟩:=cz2 BK101)|(refine gate_callee (f:=112) rfl ?_;refine gC (some 15) Try.func112 #[.agg #[.int .i64 a0_0,.slice A0_1 l0_1.length c0_1]] ?_;(with_reducible refine (F112.calls a0_0 _ _ l0_1 t106 _ ?side1 ?side2 A4.z).mono ?_);(case side1=>exact aC (Kd.C_below HR0_1.z HB.z));(case side2=>exact HC0_1.z);rintro e w10 ⟨rfl,hb⟩;refine ⟨_,rfl,?_⟩;replace HO105:=bwS HO105 hb;replace BK101:=kB BK101 hb;replace HB:=bW hb))
 go_loopg [17] k (fun kq v17 w'=>∃ (x3_1:List (List Int)) (x17_1:Int),v17=.int .i64 x17_1∧Aside0 (F83.l0 kq x3_1 (wrap64 (2 * t106)) x17_1 a0_0 l0_1=some r)∧Aside0 (kq≤k)∧Aside0 (Kd.S (Kd.slice 2 (Kd.int .i64)) 27 w' w.heap.size (fun _=>True) v104 x3_1)∧Aside0 (w'.heap[gb101]?=some (sO a0_0 A0_1 l0_1 c0_1 26))∧Aside0 (Below w.heap.size w w'))
 case atStart=>exact ⟨(t103),(0),rs,H',⟨Nat.le_refl _⟩,⟨aS (HO105.z)⟩,⟨bk⟩,⟨bl⟩⟩
 case round =>
  clear H'
  obtain ⟨x3_1,x17_1,rfl,HA,HK1,HO_3,BK101,HB⟩:=hrel
  cases gk with
  | zero=>exact absurd HA.z (by simp [F83.l0])
  | succ k1 =>
   have H:=HA.z
   clear HA
   simp only [F83.l0] at H
   replace H:=iC H;obtain ⟨c11b0,H⟩|⟨c11b0,H⟩:=H
   case inl =>
    obtain rfl:=Option.some.inj H
    go_wp2
    go_ret
    exact ⟨_,eR,aS HO_3.z,bl⟩
   replace H:=bS H;obtain ⟨⟨t107,t108⟩,A12,H⟩:=H
   dsimp only at H
   replace H:=bS H;obtain ⟨t109,A13,H⟩:=H
   have H':=k0 H
   clear H
   obtain ⟨_,_,_,_⟩:=cz2 BK101
   go_wp2_with (first|(refine gate_callee (f:=113) rfl ?_;refine gC (some 23) Try.func113 #[.agg #[.int .i64 a0_0,.slice A0_1 l0_1.length c0_1],.int .i64 x17_1] ?_;(with_reducible refine (F113.calls a0_0 _ _ l0_1 x17_1 t107 t108 _ ?side1 ?side2 A12.z).mono ?_);(case side1=>exact aC (Kd.C_below HR0_1.z HB.z));(case side2=>exact HC0_1.z);rintro e w15 ⟨rfl,hb⟩;refine ⟨_,rfl,?_⟩;replace HO_3:=bwS HO_3 hb;replace BK101:=kB BK101 hb;replace HB:=bW hb;obtain ⟨_,_,_,_⟩:=cz2 BK101)|(refine gate_callee (f:=112) rfl ?_;refine gC (some 27) Try.func112 #[.agg #[.int .i64 a0_0,.slice A0_1 l0_1.length c0_1]] ?_;(with_reducible refine (F112.calls a0_0 _ _ l0_1 t109 _ ?side1 ?side2 A13.z).mono ?_);(case side1=>exact aC (Kd.C_below HR0_1.z HB.z));(case side2=>exact HC0_1.z);rintro e w17 ⟨rfl,hb⟩;refine ⟨_,rfl,?_⟩;replace HO_3:=bwS HO_3 hb;replace BK101:=kB BK101 hb;replace HB:=bW hb))
   go_loopg [29] k1 (fun kq v29 w'=>∃ (x3_2:List (List Int)) (x29_2:Int),v29=.int .i64 x29_2∧Aside0 (F83.l1 kq x3_2 x17_1 t108 (wrap64 (2 * t106)) x17_1 (wrap64 (2 * t109)) x29_2 a0_0 l0_1=some r)∧Aside0 (kq≤k1)∧Aside0 (Kd.S (Kd.slice 2 (Kd.int .i64)) 27 w' w.heap.size (fun _=>True) v104 x3_2)∧Aside0 (w'.heap[gb101]?=some (sO a0_0 A0_1 l0_1 c0_1 26))∧Aside0 (Below w.heap.size w w'))
   case atStart=>exact ⟨(x3_1),(0),rs,H',⟨Nat.le_refl _⟩,⟨aS (HO_3.z)⟩,⟨bk⟩,⟨bl⟩⟩
   case round =>
    clear H'
    obtain ⟨x3_2,x29_2,rfl,HA,HK2,HO_3,BK101,HB⟩:=hrel
    cases gk with
    | zero=>exact absurd HA.z (by simp [F83.l1])
    | succ k2 =>
     have H:=HA.z
     clear HA
     simp only [F83.l1] at H
     replace H:=iC H;obtain ⟨c18b0,H⟩|⟨c18b0,H⟩:=H
     case inl =>
      have H':=k0 H
      clear H
      go_wp2
      go_roundg k2
      case measure=>have:=HK1.z;have:=HK2.z;omega
      case rel=>exact ⟨(x3_2),(wrap64 (x17_1+1)),rs,H',⟨by have:=HK1.z;have:=HK2.z;omega⟩,⟨aS (HO_3.z)⟩,⟨bk⟩,⟨bl⟩⟩
     replace H:=bS H;obtain ⟨⟨t110,t111⟩,A19,H⟩:=H
     dsimp only at H
     replace H:=iE H;obtain ⟨c20,c20b0,c20b1,H⟩|⟨c20b0,c20b1,H⟩:=H
     case inl =>
      have H':=k0 H
      clear H
      obtain ⟨_,_,_,_⟩:=cz2 BK101
      go_wp2_with (first|(refine gate_callee (f:=113) rfl ?_;refine gC (some 35) Try.func113 #[.agg #[.int .i64 a0_0,.slice A0_1 l0_1.length c0_1],.int .i64 x29_2] ?_;(with_reducible refine (F113.calls a0_0 _ _ l0_1 x29_2 t110 t111 _ ?side1 ?side2 A19.z).mono ?_);(case side1=>exact aC (Kd.C_below HR0_1.z HB.z));(case side2=>exact HC0_1.z);rintro e w35 ⟨rfl,hb⟩;refine ⟨_,rfl,?_⟩;replace HO_3:=bwS HO_3 hb;replace BK101:=kB BK101 hb;replace HB:=bW hb))
      go_roundg k2
      case measure=>have:=HK1.z;have:=HK2.z;omega
      case rel=>exact ⟨(x3_2),(wrap64 (x29_2+1)),rs,H',⟨by have:=HK1.z;have:=HK2.z;omega⟩,⟨aS (HO_3.z)⟩,⟨bk⟩,⟨bl⟩⟩
     replace H:=iE H;obtain ⟨c21,c21b0,c21b1,H⟩|⟨c21b0,c21b1,H⟩:=H
     case inl =>
      replace H:=iS H;obtain ⟨c24,H⟩:=H
      have c24b0:=decide_eq_true c24
      clear c24
      replace H:=iS H;obtain ⟨c25,H⟩:=H
      have c25b0:=decide_eq_true c25
      clear c25
      replace H:=iS H;obtain ⟨c26,H⟩:=H
      have c26b0:=decide_eq_true c26
      clear c26
      replace H:=iS H;obtain ⟨c27,H⟩:=H
      have c27b0:=decide_eq_true c27
      clear c27
      obtain ⟨y113,Ny113⟩:=nY ((rd_L1 x3_2 x17_1).set (x29_2:Int).toNat 1:List Int)
      replace H:(F83.l1 k2 (x3_2.set (x17_1:Int).toNat y113) x17_1 t108 (wrap64 (2 * t106)) x17_1 (wrap64 (2 * t109)) (wrap64 (x29_2+1)) a0_0 l0_1)=some r:=rH Ny113.z H
      obtain ⟨y115,Ny115⟩:=nY (x3_2.set (x17_1:Int).toNat y113:List (List Int))
      replace H:(F83.l1 k2 y115 x17_1 t108 (wrap64 (2 * t106)) x17_1 (wrap64 (2 * t109)) (wrap64 (x29_2+1)) a0_0 l0_1)=some r:=rH Ny115.z H
      have H':=k0 H
      clear H
      obtain ⟨_,_,_,_⟩:=cz2 BK101
      go_wp2_with (first|(refine gate_callee (f:=113) rfl ?_;refine gC (some 35) Try.func113 #[.agg #[.int .i64 a0_0,.slice A0_1 l0_1.length c0_1],.int .i64 x29_2] ?_;(with_reducible refine (F113.calls a0_0 _ _ l0_1 x29_2 t110 t111 _ ?side1 ?side2 A19.z).mono ?_);(case side1=>exact aC (Kd.C_below HR0_1.z HB.z));(case side2=>exact HC0_1.z);rintro e w30 ⟨rfl,hb⟩;refine ⟨_,rfl,?_⟩;replace HO_3:=bwS HO_3 hb;replace BK101:=kB BK101 hb;replace HB:=bW hb;obtain ⟨Ao31,co31,rfl⟩:=Kd.S_slice HO_3.z;obtain ⟨p112,q112⟩:=iN x17_1 (x3_2.length:Int);obtain ⟨ad112,A112_0,c112_0,e112,hx112_0,hl112_0,hi112_0⟩:=at_L1 (Kd.S_reads' HO_3.z).2.2 x17_1 p112 q112;cases e112;obtain ⟨ce112,hce112,hMe112,hcc112⟩:=Kd.S_get HO_3.z [] x17_1 p112 (by first|exact q112|exact oD|(have e_:=(Kd.S_reads' HO_3.z).1;omega));obtain ⟨ve112_0,rfl,ge112_0⟩:=hMe112;have hv112_0:=hcc112 0 _ rfl;rw [Nat.add_zero,show ((Kd.slice 2 (Kd.int .i64))).sz=1 from rfl,Nat.mul_one] at hv112_0;replace hv112_0:=Option.some.inj (hv112_0.symm.trans hx112_0);rw [hv112_0] at ge112_0;have HL112_0:=k0 (show Kd.R (Kd.int .i64) 2 _ _ _ _ (rd_L1 x3_2 x17_1) from ge112_0);clear hv112_0 ge112_0;have HX112_0:=k0 hx112_0;clear hcc112 hce112;have HR112_0:=k0 hi112_0;have HC112_0:=k0 hl112_0;clear hi112_0 hl112_0;replace p112:=eT p112;replace q112:=eT q112;have p28:0≤(x29_2:Int):=oD;have q28:(x29_2:Int) < (((rd_L1 x3_2 x17_1).length:Int):Int):=oD;obtain ⟨go28,co28,eo28,gb28,gl28,cl28,HG28⟩:=Kd.R_form HL112_0.z (by omega);(first|cases eo28|(injection eo28 with ea_ en_ ec_;(first|subst ea_|(injection ea_ with ea_;subst ea_));subst ec_;clear en_));have GB28:=k0 gb28;have GG28:=k0 HG28;clear gb28 gl28 HG28;obtain ⟨hx28_0,hf28_0⟩:=Kd.R_celln 0 HL112_0.z (x29_2:Int) p28 q28;replace p28:=eT p28;replace q28:=eT q28;have hq32:(x17_1:Int) < (x3_2.length:Int):=(by have h_:(x17_1:Int) < ((x3_2.length:Int):Int):=oD;first|exact h_|(have e_:=(Kd.S_reads' HO_3.z).1;omega)|simpa only [List.length_set,List.length_set] using h_);obtain ⟨oki32,ce32,hcl32,hM32,hcc32,hok32,hbk32⟩:=Kd.S_borrow HO_3.z [] (x17_1:Int) oD (by first|exact hq32|(have e_:=(Kd.S_reads' HO_3.z).1;omega));obtain ⟨ve32_0,rfl,ge32_0⟩:=hM32;have hv32:=hcc32 0 _ rfl;rw [Nat.add_zero,show ((Kd.slice 2 (Kd.int .i64))).sz=1 from rfl,Nat.mul_one] at hv32;replace hv32:=Option.some.inj (hv32.symm.trans HX112_0.z);subst hv32;clear hcc32 hcl32;replace ge32_0:=(show Kd.R (Kd.int .i64) 2 _ _ _ _ (rd_L1 x3_2 x17_1) from ge32_0);have HP32:=Kd.R_putg ge32_0 (x29_2:Int) 1)|((with_reducible refine gate_store (t:=2) (p:=52) rfl ?_);refine store_event (t:=2) (p:=52) (v:=?vo_w33) (w1:=(w30.setCell ⟨go28,(x29_2:Int).toNat,none⟩ (.int .i64 1))) ?hg ?ho ?hn ?hr ?_;(case ho=>rfl);(case hg=>rfl);(case hn=>rfl);(case hr=>first|(go_simp;done)|(go_simp;rfl));intro w33 hw;have hg:w30.grownBy w33 (some go28):=(by rw [hw];exact HP32.2);have hz_:Kd.R (Kd.int .i64) 2 w33 w.heap.size oki32 (.slice (some ⟨go28,0,none⟩) (rd_L1 x3_2 x17_1).length c112_0) y113:=(by rw [hw,Ny113.z];exact HP32.1);have hp_:Kd.S (Kd.slice 2 (Kd.int .i64)) 27 w33 w.heap.size (fun _=>True) (.slice (some ad112) x3_2.length co31) y115:=(by rw [Ny115.z];exact hbk32 hg (fun k_ e_=>by injection e_ with e_;subst e_;exact ge32_0.1 _ rfl) (Kd.M_row hz_));have hm_:=Kd.R_mono hz_ hok32;clear HP32 hbk32;replace HO_3:=k0 hp_;replace BK101:=k0 (blk_grown (aB BK101.z) hg (Kd.R_ne HL112_0.z BK101.z (by decide)));replace HX112_0:=k0 (cell_grown hg HX112_0.z (cell_ne (hok32 _ (ge32_0.1 _ rfl)).2));replace HB:=k0 ((by rw [hw];exact below_set (HB.z) GB28.out:Below w.heap.size w w33));have HL116:=k0 hm_;have HC114:=k0 ((Kd.R_reads' hm_).2.1);clear HL112_0;clear hg hw hp_ hz_ hm_ hok32))
      go_roundg k2
      case measure=>have:=HK1.z;have:=HK2.z;omega
      case rel=>exact ⟨(y115),(wrap64 (x29_2+1)),rs,H',⟨by have:=HK1.z;have:=HK2.z;omega⟩,⟨aS (HO_3.z)⟩,⟨bk⟩,⟨bl⟩⟩
     have H':=k0 H
     clear H
     obtain ⟨_,_,_,_⟩:=cz2 BK101
     go_wp2_with (first|(refine gate_callee (f:=113) rfl ?_;refine gC (some 35) Try.func113 #[.agg #[.int .i64 a0_0,.slice A0_1 l0_1.length c0_1],.int .i64 x29_2] ?_;(with_reducible refine (F113.calls a0_0 _ _ l0_1 x29_2 t110 t111 _ ?side1 ?side2 A19.z).mono ?_);(case side1=>exact aC (Kd.C_below HR0_1.z HB.z));(case side2=>exact HC0_1.z);rintro e w23 ⟨rfl,hb⟩;refine ⟨_,rfl,?_⟩;replace HO_3:=bwS HO_3 hb;replace BK101:=kB BK101 hb;replace HB:=bW hb))
     go_roundg k2
     case measure=>have:=HK1.z;have:=HK2.z;omega
     case rel=>exact ⟨(x3_2),(wrap64 (x29_2+1)),rs,H',⟨by have:=HK1.z;have:=HK2.z;omega⟩,⟨aS (HO_3.z)⟩,⟨bk⟩,⟨bl⟩⟩
/-! ### F29: function 29 -/
def F29.f (k:Nat) (a0_0:Int) (l0_1:List (List Int)) (a1:Int):Option (Int × Int):=(F79.f k a0_0 l0_1 a1).bind fun t103=>(if t103=0 then ((F83.f k a0_0 l0_1).bind fun t104=>((F82.f k t104 a1).bind fun t107=>((F81.f k t107).bind fun t110=>(if 0≤(wrap64 (a1 - 1)) then (if (wrap64 (a1 - 1)) < (t110.length:Int) then (some (rd t110 (wrap64 (a1 - 1)),0)) else (none)) else (none))))) else (some (0,t103)))
def F29.T4:Bool × List (List Nat × List Nat):=(true,[([],[]),([0],[0]),([],[]),([1,2,1],[1,2]),([3,3],[3]),([],[]),([5],[5]),([4,6],[4,6]),([7],[7]),([8,4,0,1,2,3,4,5,6,7,8],[8]),([9,0,1,2,3,4,5,6,7,8,9],[])])
def F29.B4:List Nat:=[0,1,0,7,15,0,32,127,255,511,1023]
theorem F29.tab4:rtab .any (opsOf Try.f29 4)=F29.T4:=by kernel_rfl
theorem F29.bits4:waitsOk F29.T4.2 F29.B4=true:=by kernel_rfl
theorem F29.calls (k : Nat) (a0_0 : Int) (A0_1 : Option Addr) (c0_1 : Nat) (l0_1 : List (List Int)) (a1 : Int) (r1 : Int) (r2 : Int) (w : World) (hr0_1 : Kd.C (Kd.slice 2 (Kd.int .i64)) w A0_1 l0_1.length l0_1) (hc0_1 : l0_1.length ≤ c0_1) (h : F29.f k a0_0 l0_1 a1 = some (r1, r2)) :
  Calls Try.prog 29 #[.agg #[.int .i64 a0_0,.slice A0_1 l0_1.length c0_1],.int .i64 a1] w fun e w'=>e=.returned (.tuple #[.int .i64 r1,.int .i64 r2])∧Below w.heap.size w w':=by
 have hu26:=Try.underlying26
 have HR0_1:=k0 hr0_1
 have HC0_1:=k0 hc0_1
 clear hr0_1 hc0_1
 have HB:=k0 (Below.refl w.heap.size w)
 unfold F29.f at h
 have H:=h
 clear h
 replace H:=bS H;obtain ⟨t103,A3,H⟩:=H
 replace H:=iE H;obtain ⟨c4,c4b0,c4b1,H⟩|⟨c4b0,c4b1,H⟩:=H
 case inl =>
  obtain ⟨rfl,rfl⟩:=zSo H
  go_enter Try.func29,Try.ntmps29
  go_wp2_with (first|(refine gate_dst (N:=2) rfl ?_;refine bxz 2 #[.int .i64 a0_0,.slice A0_1 l0_1.length c0_1] 26 bl ?_;intro gb101 w23 BK101 GW101 HB;have GE101:=GW101)|(refine gate_dst (N:=3) rfl ?_;refine bxe 3 #[.int .i64 a1] 2 ?_;intro gb102 hg w24 hbox hb;have BK102:=k0 hbox;have GW102:=gW hg (below_size bl);have GE102:=GW102;replace HB:=bW hb;have NB101_102:=nL hg BK101;have NB102_101:=nG NB101_102;replace BK101:=kB BK101 hb;clear hb hbox hg;obtain ⟨_,_⟩:=nE NB101_102;obtain ⟨_,_,_,_⟩:=cz2 BK101)|(refine gate_callee (f:=40) rfl ?_;refine gC (some 9) Try.func40 #[.agg #[.int .i64 a0_0,.slice A0_1 l0_1.length c0_1],.func (.func 79) #[] #[.pointer (some ⟨gb102,0,none⟩)]] ?_;(with_reducible refine (F79.calls k a0_0 _ _ l0_1 a1 t103 _ ?side1 ?side2 ?side3 A3.z).mono ?_);(case side1=>exact aC (Kd.C_below HR0_1.z HB.z));(case side2=>exact HC0_1.z);(case side3=>exact by exact bk);rintro e w27 ⟨rfl,hb⟩;refine ⟨_,rfl,?_⟩;replace BK101:=kB BK101 hb;replace BK102:=kB BK102 hb;replace HB:=bW hb))
  go_ret2
  exact ⟨eR,bl⟩
 replace H:=bS H;obtain ⟨t104,A5,H⟩:=H
 replace H:=bS H;obtain ⟨t107,A6,H⟩:=H
 replace H:=bS H;obtain ⟨t110,A7,H⟩:=H
 obtain ⟨ji8,hji8⟩:∃ j_:Int,(wrap64 (a1 - 1))=j_:=⟨_,rfl⟩
 replace H:(if 0≤(ji8) then (if (ji8) < (t110.length:Int) then (some (rd t110 (ji8),0)) else (none)) else (none))=some (r1,r2):=by first|(rw [hji8] at H;exact H)|(simp only [hji8] at H ⊢;exact H)
 (try rw [hji8] at A3)
 (try rw [hji8] at A5)
 (try rw [hji8] at A6)
 (try rw [hji8] at A7)
 have hji8w:(IntKind.i64.wrap (a1 - 1))=ji8:=(i64_w _).trans hji8
 replace H:=iS H;obtain ⟨c9,H⟩:=H
 have c9b0:=decide_eq_true c9
 clear c9
 replace H:=iS H;obtain ⟨c10,H⟩:=H
 have c10b0:=decide_eq_true c10
 clear c10
 obtain ⟨rfl,rfl⟩:=zSo H
 go_enter Try.func29,Try.ntmps29
 try go_wp2_with (first|(refine gate_dst (N:=2) rfl ?_;refine bxz 2 #[.int .i64 a0_0,.slice A0_1 l0_1.length c0_1] 26 bl ?_;intro gb101 w11 BK101 GW101 HB;have GE101:=GW101)|(refine gate_dst (N:=3) rfl ?_;refine bxe 3 #[.int .i64 a1] 2 ?_;intro gb102 hg w12 hbox hb;have BK102:=k0 hbox;have GW102:=gW hg (below_size bl);have GE102:=GW102;replace HB:=bW hb;have NB101_102:=nL hg BK101;have NB102_101:=nG NB101_102;replace BK101:=kB BK101 hb;clear hb hbox hg;obtain ⟨_,_⟩:=nE NB101_102;obtain ⟨_,_,_,_⟩:=cz2 BK101)|(refine gate_callee (f:=40) rfl ?_;refine gC (some 9) Try.func40 #[.agg #[.int .i64 a0_0,.slice A0_1 l0_1.length c0_1],.func (.func 79) #[] #[.pointer (some ⟨gb102,0,none⟩)]] ?_;(with_reducible refine (F79.calls k a0_0 _ _ l0_1 a1 t103 _ ?side1 ?side2 ?side3 A3.z).mono ?_);(case side1=>exact aC (Kd.C_below HR0_1.z HB.z));(case side2=>exact HC0_1.z);(case side3=>exact by exact bk);rintro e w15 ⟨rfl,hb⟩;refine ⟨_,rfl,?_⟩;replace BK101:=kB BK101 hb;replace BK102:=kB BK102 hb;replace HB:=bW hb))
 replace BK101:=k0 (blk_drew BK101.z);replace BK102:=k0 (blk_drew BK102.z);replace HB:=k0 (below_drew1 HB.z)
 refine start_ (n:=11) (S:=fun w'=>w'.cell? ⟨gb101,0,none⟩=some (.int .i64 a0_0)∧w'.cell? ⟨gb101,1,none⟩=some (.slice A0_1 l0_1.length c0_1)∧w'.cell? ⟨gb102,0,none⟩=some (.int .i64 a1)) (ds:=[]) (ba 11 0) (by kernel_rfl) rfl rfl ⟨ce0 BK101,ce1 BK101,ce0 BK102⟩ (fun hHeld=>?_);refine with_tabW F29.tab4 F29.bits4 (fun HT_ HW_=>?_)
 generalize w15.drew=w16 at BK101 BK102 HB hHeld ⊢
 refine zT3 0 (some 13) (ba 11 1) HT_ HW_ hHeld (h:=?_)
 refine zT3 2 (some 15) (ba 11 5) HT_ HW_ hHeld (h:=?_)
 refine zT3 5 (some 18) (ba 11 37) HT_ HW_ hHeld (h:=?_)
 refine pu 6 (some 19) (ba 11 101) HT_ (h:=?_)
 refine one_ (i:=1) (N:=some 14) (ba 11 103) rfl rfl (one_of HT_.out (by kernel_rfl)) (by decide) (fun K hK=>?_)
 refine goes_ Try.func83 (by kernel_rfl) rfl #[.agg #[.int .i64 a0_0,.slice A0_1 l0_1.length c0_1]] (by rfl) rfl rfl gm ?_
 with_reducible refine (F83.calls k a0_0 _ _ l0_1 t104 _ ?side1 ?side2 A5.z).mono ?_
 (case side1=>exact aC (Kd.C_below HR0_1.z HB.z))
 (case side2=>exact HC0_1.z)
 rintro e w17 ⟨v105,rfl,ho0,hb⟩
 refine ⟨_,rfl,?_⟩
 have HO106:=k0 (Kd.S_lower (Kd.S_newB ho0 (aB BK102.z)) (below_size bl));replace BK101:=kB BK101 hb;replace BK102:=kB BK102 hb;replace HB:=bW hb
 obtain ⟨Ao18,co18,eo18⟩:=Kd.S_slice HO106.z
 (first|subst eo18|(injection eo18 with f1_ f2_ f3_;have f4_:=f1_.symm;have f5_:=f3_.symm;clear f1_ f2_ f3_;subst f4_;subst f5_))
 refine hK.out _ _ ⟨ce0 BK101,ce1 BK101,ce0 BK102⟩ (fun hHeld=>?_)
 clear hK K
 refine norm_ (a':=?_) ?_ ?_
 rotate_left;· show Act.put _ (some 14) _=_;simp only [Act.put,zI,zZ,zS,i64_w,i32_w];rfl
 refine one_ (i:=3) (N:=some 16) (ba 11 111) rfl rfl (one_of HT_.out (by kernel_rfl)) (by decide) (fun K hK=>?_)
 refine goes_ Try.func82 (by kernel_rfl) rfl #[.slice Ao18 t104.length co18,.int .i64 a1] (by rfl) rfl rfl gm ?_
 with_reducible refine (F82.calls k (fun k_=>((True∧k_ ≠ gb102)∧k_ ≠ gb101)) _ _ t104 a1 t107 _ ?side1 A6.z).mono ?_
 (case side1=>exact Kd.S_V (Kd.S_types (HO106.z) BK101.z (by decide)))
 rintro e w19 ⟨v108,rfl,ho0,hb⟩
 refine ⟨_,rfl,?_⟩
 replace HO106:=elS HO106 (Kd.R_base ho0) hb;have HO109:=k0 (Kd.R_lower (Kd.R_newB (Kd.R_mono (ok':=fun k_=>True) ho0 (fun _ hk_=>trivial)) (aB BK102.z)) (below_size bl));replace BK101:=kB BK101 hb;replace BK102:=kB BK102 hb;replace HB:=bW hb
 obtain ⟨Ao20,co20,eo20⟩:=Kd.R_slice HO109.z
 (first|subst eo20|(injection eo20 with f1_ f2_ f3_;have f4_:=f1_.symm;have f5_:=f3_.symm;clear f1_ f2_ f3_;subst f4_;subst f5_))
 refine hK.out _ _ ⟨ce0 BK101,ce1 BK101,ce0 BK102⟩ (fun hHeld=>?_)
 clear hK K
 refine norm_ (a':=?_) ?_ ?_
 rotate_left;· show Act.put _ (some 16) _=_;simp only [Act.put,zI,zZ,zS,i64_w,i32_w];rfl
 refine one_ (i:=4) (N:=some 17) (ba 11 127) rfl rfl (one_of HT_.out (by kernel_rfl)) (by decide) (fun K hK=>?_)
 refine goes_ Try.func81 (by kernel_rfl) rfl #[.slice Ao20 t107.length co20] (by rfl) rfl rfl gm ?_
 with_reducible refine (F81.calls k _ _ t107 t110 _ ?side1 ?side2 A7.z).mono ?_
 (case side1=>exact aC ((Kd.R_reads' HO109.z).2.2))
 (case side2=>exact (Kd.R_reads' HO109.z).2.1)
 rintro e w21 ⟨v111,rfl,ho0,hb⟩
 refine ⟨_,rfl,?_⟩
 replace HO106:=elS HO106 (Kd.R_base ho0) hb;have HO112:=k0 (Kd.R_lower (Kd.R_newB (Kd.R_new' ho0 (Kd.R_lt (aR HO109.z))) (aB BK102.z)) (below_size bl));replace HO109:=elR HO109 (Kd.R_base ho0) hb;replace BK101:=kB BK101 hb;replace BK102:=kB BK102 hb;replace HB:=bW hb
 obtain ⟨Ao22,co22,eo22⟩:=Kd.R_slice HO112.z
 (first|subst eo22|(injection eo22 with f1_ f2_ f3_;have f4_:=f1_.symm;have f5_:=f3_.symm;clear f1_ f2_ f3_;subst f4_;subst f5_))
 have p113:0≤((ji8):Int):=oD
 have q113:(ji8) < (t110.length:Int):=oD
 obtain ⟨ad113,e113,hx113_0⟩:=Kd.at_int (Kd.R_reads' HO112.z).2.2 (ji8) p113 q113
 cases e113
 replace p113:=eT p113
 replace q113:=eT q113
 refine hK.out _ _ ⟨ce0 BK101,ce1 BK101,ce0 BK102⟩ (fun hHeld=>?_)
 clear hK K
 refine norm_ (a':=?_) ?_ ?_
 rotate_left;· show Act.put _ (some 17) _=_;simp only [Act.put,zI,zZ,zS,i64_w,i32_w];rfl
 refine pu 7 (some 20) (ba 11 255) HT_ (h:=?_)
 refine one_ (i:=8) (N:=some 21) (ba 11 511) rfl rfl (one_of HT_.out (by kernel_rfl)) (by decide) (fun K hK=>?_)
 rw [if_pos (by rfl)]
 unfold Oper.wp
 go_simp
 refine hK.out _ _ hHeld (fun hHeld=>?_)
 clear hK K
 refine pu 9 (some 4) (ba 11 1023) HT_ (h:=?_)
 refine pu 10 (some 5) (ba 11 2047) HT_ (h:=?_)
 refine done_ (done_of HT_.out (by kernel_rfl)) ?_
 try go_wp2
 go_ret2
 exact ⟨by first|rfl|(simp [errW_none,errW_some]<;>rfl)|(simp only [← hji8];first|rfl|(simp [errW_none,errW_some]<;>rfl))|(simp [*,errW_none,errW_some]<;>rfl),bl⟩
/-! ### F84: function 84 -/
def F84.f (k:Nat) (a0_0:Int) (l0_1:List (List Int)) (a1:Int):Option Int :=
 (F49.f k a0_0 l0_1).bind fun b=>if b=true then ((F80.f a1).bind fun q0=>if q0=true then some 0 else some 2) else some 1
theorem F84.calls {b1 : Nat} (k : Nat) (a0_0 : Int) (A0_1 : Option Addr) (c0_1 : Nat) (l0_1 : List (List Int)) (a1 : Int) (r : Int) (w : World) (hr0_1 : Kd.C (Kd.slice 2 (Kd.int .i64)) w A0_1 l0_1.length l0_1) (hc0_1 : l0_1.length ≤ c0_1) (hb1 : w.heap[b1]? = some (.cells #[.int .i64 a1] 2 (0, 0))) (h : F84.f k a0_0 l0_1 a1 = some r) :
  Calls Try.prog 40 #[.agg #[.int .i64 a0_0,.slice A0_1 l0_1.length c0_1],.func (.func 84) #[] #[.pointer (some ⟨b1,0,none⟩)]] w fun e w'=>e=.returned (.int .i64 r)∧Below w.heap.size w w':=by
 have HR0:=k0 hr0_1
 clear hr0_1
 have BK1:=k0 hb1
 have BZ1:=blk_lt hb1
 clear hb1
 unfold F84.f at h
 obtain ⟨b,hb,h⟩:=Option.bind_eq_some_iff.mp h
 have HG:=fun W (hw:Below w.heap.size w W)=>F49.calls k a0_0 A0_1 c0_1 l0_1 b W (Kd.C_below HR0.z hw) hc0_1 hb
 have HG':=k0 HG
 clear HG hb
 cases b
 case' true =>
  simp only [if_true] at h
  obtain ⟨q0,hq0,h⟩:=Option.bind_eq_some_iff.mp h
  have HQ0:=fun W (hw:Below w.heap.size w W)=>F80.calls (a1) q0 W  hq0
  have HQ0':=k0 HQ0
  clear HQ0 hq0
  cases q0
  case' true =>
   simp only [if_true] at h
 all_goals
  simp only [Bool.false_eq_true,if_false,Option.some.injEq] at h
  subst h
  go_enter Try.func40,Try.ntmps40
  go_wp2_with (first|(go_at_call 49;refine (HG'.out _ (by repeat (first|exact Below.refl _ _|apply below_alloc|apply pw_below_drewN))).mono ?_;rintro e w1 ⟨rfl,hb1⟩;have HB1:=k0 (below_step (by repeat (first|exact Below.refl _ _|apply below_alloc|apply pw_below_drewN)) hb1:Below w.heap.size w w1);clear hb1;have hcz_w1_1_0:w1.cell? ⟨b1,0,none⟩=some (.int .i64 a1):=(blk_cell (blk_below BK1.z HB1.z) 0).trans rfl;have hfz_w1_1_0:=blk_frozen (blk_below BK1.z HB1.z) 0)|(go_at_call 80;refine (HQ0'.out _ (by repeat (first|exact HB1.z|apply below_alloc|apply pw_below_drewN))).mono ?_;rintro e w_ ⟨rfl,⟨nd_,rfl⟩⟩)|go_in)
  go_ret
  exact ⟨rs,by repeat (first|exact HB1.z|apply below_alloc|apply pw_below_drewN|apply below_drew1)⟩
/-! ### F85: function 85 -/
def F85.f (k:Nat) (a0_0:Int) (l0_1:List (List Int)) (a1:Int):Option (Int):=(F83.f k a0_0 l0_1).bind fun t102=>((F82.f k t102 a1).bind fun t105=>(if 0≤(wrap64 (a1 - 1)) then (if (wrap64 (a1 - 1)) < (t105.length:Int) then (some (rd t105 (wrap64 (a1 - 1)))) else (none)) else (none)))
theorem F85.calls (k : Nat) (a0_0 : Int) (A0_1 : Option Addr) (c0_1 : Nat) (l0_1 : List (List Int)) (a1 : Int) (r : Int) (w : World) (hr0_1 : Kd.C (Kd.slice 2 (Kd.int .i64)) w A0_1 l0_1.length l0_1) (hc0_1 : l0_1.length ≤ c0_1) (h : F85.f k a0_0 l0_1 a1 = some r) :
  Calls Try.prog 85 #[.agg #[.int .i64 a0_0,.slice A0_1 l0_1.length c0_1],.int .i64 a1] w fun e w'=>e=.returned (.int .i64 r)∧Below w.heap.size w w':=by
 have hu26:=Try.underlying26
 have HR0_1:=k0 hr0_1
 have HC0_1:=k0 hc0_1
 clear hr0_1 hc0_1
 have HB:=k0 (Below.refl w.heap.size w)
 unfold F85.f at h
 have H:=h
 clear h
 replace H:=bS H;obtain ⟨t102,A3,H⟩:=H
 replace H:=bS H;obtain ⟨t105,A4,H⟩:=H
 obtain ⟨ji5,hji5⟩:∃ j_:Int,(wrap64 (a1 - 1))=j_:=⟨_,rfl⟩
 replace H:(if 0≤(ji5) then (if (ji5) < (t105.length:Int) then (some (rd t105 (ji5))) else (none)) else (none))=some r:=by first|(rw [hji5] at H;exact H)|(simp only [hji5] at H ⊢;exact H)
 (try rw [hji5] at A3)
 (try rw [hji5] at A4)
 have hji5w:(IntKind.i64.wrap (a1 - 1))=ji5:=(i64_w _).trans hji5
 replace H:=iS H;obtain ⟨c6,H⟩:=H
 have c6b0:=decide_eq_true c6
 clear c6
 replace H:=iS H;obtain ⟨c7,H⟩:=H
 have c7b0:=decide_eq_true c7
 clear c7
 obtain rfl:=Option.some.inj H
 go_enter Try.func85,Try.ntmps85
 go_wp2_with (first|(refine gate_dst (N:=2) rfl ?_;refine bxz 2 #[.int .i64 a0_0,.slice A0_1 l0_1.length c0_1] 26 bl ?_;intro gb101 w8 BK101 GW101 HB;have GE101:=GW101;obtain ⟨_,_,_,_⟩:=cz2 BK101)|(refine gate_callee (f:=83) rfl ?_;refine gC (some 6) Try.func83 #[.agg #[.int .i64 a0_0,.slice A0_1 l0_1.length c0_1]] ?_;(with_reducible refine (F83.calls k a0_0 _ _ l0_1 t102 _ ?side1 ?side2 A3.z).mono ?_);(case side1=>exact aC (Kd.C_below HR0_1.z HB.z));(case side2=>exact HC0_1.z);rintro e w10 ⟨v103,rfl,ho0,hb⟩;refine ⟨_,rfl,?_⟩;have HO104:=k0 (Kd.S_lower ho0 (below_size bl));replace BK101:=kB BK101 hb;replace HB:=bW hb;obtain ⟨Ao11,co11,rfl⟩:=Kd.S_slice HO104.z)|(refine gate_callee (f:=82) rfl ?_;refine gC (some 8) Try.func82 #[.slice Ao11 t102.length co11,.int .i64 a1] ?_;(with_reducible refine (F82.calls k (fun k_=>(True∧k_ ≠ gb101)) _ _ t102 a1 t105 _ ?side1 A4.z).mono ?_);(case side1=>exact Kd.S_V (Kd.S_types (HO104.z) BK101.z (by decide)));rintro e w12 ⟨v106,rfl,ho0,hb⟩;refine ⟨_,rfl,?_⟩;replace HO104:=elS HO104 (Kd.R_base ho0) hb;have HO107:=k0 (Kd.R_lower (Kd.R_mono (ok':=fun k_=>True) ho0 (fun _ hk_=>trivial)) (below_size bl));replace BK101:=kB BK101 hb;replace HB:=bW hb;obtain ⟨Ao13,co13,rfl⟩:=Kd.R_slice HO107.z;have p108:0≤((ji5):Int):=oD;have q108:(ji5) < (t105.length:Int):=oD;obtain ⟨ad108,e108,hx108_0⟩:=Kd.at_int (Kd.R_reads' HO107.z).2.2 (ji5) p108 q108;cases e108;replace p108:=eT p108;replace q108:=eT q108))
 go_ret
 exact ⟨by first|rfl|(simp [errW_none,errW_some]<;>rfl)|(simp only [← hji5];first|rfl|(simp [errW_none,errW_some]<;>rfl))|(simp [*,errW_none,errW_some]<;>rfl),bl⟩
end Go.Proofs.Ytgjdbnipcpmhiaa.P
/- Set with little white space, by a program. -/
