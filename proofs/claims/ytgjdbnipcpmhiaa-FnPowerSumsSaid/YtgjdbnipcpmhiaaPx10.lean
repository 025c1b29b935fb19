/- Go's calls come to what the Lean functions say. Condition of each: that the Lean function answers. -/
import Derived.Test.YtgjdbnipcpmhiaaPx0
import Derived.Test.YtgjdbnipcpmhiaaPx1
import Derived.Test.YtgjdbnipcpmhiaaPx4
import Derived.Test.YtgjdbnipcpmhiaaPx9
namespace Go.Proofs.Ytgjdbnipcpmhiaa.P
open Go.RowKit Go.Proofs.YtgjdbnipcpmhiaaW.PrintWords Go.Proofs.YtgjdbnipcpmhiaaW.PrintLast Go.Proofs.YtgjdbnipcpmhiaaW.PrintMore
attribute [local go_sem] max2_int min2_int max_two min_two max_three min_three max_four min_four
set_option linter.unusedVariables false
set_option linter.unusedSimpArgs false
set_option maxHeartbeats 8000000
set_option maxRecDepth 100000
/-! ### F92: function 92 -/
def F92.l0 : Nat → List Int → Int → Int → Int → List (List Int) → Option (Int × (List (List Int)) × Int × Int)
 | 0,_,_,_,_,_=>none
 | k+1,x1000,x1001,x1002,x102000,x102001=>if (x102001.length:Int)≤10 then (if x102001.length < 5864062014805 then (F92.l0 k x1000 x1001 x1002 x102000 (x102001 ++ [(([0,0]:List Int))])) else (none)) else (some (x102000,x102001,x1001,x1002))
def F92.f (k:Nat) (s0_0:List Int) (s0_1:Int) (s0_2:Int) (a1_0:Int) (l1_1:List (List Int)):Option (Int × (List (List Int)) × Int × Int):=(F60.f s0_0 s0_1 s0_2 40).bind fun bt103=>(if bt103.1=0 then ((F67.f s0_0 bt103.2.1 bt103.2.2 (([0,9,wrap64 (a1_0 - 1)]:List Int))).bind fun bt109=>(some (bt109.1,l1_1,bt109.2.1,bt109.2.2))) else (if bt103.1=1 then ((F114.f k a1_0 l1_1).bind fun bt112=>(if bt112.2.length < 5864062014805 then (some (bt112.1,(bt112.2 ++ [(([0,bt112.1]:List Int))]),bt103.2.1,bt103.2.2)) else (none))) else (if bt103.1=2 then ((F114.f k a1_0 l1_1).bind fun bt122=>(if (bt122.2.length:Int) > 0 then ((F60.f s0_0 bt103.2.1 bt103.2.2 (bt122.2.length:Int)).bind fun bt126=>(if 0≤bt126.1 then (if bt126.1 < (bt122.2.length:Int) then (if (rd_L1 bt122.2 bt126.1).length < 17592186044416 then (some (bt122.1,(bt122.2.set (bt126.1:Int).toNat ((rd_L1 bt122.2 bt126.1) ++ [0])),bt126.2.1,bt126.2.2)) else (none)) else (none)) else (none))) else (some (bt122.1,bt122.2,bt103.2.1,bt103.2.2)))) else (if bt103.1=3 then ((F114.f k a1_0 l1_1).bind fun bt134=>(F92.l0 k s0_0 bt103.2.1 bt103.2.2 bt134.1 bt134.2)) else (some (a1_0,l1_1,bt103.2.1,bt103.2.2))))))
def F92.T12:Bool × List (List Nat × List Nat):=(true,[([],[]),([0],[0]),([],[]),([],[]),([3],[3]),([],[]),([4,5],[4,5]),([6],[6]),([],[]),([7,8],[7,8]),([1,2,0,1,2,3,4,5,6,7,8,9],[1,2]),([10,9,9,0,1,2,3,4,5,6,7,8,9],[9,10])])
def F92.B12:List Nat:=[0,1,0,0,8,0,56,120,0,504,1023,2047]
theorem F92.tab12:rtab .any (opsOf Try.f92 12)=F92.T12:=by kernel_rfl
theorem F92.bits12:waitsOk F92.T12.2 F92.B12=true:=by kernel_rfl
theorem F92.calls (k : Nat) (g : Nat) (s0_0 : List Int) (s0_1 : Int) (s0_2 : Int) (a1_0 : Int) (P1_1_ : Nat → Prop) (A1_1 : Option Addr) (c1_1 : Nat) (l1_1 : List (List Int)) (r1 : Int) (r2 : List (List Int)) (r3 : Int) (r4 : Int) (w0 w : World) (hI : IsS89 w0 w g s0_0 s0_1 s0_2) (hB : Below w0.heap.size w0 w) (hs1_1 : Kd.V (Kd.slice 2 (Kd.int .i64)) 27 w w.heap.size (fun k_ => P1_1_ k_ ∧ k_ ≠ g) (.slice A1_1 l1_1.length c1_1) l1_1) (h : F92.f k s0_0 s0_1 s0_2 a1_0 l1_1 = some (r1, r2, r3, r4)) :
  Calls Try.prog 92 #[.pointer (some ⟨g,0,none⟩),.agg #[.int .i64 a1_0,.slice A1_1 l1_1.length c1_1]] w fun e w'=>∃ v1_:Value,e=.returned (.agg #[.int .i64 r1,v1_])∧Kd.V (Kd.slice 2 (Kd.int .i64)) 27 w' w.heap.size (fun k_=>(P1_1_ k_∨w.heap.size≤k_)) v1_ r2∧IsS89 w0 w' g s0_0 r3 r4∧Below w0.heap.size w0 w'∧KeepBut w w' g none:=by
 have hu26:=Try.underlying26
 have HO1_1:=k0 (show Kd.V (Kd.slice 2 (Kd.int .i64)) 27 w w.heap.size (fun k_=>(P1_1_ k_∨w.heap.size≤k_)∧k_ ≠ g) (.slice A1_1 l1_1.length c1_1) l1_1 from Kd.V_mono hs1_1 (fun k_ hk=>⟨.inl hk.1,hk.2⟩))
 have HI0:=k0 hI
 have HK:=k0 (KeepBut.refl w g none)
 have HL:=k0 hB.size
 clear hI
 have HW0:=k0 hB.size
 have HB:=k0 hB
 clear hB
 unfold F92.f at h
 have H:=h
 clear h
 replace H:=bS H;obtain ⟨⟨t103,t104,t105⟩,A3,H⟩:=H
 dsimp only at H
 replace H:=iE H;obtain ⟨c4,c4b0,c4b1,H⟩|⟨c4b0,c4b1,H⟩:=H
 case inl =>
  replace H:=iE H;obtain ⟨c19,c19b0,c19b1,H⟩|⟨c19b0,c19b1,H⟩:=H
  case inl =>
   replace H:=iE H;obtain ⟨c39,c39b0,c39b1,H⟩|⟨c39b0,c39b1,H⟩:=H
   case inl =>
    replace H:=iE H;obtain ⟨c78,c78b0,c78b1,H⟩|⟨c78b0,c78b1,H⟩:=H
    case inl =>
     simp only [Option.some.injEq,Prod.mk.injEq] at H
     obtain ⟨rfl,rfl,rfl,rfl⟩:=H
     go_enter Try.func92,Try.ntmps92
     go_wp2_with (first|(refine gate_dst (N:=3) rfl ?_;refine bxe 3 #[.int .i64 a1_0,.slice A1_1 l1_1.length c1_1] 26 ?_;intro gb101 hg w107 hbox hb;replace HO1_1:=ebV HO1_1 hg hb;replace HB:=k0 (below_step (aG (IsS89.ge HI0.z) HB.z) hb);have BK101:=k0 hbox;have GW101:=gW hg (keep_size (aK HK.z));have GE101:=k0 (Nat.le_trans HW0.z GW101.z);replace HK:=zKd HK hb;have NB0_101:=k0 ((by rw [hg];exact Nat.ne_of_lt (IsS89.lt (show IsS89 w0 _ g s0_0 s0_1 s0_2 from aIsS89 HI0.z)):g ≠ gb101));have NB101_0:=k0 ((by rw [hg];exact Nat.ne_of_gt (IsS89.lt (show IsS89 w0 _ g s0_0 s0_1 s0_2 from aIsS89 HI0.z)):gb101 ≠ g));replace HI0:=k0 (IsS89.below (aIsS89 HI0.z) hb);clear hb hbox hg)|(refine gate_dst (N:=4) rfl ?_;refine bxe 4 #[.int .i64 0,.slice none 0 0] 26 ?_;intro gb102 hg w108 hbox hb;replace HO1_1:=ebV HO1_1 hg hb;replace HB:=k0 (below_step (aG (IsS89.ge HI0.z) HB.z) hb);have BK102:=k0 hbox;have GW102:=gW hg (keep_size (aK HK.z));have GE102:=k0 (Nat.le_trans HW0.z GW102.z);replace HK:=zKd HK hb;have NB101_102:=nL hg BK101;have NB102_101:=nG NB101_102;replace BK101:=kB BK101 hb;have NB0_102:=k0 ((by rw [hg];exact Nat.ne_of_lt (IsS89.lt (show IsS89 w0 _ g s0_0 s0_1 s0_2 from aIsS89 HI0.z)):g ≠ gb102));have NB102_0:=k0 ((by rw [hg];exact Nat.ne_of_gt (IsS89.lt (show IsS89 w0 _ g s0_0 s0_1 s0_2 from aIsS89 HI0.z)):gb102 ≠ g));replace HI0:=k0 (IsS89.below (aIsS89 HI0.z) hb);clear hb hbox hg)|(refine gate_callee (f:=60) rfl ?_;refine gC (some 8) Try.func60 #[.pointer (some ⟨g,0,none⟩),.int .i64 40] ?_;(with_reducible refine (F60.calls g s0_0 s0_1 s0_2 40 t103 t104 t105 w0 _ ?side1 ?side2 A3.z).mono ?_);(case side1=>exact aIsS89 HI0.z);(case side2=>exact aG (IsS89.ge HI0.z) HB.z);rintro e w109 ⟨rfl,hi,hb,hk⟩;refine ⟨_,rfl,?_⟩;replace HO1_1:=k0 (Kd.V_mono (Kd.V_keep (Kd.V_mono (ok:=fun k_=>(((((P1_1_ k_∨w.heap.size≤k_))∧k_ ≠ g)∧k_ ≠ gb101)∧k_ ≠ gb102)) (aV HO1_1.z) (fun k_ hk_=>(⟨hk_,hk_.1.1.2⟩:_∧k_ ≠ g))) hk (fun _ h=>h.2)) (fun _ h=>h.1));replace BK101:=kK hk BK101 NB101_0;replace BK102:=kK hk BK102 NB102_0;replace HK:=zKc HK hk;replace HB:=k0 hb;replace HI0:=k0 hi;obtain ⟨_,_⟩:=nE NB101_102;obtain ⟨_,_⟩:=nE NB101_0;obtain ⟨_,_,_,_⟩:=cz2 BK101;obtain ⟨_,_⟩:=nE NB102_0;obtain ⟨_,_,_,_⟩:=cz2 BK102))
     refine bodyPost_ret (results_cell_row rfl _ _ gb102 26 #[.int .i64 a1_0,.slice A1_1 l1_1.length c1_1] (0,0) _ rfl kZ Try.underlying26 rfl (by kernel_rfl)) rfl ?_
     exact ⟨_,eR,aV (Kd.V_mono (Kd.V_far (p:=⟨gb102,1,none⟩) (Kd.V_far (p:=⟨gb102,0,none⟩) (Kd.V_mono HO1_1.z (fun k_ hk=>(⟨hk,hk.2⟩:_∧k_ ≠ gb102))) (fun _ hk=>hk.2) (.int .i64 a1_0)) (fun _ hk=>hk.2) (.slice A1_1 l1_1.length c1_1)) (fun _ hk=>hk.1.1.1.1)),aIsS89 HI0.z,aG (IsS89.ge HI0.z) HB.z,aK HK.z⟩
    replace H:=bS H;obtain ⟨⟨t134,t135⟩,A79,H⟩:=H
    dsimp only at H
    have H':=k0 H
    clear H
    go_enter Try.func92,Try.ntmps92
    go_wp2_with (first|(refine gate_dst (N:=3) rfl ?_;refine bxe 3 #[.int .i64 a1_0,.slice A1_1 l1_1.length c1_1] 26 ?_;intro gb101 hg w80 hbox hb;replace HO1_1:=ebV HO1_1 hg hb;replace HB:=k0 (below_step (aG (IsS89.ge HI0.z) HB.z) hb);have BK101:=k0 hbox;have GW101:=gW hg (keep_size (aK HK.z));have GE101:=k0 (Nat.le_trans HW0.z GW101.z);replace HK:=zKd HK hb;have NB0_101:=k0 ((by rw [hg];exact Nat.ne_of_lt (IsS89.lt (show IsS89 w0 _ g s0_0 s0_1 s0_2 from aIsS89 HI0.z)):g ≠ gb101));have NB101_0:=k0 ((by rw [hg];exact Nat.ne_of_gt (IsS89.lt (show IsS89 w0 _ g s0_0 s0_1 s0_2 from aIsS89 HI0.z)):gb101 ≠ g));replace HI0:=k0 (IsS89.below (aIsS89 HI0.z) hb);clear hb hbox hg)|(refine gate_dst (N:=4) rfl ?_;refine bxe 4 #[.int .i64 0,.slice none 0 0] 26 ?_;intro gb102 hg w81 hbox hb;replace HO1_1:=ebV HO1_1 hg hb;replace HB:=k0 (below_step (aG (IsS89.ge HI0.z) HB.z) hb);have BK102:=k0 hbox;have GW102:=gW hg (keep_size (aK HK.z));have GE102:=k0 (Nat.le_trans HW0.z GW102.z);replace HK:=zKd HK hb;have NB101_102:=nL hg BK101;have NB102_101:=nG NB101_102;replace BK101:=kB BK101 hb;have NB0_102:=k0 ((by rw [hg];exact Nat.ne_of_lt (IsS89.lt (show IsS89 w0 _ g s0_0 s0_1 s0_2 from aIsS89 HI0.z)):g ≠ gb102));have NB102_0:=k0 ((by rw [hg];exact Nat.ne_of_gt (IsS89.lt (show IsS89 w0 _ g s0_0 s0_1 s0_2 from aIsS89 HI0.z)):gb102 ≠ g));replace HI0:=k0 (IsS89.below (aIsS89 HI0.z) hb);clear hb hbox hg)|(refine gate_callee (f:=60) rfl ?_;refine gC (some 8) Try.func60 #[.pointer (some ⟨g,0,none⟩),.int .i64 40] ?_;(with_reducible refine (F60.calls g s0_0 s0_1 s0_2 40 t103 t104 t105 w0 _ ?side1 ?side2 A3.z).mono ?_);(case side1=>exact aIsS89 HI0.z);(case side2=>exact aG (IsS89.ge HI0.z) HB.z);rintro e w82 ⟨rfl,hi,hb,hk⟩;refine ⟨_,rfl,?_⟩;replace HO1_1:=k0 (Kd.V_mono (Kd.V_keep (Kd.V_mono (ok:=fun k_=>(((((P1_1_ k_∨w.heap.size≤k_))∧k_ ≠ g)∧k_ ≠ gb101)∧k_ ≠ gb102)) (aV HO1_1.z) (fun k_ hk_=>(⟨hk_,hk_.1.1.2⟩:_∧k_ ≠ g))) hk (fun _ h=>h.2)) (fun _ h=>h.1));replace BK101:=kK hk BK101 NB101_0;replace BK102:=kK hk BK102 NB102_0;replace HK:=zKc HK hk;replace HB:=k0 hb;replace HI0:=k0 hi;obtain ⟨_,_⟩:=nE NB101_102;obtain ⟨_,_⟩:=nE NB101_0;obtain ⟨_,_,_,_⟩:=cz2 BK101)|(refine gate_callee (f:=114) rfl ?_;refine gC (some 56) Try.func114 #[.agg #[.int .i64 a1_0,.slice A1_1 l1_1.length c1_1]] ?_;(with_reducible refine (F114.calls k a1_0 _ _ l1_1 t134 t135 _ ?side1 ?side2 A79.z).mono ?_);(case side1=>exact aC ((Kd.V_reads' HO1_1.z).2.2));(case side2=>exact (Kd.V_reads' HO1_1.z).2.1);rintro e w86 ⟨v136,rfl,ho0,hb⟩;refine ⟨_,rfl,?_⟩;replace HO1_1:=elV HO1_1 (Kd.S_base ho0) hb;have HO137:=k0 (Kd.S_lower (Kd.S_newM (M:=fun k_=>(w.heap.size≤k_)) ho0 (keep_size (aK HK.z)) (fun k_ h_=>h_)) (keep_size (aK HK.z)));replace BK101:=kB BK101 hb;replace BK102:=kB BK102 hb;replace HK:=zKd HK hb;replace HB:=k0 (below_step (aG (IsS89.ge HI0.z) HB.z) hb);replace HI0:=k0 (IsS89.below (aIsS89 HI0.z) hb);obtain ⟨_,_,_,_⟩:=cz2 BK101;obtain ⟨Ao88,co88,rfl⟩:=Kd.S_slice HO137.z))
    go_loopg [] k (fun kq w'=>∃ (x102001_1:List (List Int)) (u102001:Value),Aside0 (F92.l0 kq s0_0 t104 t105 t134 x102001_1=some (r1,r2,r3,r4))∧Aside0 (kq≤k)∧Aside0 (Kd.S (Kd.slice 2 (Kd.int .i64)) 27 w' w.heap.size (fun k_=>(w.heap.size≤k_)) u102001 x102001_1)∧Aside0 (w'.heap[gb101]?=some (.cells #[.int .i64 t134,u102001] 26 (0,0)))∧Aside0 (w'.heap[gb102]?=some (.cells #[.int .i64 0,(.slice none 0 0)] 26 (0,0)))∧Aside0 (IsS89 w0 w' g s0_0 t104 t105)∧Aside0 (KeepBut w w' g none)∧Aside0 (Below w0.heap.size w0 w'))
    case atStart=>exact ⟨(t135),(.slice Ao88 t135.length co88),H',⟨Nat.le_refl _⟩,⟨aS (Kd.S_mono (gS 1 (.slice Ao88 t135.length co88) (gS 0 (.int .i64 t134) (tS HO137 BK101))) (fun _ hk=>hk.1.1))⟩,⟨kZ⟩,⟨kZ⟩,⟨aIsS89 HI0.z⟩,⟨aK HK.z⟩,⟨aG (IsS89.ge HI0.z) HB.z⟩⟩
    case round =>
     clear H'
     obtain ⟨x102001_1,u102001,HA,HK1,HO_102001,BK101,BK102,HI0,HK,HB⟩:=hrel
     cases gk with
     | zero=>exact absurd HA.z (by simp [F92.l0])
     | succ k1 =>
      have H:=HA.z
      clear HA
      simp only [F92.l0] at H
      by_cases c89:(x102001_1.length:Int)≤10
      case neg =>
       rw [if_neg c89] at H
       have c89b0:=decide_eq_false c89
       have c89b1:decide (x102001_1.length≤10)=false:=decide_eq_false (by omega)
       clear c89
       simp only [Option.some.injEq,Prod.mk.injEq] at H
       obtain ⟨rfl,rfl,rfl,rfl⟩:=H
       obtain ⟨_,_⟩:=nE NB101_102
       obtain ⟨_,_⟩:=nE NB101_0
       obtain ⟨_,_,_,_⟩:=cz2 BK101
       obtain ⟨Ao104,co104,rfl⟩:=Kd.S_slice HO_102001.z
       obtain ⟨_,_⟩:=nE NB102_0
       obtain ⟨_,_,_,_⟩:=cz2 BK102
       go_wp2
       refine bodyPost_ret (results_cell_row rfl _ _ gb102 26 #[.int .i64 t134,.slice Ao104 x102001_1.length co104] (0,0) _ rfl kZ Try.underlying26 rfl (by kernel_rfl)) rfl ?_
       exact ⟨_,eR,Kd.V_mono (Kd.S_V (aS (Kd.S_mono (gS 1 (.slice Ao104 x102001_1.length co104) (gS 0 (.int .i64 t134) (tS HO_102001 BK102))) (fun _ hk=>hk.1)))) (fun k_ hk=>by first|exact ⟨(.inr (hk.1)),hk.2⟩|exact (.inr (hk))),aIsS89 HI0.z,aG (IsS89.ge HI0.z) HB.z,aK HK.z⟩
      rw [if_pos c89] at H
      have c89b0:=decide_eq_true c89
      have c89b1:decide (x102001_1.length≤10)=true:=decide_eq_true (by omega)
      clear c89
      obtain ⟨y138,Ny138⟩:=nY (([0,0]:List Int):List Int)
      replace H:(if x102001_1.length < 5864062014805 then (F92.l0 k1 s0_0 t104 t105 t134 (x102001_1 ++ [y138])) else (none))=some (r1,r2,r3,r4):=rH Ny138.z H
      replace H:=iS H;obtain ⟨c90,H⟩:=H
      have LMc90:=k0 c90
      clear c90
      obtain ⟨y141,Ny141⟩:=nY (x102001_1 ++ [y138]:List (List Int))
      replace H:(F92.l0 k1 s0_0 t104 t105 t134 y141)=some (r1,r2,r3,r4):=rH Ny141.z H
      have H':=k0 H
      clear H
      obtain ⟨_,_⟩:=nE NB101_102
      obtain ⟨_,_⟩:=nE NB101_0
      obtain ⟨_,_,_,_⟩:=cz2 BK101
      obtain ⟨Ao94,co94,rfl⟩:=Kd.S_slice HO_102001.z
      go_wp2_with (first|(refine gate_dst (N:=63) rfl ?_;refine zRt 2 (N:=63) (xs:=([0,0]:List Int)) (inner:=[.int .i64 0,.int .i64 0]) (Reps.one (show Kd.M (Kd.int .i64) _ _ _ 0 [.int .i64 0] from rfl) (Reps.one (show Kd.M (Kd.int .i64) _ _ _ 0 [.int .i64 0] from rfl) (Reps.none _ _))) ?_;intro v139 w95 ho96 hb hg_ hnew_;clear hg_ hnew_;(first|rw [← Ny138.z] at ho96|(simp only [Int.reduceToNat] at ho96;rw [← Ny138.z] at ho96));replace HO_102001:=elS HO_102001 (Kd.R_base ho96) hb;have HO140:=k0 (Kd.R_lower (Kd.R_newM (M:=fun k_=>(w.heap.size≤k_)) ho96 (keep_size (aK HK.z)) (fun k_ h_=>h_)) (keep_size (aK HK.z)));replace BK101:=kB BK101 hb;replace BK102:=kB BK102 hb;replace HK:=zKd HK hb;replace HB:=k0 (below_step (aG (IsS89.ge HI0.z) HB.z) hb);replace HI0:=k0 (IsS89.below (aIsS89 HI0.z) hb);clear hb ho96;obtain ⟨Ao98,co98,rfl⟩:=Kd.R_slice HO140.z)|((with_reducible refine gate_builtin (b:=.append) (xs:=#[.tmp 62,.tmp 64]) rfl ?_);at_builtin;refine Kd.S_append (Kd.slice 2 (Kd.int .i64)) w.heap.size rfl (.tmp 62) (.tmp 64) 24 27 (.slice none 0 0) 24 rfl Try.underlying24 info27 rfl (by decide) (by omega) (.slice Ao94 x102001_1.length co94) x102001_1 y138 [.slice Ao98 y138.length co98] (fun k_=>(w.heap.size≤k_)) (fun k_=>some k_=(.slice Ao98 y138.length co98:Value).ownBlock) rfl rfl ?aP (fun k_ hk_=>((Kd.R_mono (ok':=fun k_=>((fun k_=>(w.heap.size≤k_))) k_∧some k_ ≠ (.slice Ao94 x102001_1.length co94:Value).ownBlock) (Kd.R_apart' (HO140.z) (Kd.S_typed HO_102001.z) (by decide)) (fun k_ hk=>⟨hk.1.1,hk.2⟩))).1 k_ hk_.symm) ?aF ?aO (Below.refl _ _) ?aS ?aL ?_;(case aP=>exact Kd.M_row (Kd.R_mono (Kd.R_tight rfl (Kd.R_mono (ok':=fun k_=>((fun k_=>(w.heap.size≤k_))) k_∧some k_ ≠ (.slice Ao94 x102001_1.length co94:Value).ownBlock) (Kd.R_apart' (HO140.z) (Kd.S_typed HO_102001.z) (by decide)) (fun k_ hk=>⟨hk.1.1,hk.2⟩))) (fun _ h_=>h_)));(case aF=>exact (fun k_ hk=>(Nat.le_trans (keep_size (aK HK.z)) hk)));(case aO=>exact (aS (Kd.S_mono HO_102001.z (fun k_ hk=>⟨hk.1,fun e_=>hk.2 e_⟩))));(case aS=>exact (keep_size (aK HK.z)));(case aL=>have:=LMc90.out;omega);intro v142 w97 ho hb hg hat;rw [← Ny141.z] at ho;replace BK101:=k0 (blk_grown (aB BK101.z) hg (Kd.S_ne HO_102001.z BK101.z (by decide)));replace BK102:=k0 (blk_grown (aB BK102.z) hg (Kd.S_ne HO_102001.z BK102.z (by decide)));replace HB:=k0 (below_weaken (aG (IsS89.ge HI0.z) HB.z) HL.z hb);replace HI0:=k0 (IsS89.grown (aIsS89 HI0.z) hg (IsS89.own_neS HI0.z HO_102001.z (by decide)));replace HK:=k0 (KeepBut.trans (aK HK.z) (KeepBut.of_grown hg g) (Kd.S_base2 HO_102001.z));have HO143:=k0 ho;clear HO_102001 HO140;clear ho hb hg hat;obtain ⟨Ao99,co99,rfl⟩:=Kd.S_slice HO143.z;obtain ⟨_,_,_,_⟩:=cz2 BK101))
      go_roundg k1
      case measure=>have:=HK1.z;omega
      case rel=>exact ⟨(y141),(.slice Ao99 y141.length co99),H',⟨by have:=HK1.z;omega⟩,⟨aS (Kd.S_mono (gS 1 (.slice Ao99 y141.length co99) (tS HO143 BK101)) (fun _ hk=>hk.1))⟩,⟨kZ⟩,⟨kZ⟩,⟨aIsS89 HI0.z⟩,⟨aK HK.z⟩,⟨aG (IsS89.ge HI0.z) HB.z⟩⟩
   replace H:=bS H;obtain ⟨⟨t122,t123⟩,A40,H⟩:=H
   dsimp only at H
   by_cases c41:(t123.length:Int) > 0
   case neg =>
    rw [if_neg c41] at H
    have c41b0:=decide_eq_false c41
    have c41b1:decide (0 < t123.length)=false:=decide_eq_false (by omega)
    clear c41
    simp only [Option.some.injEq,Prod.mk.injEq] at H
    obtain ⟨rfl,rfl,rfl,rfl⟩:=H
    go_enter Try.func92,Try.ntmps92
    go_wp2_with (first|(refine gate_dst (N:=3) rfl ?_;refine bxe 3 #[.int .i64 a1_0,.slice A1_1 l1_1.length c1_1] 26 ?_;intro gb101 hg w67 hbox hb;replace HO1_1:=ebV HO1_1 hg hb;replace HB:=k0 (below_step (aG (IsS89.ge HI0.z) HB.z) hb);have BK101:=k0 hbox;have GW101:=gW hg (keep_size (aK HK.z));have GE101:=k0 (Nat.le_trans HW0.z GW101.z);replace HK:=zKd HK hb;have NB0_101:=k0 ((by rw [hg];exact Nat.ne_of_lt (IsS89.lt (show IsS89 w0 _ g s0_0 s0_1 s0_2 from aIsS89 HI0.z)):g ≠ gb101));have NB101_0:=k0 ((by rw [hg];exact Nat.ne_of_gt (IsS89.lt (show IsS89 w0 _ g s0_0 s0_1 s0_2 from aIsS89 HI0.z)):gb101 ≠ g));replace HI0:=k0 (IsS89.below (aIsS89 HI0.z) hb);clear hb hbox hg)|(refine gate_dst (N:=4) rfl ?_;refine bxe 4 #[.int .i64 0,.slice none 0 0] 26 ?_;intro gb102 hg w68 hbox hb;replace HO1_1:=ebV HO1_1 hg hb;replace HB:=k0 (below_step (aG (IsS89.ge HI0.z) HB.z) hb);have BK102:=k0 hbox;have GW102:=gW hg (keep_size (aK HK.z));have GE102:=k0 (Nat.le_trans HW0.z GW102.z);replace HK:=zKd HK hb;have NB101_102:=nL hg BK101;have NB102_101:=nG NB101_102;replace BK101:=kB BK101 hb;have NB0_102:=k0 ((by rw [hg];exact Nat.ne_of_lt (IsS89.lt (show IsS89 w0 _ g s0_0 s0_1 s0_2 from aIsS89 HI0.z)):g ≠ gb102));have NB102_0:=k0 ((by rw [hg];exact Nat.ne_of_gt (IsS89.lt (show IsS89 w0 _ g s0_0 s0_1 s0_2 from aIsS89 HI0.z)):gb102 ≠ g));replace HI0:=k0 (IsS89.below (aIsS89 HI0.z) hb);clear hb hbox hg)|(refine gate_callee (f:=60) rfl ?_;refine gC (some 8) Try.func60 #[.pointer (some ⟨g,0,none⟩),.int .i64 40] ?_;(with_reducible refine (F60.calls g s0_0 s0_1 s0_2 40 t103 t104 t105 w0 _ ?side1 ?side2 A3.z).mono ?_);(case side1=>exact aIsS89 HI0.z);(case side2=>exact aG (IsS89.ge HI0.z) HB.z);rintro e w69 ⟨rfl,hi,hb,hk⟩;refine ⟨_,rfl,?_⟩;replace HO1_1:=k0 (Kd.V_mono (Kd.V_keep (Kd.V_mono (ok:=fun k_=>(((((P1_1_ k_∨w.heap.size≤k_))∧k_ ≠ g)∧k_ ≠ gb101)∧k_ ≠ gb102)) (aV HO1_1.z) (fun k_ hk_=>(⟨hk_,hk_.1.1.2⟩:_∧k_ ≠ g))) hk (fun _ h=>h.2)) (fun _ h=>h.1));replace BK101:=kK hk BK101 NB101_0;replace BK102:=kK hk BK102 NB102_0;replace HK:=zKc HK hk;replace HB:=k0 hb;replace HI0:=k0 hi;obtain ⟨_,_⟩:=nE NB101_102;obtain ⟨_,_⟩:=nE NB101_0;obtain ⟨_,_,_,_⟩:=cz2 BK101)|(refine gate_callee (f:=114) rfl ?_;refine gC (some 33) Try.func114 #[.agg #[.int .i64 a1_0,.slice A1_1 l1_1.length c1_1]] ?_;(with_reducible refine (F114.calls k a1_0 _ _ l1_1 t122 t123 _ ?side1 ?side2 A40.z).mono ?_);(case side1=>exact aC ((Kd.V_reads' HO1_1.z).2.2));(case side2=>exact (Kd.V_reads' HO1_1.z).2.1);rintro e w73 ⟨v124,rfl,ho0,hb⟩;refine ⟨_,rfl,?_⟩;replace HO1_1:=elV HO1_1 (Kd.S_base ho0) hb;have HO125:=k0 (Kd.S_lower (Kd.S_newM (M:=fun k_=>(w.heap.size≤k_)) ho0 (keep_size (aK HK.z)) (fun k_ h_=>h_)) (keep_size (aK HK.z)));replace BK101:=kB BK101 hb;replace BK102:=kB BK102 hb;replace HK:=zKd HK hb;replace HB:=k0 (below_step (aG (IsS89.ge HI0.z) HB.z) hb);replace HI0:=k0 (IsS89.below (aIsS89 HI0.z) hb);obtain ⟨_,_,_,_⟩:=cz2 BK101;obtain ⟨Ao75,co75,rfl⟩:=Kd.S_slice HO125.z;obtain ⟨_,_⟩:=nE NB102_0;obtain ⟨_,_,_,_⟩:=cz2 BK102))
    refine bodyPost_ret (results_cell_row rfl _ _ gb102 26 #[.int .i64 t122,.slice Ao75 t123.length co75] (0,0) _ rfl kZ Try.underlying26 rfl (by kernel_rfl)) rfl ?_
    exact ⟨_,eR,Kd.V_mono (Kd.S_V (aS (Kd.S_mono (Kd.S_far (p:=⟨gb102,1,none⟩) (Kd.S_far (p:=⟨gb102,0,none⟩) (Kd.S_far (p:=⟨gb101,1,none⟩) (Kd.S_far (p:=⟨gb101,0,none⟩) (Kd.S_types (tS HO125 BK101) BK102.z (by decide)) (fun _ hk=>hk.1.2) (.int .i64 t122)) (fun _ hk=>hk.1.2) (.slice Ao75 t123.length co75)) (fun _ hk=>hk.2) (.int .i64 t122)) (fun _ hk=>hk.2) (.slice Ao75 t123.length co75)) (fun _ hk=>hk.1.1.1)))) (fun k_ hk=>by first|exact ⟨(.inr (hk.1)),hk.2⟩|exact (.inr (hk))),aIsS89 HI0.z,aG (IsS89.ge HI0.z) HB.z,aK HK.z⟩
   rw [if_pos c41] at H
   have c41b0:=decide_eq_true c41
   have c41b1:decide (0 < t123.length)=true:=decide_eq_true (by omega)
   clear c41
   replace H:=bS H;obtain ⟨⟨t126,t127,t128⟩,A42,H⟩:=H
   dsimp only at H
   replace H:=iS H;obtain ⟨c43,H⟩:=H
   have c43b0:=decide_eq_true c43
   clear c43
   replace H:=iS H;obtain ⟨c44,H⟩:=H
   have c44b0:=decide_eq_true c44
   clear c44
   replace H:=iS H;obtain ⟨c45,H⟩:=H
   have LMc45:=k0 c45
   clear c45
   obtain ⟨y130,Ny130⟩:=nY ((rd_L1 t123 t126) ++ [0]:List Int)
   replace H:(some (t122,(t123.set (t126:Int).toNat y130),t127,t128))=some (r1,r2,r3,r4):=rH Ny130.z H
   obtain ⟨y133,Ny133⟩:=nY (t123.set (t126:Int).toNat y130:List (List Int))
   replace H:(some (t122,y133,t127,t128))=some (r1,r2,r3,r4):=rH Ny133.z H
   simp only [Option.some.injEq,Prod.mk.injEq] at H
   obtain ⟨rfl,rfl,rfl,rfl⟩:=H
   go_enter Try.func92,Try.ntmps92
   try go_wp2_with (first|(refine gate_dst (N:=3) rfl ?_;refine bxe 3 #[.int .i64 a1_0,.slice A1_1 l1_1.length c1_1] 26 ?_;intro gb101 hg w47 hbox hb;replace HO1_1:=ebV HO1_1 hg hb;replace HB:=k0 (below_step (aG (IsS89.ge HI0.z) HB.z) hb);have BK101:=k0 hbox;have GW101:=gW hg (keep_size (aK HK.z));have GE101:=k0 (Nat.le_trans HW0.z GW101.z);replace HK:=zKd HK hb;have NB0_101:=k0 ((by rw [hg];exact Nat.ne_of_lt (IsS89.lt (show IsS89 w0 _ g s0_0 s0_1 s0_2 from aIsS89 HI0.z)):g ≠ gb101));have NB101_0:=k0 ((by rw [hg];exact Nat.ne_of_gt (IsS89.lt (show IsS89 w0 _ g s0_0 s0_1 s0_2 from aIsS89 HI0.z)):gb101 ≠ g));replace HI0:=k0 (IsS89.below (aIsS89 HI0.z) hb);clear hb hbox hg)|(refine gate_dst (N:=4) rfl ?_;refine bxe 4 #[.int .i64 0,.slice none 0 0] 26 ?_;intro gb102 hg w48 hbox hb;replace HO1_1:=ebV HO1_1 hg hb;replace HB:=k0 (below_step (aG (IsS89.ge HI0.z) HB.z) hb);have BK102:=k0 hbox;have GW102:=gW hg (keep_size (aK HK.z));have GE102:=k0 (Nat.le_trans HW0.z GW102.z);replace HK:=zKd HK hb;have NB101_102:=nL hg BK101;have NB102_101:=nG NB101_102;replace BK101:=kB BK101 hb;have NB0_102:=k0 ((by rw [hg];exact Nat.ne_of_lt (IsS89.lt (show IsS89 w0 _ g s0_0 s0_1 s0_2 from aIsS89 HI0.z)):g ≠ gb102));have NB102_0:=k0 ((by rw [hg];exact Nat.ne_of_gt (IsS89.lt (show IsS89 w0 _ g s0_0 s0_1 s0_2 from aIsS89 HI0.z)):gb102 ≠ g));replace HI0:=k0 (IsS89.below (aIsS89 HI0.z) hb);clear hb hbox hg)|(refine gate_callee (f:=60) rfl ?_;refine gC (some 8) Try.func60 #[.pointer (some ⟨g,0,none⟩),.int .i64 40] ?_;(with_reducible refine (F60.calls g s0_0 s0_1 s0_2 40 t103 t104 t105 w0 _ ?side1 ?side2 A3.z).mono ?_);(case side1=>exact aIsS89 HI0.z);(case side2=>exact aG (IsS89.ge HI0.z) HB.z);rintro e w49 ⟨rfl,hi,hb,hk⟩;refine ⟨_,rfl,?_⟩;replace HO1_1:=k0 (Kd.V_mono (Kd.V_keep (Kd.V_mono (ok:=fun k_=>(((((P1_1_ k_∨w.heap.size≤k_))∧k_ ≠ g)∧k_ ≠ gb101)∧k_ ≠ gb102)) (aV HO1_1.z) (fun k_ hk_=>(⟨hk_,hk_.1.1.2⟩:_∧k_ ≠ g))) hk (fun _ h=>h.2)) (fun _ h=>h.1));replace BK101:=kK hk BK101 NB101_0;replace BK102:=kK hk BK102 NB102_0;replace HK:=zKc HK hk;replace HB:=k0 hb;replace HI0:=k0 hi;obtain ⟨_,_⟩:=nE NB101_102;obtain ⟨_,_⟩:=nE NB101_0;obtain ⟨_,_,_,_⟩:=cz2 BK101)|(refine gate_callee (f:=114) rfl ?_;refine gC (some 33) Try.func114 #[.agg #[.int .i64 a1_0,.slice A1_1 l1_1.length c1_1]] ?_;(with_reducible refine (F114.calls k a1_0 _ _ l1_1 t122 t123 _ ?side1 ?side2 A40.z).mono ?_);(case side1=>exact aC ((Kd.V_reads' HO1_1.z).2.2));(case side2=>exact (Kd.V_reads' HO1_1.z).2.1);rintro e w53 ⟨v124,rfl,ho0,hb⟩;refine ⟨_,rfl,?_⟩;replace HO1_1:=elV HO1_1 (Kd.S_base ho0) hb;have HO125:=k0 (Kd.S_lower (Kd.S_newM (M:=fun k_=>(w.heap.size≤k_)) ho0 (keep_size (aK HK.z)) (fun k_ h_=>h_)) (keep_size (aK HK.z)));replace BK101:=kB BK101 hb;replace BK102:=kB BK102 hb;replace HK:=zKd HK hb;replace HB:=k0 (below_step (aG (IsS89.ge HI0.z) HB.z) hb);replace HI0:=k0 (IsS89.below (aIsS89 HI0.z) hb);obtain ⟨_,_,_,_⟩:=cz2 BK101;obtain ⟨Ao55,co55,rfl⟩:=Kd.S_slice HO125.z)|(refine gate_callee (f:=60) rfl ?_;refine gC (some 41) Try.func60 #[.pointer (some ⟨g,0,none⟩),.int .i64 (t123.length:Int)] ?_;(with_reducible refine (F60.calls g s0_0 t104 t105 (t123.length:Int) t126 t127 t128 w0 _ ?side1 ?side2 A42.z).mono ?_);(case side1=>exact aIsS89 HI0.z);(case side2=>exact aG (IsS89.ge HI0.z) HB.z);rintro e w56 ⟨rfl,hi,hb,hk⟩;refine ⟨_,rfl,?_⟩;replace HO1_1:=k0 (Kd.V_mono (Kd.V_keep (Kd.V_mono (ok:=fun k_=>((((((P1_1_ k_∨w.heap.size≤k_))∧k_ ≠ g)∧k_ ≠ gb101)∧k_ ≠ gb102)∧some k_ ≠ (.slice Ao55 t123.length co55:Value).ownBlock)) (fV HO1_1) (fun k_ hk_=>(⟨hk_,hk_.1.1.1.2⟩:_∧k_ ≠ g))) hk (fun _ h=>h.2)) (fun _ h=>h.1));replace BK102:=k0 (KeepBut.blk hk (g':=gb102) (o:=.cells #[.int .i64 0,.slice none 0 0] 26 (0,0)) kZ NB102_0.z (by simp));replace HO125:=k0 (Kd.S_mono (Kd.S_keep (IsS89.apartS (show IsS89 w0 _ g s0_0 t104 t105 from aIsS89 HI0.z) (tfS HO125 BK101) (by decide)) hk (fun _ h=>h.2)) (fun _ h=>h.1));replace BK101:=k0 (KeepBut.blk hk (g':=gb101) (o:=sO t122 Ao55 t123 co55 26) kZ NB101_0.z (by simp));replace HK:=zKc HK hk;replace HB:=k0 hb;replace HI0:=k0 hi))
   replace HO1_1:=k0 (Kd.V_drew HO1_1.z);replace HO125:=k0 (Kd.S_drew HO125.z);replace BK101:=k0 (blk_drew BK101.z);replace BK102:=k0 (blk_drew BK102.z);replace HI0:=k0 (IsS89.drew HI0.z);replace HK:=k0 (keep_drew HK.z);replace HB:=k0 (below_drew1 HB.z)
   obtain ⟨p129,q129⟩:=iN t126 (t123.length:Int)
   obtain ⟨ad129,A129_0,c129_0,e129,hx129_0,hl129_0,hi129_0⟩:=at_L1 (Kd.S_reads' HO125.z).2.2 t126 p129 q129
   cases e129
   obtain ⟨ce129,hce129,hMe129,hcc129⟩:=Kd.S_get HO125.z [] t126 p129 (by first|exact q129|exact oD|(have e_:=(Kd.S_reads' HO125.z).1;omega))
   obtain ⟨ve129_0,rfl,ge129_0⟩:=hMe129
   have hv129_0:=hcc129 0 _ rfl
   rw [Nat.add_zero,show ((Kd.slice 2 (Kd.int .i64))).sz=1 from rfl,Nat.mul_one] at hv129_0
   replace hv129_0:=Option.some.inj (hv129_0.symm.trans hx129_0)
   rw [hv129_0] at ge129_0
   have HL129_0:=k0 (show Kd.R (Kd.int .i64) 2 _ _ _ _ (rd_L1 t123 t126) from ge129_0)
   clear hv129_0 ge129_0
   have HX129_0:=k0 hx129_0
   clear hcc129 hce129
   have HR129_0:=k0 hi129_0
   have HC129_0:=k0 hl129_0
   clear hi129_0 hl129_0
   replace p129:=eT p129
   replace q129:=eT q129
   have n_:=k0 (Kd.S_mono (ok':=(fun k_=>(w.heap.size≤k_))) HO125.z (fun k_ hk=>hk.1))
   clear HO125
   have HO125:=n_
   clear n_
   obtain ⟨go58,co58,eo58,gb58,gl58,cl58,HG58⟩:=Kd.S_form HO125.z (by have h_:(t126:Int) < ((t123.length:Int):Int):=oD;have h2_:0≤(t126:Int):=oD;omega)
   (first|cases eo58|(injection eo58 with ea_ en_ ec_;(first|subst ea_|(injection ea_ with ea_;subst ea_));subst ec_;clear en_))
   have GB58:=k0 gb58
   have GG58:=k0 HG58
   clear gb58 gl58 HG58
   (first|simp only [add_plain] at hx129_0|skip)
   obtain ⟨oki58,ce58,hcl58,hM58,hcc58,_,_,hH58⟩:=Kd.S_elem HO125.z [] (t126:Int) oD (by have h_:(t126:Int) < ((t123.length:Int):Int):=oD;first|exact h_|(have e_:=(Kd.S_reads' HO125.z).1;omega)|simpa using h_)
   obtain ⟨ve58_0,rfl,ge58_0⟩:=hM58
   have hv58:=hcc58 0 _ rfl
   have hX58:=HX129_0.z
   (try simp only [add_plain] at hX58)
   (try simp only [Nat.add_zero] at hv58)
   (try rw [show ((Kd.slice 2 (Kd.int .i64))).sz=1 from rfl,Nat.mul_one] at hv58)
   replace hv58:=Option.some.inj (hv58.symm.trans hX58)
   subst hv58
   clear hX58 hcc58 hcl58
   have UU58:=k0 (show Kd.R (Kd.int .i64) 2 _ w.heap.size oki58 (.slice A129_0 (rd_L1 t123 t126).length c129_0) (rd_L1 t123 t126) from ge58_0)
   have HH58:=k0 hH58
   have HN58:=k0 (Kd.S_reads' HO125.z).1
   clear hH58 ge58_0
   refine start_ (n:=12) (S:=fun w'=>w'.cell? ⟨gb101,0,none⟩=some (.int .i64 t122)∧w'.cell? ⟨gb101,1,none⟩=some (.slice (some ⟨go58,0,none⟩) t123.length co55)∧w'.cell? ⟨go58,(t126).toNat,none⟩=some (.slice A129_0 (rd_L1 t123 t126).length c129_0)) (ds:=[11]) (ba 12 0) (by kernel_rfl) rfl rfl ⟨ce0 BK101,ce1 BK101,hx129_0⟩ (fun hHeld=>?_);refine with_tabW F92.tab12 F92.bits12 (fun HT_ HW_=>?_)
   generalize w56.drew=w57 at HO1_1 HO125 BK101 BK102 HI0 HK HB GG58 HH58 HL129_0 HR129_0 HX129_0 UU58 hx129_0 hHeld ⊢
   refine pu 0 (some 42) (ba 12 1) HT_ (h:=?_)
   refine pu 2 (some 44) (ba 12 5) HT_ (h:=?_)
   refine pu 3 (some 45) (ba 12 13) HT_ (h:=?_)
   refine pu 5 (some 47) (ba 12 45) HT_ (h:=?_)
   refine zT3 1 (some 43) (ba 12 47) HT_ HW_ hHeld (h:=?_)
   refine zT3 4 (some 46) (ba 12 63) HT_ HW_ hHeld (h:=?_)
   refine pu 6 (some 48) (ba 12 127) HT_ (h:=?_)
   refine zT3 7 (some 49) (ba 12 255) HT_ HW_ hHeld (h:=?_)
   refine one_ (i:=8) (N:=some 50) (ba 12 511) rfl rfl (one_of HT_.out (by kernel_rfl)) (by decide) (fun K hK=>?_)
   refine value_ (w1:=?_) (v:=?_) (by rfl) rfl ?_ ?_
   rotate_left 2
   ·go_simp
    constructor
    ·rfl
    ·rfl
   refine hK.out _ _ ⟨(blk_cell (blk_alloc BK101.z _) 0).trans rfl,(blk_cell (blk_alloc BK101.z _) 1).trans rfl,(World.cell?_alloc_lt _ _ _ (World.block_lt_of_cell? _ _ (hHeld.2.2))).trans (hHeld.2.2)⟩ (fun hHeld=>?_)
   clear hK K
   refine norm_ (a':=?_) ?_ ?_
   rotate_left;· show Act.put _ (some 50) _=_;simp only [Act.put,zI,zZ,zS,i64_w,i32_w];rfl
   refine one_ (i:=9) (N:=some 51) (ba 12 1023) rfl rfl (one_of HT_.out (by kernel_rfl)) (by decide) (fun K hK=>?_)
   refine Kd.R_append_step (Kd.int .i64) w.heap.size (by rfl) (.tmp 49) (.tmp 50) 27 2 (.int .i64 0) 8 rfl Try.underlying27 info2 rfl (by decide) (by omega) (.slice A129_0 (rd_L1 t123 t126).length c129_0) (rd_L1 t123 t126) 0 [.int .i64 0] (fun k_=>oki58 k_∨((fun k_=>(w.heap.size≤k_))) k_∧w57.heap.size≤k_) (fun _=>False) rfl rfl ?aP (fun _ hk=>hk.elim) ?aF ?aO (Below.refl _ _) ?aS ?aL ?_
   (case aP=>exact rfl)
   (case aF=>exact (fun k_ hk=>.inr ⟨by first|trivial|exact Nat.le_trans (keep_size (aK HK.z)) hk,hk⟩))
   (case aO=>exact (aR (Kd.R_mono UU58.out (fun _ hk=>.inl hk))))
   (case aS=>exact (keep_size (aK HK.z)))
   (case aL=>have:=LMc45.out;omega)
   intro v131 w59 ho hb hg hat
   (first|have HS2_:=cell_grown hg (hHeld.2.2) (by first|(rw [add_block];exact (fun e_=>((HL129_0.z.1 _ e_.symm).2) rfl))|(show some (Addr.add _ _).block ≠ _;rw [add_block];exact (fun e_=>((HL129_0.z.1 _ e_.symm).2) rfl))|exact (fun e_=>((HL129_0.z.1 _ e_.symm).2) rfl))|have HS2_:=cell_grown hg (cell_unalloc (hHeld.2.2) (by first|(rw [add_block];exact Kd.S_lt HO125.z _ rfl)|(show (Addr.add _ _).block < _;rw [add_block];exact Kd.S_lt HO125.z _ rfl)|exact Kd.S_lt HO125.z _ rfl)) (by first|(rw [add_block];exact (fun e_=>((HL129_0.z.1 _ e_.symm).2) rfl))|(show some (Addr.add _ _).block ≠ _;rw [add_block];exact (fun e_=>((HL129_0.z.1 _ e_.symm).2) rfl))|exact (fun e_=>((HL129_0.z.1 _ e_.symm).2) rfl)))
   rw [← Ny130.z] at ho
   replace BK101:=k0 (blk_grown (aB BK101.z) hg (Kd.R_ne HL129_0.z BK101.z (by decide)));replace BK102:=k0 (blk_grown (aB BK102.z) hg (Kd.R_ne HL129_0.z BK102.z (by decide)));replace HB:=k0 (below_weaken (aG (IsS89.ge HI0.z) HB.z) HL.z hb);replace HI0:=k0 (IsS89.grown (aIsS89 HI0.z) hg (IsS89.own_ne HI0.z HL129_0.z (by decide)));replace HK:=k0 (KeepBut.trans (aK HK.z) (KeepBut.of_grown hg g) (Kd.R_base2 HL129_0.z));replace HH58:=k0 (Kd.H_grown (Kd.H_widen (by repeat (first|exact HH58.out|refine Kd.H_alloc ?_ _|refine Kd.H_drewN ?_ _|refine Kd.H_drew ?_))) hg (fun k_ e_=>.inl (UU58.out.1 k_ e_)));have HO132:=k0 ho;clear HO125 UU58 HL129_0
   clear ho hb hg hat
   have p46:0≤(t126:Int):=oD
   have q46:(t126:Int) < ((t123.length:Int):Int):=oD
   replace p46:=eT p46
   replace q46:=eT q46
   obtain ⟨Ao62,co62,eo62⟩:=Kd.R_slice HO132.z
   (first|subst eo62|(injection eo62 with f1_ f2_ f3_;have f4_:=f1_.symm;have f5_:=f3_.symm;clear f1_ f2_ f3_;subst f4_;subst f5_))
   obtain ⟨_,_,hraw60,_,_,hcc60,_⟩:=Kd.H_raw HH58.out oD (by have h_:(t126:Int) < ((t123.length:Int):Int):=oD;first|exact h_|(have e_:=(HN58.out);omega)|simpa using h_)
   obtain ⟨_,hfr60⟩:=Kd.H_at HH58.out oD (by have h_:(t126:Int) < ((t123.length:Int):Int):=oD;first|exact h_|(have e_:=(HN58.out);omega)|simpa using h_)
   have hx60_0:=hcc60 0 _ rfl
   have hf60_0:=hfr60 0
   (try simp only [Nat.add_zero] at hx60_0 hf60_0)
   (try rw [show ((Kd.slice 2 (Kd.int .i64))).sz=1 from rfl,Nat.mul_one] at hx60_0)
   (try rw [show ((Kd.slice 2 (Kd.int .i64))).sz=1 from rfl,Nat.mul_one] at hf60_0)
   have HP60:=Kd.S_seg0 HH58.out oD (by have h_:(t126:Int) < ((t123.length:Int):Int):=oD;first|exact h_|(have e_:=(HN58.out);omega)|simpa using h_) (seg:=[.slice Ao62 y130.length co62]) (j:=0) (show 1≤1 from by decide) (x':=y130) (Kd.M_row HO132.z) (fun _ hk=>hk)
   (try simp only [show ((Kd.slice 2 (Kd.int .i64))).sz=1 from rfl,Nat.mul_one,Nat.add_zero] at HP60)
   clear hcc60 hfr60
   have HN0_go58:=k0 (show g ≠ go58 from by have h_:=IsS89.own_ne HI0.z hraw60 (by decide);intro e_;exact h_ (by rw [e_];rfl))
   have HNB101_go58:=k0 (show gb101 ≠ go58 from by have h_:=Kd.R_ne hraw60 BK101.z (by decide);intro e_;exact h_ (by rw [e_];rfl))
   have HNB102_go58:=k0 (show gb102 ≠ go58 from by have h_:=Kd.R_ne hraw60 BK102.z (by decide);intro e_;exact h_ (by rw [e_];rfl))
   have HS60:=HP60.1
   rw [← Ny133.z] at HS60
   have HQ60:=k0 HS60
   obtain ⟨_,hgg60⟩:=Kd.R_typed hraw60 go58 rfl
   have GG60_:=k0 hgg60
   clear HP60 HS60 hgg60
   refine hK.out _ _ ⟨ce0 BK101,ce1 BK101,HS2_⟩ (fun hHeld=>?_)
   clear hK K
   refine norm_ (a':=?_) ?_ ?_
   rotate_left;· show Act.put _ (some 51) _=_;simp only [Act.put,zI,zZ,zS,i64_w,i32_w];rfl
   refine pu 10 (some 52) (ba 12 2047) HT_ (h:=?_)
   refine last_ (i:=11) (N:=none) (ba 12 4095) rfl rfl (one_of HT_.out (by kernel_rfl)) (by decide) (fun K hK=>?_)
   refine skip_ (w1:=?_) (by rfl) rfl ?_ ?_
   rotate_left;· go_simp;rfl
   refine hK.out _ _ ?_
   clear hK K
   refine done_ (done_of HT_.out (by kernel_rfl)) ?_
   have n0_:Aside0 (Kd.S (Kd.slice 2 (Kd.int .i64)) 27 (w59.setCell ⟨go58,(t126:Int).toNat,none⟩ (.slice Ao62 y130.length co62)) w.heap.size (fun k_=>(w.heap.size≤k_)) (.slice (some ⟨go58,0,none⟩) t123.length co55) y133):=⟨aS (HQ60.out)⟩
   have n1_:Aside0 ((w59.setCell ⟨go58,(t126:Int).toNat,none⟩ (.slice Ao62 y130.length co62)).heap[gb101]?=some (.cells #[.int .i64 t122,.slice (some ⟨go58,0,none⟩) t123.length co55] 26 (0,0))):=⟨by (with_reducible repeat (first|refine blk_drewN ?_ _|refine blk_drew ?_|refine blk_alloc ?_ _));refine blk_far ?_ HNB101_go58.out _;exact bk⟩
   have n2_:Aside0 ((w59.setCell ⟨go58,(t126:Int).toNat,none⟩ (.slice Ao62 y130.length co62)).heap[gb102]?=some (.cells #[.int .i64 0,.slice none 0 0] 26 (0,0))):=⟨by (with_reducible repeat (first|refine blk_drewN ?_ _|refine blk_drew ?_|refine blk_alloc ?_ _));refine blk_far ?_ HNB102_go58.out _;exact bk⟩
   have n3_:Aside0 (IsS89 w0 (w59.setCell ⟨go58,(t126:Int).toNat,none⟩ (.slice Ao62 y130.length co62)) g s0_0 t127 t128):=⟨aIsS89 HI0.z⟩
   have n4_:Aside0 (KeepBut w (w59.setCell ⟨go58,(t126:Int).toNat,none⟩ (.slice Ao62 y130.length co62)) g none):=⟨aK HK.z⟩
   have n5_:Aside0 (Below w0.heap.size w0 (w59.setCell ⟨go58,(t126:Int).toNat,none⟩ (.slice Ao62 y130.length co62))):=⟨by repeat (first|(with_reducible first|exact HB.z|apply below_alloc|apply pw_below_drewN|apply below_drew1|refine below_set ?_ (Nat.le_trans HL.z GB58.out)|refine below_set ?_ (IsS89.ge HI0.z)|refine below_set ?_ GE101.z|refine below_set ?_ GE102.z)|exact HB.z)⟩
   generalize (w59.setCell ⟨go58,(t126:Int).toNat,none⟩ (.slice Ao62 y130.length co62))=w63 at n0_ n1_ n2_ n3_ n4_ n5_ ⊢
   have HO125:=n0_
   have BK101:=n1_
   have BK102:=n2_
   have HI0:=n3_
   have HK:=n4_
   have HB:=n5_
   clear n0_ n1_ n2_ n3_ n4_ n5_
   obtain ⟨_,_,_,_⟩:=cz2 BK101
   obtain ⟨_,_⟩:=nE NB102_0
   obtain ⟨_,_,_,_⟩:=cz2 BK102
   try go_wp2
   refine bodyPost_ret (results_cell_row rfl _ _ gb102 26 #[.int .i64 t122,.slice (some ⟨go58,0,none⟩) t123.length co55] (0,0) _ rfl kZ Try.underlying26 rfl (by kernel_rfl)) rfl ?_
   exact ⟨_,eR,Kd.V_mono (Kd.S_V (aS (Kd.S_mono (gS 1 (.slice (some ⟨go58,0,none⟩) t123.length co55) (gS 0 (.int .i64 t122) (tS HO125 BK102))) (fun _ hk=>hk.1)))) (fun k_ hk=>by first|exact ⟨(.inr (hk.1)),hk.2⟩|exact (.inr (hk))),aIsS89 HI0.z,aG (IsS89.ge HI0.z) HB.z,aK HK.z⟩
  replace H:=bS H;obtain ⟨⟨t112,t113⟩,A20,H⟩:=H
  dsimp only at H
  obtain ⟨y116,Ny116⟩:=nY (([0,t112]:List Int):List Int)
  replace H:(if t113.length < 5864062014805 then (some (t112,(t113 ++ [y116]),t104,t105)) else (none))=some (r1,r2,r3,r4):=rH Ny116.z H
  replace H:=iS H;obtain ⟨c21,H⟩:=H
  have LMc21:=k0 c21
  clear c21
  obtain ⟨y119,Ny119⟩:=nY (t113 ++ [y116]:List (List Int))
  replace H:(some (t112,y119,t104,t105))=some (r1,r2,r3,r4):=rH Ny119.z H
  simp only [Option.some.injEq,Prod.mk.injEq] at H
  obtain ⟨rfl,rfl,rfl,rfl⟩:=H
  go_enter Try.func92,Try.ntmps92
  go_wp2_with (first|(refine gate_dst (N:=3) rfl ?_;refine bxe 3 #[.int .i64 a1_0,.slice A1_1 l1_1.length c1_1] 26 ?_;intro gb101 hg w22 hbox hb;replace HO1_1:=ebV HO1_1 hg hb;replace HB:=k0 (below_step (aG (IsS89.ge HI0.z) HB.z) hb);have BK101:=k0 hbox;have GW101:=gW hg (keep_size (aK HK.z));have GE101:=k0 (Nat.le_trans HW0.z GW101.z);replace HK:=zKd HK hb;have NB0_101:=k0 ((by rw [hg];exact Nat.ne_of_lt (IsS89.lt (show IsS89 w0 _ g s0_0 s0_1 s0_2 from aIsS89 HI0.z)):g ≠ gb101));have NB101_0:=k0 ((by rw [hg];exact Nat.ne_of_gt (IsS89.lt (show IsS89 w0 _ g s0_0 s0_1 s0_2 from aIsS89 HI0.z)):gb101 ≠ g));replace HI0:=k0 (IsS89.below (aIsS89 HI0.z) hb);clear hb hbox hg)|(refine gate_dst (N:=4) rfl ?_;refine bxe 4 #[.int .i64 0,.slice none 0 0] 26 ?_;intro gb102 hg w23 hbox hb;replace HO1_1:=ebV HO1_1 hg hb;replace HB:=k0 (below_step (aG (IsS89.ge HI0.z) HB.z) hb);have BK102:=k0 hbox;have GW102:=gW hg (keep_size (aK HK.z));have GE102:=k0 (Nat.le_trans HW0.z GW102.z);replace HK:=zKd HK hb;have NB101_102:=nL hg BK101;have NB102_101:=nG NB101_102;replace BK101:=kB BK101 hb;have NB0_102:=k0 ((by rw [hg];exact Nat.ne_of_lt (IsS89.lt (show IsS89 w0 _ g s0_0 s0_1 s0_2 from aIsS89 HI0.z)):g ≠ gb102));have NB102_0:=k0 ((by rw [hg];exact Nat.ne_of_gt (IsS89.lt (show IsS89 w0 _ g s0_0 s0_1 s0_2 from aIsS89 HI0.z)):gb102 ≠ g));replace HI0:=k0 (IsS89.below (aIsS89 HI0.z) hb);clear hb hbox hg)|(refine gate_callee (f:=60) rfl ?_;refine gC (some 8) Try.func60 #[.pointer (some ⟨g,0,none⟩),.int .i64 40] ?_;(with_reducible refine (F60.calls g s0_0 s0_1 s0_2 40 t103 t104 t105 w0 _ ?side1 ?side2 A3.z).mono ?_);(case side1=>exact aIsS89 HI0.z);(case side2=>exact aG (IsS89.ge HI0.z) HB.z);rintro e w24 ⟨rfl,hi,hb,hk⟩;refine ⟨_,rfl,?_⟩;replace HO1_1:=k0 (Kd.V_mono (Kd.V_keep (Kd.V_mono (ok:=fun k_=>(((((P1_1_ k_∨w.heap.size≤k_))∧k_ ≠ g)∧k_ ≠ gb101)∧k_ ≠ gb102)) (aV HO1_1.z) (fun k_ hk_=>(⟨hk_,hk_.1.1.2⟩:_∧k_ ≠ g))) hk (fun _ h=>h.2)) (fun _ h=>h.1));replace BK101:=kK hk BK101 NB101_0;replace BK102:=kK hk BK102 NB102_0;replace HK:=zKc HK hk;replace HB:=k0 hb;replace HI0:=k0 hi;obtain ⟨_,_⟩:=nE NB101_102;obtain ⟨_,_⟩:=nE NB101_0;obtain ⟨_,_,_,_⟩:=cz2 BK101)|(refine gate_callee (f:=114) rfl ?_;refine gC (some 21) Try.func114 #[.agg #[.int .i64 a1_0,.slice A1_1 l1_1.length c1_1]] ?_;(with_reducible refine (F114.calls k a1_0 _ _ l1_1 t112 t113 _ ?side1 ?side2 A20.z).mono ?_);(case side1=>exact aC ((Kd.V_reads' HO1_1.z).2.2));(case side2=>exact (Kd.V_reads' HO1_1.z).2.1);rintro e w28 ⟨v114,rfl,ho0,hb⟩;refine ⟨_,rfl,?_⟩;replace HO1_1:=elV HO1_1 (Kd.S_base ho0) hb;have HO115:=k0 (Kd.S_lower (Kd.S_newM (M:=fun k_=>(w.heap.size≤k_)) ho0 (keep_size (aK HK.z)) (fun k_ h_=>h_)) (keep_size (aK HK.z)));replace BK101:=kB BK101 hb;replace BK102:=kB BK102 hb;replace HK:=zKd HK hb;replace HB:=k0 (below_step (aG (IsS89.ge HI0.z) HB.z) hb);replace HI0:=k0 (IsS89.below (aIsS89 HI0.z) hb);obtain ⟨_,_,_,_⟩:=cz2 BK101;obtain ⟨Ao30,co30,rfl⟩:=Kd.S_slice HO115.z)|(refine gate_dst (N:=26) rfl ?_;refine zRt 2 (N:=26) (xs:=([0,t112]:List Int)) (inner:=[.int .i64 0,.int .i64 t112]) (Reps.one (show Kd.M (Kd.int .i64) _ _ _ 0 [.int .i64 0] from rfl) (Reps.one (show Kd.M (Kd.int .i64) _ _ _ t112 [.int .i64 t112] from rfl) (Reps.none _ _))) ?_;intro v117 w31 ho32 hb hg_ hnew_;clear hg_ hnew_;(first|rw [← Ny116.z] at ho32|(simp only [Int.reduceToNat] at ho32;rw [← Ny116.z] at ho32));replace HO1_1:=elV HO1_1 (Kd.R_base ho32) hb;replace HO115:=k0 (Kd.S_elder' (tfS HO115 BK101) (Kd.R_base ho32) hb);have HO118:=k0 (Kd.R_lower (Kd.R_newM (M:=fun k_=>(w.heap.size≤k_)) ho32 (keep_size (aK HK.z)) (fun k_ h_=>h_)) (keep_size (aK HK.z)));replace BK101:=kP (sO t112 Ao30 t113 co30 26) BK101 hb;replace BK102:=kF BK102 hb;replace HK:=zKd HK hb;replace HB:=k0 (below_step (aG (IsS89.ge HI0.z) HB.z) hb);replace HI0:=k0 (IsS89.below (show IsS89 w0 ((w28.setCell ⟨gb101,0,none⟩ (.int .i64 t112)).setCell ⟨gb101,1,none⟩ (.slice Ao30 t113.length co30)) g s0_0 t104 t105 from aIsS89 HI0.z) hb);clear hb ho32;obtain ⟨Ao34,co34,rfl⟩:=Kd.R_slice HO118.z)|((with_reducible refine gate_builtin (b:=.append) (xs:=#[.tmp 23,.tmp 27]) rfl ?_);at_builtin;refine Kd.S_append (Kd.slice 2 (Kd.int .i64)) w.heap.size rfl (.tmp 23) (.tmp 27) 24 27 (.slice none 0 0) 24 rfl Try.underlying24 info27 rfl (by decide) (by omega) (.slice Ao30 t113.length co30) t113 y116 [.slice Ao34 y116.length co34] (fun k_=>(w.heap.size≤k_)) (fun k_=>some k_=(.slice Ao34 y116.length co34:Value).ownBlock) rfl rfl ?aP (fun k_ hk_=>((Kd.R_mono (ok':=fun k_=>((fun k_=>(w.heap.size≤k_))) k_∧some k_ ≠ (.slice Ao30 t113.length co30:Value).ownBlock) (Kd.R_apart' (HO118.z) (Kd.S_typed HO115.z) (by decide)) (fun k_ hk=>⟨hk.1.1,hk.2⟩))).1 k_ hk_.symm) ?aF ?aO (Below.refl _ _) ?aS ?aL ?_;(case aP=>exact Kd.M_row (Kd.R_mono (Kd.R_tight rfl (Kd.R_mono (ok':=fun k_=>((fun k_=>(w.heap.size≤k_))) k_∧some k_ ≠ (.slice Ao30 t113.length co30:Value).ownBlock) (Kd.R_apart' (HO118.z) (Kd.S_typed HO115.z) (by decide)) (fun k_ hk=>⟨hk.1.1,hk.2⟩))) (fun _ h_=>h_)));(case aF=>exact (fun k_ hk=>(Nat.le_trans (keep_size (aK HK.z)) hk)));(case aO=>exact (aS (Kd.S_mono HO115.z (fun k_ hk=>⟨hk.1.1,fun e_=>hk.2 e_⟩))));(case aS=>exact (keep_size (aK HK.z)));(case aL=>have:=LMc21.out;omega);intro v120 w33 ho hb hg hat;rw [← Ny119.z] at ho;replace HO1_1:=k0 (Kd.V_afterv (ok:=(fun k_=>(P1_1_ k_∨w.heap.size≤k_)∧some k_ ≠ (.slice Ao34 y116.length co34:Value).ownBlock∧k_ ≠ g∧k_ ≠ gb101∧k_ ≠ gb102)) (aV (Kd.V_mono HO1_1.z (fun _ hk=>⟨⟨hk.1.1.1.1.1,⟨hk.2,⟨hk.1.1.1.1.2,⟨hk.1.1.1.2,hk.1.1.2⟩⟩⟩⟩,hk.1.2⟩))) hg hat);replace BK101:=k0 (blk_grown (aB BK101.z) hg (Kd.S_ne HO115.z BK101.z (by decide)));replace BK102:=k0 (blk_grown (aB BK102.z) hg (Kd.S_ne HO115.z BK102.z (by decide)));replace HB:=k0 (below_weaken (aG (IsS89.ge HI0.z) HB.z) HL.z hb);replace HI0:=k0 (IsS89.grown (aIsS89 HI0.z) hg (IsS89.own_neS HI0.z HO115.z (by decide)));replace HK:=k0 (KeepBut.trans (aK HK.z) (KeepBut.of_grown hg g) (Kd.S_base2 HO115.z));have HO121:=k0 ho;clear HO115 HO118;clear ho hb hg hat;obtain ⟨Ao35,co35,rfl⟩:=Kd.S_slice HO121.z;obtain ⟨_,_,_,_⟩:=cz2 BK101;obtain ⟨_,_⟩:=nE NB102_0;obtain ⟨_,_,_,_⟩:=cz2 BK102))
  refine bodyPost_ret (results_cell_row rfl _ _ gb102 26 #[.int .i64 t112,.slice Ao35 y119.length co35] (0,0) _ rfl kZ Try.underlying26 rfl (by kernel_rfl)) rfl ?_
  exact ⟨_,eR,Kd.V_mono (Kd.S_V (aS (Kd.S_mono (Kd.S_far (p:=⟨gb102,1,none⟩) (Kd.S_far (p:=⟨gb102,0,none⟩) (Kd.S_far (p:=⟨gb101,1,none⟩) (Kd.S_types (tS HO121 BK101) BK102.z (by decide)) (fun _ hk=>hk.1.2) (.slice Ao35 y119.length co35)) (fun _ hk=>hk.2) (.int .i64 t112)) (fun _ hk=>hk.2) (.slice Ao35 y119.length co35)) (fun _ hk=>hk.1.1)))) (fun k_ hk=>by first|exact ⟨(.inr (hk.1)),hk.2⟩|exact (.inr (hk))),aIsS89 HI0.z,aG (IsS89.ge HI0.z) HB.z,aK HK.z⟩
 obtain ⟨y106,Ny106⟩:=nY (([0,9,wrap64 (a1_0 - 1)]:List Int):List Int)
 replace H:((F67.f s0_0 t104 t105 y106).bind fun bt109=>(some (bt109.1,l1_1,bt109.2.1,bt109.2.2)))=some (r1,r2,r3,r4):=rH Ny106.z H
 replace H:=bS H;obtain ⟨⟨t109,t110,t111⟩,A5,H⟩:=H
 dsimp only at H
 simp only [Option.some.injEq,Prod.mk.injEq] at H
 obtain ⟨rfl,rfl,rfl,rfl⟩:=H
 go_enter Try.func92,Try.ntmps92
 go_wp2_with (first|(refine gate_dst (N:=3) rfl ?_;refine bxe 3 #[.int .i64 a1_0,.slice A1_1 l1_1.length c1_1] 26 ?_;intro gb101 hg w6 hbox hb;replace HO1_1:=ebV HO1_1 hg hb;replace HB:=k0 (below_step (aG (IsS89.ge HI0.z) HB.z) hb);have BK101:=k0 hbox;have GW101:=gW hg (keep_size (aK HK.z));have GE101:=k0 (Nat.le_trans HW0.z GW101.z);replace HK:=zKd HK hb;have NB0_101:=k0 ((by rw [hg];exact Nat.ne_of_lt (IsS89.lt (show IsS89 w0 _ g s0_0 s0_1 s0_2 from aIsS89 HI0.z)):g ≠ gb101));have NB101_0:=k0 ((by rw [hg];exact Nat.ne_of_gt (IsS89.lt (show IsS89 w0 _ g s0_0 s0_1 s0_2 from aIsS89 HI0.z)):gb101 ≠ g));replace HI0:=k0 (IsS89.below (aIsS89 HI0.z) hb);clear hb hbox hg)|(refine gate_dst (N:=4) rfl ?_;refine bxe 4 #[.int .i64 0,.slice none 0 0] 26 ?_;intro gb102 hg w7 hbox hb;replace HO1_1:=ebV HO1_1 hg hb;replace HB:=k0 (below_step (aG (IsS89.ge HI0.z) HB.z) hb);have BK102:=k0 hbox;have GW102:=gW hg (keep_size (aK HK.z));have GE102:=k0 (Nat.le_trans HW0.z GW102.z);replace HK:=zKd HK hb;have NB101_102:=nL hg BK101;have NB102_101:=nG NB101_102;replace BK101:=kB BK101 hb;have NB0_102:=k0 ((by rw [hg];exact Nat.ne_of_lt (IsS89.lt (show IsS89 w0 _ g s0_0 s0_1 s0_2 from aIsS89 HI0.z)):g ≠ gb102));have NB102_0:=k0 ((by rw [hg];exact Nat.ne_of_gt (IsS89.lt (show IsS89 w0 _ g s0_0 s0_1 s0_2 from aIsS89 HI0.z)):gb102 ≠ g));replace HI0:=k0 (IsS89.below (aIsS89 HI0.z) hb);clear hb hbox hg)|(refine gate_callee (f:=60) rfl ?_;refine gC (some 8) Try.func60 #[.pointer (some ⟨g,0,none⟩),.int .i64 40] ?_;(with_reducible refine (F60.calls g s0_0 s0_1 s0_2 40 t103 t104 t105 w0 _ ?side1 ?side2 A3.z).mono ?_);(case side1=>exact aIsS89 HI0.z);(case side2=>exact aG (IsS89.ge HI0.z) HB.z);rintro e w8 ⟨rfl,hi,hb,hk⟩;refine ⟨_,rfl,?_⟩;replace HO1_1:=k0 (Kd.V_mono (Kd.V_keep (Kd.V_mono (ok:=fun k_=>(((((P1_1_ k_∨w.heap.size≤k_))∧k_ ≠ g)∧k_ ≠ gb101)∧k_ ≠ gb102)) (aV HO1_1.z) (fun k_ hk_=>(⟨hk_,hk_.1.1.2⟩:_∧k_ ≠ g))) hk (fun _ h=>h.2)) (fun _ h=>h.1));replace BK101:=kK hk BK101 NB101_0;replace BK102:=kK hk BK102 NB102_0;replace HK:=zKc HK hk;replace HB:=k0 hb;replace HI0:=k0 hi;obtain ⟨_,_⟩:=nE NB101_102;obtain ⟨_,_⟩:=nE NB101_0;obtain ⟨_,_,_,_⟩:=cz2 BK101)|(refine gate_dst (N:=15) rfl ?_;refine zRt 2 (N:=15) (xs:=([0,9,wrap64 (a1_0 - 1)]:List Int)) (inner:=[.int .i64 0,.int .i64 9,.int .i64 (wrap64 (a1_0 - 1))]) (Reps.one (show Kd.M (Kd.int .i64) _ _ _ 0 [.int .i64 0] from rfl) (Reps.one (show Kd.M (Kd.int .i64) _ _ _ 9 [.int .i64 9] from rfl) (Reps.one (show Kd.M (Kd.int .i64) _ _ _ (wrap64 (a1_0 - 1)) [.int .i64 (wrap64 (a1_0 - 1))] from rfl) (Reps.none _ _)))) ?_;intro v107 w12 ho13 hb hg_ hnew_;clear hg_ hnew_;(first|rw [← Ny106.z] at ho13|(simp only [Int.reduceToNat] at ho13;rw [← Ny106.z] at ho13));replace HO1_1:=elV HO1_1 (Kd.R_base ho13) hb;have HO108:=k0 (Kd.R_lower (Kd.R_newM (M:=fun k_=>(w.heap.size≤k_)) ho13 (keep_size (aK HK.z)) (fun k_ h_=>h_)) (keep_size (aK HK.z)));replace BK101:=kB BK101 hb;replace BK102:=kB BK102 hb;replace HK:=zKd HK hb;replace HB:=k0 (below_step (aG (IsS89.ge HI0.z) HB.z) hb);replace HI0:=k0 (IsS89.below (aIsS89 HI0.z) hb);clear hb ho13;obtain ⟨Ao14,co14,rfl⟩:=Kd.R_slice HO108.z)|(refine gate_callee (f:=67) rfl ?_;refine gC (some 16) Try.func67 #[.pointer (some ⟨g,0,none⟩),.slice Ao14 y106.length co14] ?_;(with_reducible refine (F67.calls g s0_0 t104 t105 _ _ y106 t109 t110 t111 w0 _ ?side1 ?side2 ?side3 ?side4 ?side5 A5.z).mono ?_);(case side1=>exact aIsS89 HI0.z);(case side2=>exact aG (IsS89.ge HI0.z) HB.z);(case side3=>exact aC ((Kd.R_reads' HO108.z).2.2));(case side4=>exact (Kd.R_reads' HO108.z).2.1);(case side5=>exact far_slice (IsS89.own_ne HI0.z HO108.z (by decide)));rintro e w15 ⟨rfl,hi,hb,hk⟩;refine ⟨_,rfl,?_⟩;replace HO1_1:=k0 (Kd.V_mono (Kd.V_keep (Kd.V_mono (ok:=fun k_=>((((((P1_1_ k_∨w.heap.size≤k_))∧k_ ≠ g)∧k_ ≠ gb101)∧k_ ≠ gb102)∧some k_ ≠ (.slice Ao14 y106.length co14:Value).ownBlock)) (aV HO1_1.z) (fun k_ hk_=>(⟨hk_,hk_.1.1.1.2⟩:_∧k_ ≠ g))) hk (fun _ h=>h.2)) (fun _ h=>h.1));replace BK101:=kK hk BK101 NB101_0;replace BK102:=kK hk BK102 NB102_0;replace HO108:=k0 (Kd.R_mono (Kd.R_keep (IsS89.apart (show IsS89 w0 _ g s0_0 t104 t105 from aIsS89 HI0.z) (aR HO108.z) (by decide)) hk (fun _ h=>h.2)) (fun _ h=>h.1));replace HK:=zKc HK hk;replace HB:=k0 hb;replace HI0:=k0 hi;obtain ⟨_,_,_,_⟩:=cz2 BK101;obtain ⟨_,_⟩:=nE NB102_0;obtain ⟨_,_,_,_⟩:=cz2 BK102))
 refine bodyPost_ret (results_cell_row rfl _ _ gb102 26 #[.int .i64 t109,.slice A1_1 l1_1.length c1_1] (0,0) _ rfl kZ Try.underlying26 rfl (by kernel_rfl)) rfl ?_
 exact ⟨_,eR,aV (Kd.V_mono (Kd.V_far (p:=⟨gb102,1,none⟩) (Kd.V_far (p:=⟨gb102,0,none⟩) (Kd.V_far (p:=⟨gb101,0,none⟩) (Kd.V_mono (Kd.V_mono HO1_1.z (fun k_ hk=>(⟨hk,hk.1.1.2⟩:_∧k_ ≠ gb101))) (fun k_ hk=>(⟨hk,hk.1.1.2⟩:_∧k_ ≠ gb102))) (fun _ hk=>hk.1.2) (.int .i64 t109)) (fun _ hk=>hk.2) (.int .i64 t109)) (fun _ hk=>hk.2) (.slice A1_1 l1_1.length c1_1)) (fun _ hk=>hk.1.1.1.1.1.1)),aIsS89 HI0.z,aG (IsS89.ge HI0.z) HB.z,aK HK.z⟩
/-! ### F115: function 115 -/
def F115.f  : Option (List ByteArray):=some (([(⟨#[112,111,105,110,116]⟩:ByteArray),(⟨#[101,100,103,101]⟩:ByteArray),(⟨#[108,111,111,112]⟩:ByteArray),(⟨#[98,111,117,113,117,101,116]⟩:ByteArray),(⟨#[116,104,101,116,97]⟩:ByteArray),(⟨#[100,117,109,98,98,101,108,108]⟩:ByteArray),(⟨#[116,114,105,97,110,103,108,101]⟩:ByteArray),(⟨#[115,113,117,97,114,101]⟩:ByteArray),(⟨#[112,101,110,116,97,103,111,110]⟩:ByteArray),(⟨#[115,116,97,114]⟩:ByteArray),(⟨#[100,105,97,109,111,110,100]⟩:ByteArray),(⟨#[116,101,116,114,97,104,101,100,114,111,110]⟩:ByteArray),(⟨#[112,114,105,115,109]⟩:ByteArray),(⟨#[104,111,117,115,101,115]⟩:ByteArray)]:List ByteArray))
theorem F115.calls  (r : List ByteArray) (w : World) (h : F115.f  = some r) :
  Calls Try.prog 115 #[] w fun e w'=>∃ v0_:Value,e=.returned (v0_)∧Kd.R Kd.string 9 w' w.heap.size (fun _=>True) v0_ r∧Below w.heap.size w w':=by
 have HB:=k0 (Below.refl w.heap.size w)
 unfold F115.f at h
 have H:=h
 clear h
 obtain ⟨y101,Ny101⟩:=nY (([(⟨#[112,111,105,110,116]⟩:ByteArray),(⟨#[101,100,103,101]⟩:ByteArray),(⟨#[108,111,111,112]⟩:ByteArray),(⟨#[98,111,117,113,117,101,116]⟩:ByteArray),(⟨#[116,104,101,116,97]⟩:ByteArray),(⟨#[100,117,109,98,98,101,108,108]⟩:ByteArray),(⟨#[116,114,105,97,110,103,108,101]⟩:ByteArray),(⟨#[115,113,117,97,114,101]⟩:ByteArray),(⟨#[112,101,110,116,97,103,111,110]⟩:ByteArray),(⟨#[115,116,97,114]⟩:ByteArray),(⟨#[100,105,97,109,111,110,100]⟩:ByteArray),(⟨#[116,101,116,114,97,104,101,100,114,111,110]⟩:ByteArray),(⟨#[112,114,105,115,109]⟩:ByteArray),(⟨#[104,111,117,115,101,115]⟩:ByteArray)]:List ByteArray):List ByteArray)
 replace H:(some y101)=some r:=rH Ny101.z H
 obtain rfl:=Option.some.inj H
 go_enter Try.func115,Try.ntmps115
 go_wp2_with (first|(refine gate_dst (N:=1) rfl ?_;refine Kd.R_lit Kd.string _ 9 ?hg (N:=1) ?hd (xs:=([(⟨#[112,111,105,110,116]⟩:ByteArray),(⟨#[101,100,103,101]⟩:ByteArray),(⟨#[108,111,111,112]⟩:ByteArray),(⟨#[98,111,117,113,117,101,116]⟩:ByteArray),(⟨#[116,104,101,116,97]⟩:ByteArray),(⟨#[100,117,109,98,98,101,108,108]⟩:ByteArray),(⟨#[116,114,105,97,110,103,108,101]⟩:ByteArray),(⟨#[115,113,117,97,114,101]⟩:ByteArray),(⟨#[112,101,110,116,97,103,111,110]⟩:ByteArray),(⟨#[115,116,97,114]⟩:ByteArray),(⟨#[100,105,97,109,111,110,100]⟩:ByteArray),(⟨#[116,101,116,114,97,104,101,100,114,111,110]⟩:ByteArray),(⟨#[112,114,105,115,109]⟩:ByteArray),(⟨#[104,111,117,115,101,115]⟩:ByteArray)]:List ByteArray)) (inner:=[.string (⟨#[112,111,105,110,116]⟩:ByteArray),.string (⟨#[101,100,103,101]⟩:ByteArray),.string (⟨#[108,111,111,112]⟩:ByteArray),.string (⟨#[98,111,117,113,117,101,116]⟩:ByteArray),.string (⟨#[116,104,101,116,97]⟩:ByteArray),.string (⟨#[100,117,109,98,98,101,108,108]⟩:ByteArray),.string (⟨#[116,114,105,97,110,103,108,101]⟩:ByteArray),.string (⟨#[115,113,117,97,114,101]⟩:ByteArray),.string (⟨#[112,101,110,116,97,103,111,110]⟩:ByteArray),.string (⟨#[115,116,97,114]⟩:ByteArray),.string (⟨#[100,105,97,109,111,110,100]⟩:ByteArray),.string (⟨#[116,101,116,114,97,104,101,100,114,111,110]⟩:ByteArray),.string (⟨#[112,114,105,115,109]⟩:ByteArray),.string (⟨#[104,111,117,115,101,115]⟩:ByteArray)]) (ok:=fun _=>True) (okp:=fun _=>True) ?hr ?hp (fun _ hk=>hk) trivial (Below.refl _ _) (Nat.le_refl _) (by simp) ?_;(case hd=>rfl);(case hg=>rfl);(case hr=>first|(go_simp;done)|(go_simp;rfl));(case hp=>exact (Reps.one (show Kd.M Kd.string _ _ _ (⟨#[112,111,105,110,116]⟩:ByteArray) [.string (⟨#[112,111,105,110,116]⟩:ByteArray)] from rfl) (Reps.one (show Kd.M Kd.string _ _ _ (⟨#[101,100,103,101]⟩:ByteArray) [.string (⟨#[101,100,103,101]⟩:ByteArray)] from rfl) (Reps.one (show Kd.M Kd.string _ _ _ (⟨#[108,111,111,112]⟩:ByteArray) [.string (⟨#[108,111,111,112]⟩:ByteArray)] from rfl) (Reps.one (show Kd.M Kd.string _ _ _ (⟨#[98,111,117,113,117,101,116]⟩:ByteArray) [.string (⟨#[98,111,117,113,117,101,116]⟩:ByteArray)] from rfl) (Reps.one (show Kd.M Kd.string _ _ _ (⟨#[116,104,101,116,97]⟩:ByteArray) [.string (⟨#[116,104,101,116,97]⟩:ByteArray)] from rfl) (Reps.one (show Kd.M Kd.string _ _ _ (⟨#[100,117,109,98,98,101,108,108]⟩:ByteArray) [.string (⟨#[100,117,109,98,98,101,108,108]⟩:ByteArray)] from rfl) (Reps.one (show Kd.M Kd.string _ _ _ (⟨#[116,114,105,97,110,103,108,101]⟩:ByteArray) [.string (⟨#[116,114,105,97,110,103,108,101]⟩:ByteArray)] from rfl) (Reps.one (show Kd.M Kd.string _ _ _ (⟨#[115,113,117,97,114,101]⟩:ByteArray) [.string (⟨#[115,113,117,97,114,101]⟩:ByteArray)] from rfl) (Reps.one (show Kd.M Kd.string _ _ _ (⟨#[112,101,110,116,97,103,111,110]⟩:ByteArray) [.string (⟨#[112,101,110,116,97,103,111,110]⟩:ByteArray)] from rfl) (Reps.one (show Kd.M Kd.string _ _ _ (⟨#[115,116,97,114]⟩:ByteArray) [.string (⟨#[115,116,97,114]⟩:ByteArray)] from rfl) (Reps.one (show Kd.M Kd.string _ _ _ (⟨#[100,105,97,109,111,110,100]⟩:ByteArray) [.string (⟨#[100,105,97,109,111,110,100]⟩:ByteArray)] from rfl) (Reps.one (show Kd.M Kd.string _ _ _ (⟨#[116,101,116,114,97,104,101,100,114,111,110]⟩:ByteArray) [.string (⟨#[116,101,116,114,97,104,101,100,114,111,110]⟩:ByteArray)] from rfl) (Reps.one (show Kd.M Kd.string _ _ _ (⟨#[112,114,105,115,109]⟩:ByteArray) [.string (⟨#[112,114,105,115,109]⟩:ByteArray)] from rfl) (Reps.one (show Kd.M Kd.string _ _ _ (⟨#[104,111,117,115,101,115]⟩:ByteArray) [.string (⟨#[104,111,117,115,101,115]⟩:ByteArray)] from rfl) (Reps.none _ _))))))))))))))));intro v102 w1 ho2 hb hg_ hnew_;clear hg_ hnew_;(first|rw [← Ny101.z] at ho2|(simp only [Int.reduceToNat] at ho2;rw [← Ny101.z] at ho2));have HO103:=k0 (Kd.R_lower ho2 (below_size bl));replace HB:=bW hb;clear hb ho2))
 go_ret
 exact ⟨_,eR,aR HO103.z,bl⟩
end Go.Proofs.Ytgjdbnipcpmhiaa.P
/- Set with little white space, by a program. -/
