/- Go's calls come to what the Lean functions say. Condition of each: that the Lean function answers. -/
import Derived.Test.YtgjdbnipcpmhiaaPx0
import Derived.Test.YtgjdbnipcpmhiaaPx1
import Derived.Test.YtgjdbnipcpmhiaaPx2
import Derived.Test.YtgjdbnipcpmhiaaPx4
import Derived.Test.YtgjdbnipcpmhiaaPx5
import Derived.Test.YtgjdbnipcpmhiaaPx6
import Derived.Test.YtgjdbnipcpmhiaaPx7
namespace Go.Proofs.Ytgjdbnipcpmhiaa.P
open Go.RowKit Go.Proofs.YtgjdbnipcpmhiaaW.PrintWords Go.Proofs.YtgjdbnipcpmhiaaW.PrintLast Go.Proofs.YtgjdbnipcpmhiaaW.PrintMore
attribute [local go_sem] max2_int min2_int max_two min_two max_three min_three max_four min_four
set_option linter.unusedVariables false
set_option linter.unusedSimpArgs false
set_option maxHeartbeats 8000000
set_option maxRecDepth 100000
/-! ### F88: function 88 -/
mutual
def F88.j0 : Nat → List Int → List Int → Int → Int → Option (List Int × Int × Int)
 | 0,_,_,_,_=>none
 | k+1,x4,x1000,x1001,x1002=>(F60.f x1000 x1001 x1002 8).bind fun bt124=>(if bt124.1=0 then ((F103.f k x1000 bt124.2.1 bt124.2.2 8).bind fun bt127=>(F88.j1 k bt127.1 x1000 bt127.2.1 bt127.2.2)) else (if bt124.1=1 then (if (x4.length:Int) > 0 then ((F60.f x1000 bt124.2.1 bt124.2.2 (x4.length:Int)).bind fun bt132=>(if 0≤bt132.1 then (if bt132.1 < (x4.length:Int) then ((F67.f x1000 bt132.2.1 bt132.2.2 (([1,(-1),2]:List Int))).bind fun bt139=>(F88.j1 k (x4.set (bt132.1:Int).toNat (wrap64 ((rd x4 bt132.1)+bt139.1))) x1000 bt139.2.1 bt139.2.2)) else (none)) else (none))) else (F88.j1 k x4 x1000 bt124.2.1 bt124.2.2)) else (F88.j1 k x4 x1000 bt124.2.1 bt124.2.2)))
def F88.j1 : Nat → List Int → List Int → Int → Int → Option (List Int × Int × Int)
 | 0,_,_,_,_=>none
 | k+1,x4,x1000,x1001,x1002=>(F60.f x1000 x1001 x1002 24).bind fun bt143=>(if bt143.1=0 then ((F94.f x4).bind fun t146=>((F67.f x1000 bt143.2.1 bt143.2.2 (([1000000000000000,1000000000000001,(-1000000000000000)]:List Int))).bind fun bt152=>(if t146.length < 17592186044416 then (some ((t146 ++ [bt152.1]),bt152.2.1,bt152.2.2)) else (none)))) else (some (x4,bt143.2.1,bt143.2.2)))
end
def F88.f (k:Nat) (s0_0:List Int) (s0_1:Int) (s0_2:Int):Option (List Int × Int × Int):=(F66.f k s0_0 s0_1 s0_2).bind fun bt101=>((F67.f s0_0 bt101.2.1 bt101.2.2 (([4,8,25]:List Int))).bind fun bt109=>((F60.f s0_0 bt109.2.1 bt109.2.2 bt109.1).bind fun bt112=>((F26.f k bt101.1 bt112.1).bind fun bt115=>(if bt115.2=0 then (F88.j0 k bt115.1 s0_0 bt112.2.1 bt112.2.2) else ((F103.f k s0_0 bt112.2.1 bt112.2.2 6).bind fun bt119=>(F88.j0 k bt119.1 s0_0 bt119.2.1 bt119.2.2))))))
def F88.T12:Bool × List (List Nat × List Nat):=(true,[([],[]),([],[]),([],[]),([],[]),([2,3],[2,3]),([4],[4]),([],[]),([],[]),([6,7],[6,7]),([5,8],[5,8]),([0,1,0,1,2,3,4,5,6,7,8,9],[0,1]),([10,9,8,0,1,2,3,4,5,6,7,8,9],[9,10])])
def F88.B12:List Nat:=[0,0,0,0,12,28,0,0,192,508,1023,2047]
theorem F88.tab12:rtab .any (opsOf Try.f88 12)=F88.T12:=by kernel_rfl
theorem F88.bits12:waitsOk F88.T12.2 F88.B12=true:=by kernel_rfl
theorem F88.calls (k : Nat) (g : Nat) (s0_0 : List Int) (s0_1 : Int) (s0_2 : Int) (r1 : List Int) (r2 : Int) (r3 : Int) (w0 w : World) (hI : IsS89 w0 w g s0_0 s0_1 s0_2) (hB : Below w0.heap.size w0 w) (h : F88.f k s0_0 s0_1 s0_2 = some (r1, r2, r3)) :
  Calls Try.prog 88 #[.pointer (some ⟨g,0,none⟩)] w fun e w'=>∃ v0_:Value,e=.returned (v0_)∧Kd.R (Kd.int .i64) 2 w' w.heap.size (fun _=>True) v0_ r1∧IsS89 w0 w' g s0_0 r2 r3∧Below w0.heap.size w0 w'∧KeepBut w w' g none:=by
 have HI0:=k0 hI
 have HK:=k0 (KeepBut.refl w g none)
 have HL:=k0 hB.size
 clear hI
 have HW0:=k0 hB.size
 have HB:=k0 hB
 clear hB
 unfold F88.f at h
 have H:=h
 clear h
 replace H:=bS H;obtain ⟨⟨t101,t104,t105⟩,A2,H⟩:=H
 dsimp only at H
 obtain ⟨y106,Ny106⟩:=nY (([4,8,25]:List Int):List Int)
 replace H:((F67.f s0_0 t104 t105 y106).bind fun bt109=>((F60.f s0_0 bt109.2.1 bt109.2.2 bt109.1).bind fun bt112=>((F26.f k t101 bt112.1).bind fun bt115=>(if bt115.2=0 then (F88.j0 k bt115.1 s0_0 bt112.2.1 bt112.2.2) else ((F103.f k s0_0 bt112.2.1 bt112.2.2 6).bind fun bt119=>(F88.j0 k bt119.1 s0_0 bt119.2.1 bt119.2.2))))))=some (r1,r2,r3):=rH Ny106.z H
 replace H:=bS H;obtain ⟨⟨t109,t110,t111⟩,A3,H⟩:=H
 dsimp only at H
 replace H:=bS H;obtain ⟨⟨t112,t113,t114⟩,A4,H⟩:=H
 dsimp only at H
 replace H:=bS H;obtain ⟨⟨t115,t116⟩,A5,H⟩:=H
 dsimp only at H
 have HC6:=k0 H
 clear H
 go_enter Try.func88,Try.ntmps88
 go_upto_if 21 with (first|(refine gate_callee (f:=66) rfl ?_;refine gC (some 9) Try.func66 #[.pointer (some ⟨g,0,none⟩)] ?_;(with_reducible refine (F66.calls k g s0_0 s0_1 s0_2 t101 t104 t105 w0 _ ?side1 ?side2 A2.z).mono ?_);(case side1=>exact aIsS89 HI0.z);(case side2=>exact aG (IsS89.ge HI0.z) HB.z);rintro e w7 ⟨v102,rfl,ho0,hi,hb,hk⟩;refine ⟨_,rfl,?_⟩;have HO103:=k0 (Kd.R_lower ho0 (keep_size (aK HK.z)));replace HK:=zKc HK hk;replace HB:=k0 hb;replace HI0:=k0 hi)|(refine gate_dst (N:=14) rfl ?_;refine zRt 2 (N:=14) (xs:=([4,8,25]:List Int)) (inner:=[.int .i64 4,.int .i64 8,.int .i64 25]) (Reps.one (show Kd.M (Kd.int .i64) _ _ _ 4 [.int .i64 4] from rfl) (Reps.one (show Kd.M (Kd.int .i64) _ _ _ 8 [.int .i64 8] from rfl) (Reps.one (show Kd.M (Kd.int .i64) _ _ _ 25 [.int .i64 25] from rfl) (Reps.none _ _)))) ?_;intro v107 w8 ho9 hb hg_ hnew_;clear hg_ hnew_;(first|rw [← Ny106.z] at ho9|(simp only [Int.reduceToNat] at ho9;rw [← Ny106.z] at ho9));have HO108:=k0 (Kd.R_lower (Kd.R_new' ho9 (Kd.R_lt (aR HO103.z))) (keep_size (aK HK.z)));replace HO103:=elR HO103 (Kd.R_base ho9) hb;replace HK:=zKd HK hb;replace HB:=k0 (below_step (aG (IsS89.ge HI0.z) HB.z) hb);replace HI0:=k0 (IsS89.below (aIsS89 HI0.z) hb);clear hb ho9;obtain ⟨Ao10,co10,rfl⟩:=Kd.R_slice HO108.z)|(refine gate_callee (f:=67) rfl ?_;refine gC (some 15) Try.func67 #[.pointer (some ⟨g,0,none⟩),.slice Ao10 y106.length co10] ?_;(with_reducible refine (F67.calls g s0_0 t104 t105 _ _ y106 t109 t110 t111 w0 _ ?side1 ?side2 ?side3 ?side4 ?side5 A3.z).mono ?_);(case side1=>exact aIsS89 HI0.z);(case side2=>exact aG (IsS89.ge HI0.z) HB.z);(case side3=>exact aC ((Kd.R_reads' HO108.z).2.2));(case side4=>exact (Kd.R_reads' HO108.z).2.1);(case side5=>exact far_slice (IsS89.own_ne HI0.z HO108.z (by decide)));rintro e w11 ⟨rfl,hi,hb,hk⟩;refine ⟨_,rfl,?_⟩;replace HO103:=k0 (Kd.R_mono (Kd.R_keep (IsS89.apart (show IsS89 w0 _ g s0_0 t104 t105 from aIsS89 HI0.z) (aR HO103.z) (by decide)) hk (fun _ h=>h.2)) (fun _ h=>h.1));replace HO108:=k0 (Kd.R_mono (Kd.R_keep (IsS89.apart (show IsS89 w0 _ g s0_0 t104 t105 from aIsS89 HI0.z) (aR HO108.z) (by decide)) hk (fun _ h=>h.2)) (fun _ h=>h.1));replace HK:=zKc HK hk;replace HB:=k0 hb;replace HI0:=k0 hi)|(refine gate_callee (f:=60) rfl ?_;refine gC (some 16) Try.func60 #[.pointer (some ⟨g,0,none⟩),.int .i64 t109] ?_;(with_reducible refine (F60.calls g s0_0 t110 t111 t109 t112 t113 t114 w0 _ ?side1 ?side2 A4.z).mono ?_);(case side1=>exact aIsS89 HI0.z);(case side2=>exact aG (IsS89.ge HI0.z) HB.z);rintro e w12 ⟨rfl,hi,hb,hk⟩;refine ⟨_,rfl,?_⟩;replace HO103:=k0 (Kd.R_mono (Kd.R_keep (IsS89.apart (show IsS89 w0 _ g s0_0 t110 t111 from aIsS89 HI0.z) (aR HO103.z) (by decide)) hk (fun _ h=>h.2)) (fun _ h=>h.1));replace HO108:=k0 (Kd.R_mono (Kd.R_keep (IsS89.apart (show IsS89 w0 _ g s0_0 t110 t111 from aIsS89 HI0.z) (aR HO108.z) (by decide)) hk (fun _ h=>h.2)) (fun _ h=>h.1));replace HK:=zKc HK hk;replace HB:=k0 hb;replace HI0:=k0 hi;obtain ⟨Ao13,co13,rfl⟩:=Kd.R_slice HO103.z)|(refine gate_callee (f:=26) rfl ?_;refine gC (some 17) Try.func26 #[.slice Ao13 t101.length co13,.int .i64 t112] ?_;(with_reducible refine (F26.calls k _ _ t101 t112 t115 t116 _ ?side1 ?side2 A5.z).mono ?_);(case side1=>exact aC ((Kd.R_reads' HO103.z).2.2));(case side2=>exact (Kd.R_reads' HO103.z).2.1);rintro e w14 ⟨v117,rfl,ho0,hb⟩;refine ⟨_,rfl,?_⟩;have HO118:=k0 (Kd.R_lower (Kd.R_new' (Kd.R_new' ho0 (Kd.R_lt (aR HO103.z))) (Kd.R_lt (aR HO108.z))) (keep_size (aK HK.z)));replace HO103:=elR HO103 (Kd.R_base ho0) hb;replace HO108:=elR HO108 (Kd.R_base ho0) hb;replace HK:=zKd HK hb;replace HB:=k0 (below_step (aG (IsS89.ge HI0.z) HB.z) hb);replace HI0:=k0 (IsS89.below (aIsS89 HI0.z) hb)))
 (try simp only [Act.put,zI,zZ,zS])
 go_cut [4] (fun v4 wc=>∃ (kq:Nat) (x4_5:List Int) (x1001_5:Int) (x1002_5:Int),Aside0 (F88.j0 kq x4_5 s0_0 x1001_5 x1002_5=some (r1,r2,r3))∧Aside0 (kq≤k)∧Aside0 (Kd.R (Kd.int .i64) 2 wc w.heap.size (fun _=>True) v4 x4_5)∧Aside0 (IsS89 w0 wc g s0_0 x1001_5 x1002_5)∧Aside0 (KeepBut w wc g none)∧Aside0 (Below w0.heap.size w0 wc))
 case first =>
  have H:=HC6.z
  clear HC6
  replace H:=iE H;obtain ⟨c15,c15b0,c15b1,H⟩|⟨c15b0,c15b1,H⟩:=H
  case inl =>
   (first|rw [c15b0]|(simp only [i64_w,i32_w];rw [c15b0])|skip)
   replace H:=bS H;obtain ⟨⟨t119,t122,t123⟩,A16,H⟩:=H
   dsimp only at H
   have H':=k0 H
   clear H
   go_wp2_with (first|(refine gate_callee (f:=103) rfl ?_;refine gC (some 23) Try.func103 #[.pointer (some ⟨g,0,none⟩),.int .i64 6] ?_;(with_reducible refine (F103.calls k g s0_0 t113 t114 6 t119 t122 t123 w0 _ ?side1 ?side2 A16.z).mono ?_);(case side1=>exact aIsS89 HI0.z);(case side2=>exact aG (IsS89.ge HI0.z) HB.z);rintro e w17 ⟨v120,rfl,ho0,hi,hb,hk⟩;refine ⟨_,rfl,?_⟩;have HO121:=k0 (Kd.R_lower (Kd.R_new' (Kd.R_new' (Kd.R_new' ho0 (Kd.R_lt (aR HO103.z))) (Kd.R_lt (aR HO108.z))) (Kd.R_lt (aR HO118.z))) (keep_size (aK HK.z)));replace HO103:=k0 (Kd.R_mono (Kd.R_told (Kd.R_oldK (IsS89.apart (show IsS89 w0 _ g s0_0 t113 t114 from aIsS89 HI0.z) (aR HO103.z) (by decide)) hk) (Kd.R_base ho0)) (fun _ h_=>h_.1));replace HO108:=k0 (Kd.R_mono (Kd.R_told (Kd.R_oldK (IsS89.apart (show IsS89 w0 _ g s0_0 t113 t114 from aIsS89 HI0.z) (aR HO108.z) (by decide)) hk) (Kd.R_base ho0)) (fun _ h_=>h_.1));replace HO118:=k0 (Kd.R_mono (Kd.R_told (Kd.R_oldK (IsS89.apart (show IsS89 w0 _ g s0_0 t113 t114 from aIsS89 HI0.z) (aR HO118.z) (by decide)) hk) (Kd.R_base ho0)) (fun _ h_=>h_.1));replace HK:=zKc HK hk;replace HB:=k0 hb;replace HI0:=k0 hi))
   go_meet
   case rel=>exact ⟨_,(t119),(t122),(t123),H',⟨oL⟩,⟨aR (Kd.R_mono HO121.z (fun _ hk=>trivial))⟩,⟨aIsS89 HI0.z⟩,⟨aK HK.z⟩,⟨aG (IsS89.ge HI0.z) HB.z⟩⟩
  (first|rw [c15b0]|(simp only [i64_w,i32_w];rw [c15b0])|skip)
  have H':=k0 H
  clear H
  go_wp2
  go_meet
  case rel=>exact ⟨_,(t115),(t113),(t114),H',⟨oL⟩,⟨aR (Kd.R_mono HO118.z (fun _ hk=>trivial))⟩,⟨aIsS89 HI0.z⟩,⟨aK HK.z⟩,⟨aG (IsS89.ge HI0.z) HB.z⟩⟩
 case rest =>
  clear HC6
  obtain ⟨kq,x4_5,x1001_5,x1002_5,HA,HJ5,HO_4,HI0,HK,HB⟩:=hcut
  cases kq with
  | zero=>exact absurd HA.z (by simp [F88.j0])
  | succ kj5 =>
   have H:=HA.z
   clear HA
   simp only [F88.j0] at H
   replace H:=bS H;obtain ⟨⟨t124,t125,t126⟩,A18,H⟩:=H
   dsimp only at H
   have HC19:=k0 H
   clear H
   go_upto_block 0 with (first|(refine gate_callee (f:=60) rfl ?_;refine gC (some 25) Try.func60 #[.pointer (some ⟨g,0,none⟩),.int .i64 8] ?_;(with_reducible refine (F60.calls g s0_0 x1001_5 x1002_5 8 t124 t125 t126 w0 _ ?side1 ?side2 A18.z).mono ?_);(case side1=>exact aIsS89 HI0.z);(case side2=>exact aG (IsS89.ge HI0.z) HB.z);rintro e w20 ⟨rfl,hi,hb,hk⟩;refine ⟨_,rfl,?_⟩;replace HO_4:=k0 (Kd.R_mono (Kd.R_keep (IsS89.apart (show IsS89 w0 _ g s0_0 x1001_5 x1002_5 from aIsS89 HI0.z) (aR HO_4.z) (by decide)) hk (fun _ h=>h.2)) (fun _ h=>h.1));replace HK:=zKc HK hk;replace HB:=k0 hb;replace HI0:=k0 hi))
   (try simp only [Act.put,zI,zZ,zS])
   go_cut [4] (fun v4 wc=>∃ (kq:Nat) (x4_18:List Int) (x1001_18:Int) (x1002_18:Int),Aside0 (F88.j1 kq x4_18 s0_0 x1001_18 x1002_18=some (r1,r2,r3))∧Aside0 (kq≤kj5)∧Aside0 (Kd.R (Kd.int .i64) 2 wc w.heap.size (fun _=>True) v4 x4_18)∧Aside0 (IsS89 w0 wc g s0_0 x1001_18 x1002_18)∧Aside0 (KeepBut w wc g none)∧Aside0 (Below w0.heap.size w0 wc))
   case first =>
    have H:=HC19.z
    clear HC19
    replace H:=iE H;obtain ⟨c21,c21b0,c21b1,H⟩|⟨c21b0,c21b1,H⟩:=H
    case inl =>
     (first|rw [c21b0]|(simp only [i64_w,i32_w];rw [c21b0])|skip)
     replace H:=iE H;obtain ⟨c24,c24b0,c24b1,H⟩|⟨c24b0,c24b1,H⟩:=H
     case inl =>
      have H':=k0 H
      clear H
      go_wp2
      go_meet
      case rel=>exact ⟨_,(x4_5),(t125),(t126),H',⟨by have:=HJ5.out;first|omega|exact Nat.le_refl _⟩,⟨aR (HO_4.z)⟩,⟨aIsS89 HI0.z⟩,⟨aK HK.z⟩,⟨aG (IsS89.ge HI0.z) HB.z⟩⟩
     by_cases c25:(x4_5.length:Int) > 0
     case neg =>
      rw [if_neg c25] at H
      have c25b0:=decide_eq_false c25
      have c25b1:decide (0 < x4_5.length)=false:=decide_eq_false (by omega)
      clear c25
      have H':=k0 H
      clear H
      obtain ⟨Ao39,co39,rfl⟩:=Kd.R_slice HO_4.z
      go_wp2
      go_meet
      case rel=>exact ⟨_,(x4_5),(t125),(t126),H',⟨by have:=HJ5.out;first|omega|exact Nat.le_refl _⟩,⟨aR (HO_4.z)⟩,⟨aIsS89 HI0.z⟩,⟨aK HK.z⟩,⟨aG (IsS89.ge HI0.z) HB.z⟩⟩
     rw [if_pos c25] at H
     have c25b0:=decide_eq_true c25
     have c25b1:decide (0 < x4_5.length)=true:=decide_eq_true (by omega)
     clear c25
     replace H:=bS H;obtain ⟨⟨t132,t133,t134⟩,A26,H⟩:=H
     dsimp only at H
     replace H:=iS H;obtain ⟨c27,H⟩:=H
     have c27b0:=decide_eq_true c27
     clear c27
     replace H:=iS H;obtain ⟨c28,H⟩:=H
     have c28b0:=decide_eq_true c28
     clear c28
     obtain ⟨y136,Ny136⟩:=nY (([1,(-1),2]:List Int):List Int)
     replace H:((F67.f s0_0 t133 t134 y136).bind fun bt139=>(F88.j1 kj5 (x4_5.set (t132:Int).toNat (wrap64 ((rd x4_5 t132)+bt139.1))) s0_0 bt139.2.1 bt139.2.2))=some (r1,r2,r3):=rH Ny136.z H
     replace H:=bS H;obtain ⟨⟨t139,t140,t141⟩,A29,H⟩:=H
     dsimp only at H
     obtain ⟨y142,Ny142⟩:=nY (x4_5.set (t132:Int).toNat (wrap64 ((rd x4_5 t132)+t139)):List Int)
     replace H:(F88.j1 kj5 y142 s0_0 t140 t141)=some (r1,r2,r3):=rH Ny142.z H
     have H':=k0 H
     clear H
     obtain ⟨Ao31,co31,rfl⟩:=Kd.R_slice HO_4.z
     try go_wp2_with (first|(refine gate_callee (f:=60) rfl ?_;refine gC (some 38) Try.func60 #[.pointer (some ⟨g,0,none⟩),.int .i64 (x4_5.length:Int)] ?_;(with_reducible refine (F60.calls g s0_0 t125 t126 (x4_5.length:Int) t132 t133 t134 w0 _ ?side1 ?side2 A26.z).mono ?_);(case side1=>exact aIsS89 HI0.z);(case side2=>exact aG (IsS89.ge HI0.z) HB.z);rintro e w32 ⟨rfl,hi,hb,hk⟩;refine ⟨_,rfl,?_⟩;replace HO_4:=k0 (Kd.R_mono (Kd.R_keep (IsS89.apart (show IsS89 w0 _ g s0_0 t125 t126 from aIsS89 HI0.z) (aR HO_4.z) (by decide)) hk (fun _ h=>h.2)) (fun _ h=>h.1));replace HK:=zKc HK hk;replace HB:=k0 hb;replace HI0:=k0 hi))
     replace HO_4:=k0 (Kd.R_drew HO_4.z);replace HI0:=k0 (IsS89.drew HI0.z);replace HK:=k0 (keep_drew HK.z);replace HB:=k0 (below_drew1 HB.z)
     obtain ⟨p135,q135⟩:=iN t132 (x4_5.length:Int)
     obtain ⟨ad135,e135,hx135_0⟩:=Kd.at_int (Kd.R_reads' HO_4.z).2.2 t132 p135 q135
     cases e135
     replace p135:=eT p135
     replace q135:=eT q135
     refine start_ (n:=12) (S:=fun w'=>w'.cell? (ad135.add (t132).toNat)=some (.int .i64 (rd x4_5 t132))) (ds:=[11]) (ba 12 0) (by kernel_rfl) rfl rfl (hx135_0) (fun hHeld=>?_);refine with_tabW F88.tab12 F88.bits12 (fun HT_ HW_=>?_)
     generalize w32.drew=w33 at HO_4 HI0 HK HB hx135_0 hHeld ⊢
     refine pu 0 (some 39) (ba 12 1) HT_ (h:=?_)
     refine pu 1 (some 40) (ba 12 3) HT_ (h:=?_)
     refine pu 2 (some 41) (ba 12 7) HT_ (h:=?_)
     refine pu 3 (some 42) (ba 12 15) HT_ (h:=?_)
     refine pu 4 (some 43) (ba 12 31) HT_ (h:=?_)
     refine pu 6 (some 45) (ba 12 95) HT_ (h:=?_)
     refine ta 5 (some 44) (ba 12 127) HT_ HW_ hHeld (hy:=Or.inl ⟨by rfl,by intro w' s0;go_simp;with_reducible rfl⟩) (h:=?_)
     refine one_ (i:=7) (N:=some 46) (ba 12 255) rfl rfl (one_of HT_.out (by kernel_rfl)) (by decide) (fun K hK=>?_)
     refine zRs 2 (N:=46) (xs:=([1,(-1),2]:List Int)) (inner:=[.int .i64 1,.int .i64 (-1),.int .i64 2]) (Reps.one (show Kd.M (Kd.int .i64) _ _ _ 1 [.int .i64 1] from rfl) (Reps.one (show Kd.M (Kd.int .i64) _ _ _ (-1) [.int .i64 (-1)] from rfl) (Reps.one (show Kd.M (Kd.int .i64) _ _ _ 2 [.int .i64 2] from rfl) (Reps.none _ _)))) ?_
     intro v137 w34 ho35 hb hg_ hnew_
     have HS0_:=(hb.cell (World.block_lt_of_cell? _ _ (hHeld))).trans (hHeld)
     clear hg_ hnew_
     (first|rw [← Ny136.z] at ho35|(simp only [Int.reduceToNat] at ho35;rw [← Ny136.z] at ho35))
     have HO138:=k0 (Kd.R_lower (Kd.R_new' ho35 (Kd.R_lt (aR HO_4.z))) (keep_size (aK HK.z)));replace HO_4:=elR HO_4 (Kd.R_base ho35) hb;replace HK:=zKd HK hb;replace HB:=k0 (below_step (aG (IsS89.ge HI0.z) HB.z) hb);replace HI0:=k0 (IsS89.below (aIsS89 HI0.z) hb)
     clear hb ho35
     obtain ⟨Ao36,co36,eo36⟩:=Kd.R_slice HO138.z
     (first|subst eo36|(injection eo36 with f1_ f2_ f3_;have f4_:=f1_.symm;have f5_:=f3_.symm;clear f1_ f2_ f3_;subst f4_;subst f5_))
     refine hK.out _ _ (HS0_) (fun hHeld=>?_)
     clear hK K
     refine norm_ (a':=?_) ?_ ?_
     rotate_left;· show Act.put _ (some 46) _=_;simp only [Act.put,zI,zZ,zS,i64_w,i32_w];rfl
     refine one_ (i:=8) (N:=some 47) (ba 12 511) rfl rfl (one_of HT_.out (by kernel_rfl)) (by decide) (fun K hK=>?_)
     refine goes_ Try.func67 (by kernel_rfl) rfl #[.pointer (some ⟨g,0,none⟩),.slice Ao36 y136.length co36] (by rfl) rfl rfl gm ?_
     with_reducible refine (F67.calls g s0_0 t133 t134 _ _ y136 t139 t140 t141 w0 _ ?side1 ?side2 ?side3 ?side4 ?side5 A29.z).mono ?_
     (case side1=>exact aIsS89 HI0.z)
     (case side2=>exact aG (IsS89.ge HI0.z) HB.z)
     (case side3=>exact aC ((Kd.R_reads' HO138.z).2.2))
     (case side4=>exact (Kd.R_reads' HO138.z).2.1)
     (case side5=>exact far_slice (IsS89.own_ne HI0.z HO138.z (by decide)))
     rintro e w37 ⟨rfl,hi,hb,hk⟩
     have HS0_:=keep_cell hk (hHeld) (by first|(rw [add_block];exact Kd.own_blk (IsS89.own_ne HI0.z HO_4.z (by decide)))|(show (Addr.add _ _).block ≠ _;rw [add_block];exact Kd.own_blk (IsS89.own_ne HI0.z HO_4.z (by decide)))|exact Kd.own_blk (IsS89.own_ne HI0.z HO_4.z (by decide)))
     refine ⟨_,rfl,?_⟩
     replace HO_4:=k0 (Kd.R_mono (Kd.R_keep (IsS89.apart (show IsS89 w0 _ g s0_0 t133 t134 from aIsS89 HI0.z) (aR HO_4.z) (by decide)) hk (fun _ h=>h.2)) (fun _ h=>h.1));replace HO138:=k0 (Kd.R_mono (Kd.R_keep (IsS89.apart (show IsS89 w0 _ g s0_0 t133 t134 from aIsS89 HI0.z) (aR HO138.z) (by decide)) hk (fun _ h=>h.2)) (fun _ h=>h.1));replace HK:=zKc HK hk;replace HB:=k0 hb;replace HI0:=k0 hi
     have p30:0≤(t132:Int):=oD
     have q30:(t132:Int) < ((x4_5.length:Int):Int):=oD
     obtain ⟨go30,co30,eo30,gb30,gl30,cl30,HG30⟩:=Kd.R_form HO_4.z (by omega)
     (first|cases eo30|(injection eo30 with ea_ en_ ec_;(first|subst ea_|(injection ea_ with ea_;subst ea_));subst ec_;clear en_))
     have GB30:=k0 gb30
     have GG30:=k0 HG30
     clear gb30 gl30 HG30
     (first|simp only [add_plain] at hx135_0|skip)
     obtain ⟨hx30_0,hf30_0⟩:=Kd.R_celln 0 HO_4.z (t132:Int) p30 q30
     replace p30:=eT p30
     replace q30:=eT q30
     have HN0_go30:=k0 (show g ≠ go30 from by have h_:=IsS89.own_ne HI0.z HO_4.z (by decide);intro e_;exact h_ (by rw [e_];rfl))
     have HP38:=Kd.R_putn HO_4.z (t132:Int) (wrap64 ((rd x4_5 t132)+t139))
     rw [← Ny142.z] at HP38
     have HQ38:=k0 HP38
     clear HP38
     refine hK.out _ _ (HS0_) (fun hHeld=>?_)
     clear hK K
     refine norm_ (a':=?_) ?_ ?_
     rotate_left;· show Act.put _ (some 47) _=_;simp only [Act.put,zI,zZ,zS,i64_w,i32_w];rfl
     refine pu 9 (some 48) (ba 12 1023) HT_ (h:=?_)
     refine pu 10 (some 49) (ba 12 2047) HT_ (h:=?_)
     refine last_ (i:=11) (N:=none) (ba 12 4095) rfl rfl (one_of HT_.out (by kernel_rfl)) (by decide) (fun K hK=>?_)
     refine skip_ (w1:=?_) (by rfl) rfl ?_ ?_
     rotate_left;· go_simp;rfl
     refine hK.out _ _ ?_
     clear hK K
     refine done_ (done_of HT_.out (by kernel_rfl)) ?_
     try go_wp2
     go_meet
     case rel=>exact ⟨_,(y142),(t140),(t141),H',⟨by have:=HJ5.out;first|omega|exact Nat.le_refl _⟩,⟨aR (Kd.R_mono HQ38.out (fun _ hk=>trivial))⟩,⟨aIsS89 HI0.z⟩,⟨aK HK.z⟩,⟨by repeat (first|(with_reducible first|exact HB.z|apply below_alloc|apply pw_below_drewN|apply below_drew1|refine below_set ?_ (Nat.le_trans HL.z GB30.out)|refine below_set ?_ (IsS89.ge HI0.z))|exact HB.z)⟩⟩
    (first|rw [c21b0]|(simp only [i64_w,i32_w];rw [c21b0])|skip)
    replace H:=bS H;obtain ⟨⟨t127,t130,t131⟩,A22,H⟩:=H
    dsimp only at H
    have H':=k0 H
    clear H
    go_wp2_with (first|(refine gate_callee (f:=103) rfl ?_;refine gC (some 29) Try.func103 #[.pointer (some ⟨g,0,none⟩),.int .i64 8] ?_;(with_reducible refine (F103.calls kj5 g s0_0 t125 t126 8 t127 t130 t131 w0 _ ?side1 ?side2 A22.z).mono ?_);(case side1=>exact aIsS89 HI0.z);(case side2=>exact aG (IsS89.ge HI0.z) HB.z);rintro e w23 ⟨v128,rfl,ho0,hi,hb,hk⟩;refine ⟨_,rfl,?_⟩;have HO129:=k0 (Kd.R_lower (Kd.R_new' ho0 (Kd.R_lt (aR HO_4.z))) (keep_size (aK HK.z)));replace HO_4:=k0 (Kd.R_mono (Kd.R_told (Kd.R_oldK (IsS89.apart (show IsS89 w0 _ g s0_0 t125 t126 from aIsS89 HI0.z) (aR HO_4.z) (by decide)) hk) (Kd.R_base ho0)) (fun _ h_=>h_.1));replace HK:=zKc HK hk;replace HB:=k0 hb;replace HI0:=k0 hi))
    go_meet
    case rel=>exact ⟨_,(t127),(t130),(t131),H',⟨by have:=HJ5.out;first|omega|exact Nat.le_refl _⟩,⟨aR (Kd.R_mono HO129.z (fun _ hk=>trivial))⟩,⟨aIsS89 HI0.z⟩,⟨aK HK.z⟩,⟨aG (IsS89.ge HI0.z) HB.z⟩⟩
   case rest =>
    clear HC19
    obtain ⟨kq,x4_18,x1001_18,x1002_18,HA,HJ18,HO_4,HI0,HK,HB⟩:=hcut
    cases kq with
    | zero=>exact absurd HA.z (by simp [F88.j1])
    | succ kj18 =>
     have H:=HA.z
     clear HA
     simp only [F88.j1] at H
     replace H:=bS H;obtain ⟨⟨t143,t144,t145⟩,A40,H⟩:=H
     dsimp only at H
     replace H:=iE H;obtain ⟨c41,c41b0,c41b1,H⟩|⟨c41b0,c41b1,H⟩:=H
     case inl =>
      simp only [Option.some.injEq,Prod.mk.injEq] at H
      obtain ⟨rfl,rfl,rfl⟩:=H
      go_wp2_with (first|(refine gate_callee (f:=60) rfl ?_;refine gC (some 51) Try.func60 #[.pointer (some ⟨g,0,none⟩),.int .i64 24] ?_;(with_reducible refine (F60.calls g s0_0 x1001_18 x1002_18 24 t143 t144 t145 w0 _ ?side1 ?side2 A40.z).mono ?_);(case side1=>exact aIsS89 HI0.z);(case side2=>exact aG (IsS89.ge HI0.z) HB.z);rintro e w53 ⟨rfl,hi,hb,hk⟩;refine ⟨_,rfl,?_⟩;replace HO_4:=k0 (Kd.R_mono (Kd.R_keep (IsS89.apart (show IsS89 w0 _ g s0_0 x1001_18 x1002_18 from aIsS89 HI0.z) (aR HO_4.z) (by decide)) hk (fun _ h=>h.2)) (fun _ h=>h.1));replace HK:=zKc HK hk;replace HB:=k0 hb;replace HI0:=k0 hi))
      go_ret
      exact ⟨_,eR,aR HO_4.z,aIsS89 HI0.z,aG (IsS89.ge HI0.z) HB.z,aK HK.z⟩
     replace H:=bS H;obtain ⟨t146,A42,H⟩:=H
     obtain ⟨y149,Ny149⟩:=nY (([1000000000000000,1000000000000001,(-1000000000000000)]:List Int):List Int)
     replace H:((F67.f s0_0 t144 t145 y149).bind fun bt152=>(if t146.length < 17592186044416 then (some ((t146 ++ [bt152.1]),bt152.2.1,bt152.2.2)) else (none)))=some (r1,r2,r3):=rH Ny149.z H
     replace H:=bS H;obtain ⟨⟨t152,t153,t154⟩,A43,H⟩:=H
     dsimp only at H
     replace H:=iS H;obtain ⟨c44,H⟩:=H
     have LMc44:=k0 c44
     clear c44
     obtain ⟨y155,Ny155⟩:=nY (t146 ++ [t152]:List Int)
     replace H:(some (y155,t153,t154))=some (r1,r2,r3):=rH Ny155.z H
     simp only [Option.some.injEq,Prod.mk.injEq] at H
     obtain ⟨rfl,rfl,rfl⟩:=H
     go_wp2_with (first|(refine gate_callee (f:=60) rfl ?_;refine gC (some 51) Try.func60 #[.pointer (some ⟨g,0,none⟩),.int .i64 24] ?_;(with_reducible refine (F60.calls g s0_0 x1001_18 x1002_18 24 t143 t144 t145 w0 _ ?side1 ?side2 A40.z).mono ?_);(case side1=>exact aIsS89 HI0.z);(case side2=>exact aG (IsS89.ge HI0.z) HB.z);rintro e w45 ⟨rfl,hi,hb,hk⟩;refine ⟨_,rfl,?_⟩;replace HO_4:=k0 (Kd.R_mono (Kd.R_keep (IsS89.apart (show IsS89 w0 _ g s0_0 x1001_18 x1002_18 from aIsS89 HI0.z) (aR HO_4.z) (by decide)) hk (fun _ h=>h.2)) (fun _ h=>h.1));replace HK:=zKc HK hk;replace HB:=k0 hb;replace HI0:=k0 hi;obtain ⟨Ao46,co46,rfl⟩:=Kd.R_slice HO_4.z)|(refine gate_callee (f:=94) rfl ?_;refine gC (some 54) Try.func94 #[.slice Ao46 x4_18.length co46] ?_;(with_reducible refine (F94.calls _ _ x4_18 t146 _ ?side1 ?side2 A42.z).mono ?_);(case side1=>exact aC ((Kd.R_reads' HO_4.z).2.2));(case side2=>exact (Kd.R_reads' HO_4.z).2.1);rintro e w47 ⟨v147,rfl,ho0,hb⟩;refine ⟨_,rfl,?_⟩;have HO148:=k0 (Kd.R_lower (Kd.R_new' ho0 (Kd.R_lt (aR HO_4.z))) (keep_size (aK HK.z)));replace HO_4:=elR HO_4 (Kd.R_base ho0) hb;replace HK:=zKd HK hb;replace HB:=k0 (below_step (aG (IsS89.ge HI0.z) HB.z) hb);replace HI0:=k0 (IsS89.below (aIsS89 HI0.z) hb))|(refine gate_dst (N:=56) rfl ?_;refine zRt 2 (N:=56) (xs:=([1000000000000000,1000000000000001,(-1000000000000000)]:List Int)) (inner:=[.int .i64 1000000000000000,.int .i64 1000000000000001,.int .i64 (-1000000000000000)]) (Reps.one (show Kd.M (Kd.int .i64) _ _ _ 1000000000000000 [.int .i64 1000000000000000] from rfl) (Reps.one (show Kd.M (Kd.int .i64) _ _ _ 1000000000000001 [.int .i64 1000000000000001] from rfl) (Reps.one (show Kd.M (Kd.int .i64) _ _ _ (-1000000000000000) [.int .i64 (-1000000000000000)] from rfl) (Reps.none _ _)))) ?_;intro v150 w48 ho49 hb hg_ hnew_;clear hg_ hnew_;(first|rw [← Ny149.z] at ho49|(simp only [Int.reduceToNat] at ho49;rw [← Ny149.z] at ho49));have HO151:=k0 (Kd.R_lower (Kd.R_new' (Kd.R_new' ho49 (Kd.R_lt (aR HO_4.z))) (Kd.R_lt (aR HO148.z))) (keep_size (aK HK.z)));replace HO_4:=elR HO_4 (Kd.R_base ho49) hb;replace HO148:=elR HO148 (Kd.R_base ho49) hb;replace HK:=zKd HK hb;replace HB:=k0 (below_step (aG (IsS89.ge HI0.z) HB.z) hb);replace HI0:=k0 (IsS89.below (aIsS89 HI0.z) hb);clear hb ho49;obtain ⟨Ao50,co50,rfl⟩:=Kd.R_slice HO151.z)|(refine gate_callee (f:=67) rfl ?_;refine gC (some 57) Try.func67 #[.pointer (some ⟨g,0,none⟩),.slice Ao50 y149.length co50] ?_;(with_reducible refine (F67.calls g s0_0 t144 t145 _ _ y149 t152 t153 t154 w0 _ ?side1 ?side2 ?side3 ?side4 ?side5 A43.z).mono ?_);(case side1=>exact aIsS89 HI0.z);(case side2=>exact aG (IsS89.ge HI0.z) HB.z);(case side3=>exact aC ((Kd.R_reads' HO151.z).2.2));(case side4=>exact (Kd.R_reads' HO151.z).2.1);(case side5=>exact far_slice (IsS89.own_ne HI0.z HO151.z (by decide)));rintro e w51 ⟨rfl,hi,hb,hk⟩;refine ⟨_,rfl,?_⟩;replace HO_4:=k0 (Kd.R_mono (Kd.R_keep (IsS89.apart (show IsS89 w0 _ g s0_0 t144 t145 from aIsS89 HI0.z) (aR HO_4.z) (by decide)) hk (fun _ h=>h.2)) (fun _ h=>h.1));replace HO148:=k0 (Kd.R_mono (Kd.R_keep (IsS89.apart (show IsS89 w0 _ g s0_0 t144 t145 from aIsS89 HI0.z) (aR HO148.z) (by decide)) hk (fun _ h=>h.2)) (fun _ h=>h.1));replace HO151:=k0 (Kd.R_mono (Kd.R_keep (IsS89.apart (show IsS89 w0 _ g s0_0 t144 t145 from aIsS89 HI0.z) (aR HO151.z) (by decide)) hk (fun _ h=>h.2)) (fun _ h=>h.1));replace HK:=zKc HK hk;replace HB:=k0 hb;replace HI0:=k0 hi)|((with_reducible refine gate_builtin (b:=.append) (xs:=#[.tmp 54,.tmp 58]) rfl ?_);at_builtin;refine Kd.R_append (Kd.int .i64) w.heap.size rfl (.tmp 54) (.tmp 58) 27 2 (.int .i64 0) 8 rfl Try.underlying27 info2 rfl (by decide) (by omega) v147 t146 t152 [.int .i64 t152] (fun k_=>some k_ ≠ (.slice Ao46 x4_18.length co46:Value).ownBlock∧some k_ ≠ (.slice Ao50 y149.length co50:Value).ownBlock) (fun _=>False) rfl rfl ?aP (fun _ hk=>hk.elim) ?aF ?aO (Below.refl _ _) ?aS ?aL ?_;(case aP=>exact rfl);(case aF=>exact (fun k_ hk=>⟨Kd.fresh' (Kd.R_lt (aR HO_4.z)) k_ hk,Kd.fresh' (Kd.R_lt (aR HO151.z)) k_ hk⟩));(case aO=>exact (aR (Kd.R_mono HO148.z (fun _ hk=>⟨hk.1.2,hk.2⟩))));(case aS=>exact (keep_size (aK HK.z)));(case aL=>have:=LMc44.out;omega);intro v156 w52 ho hb hg hat;rw [← Ny155.z] at ho;replace HO_4:=k0 (Kd.R_after (ok:=(fun k_=>some k_ ≠ (.slice Ao50 y149.length co50:Value).ownBlock)) (aR (Kd.R_mono HO_4.z (fun _ hk=>⟨hk.2,hk.1.2⟩))) hg hat);replace HO151:=k0 (Kd.R_after (ok:=(fun k_=>some k_ ≠ (.slice Ao46 x4_18.length co46:Value).ownBlock)) (aR (Kd.R_mono HO151.z (fun _ hk=>⟨hk.1.2,hk.2⟩))) hg hat);replace HB:=k0 (below_weaken (aG (IsS89.ge HI0.z) HB.z) HL.z hb);replace HI0:=k0 (IsS89.grown (aIsS89 HI0.z) hg (IsS89.own_ne HI0.z HO148.z (by decide)));replace HK:=k0 (KeepBut.trans (aK HK.z) (KeepBut.of_grown hg g) (Kd.R_base2 HO148.z));have HO157:=k0 ho;clear HO148;clear ho hb hg hat))
     go_ret
     exact ⟨_,eR,aR (Kd.R_mono HO157.z (fun _ hk=>trivial)),aIsS89 HI0.z,aG (IsS89.ge HI0.z) HB.z,aK HK.z⟩
/-! ### F33: function 33 -/
def F33.f (k:Nat) (l0:List Int):Option (List Int):=(F37.f k l0).bind fun bt101=>((F88.f k bt101.1 bt101.2.1 bt101.2.2).bind fun bt105=>(some bt105.1))
theorem F33.calls (k : Nat) (A0 : Option Addr) (c0 : Nat) (l0 : List Int) (r : List Int) (w : World) (hr0 : Kd.C (Kd.int .u8) w A0 l0.length l0) (hc0 : l0.length ≤ c0) (h : F33.f k l0 = some r) :
  Calls Try.prog 33 #[.slice A0 l0.length c0] w fun e w'=>∃ v0_:Value,e=.returned (v0_)∧Kd.R (Kd.int .i64) 2 w' w.heap.size (fun _=>True) v0_ r∧Below w.heap.size w w':=by
 have HR0:=k0 hr0
 have HC0:=k0 hc0
 clear hr0 hc0
 have HB:=k0 (Below.refl w.heap.size w)
 unfold F33.f at h
 have H:=h
 clear h
 replace H:=bS H;obtain ⟨⟨t101,t102,t103⟩,A2,H⟩:=H
 dsimp only at H
 replace H:=bS H;obtain ⟨⟨t105,t108,t109⟩,A3,H⟩:=H
 dsimp only at H
 obtain rfl:=Option.some.inj H
 go_enter Try.func33,Try.ntmps33
 go_wp2_with (first|(refine gate_callee (f:=37) rfl ?_;refine gC (some 4) Try.func37 #[.slice A0 l0.length c0] ?_;(with_reducible refine (F37.calls k _ _ l0 t101 t102 t103 w _ ?side1 ?side2 ?side3 A2.z).mono ?_);(case side1=>exact aL HB.z);(case side2=>exact HR0.z);(case side3=>exact HC0.z);rintro e w4 ⟨g104,rfl,hi,hb,hb2⟩;refine ⟨_,rfl,?_⟩;replace HB:=k0 hb;have HI104:=k0 hi)|(refine gate_callee (f:=88) rfl ?_;refine gC (some 5) Try.func88 #[.pointer (some ⟨g104,0,none⟩)] ?_;(with_reducible refine (F88.calls k g104 t101 t102 t103 t105 t108 t109 w _ ?side1 ?side2 A3.z).mono ?_);(case side1=>exact aIsS89 HI104.z);(case side2=>exact aG (IsS89.ge HI104.z) HB.z);rintro e w5 ⟨v106,rfl,ho0,hi,hb,hk⟩;refine ⟨_,rfl,?_⟩;have HO107:=k0 (Kd.R_lower ho0 (below_size (aG (IsS89.ge HI104.z) HB.z)));replace HB:=k0 hb;replace HI104:=k0 hi))
 go_ret
 exact ⟨_,eR,aR HO107.z,aG (IsS89.ge HI104.z) HB.z⟩
/-! ### F89: function 89 -/
def F89.l0 : Nat → List Int → Int → Option (Bool)
 | 0,_,_=>none
 | k+1,x0,x3=>if x3 < (x0.length:Int) then (if 0≤x3 then ((F74.f (rd x0 x3) (-1000000000000000) 1000000000000000).bind fun t102=>(if t102=true then (F89.l0 k x0 (wrap64 (x3+1))) else (some false))) else (none)) else (some (decide ((x0.length:Int)≤24)))
def F89.f (k:Nat) (l0:List Int):Option (Bool):=F89.l0 k l0 0
theorem F89.calls (k : Nat) (A0 : Option Addr) (c0 : Nat) (l0 : List Int) (r : Bool) (w : World) (hr0 : Kd.C (Kd.int .i64) w A0 l0.length l0) (hc0 : l0.length ≤ c0) (h : F89.f k l0 = some r) :
  Calls Try.prog 89 #[.slice A0 l0.length c0] w fun e w'=>e=.returned (.bool r)∧Drawn0 w w':=by
 have HR0:=k0 hr0
 have HC0:=k0 hc0
 clear hr0 hc0
 unfold F89.f at h
 have H:=h
 clear h
 have H':=k0 H
 clear H
 go_enter Try.func89,Try.ntmps89
 go_wp2
 go_loopg [3] k (fun kq v3 w'=>∃ (x3_1:Int),v3=.int .i64 x3_1∧Aside0 (F89.l0 kq l0 x3_1=some r)∧Aside0 (kq≤k)∧Drawn0 w w')
 case atStart=>exact ⟨(0),rs,H',⟨Nat.le_refl _⟩,dW⟩
 case round =>
  clear H'
  obtain ⟨x3_1,rfl,HA,HK1,⟨m1,rfl⟩⟩:=hrel
  cases gk with
  | zero=>exact absurd HA.z (by simp [F89.l0])
  | succ k1 =>
   have H:=HA.z
   clear HA
   simp only [F89.l0] at H
   replace H:=iC H;obtain ⟨c2b0,H⟩|⟨c2b0,H⟩:=H
   case inl =>
    obtain rfl:=Option.some.inj H
    go_wp2
    go_ret
    exact ⟨rs,dW⟩
   replace H:=iS H;obtain ⟨c3,H⟩:=H
   have c3b0:=decide_eq_true c3
   clear c3
   replace H:=bS H;obtain ⟨t102,A4,H⟩:=H
   cases t102
   case false =>
    replace H:=iF H
    obtain rfl:=Option.some.inj H
    obtain ⟨p101,q101⟩:=iN x3_1 (l0.length:Int)
    obtain ⟨ad101,e101,hx101_0⟩:=Kd.at_int HR0.z x3_1 p101 q101
    cases e101
    replace p101:=eT p101
    replace q101:=eT q101
    go_wp2_with (first|(refine gate_callee (f:=74) rfl ?_;refine gC (some 14) Try.func74 #[.int .i64 (rd l0 x3_1),.int .i64 (-1000000000000000),.int .i64 1000000000000000] ?_;(with_reducible refine (F74.calls (rd l0 x3_1) (-1000000000000000) 1000000000000000 false _ A4.z).mono ?_);rintro e w' ⟨rfl,⟨nd,rfl⟩⟩;refine ⟨_,rfl,?_⟩))
    go_ret
    exact ⟨rs,dW⟩
   replace H:=iT H
   have H':=k0 H
   clear H
   obtain ⟨p101,q101⟩:=iN x3_1 (l0.length:Int)
   obtain ⟨ad101,e101,hx101_0⟩:=Kd.at_int HR0.z x3_1 p101 q101
   cases e101
   replace p101:=eT p101
   replace q101:=eT q101
   go_wp2_with (first|(refine gate_callee (f:=74) rfl ?_;refine gC (some 14) Try.func74 #[.int .i64 (rd l0 x3_1),.int .i64 (-1000000000000000),.int .i64 1000000000000000] ?_;(with_reducible refine (F74.calls (rd l0 x3_1) (-1000000000000000) 1000000000000000 true _ A4.z).mono ?_);rintro e w' ⟨rfl,⟨nd,rfl⟩⟩;refine ⟨_,rfl,?_⟩))
   go_roundg k1
   case measure=>have:=HK1.z;omega
   case rel=>exact ⟨(wrap64 (x3_1+1)),rs,H',⟨by have:=HK1.z;omega⟩,dW⟩
end Go.Proofs.Ytgjdbnipcpmhiaa.P
/- Set with little white space, by a program. -/
