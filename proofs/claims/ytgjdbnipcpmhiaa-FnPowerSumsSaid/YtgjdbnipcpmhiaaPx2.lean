/- Go's calls come to what the Lean functions say. Condition of each: that the Lean function answers. -/
import Derived.Test.YtgjdbnipcpmhiaaPx0
import Derived.Test.YtgjdbnipcpmhiaaPx1
namespace Go.Proofs.Ytgjdbnipcpmhiaa.P
open Go.RowKit Go.Proofs.YtgjdbnipcpmhiaaW.PrintWords Go.Proofs.YtgjdbnipcpmhiaaW.PrintLast Go.Proofs.YtgjdbnipcpmhiaaW.PrintMore
attribute [local go_sem] max2_int min2_int max_two min_two max_three min_three max_four min_four
set_option linter.unusedVariables false
set_option linter.unusedSimpArgs false
set_option maxHeartbeats 8000000
set_option maxRecDepth 100000
/-! ### F63: function 63 -/
mutual
def F63.l0 : Nat → Int → Int → Bool → Int → List Int → Int → Int → Int → List (List Int) → Option (Int × (List (List Int)) × Int × Int)
 | 0,_,_,_,_,_,_,_,_,_=>none
 | k+1,x1,x2,x8,x9,x1000,x1001,x1002,x106000,x106001=>if x9 < x1 then (if x8=true then (F63.j1 k x1 x2 x8 x9 (decide ((x106001.length:Int) < x2)) x1000 x1001 x1002 x106000 x106001) else (F63.j1 k x1 x2 x8 x9 false x1000 x1001 x1002 x106000 x106001)) else (F63.j1 k x1 x2 x8 x9 false x1000 x1001 x1002 x106000 x106001)
def F63.j1 : Nat → Int → Int → Bool → Int → Bool → List Int → Int → Int → Int → List (List Int) → Option (Int × (List (List Int)) × Int × Int)
 | 0,_,_,_,_,_,_,_,_,_,_=>none
 | k+1,x1,x2,x8,x9,x32,x1000,x1001,x1002,x106000,x106001=>if x32=true then ((F60.f x1000 x1001 x1002 x9).bind fun bt109=>((F60.f x1000 bt109.2.1 bt109.2.2 2).bind fun bt112=>(if bt112.1=0 then (if x106001.length < 5864062014805 then (F63.l0 k x1 x2 x8 (wrap64 (x9+1)) x1000 bt112.2.1 bt112.2.2 x106000 (x106001 ++ [(([x9,bt109.1]:List Int))])) else (none)) else (if x106001.length < 5864062014805 then (F63.l0 k x1 x2 x8 (wrap64 (x9+1)) x1000 bt112.2.1 bt112.2.2 x106000 (x106001 ++ [(([bt109.1,x9]:List Int))])) else (none))))) else ((F60.f x1000 x1001 x1002 (wrap64 (x2+1))).bind fun bt127=>(F63.l1 k x1 x2 bt127.1 x1000 bt127.2.1 bt127.2.2 x106000 x106001))
def F63.l1 : Nat → Int → Int → Int → List Int → Int → Int → Int → List (List Int) → Option (Int × (List (List Int)) × Int × Int)
 | 0,_,_,_,_,_,_,_,_=>none
 | k+1,x1,x2,x11,x1000,x1001,x1002,x106000,x106001=>if x11 > 0 then (F63.j3 k x1 x2 x11 (decide ((x106001.length:Int) < x2)) x1000 x1001 x1002 x106000 x106001) else (F63.j3 k x1 x2 x11 false x1000 x1001 x1002 x106000 x106001)
def F63.j3 : Nat → Int → Int → Int → Bool → List Int → Int → Int → Int → List (List Int) → Option (Int × (List (List Int)) × Int × Int)
 | 0,_,_,_,_,_,_,_,_,_=>none
 | k+1,x1,x2,x11,x69,x1000,x1001,x1002,x106000,x106001=>if x69=true then ((F60.f x1000 x1001 x1002 x1).bind fun bt130=>((F60.f x1000 bt130.2.1 bt130.2.2 x1).bind fun bt133=>(if bt130.1=bt133.1 then ((F60.f x1000 bt133.2.1 bt133.2.2 3).bind fun bt136=>(if bt136.1 > 0 then (if x1=0 then (none) else (if x106001.length < 5864062014805 then (F63.l1 k x1 x2 (wrap64 (x11 - 1)) x1000 bt136.2.1 bt136.2.2 x106000 (x106001 ++ [(([bt130.1,Int.tmod (wrap64 (bt130.1+1)) x1]:List Int))])) else (none))) else (if x106001.length < 5864062014805 then (F63.l1 k x1 x2 (wrap64 (x11 - 1)) x1000 bt136.2.1 bt136.2.2 x106000 (x106001 ++ [(([bt130.1,bt133.1]:List Int))])) else (none)))) else (if x106001.length < 5864062014805 then (F63.l1 k x1 x2 (wrap64 (x11 - 1)) x1000 bt133.2.1 bt133.2.2 x106000 (x106001 ++ [(([bt130.1,bt133.1]:List Int))])) else (none))))) else (some (x106000,x106001,x1001,x1002))
end
def F63.f (k:Nat) (s0_0:List Int) (s0_1:Int) (s0_2:Int) (a1:Int) (a2:Int):Option (Int × (List (List Int)) × Int × Int):=(F60.f s0_0 s0_1 s0_2 3).bind fun bt106=>(F63.l0 k a1 a2 (decide (bt106.1 > 0)) 1 s0_0 bt106.2.1 bt106.2.2 a1 (([]:List (List Int))))
theorem F63.calls (k : Nat) (g : Nat) (s0_0 : List Int) (s0_1 : Int) (s0_2 : Int) (a1 : Int) (a2 : Int) (r1 : Int) (r2 : List (List Int)) (r3 : Int) (r4 : Int) (w0 w : World) (hI : IsS89 w0 w g s0_0 s0_1 s0_2) (hB : Below w0.heap.size w0 w) (h : F63.f k s0_0 s0_1 s0_2 a1 a2 = some (r1, r2, r3, r4)) :
  Calls Try.prog 63 #[.pointer (some ⟨g,0,none⟩),.int .i64 a1,.int .i64 a2] w fun e w'=>∃ v1_:Value,e=.returned (.agg #[.int .i64 r1,v1_])∧Kd.S (Kd.slice 2 (Kd.int .i64)) 27 w' w.heap.size (fun _=>True) v1_ r2∧IsS89 w0 w' g s0_0 r3 r4∧Below w0.heap.size w0 w'∧KeepBut w w' g none:=by
 have hu26:=Try.underlying26
 have HI0:=k0 hI
 have HK:=k0 (KeepBut.refl w g none)
 have HL:=k0 hB.size
 clear hI
 have HW0:=k0 hB.size
 have HB:=k0 hB
 clear hB
 unfold F63.f at h
 have H:=h
 clear h
 obtain ⟨y102,Ny102⟩:=nY (([]:List (List Int)):List (List Int))
 replace H:((F60.f s0_0 s0_1 s0_2 3).bind fun bt106=>(F63.l0 k a1 a2 (decide (bt106.1 > 0)) 1 s0_0 bt106.2.1 bt106.2.2 a1 y102))=some (r1,r2,r3,r4):=rH Ny102.z H
 replace H:=bS H;obtain ⟨⟨t106,t107,t108⟩,A4,H⟩:=H
 dsimp only at H
 have H':=k0 H
 clear H
 go_enter Try.func63,Try.ntmps63
 go_wp2_with (first|(refine gate_dst (N:=6) rfl ?_;(try (refine gate_guard (by rfl) ?_;dsimp only));refine bxe 6 #[.int .i64 0,.slice none 0 0] 26 ?_;intro gb101 hg w5 hbox hb;replace HB:=k0 (below_step (aG (IsS89.ge HI0.z) HB.z) hb);have BK101:=k0 hbox;have GW101:=gW hg (keep_size (aK HK.z));have GE101:=k0 (Nat.le_trans HW0.z GW101.z);replace HK:=zKd HK hb;have NB0_101:=k0 ((by rw [hg];exact Nat.ne_of_lt (IsS89.lt (show IsS89 w0 _ g s0_0 s0_1 s0_2 from aIsS89 HI0.z)):g ≠ gb101));have NB101_0:=k0 ((by rw [hg];exact Nat.ne_of_gt (IsS89.lt (show IsS89 w0 _ g s0_0 s0_1 s0_2 from aIsS89 HI0.z)):gb101 ≠ g));replace HI0:=k0 (IsS89.below (aIsS89 HI0.z) hb);clear hb hbox hg)|(refine gate_dst (N:=15) rfl ?_;(try (refine gate_guard (by rfl) ?_;dsimp only));refine Kd.S_lit (Kd.slice 2 (Kd.int .i64)) _ 27 ?hg (N:=15) ?hd (xs:=([]:List (List Int))) (inner:=[]) (ok:=fun _=>True) (okp:=fun _=>True) ?hr ?hp (fun _ hk=>hk) trivial (Below.refl _ _) (Nat.le_refl _) (by simp) ?_;(case hd=>rfl);(case hg=>rfl);(case hr=>first|(go_simp;done)|(go_simp;rfl));(case hp=>exact (Reps.none _ _));intro v103 w6 ho7 hb hg_ hnew_;clear hg_ hnew_;(first|rw [← Ny102.z] at ho7|(simp only [Int.reduceToNat] at ho7;rw [← Ny102.z] at ho7));have HO104:=k0 (Kd.S_lower ho7 (keep_size (aK HK.z)));replace BK101:=kB BK101 hb;replace HK:=zKd HK hb;replace HB:=k0 (below_step (aG (IsS89.ge HI0.z) HB.z) hb);replace HI0:=k0 (IsS89.below (aIsS89 HI0.z) hb);clear hb ho7;obtain ⟨Ao8,co8,rfl⟩:=Kd.S_slice HO104.z)|(refine gate_dst (N:=7) rfl ?_;(try (refine gate_guard (by rfl) ?_;dsimp only));refine bxe 7 #[.int .i64 0,.slice none 0 0] 26 ?_;intro gb105 hg w9 hbox hb;replace HO104:=bwS HO104 hb;replace HB:=k0 (below_step (aG (IsS89.ge HI0.z) HB.z) hb);have BK105:=k0 hbox;have GW105:=gW hg (keep_size (aK HK.z));have GE105:=k0 (Nat.le_trans HW0.z GW105.z);replace HK:=zKd HK hb;have NB101_105:=nL hg BK101;have NB105_101:=nG NB101_105;replace BK101:=kB BK101 hb;have NB0_105:=k0 ((by rw [hg];exact Nat.ne_of_lt (IsS89.lt (show IsS89 w0 _ g s0_0 s0_1 s0_2 from aIsS89 HI0.z)):g ≠ gb105));have NB105_0:=k0 ((by rw [hg];exact Nat.ne_of_gt (IsS89.lt (show IsS89 w0 _ g s0_0 s0_1 s0_2 from aIsS89 HI0.z)):gb105 ≠ g));replace HI0:=k0 (IsS89.below (aIsS89 HI0.z) hb);clear hb hbox hg;obtain ⟨_,_⟩:=nE NB105_101;obtain ⟨_,_⟩:=nE NB105_0;obtain ⟨_,_,_,_⟩:=cz2 BK105)|(refine gate_callee (f:=60) rfl ?_;refine gC (some 18) Try.func60 #[.pointer (some ⟨g,0,none⟩),.int .i64 3] ?_;(with_reducible refine (F60.calls g s0_0 s0_1 s0_2 3 t106 t107 t108 w0 _ ?side1 ?side2 A4.z).mono ?_);(case side1=>exact aIsS89 HI0.z);(case side2=>exact aG (IsS89.ge HI0.z) HB.z);rintro e w13 ⟨rfl,hi,hb,hk⟩;refine ⟨_,rfl,?_⟩;replace BK101:=k0 (KeepBut.blk hk (g':=gb101) (o:=.cells #[.int .i64 0,.slice none 0 0] 26 (0,0)) kZ NB101_0.z (by simp));replace HO104:=k0 (Kd.S_mono (Kd.S_keep (IsS89.apartS (show IsS89 w0 _ g s0_0 s0_1 s0_2 from aIsS89 HI0.z) (tfS HO104 BK105) (by decide)) hk (fun _ h=>h.2)) (fun _ h=>h.1));replace BK105:=k0 (KeepBut.blk hk (g':=gb105) (o:=sO a1 Ao8 y102 co8 26) kZ NB105_0.z (by simp));replace HK:=zKc HK hk;replace HB:=k0 hb;replace HI0:=k0 hi))
 go_loopg [9] k (fun kq v9 w'=>∃ (x9_1:Int) (x1001_1:Int) (x1002_1:Int) (x106001_1:List (List Int)) (u106001:Value),v9=.int .i64 x9_1∧Aside0 (F63.l0 kq a1 a2 (decide (t106 > 0)) x9_1 s0_0 x1001_1 x1002_1 a1 x106001_1=some (r1,r2,r3,r4))∧Aside0 (kq≤k)∧Aside0 (Kd.S (Kd.slice 2 (Kd.int .i64)) 27 w' w.heap.size (fun _=>True) u106001 x106001_1)∧Aside0 (w'.heap[gb101]?=some (.cells #[.int .i64 0,(.slice none 0 0)] 26 (0,0)))∧Aside0 (w'.heap[gb105]?=some (.cells #[.int .i64 a1,u106001] 26 (0,0)))∧Aside0 (IsS89 w0 w' g s0_0 x1001_1 x1002_1)∧Aside0 (KeepBut w w' g none)∧Aside0 (Below w0.heap.size w0 w'))
 case atStart=>exact ⟨(1),(t107),(t108),(y102),(.slice Ao8 y102.length co8),rs,H',⟨Nat.le_refl _⟩,⟨aS (HO104.z)⟩,⟨bk⟩,⟨bk⟩,⟨aIsS89 HI0.z⟩,⟨aK HK.z⟩,⟨aG (IsS89.ge HI0.z) HB.z⟩⟩
 case round =>
  clear H'
  obtain ⟨x9_1,x1001_1,x1002_1,x106001_1,u106001,rfl,HA,HK1,HO_106001,BK101,BK105,HI0,HK,HB⟩:=hrel
  cases gk with
  | zero=>exact absurd HA.z (by simp [F63.l0])
  | succ k1 =>
   have H:=HA.z
   clear HA
   simp only [F63.l0] at H
   have HC14:=k0 H
   clear H
   go_upto_region 4 with (fail)
   go_cut [32] (fun v32 wc=>∃ (kq:Nat) (x32_13:Bool),v32=.bool x32_13∧Aside0 (F63.j1 kq a1 a2 (decide (t106 > 0)) x9_1 x32_13 s0_0 x1001_1 x1002_1 a1 x106001_1=some (r1,r2,r3,r4))∧Aside0 (kq≤k1)∧Aside0 (Kd.S (Kd.slice 2 (Kd.int .i64)) 27 wc w.heap.size (fun _=>True) u106001 x106001_1)∧Aside0 (wc.heap[gb101]?=some (.cells #[.int .i64 0,(.slice none 0 0)] 26 (0,0)))∧Aside0 (wc.heap[gb105]?=some (.cells #[.int .i64 a1,u106001] 26 (0,0)))∧Aside0 (IsS89 w0 wc g s0_0 x1001_1 x1002_1)∧Aside0 (KeepBut w wc g none)∧Aside0 (Below w0.heap.size w0 wc))
   case first =>
    have H:=HC14.z
    clear HC14
    replace H:=iC H;obtain ⟨c15b0,H⟩|⟨c15b0,H⟩:=H
    case inl =>
     (first|rw [c15b0]|(simp only [i64_w,i32_w];rw [c15b0])|skip)
     have H':=k0 H
     clear H
     go_wp2
     go_meet
     case rel=>exact ⟨_,(false),rs,H',⟨by have:=HK1.z;first|omega|exact Nat.le_refl _⟩,⟨aS (HO_106001.z)⟩,⟨bk⟩,⟨bk⟩,⟨aIsS89 HI0.z⟩,⟨aK HK.z⟩,⟨aG (IsS89.ge HI0.z) HB.z⟩⟩
    (first|rw [c15b0]|(simp only [i64_w,i32_w];rw [c15b0])|skip)
    by_cases c16:(decide (t106 > 0))=true
    case neg =>
     rw [if_neg c16] at H
     have c16b0:(decide (t106 > 0))=false:=by simpa using c16
     clear c16
     have H':=k0 H
     clear H
     go_wp2
     go_meet
     case rel=>exact ⟨_,(false),rs,H',⟨by have:=HK1.z;first|omega|exact Nat.le_refl _⟩,⟨aS (HO_106001.z)⟩,⟨bk⟩,⟨bk⟩,⟨aIsS89 HI0.z⟩,⟨aK HK.z⟩,⟨aG (IsS89.ge HI0.z) HB.z⟩⟩
    rw [if_pos c16] at H
    have c16b0:(decide (t106 > 0))=true:=c16
    clear c16
    have H':=k0 H
    clear H
    obtain ⟨_,_⟩:=nE NB105_101
    obtain ⟨_,_⟩:=nE NB105_0
    obtain ⟨_,_,_,_⟩:=cz2 BK105
    obtain ⟨Ao20,co20,rfl⟩:=Kd.S_slice HO_106001.z
    go_wp2
    go_meet
    case rel=>exact ⟨_,(decide ((x106001_1.length:Int) < a2)),rs,H',⟨by have:=HK1.z;first|omega|exact Nat.le_refl _⟩,⟨aS (HO_106001.z)⟩,⟨bk⟩,⟨bk⟩,⟨aIsS89 HI0.z⟩,⟨aK HK.z⟩,⟨aG (IsS89.ge HI0.z) HB.z⟩⟩
   case rest =>
    clear HC14
    obtain ⟨kq,x32_13,rfl,HA,HJ13,HO_106001,BK101,BK105,HI0,HK,HB⟩:=hcut
    cases kq with
    | zero=>exact absurd HA.z (by simp [F63.j1])
    | succ kj13 =>
     have H:=HA.z
     clear HA
     simp only [F63.j1] at H
     cases x32_13
     case false =>
      replace H:=iF H
      replace H:=bS H;obtain ⟨⟨t127,t128,t129⟩,A49,H⟩:=H
      dsimp only at H
      have H':=k0 H
      clear H
      go_wp2_with (first|(refine gate_callee (f:=60) rfl ?_;refine gC (some 60) Try.func60 #[.pointer (some ⟨g,0,none⟩),.int .i64 (wrap64 (a2+1))] ?_;(with_reducible refine (F60.calls g s0_0 x1001_1 x1002_1 (wrap64 (a2+1)) t127 t128 t129 w0 _ ?side1 ?side2 A49.z).mono ?_);(case side1=>exact aIsS89 HI0.z);(case side2=>exact aG (IsS89.ge HI0.z) HB.z);rintro e w50 ⟨rfl,hi,hb,hk⟩;refine ⟨_,rfl,?_⟩;replace HO_106001:=k0 (Kd.S_mono (Kd.S_keep (IsS89.apartS (show IsS89 w0 _ g s0_0 x1001_1 x1002_1 from aIsS89 HI0.z) (aS HO_106001.z) (by decide)) hk (fun _ h=>h.2)) (fun _ h=>h.1));replace BK101:=kK hk BK101 NB101_0;replace BK105:=kK hk BK105 NB105_0;replace HK:=zKc HK hk;replace HB:=k0 hb;replace HI0:=k0 hi))
      go_loopg [11] kj13 (fun kq v11 w'=>∃ (x11_3:Int) (x1001_3:Int) (x1002_3:Int) (x106001_3:List (List Int)) (u106001:Value),v11=.int .i64 x11_3∧Aside0 (F63.l1 kq a1 a2 x11_3 s0_0 x1001_3 x1002_3 a1 x106001_3=some (r1,r2,r3,r4))∧Aside0 (kq≤kj13)∧Aside0 (Kd.S (Kd.slice 2 (Kd.int .i64)) 27 w' w.heap.size (fun _=>True) u106001 x106001_3)∧Aside0 (w'.heap[gb101]?=some (.cells #[.int .i64 0,(.slice none 0 0)] 26 (0,0)))∧Aside0 (w'.heap[gb105]?=some (.cells #[.int .i64 a1,u106001] 26 (0,0)))∧Aside0 (IsS89 w0 w' g s0_0 x1001_3 x1002_3)∧Aside0 (KeepBut w w' g none)∧Aside0 (Below w0.heap.size w0 w'))
      case atStart=>exact ⟨(t127),(t128),(t129),(x106001_1),(u106001),rs,H',⟨Nat.le_refl _⟩,⟨aS (HO_106001.z)⟩,⟨bk⟩,⟨bk⟩,⟨aIsS89 HI0.z⟩,⟨aK HK.z⟩,⟨aG (IsS89.ge HI0.z) HB.z⟩⟩
      case round =>
       clear H'
       obtain ⟨x11_3,x1001_3,x1002_3,x106001_3,u106001,rfl,HA,HK3,HO_106001,BK101,BK105,HI0,HK,HB⟩:=hrel
       cases gk with
       | zero=>exact absurd HA.z (by simp [F63.l1])
       | succ k3 =>
        have H:=HA.z
        clear HA
        simp only [F63.l1] at H
        have HC51:=k0 H
        clear H
        go_upto_region 11 with (fail)
        go_cut [69] (fun v69 wc=>∃ (kq:Nat) (x69_50:Bool),v69=.bool x69_50∧Aside0 (F63.j3 kq a1 a2 x11_3 x69_50 s0_0 x1001_3 x1002_3 a1 x106001_3=some (r1,r2,r3,r4))∧Aside0 (kq≤k3)∧Aside0 (Kd.S (Kd.slice 2 (Kd.int .i64)) 27 wc w.heap.size (fun _=>True) u106001 x106001_3)∧Aside0 (wc.heap[gb101]?=some (.cells #[.int .i64 0,(.slice none 0 0)] 26 (0,0)))∧Aside0 (wc.heap[gb105]?=some (.cells #[.int .i64 a1,u106001] 26 (0,0)))∧Aside0 (IsS89 w0 wc g s0_0 x1001_3 x1002_3)∧Aside0 (KeepBut w wc g none)∧Aside0 (Below w0.heap.size w0 wc))
        case first =>
         have H:=HC51.z
         clear HC51
         replace H:=iC H;obtain ⟨c52b0,H⟩|⟨c52b0,H⟩:=H
         case inl =>
          (first|rw [c52b0]|(simp only [i64_w,i32_w];rw [c52b0])|skip)
          have H':=k0 H
          clear H
          go_wp2
          go_meet
          case rel=>exact ⟨_,(false),rs,H',⟨by have:=HK1.z;have:=HJ13.out;have:=HK3.z;first|omega|exact Nat.le_refl _⟩,⟨aS (HO_106001.z)⟩,⟨bk⟩,⟨bk⟩,⟨aIsS89 HI0.z⟩,⟨aK HK.z⟩,⟨aG (IsS89.ge HI0.z) HB.z⟩⟩
         (first|rw [c52b0]|(simp only [i64_w,i32_w];rw [c52b0])|skip)
         have H':=k0 H
         clear H
         obtain ⟨_,_⟩:=nE NB105_101
         obtain ⟨_,_⟩:=nE NB105_0
         obtain ⟨_,_,_,_⟩:=cz2 BK105
         obtain ⟨Ao56,co56,rfl⟩:=Kd.S_slice HO_106001.z
         go_wp2
         go_meet
         case rel=>exact ⟨_,(decide ((x106001_3.length:Int) < a2)),rs,H',⟨by have:=HK1.z;have:=HJ13.out;have:=HK3.z;first|omega|exact Nat.le_refl _⟩,⟨aS (HO_106001.z)⟩,⟨bk⟩,⟨bk⟩,⟨aIsS89 HI0.z⟩,⟨aK HK.z⟩,⟨aG (IsS89.ge HI0.z) HB.z⟩⟩
        case rest =>
         clear HC51
         obtain ⟨kq,x69_50,rfl,HA,HJ50,HO_106001,BK101,BK105,HI0,HK,HB⟩:=hcut
         cases kq with
         | zero=>exact absurd HA.z (by simp [F63.j3])
         | succ kj50 =>
          have H:=HA.z
          clear HA
          simp only [F63.j3] at H
          cases x69_50
          case false =>
           replace H:=iF H
           simp only [Option.some.injEq,Prod.mk.injEq] at H
           obtain ⟨rfl,rfl,rfl,rfl⟩:=H
           obtain ⟨_,_⟩:=nE NB105_101
           obtain ⟨_,_⟩:=nE NB105_0
           obtain ⟨_,_,_,_⟩:=cz2 BK105
           obtain ⟨_,_⟩:=nE NB101_0
           obtain ⟨_,_,_,_⟩:=cz2 BK101
           obtain ⟨Ao107,co107,rfl⟩:=Kd.S_slice HO_106001.z
           go_wp2
           refine bodyPost_ret (results_cell_row rfl _ _ gb101 26 #[.int .i64 a1,.slice Ao107 x106001_3.length co107] (0,0) _ rfl kZ Try.underlying26 rfl (by kernel_rfl)) rfl ?_
           exact ⟨_,eR,aS (Kd.S_mono (gS 1 (.slice Ao107 x106001_3.length co107) (gS 0 (.int .i64 a1) (tS HO_106001 BK101))) (fun _ hk=>trivial)),aIsS89 HI0.z,aG (IsS89.ge HI0.z) HB.z,aK HK.z⟩
          replace H:=iT H
          replace H:=bS H;obtain ⟨⟨t130,t131,t132⟩,A58,H⟩:=H
          dsimp only at H
          replace H:=bS H;obtain ⟨⟨t133,t134,t135⟩,A59,H⟩:=H
          dsimp only at H
          replace H:=iE H;obtain ⟨c60,c60b0,c60b1,H⟩|⟨c60b0,c60b1,H⟩:=H
          case inl =>
           obtain ⟨y151,Ny151⟩:=nY (([t130,t133]:List Int):List Int)
           replace H:(if x106001_3.length < 5864062014805 then (F63.l1 kj50 a1 a2 (wrap64 (x11_3 - 1)) s0_0 t134 t135 a1 (x106001_3 ++ [y151])) else (none))=some (r1,r2,r3,r4):=rH Ny151.z H
           replace H:=iS H;obtain ⟨c90,H⟩:=H
           have LMc90:=k0 c90
           clear c90
           obtain ⟨y154,Ny154⟩:=nY (x106001_3 ++ [y151]:List (List Int))
           replace H:(F63.l1 kj50 a1 a2 (wrap64 (x11_3 - 1)) s0_0 t134 t135 a1 y154)=some (r1,r2,r3,r4):=rH Ny154.z H
           have H':=k0 H
           clear H
           go_wp2_with (first|(refine gate_callee (f:=60) rfl ?_;refine gC (some 74) Try.func60 #[.pointer (some ⟨g,0,none⟩),.int .i64 a1] ?_;(with_reducible refine (F60.calls g s0_0 x1001_3 x1002_3 a1 t130 t131 t132 w0 _ ?side1 ?side2 A58.z).mono ?_);(case side1=>exact aIsS89 HI0.z);(case side2=>exact aG (IsS89.ge HI0.z) HB.z);rintro e w91 ⟨rfl,hi,hb,hk⟩;refine ⟨_,rfl,?_⟩;replace HO_106001:=k0 (Kd.S_mono (Kd.S_keep (IsS89.apartS (show IsS89 w0 _ g s0_0 x1001_3 x1002_3 from aIsS89 HI0.z) (aS HO_106001.z) (by decide)) hk (fun _ h=>h.2)) (fun _ h=>h.1));replace BK101:=kK hk BK101 NB101_0;replace BK105:=kK hk BK105 NB105_0;replace HK:=zKc HK hk;replace HB:=k0 hb;replace HI0:=k0 hi)|(refine gate_callee (f:=60) rfl ?_;refine gC (some 77) Try.func60 #[.pointer (some ⟨g,0,none⟩),.int .i64 a1] ?_;(with_reducible refine (F60.calls g s0_0 t131 t132 a1 t133 t134 t135 w0 _ ?side1 ?side2 A59.z).mono ?_);(case side1=>exact aIsS89 HI0.z);(case side2=>exact aG (IsS89.ge HI0.z) HB.z);rintro e w92 ⟨rfl,hi,hb,hk⟩;refine ⟨_,rfl,?_⟩;replace HO_106001:=k0 (Kd.S_mono (Kd.S_keep (IsS89.apartS (show IsS89 w0 _ g s0_0 t131 t132 from aIsS89 HI0.z) (aS HO_106001.z) (by decide)) hk (fun _ h=>h.2)) (fun _ h=>h.1));replace BK101:=kK hk BK101 NB101_0;replace BK105:=kK hk BK105 NB105_0;replace HK:=zKc HK hk;replace HB:=k0 hb;replace HI0:=k0 hi;obtain ⟨_,_⟩:=nE NB105_101;obtain ⟨_,_⟩:=nE NB105_0;obtain ⟨_,_,_,_⟩:=cz2 BK105)|(refine gate_dst (N:=94) rfl ?_;(try (refine gate_guard (by rfl) ?_;dsimp only));refine zRt 2 (N:=94) (xs:=([t130,t133]:List Int)) (inner:=[.int .i64 t130,.int .i64 t133]) (Reps.one (show Kd.M (Kd.int .i64) _ _ _ t130 [.int .i64 t130] from rfl) (Reps.one (show Kd.M (Kd.int .i64) _ _ _ t133 [.int .i64 t133] from rfl) (Reps.none _ _))) ?_;intro v152 w96 ho97 hb hg_ hnew_;clear hg_ hnew_;(first|rw [← Ny151.z] at ho97|(simp only [Int.reduceToNat] at ho97;rw [← Ny151.z] at ho97));replace HO_106001:=elS HO_106001 (Kd.R_base ho97) hb;have HO153:=k0 (Kd.R_lower ho97 (keep_size (aK HK.z)));replace BK101:=kB BK101 hb;replace BK105:=kB BK105 hb;replace HK:=zKd HK hb;replace HB:=k0 (below_step (aG (IsS89.ge HI0.z) HB.z) hb);replace HI0:=k0 (IsS89.below (aIsS89 HI0.z) hb);clear hb ho97;obtain ⟨Ao99,co99,rfl⟩:=Kd.R_slice HO153.z)|((with_reducible refine gate_builtin (b:=.append) (xs:=#[.tmp 91,.tmp 95]) rfl ?_);(try (refine gate_guard (by rfl) ?_;dsimp only));at_builtin;refine Kd.S_append (Kd.slice 2 (Kd.int .i64)) w.heap.size rfl (.tmp 91) (.tmp 95) 24 27 (.slice none 0 0) 24 rfl Try.underlying24 info27 rfl (by decide) (by omega) u106001 x106001_3 y151 [.slice Ao99 y151.length co99] (fun _=>True) (fun k_=>some k_=(.slice Ao99 y151.length co99:Value).ownBlock) rfl rfl ?aP (fun k_ hk_=>((Kd.R_mono (ok':=fun k_=>((fun _=>True)) k_∧some k_ ≠ (u106001:Value).ownBlock) (Kd.R_apart' (HO153.z) (Kd.S_typed HO_106001.z) (by decide)) (fun k_ hk=>⟨trivial,hk.2⟩))).1 k_ hk_.symm) ?aF ?aO (Below.refl _ _) ?aS ?aL ?_;(case aP=>exact Kd.M_row (Kd.R_mono (Kd.R_tight rfl (Kd.R_mono (ok':=fun k_=>((fun _=>True)) k_∧some k_ ≠ (u106001:Value).ownBlock) (Kd.R_apart' (HO153.z) (Kd.S_typed HO_106001.z) (by decide)) (fun k_ hk=>⟨trivial,hk.2⟩))) (fun _ h_=>h_)));(case aF=>exact (fun _ _=>trivial));(case aO=>exact (aS (Kd.S_mono HO_106001.z (fun k_ hk=>⟨trivial,fun e_=>hk.2 e_⟩))));(case aS=>exact (keep_size (aK HK.z)));(case aL=>have:=LMc90.out;omega);intro v155 w98 ho hb hg hat;rw [← Ny154.z] at ho;replace BK101:=k0 (blk_grown (aB BK101.z) hg (Kd.S_ne HO_106001.z BK101.z (by decide)));replace BK105:=k0 (blk_grown (aB BK105.z) hg (Kd.S_ne HO_106001.z BK105.z (by decide)));replace HB:=k0 (below_weaken (aG (IsS89.ge HI0.z) HB.z) HL.z hb);replace HI0:=k0 (IsS89.grown (aIsS89 HI0.z) hg (IsS89.own_neS HI0.z HO_106001.z (by decide)));replace HK:=k0 (KeepBut.trans (aK HK.z) (KeepBut.of_grown hg g) (Kd.S_base2 HO_106001.z));have HO156:=k0 ho;clear HO_106001 HO153;clear ho hb hg hat;obtain ⟨Ao100,co100,rfl⟩:=Kd.S_slice HO156.z;obtain ⟨_,_,_,_⟩:=cz2 BK105))
           go_roundg kj50
           case measure=>have:=HK1.z;have:=HJ13.out;have:=HK3.z;have:=HJ50.out;omega
           case rel=>exact ⟨(wrap64 (x11_3 - 1)),(t134),(t135),(y154),(.slice Ao100 y154.length co100),rs,H',⟨by have:=HK1.z;have:=HJ13.out;have:=HK3.z;have:=HJ50.out;omega⟩,⟨aS (Kd.S_mono (gS 1 (.slice Ao100 y154.length co100) (tS HO156 BK105)) (fun _ hk=>trivial))⟩,⟨kZ⟩,⟨kZ⟩,⟨aIsS89 HI0.z⟩,⟨aK HK.z⟩,⟨aG (IsS89.ge HI0.z) HB.z⟩⟩
          replace H:=bS H;obtain ⟨⟨t136,t137,t138⟩,A61,H⟩:=H
          dsimp only at H
          replace H:=iC H;obtain ⟨c62b0,H⟩|⟨c62b0,H⟩:=H
          case inl =>
           obtain ⟨y145,Ny145⟩:=nY (([t130,t133]:List Int):List Int)
           replace H:(if x106001_3.length < 5864062014805 then (F63.l1 kj50 a1 a2 (wrap64 (x11_3 - 1)) s0_0 t137 t138 a1 (x106001_3 ++ [y145])) else (none))=some (r1,r2,r3,r4):=rH Ny145.z H
           replace H:=iS H;obtain ⟨c77,H⟩:=H
           have LMc77:=k0 c77
           clear c77
           obtain ⟨y148,Ny148⟩:=nY (x106001_3 ++ [y145]:List (List Int))
           replace H:(F63.l1 kj50 a1 a2 (wrap64 (x11_3 - 1)) s0_0 t137 t138 a1 y148)=some (r1,r2,r3,r4):=rH Ny148.z H
           have H':=k0 H
           clear H
           go_wp2_with (first|(refine gate_callee (f:=60) rfl ?_;refine gC (some 74) Try.func60 #[.pointer (some ⟨g,0,none⟩),.int .i64 a1] ?_;(with_reducible refine (F60.calls g s0_0 x1001_3 x1002_3 a1 t130 t131 t132 w0 _ ?side1 ?side2 A58.z).mono ?_);(case side1=>exact aIsS89 HI0.z);(case side2=>exact aG (IsS89.ge HI0.z) HB.z);rintro e w78 ⟨rfl,hi,hb,hk⟩;refine ⟨_,rfl,?_⟩;replace HO_106001:=k0 (Kd.S_mono (Kd.S_keep (IsS89.apartS (show IsS89 w0 _ g s0_0 x1001_3 x1002_3 from aIsS89 HI0.z) (aS HO_106001.z) (by decide)) hk (fun _ h=>h.2)) (fun _ h=>h.1));replace BK101:=kK hk BK101 NB101_0;replace BK105:=kK hk BK105 NB105_0;replace HK:=zKc HK hk;replace HB:=k0 hb;replace HI0:=k0 hi)|(refine gate_callee (f:=60) rfl ?_;refine gC (some 77) Try.func60 #[.pointer (some ⟨g,0,none⟩),.int .i64 a1] ?_;(with_reducible refine (F60.calls g s0_0 t131 t132 a1 t133 t134 t135 w0 _ ?side1 ?side2 A59.z).mono ?_);(case side1=>exact aIsS89 HI0.z);(case side2=>exact aG (IsS89.ge HI0.z) HB.z);rintro e w79 ⟨rfl,hi,hb,hk⟩;refine ⟨_,rfl,?_⟩;replace HO_106001:=k0 (Kd.S_mono (Kd.S_keep (IsS89.apartS (show IsS89 w0 _ g s0_0 t131 t132 from aIsS89 HI0.z) (aS HO_106001.z) (by decide)) hk (fun _ h=>h.2)) (fun _ h=>h.1));replace BK101:=kK hk BK101 NB101_0;replace BK105:=kK hk BK105 NB105_0;replace HK:=zKc HK hk;replace HB:=k0 hb;replace HI0:=k0 hi)|(go_at_call 60;(with_reducible refine (F60.calls g s0_0 t134 t135 3 t136 t137 t138 w0 _ ?side1 ?side2 A61.z).mono ?_);(case side1=>exact aIsS89 HI0.z);(case side2=>exact aG (IsS89.ge HI0.z) HB.z);rintro e w80 ⟨rfl,hi,hb,hk⟩;replace HO_106001:=k0 (Kd.S_mono (Kd.S_keep (IsS89.apartS (show IsS89 w0 _ g s0_0 t134 t135 from aIsS89 HI0.z) (aS HO_106001.z) (by decide)) hk (fun _ h=>h.2)) (fun _ h=>h.1));replace BK101:=kK hk BK101 NB101_0;replace BK105:=kK hk BK105 NB105_0;replace HK:=zKc HK hk;replace HB:=k0 hb;replace HI0:=k0 hi;obtain ⟨_,_⟩:=nE NB105_101;obtain ⟨_,_⟩:=nE NB105_0;obtain ⟨_,_,_,_⟩:=cz2 BK105)|(refine gate_dst (N:=94) rfl ?_;(try (refine gate_guard (by rfl) ?_;dsimp only));refine zRt 2 (N:=94) (xs:=([t130,t133]:List Int)) (inner:=[.int .i64 t130,.int .i64 t133]) (Reps.one (show Kd.M (Kd.int .i64) _ _ _ t130 [.int .i64 t130] from rfl) (Reps.one (show Kd.M (Kd.int .i64) _ _ _ t133 [.int .i64 t133] from rfl) (Reps.none _ _))) ?_;intro v146 w84 ho85 hb hg_ hnew_;clear hg_ hnew_;(first|rw [← Ny145.z] at ho85|(simp only [Int.reduceToNat] at ho85;rw [← Ny145.z] at ho85));replace HO_106001:=elS HO_106001 (Kd.R_base ho85) hb;have HO147:=k0 (Kd.R_lower ho85 (keep_size (aK HK.z)));replace BK101:=kB BK101 hb;replace BK105:=kB BK105 hb;replace HK:=zKd HK hb;replace HB:=k0 (below_step (aG (IsS89.ge HI0.z) HB.z) hb);replace HI0:=k0 (IsS89.below (aIsS89 HI0.z) hb);clear hb ho85;obtain ⟨Ao87,co87,rfl⟩:=Kd.R_slice HO147.z)|((with_reducible refine gate_builtin (b:=.append) (xs:=#[.tmp 91,.tmp 95]) rfl ?_);(try (refine gate_guard (by rfl) ?_;dsimp only));at_builtin;refine Kd.S_append (Kd.slice 2 (Kd.int .i64)) w.heap.size rfl (.tmp 91) (.tmp 95) 24 27 (.slice none 0 0) 24 rfl Try.underlying24 info27 rfl (by decide) (by omega) u106001 x106001_3 y145 [.slice Ao87 y145.length co87] (fun _=>True) (fun k_=>some k_=(.slice Ao87 y145.length co87:Value).ownBlock) rfl rfl ?aP (fun k_ hk_=>((Kd.R_mono (ok':=fun k_=>((fun _=>True)) k_∧some k_ ≠ (u106001:Value).ownBlock) (Kd.R_apart' (HO147.z) (Kd.S_typed HO_106001.z) (by decide)) (fun k_ hk=>⟨trivial,hk.2⟩))).1 k_ hk_.symm) ?aF ?aO (Below.refl _ _) ?aS ?aL ?_;(case aP=>exact Kd.M_row (Kd.R_mono (Kd.R_tight rfl (Kd.R_mono (ok':=fun k_=>((fun _=>True)) k_∧some k_ ≠ (u106001:Value).ownBlock) (Kd.R_apart' (HO147.z) (Kd.S_typed HO_106001.z) (by decide)) (fun k_ hk=>⟨trivial,hk.2⟩))) (fun _ h_=>h_)));(case aF=>exact (fun _ _=>trivial));(case aO=>exact (aS (Kd.S_mono HO_106001.z (fun k_ hk=>⟨trivial,fun e_=>hk.2 e_⟩))));(case aS=>exact (keep_size (aK HK.z)));(case aL=>have:=LMc77.out;omega);intro v149 w86 ho hb hg hat;rw [← Ny148.z] at ho;replace BK101:=k0 (blk_grown (aB BK101.z) hg (Kd.S_ne HO_106001.z BK101.z (by decide)));replace BK105:=k0 (blk_grown (aB BK105.z) hg (Kd.S_ne HO_106001.z BK105.z (by decide)));replace HB:=k0 (below_weaken (aG (IsS89.ge HI0.z) HB.z) HL.z hb);replace HI0:=k0 (IsS89.grown (aIsS89 HI0.z) hg (IsS89.own_neS HI0.z HO_106001.z (by decide)));replace HK:=k0 (KeepBut.trans (aK HK.z) (KeepBut.of_grown hg g) (Kd.S_base2 HO_106001.z));have HO150:=k0 ho;clear HO_106001 HO147;clear ho hb hg hat;obtain ⟨Ao88,co88,rfl⟩:=Kd.S_slice HO150.z;obtain ⟨_,_,_,_⟩:=cz2 BK105))
           go_roundg kj50
           case measure=>have:=HK1.z;have:=HJ13.out;have:=HK3.z;have:=HJ50.out;omega
           case rel=>exact ⟨(wrap64 (x11_3 - 1)),(t137),(t138),(y148),(.slice Ao88 y148.length co88),rs,H',⟨by have:=HK1.z;have:=HJ13.out;have:=HK3.z;have:=HJ50.out;omega⟩,⟨aS (Kd.S_mono (gS 1 (.slice Ao88 y148.length co88) (tS HO150 BK105)) (fun _ hk=>trivial))⟩,⟨kZ⟩,⟨kZ⟩,⟨aIsS89 HI0.z⟩,⟨aK HK.z⟩,⟨aG (IsS89.ge HI0.z) HB.z⟩⟩
          by_cases c63:a1=0
          case neg =>
           rw [if_neg c63] at H
           have c63b0:=beq_eq_false_iff_ne.mpr c63
           have c63b1:=bne_iff_ne.mpr c63
           obtain ⟨y139,Ny139⟩:=nY (([t130,Int.tmod (wrap64 (t130+1)) a1]:List Int):List Int)
           replace H:(if x106001_3.length < 5864062014805 then (F63.l1 kj50 a1 a2 (wrap64 (x11_3 - 1)) s0_0 t137 t138 a1 (x106001_3 ++ [y139])) else (none))=some (r1,r2,r3,r4):=rH Ny139.z H
           replace H:=iS H;obtain ⟨c64,H⟩:=H
           have LMc64:=k0 c64
           clear c64
           obtain ⟨y142,Ny142⟩:=nY (x106001_3 ++ [y139]:List (List Int))
           replace H:(F63.l1 kj50 a1 a2 (wrap64 (x11_3 - 1)) s0_0 t137 t138 a1 y142)=some (r1,r2,r3,r4):=rH Ny142.z H
           have H':=k0 H
           clear H
           go_wp2_with (first|(refine gate_callee (f:=60) rfl ?_;refine gC (some 74) Try.func60 #[.pointer (some ⟨g,0,none⟩),.int .i64 a1] ?_;(with_reducible refine (F60.calls g s0_0 x1001_3 x1002_3 a1 t130 t131 t132 w0 _ ?side1 ?side2 A58.z).mono ?_);(case side1=>exact aIsS89 HI0.z);(case side2=>exact aG (IsS89.ge HI0.z) HB.z);rintro e w65 ⟨rfl,hi,hb,hk⟩;refine ⟨_,rfl,?_⟩;replace HO_106001:=k0 (Kd.S_mono (Kd.S_keep (IsS89.apartS (show IsS89 w0 _ g s0_0 x1001_3 x1002_3 from aIsS89 HI0.z) (aS HO_106001.z) (by decide)) hk (fun _ h=>h.2)) (fun _ h=>h.1));replace BK101:=kK hk BK101 NB101_0;replace BK105:=kK hk BK105 NB105_0;replace HK:=zKc HK hk;replace HB:=k0 hb;replace HI0:=k0 hi)|(refine gate_callee (f:=60) rfl ?_;refine gC (some 77) Try.func60 #[.pointer (some ⟨g,0,none⟩),.int .i64 a1] ?_;(with_reducible refine (F60.calls g s0_0 t131 t132 a1 t133 t134 t135 w0 _ ?side1 ?side2 A59.z).mono ?_);(case side1=>exact aIsS89 HI0.z);(case side2=>exact aG (IsS89.ge HI0.z) HB.z);rintro e w66 ⟨rfl,hi,hb,hk⟩;refine ⟨_,rfl,?_⟩;replace HO_106001:=k0 (Kd.S_mono (Kd.S_keep (IsS89.apartS (show IsS89 w0 _ g s0_0 t131 t132 from aIsS89 HI0.z) (aS HO_106001.z) (by decide)) hk (fun _ h=>h.2)) (fun _ h=>h.1));replace BK101:=kK hk BK101 NB101_0;replace BK105:=kK hk BK105 NB105_0;replace HK:=zKc HK hk;replace HB:=k0 hb;replace HI0:=k0 hi)|(go_at_call 60;(with_reducible refine (F60.calls g s0_0 t134 t135 3 t136 t137 t138 w0 _ ?side1 ?side2 A61.z).mono ?_);(case side1=>exact aIsS89 HI0.z);(case side2=>exact aG (IsS89.ge HI0.z) HB.z);rintro e w67 ⟨rfl,hi,hb,hk⟩;replace HO_106001:=k0 (Kd.S_mono (Kd.S_keep (IsS89.apartS (show IsS89 w0 _ g s0_0 t134 t135 from aIsS89 HI0.z) (aS HO_106001.z) (by decide)) hk (fun _ h=>h.2)) (fun _ h=>h.1));replace BK101:=kK hk BK101 NB101_0;replace BK105:=kK hk BK105 NB105_0;replace HK:=zKc HK hk;replace HB:=k0 hb;replace HI0:=k0 hi;obtain ⟨_,_⟩:=nE NB105_101;obtain ⟨_,_⟩:=nE NB105_0;obtain ⟨_,_,_,_⟩:=cz2 BK105)|(refine gate_dst (N:=94) rfl ?_;(try (refine gate_guard (by rfl) ?_;dsimp only));refine zRt 2 (N:=94) (xs:=([t130,Int.tmod (wrap64 (t130+1)) a1]:List Int)) (inner:=[.int .i64 t130,.int .i64 (Int.tmod (wrap64 (t130+1)) a1)]) (Reps.one (show Kd.M (Kd.int .i64) _ _ _ t130 [.int .i64 t130] from rfl) (Reps.one (show Kd.M (Kd.int .i64) _ _ _ (Int.tmod (wrap64 (t130+1)) a1) [.int .i64 (Int.tmod (wrap64 (t130+1)) a1)] from rfl) (Reps.none _ _))) ?_;intro v140 w71 ho72 hb hg_ hnew_;clear hg_ hnew_;(first|rw [← Ny139.z] at ho72|(simp only [Int.reduceToNat] at ho72;rw [← Ny139.z] at ho72));replace HO_106001:=elS HO_106001 (Kd.R_base ho72) hb;have HO141:=k0 (Kd.R_lower ho72 (keep_size (aK HK.z)));replace BK101:=kB BK101 hb;replace BK105:=kB BK105 hb;replace HK:=zKd HK hb;replace HB:=k0 (below_step (aG (IsS89.ge HI0.z) HB.z) hb);replace HI0:=k0 (IsS89.below (aIsS89 HI0.z) hb);clear hb ho72;obtain ⟨Ao74,co74,rfl⟩:=Kd.R_slice HO141.z)|((with_reducible refine gate_builtin (b:=.append) (xs:=#[.tmp 91,.tmp 95]) rfl ?_);(try (refine gate_guard (by rfl) ?_;dsimp only));at_builtin;refine Kd.S_append (Kd.slice 2 (Kd.int .i64)) w.heap.size rfl (.tmp 91) (.tmp 95) 24 27 (.slice none 0 0) 24 rfl Try.underlying24 info27 rfl (by decide) (by omega) u106001 x106001_3 y139 [.slice Ao74 y139.length co74] (fun _=>True) (fun k_=>some k_=(.slice Ao74 y139.length co74:Value).ownBlock) rfl rfl ?aP (fun k_ hk_=>((Kd.R_mono (ok':=fun k_=>((fun _=>True)) k_∧some k_ ≠ (u106001:Value).ownBlock) (Kd.R_apart' (HO141.z) (Kd.S_typed HO_106001.z) (by decide)) (fun k_ hk=>⟨trivial,hk.2⟩))).1 k_ hk_.symm) ?aF ?aO (Below.refl _ _) ?aS ?aL ?_;(case aP=>exact Kd.M_row (Kd.R_mono (Kd.R_tight rfl (Kd.R_mono (ok':=fun k_=>((fun _=>True)) k_∧some k_ ≠ (u106001:Value).ownBlock) (Kd.R_apart' (HO141.z) (Kd.S_typed HO_106001.z) (by decide)) (fun k_ hk=>⟨trivial,hk.2⟩))) (fun _ h_=>h_)));(case aF=>exact (fun _ _=>trivial));(case aO=>exact (aS (Kd.S_mono HO_106001.z (fun k_ hk=>⟨trivial,fun e_=>hk.2 e_⟩))));(case aS=>exact (keep_size (aK HK.z)));(case aL=>have:=LMc64.out;omega);intro v143 w73 ho hb hg hat;rw [← Ny142.z] at ho;replace BK101:=k0 (blk_grown (aB BK101.z) hg (Kd.S_ne HO_106001.z BK101.z (by decide)));replace BK105:=k0 (blk_grown (aB BK105.z) hg (Kd.S_ne HO_106001.z BK105.z (by decide)));replace HB:=k0 (below_weaken (aG (IsS89.ge HI0.z) HB.z) HL.z hb);replace HI0:=k0 (IsS89.grown (aIsS89 HI0.z) hg (IsS89.own_neS HI0.z HO_106001.z (by decide)));replace HK:=k0 (KeepBut.trans (aK HK.z) (KeepBut.of_grown hg g) (Kd.S_base2 HO_106001.z));have HO144:=k0 ho;clear HO_106001 HO141;clear ho hb hg hat;obtain ⟨Ao75,co75,rfl⟩:=Kd.S_slice HO144.z;obtain ⟨_,_,_,_⟩:=cz2 BK105))
           go_roundg kj50
           case measure=>have:=HK1.z;have:=HJ13.out;have:=HK3.z;have:=HJ50.out;omega
           case rel=>exact ⟨(wrap64 (x11_3 - 1)),(t137),(t138),(y142),(.slice Ao75 y142.length co75),rs,H',⟨by have:=HK1.z;have:=HJ13.out;have:=HK3.z;have:=HJ50.out;omega⟩,⟨aS (Kd.S_mono (gS 1 (.slice Ao75 y142.length co75) (tS HO144 BK105)) (fun _ hk=>trivial))⟩,⟨kZ⟩,⟨kZ⟩,⟨aIsS89 HI0.z⟩,⟨aK HK.z⟩,⟨aG (IsS89.ge HI0.z) HB.z⟩⟩
          rw [if_pos c63] at H
          exact absurd H (by simp)
     replace H:=iT H
     replace H:=bS H;obtain ⟨⟨t109,t110,t111⟩,A22,H⟩:=H
     dsimp only at H
     replace H:=bS H;obtain ⟨⟨t112,t113,t114⟩,A23,H⟩:=H
     dsimp only at H
     replace H:=iE H;obtain ⟨c24,c24b0,c24b1,H⟩|⟨c24b0,c24b1,H⟩:=H
     case inl =>
      obtain ⟨y121,Ny121⟩:=nY (([t109,x9_1]:List Int):List Int)
      replace H:(if x106001_1.length < 5864062014805 then (F63.l0 kj13 a1 a2 (decide (t106 > 0)) (wrap64 (x9_1+1)) s0_0 t113 t114 a1 (x106001_1 ++ [y121])) else (none))=some (r1,r2,r3,r4):=rH Ny121.z H
      replace H:=iS H;obtain ⟨c37,H⟩:=H
      have LMc37:=k0 c37
      clear c37
      obtain ⟨y124,Ny124⟩:=nY (x106001_1 ++ [y121]:List (List Int))
      replace H:(F63.l0 kj13 a1 a2 (decide (t106 > 0)) (wrap64 (x9_1+1)) s0_0 t113 t114 a1 y124)=some (r1,r2,r3,r4):=rH Ny124.z H
      have H':=k0 H
      clear H
      go_wp2_with (first|(refine gate_callee (f:=60) rfl ?_;refine gC (some 37) Try.func60 #[.pointer (some ⟨g,0,none⟩),.int .i64 x9_1] ?_;(with_reducible refine (F60.calls g s0_0 x1001_1 x1002_1 x9_1 t109 t110 t111 w0 _ ?side1 ?side2 A22.z).mono ?_);(case side1=>exact aIsS89 HI0.z);(case side2=>exact aG (IsS89.ge HI0.z) HB.z);rintro e w38 ⟨rfl,hi,hb,hk⟩;refine ⟨_,rfl,?_⟩;replace HO_106001:=k0 (Kd.S_mono (Kd.S_keep (IsS89.apartS (show IsS89 w0 _ g s0_0 x1001_1 x1002_1 from aIsS89 HI0.z) (aS HO_106001.z) (by decide)) hk (fun _ h=>h.2)) (fun _ h=>h.1));replace BK101:=kK hk BK101 NB101_0;replace BK105:=kK hk BK105 NB105_0;replace HK:=zKc HK hk;replace HB:=k0 hb;replace HI0:=k0 hi)|(refine gate_callee (f:=60) rfl ?_;refine gC (some 39) Try.func60 #[.pointer (some ⟨g,0,none⟩),.int .i64 2] ?_;(with_reducible refine (F60.calls g s0_0 t110 t111 2 t112 t113 t114 w0 _ ?side1 ?side2 A23.z).mono ?_);(case side1=>exact aIsS89 HI0.z);(case side2=>exact aG (IsS89.ge HI0.z) HB.z);rintro e w39 ⟨rfl,hi,hb,hk⟩;refine ⟨_,rfl,?_⟩;replace HO_106001:=k0 (Kd.S_mono (Kd.S_keep (IsS89.apartS (show IsS89 w0 _ g s0_0 t110 t111 from aIsS89 HI0.z) (aS HO_106001.z) (by decide)) hk (fun _ h=>h.2)) (fun _ h=>h.1));replace BK101:=kK hk BK101 NB101_0;replace BK105:=kK hk BK105 NB105_0;replace HK:=zKc HK hk;replace HB:=k0 hb;replace HI0:=k0 hi;obtain ⟨_,_⟩:=nE NB105_101;obtain ⟨_,_⟩:=nE NB105_0;obtain ⟨_,_,_,_⟩:=cz2 BK105)|(refine gate_dst (N:=53) rfl ?_;(try (refine gate_guard (by rfl) ?_;dsimp only));refine zRt 2 (N:=53) (xs:=([t109,x9_1]:List Int)) (inner:=[.int .i64 t109,.int .i64 x9_1]) (Reps.one (show Kd.M (Kd.int .i64) _ _ _ t109 [.int .i64 t109] from rfl) (Reps.one (show Kd.M (Kd.int .i64) _ _ _ x9_1 [.int .i64 x9_1] from rfl) (Reps.none _ _))) ?_;intro v122 w43 ho44 hb hg_ hnew_;clear hg_ hnew_;(first|rw [← Ny121.z] at ho44|(simp only [Int.reduceToNat] at ho44;rw [← Ny121.z] at ho44));replace HO_106001:=elS HO_106001 (Kd.R_base ho44) hb;have HO123:=k0 (Kd.R_lower ho44 (keep_size (aK HK.z)));replace BK101:=kB BK101 hb;replace BK105:=kB BK105 hb;replace HK:=zKd HK hb;replace HB:=k0 (below_step (aG (IsS89.ge HI0.z) HB.z) hb);replace HI0:=k0 (IsS89.below (aIsS89 HI0.z) hb);clear hb ho44;obtain ⟨Ao46,co46,rfl⟩:=Kd.R_slice HO123.z)|((with_reducible refine gate_builtin (b:=.append) (xs:=#[.tmp 50,.tmp 54]) rfl ?_);(try (refine gate_guard (by rfl) ?_;dsimp only));at_builtin;refine Kd.S_append (Kd.slice 2 (Kd.int .i64)) w.heap.size rfl (.tmp 50) (.tmp 54) 24 27 (.slice none 0 0) 24 rfl Try.underlying24 info27 rfl (by decide) (by omega) u106001 x106001_1 y121 [.slice Ao46 y121.length co46] (fun _=>True) (fun k_=>some k_=(.slice Ao46 y121.length co46:Value).ownBlock) rfl rfl ?aP (fun k_ hk_=>((Kd.R_mono (ok':=fun k_=>((fun _=>True)) k_∧some k_ ≠ (u106001:Value).ownBlock) (Kd.R_apart' (HO123.z) (Kd.S_typed HO_106001.z) (by decide)) (fun k_ hk=>⟨trivial,hk.2⟩))).1 k_ hk_.symm) ?aF ?aO (Below.refl _ _) ?aS ?aL ?_;(case aP=>exact Kd.M_row (Kd.R_mono (Kd.R_tight rfl (Kd.R_mono (ok':=fun k_=>((fun _=>True)) k_∧some k_ ≠ (u106001:Value).ownBlock) (Kd.R_apart' (HO123.z) (Kd.S_typed HO_106001.z) (by decide)) (fun k_ hk=>⟨trivial,hk.2⟩))) (fun _ h_=>h_)));(case aF=>exact (fun _ _=>trivial));(case aO=>exact (aS (Kd.S_mono HO_106001.z (fun k_ hk=>⟨trivial,fun e_=>hk.2 e_⟩))));(case aS=>exact (keep_size (aK HK.z)));(case aL=>have:=LMc37.out;omega);intro v125 w45 ho hb hg hat;rw [← Ny124.z] at ho;replace BK101:=k0 (blk_grown (aB BK101.z) hg (Kd.S_ne HO_106001.z BK101.z (by decide)));replace BK105:=k0 (blk_grown (aB BK105.z) hg (Kd.S_ne HO_106001.z BK105.z (by decide)));replace HB:=k0 (below_weaken (aG (IsS89.ge HI0.z) HB.z) HL.z hb);replace HI0:=k0 (IsS89.grown (aIsS89 HI0.z) hg (IsS89.own_neS HI0.z HO_106001.z (by decide)));replace HK:=k0 (KeepBut.trans (aK HK.z) (KeepBut.of_grown hg g) (Kd.S_base2 HO_106001.z));have HO126:=k0 ho;clear HO_106001 HO123;clear ho hb hg hat;obtain ⟨Ao47,co47,rfl⟩:=Kd.S_slice HO126.z;obtain ⟨_,_,_,_⟩:=cz2 BK105))
      go_roundg kj13
      case measure=>have:=HK1.z;have:=HJ13.out;omega
      case rel=>exact ⟨(wrap64 (x9_1+1)),(t113),(t114),(y124),(.slice Ao47 y124.length co47),rs,H',⟨by have:=HK1.z;have:=HJ13.out;omega⟩,⟨aS (Kd.S_mono (gS 1 (.slice Ao47 y124.length co47) (tS HO126 BK105)) (fun _ hk=>trivial))⟩,⟨kZ⟩,⟨kZ⟩,⟨aIsS89 HI0.z⟩,⟨aK HK.z⟩,⟨aG (IsS89.ge HI0.z) HB.z⟩⟩
     obtain ⟨y115,Ny115⟩:=nY (([x9_1,t109]:List Int):List Int)
     replace H:(if x106001_1.length < 5864062014805 then (F63.l0 kj13 a1 a2 (decide (t106 > 0)) (wrap64 (x9_1+1)) s0_0 t113 t114 a1 (x106001_1 ++ [y115])) else (none))=some (r1,r2,r3,r4):=rH Ny115.z H
     replace H:=iS H;obtain ⟨c25,H⟩:=H
     have LMc25:=k0 c25
     clear c25
     obtain ⟨y118,Ny118⟩:=nY (x106001_1 ++ [y115]:List (List Int))
     replace H:(F63.l0 kj13 a1 a2 (decide (t106 > 0)) (wrap64 (x9_1+1)) s0_0 t113 t114 a1 y118)=some (r1,r2,r3,r4):=rH Ny118.z H
     have H':=k0 H
     clear H
     go_wp2_with (first|(refine gate_callee (f:=60) rfl ?_;refine gC (some 37) Try.func60 #[.pointer (some ⟨g,0,none⟩),.int .i64 x9_1] ?_;(with_reducible refine (F60.calls g s0_0 x1001_1 x1002_1 x9_1 t109 t110 t111 w0 _ ?side1 ?side2 A22.z).mono ?_);(case side1=>exact aIsS89 HI0.z);(case side2=>exact aG (IsS89.ge HI0.z) HB.z);rintro e w26 ⟨rfl,hi,hb,hk⟩;refine ⟨_,rfl,?_⟩;replace HO_106001:=k0 (Kd.S_mono (Kd.S_keep (IsS89.apartS (show IsS89 w0 _ g s0_0 x1001_1 x1002_1 from aIsS89 HI0.z) (aS HO_106001.z) (by decide)) hk (fun _ h=>h.2)) (fun _ h=>h.1));replace BK101:=kK hk BK101 NB101_0;replace BK105:=kK hk BK105 NB105_0;replace HK:=zKc HK hk;replace HB:=k0 hb;replace HI0:=k0 hi)|(refine gate_callee (f:=60) rfl ?_;refine gC (some 39) Try.func60 #[.pointer (some ⟨g,0,none⟩),.int .i64 2] ?_;(with_reducible refine (F60.calls g s0_0 t110 t111 2 t112 t113 t114 w0 _ ?side1 ?side2 A23.z).mono ?_);(case side1=>exact aIsS89 HI0.z);(case side2=>exact aG (IsS89.ge HI0.z) HB.z);rintro e w27 ⟨rfl,hi,hb,hk⟩;refine ⟨_,rfl,?_⟩;replace HO_106001:=k0 (Kd.S_mono (Kd.S_keep (IsS89.apartS (show IsS89 w0 _ g s0_0 t110 t111 from aIsS89 HI0.z) (aS HO_106001.z) (by decide)) hk (fun _ h=>h.2)) (fun _ h=>h.1));replace BK101:=kK hk BK101 NB101_0;replace BK105:=kK hk BK105 NB105_0;replace HK:=zKc HK hk;replace HB:=k0 hb;replace HI0:=k0 hi;obtain ⟨_,_⟩:=nE NB105_101;obtain ⟨_,_⟩:=nE NB105_0;obtain ⟨_,_,_,_⟩:=cz2 BK105)|(refine gate_dst (N:=45) rfl ?_;(try (refine gate_guard (by rfl) ?_;dsimp only));refine zRt 2 (N:=45) (xs:=([x9_1,t109]:List Int)) (inner:=[.int .i64 x9_1,.int .i64 t109]) (Reps.one (show Kd.M (Kd.int .i64) _ _ _ x9_1 [.int .i64 x9_1] from rfl) (Reps.one (show Kd.M (Kd.int .i64) _ _ _ t109 [.int .i64 t109] from rfl) (Reps.none _ _))) ?_;intro v116 w31 ho32 hb hg_ hnew_;clear hg_ hnew_;(first|rw [← Ny115.z] at ho32|(simp only [Int.reduceToNat] at ho32;rw [← Ny115.z] at ho32));replace HO_106001:=elS HO_106001 (Kd.R_base ho32) hb;have HO117:=k0 (Kd.R_lower ho32 (keep_size (aK HK.z)));replace BK101:=kB BK101 hb;replace BK105:=kB BK105 hb;replace HK:=zKd HK hb;replace HB:=k0 (below_step (aG (IsS89.ge HI0.z) HB.z) hb);replace HI0:=k0 (IsS89.below (aIsS89 HI0.z) hb);clear hb ho32;obtain ⟨Ao34,co34,rfl⟩:=Kd.R_slice HO117.z)|((with_reducible refine gate_builtin (b:=.append) (xs:=#[.tmp 42,.tmp 46]) rfl ?_);(try (refine gate_guard (by rfl) ?_;dsimp only));at_builtin;refine Kd.S_append (Kd.slice 2 (Kd.int .i64)) w.heap.size rfl (.tmp 42) (.tmp 46) 24 27 (.slice none 0 0) 24 rfl Try.underlying24 info27 rfl (by decide) (by omega) u106001 x106001_1 y115 [.slice Ao34 y115.length co34] (fun _=>True) (fun k_=>some k_=(.slice Ao34 y115.length co34:Value).ownBlock) rfl rfl ?aP (fun k_ hk_=>((Kd.R_mono (ok':=fun k_=>((fun _=>True)) k_∧some k_ ≠ (u106001:Value).ownBlock) (Kd.R_apart' (HO117.z) (Kd.S_typed HO_106001.z) (by decide)) (fun k_ hk=>⟨trivial,hk.2⟩))).1 k_ hk_.symm) ?aF ?aO (Below.refl _ _) ?aS ?aL ?_;(case aP=>exact Kd.M_row (Kd.R_mono (Kd.R_tight rfl (Kd.R_mono (ok':=fun k_=>((fun _=>True)) k_∧some k_ ≠ (u106001:Value).ownBlock) (Kd.R_apart' (HO117.z) (Kd.S_typed HO_106001.z) (by decide)) (fun k_ hk=>⟨trivial,hk.2⟩))) (fun _ h_=>h_)));(case aF=>exact (fun _ _=>trivial));(case aO=>exact (aS (Kd.S_mono HO_106001.z (fun k_ hk=>⟨trivial,fun e_=>hk.2 e_⟩))));(case aS=>exact (keep_size (aK HK.z)));(case aL=>have:=LMc25.out;omega);intro v119 w33 ho hb hg hat;rw [← Ny118.z] at ho;replace BK101:=k0 (blk_grown (aB BK101.z) hg (Kd.S_ne HO_106001.z BK101.z (by decide)));replace BK105:=k0 (blk_grown (aB BK105.z) hg (Kd.S_ne HO_106001.z BK105.z (by decide)));replace HB:=k0 (below_weaken (aG (IsS89.ge HI0.z) HB.z) HL.z hb);replace HI0:=k0 (IsS89.grown (aIsS89 HI0.z) hg (IsS89.own_neS HI0.z HO_106001.z (by decide)));replace HK:=k0 (KeepBut.trans (aK HK.z) (KeepBut.of_grown hg g) (Kd.S_base2 HO_106001.z));have HO120:=k0 ho;clear HO_106001 HO117;clear ho hb hg hat;obtain ⟨Ao35,co35,rfl⟩:=Kd.S_slice HO120.z;obtain ⟨_,_,_,_⟩:=cz2 BK105))
     go_roundg kj13
     case measure=>have:=HK1.z;have:=HJ13.out;omega
     case rel=>exact ⟨(wrap64 (x9_1+1)),(t113),(t114),(y118),(.slice Ao35 y118.length co35),rs,H',⟨by have:=HK1.z;have:=HJ13.out;omega⟩,⟨aS (Kd.S_mono (gS 1 (.slice Ao35 y118.length co35) (tS HO120 BK105)) (fun _ hk=>trivial))⟩,⟨kZ⟩,⟨kZ⟩,⟨aIsS89 HI0.z⟩,⟨aK HK.z⟩,⟨aG (IsS89.ge HI0.z) HB.z⟩⟩
/-! ### F94: function 94 -/
def F94.f (l0:List Int):Option (List Int):=(some (([]:List Int):List Int)).bind fun y101=>(if y101.length+l0.length < 17592186044416 then (some (y101 ++ l0)) else (none))
theorem F94.calls (A0 : Option Addr) (c0 : Nat) (l0 : List Int) (r : List Int) (w : World) (hr0 : Kd.C (Kd.int .i64) w A0 l0.length l0) (hc0 : l0.length ≤ c0) (h : F94.f l0 = some r) :
  Calls Try.prog 94 #[.slice A0 l0.length c0] w fun e w'=>∃ v0_:Value,e=.returned (v0_)∧Kd.R (Kd.int .i64) 2 w' w.heap.size (fun _=>True) v0_ r∧Below w.heap.size w w':=by
 have HR0:=k0 hr0
 have HC0:=k0 hc0
 clear hr0 hc0
 have HB:=k0 (Below.refl w.heap.size w)
 unfold F94.f at h
 have H:=h
 clear h
 obtain ⟨y101,Ny101⟩:=nY (([]:List Int):List Int)
 replace H:(if y101.length+l0.length < 17592186044416 then (some (y101 ++ l0)) else (none))=some r:=rH Ny101.z H
 replace H:=iS H;obtain ⟨c2,H⟩:=H
 have LMc2:=k0 c2
 clear c2
 obtain ⟨y104,Ny104⟩:=nY (y101 ++ l0:List Int)
 replace H:(some y104)=some r:=rH Ny104.z H
 obtain rfl:=Option.some.inj H
 go_enter Try.func94,Try.ntmps94
 go_wp2_with (first|(refine gate_dst (N:=3) rfl ?_;refine zRt 2 (N:=3) (xs:=([]:List Int)) (inner:=[]) (Reps.none _ _) ?_;intro v102 w3 ho4 hb hg_ hnew_;clear hg_ hnew_;(first|rw [← Ny101.z] at ho4|(simp only [Int.reduceToNat] at ho4;rw [← Ny101.z] at ho4));have HO103:=k0 (Kd.R_lower ho4 (below_size bl));replace HB:=bW hb;clear hb ho4)|((with_reducible refine gate_builtin (b:=.append) (xs:=#[.tmp 3,.tmp 4]) rfl ?_);at_builtin;refine Kd.R_append_rows (Kd.int .i64) (w0:=w) w.heap.size rfl (.tmp 3) (.tmp 4) 27 2 (.int .i64 0) 8 rfl Try.underlying27 info2 rfl (by decide) (by omega) v102 y101 l0 _ _ _ (fun _=>True) (fun _=>False) rfl rfl ?aO ?aR (fun _ _ h=>h) (fun _ h=>h.elim) ?aF ?aB ?aS ?aL ?_;(case aR=>repeat (first|exact (Kd.C_below HR0.z HB.z)|(with_reducible refine Kd.C_alloc ?_ _)|(with_reducible refine Kd.C_drewN ?_ _)|(with_reducible refine Kd.C_drew ?_)));(case aB=>exact bl);(case aF=>exact (fun _ _=>trivial));(case aO=>exact (aR HO103.z));(case aS=>exact (below_size bl));(case aL=>have:=LMc2.out;omega);intro v105 w5 ho hb hg hat;rw [← Ny104.z] at ho;replace HB:=k0 hb;have HO106:=k0 ho;clear HO103;clear ho hb hg hat))
 go_ret
 exact ⟨_,eR,aR HO106.z,bl⟩
/-! ### F90: function 90 -/
def F90.l0 : Nat → List Int → Int → Option (List Int)
 | 0,_,_=>none
 | k+1,x0,x3=>if x3 > 0 then (if 0≤(wrap64 (x3 - 1)) then (if (wrap64 (x3 - 1)) < (x0.length:Int) then (if (rd x0 (wrap64 (x3 - 1)))=0 then (F90.l0 k x0 (wrap64 (x3 - 1))) else (if 0≤x3 then (if x3≤(x0.length:Int) then ((F94.f (x0.take (x3:Int).toNat)).bind fun t103=>(some t103)) else (none)) else (none))) else (none)) else (none)) else (if 0≤x3 then (if x3≤(x0.length:Int) then ((F94.f (x0.take (x3:Int).toNat)).bind fun t107=>(some t107)) else (none)) else (none))
def F90.f (k:Nat) (l0:List Int):Option (List Int):=F90.l0 k l0 (l0.length:Int)
theorem F90.calls (k : Nat) (A0 : Option Addr) (c0 : Nat) (l0 : List Int) (r : List Int) (w : World) (hr0 : Kd.C (Kd.int .i64) w A0 l0.length l0) (hc0 : l0.length ≤ c0) (h : F90.f k l0 = some r) :
  Calls Try.prog 90 #[.slice A0 l0.length c0] w fun e w'=>∃ v0_:Value,e=.returned (v0_)∧Kd.R (Kd.int .i64) 2 w' w.heap.size (fun _=>True) v0_ r∧Below w.heap.size w w':=by
 have HR0:=k0 hr0
 have HC0:=k0 hc0
 clear hr0 hc0
 have HB:=k0 (Below.refl w.heap.size w)
 unfold F90.f at h
 have H:=h
 clear h
 have H':=k0 H
 clear H
 go_enter Try.func90,Try.ntmps90
 go_wp2
 go_loopg [3] k (fun kq v3 w'=>∃ (x3_1:Int),v3=.int .i64 x3_1∧Aside0 (F90.l0 kq l0 x3_1=some r)∧Aside0 (kq≤k)∧Aside0 (Below w.heap.size w w'))
 case atStart=>exact ⟨((l0.length:Int)),rs,H',⟨Nat.le_refl _⟩,⟨bl⟩⟩
 case round =>
  clear H'
  obtain ⟨x3_1,rfl,HA,HK1,HB⟩:=hrel
  cases gk with
  | zero=>exact absurd HA.z (by simp [F90.l0])
  | succ k1 =>
   have H:=HA.z
   clear HA
   simp only [F90.l0] at H
   replace H:=iC H;obtain ⟨c2b0,H⟩|⟨c2b0,H⟩:=H
   case inl =>
    replace H:=iS H;obtain ⟨c12,H⟩:=H
    have c12b0:=eq_true c12
    have c12b1:=decide_eq_true c12
    clear c12
    replace H:=iS H;obtain ⟨c13,H⟩:=H
    have c13b0:=eq_true c13
    have c13b1:=decide_eq_true c13
    clear c13
    replace H:=bS H;obtain ⟨t107,A14,H⟩:=H
    obtain rfl:=Option.some.inj H
    obtain ⟨i015,hi015,_,hsz15,_⟩:=info_parts info2
    obtain ⟨hcut15,hA15,hC15⟩:=print_take_of (P:=Try.prog) (Value.int .i64) 0 27 2 .i64 Try.underlying27 hi015 hsz15 A0 c0 l0 x3_1 oD oD HC0.z
    have HR106:=k0 (Kd.C_of_reads (h1:=fun _=>rfl) (hA15 _ (Kd.reads_of_C HR0.z)))
    have HC106:=k0 hC15
    clear hA15 hC15 hi015 hsz15
    go_wp2_with (first|(refine gate_callee (f:=94) rfl ?_;refine goesL_ (some 21) rfl rfl Try.func94 (by kernel_rfl) rfl #[.slice A0 (l0.take (x3_1:Int).toNat).length c0] rfl (by (try simp only [List.map_toArray,List.map_cons,List.map_nil]);first|done|(rw [show (l0.take (x3_1:Int).toNat).length=x3_1.toNat from (by rw [List.length_take];have h_:(x3_1:Int)≤(l0.length:Int):=oD;omega)]<;>rfl)|rfl|(simp only [List.length_drop,List.length_take];rfl)) ?_;(with_reducible refine (F94.calls _ _ (l0.take (x3_1:Int).toNat) t107 _ ?side1 ?side2 A14.z).mono ?_);(case side1=>exact aC (Kd.C_below HR106.z HB.z));(case side2=>exact HC106.z);rintro e w16 ⟨v108,rfl,ho0,hb⟩;refine ⟨_,rfl,?_⟩;have HO109:=k0 (Kd.R_lower ho0 (below_size bl));replace HB:=bW hb))
    go_ret
    exact ⟨_,eR,aR HO109.z,bl⟩
   obtain ⟨ji3,hji3⟩:∃ j_:Int,(wrap64 (x3_1 - 1))=j_:=⟨_,rfl⟩
   replace H:(if 0≤(ji3) then (if (ji3) < (l0.length:Int) then (if (rd l0 (ji3))=0 then (F90.l0 k1 l0 ji3) else (if 0≤x3_1 then (if x3_1≤(l0.length:Int) then ((F94.f (l0.take (x3_1:Int).toNat)).bind fun t103=>(some t103)) else (none)) else (none))) else (none)) else (none))=some r:=by first|(rw [hji3] at H;exact H)|(simp only [hji3] at H ⊢;exact H)
   have hji3w:(IntKind.i64.wrap (x3_1 - 1))=ji3:=(i64_w _).trans hji3
   replace H:=iS H;obtain ⟨c4,H⟩:=H
   have c4b0:=decide_eq_true c4
   clear c4
   replace H:=iS H;obtain ⟨c5,H⟩:=H
   have c5b0:=decide_eq_true c5
   clear c5
   replace H:=iE H;obtain ⟨c6,c6b0,c6b1,H⟩|⟨c6b0,c6b1,H⟩:=H
   case inl =>
    replace H:=iS H;obtain ⟨c7,H⟩:=H
    have c7b0:=eq_true c7
    have c7b1:=decide_eq_true c7
    clear c7
    replace H:=iS H;obtain ⟨c8,H⟩:=H
    have c8b0:=eq_true c8
    have c8b1:=decide_eq_true c8
    clear c8
    replace H:=bS H;obtain ⟨t103,A9,H⟩:=H
    obtain rfl:=Option.some.inj H
    have p101:0≤((ji3):Int):=oD
    have q101:(ji3) < (l0.length:Int):=oD
    obtain ⟨ad101,e101,hx101_0⟩:=Kd.at_int HR0.z (ji3) p101 q101
    cases e101
    replace hx101_0:=hbc HB hx101_0
    replace p101:=eT p101
    replace q101:=eT q101
    obtain ⟨i010,hi010,_,hsz10,_⟩:=info_parts info2
    obtain ⟨hcut10,hA10,hC10⟩:=print_take_of (P:=Try.prog) (Value.int .i64) 0 27 2 .i64 Try.underlying27 hi010 hsz10 (some ad101) c0 l0 x3_1 oD oD HC0.z
    have HR102:=k0 (Kd.C_of_reads (h1:=fun _=>rfl) (hA10 _ (Kd.reads_of_C HR0.z)))
    have HC102:=k0 hC10
    clear hA10 hC10 hi010 hsz10
    go_wp2_with (first|(refine gate_callee (f:=94) rfl ?_;refine goesL_ (some 21) rfl rfl Try.func94 (by kernel_rfl) rfl #[.slice (some ad101) (l0.take (x3_1:Int).toNat).length c0] rfl (by (try simp only [List.map_toArray,List.map_cons,List.map_nil]);first|done|(rw [show (l0.take (x3_1:Int).toNat).length=x3_1.toNat from (by rw [List.length_take];have h_:(x3_1:Int)≤(l0.length:Int):=oD;omega)]<;>rfl)|rfl|(simp only [List.length_drop,List.length_take];rfl)) ?_;(with_reducible refine (F94.calls _ _ (l0.take (x3_1:Int).toNat) t103 _ ?side1 ?side2 A9.z).mono ?_);(case side1=>exact aC (Kd.C_below HR102.z HB.z));(case side2=>exact HC102.z);rintro e w11 ⟨v104,rfl,ho0,hb⟩;refine ⟨_,rfl,?_⟩;have HO105:=k0 (Kd.R_lower ho0 (below_size bl));replace HB:=bW hb))
    go_ret
    exact ⟨_,by first|rfl|(simp [errW_none,errW_some]<;>rfl)|(simp only [← hji3];first|rfl|(simp [errW_none,errW_some]<;>rfl))|(simp [*,errW_none,errW_some]<;>rfl),aR HO105.z,bl⟩
   have H':=k0 H
   clear H
   have p101:0≤((ji3):Int):=oD
   have q101:(ji3) < (l0.length:Int):=oD
   obtain ⟨ad101,e101,hx101_0⟩:=Kd.at_int HR0.z (ji3) p101 q101
   cases e101
   replace hx101_0:=hbc HB hx101_0
   replace p101:=eT p101
   replace q101:=eT q101
   go_wp2
   first|go_roundg k1|(simp only [← hji3];go_roundg k1)
   case measure=>have:=HK1.z;omega
   case rel=>exact ⟨(ji3),(by first|rfl|(simp;done)|(simp only [← hji3]<;>(first|rfl|simp))|(simp [*];done)),(by first|exact H'|(rw [hji3];exact H')),⟨by have:=HK1.z;omega⟩,⟨bl⟩⟩
end Go.Proofs.Ytgjdbnipcpmhiaa.P
/- Set with little white space, by a program. -/
