/- Go's calls come to what the Lean functions say. Condition of each: that the Lean function answers. -/
import Derived.Test.YtgjdbnipcpmhiaaPx0
import Derived.Test.YtgjdbnipcpmhiaaPx11
namespace Go.Proofs.Ytgjdbnipcpmhiaa.P
open Go.RowKit Go.Proofs.YtgjdbnipcpmhiaaW.PrintWords Go.Proofs.YtgjdbnipcpmhiaaW.PrintLast Go.Proofs.YtgjdbnipcpmhiaaW.PrintMore
attribute [local go_sem] max2_int min2_int max_two min_two max_three min_three max_four min_four
set_option linter.unusedVariables false
set_option linter.unusedSimpArgs false
set_option maxHeartbeats 8000000
set_option maxRecDepth 100000
/-! ### F120: function 120 -/
mutual
def F120.j0 : Nat → List ByteArray → Int → List (List Int) → Option (Int × (List (List Int)) × Bool)
 | 0,_,_,_=>none
 | k+1,x6,x111000,x111001=>F120.l0 k x6 0 x111000 x111001
def F120.l0 : Nat → List ByteArray → Int → Int → List (List Int) → Option (Int × (List (List Int)) × Bool)
 | 0,_,_,_,_=>none
 | k+1,x6,x7,x111000,x111001=>if x7 < (x6.length:Int) then (if 0≤x7 then ((F122.f k (rdOf ByteArray.empty x6 x7) 45).bind fun t121=>(if (t121.length:Int)=2 then (if 0 < (t121.length:Int) then ((F123.f k (rdOf ByteArray.empty t121 0)).bind fun t125=>(if 1 < (t121.length:Int) then ((F123.f k (rdOf ByteArray.empty t121 1)).bind fun t127=>(if x111001.length < 5864062014805 then (F120.l0 k x6 (wrap64 (x7+1)) x111000 (x111001 ++ [(([t125,t127]:List Int))])) else (none))) else (none))) else (none)) else (some (0,([]:List (List Int)),false)))) else (none)) else ((F44.f k x111000 x111001).bind fun t119=>(if t119=true then (some (x111000,x111001,true)) else (some (0,([]:List (List Int)),false))))
end
def F120.f (k:Nat) (a0:ByteArray):Option (Int × (List (List Int)) × Bool):=(F122.f k a0 58).bind fun t102=>(if (t102.length:Int)=2 then (if 0 < (t102.length:Int) then ((F123.f k (rdOf ByteArray.empty t102 0)).bind fun t106=>((some (([]:List (List Int)):List (List Int))).bind fun y107=>(if 1 < (t102.length:Int) then ((F122.f k (rdOf ByteArray.empty t102 1) 44).bind fun t112=>(if (rdOf ByteArray.empty t102 1).toList=([]:List UInt8) then (F120.j0 k (([]:List ByteArray)) t106 y107) else (F120.j0 k t112 t106 y107))) else (none)))) else (none)) else (some (0,([]:List (List Int)),false)))
def F120.T14:Bool × List (List Nat × List Nat):=(true,[([],[]),([0],[0]),([],[]),([2],[2]),([3],[3]),([4],[4]),([],[]),([6],[6]),([7],[7]),([8,5],[8]),([5,9],[5,9]),([10],[10]),([1,11,9],[1,11]),([0,1,2,3,4,5,6,7,8,9,10,11,12],[]),([13,12,12,0,1,2,3,4,5,6,7,8,9,10,11,12],[12,13])])
def F120.B14:List Nat:=[0,1,0,4,12,28,0,64,192,508,1020,2044,4095,8191,16383]
theorem F120.tab14:rtab .any (opsOf Try.f120 14)=F120.T14:=by kernel_rfl
theorem F120.bits14:waitsOk F120.T14.2 F120.B14=true:=by kernel_rfl
theorem F120.calls (k : Nat) (a0 : ByteArray) (r1 : Int) (r2 : List (List Int)) (r3 : Bool) (w : World) (h : F120.f k a0 = some (r1, r2, r3)) :
  Calls Try.prog 120 #[.string a0] w fun e w'=>∃ v1_:Value,e=.returned (.tuple #[.agg #[.int .i64 r1,v1_],.bool r3])∧Kd.S (Kd.slice 2 (Kd.int .i64)) 27 w' w.heap.size (fun _=>True) v1_ r2∧Below w.heap.size w w':=by
 have hu26:=Try.underlying26
 have HB:=k0 (Below.refl w.heap.size w)
 unfold F120.f at h
 have H:=h
 clear h
 replace H:=bS H;obtain ⟨t102,A2,H⟩:=H
 replace H:=iE H;obtain ⟨c3,c3b0,c3b1,H⟩|⟨c3b0,c3b1,H⟩:=H
 case inl =>
  simp only [Option.some.injEq,Prod.mk.injEq] at H
  obtain ⟨rfl,rfl,rfl⟩:=H
  go_enter Try.func120,Try.ntmps120
  go_wp2_with (first|(refine gate_dst (N:=2) rfl ?_;refine bxz 2 #[.int .i64 0,.slice none 0 0] 26 bl ?_;intro gb101 w61 BK101 GW101 HB;have GE101:=GW101)|(refine gate_callee (f:=122) rfl ?_;refine gC (some 10) Try.func122 #[.string a0,.int .u8 58] ?_;(with_reducible refine (F122.calls k a0 58 t102 _ A2.z).mono ?_);rintro e w62 ⟨v103,rfl,ho0,hb⟩;refine ⟨_,rfl,?_⟩;have HO104:=k0 (Kd.R_lower ho0 (below_size bl));replace BK101:=kB BK101 hb;replace HB:=bW hb;obtain ⟨Ao63,co63,rfl⟩:=Kd.R_slice HO104.z;obtain ⟨_,_,_,_⟩:=cz2 BK101))
  refine bodyPost_ret (results_ct rfl _ _ gb101 26 #[.int .i64 0,.slice none 0 0] (0,0) _ rfl kZ Try.underlying26 rfl (by kernel_rfl)) rfl ?_
  exact ⟨_,eR,by first|exact Kd.S_nil _ _ _ _ _|exact Kd.N_nil _ _ _ _ _|exact Kd.V_nil _ _ _ _ _|exact Kd.Q_nil _ _ _ _ _|exact Kd.R_nil _ _ _ _ _,bl⟩
 replace H:=iS H;obtain ⟨c4,H⟩:=H
 have c4b0:=decide_eq_true c4
 have c4b1:decide (0 < t102.length)=true:=decide_eq_true (by omega)
 clear c4
 replace H:=bS H;obtain ⟨t106,A5,H⟩:=H
 obtain ⟨y107,Ny107⟩:=nY (([]:List (List Int)):List (List Int))
 replace H:(if 1 < (t102.length:Int) then ((F122.f k (rdOf ByteArray.empty t102 1) 44).bind fun t112=>(if (rdOf ByteArray.empty t102 1).toList=([]:List UInt8) then (F120.j0 k (([]:List ByteArray)) t106 y107) else (F120.j0 k t112 t106 y107))) else (none))=some (r1,r2,r3):=rH Ny107.z H
 replace H:=iS H;obtain ⟨c6,H⟩:=H
 have c6b0:=decide_eq_true c6
 have c6b1:decide (1 < t102.length)=true:=decide_eq_true (by omega)
 clear c6
 replace H:=bS H;obtain ⟨t112,A7,H⟩:=H
 have HC8:=k0 H
 clear H
 go_enter Try.func120,Try.ntmps120
 go_upto_if 28 with (first|(refine gate_dst (N:=2) rfl ?_;refine bxz 2 #[.int .i64 0,.slice none 0 0] 26 bl ?_;intro gb101 w9 BK101 GW101 HB;have GE101:=GW101)|(refine gate_callee (f:=122) rfl ?_;refine gC (some 10) Try.func122 #[.string a0,.int .u8 58] ?_;(with_reducible refine (F122.calls k a0 58 t102 _ A2.z).mono ?_);rintro e w10 ⟨v103,rfl,ho0,hb⟩;refine ⟨_,rfl,?_⟩;have HO104:=k0 (Kd.R_lower ho0 (below_size bl));replace BK101:=kB BK101 hb;replace HB:=bW hb;obtain ⟨Ao11,co11,rfl⟩:=Kd.R_slice HO104.z;have p105:0≤(0:Int):=(by omega);have q105:0 < (t102.length:Int):=oD;obtain ⟨ad105,e105,hx105_0⟩:=Kd.at_string (Kd.R_reads' HO104.z).2.2 0 p105 q105;cases e105;have qi105:(0 < t102.length)=True:=eq_true (by omega);(try rw [show ((0:Int)).toNat=0 from rfl] at hx105_0);(try rw [Addr.add_zero'] at hx105_0);replace p105:=eT p105;replace q105:=eT q105)|(refine gate_callee (f:=123) rfl ?_;refine gC (some 18) Try.func123 #[.string (rdOf ByteArray.empty t102 0)] ?_;(with_reducible refine (F123.calls k (rdOf ByteArray.empty t102 0) t106 _ A5.z).mono ?_);rintro e w' ⟨rfl,⟨nd,rfl⟩⟩;refine ⟨_,rfl,?_⟩;(try (rw [drewN_self w10];generalize hq_:World.drewN w10 _=w10;have n0_:Aside0 (Kd.R Kd.string 9 w10 w.heap.size (fun _=>True) (.slice (some ad105) t102.length co11) t102):=⟨by rw [← hq_];exact (aR HO104.z)⟩;have n1_:Aside0 (w10.heap[gb101]?=some (.cells #[.int .i64 0,.slice none 0 0] 26 (0,0))):=⟨by rw [← hq_];exact bk⟩;have n2_:Aside0 (Below w.heap.size w w10):=⟨by rw [← hq_];exact bl⟩;clear HO104 BK101 HB hq_;have HO104:=n0_;have BK101:=n1_;have HB:=n2_;clear n0_ n1_ n2_)))|(refine gate_dst (N:=19) rfl ?_;refine Kd.S_lit (Kd.slice 2 (Kd.int .i64)) _ 27 ?hg (N:=19) ?hd (xs:=([]:List (List Int))) (inner:=[]) (ok:=fun _=>True) (okp:=fun _=>True) ?hr ?hp (fun _ hk=>hk) trivial (Below.refl _ _) (Nat.le_refl _) (by simp) ?_;(case hd=>rfl);(case hg=>rfl);(case hr=>first|(go_simp;done)|(go_simp;rfl));(case hp=>exact (Reps.none _ _));intro v108 w12 ho13 hb hg_ hnew_;clear hg_ hnew_;(first|rw [← Ny107.z] at ho13|(simp only [Int.reduceToNat] at ho13;rw [← Ny107.z] at ho13));replace HO104:=bwR HO104 hb;have HO109:=k0 (Kd.S_lower ho13 (below_size bl));replace BK101:=kB BK101 hb;replace HB:=bW hb;clear hb ho13;obtain ⟨Ao14,co14,rfl⟩:=Kd.S_slice HO109.z)|(refine gate_dst (N:=5) rfl ?_;refine bxe 5 #[.int .i64 0,.slice none 0 0] 26 ?_;intro gb110 hg w15 hbox hb;replace HO104:=bwR HO104 hb;replace HO109:=bwS HO109 hb;have BK110:=k0 hbox;have GW110:=gW hg (below_size bl);have GE110:=GW110;replace HB:=bW hb;have NB101_110:=nL hg BK101;have NB110_101:=nG NB101_110;replace BK101:=kB BK101 hb;clear hb hbox hg;obtain ⟨_,_⟩:=nE NB110_101;obtain ⟨_,_,_,_⟩:=cz2 BK110;have p111:0≤(1:Int):=(by omega);have q111:1 < (t102.length:Int):=oD;obtain ⟨ad111,e111,hx111_0⟩:=Kd.at_string (Kd.R_reads' HO104.z).2.2 1 p111 q111;obtain rfl:ad105=ad111:=(by injection e111);(try simp only [show (1:Int).toNat=1 from rfl,Nat.reduceMul,Nat.reduceEqDiff,Go.Addr.add,↓reduceIte] at hx111_0);have qi111:(1 < t102.length)=True:=eq_true (by omega);(try rw [show ((1:Int)).toNat=1 from rfl] at hx111_0);have hn111_0:ad105.block ≠ gb110:=Kd.own_blk (Kd.R_ne HO104.z BK110.z (by decide));have hn111_1:ad105.block ≠ gb110:=Kd.own_blk (Kd.R_ne HO104.z BK110.z (by decide));replace hx111_0:=(cell_far (p:=⟨gb110,0,none⟩) (by first|(rw [add_block];exact hn111_0)|(show (Addr.add _ _).block ≠ _;rw [add_block];exact hn111_0)|exact hn111_0) (.int .i64 t106)).trans hx111_0;replace hx111_0:=(cell_far (p:=⟨gb110,1,none⟩) (by first|(rw [add_block];exact hn111_1)|(show (Addr.add _ _).block ≠ _;rw [add_block];exact hn111_1)|exact hn111_1) (.slice Ao14 y107.length co14)).trans hx111_0;clear hn111_0;clear hn111_1;replace p111:=eT p111;replace q111:=eT q111)|(refine gate_callee (f:=122) rfl ?_;refine gC (some 24) Try.func122 #[.string (rdOf ByteArray.empty t102 1),.int .u8 44] ?_;(with_reducible refine (F122.calls k (rdOf ByteArray.empty t102 1) 44 t112 _ A7.z).mono ?_);rintro e w18 ⟨v113,rfl,ho0,hb⟩;refine ⟨_,rfl,?_⟩;replace HO109:=k0 (Kd.S_below (tfS HO109 BK110) hb);have HO114:=k0 (Kd.R_lower (Kd.R_new' ho0 (Kd.R_lt (tfR HO104 BK110))) (below_size bl));replace HO104:=k0 (Kd.R_elder' (tfR HO104 BK110) (Kd.R_base ho0) hb);replace BK101:=kF BK101 hb;replace BK110:=kP (sO t106 Ao14 y107 co14 26) BK110 hb;replace HB:=bW hb;have p115:0≤(1:Int):=(by omega);have q115:1 < (t102.length:Int):=oD;obtain ⟨ad115,e115,hx115_0⟩:=Kd.at_string (Kd.R_reads' HO104.z).2.2 1 p115 q115;obtain rfl:ad105=ad115:=(by injection e115);(try simp only [show (1:Int).toNat=1 from rfl,Nat.reduceMul,Nat.reduceEqDiff,Go.Addr.add,↓reduceIte] at hx115_0);have qi115:(1 < t102.length)=True:=eq_true (by omega);(try rw [show ((1:Int)).toNat=1 from rfl] at hx115_0);replace p115:=eT p115;replace q115:=eT q115))
 (try simp only [Act.put,zI,zZ,zS])
 go_cut [6] (fun v6 wc=>∃ (kq:Nat) (x6_7:List ByteArray),Aside0 (F120.j0 kq x6_7 t106 y107=some (r1,r2,r3))∧Aside0 (kq≤k)∧Aside0 (Kd.R Kd.string 9 wc w.heap.size (fun _=>True) v6 x6_7)∧Aside0 (Kd.S (Kd.slice 2 (Kd.int .i64)) 27 wc w.heap.size (fun _=>True) (.slice Ao14 y107.length co14) y107)∧Aside0 (wc.heap[gb101]?=some (.cells #[.int .i64 0,(.slice none 0 0)] 26 (0,0)))∧Aside0 (wc.heap[gb110]?=some (sO t106 Ao14 y107 co14 26))∧Aside0 (Below w.heap.size w wc))
 case first =>
  have H:=HC8.z
  clear HC8
  by_cases c19:(rdOf ByteArray.empty t102 1).toList=([]:List UInt8)
  case neg =>
   rw [if_neg c19] at H
   have c19b0:=beq_eq_false_iff_ne.mpr c19
   have c19b9:List.isEmpty ((rdOf ByteArray.empty t102 1).toList)=false:=by cases h_:((rdOf ByteArray.empty t102 1).toList) with|nil=>exact absurd h_ c19|cons _ _=>rfl
   have c19b1:=bne_iff_ne.mpr c19
   (first|rw [c19b0]|(simp only [i64_w,i32_w];rw [c19b0])|rw [c19b9]|skip)
   have H':=k0 H
   clear H
   go_wp2
   go_meet
   case rel=>exact ⟨_,(t112),H',⟨oL⟩,⟨aR (Kd.R_mono HO114.z (fun _ hk=>trivial))⟩,⟨aS (HO109.z)⟩,⟨bk⟩,⟨bk⟩,⟨bl⟩⟩
  rw [if_pos c19] at H
  have c19b0:=beq_iff_eq.mpr c19
  have c19b9:List.isEmpty ((rdOf ByteArray.empty t102 1).toList)=true:=by rw [c19];rfl
  have c19b1:=bne_eq_false_iff_eq.mpr c19
  clear c19
  (first|rw [c19b0]|(simp only [i64_w,i32_w];rw [c19b0])|rw [c19b9]|skip)
  obtain ⟨y116,Ny116⟩:=nY (([]:List ByteArray):List ByteArray)
  replace H:(F120.j0 k y116 t106 y107)=some (r1,r2,r3):=rH Ny116.z H
  have H':=k0 H
  clear H
  go_wp2_with (first|(refine gate_dst (N:=29) rfl ?_;refine Kd.R_lit Kd.string _ 9 ?hg (N:=29) ?hd (xs:=([]:List ByteArray)) (inner:=[]) (ok:=fun _=>True) (okp:=fun _=>True) ?hr ?hp (fun _ hk=>hk) trivial (Below.refl _ _) (Nat.le_refl _) (by simp) ?_;(case hd=>rfl);(case hg=>rfl);(case hr=>first|(go_simp;done)|(go_simp;rfl));(case hp=>exact (Reps.none _ _));intro v117 w20 ho21 hb hg_ hnew_;clear hg_ hnew_;(first|rw [← Ny116.z] at ho21|(simp only [Int.reduceToNat] at ho21;rw [← Ny116.z] at ho21));replace HO109:=bwS HO109 hb;have HO118:=k0 (Kd.R_lower (Kd.R_new' (Kd.R_new' ho21 (Kd.R_lt (aR HO104.z))) (Kd.R_lt (aR HO114.z))) (below_size bl));replace HO104:=elR HO104 (Kd.R_base ho21) hb;replace HO114:=elR HO114 (Kd.R_base ho21) hb;replace BK101:=kB BK101 hb;replace BK110:=kB BK110 hb;replace HB:=bW hb;clear hb ho21))
  go_meet
  case rel=>exact ⟨_,(y116),H',⟨oL⟩,⟨aR (Kd.R_mono HO118.z (fun _ hk=>trivial))⟩,⟨aS (HO109.z)⟩,⟨bk⟩,⟨bk⟩,⟨bl⟩⟩
 case rest =>
  clear HC8
  obtain ⟨kq,x6_7,HA,HJ7,HO_6,HO_111001,BK101,BK110,HB⟩:=hcut
  cases kq with
  | zero=>exact absurd HA.z (by simp [F120.j0])
  | succ kj7 =>
   have H:=HA.z
   clear HA
   simp only [F120.j0] at H
   have H':=k0 H
   clear H
   go_wp2
   go_loopg [7] kj7 (fun kq v7 w'=>∃ (x7_2:Int) (x102000_2:Int) (x111001_2:List (List Int)) (u111001:Value),v7=.int .i64 x7_2∧Aside0 (F120.l0 kq x6_7 x7_2 t106 x111001_2=some (r1,r2,r3))∧Aside0 (kq≤kj7)∧Aside0 (Kd.R Kd.string 9 w' w.heap.size (fun _=>True) u6 x6_7)∧Aside0 (Kd.S (Kd.slice 2 (Kd.int .i64)) 27 w' w.heap.size (fun _=>True) u111001 x111001_2)∧Aside0 (w'.heap[gb101]?=some (.cells #[.int .i64 x102000_2,(.slice none 0 0)] 26 (0,0)))∧Aside0 (w'.heap[gb110]?=some (.cells #[.int .i64 t106,u111001] 26 (0,0)))∧Aside0 (Below w.heap.size w w'))
   case atStart=>exact ⟨(0),(0),(y107),(.slice Ao14 y107.length co14),rs,H',⟨Nat.le_refl _⟩,⟨aR (HO_6.z)⟩,⟨aS (HO_111001.z)⟩,⟨bk⟩,⟨bk⟩,⟨bl⟩⟩
   case round =>
    clear H'
    obtain ⟨x7_2,x102000_2,x111001_2,u111001,rfl,HA,HK2,HO_6,HO_111001,BK101,BK110,HB⟩:=hrel
    cases gk with
    | zero=>exact absurd HA.z (by simp [F120.l0])
    | succ k2 =>
     have H:=HA.z
     clear HA
     simp only [F120.l0] at H
     replace H:=iC H;obtain ⟨c22b0,H⟩|⟨c22b0,H⟩:=H
     case inl =>
      replace H:=bS H;obtain ⟨t119,A46,H⟩:=H
      cases t119
      case false =>
       replace H:=iF H
       simp only [Option.some.injEq,Prod.mk.injEq] at H
       obtain ⟨rfl,rfl,rfl⟩:=H
       obtain ⟨Ao55,co55,rfl⟩:=Kd.R_slice HO_6.z
       obtain ⟨_,_⟩:=nE NB110_101
       obtain ⟨_,_,_,_⟩:=cz2 BK110
       obtain ⟨Ao58,co58,rfl⟩:=Kd.S_slice HO_111001.z
       go_wp2_with (first|(refine gate_callee (f:=44) rfl ?_;refine gC (some 60) Try.func44 #[.agg #[.int .i64 t106,.slice Ao58 x111001_2.length co58]] ?_;(with_reducible refine (F44.calls k2 t106 _ _ x111001_2 false _ ?side1 ?side2 A46.z).mono ?_);(case side1=>exact aC ((Kd.S_reads' HO_111001.z).2.2));(case side2=>exact (Kd.S_reads' HO_111001.z).2.1);rintro e w59 ⟨rfl,hb⟩;refine ⟨_,rfl,?_⟩;replace HO_6:=bwR HO_6 hb;replace HO_111001:=bwS HO_111001 hb;replace BK101:=kB BK101 hb;replace BK110:=kB BK110 hb;replace HB:=bW hb;obtain ⟨_,_,_,_⟩:=cz2 BK101))
       refine bodyPost_ret (results_ct rfl _ _ gb101 26 #[.int .i64 0,.slice none 0 0] (0,0) _ rfl kZ Try.underlying26 rfl (by kernel_rfl)) rfl ?_
       exact ⟨_,eR,by first|exact Kd.S_nil _ _ _ _ _|exact Kd.N_nil _ _ _ _ _|exact Kd.V_nil _ _ _ _ _|exact Kd.Q_nil _ _ _ _ _|exact Kd.R_nil _ _ _ _ _,bl⟩
      replace H:=iT H
      simp only [Option.some.injEq,Prod.mk.injEq] at H
      obtain ⟨rfl,rfl,rfl⟩:=H
      obtain ⟨Ao48,co48,rfl⟩:=Kd.R_slice HO_6.z
      obtain ⟨_,_⟩:=nE NB110_101
      obtain ⟨_,_,_,_⟩:=cz2 BK110
      obtain ⟨Ao51,co51,rfl⟩:=Kd.S_slice HO_111001.z
      go_wp2_with (first|(refine gate_callee (f:=44) rfl ?_;refine gC (some 60) Try.func44 #[.agg #[.int .i64 t106,.slice Ao51 x111001_2.length co51]] ?_;(with_reducible refine (F44.calls k2 t106 _ _ x111001_2 true _ ?side1 ?side2 A46.z).mono ?_);(case side1=>exact aC ((Kd.S_reads' HO_111001.z).2.2));(case side2=>exact (Kd.S_reads' HO_111001.z).2.1);rintro e w52 ⟨rfl,hb⟩;refine ⟨_,rfl,?_⟩;replace HO_6:=bwR HO_6 hb;replace HO_111001:=bwS HO_111001 hb;replace BK101:=kB BK101 hb;replace BK110:=kB BK110 hb;replace HB:=bW hb;obtain ⟨_,_,_,_⟩:=cz2 BK110;obtain ⟨_,_,_,_⟩:=cz2 BK101))
      refine bodyPost_ret (results_ct rfl _ _ gb101 26 #[.int .i64 t106,.slice Ao51 x111001_2.length co51] (0,0) _ rfl kZ Try.underlying26 rfl (by kernel_rfl)) rfl ?_
      exact ⟨_,eR,aS (Kd.S_mono (gS 1 (.slice Ao51 x111001_2.length co51) (gS 0 (.int .i64 t106) (tS HO_111001 BK101))) (fun _ hk=>trivial)),bl⟩
     replace H:=iS H;obtain ⟨c23,H⟩:=H
     have c23b0:=decide_eq_true c23
     clear c23
     replace H:=bS H;obtain ⟨t121,A24,H⟩:=H
     replace H:=iE H;obtain ⟨c25,c25b0,c25b1,H⟩|⟨c25b0,c25b1,H⟩:=H
     case inl =>
      simp only [Option.some.injEq,Prod.mk.injEq] at H
      obtain ⟨rfl,rfl,rfl⟩:=H
      obtain ⟨Ao41,co41,rfl⟩:=Kd.R_slice HO_6.z
      obtain ⟨p120,q120⟩:=iN x7_2 (x6_7.length:Int)
      obtain ⟨ad120,e120,hx120_0⟩:=Kd.at_string (Kd.R_reads' HO_6.z).2.2 x7_2 p120 q120
      cases e120
      replace p120:=eT p120
      replace q120:=eT q120
      go_wp2_with (first|(refine gate_callee (f:=122) rfl ?_;refine gC (some 40) Try.func122 #[.string (rdOf ByteArray.empty x6_7 x7_2),.int .u8 45] ?_;(with_reducible refine (F122.calls k2 (rdOf ByteArray.empty x6_7 x7_2) 45 t121 _ A24.z).mono ?_);rintro e w42 ⟨v122,rfl,ho0,hb⟩;refine ⟨_,rfl,?_⟩;replace HO_111001:=bwS HO_111001 hb;have HO123:=k0 (Kd.R_lower (Kd.R_new' ho0 (Kd.R_lt (aR HO_6.z))) (below_size bl));replace HO_6:=elR HO_6 (Kd.R_base ho0) hb;replace BK101:=kB BK101 hb;replace BK110:=kB BK110 hb;replace HB:=bW hb;obtain ⟨Ao43,co43,rfl⟩:=Kd.R_slice HO123.z;obtain ⟨_,_⟩:=nE NB101_110;obtain ⟨_,_,_,_⟩:=cz2 BK101))
      refine bodyPost_ret (results_ct rfl _ _ gb101 26 #[.int .i64 0,.slice none 0 0] (0,0) _ rfl kZ Try.underlying26 rfl (by kernel_rfl)) rfl ?_
      exact ⟨_,eR,by first|exact Kd.S_nil _ _ _ _ _|exact Kd.N_nil _ _ _ _ _|exact Kd.V_nil _ _ _ _ _|exact Kd.Q_nil _ _ _ _ _|exact Kd.R_nil _ _ _ _ _,bl⟩
     replace H:=iS H;obtain ⟨c26,H⟩:=H
     have c26b0:=decide_eq_true c26
     have c26b1:decide (0 < t121.length)=true:=decide_eq_true (by omega)
     clear c26
     replace H:=bS H;obtain ⟨t125,A27,H⟩:=H
     replace H:=iS H;obtain ⟨c28,H⟩:=H
     have c28b0:=decide_eq_true c28
     have c28b1:decide (1 < t121.length)=true:=decide_eq_true (by omega)
     clear c28
     replace H:=bS H;obtain ⟨t127,A29,H⟩:=H
     obtain ⟨y128,Ny128⟩:=nY (([t125,t127]:List Int):List Int)
     replace H:(if x111001_2.length < 5864062014805 then (F120.l0 k2 x6_7 (wrap64 (x7_2+1)) t106 (x111001_2 ++ [y128])) else (none))=some (r1,r2,r3):=rH Ny128.z H
     replace H:=iS H;obtain ⟨c30,H⟩:=H
     have LMc30:=k0 c30
     clear c30
     obtain ⟨y131,Ny131⟩:=nY (x111001_2 ++ [y128]:List (List Int))
     replace H:(F120.l0 k2 x6_7 (wrap64 (x7_2+1)) t106 y131)=some (r1,r2,r3):=rH Ny131.z H
     have H':=k0 H
     clear H
     obtain ⟨Ao31,co31,rfl⟩:=Kd.R_slice HO_6.z
     obtain ⟨p120,q120⟩:=iN x7_2 (x6_7.length:Int)
     obtain ⟨ad120,e120,hx120_0⟩:=Kd.at_string (Kd.R_reads' HO_6.z).2.2 x7_2 p120 q120
     cases e120
     replace p120:=eT p120
     replace q120:=eT q120
     try go_wp2_with (first|(refine gate_callee (f:=122) rfl ?_;refine gC (some 40) Try.func122 #[.string (rdOf ByteArray.empty x6_7 x7_2),.int .u8 45] ?_;(with_reducible refine (F122.calls k2 (rdOf ByteArray.empty x6_7 x7_2) 45 t121 _ A24.z).mono ?_);rintro e w32 ⟨v122,rfl,ho0,hb⟩;refine ⟨_,rfl,?_⟩;replace HO_111001:=bwS HO_111001 hb;have HO123:=k0 (Kd.R_lower (Kd.R_new' ho0 (Kd.R_lt (aR HO_6.z))) (below_size bl));replace HO_6:=elR HO_6 (Kd.R_base ho0) hb;replace BK101:=kB BK101 hb;replace BK110:=kB BK110 hb;replace HB:=bW hb;obtain ⟨Ao33,co33,rfl⟩:=Kd.R_slice HO123.z))
     replace HO_6:=k0 (Kd.R_drew HO_6.z);replace HO_111001:=k0 (Kd.S_drew HO_111001.z);replace HO123:=k0 (Kd.R_drew HO123.z);replace BK101:=k0 (blk_drew BK101.z);replace BK110:=k0 (blk_drew BK110.z);replace HB:=k0 (below_drew1 HB.z)
     have p124:0≤(0:Int):=(by omega)
     have q124:0 < (t121.length:Int):=oD
     obtain ⟨ad124,e124,hx124_0⟩:=Kd.at_string (Kd.R_reads' HO123.z).2.2 0 p124 q124
     cases e124
     have qi124:(0 < t121.length)=True:=eq_true (by omega)
     (try rw [show ((0:Int)).toNat=0 from rfl] at hx124_0)
     (try rw [Addr.add_zero'] at hx124_0)
     replace p124:=eT p124
     replace q124:=eT q124
     have p126:0≤(1:Int):=(by omega)
     have q126:1 < (t121.length:Int):=oD
     obtain ⟨ad126,e126,hx126_0⟩:=Kd.at_string (Kd.R_reads' HO123.z).2.2 1 p126 q126
     obtain rfl:ad124=ad126:=(by injection e126)
     (try simp only [show (1:Int).toNat=1 from rfl,Nat.reduceMul,Nat.reduceEqDiff,Go.Addr.add,↓reduceIte] at hx126_0)
     have qi126:(1 < t121.length)=True:=eq_true (by omega)
     (try rw [show ((1:Int)).toNat=1 from rfl] at hx126_0)
     replace p126:=eT p126
     replace q126:=eT q126
     refine start_ (n:=15) (S:=fun w'=>w'.cell? ⟨gb110,0,none⟩=some (.int .i64 t106)∧w'.cell? ⟨gb110,1,none⟩=some (u111001)∧w'.cell? ad124=some (.string (rdOf ByteArray.empty t121 0))∧w'.cell? ⟨ad124.block,ad124.off+1,none⟩=some (.string (rdOf ByteArray.empty t121 1))) (ds:=[12,14]) (ba 15 0) (by kernel_rfl) rfl rfl ⟨ce0 BK110,ce1 BK110,hx124_0,hx126_0⟩ (fun hHeld=>?_);refine with_tabW F120.tab14 F120.bits14 (fun HT_ HW_=>?_)
     generalize w32.drew=w34 at HO_6 HO_111001 HO123 BK101 BK110 HB hx124_0 hx126_0 hHeld ⊢
     refine pu 0 (some 45) (ba 15 1) HT_ (h:=?_)
     refine pu 2 (some 47) (ba 15 5) HT_ (h:=?_)
     refine pu 3 (some 48) (ba 15 13) HT_ (h:=?_)
     refine pu 6 (some 51) (ba 15 77) HT_ (h:=?_)
     refine pu 7 (some 52) (ba 15 205) HT_ (h:=?_)
     refine zT4 1 (some 46) (ba 15 207) HT_ HW_ hHeld (h:=?_)
     refine zT4 4 (some 49) (ba 15 223) HT_ HW_ hHeld (h:=?_)
     refine zT4 8 (some 53) (ba 15 479) HT_ HW_ hHeld (h:=?_)
     refine one_ (i:=5) (N:=some 50) (ba 15 511) rfl rfl (one_of HT_.out (by kernel_rfl)) (by decide) (fun K hK=>?_)
     refine goes_ Try.func123 (by kernel_rfl) rfl #[.string (rdOf ByteArray.empty t121 0)] (by rfl) rfl rfl gm ?_
     with_reducible refine (F123.calls k2 (rdOf ByteArray.empty t121 0) t125 _ A27.z).mono ?_
     rintro e w' ⟨rfl,⟨nd,rfl⟩⟩
     refine ⟨_,rfl,?_⟩
     refine hK.out _ _ ⟨ce0 BK110,ce1 BK110,hHeld.2.2.1,hHeld.2.2.2⟩ (fun hHeld=>?_)
     clear hK K
     refine norm_ (a':=?_) ?_ ?_
     rotate_left;· show Act.put _ (some 50) _=_;simp only [Act.put,zI,zZ,zS,i64_w,i32_w];rfl
     refine one_ (i:=9) (N:=some 54) (ba 15 1023) rfl rfl (one_of HT_.out (by kernel_rfl)) (by decide) (fun K hK=>?_)
     refine goes_ Try.func123 (by kernel_rfl) rfl #[.string (rdOf ByteArray.empty t121 1)] (by rfl) rfl rfl gm ?_
     with_reducible refine (F123.calls k2 (rdOf ByteArray.empty t121 1) t127 _ A29.z).mono ?_
     rintro e w' ⟨rfl,⟨nd,rfl⟩⟩
     refine ⟨_,rfl,?_⟩
     refine hK.out _ _ ⟨ce0 BK110,ce1 BK110,hHeld.2.2.1,hHeld.2.2.2⟩ (fun hHeld=>?_)
     clear hK K
     refine norm_ (a':=?_) ?_ ?_
     rotate_left;· show Act.put _ (some 54) _=_;simp only [Act.put,zI,zZ,zS,i64_w,i32_w];rfl
     refine one_ (i:=10) (N:=some 55) (ba 15 2047) rfl rfl (one_of HT_.out (by kernel_rfl)) (by decide) (fun K hK=>?_)
     refine zRs 2 (N:=55) (xs:=([t125,t127]:List Int)) (inner:=[.int .i64 t125,.int .i64 t127]) (Reps.one (show Kd.M (Kd.int .i64) _ _ _ t125 [.int .i64 t125] from rfl) (Reps.one (show Kd.M (Kd.int .i64) _ _ _ t127 [.int .i64 t127] from rfl) (Reps.none _ _))) ?_
     intro v129 w35 ho36 hb hg_ hnew_
     have HS2_:=(hb.cell (World.block_lt_of_cell? _ _ (hHeld.2.2.1))).trans (hHeld.2.2.1)
     have HS3_:=(hb.cell (World.block_lt_of_cell? _ _ (hHeld.2.2.2))).trans (hHeld.2.2.2)
     clear hg_ hnew_
     (first|rw [← Ny128.z] at ho36|(simp only [Int.reduceToNat] at ho36;rw [← Ny128.z] at ho36))
     replace HO_6:=bwR HO_6 hb;replace HO_111001:=elS HO_111001 (Kd.R_base ho36) hb;replace HO123:=bwR HO123 hb;have HO130:=k0 (Kd.R_lower ho36 (below_size bl));replace BK101:=kB BK101 hb;replace BK110:=kB BK110 hb;replace HB:=bW hb
     clear hb ho36
     obtain ⟨Ao38,co38,eo38⟩:=Kd.R_slice HO130.z
     (first|subst eo38|(injection eo38 with f1_ f2_ f3_;have f4_:=f1_.symm;have f5_:=f3_.symm;clear f1_ f2_ f3_;subst f4_;subst f5_))
     refine hK.out _ _ ⟨ce0 BK110,ce1 BK110,HS2_,HS3_⟩ (fun hHeld=>?_)
     clear hK K
     refine norm_ (a':=?_) ?_ ?_
     rotate_left;· show Act.put _ (some 55) _=_;simp only [Act.put,zI,zZ,zS,i64_w,i32_w];rfl
     refine one_ (i:=11) (N:=some 56) (ba 15 4095) rfl rfl (one_of HT_.out (by kernel_rfl)) (by decide) (fun K hK=>?_)
     refine value_ (w1:=?_) (v:=?_) (by rfl) rfl ?_ ?_
     rotate_left 2
     ·go_simp
      constructor
      ·rfl
      ·rfl
     refine hK.out _ _ ⟨(blk_cell (blk_alloc BK110.z _) 0).trans rfl,(blk_cell (blk_alloc BK110.z _) 1).trans rfl,(World.cell?_alloc_lt _ _ _ (World.block_lt_of_cell? _ _ (hHeld.2.2.1))).trans (hHeld.2.2.1),(World.cell?_alloc_lt _ _ _ (World.block_lt_of_cell? _ _ (hHeld.2.2.2))).trans (hHeld.2.2.2)⟩ (fun hHeld=>?_)
     clear hK K
     refine norm_ (a':=?_) ?_ ?_
     rotate_left;· show Act.put _ (some 56) _=_;simp only [Act.put,zI,zZ,zS,i64_w,i32_w];rfl
     refine last_ (i:=12) (N:=some 57) (ba 15 8191) rfl rfl (one_of HT_.out (by kernel_rfl)) (by decide) (fun K hK=>?_)
     refine Kd.S_append_step (Kd.slice 2 (Kd.int .i64)) (w0:=w) w.heap.size (by rfl) (.tmp 46) (.tmp 56) 24 27 (.slice none 0 0) 24 rfl Try.underlying24 info27 rfl (by decide) (by omega) u111001 x111001_2 y128 [.slice Ao38 y128.length co38] (fun _=>True) (fun k_=>some k_=(.slice Ao38 y128.length co38:Value).ownBlock) rfl rfl ?aP (fun k_ hk_=>((Kd.R_mono (ok':=fun k_=>((fun _=>True)) k_∧some k_ ≠ (u111001:Value).ownBlock) (Kd.R_apart' (HO130.z) (Kd.S_typed HO_111001.z) (by decide)) (fun k_ hk=>⟨trivial,hk.2⟩))).1 k_ hk_.symm) ?aF ?aO ?aB ?aS ?aL ?_
     (case aP=>exact Kd.M_row (Kd.R_mono (Kd.R_tight rfl (Kd.R_mono (ok':=fun k_=>((fun _=>True)) k_∧some k_ ≠ (u111001:Value).ownBlock) (Kd.R_apart' (HO130.z) (Kd.S_typed HO_111001.z) (by decide)) (fun k_ hk=>⟨trivial,hk.2⟩))) (fun _ h_=>h_)))
     (case aB=>exact bl)
     (case aF=>exact (fun _ _=>trivial))
     (case aO=>exact (aS (Kd.S_mono HO_111001.z (fun k_ hk=>⟨trivial,fun e_=>hk.2 e_⟩))))
     (case aS=>exact (below_size bl))
     (case aL=>have:=LMc30.out;omega)
     intro v132 w37 ho hb hg hat
     rw [← Ny131.z] at ho
     replace HO_6:=k0 (Kd.R_over' (aR HO_6.z) (Kd.S_typed (aS HO_111001.z)) (by decide) hg);replace BK101:=k0 (blk_grown (aB BK101.z) hg (Kd.S_ne HO_111001.z BK101.z (by decide)));replace BK110:=k0 (blk_grown (aB BK110.z) hg (Kd.S_ne HO_111001.z BK110.z (by decide)));replace HO123:=k0 (Kd.R_over' (aR HO123.z) (Kd.S_typed (aS HO_111001.z)) (by decide) hg);replace HB:=k0 hb;have HO133:=k0 ho;clear HO_111001 HO130
     clear ho hb hg hat
     obtain ⟨Ao39,co39,eo39⟩:=Kd.S_slice HO133.z
     (first|subst eo39|(injection eo39 with f1_ f2_ f3_;have f4_:=f1_.symm;have f5_:=f3_.symm;clear f1_ f2_ f3_;subst f4_;subst f5_))
     refine hK.out _ _ ?_
     clear hK K
     refine norm_ (a':=?_) ?_ ?_
     rotate_left;· show Act.put _ (some 57) _=_;simp only [Act.put,zI,zZ,zS,i64_w,i32_w];rfl
     refine pu 13 (some 58) (ba 15 16383) HT_ (h:=?_)
     refine last_ (i:=14) (N:=none) (ba 15 32767) rfl rfl (one_of HT_.out (by kernel_rfl)) (by decide) (fun K hK=>?_)
     have hs40:=ce1 BK110
     have hfs40:=bF BK110 1
     have hns40_0:=NB101_110.z
     have hms40_0:=NB110_101.z
     refine skip_ (w1:=?_) (by rfl) rfl ?_ ?_
     rotate_left;· go_simp;rfl
     refine hK.out _ _ ?_
     clear hK K
     refine done_ (done_of HT_.out (by kernel_rfl)) ?_
     try go_wp2
     go_roundg k2
     case measure=>have:=HJ7.out;have:=HK2.z;omega
     case rel=>exact ⟨(wrap64 (x7_2+1)),(x102000_2),(y131),(.slice Ao39 y131.length co39),rs,H',⟨by have:=HJ7.out;have:=HK2.z;omega⟩,⟨aR (Kd.R_mono (gR 1 (.slice Ao39 y131.length co39) (tR HO_6 BK110)) (fun _ hk=>trivial))⟩,⟨aS (Kd.S_mono (gS 1 (.slice Ao39 y131.length co39) (tS HO133 BK110)) (fun _ hk=>trivial))⟩,⟨kZ⟩,⟨kZ⟩,⟨bl⟩⟩
/-! ### F121: function 121 -/
def F121.f (a0:ByteArray):Option (ByteArray):=if a0.toList=([112,111,105,110,116]:List UInt8) then (some (⟨#[49,58]⟩:ByteArray)) else (if a0.toList=([101,100,103,101]:List UInt8) then (some (⟨#[50,58,48,45,49]⟩:ByteArray)) else (if a0.toList=([108,111,111,112]:List UInt8) then (some (⟨#[49,58,48,45,48]⟩:ByteArray)) else (if a0.toList=([98,111,117,113,117,101,116]:List UInt8) then (some (⟨#[49,58,48,45,48,44,48,45,48]⟩:ByteArray)) else (if a0.toList=([116,104,101,116,97]:List UInt8) then (some (⟨#[50,58,48,45,49,44,48,45,49,44,48,45,49]⟩:ByteArray)) else (if a0.toList=([100,117,109,98,98,101,108,108]:List UInt8) then (some (⟨#[50,58,48,45,48,44,48,45,49,44,49,45,49]⟩:ByteArray)) else (if a0.toList=([116,114,105,97,110,103,108,101]:List UInt8) then (some (⟨#[51,58,48,45,49,44,49,45,50,44,50,45,48]⟩:ByteArray)) else (if a0.toList=([115,113,117,97,114,101]:List UInt8) then (some (⟨#[52,58,48,45,49,44,49,45,50,44,50,45,51,44,51,45,48]⟩:ByteArray)) else (if a0.toList=([112,101,110,116,97,103,111,110]:List UInt8) then (some (⟨#[53,58,48,45,49,44,49,45,50,44,50,45,51,44,51,45,52,44,52,45,48]⟩:ByteArray)) else (if a0.toList=([115,116,97,114]:List UInt8) then (some (⟨#[52,58,48,45,49,44,48,45,50,44,48,45,51]⟩:ByteArray)) else (if a0.toList=([100,105,97,109,111,110,100]:List UInt8) then (some (⟨#[52,58,48,45,49,44,49,45,50,44,50,45,51,44,51,45,48,44,48,45,50]⟩:ByteArray)) else (if a0.toList=([116,101,116,114,97,104,101,100,114,111,110]:List UInt8) then (some (⟨#[52,58,48,45,49,44,48,45,50,44,48,45,51,44,49,45,50,44,49,45,51,44,50,45,51]⟩:ByteArray)) else (if a0.toList=([112,114,105,115,109]:List UInt8) then (some (⟨#[54,58,48,45,49,44,49,45,50,44,50,45,48,44,51,45,52,44,52,45,53,44,53,45,51,44,48,45,51,44,49,45,52,44,50,45,53]⟩:ByteArray)) else (if a0.toList=([104,111,117,115,101,115]:List UInt8) then (some (⟨#[54,58,48,45,51,44,48,45,52,44,48,45,53,44,49,45,51,44,49,45,52,44,49,45,53,44,50,45,51,44,50,45,52,44,50,45,53]⟩:ByteArray)) else (some (⟨#[]⟩:ByteArray)))))))))))))))
theorem F121.calls (a0 : ByteArray) (r : ByteArray) (w : World) (h : F121.f a0 = some r) :
  Calls Try.prog 121 #[.string a0] w fun e w'=>e=.returned (.string r)∧Drawn0 w w':=by
 unfold F121.f at h
 have H:=h
 clear h
 replace H:=iE H;obtain ⟨c2,c2b0,c2b1,H⟩|⟨c2b0,c2b1,H⟩:=H
 case inl =>
  replace H:=iE H;obtain ⟨c3,c3b0,c3b1,H⟩|⟨c3b0,c3b1,H⟩:=H
  case inl =>
   replace H:=iE H;obtain ⟨c4,c4b0,c4b1,H⟩|⟨c4b0,c4b1,H⟩:=H
   case inl =>
    replace H:=iE H;obtain ⟨c5,c5b0,c5b1,H⟩|⟨c5b0,c5b1,H⟩:=H
    case inl =>
     replace H:=iE H;obtain ⟨c6,c6b0,c6b1,H⟩|⟨c6b0,c6b1,H⟩:=H
     case inl =>
      replace H:=iE H;obtain ⟨c7,c7b0,c7b1,H⟩|⟨c7b0,c7b1,H⟩:=H
      case inl =>
       replace H:=iE H;obtain ⟨c8,c8b0,c8b1,H⟩|⟨c8b0,c8b1,H⟩:=H
       case inl =>
        replace H:=iE H;obtain ⟨c9,c9b0,c9b1,H⟩|⟨c9b0,c9b1,H⟩:=H
        case inl =>
         replace H:=iE H;obtain ⟨c10,c10b0,c10b1,H⟩|⟨c10b0,c10b1,H⟩:=H
         case inl =>
          replace H:=iE H;obtain ⟨c11,c11b0,c11b1,H⟩|⟨c11b0,c11b1,H⟩:=H
          case inl =>
           replace H:=iE H;obtain ⟨c12,c12b0,c12b1,H⟩|⟨c12b0,c12b1,H⟩:=H
           case inl =>
            replace H:=iE H;obtain ⟨c13,c13b0,c13b1,H⟩|⟨c13b0,c13b1,H⟩:=H
            case inl =>
             replace H:=iE H;obtain ⟨c14,c14b0,c14b1,H⟩|⟨c14b0,c14b1,H⟩:=H
             case inl =>
              replace H:=iE H;obtain ⟨c15,c15b0,c15b1,H⟩|⟨c15b0,c15b1,H⟩:=H
              case inl =>
               obtain rfl:=Option.some.inj H
               go_enter Try.func121,Try.ntmps121
               go_wp2
               go_ret
               exact ⟨rs,dW⟩
              obtain rfl:=Option.some.inj H
              go_enter Try.func121,Try.ntmps121
              go_wp2
              go_ret
              exact ⟨rs,dW⟩
             obtain rfl:=Option.some.inj H
             go_enter Try.func121,Try.ntmps121
             go_wp2
             go_ret
             exact ⟨rs,dW⟩
            obtain rfl:=Option.some.inj H
            go_enter Try.func121,Try.ntmps121
            go_wp2
            go_ret
            exact ⟨rs,dW⟩
           obtain rfl:=Option.some.inj H
           go_enter Try.func121,Try.ntmps121
           go_wp2
           go_ret
           exact ⟨rs,dW⟩
          obtain rfl:=Option.some.inj H
          go_enter Try.func121,Try.ntmps121
          go_wp2
          go_ret
          exact ⟨rs,dW⟩
         obtain rfl:=Option.some.inj H
         go_enter Try.func121,Try.ntmps121
         go_wp2
         go_ret
         exact ⟨rs,dW⟩
        obtain rfl:=Option.some.inj H
        go_enter Try.func121,Try.ntmps121
        go_wp2
        go_ret
        exact ⟨rs,dW⟩
       obtain rfl:=Option.some.inj H
       go_enter Try.func121,Try.ntmps121
       go_wp2
       go_ret
       exact ⟨rs,dW⟩
      obtain rfl:=Option.some.inj H
      go_enter Try.func121,Try.ntmps121
      go_wp2
      go_ret
      exact ⟨rs,dW⟩
     obtain rfl:=Option.some.inj H
     go_enter Try.func121,Try.ntmps121
     go_wp2
     go_ret
     exact ⟨rs,dW⟩
    obtain rfl:=Option.some.inj H
    go_enter Try.func121,Try.ntmps121
    go_wp2
    go_ret
    exact ⟨rs,dW⟩
   obtain rfl:=Option.some.inj H
   go_enter Try.func121,Try.ntmps121
   go_wp2
   go_ret
   exact ⟨rs,dW⟩
  obtain rfl:=Option.some.inj H
  go_enter Try.func121,Try.ntmps121
  go_wp2
  go_ret
  exact ⟨rs,dW⟩
 obtain rfl:=Option.some.inj H
 go_enter Try.func121,Try.ntmps121
 go_wp2
 go_ret
 exact ⟨rs,dW⟩
/-! ### F116: function 116 -/
def F116.f (k:Nat) (a0:ByteArray):Option (Int × (List (List Int)) × Bool):=(F121.f a0).bind fun t102=>((F120.f k t102).bind fun bt103=>(some (bt103.1,bt103.2.1,bt103.2.2)))
theorem F116.calls (k : Nat) (a0 : ByteArray) (r1 : Int) (r2 : List (List Int)) (r3 : Bool) (w : World) (h : F116.f k a0 = some (r1, r2, r3)) :
  Calls Try.prog 116 #[.string a0] w fun e w'=>∃ v1_:Value,e=.returned (.tuple #[.agg #[.int .i64 r1,v1_],.bool r3])∧Kd.S (Kd.slice 2 (Kd.int .i64)) 27 w' w.heap.size (fun _=>True) v1_ r2∧Below w.heap.size w w':=by
 have hu26:=Try.underlying26
 have HB:=k0 (Below.refl w.heap.size w)
 unfold F116.f at h
 have H:=h
 clear h
 replace H:=bS H;obtain ⟨t102,A2,H⟩:=H
 replace H:=bS H;obtain ⟨⟨t103,t104,t107⟩,A3,H⟩:=H
 dsimp only at H
 simp only [Option.some.injEq,Prod.mk.injEq] at H
 obtain ⟨rfl,rfl,rfl⟩:=H
 go_enter Try.func116,Try.ntmps116
 go_wp2_with (first|(refine gate_dst (N:=2) rfl ?_;refine bxz 2 #[.int .i64 0,.slice none 0 0] 26 bl ?_;intro gb101 w4 BK101 GW101 HB;have GE101:=GW101)|(refine gate_callee (f:=121) rfl ?_;refine gC (some 8) Try.func121 #[.string a0] ?_;(with_reducible refine (F121.calls a0 t102 _ A2.z).mono ?_);rintro e w' ⟨rfl,⟨nd,rfl⟩⟩;refine ⟨_,rfl,?_⟩;(try (rw [drewN_self w4];generalize hq_:World.drewN w4 _=w4;have n0_:Aside0 (w4.heap[gb101]?=some (.cells #[.int .i64 0,.slice none 0 0] 26 (0,0))):=⟨by rw [← hq_];exact bk⟩;have n1_:Aside0 (Below w.heap.size w w4):=⟨by rw [← hq_];exact bl⟩;clear BK101 HB hq_;have BK101:=n0_;have HB:=n1_;clear n0_ n1_)))|(refine gate_callee (f:=120) rfl ?_;refine gC (some 9) Try.func120 #[.string t102] ?_;(with_reducible refine (F120.calls k t102 t103 t104 t107 _ A3.z).mono ?_);rintro e w5 ⟨v105,rfl,ho0,hb⟩;refine ⟨_,rfl,?_⟩;have HO106:=k0 (Kd.S_lower ho0 (below_size bl));replace BK101:=kB BK101 hb;replace HB:=bW hb)|(refine gate_dst (N:=4) rfl ?_;refine bxe 4 #[.int .i64 0,.slice none 0 0] 26 ?_;intro gb108 hg w6 hbox hb;replace HO106:=bwS HO106 hb;have BK108:=k0 hbox;have GW108:=gW hg (below_size bl);have GE108:=GW108;replace HB:=bW hb;have NB101_108:=nL hg BK101;have NB108_101:=nG NB101_108;replace BK101:=kB BK101 hb;clear hb hbox hg;obtain ⟨_,_⟩:=nE NB108_101;obtain ⟨_,_,_,_⟩:=cz2 BK108;obtain ⟨Ao9,co9,rfl⟩:=Kd.S_slice HO106.z;obtain ⟨_,_,_,_⟩:=cz2 BK101))
 refine bodyPost_ret (results_ct rfl _ _ gb101 26 #[.int .i64 t103,.slice Ao9 t104.length co9] (0,0) _ rfl kZ Try.underlying26 rfl (by kernel_rfl)) rfl ?_
 exact ⟨_,eR,aS (Kd.S_mono (Kd.S_far (p:=⟨gb101,1,none⟩) (Kd.S_far (p:=⟨gb101,0,none⟩) (Kd.S_far (p:=⟨gb108,1,none⟩) (Kd.S_far (p:=⟨gb108,0,none⟩) (Kd.S_types (tS HO106 BK108) BK101.z (by decide)) (fun _ hk=>hk.1.2) (.int .i64 t103)) (fun _ hk=>hk.1.2) (.slice Ao9 t104.length co9)) (fun _ hk=>hk.2) (.int .i64 t103)) (fun _ hk=>hk.2) (.slice Ao9 t104.length co9)) (fun _ hk=>trivial)),bl⟩
end Go.Proofs.Ytgjdbnipcpmhiaa.P
/- Set with little white space, by a program. -/
