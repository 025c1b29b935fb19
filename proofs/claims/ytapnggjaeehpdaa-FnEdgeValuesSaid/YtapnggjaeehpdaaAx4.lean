/- The functions that one law reaches, each as a Lean function, and that Go's call comes to what it says. Condition of each: that the Lean function answers (is not none). -/
import Derived.Test.YtapnggjaeehpdaaAx0
import Derived.Test.YtapnggjaeehpdaaAx3
namespace Go.Proofs.Ytapnggjaeehpdaa.A
open Go.RowKit Go.Proofs.bB.dI Go.Proofs.bB.ark Go.Proofs.bB.jd
attribute [local go_sem] max2_int min2_int max_two min_two max_three min_three max_four min_four   -- for this text's walks alone
set_option linter.unusedVariables false
set_option linter.unusedSimpArgs false
set_option maxHeartbeats 8000000
set_option maxRecDepth 100000
/-! ### F133: function 133 -/
mutual
def aq0.j0 : Nat → List ByteArray → Int → List (List Int) → Option (Int × (List (List Int)) × Bool)
 | 0,_,_,_=>none
 | k+1,x6,Ga,CX=>aq0.l0 k x6 0 Ga CX
def aq0.l0 : Nat → List ByteArray → Int → Int → List (List Int) → Option (Int × (List (List Int)) × Bool)
 | 0,_,_,_,_=>none
 | k+1,x6,x7,Ga,CX=>if x7 < (x6.length:Int) then (if 0≤x7 then ((gJ.f k (gy ByteArray.empty x6 x7) 45).bind fun t121=>(if (t121.length:Int)=2 then (if 0 < (t121.length:Int) then ((fE.f k (gy ByteArray.empty t121 0)).bind fun t125=>(if 1 < (t121.length:Int) then ((fE.f k (gy ByteArray.empty t121 1)).bind fun t127=>(if CX.length < 5864062014805 then (aq0.l0 k x6 (wrap64 (x7+1)) Ga (CX ++ [(([t125,t127]:List Int))])) else (none))) else (none))) else (none)) else (some (0,([]:List (List Int)),false)))) else (none)) else ((dB.f k Ga CX).bind fun t119=>(if t119=true then (some (Ga,CX,true)) else (some (0,([]:List (List Int)),false))))
end
def aq0.f (k:Nat) (a0:ByteArray):Option (Int × (List (List Int)) × Bool):=(gJ.f k a0 58).bind fun t102=>(if (t102.length:Int)=2 then (if 0 < (t102.length:Int) then ((fE.f k (gy ByteArray.empty t102 0)).bind fun t106=>((some (([]:List (List Int)):List (List Int))).bind fun nP=>(if 1 < (t102.length:Int) then ((gJ.f k (gy ByteArray.empty t102 1) 44).bind fun t112=>(if (gy ByteArray.empty t102 1).toList=([]:List UInt8) then (aq0.j0 k (([]:List ByteArray)) t106 nP) else (aq0.j0 k t112 t106 nP))) else (none)))) else (none)) else (some (0,([]:List (List Int)),false)))
def aq0.Rk:Bool × List (List Nat × List Nat):=(true,[([],[]),([0],[0]),([],[]),([2],[2]),([3],[3]),([4],[4]),([],[]),([6],[6]),([7],[7]),([8,5],[8]),([5,9],[5,9]),([10],[10]),([1,11,9],[1,11]),([0,1,2,3,4,5,6,7,8,9,10,11,12],[]),([13,12,12,0,1,2,3,4,5,6,7,8,9,10,11,12],[12,13])])
def aq0.Yn:List Nat:=[0,1,0,4,12,28,0,64,192,508,1020,2044,4095,8191,16383]
theorem aq0.aja:eH .any (opsOf Try.f133 14)=aq0.Rk:=by kernel_rfl
theorem aq0.abV:iL aq0.Rk.2 aq0.Yn=true:=by kernel_rfl
theorem aq0.calls (k : Nat) (a0 : ByteArray) (r1 : Int) (r2 : List (List Int)) (r3 : Bool) (w : World) (h : aq0.f k a0 = some (r1, r2, r3)) :
  Calls Try.prog 133 #[.string a0] w fun e w'=>∃ fK:Value,e=.returned (.tuple #[.agg #[.int .i64 r1,fK],.bool r3])∧Kd.S (Kd.slice 2 (Kd.int .i64)) 29 w' w.heap.size (fun _=>True) fK r2∧Below w.heap.size w w':=by
 have eE:=Try.underlying26
 have HB:=k0 (Below.refl w.heap.size w)
 unfold aq0.f at h
 have H:=h
 clear h
 replace H:=bS H;obtain ⟨t102,A2,H⟩:=H
 replace H:=iE H;obtain ⟨c3,ia,qb,H⟩|⟨ia,qb,H⟩:=H
 case inl =>
  simp only [Option.some.injEq,Prod.mk.injEq] at H
  obtain ⟨rfl,rfl,rfl⟩:=H
  go_enter Try.func133,Try.ntmps133
  go_wp2_with (first|(refine aqI (N:=2) rfl ?_;refine cz 2 #[.int .i64 0,.slice none 0 0] 26 bl ?_;intro aA w61 aa aqF HB;have aqR:=aqF)|(refine aqz (f:=135) rfl ?_;refine gC (some 10) Try.func135 #[.string a0,.int .u8 58] ?_;(with_reducible refine (gJ.calls k a0 58 t102 _ A2.z).mono ?_);rintro e w62 ⟨ary,rfl,aD,hb⟩;refine ⟨_,rfl,?_⟩;have bU:=k0 (Kd.cA aD (aqG bl));replace aa:=kB aa hb;replace HB:=bW hb;obtain ⟨akB,anF,rfl⟩:=Kd.cy bU.z;obtain ⟨_,_,_,_⟩:=aqA aa))
  refine bodyPost_ret (y5 rfl _ _ aA 26 #[.int .i64 0,.slice none 0 0] (0,0) _ rfl kZ Try.underlying26 rfl (by kernel_rfl)) rfl ?_
  exact ⟨_,eR,by first|exact Kd.ase _ _ _ _ _|exact Kd.sX _ _ _ _ _|exact Kd.s6 _ _ _ _ _|exact Kd.sZ _ _ _ _ _|exact Kd.p6 _ _ _ _ _,bl⟩
 replace H:=iS H;obtain ⟨c4,H⟩:=H
 have ej:=decide_eq_true c4
 have qc:decide (0 < t102.length)=true:=decide_eq_true (by omega)
 clear c4
 replace H:=bS H;obtain ⟨t106,A5,H⟩:=H
 obtain ⟨nP,wH⟩:=nY (([]:List (List Int)):List (List Int))
 replace H:(if 1 < (t102.length:Int) then ((gJ.f k (gy ByteArray.empty t102 1) 44).bind fun t112=>(if (gy ByteArray.empty t102 1).toList=([]:List UInt8) then (aq0.j0 k (([]:List ByteArray)) t106 nP) else (aq0.j0 k t112 t106 nP))) else (none))=some (r1,r2,r3):=rH wH.z H
 replace H:=iS H;obtain ⟨c6,H⟩:=H
 have fN:=decide_eq_true c6
 have lJ:decide (1 < t102.length)=true:=decide_eq_true (by omega)
 clear c6
 replace H:=bS H;obtain ⟨t112,A7,H⟩:=H
 have Kk:=k0 H
 clear H
 go_enter Try.func133,Try.ntmps133
 go_upto_if 28 with (first|(refine aqI (N:=2) rfl ?_;refine cz 2 #[.int .i64 0,.slice none 0 0] 26 bl ?_;intro aA w9 aa aqF HB;have aqR:=aqF)|(refine aqz (f:=135) rfl ?_;refine gC (some 10) Try.func135 #[.string a0,.int .u8 58] ?_;(with_reducible refine (gJ.calls k a0 58 t102 _ A2.z).mono ?_);rintro e jh ⟨ary,rfl,aD,hb⟩;refine ⟨_,rfl,?_⟩;have bU:=k0 (Kd.cA aD (aqG bl));replace aa:=kB aa hb;replace HB:=bW hb;obtain ⟨eJ,dg,rfl⟩:=Kd.cy bU.z;have fZ:0≤(0:Int):=(by omega);have f_:0 < (t102.length:Int):=oD;obtain ⟨oY,e105,fJ⟩:=Kd.xQ (Kd.aqP bU.z).2.2 0 fZ f_;cases e105;have CO:(0 < t102.length)=True:=eq_true (by omega);(try rw [show ((0:Int)).toNat=0 from rfl] at fJ);(try rw [Addr.add_zero'] at fJ);replace fZ:=eT fZ;replace f_:=eT f_)|(refine aqz (f:=136) rfl ?_;refine gC (some 18) Try.func136 #[.string (gy ByteArray.empty t102 0)] ?_;(with_reducible refine (fE.calls k (gy ByteArray.empty t102 0) t106 _ A5.z).mono ?_);rintro e w' ⟨rfl,⟨nd,rfl⟩⟩;refine ⟨_,rfl,?_⟩;(try (rw [Hx jh];generalize iz:World.drewN jh _=jh;have fX:ai (Kd.R Kd.string 9 jh w.heap.size (fun _=>True) (.slice (some oY) t102.length dg) t102):=⟨by rw [← iz];exact (aR bU.z)⟩;have fY:ai (jh.heap[aA]?=some (.cells #[.int .i64 0,.slice none 0 0] 26 (0,0))):=⟨by rw [← iz];exact bk⟩;have iJ:ai (Below w.heap.size w jh):=⟨by rw [← iz];exact bl⟩;clear bU aa HB iz;have bU:=fX;have aa:=fY;have HB:=iJ;clear fX fY iJ)))|(refine aqI (N:=19) rfl ?_;refine Kd.zP (Kd.slice 2 (Kd.int .i64)) _ 29 ?hg (N:=19) ?hd (xs:=([]:List (List Int))) (inner:=[]) (ok:=fun _=>True) (bw:=fun _=>True) ?hr ?hp (fun _ hk=>hk) trivial (Below.refl _ _) (Nat.le_refl _) (by simp) ?_;(case hd=>rfl);(case hg=>rfl);(case hr=>first|(go_simp;done)|(go_simp;rfl));(case hp=>exact (aH.none _ _));intro q3 oB om hb bH bI;clear bH bI;(first|rw [← wH.z] at om|(simp only [Int.reduceToNat] at om;rw [← wH.z] at om));replace bU:=eC bU hb;have bD:=k0 (Kd.fT om (aqG bl));replace aa:=kB aa hb;replace HB:=bW hb;clear hb om;obtain ⟨jD,jM,rfl⟩:=Kd.dL bD.z)|(refine aqI (N:=5) rfl ?_;refine fu 5 #[.int .i64 0,.slice none 0 0] 26 ?_;intro yc hg pH bq hb;replace bU:=eC bU hb;replace bD:=iG bD hb;have eN:=k0 (bq);have Y7:=gW hg (aqG bl);have akS:=Y7;replace HB:=bW hb;have KN:=nL hg aa;have GN:=nG KN;replace aa:=kB aa hb;clear hb bq hg;obtain ⟨_,_⟩:=nE GN;obtain ⟨_,_,_,_⟩:=aqA eN;have mS:0≤(1:Int):=(by omega);have kA:1 < (t102.length:Int):=oD;obtain ⟨uq,e111,tu⟩:=Kd.xQ (Kd.aqP bU.z).2.2 1 mS kA;obtain rfl:oY=uq:=(by injection e111);(try simp only [show (1:Int).toNat=1 from rfl,Nat.reduceMul,Nat.reduceEqDiff,Go.Addr.add,↓reduceIte] at tu);have ao9:(1 < t102.length)=True:=eq_true (by omega);(try rw [show ((1:Int)).toNat=1 from rfl] at tu);have ato:oY.block ≠ yc:=Kd.NK (Kd.aro bU.z eN.z (by decide));have atp:oY.block ≠ yc:=Kd.NK (Kd.aro bU.z eN.z (by decide));replace tu:=(cell_far (p:=⟨yc,0,none⟩) (by first|(rw [add_block];exact ato)|(show (Addr.add _ _).block ≠ _;rw [add_block];exact ato)|exact ato) (.int .i64 t106)).trans tu;replace tu:=(cell_far (p:=⟨yc,1,none⟩) (by first|(rw [add_block];exact atp)|(show (Addr.add _ _).block ≠ _;rw [add_block];exact atp)|exact atp) (.slice jD nP.length jM)).trans tu;clear ato;clear atp;replace mS:=eT mS;replace kA:=eT kA)|(refine aqz (f:=135) rfl ?_;refine gC (some 24) Try.func135 #[.string (gy ByteArray.empty t102 1),.int .u8 44] ?_;(with_reducible refine (gJ.calls k (gy ByteArray.empty t102 1) 44 t112 _ A7.z).mono ?_);rintro e tO ⟨atJ,rfl,aD,hb⟩;refine ⟨_,rfl,?_⟩;replace bD:=k0 (Kd.zN (AZ bD eN) hb);have vK:=k0 (Kd.cA (Kd.kS aD (Kd.eZ (OC bU eN))) (aqG bl));replace bU:=k0 (Kd.K6 (OC bU eN) (Kd.cm aD) hb);replace aa:=kF aa hb;replace eN:=kP (sO t106 jD nP jM 26) eN hb;replace HB:=bW hb;have qQ:0≤(1:Int):=(by omega);have qW:1 < (t102.length:Int):=oD;obtain ⟨BO,e115,vY⟩:=Kd.xQ (Kd.aqP bU.z).2.2 1 qQ qW;obtain rfl:oY=BO:=(by injection e115);(try simp only [show (1:Int).toNat=1 from rfl,Nat.reduceMul,Nat.reduceEqDiff,Go.Addr.add,↓reduceIte] at vY);have ao':(1 < t102.length)=True:=eq_true (by omega);(try rw [show ((1:Int)).toNat=1 from rfl] at vY);replace qQ:=eT qQ;replace qW:=eT qW))
 (try simp only [Act.put,zI,zZ,zS])
 go_cut [6] (fun v6 wc=>∃ (kq:Nat) (sL:List ByteArray),ai (aq0.j0 kq sL t106 nP=some (r1,r2,r3))∧ai (kq≤k)∧ai (Kd.R Kd.string 9 wc w.heap.size (fun _=>True) v6 sL)∧ai (Kd.S (Kd.slice 2 (Kd.int .i64)) 29 wc w.heap.size (fun _=>True) (.slice jD nP.length jM) nP)∧ai (wc.heap[aA]?=some (.cells #[.int .i64 0,(.slice none 0 0)] 26 (0,0)))∧ai (wc.heap[yc]?=some (sO t106 jD nP jM 26))∧ai (Below w.heap.size w wc))
 case first =>
  have H:=Kk.z
  clear Kk
  by_cases c19:(gy ByteArray.empty t102 1).toList=([]:List UInt8)
  case neg =>
   rw [if_neg c19] at H
   have xZ:=beq_eq_false_iff_ne.mpr c19
   have Ly:List.isEmpty ((gy ByteArray.empty t102 1).toList)=false:=by cases h_:((gy ByteArray.empty t102 1).toList) with|nil=>exact absurd h_ c19|cons _ _=>rfl
   have Lx:=bne_iff_ne.mpr c19
   (first|rw [xZ]|(simp only [bJ,ck];rw [xZ])|rw [Ly]|skip)
   have H':=k0 H
   clear H
   go_wp2
   go_meet
   case rel=>exact ⟨_,(t112),H',⟨oL⟩,⟨aR (Kd.aqM vK.z (fun _ hk=>trivial))⟩,⟨aS (bD.z)⟩,⟨bk⟩,⟨bk⟩,⟨bl⟩⟩
  rw [if_pos c19] at H
  have xZ:=beq_iff_eq.mpr c19
  have Ly:List.isEmpty ((gy ByteArray.empty t102 1).toList)=true:=by rw [c19];rfl
  have Lx:=bne_eq_false_iff_eq.mpr c19
  clear c19
  (first|rw [xZ]|(simp only [bJ,ck];rw [xZ])|rw [Ly]|skip)
  obtain ⟨oH,rZ⟩:=nY (([]:List ByteArray):List ByteArray)
  replace H:(aq0.j0 k oH t106 nP)=some (r1,r2,r3):=rH rZ.z H
  have H':=k0 H
  clear H
  go_wp2_with (first|(refine aqI (N:=29) rfl ?_;refine Kd.gw Kd.string _ 9 ?hg (N:=29) ?hd (xs:=([]:List ByteArray)) (inner:=[]) (ok:=fun _=>True) (bw:=fun _=>True) ?hr ?hp (fun _ hk=>hk) trivial (Below.refl _ _) (Nat.le_refl _) (by simp) ?_;(case hd=>rfl);(case hg=>rfl);(case hr=>first|(go_simp;done)|(go_simp;rfl));(case hp=>exact (aH.none _ _));intro ajt wm sq hb bH bI;clear bH bI;(first|rw [← rZ.z] at sq|(simp only [Int.reduceToNat] at sq;rw [← rZ.z] at sq));replace bD:=iG bD hb;have Br:=k0 (Kd.cA (Kd.kS (Kd.kS sq (Kd.eZ (aR bU.z))) (Kd.eZ (aR vK.z))) (aqG bl));replace bU:=l_ bU (Kd.cm sq) hb;replace vK:=l_ vK (Kd.cm sq) hb;replace aa:=kB aa hb;replace eN:=kB eN hb;replace HB:=bW hb;clear hb sq))
  go_meet
  case rel=>exact ⟨_,(oH),H',⟨oL⟩,⟨aR (Kd.aqM Br.z (fun _ hk=>trivial))⟩,⟨aS (bD.z)⟩,⟨bk⟩,⟨bk⟩,⟨bl⟩⟩
 case rest =>
  clear Kk
  obtain ⟨kq,sL,HA,P4,cn,iD,aa,eN,HB⟩:=hcut
  cases kq with
  | zero=>exact absurd HA.z (by simp [aq0.j0])
  | succ VR =>
   have H:=HA.z
   clear HA
   simp only [aq0.j0] at H
   have H':=k0 H
   clear H
   go_wp2
   go_loopg [7] VR (fun kq v7 w'=>∃ (dQ:Int) (OW:Int) (sC:List (List Int)) (u111001:Value),v7=.int .i64 dQ∧ai (aq0.l0 kq sL dQ t106 sC=some (r1,r2,r3))∧ai (kq≤VR)∧ai (Kd.R Kd.string 9 w' w.heap.size (fun _=>True) u6 sL)∧ai (Kd.S (Kd.slice 2 (Kd.int .i64)) 29 w' w.heap.size (fun _=>True) u111001 sC)∧ai (w'.heap[aA]?=some (.cells #[.int .i64 OW,(.slice none 0 0)] 26 (0,0)))∧ai (w'.heap[yc]?=some (.cells #[.int .i64 t106,u111001] 26 (0,0)))∧ai (Below w.heap.size w w'))
   case atStart=>exact ⟨(0),(0),(nP),(.slice jD nP.length jM),rs,H',⟨Nat.le_refl _⟩,⟨aR (cn.z)⟩,⟨aS (iD.z)⟩,⟨bk⟩,⟨bk⟩,⟨bl⟩⟩
   case round =>
    clear H'
    obtain ⟨dQ,OW,sC,u111001,rfl,HA,aqL,cn,iD,aa,eN,HB⟩:=hrel
    cases gk with
    | zero=>exact absurd HA.z (by simp [aq0.l0])
    | succ k2 =>
     have H:=HA.z
     clear HA
     simp only [aq0.l0] at H
     replace H:=iC H;obtain ⟨B2,H⟩|⟨B2,H⟩:=H
     case inl =>
      replace H:=bS H;obtain ⟨t119,Bg,H⟩:=H
      cases t119
      case false =>
       replace H:=iF H
       simp only [Option.some.injEq,Prod.mk.injEq] at H
       obtain ⟨rfl,rfl,rfl⟩:=H
       obtain ⟨JV,wO,rfl⟩:=Kd.cy cn.z
       obtain ⟨_,_⟩:=nE GN
       obtain ⟨_,_,_,_⟩:=aqA eN
       obtain ⟨Pt,LX,rfl⟩:=Kd.dL iD.z
       go_wp2_with (first|(refine aqz (f:=68) rfl ?_;refine gC (some 60) Try.func68 #[.agg #[.int .i64 t106,.slice Pt sC.length LX]] ?_;(with_reducible refine (dB.calls k2 t106 _ _ sC false _ ?aq ?au Bg.z).mono ?_);(case aq=>exact aC ((Kd.a_ iD.z).2.2));(case au=>exact (Kd.a_ iD.z).2.1);rintro e xd ⟨rfl,hb⟩;refine ⟨_,rfl,?_⟩;replace cn:=eC cn hb;replace iD:=iG iD hb;replace aa:=kB aa hb;replace eN:=kB eN hb;replace HB:=bW hb;obtain ⟨_,_,_,_⟩:=aqA aa))
       refine bodyPost_ret (y5 rfl _ _ aA 26 #[.int .i64 0,.slice none 0 0] (0,0) _ rfl kZ Try.underlying26 rfl (by kernel_rfl)) rfl ?_
       exact ⟨_,eR,by first|exact Kd.ase _ _ _ _ _|exact Kd.sX _ _ _ _ _|exact Kd.s6 _ _ _ _ _|exact Kd.sZ _ _ _ _ _|exact Kd.p6 _ _ _ _ _,bl⟩
      replace H:=iT H
      simp only [Option.some.injEq,Prod.mk.injEq] at H
      obtain ⟨rfl,rfl,rfl⟩:=H
      obtain ⟨akx,anC,rfl⟩:=Kd.cy cn.z
      obtain ⟨_,_⟩:=nE GN
      obtain ⟨_,_,_,_⟩:=aqA eN
      obtain ⟨Bi,Ca,rfl⟩:=Kd.dL iD.z
      go_wp2_with (first|(refine aqz (f:=68) rfl ?_;refine gC (some 60) Try.func68 #[.agg #[.int .i64 t106,.slice Bi sC.length Ca]] ?_;(with_reducible refine (dB.calls k2 t106 _ _ sC true _ ?aq ?au Bg.z).mono ?_);(case aq=>exact aC ((Kd.a_ iD.z).2.2));(case au=>exact (Kd.a_ iD.z).2.1);rintro e w52 ⟨rfl,hb⟩;refine ⟨_,rfl,?_⟩;replace cn:=eC cn hb;replace iD:=iG iD hb;replace aa:=kB aa hb;replace eN:=kB eN hb;replace HB:=bW hb;obtain ⟨_,_,_,_⟩:=aqA eN;obtain ⟨_,_,_,_⟩:=aqA aa))
      refine bodyPost_ret (y5 rfl _ _ aA 26 #[.int .i64 t106,.slice Bi sC.length Ca] (0,0) _ rfl kZ Try.underlying26 rfl (by kernel_rfl)) rfl ?_
      exact ⟨_,eR,aS (Kd.b6 (gS 1 (.slice Bi sC.length Ca) (gS 0 (.int .i64 t106) (tS iD aa))) (fun _ hk=>trivial)),bl⟩
     replace H:=iS H;obtain ⟨c23,H⟩:=H
     have RX:=decide_eq_true c23
     clear c23
     replace H:=bS H;obtain ⟨t121,Bf,H⟩:=H
     replace H:=iE H;obtain ⟨c25,asz,G8,H⟩|⟨asz,G8,H⟩:=H
     case inl =>
      simp only [Option.some.injEq,Prod.mk.injEq] at H
      obtain ⟨rfl,rfl,rfl⟩:=H
      obtain ⟨akv,anA,rfl⟩:=Kd.cy cn.z
      obtain ⟨lf,lp⟩:=iN dQ (sL.length:Int)
      obtain ⟨wK,e120,sr⟩:=Kd.xQ (Kd.aqP cn.z).2.2 dQ lf lp
      cases e120
      replace lf:=eT lf
      replace lp:=eT lp
      go_wp2_with (first|(refine aqz (f:=135) rfl ?_;refine gC (some 40) Try.func135 #[.string (gy ByteArray.empty sL dQ),.int .u8 45] ?_;(with_reducible refine (gJ.calls k2 (gy ByteArray.empty sL dQ) 45 t121 _ Bf.z).mono ?_);rintro e Xd ⟨F1,rfl,aD,hb⟩;refine ⟨_,rfl,?_⟩;replace iD:=iG iD hb;have arh:=k0 (Kd.cA (Kd.kS aD (Kd.eZ (aR cn.z))) (aqG bl));replace cn:=l_ cn (Kd.cm aD) hb;replace aa:=kB aa hb;replace eN:=kB eN hb;replace HB:=bW hb;obtain ⟨Pq,Sv,rfl⟩:=Kd.cy arh.z;obtain ⟨_,_⟩:=nE KN;obtain ⟨_,_,_,_⟩:=aqA aa))
      refine bodyPost_ret (y5 rfl _ _ aA 26 #[.int .i64 0,.slice none 0 0] (0,0) _ rfl kZ Try.underlying26 rfl (by kernel_rfl)) rfl ?_
      exact ⟨_,eR,by first|exact Kd.ase _ _ _ _ _|exact Kd.sX _ _ _ _ _|exact Kd.s6 _ _ _ _ _|exact Kd.sZ _ _ _ _ _|exact Kd.p6 _ _ _ _ _,bl⟩
     replace H:=iS H;obtain ⟨c26,H⟩:=H
     have as0:=decide_eq_true c26
     have RY:decide (0 < t121.length)=true:=decide_eq_true (by omega)
     clear c26
     replace H:=bS H;obtain ⟨t125,X2,H⟩:=H
     replace H:=iS H;obtain ⟨c28,H⟩:=H
     have G9:=decide_eq_true c28
     have acU:decide (1 < t121.length)=true:=decide_eq_true (by omega)
     clear c28
     replace H:=bS H;obtain ⟨t127,X3,H⟩:=H
     obtain ⟨Gf,KZ⟩:=nY (([t125,t127]:List Int):List Int)
     replace H:(if sC.length < 5864062014805 then (aq0.l0 k2 sL (wrap64 (dQ+1)) t106 (sC ++ [Gf])) else (none))=some (r1,r2,r3):=rH KZ.z H
     replace H:=iS H;obtain ⟨c30,H⟩:=H
     have aac:=k0 c30
     clear c30
     obtain ⟨Gg,QK⟩:=nY (sC ++ [Gf]:List (List Int))
     replace H:(aq0.l0 k2 sL (wrap64 (dQ+1)) t106 Gg)=some (r1,r2,r3):=rH QK.z H
     have H':=k0 H
     clear H
     obtain ⟨zm,vR,rfl⟩:=Kd.cy cn.z
     obtain ⟨lf,lp⟩:=iN dQ (sL.length:Int)
     obtain ⟨wK,e120,sr⟩:=Kd.xQ (Kd.aqP cn.z).2.2 dQ lf lp
     cases e120
     replace lf:=eT lf
     replace lp:=eT lp
     try go_wp2_with (first|(refine aqz (f:=135) rfl ?_;refine gC (some 40) Try.func135 #[.string (gy ByteArray.empty sL dQ),.int .u8 45] ?_;(with_reducible refine (gJ.calls k2 (gy ByteArray.empty sL dQ) 45 t121 _ Bf.z).mono ?_);rintro e as_ ⟨F1,rfl,aD,hb⟩;refine ⟨_,rfl,?_⟩;replace iD:=iG iD hb;have arh:=k0 (Kd.cA (Kd.kS aD (Kd.eZ (aR cn.z))) (aqG bl));replace cn:=l_ cn (Kd.cm aD) hb;replace aa:=kB aa hb;replace eN:=kB eN hb;replace HB:=bW hb;obtain ⟨C4,D4,rfl⟩:=Kd.cy arh.z))
     replace cn:=k0 (Kd.fG cn.z);replace iD:=k0 (Kd.gf iD.z);replace arh:=k0 (Kd.fG arh.z);replace aa:=k0 (cJ aa.z);replace eN:=k0 (cJ eN.z);replace HB:=k0 (aqW HB.z)
     have yJ:0≤(0:Int):=(by omega)
     have yS:0 < (t121.length:Int):=oD
     obtain ⟨BP,e124,yx⟩:=Kd.xQ (Kd.aqP arh.z).2.2 0 yJ yS
     cases e124
     have ao_:(0 < t121.length)=True:=eq_true (by omega)
     (try rw [show ((0:Int)).toNat=0 from rfl] at yx)
     (try rw [Addr.add_zero'] at yx)
     replace yJ:=eT yJ
     replace yS:=eT yS
     have AE:0≤(1:Int):=(by omega)
     have AP:1 < (t121.length:Int):=oD
     obtain ⟨Lc,e126,wV⟩:=Kd.xQ (Kd.aqP arh.z).2.2 1 AE AP
     obtain rfl:BP=Lc:=(by injection e126)
     (try simp only [show (1:Int).toNat=1 from rfl,Nat.reduceMul,Nat.reduceEqDiff,Go.Addr.add,↓reduceIte] at wV)
     have apa:(1 < t121.length)=True:=eq_true (by omega)
     (try rw [show ((1:Int)).toNat=1 from rfl] at wV)
     replace AE:=eT AE
     replace AP:=eT AP
     refine gz (n:=15) (S:=fun w'=>w'.cell? ⟨yc,0,none⟩=some (.int .i64 t106)∧w'.cell? ⟨yc,1,none⟩=some (u111001)∧w'.cell? BP=some (.string (gy ByteArray.empty t121 0))∧w'.cell? ⟨BP.block,BP.off+1,none⟩=some (.string (gy ByteArray.empty t121 1))) (ds:=[12,14]) (ba 15 0) (by kernel_rfl) rfl rfl ⟨cH eN,cE eN,yx,wV⟩ (fun hHeld=>?_);refine hJ aq0.aja aq0.abV (fun ak bE=>?_)
     generalize as_.drew=Jf at cn iD arh aa eN HB yx wV hHeld ⊢
     refine pu 0 (some 45) (ba 15 1) ak (h:=?_)
     refine pu 2 (some 47) (ba 15 5) ak (h:=?_)
     refine pu 3 (some 48) (ba 15 13) ak (h:=?_)
     refine pu 6 (some 51) (ba 15 77) ak (h:=?_)
     refine pu 7 (some 52) (ba 15 205) ak (h:=?_)
     refine ta 1 (some 46) (ba 15 207) ak bE hHeld (hy:=Or.inl ⟨by rfl,by rintro w' ⟨s0,s1,s2,s3⟩;go_simp;with_reducible rfl⟩) (h:=?_)
     refine ta 4 (some 49) (ba 15 223) ak bE hHeld (hy:=Or.inl ⟨by rfl,by rintro w' ⟨s0,s1,s2,s3⟩;go_simp;with_reducible rfl⟩) (h:=?_)
     refine ta 8 (some 53) (ba 15 479) ak bE hHeld (hy:=Or.inl ⟨by rfl,by rintro w' ⟨s0,s1,s2,s3⟩;go_simp;with_reducible rfl⟩) (h:=?_)
     refine eG (i:=5) (N:=some 50) (ba 15 511) rfl rfl (dU ak.out (by kernel_rfl)) (by decide) (fun K hK=>?_)
     refine iy Try.func136 (by kernel_rfl) rfl #[.string (gy ByteArray.empty t121 0)] (by rfl) rfl rfl gm ?_
     with_reducible refine (fE.calls k2 (gy ByteArray.empty t121 0) t125 _ X2.z).mono ?_
     rintro e w' ⟨rfl,⟨nd,rfl⟩⟩
     refine ⟨_,rfl,?_⟩
     refine hK.out _ _ ⟨cH eN,cE eN,hHeld.2.2.1,hHeld.2.2.2⟩ (fun hHeld=>?_)
     clear hK K
     refine eV (a':=?_) ?_ ?_
     rotate_left;· show Act.put _ (some 50) _=_;simp only [Act.put,zI,zZ,zS,bJ,ck];rfl
     refine eG (i:=9) (N:=some 54) (ba 15 1023) rfl rfl (dU ak.out (by kernel_rfl)) (by decide) (fun K hK=>?_)
     refine iy Try.func136 (by kernel_rfl) rfl #[.string (gy ByteArray.empty t121 1)] (by rfl) rfl rfl gm ?_
     with_reducible refine (fE.calls k2 (gy ByteArray.empty t121 1) t127 _ X3.z).mono ?_
     rintro e w' ⟨rfl,⟨nd,rfl⟩⟩
     refine ⟨_,rfl,?_⟩
     refine hK.out _ _ ⟨cH eN,cE eN,hHeld.2.2.1,hHeld.2.2.2⟩ (fun hHeld=>?_)
     clear hK K
     refine eV (a':=?_) ?_ ?_
     rotate_left;· show Act.put _ (some 54) _=_;simp only [Act.put,zI,zZ,zS,bJ,ck];rfl
     refine eG (i:=10) (N:=some 55) (ba 15 2047) rfl rfl (dU ak.out (by kernel_rfl)) (by decide) (fun K hK=>?_)
     refine Kd.GU (Kd.int .i64) _ 2 ?hg (N:=55) ?hd (xs:=([t125,t127]:List Int)) (inner:=[.int .i64 t125,.int .i64 t127]) (ok:=fun _=>True) (bw:=fun _=>True) ?hr ?hp (fun _ hk=>hk) trivial (Below.refl _ _) (Nat.le_refl _) (by simp) ?_;(case hd=>rfl);(case hg=>rfl);(case hr=>first|(go_simp;done)|(go_simp;rfl));(case hp=>exact (aH.one (show Kd.M (Kd.int .i64) _ _ _ t125 [.int .i64 t125] from rfl) (aH.one (show Kd.M (Kd.int .i64) _ _ _ t127 [.int .i64 t127] from rfl) (aH.none _ _))))
     intro apj Jg Cq hb bH bI
     have ki:=(hb.cell (World.block_lt_of_cell? _ _ (hHeld.2.2.1))).trans (hHeld.2.2.1)
     have ZM:=(hb.cell (World.block_lt_of_cell? _ _ (hHeld.2.2.2))).trans (hHeld.2.2.2)
     clear bH bI
     (first|rw [← KZ.z] at Cq|(simp only [Int.reduceToNat] at Cq;rw [← KZ.z] at Cq))
     replace cn:=eC cn hb;replace iD:=iw iD (Kd.cm Cq) hb;replace arh:=eC arh hb;have GD:=k0 (Kd.cA Cq (aqG bl));replace aa:=kB aa hb;replace eN:=kB eN hb;replace HB:=bW hb
     clear hb Cq
     obtain ⟨Po,St,SW⟩:=Kd.cy GD.z
     (first|subst SW|(injection SW with gh jY fU;have jZ:=gh.symm;have arq:=fU.symm;clear gh jY fU;subst jZ;subst arq))
     refine hK.out _ _ ⟨cH eN,cE eN,ki,ZM⟩ (fun hHeld=>?_)
     clear hK K
     refine eV (a':=?_) ?_ ?_
     rotate_left;· show Act.put _ (some 55) _=_;simp only [Act.put,zI,zZ,zS,bJ,ck];rfl
     refine eG (i:=11) (N:=some 56) (ba 15 4095) rfl rfl (dU ak.out (by kernel_rfl)) (by decide) (fun K hK=>?_)
     refine F4 (w1:=?_) (v:=?_) (by rfl) rfl ?_ ?_
     rotate_left 2
     ·go_simp
      constructor
      ·rfl
      ·rfl
     refine hK.out _ _ ⟨(fI (iW eN.z _) 0).trans rfl,(fI (iW eN.z _) 1).trans rfl,(World.cell?_alloc_lt _ _ _ (World.block_lt_of_cell? _ _ (hHeld.2.2.1))).trans (hHeld.2.2.1),(World.cell?_alloc_lt _ _ _ (World.block_lt_of_cell? _ _ (hHeld.2.2.2))).trans (hHeld.2.2.2)⟩ (fun hHeld=>?_)
     clear hK K
     refine eV (a':=?_) ?_ ?_
     rotate_left;· show Act.put _ (some 56) _=_;simp only [Act.put,zI,zZ,zS,bJ,ck];rfl
     refine tD (i:=12) (N:=some 57) (ba 15 8191) rfl rfl (dU ak.out (by kernel_rfl)) (by decide) (fun K hK=>?_)
     refine Kd.Rb (Kd.slice 2 (Kd.int .i64)) (w0:=w) w.heap.size (by rfl) (.tmp 46) (.tmp 56) 24 29 (.slice none 0 0) 24 rfl Try.underlying24 o_ rfl (by decide) (by omega) u111001 sC Gf [.slice Po Gf.length St] (fun _=>True) (fun k_=>some k_=(.slice Po Gf.length St:Value).ownBlock) rfl rfl ?aP (fun k_ aqJ=>((Kd.aqM (ok':=fun k_=>((fun _=>True)) k_∧some k_ ≠ (u111001:Value).ownBlock) (Kd.aq' (GD.z) (Kd.fH iD.z) (by decide)) (fun k_ hk=>⟨trivial,hk.2⟩))).1 k_ aqJ.symm) ?aF ?aO ?aB ?aS ?aL ?_
     (case aP=>exact Kd.lD (Kd.aqM (Kd.oV rfl (Kd.aqM (ok':=fun k_=>((fun _=>True)) k_∧some k_ ≠ (u111001:Value).ownBlock) (Kd.aq' (GD.z) (Kd.fH iD.z) (by decide)) (fun k_ hk=>⟨trivial,hk.2⟩))) (fun _ h_=>h_)))
     (case aB=>exact bl)
     (case aF=>exact (fun _ _=>trivial))
     (case aO=>exact (aS (Kd.b6 iD.z (fun k_ hk=>⟨trivial,fun e_=>hk.2 e_⟩))))
     (case aS=>exact (aqG bl))
     (case aL=>have:=aac.out;omega)
     intro apl OT ho hb hg bg
     rw [← QK.z] at ho
     replace cn:=k0 (Kd.Q_ (aR cn.z) (Kd.fH (aS iD.z)) (by decide) hg);replace aa:=k0 (aq2 (aB aa.z) hg (Kd.arl iD.z aa.z (by decide)));replace eN:=k0 (aq2 (aB eN.z) hg (Kd.arl iD.z eN.z (by decide)));replace arh:=k0 (Kd.Q_ (aR arh.z) (Kd.fH (aS iD.z)) (by decide) hg);replace HB:=k0 (hb);have P9:=k0 (ho);clear iD GD
     clear ho hb hg bg
     obtain ⟨JU,LW,SX⟩:=Kd.dL P9.z
     (first|subst SX|(injection SX with gh jY fU;have jZ:=gh.symm;have arq:=fU.symm;clear gh jY fU;subst jZ;subst arq))
     refine hK.out _ _ ?_
     clear hK K
     refine eV (a':=?_) ?_ ?_
     rotate_left;· show Act.put _ (some 57) _=_;simp only [Act.put,zI,zZ,zS,bJ,ck];rfl
     refine pu 13 (some 58) (ba 15 16383) ak (h:=?_)
     refine tD (i:=14) (N:=none) (ba 15 32767) rfl rfl (dU ak.out (by kernel_rfl)) (by decide) (fun K hK=>?_)
     have aoO:=cE eN
     have aoa:=bF eN 1
     have aoJ:=KN.z
     have aoC:=GN.z
     refine oz (w1:=?_) (by rfl) rfl ?_ ?_
     rotate_left;· go_simp;rfl
     refine hK.out _ _ ?_
     clear hK K
     refine gx (gZ ak.out (by kernel_rfl)) ?_
     try go_wp2
     go_roundg k2
     case measure=>have:=P4.out;have:=aqL.z;omega
     case rel=>exact ⟨(wrap64 (dQ+1)),(OW),(Gg),(.slice JU Gg.length LW),rs,H',⟨by have:=P4.out;have:=aqL.z;omega⟩,⟨aR (Kd.aqM (gR 1 (.slice JU Gg.length LW) (tR cn eN)) (fun _ hk=>trivial))⟩,⟨aS (Kd.b6 (gS 1 (.slice JU Gg.length LW) (tS P9 eN)) (fun _ hk=>trivial))⟩,⟨kZ⟩,⟨kZ⟩,⟨bl⟩⟩
/-! ### F134: function 134 -/
def C8.f (a0:ByteArray):Option (ByteArray):=if a0.toList=([112,111,105,110,116]:List UInt8) then (some (⟨#[49,58]⟩:ByteArray)) else (if a0.toList=([101,100,103,101]:List UInt8) then (some (⟨#[50,58,48,45,49]⟩:ByteArray)) else (if a0.toList=([108,111,111,112]:List UInt8) then (some (⟨#[49,58,48,45,48]⟩:ByteArray)) else (if a0.toList=([98,111,117,113,117,101,116]:List UInt8) then (some (⟨#[49,58,48,45,48,44,48,45,48]⟩:ByteArray)) else (if a0.toList=([116,104,101,116,97]:List UInt8) then (some (⟨#[50,58,48,45,49,44,48,45,49,44,48,45,49]⟩:ByteArray)) else (if a0.toList=([100,117,109,98,98,101,108,108]:List UInt8) then (some (⟨#[50,58,48,45,48,44,48,45,49,44,49,45,49]⟩:ByteArray)) else (if a0.toList=([116,114,105,97,110,103,108,101]:List UInt8) then (some (⟨#[51,58,48,45,49,44,49,45,50,44,50,45,48]⟩:ByteArray)) else (if a0.toList=([115,113,117,97,114,101]:List UInt8) then (some (⟨#[52,58,48,45,49,44,49,45,50,44,50,45,51,44,51,45,48]⟩:ByteArray)) else (if a0.toList=([112,101,110,116,97,103,111,110]:List UInt8) then (some (⟨#[53,58,48,45,49,44,49,45,50,44,50,45,51,44,51,45,52,44,52,45,48]⟩:ByteArray)) else (if a0.toList=([115,116,97,114]:List UInt8) then (some (⟨#[52,58,48,45,49,44,48,45,50,44,48,45,51]⟩:ByteArray)) else (if a0.toList=([100,105,97,109,111,110,100]:List UInt8) then (some (⟨#[52,58,48,45,49,44,49,45,50,44,50,45,51,44,51,45,48,44,48,45,50]⟩:ByteArray)) else (if a0.toList=([116,101,116,114,97,104,101,100,114,111,110]:List UInt8) then (some (⟨#[52,58,48,45,49,44,48,45,50,44,48,45,51,44,49,45,50,44,49,45,51,44,50,45,51]⟩:ByteArray)) else (if a0.toList=([112,114,105,115,109]:List UInt8) then (some (⟨#[54,58,48,45,49,44,49,45,50,44,50,45,48,44,51,45,52,44,52,45,53,44,53,45,51,44,48,45,51,44,49,45,52,44,50,45,53]⟩:ByteArray)) else (if a0.toList=([104,111,117,115,101,115]:List UInt8) then (some (⟨#[54,58,48,45,51,44,48,45,52,44,48,45,53,44,49,45,51,44,49,45,52,44,49,45,53,44,50,45,51,44,50,45,52,44,50,45,53]⟩:ByteArray)) else (some (⟨#[]⟩:ByteArray)))))))))))))))
theorem C8.calls (a0 : ByteArray) (r : ByteArray) (w : World) (h : C8.f a0 = some r) :
  Calls Try.prog 134 #[.string a0] w fun e w'=>e=.returned (.string r)∧eX w w':=by
 unfold C8.f at h
 have H:=h
 clear h
 replace H:=iE H;obtain ⟨c2,s_,He,H⟩|⟨s_,He,H⟩:=H
 case inl =>
  replace H:=iE H;obtain ⟨c3,ia,qb,H⟩|⟨ia,qb,H⟩:=H
  case inl =>
   replace H:=iE H;obtain ⟨c4,ej,qc,H⟩|⟨ej,qc,H⟩:=H
   case inl =>
    replace H:=iE H;obtain ⟨c5,gD,arP,H⟩|⟨gD,arP,H⟩:=H
    case inl =>
     replace H:=iE H;obtain ⟨c6,fN,lJ,H⟩|⟨fN,lJ,H⟩:=H
     case inl =>
      replace H:=iE H;obtain ⟨c7,l8,rD,H⟩|⟨l8,rD,H⟩:=H
      case inl =>
       replace H:=iE H;obtain ⟨c8,r7,wN,H⟩|⟨r7,wN,H⟩:=H
       case inl =>
        replace H:=iE H;obtain ⟨c9,td,Hg,H⟩|⟨td,Hg,H⟩:=H
        case inl =>
         replace H:=iE H;obtain ⟨c10,vN,RU,H⟩|⟨vN,RU,H⟩:=H
         case inl =>
          replace H:=iE H;obtain ⟨c11,jy,vO,H⟩|⟨jy,vO,H⟩:=H
          case inl =>
           replace H:=iE H;obtain ⟨c12,arN,zW,H⟩|⟨arN,zW,H⟩:=H
           case inl =>
            replace H:=iE H;obtain ⟨c13,arT,Lw,H⟩|⟨arT,Lw,H⟩:=H
            case inl =>
             replace H:=iE H;obtain ⟨c14,mH,DS,H⟩|⟨mH,DS,H⟩:=H
             case inl =>
              replace H:=iE H;obtain ⟨c15,kU,zY,H⟩|⟨kU,zY,H⟩:=H
              case inl =>
               obtain rfl:=Option.some.inj H
               go_enter Try.func134,Try.ntmps134
               go_wp2
               go_ret
               exact ⟨rs,dW⟩
              obtain rfl:=Option.some.inj H
              go_enter Try.func134,Try.ntmps134
              go_wp2
              go_ret
              exact ⟨rs,dW⟩
             obtain rfl:=Option.some.inj H
             go_enter Try.func134,Try.ntmps134
             go_wp2
             go_ret
             exact ⟨rs,dW⟩
            obtain rfl:=Option.some.inj H
            go_enter Try.func134,Try.ntmps134
            go_wp2
            go_ret
            exact ⟨rs,dW⟩
           obtain rfl:=Option.some.inj H
           go_enter Try.func134,Try.ntmps134
           go_wp2
           go_ret
           exact ⟨rs,dW⟩
          obtain rfl:=Option.some.inj H
          go_enter Try.func134,Try.ntmps134
          go_wp2
          go_ret
          exact ⟨rs,dW⟩
         obtain rfl:=Option.some.inj H
         go_enter Try.func134,Try.ntmps134
         go_wp2
         go_ret
         exact ⟨rs,dW⟩
        obtain rfl:=Option.some.inj H
        go_enter Try.func134,Try.ntmps134
        go_wp2
        go_ret
        exact ⟨rs,dW⟩
       obtain rfl:=Option.some.inj H
       go_enter Try.func134,Try.ntmps134
       go_wp2
       go_ret
       exact ⟨rs,dW⟩
      obtain rfl:=Option.some.inj H
      go_enter Try.func134,Try.ntmps134
      go_wp2
      go_ret
      exact ⟨rs,dW⟩
     obtain rfl:=Option.some.inj H
     go_enter Try.func134,Try.ntmps134
     go_wp2
     go_ret
     exact ⟨rs,dW⟩
    obtain rfl:=Option.some.inj H
    go_enter Try.func134,Try.ntmps134
    go_wp2
    go_ret
    exact ⟨rs,dW⟩
   obtain rfl:=Option.some.inj H
   go_enter Try.func134,Try.ntmps134
   go_wp2
   go_ret
   exact ⟨rs,dW⟩
  obtain rfl:=Option.some.inj H
  go_enter Try.func134,Try.ntmps134
  go_wp2
  go_ret
  exact ⟨rs,dW⟩
 obtain rfl:=Option.some.inj H
 go_enter Try.func134,Try.ntmps134
 go_wp2
 go_ret
 exact ⟨rs,dW⟩
/-! ### F128: function 128 -/
def rT.f (k:Nat) (a0:ByteArray):Option (Int × (List (List Int)) × Bool):=(C8.f a0).bind fun t102=>((aq0.f k t102).bind fun kT=>(some (kT.1,kT.2.1,kT.2.2)))
theorem rT.calls (k : Nat) (a0 : ByteArray) (r1 : Int) (r2 : List (List Int)) (r3 : Bool) (w : World) (h : rT.f k a0 = some (r1, r2, r3)) :
  Calls Try.prog 128 #[.string a0] w fun e w'=>∃ fK:Value,e=.returned (.tuple #[.agg #[.int .i64 r1,fK],.bool r3])∧Kd.S (Kd.slice 2 (Kd.int .i64)) 29 w' w.heap.size (fun _=>True) fK r2∧Below w.heap.size w w':=by
 have eE:=Try.underlying26
 have HB:=k0 (Below.refl w.heap.size w)
 unfold rT.f at h
 have H:=h
 clear h
 replace H:=bS H;obtain ⟨t102,A2,H⟩:=H
 replace H:=bS H;obtain ⟨⟨t103,t104,t107⟩,A3,H⟩:=H
 dsimp only at H
 simp only [Option.some.injEq,Prod.mk.injEq] at H
 obtain ⟨rfl,rfl,rfl⟩:=H
 go_enter Try.func128,Try.ntmps128
 go_wp2_with (first|(refine aqI (N:=2) rfl ?_;refine cz 2 #[.int .i64 0,.slice none 0 0] 26 bl ?_;intro aA w4 aa aqF HB;have aqR:=aqF)|(refine aqz (f:=134) rfl ?_;refine gC (some 8) Try.func134 #[.string a0] ?_;(with_reducible refine (C8.calls a0 t102 _ A2.z).mono ?_);rintro e w' ⟨rfl,⟨nd,rfl⟩⟩;refine ⟨_,rfl,?_⟩;(try (rw [Hx w4];generalize iz:World.drewN w4 _=w4;have fX:ai (w4.heap[aA]?=some (.cells #[.int .i64 0,.slice none 0 0] 26 (0,0))):=⟨by rw [← iz];exact bk⟩;have fY:ai (Below w.heap.size w w4):=⟨by rw [← iz];exact bl⟩;clear aa HB iz;have aa:=fX;have HB:=fY;clear fX fY)))|(refine aqz (f:=133) rfl ?_;refine gC (some 9) Try.func133 #[.string t102] ?_;(with_reducible refine (aq0.calls k t102 t103 t104 t107 _ A3.z).mono ?_);rintro e w5 ⟨wj,rfl,aD,hb⟩;refine ⟨_,rfl,?_⟩;have fF:=k0 (Kd.fT aD (aqG bl));replace aa:=kB aa hb;replace HB:=bW hb)|(refine aqI (N:=4) rfl ?_;refine fu 4 #[.int .i64 0,.slice none 0 0] 26 ?_;intro Td hg w6 bq hb;replace fF:=iG fF hb;have Px:=k0 (bq);have Y6:=gW hg (aqG bl);have akR:=Y6;replace HB:=bW hb;have aaj:=nL hg aa;have aas:=nG aaj;replace aa:=kB aa hb;clear hb bq hg;obtain ⟨_,_⟩:=nE aas;obtain ⟨_,_,_,_⟩:=aqA Px;obtain ⟨sQ,qf,rfl⟩:=Kd.dL fF.z;obtain ⟨_,_,_,_⟩:=aqA aa))
 refine bodyPost_ret (y5 rfl _ _ aA 26 #[.int .i64 t103,.slice sQ t104.length qf] (0,0) _ rfl kZ Try.underlying26 rfl (by kernel_rfl)) rfl ?_
 exact ⟨_,eR,aS (Kd.b6 (Kd.oW (p:=⟨aA,1,none⟩) (Kd.oW (p:=⟨aA,0,none⟩) (Kd.oW (p:=⟨Td,1,none⟩) (Kd.oW (p:=⟨Td,0,none⟩) (Kd.xO (tS fF Px) aa.z (by decide)) (fun _ hk=>hk.1.2) (.int .i64 t103)) (fun _ hk=>hk.1.2) (.slice sQ t104.length qf)) (fun _ hk=>hk.2) (.int .i64 t103)) (fun _ hk=>hk.2) (.slice sQ t104.length qf)) (fun _ hk=>trivial)),bl⟩
end Go.Proofs.Ytapnggjaeehpdaa.A
/- Set with little white space, by a program. -/
