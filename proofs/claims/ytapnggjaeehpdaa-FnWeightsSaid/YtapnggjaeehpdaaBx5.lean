/- Go's calls come to what the Lean functions say. Condition of each: that the Lean function answers. -/
import Derived.Test.YtapnggjaeehpdaaBx0
import Derived.Test.YtapnggjaeehpdaaBx4
namespace Go.Proofs.Ytapnggjaeehpdaa.B
open Go.RowKit Go.Proofs.bz.dI Go.Proofs.bz.iY Go.Proofs.bz.jn
attribute [local go_sem] max2_int min2_int max_two min_two max_three min_three max_four min_four
set_option linter.unusedVariables false
set_option linter.unusedSimpArgs false
set_option maxHeartbeats 8000000
set_option maxRecDepth 100000
/-! ### F133: function 133 -/
mutual
def eX.j0 : Nat → List ByteArray → Int → List (List Int) → Option (Int × (List (List Int)) × Bool)
 | 0,_,_,_=>none
 | k+1,x6,IE,Fg=>eX.l0 k x6 0 IE Fg
def eX.l0 : Nat → List ByteArray → Int → Int → List (List Int) → Option (Int × (List (List Int)) × Bool)
 | 0,_,_,_,_=>none
 | k+1,x6,x7,IE,Fg=>if x7 < (x6.length:Int) then (if 0≤x7 then ((iq.f k (atF ByteArray.empty x6 x7) 45).bind fun t121=>(if (t121.length:Int)=2 then (if 0 < (t121.length:Int) then ((gb.f k (atF ByteArray.empty t121 0)).bind fun t125=>(if 1 < (t121.length:Int) then ((gb.f k (atF ByteArray.empty t121 1)).bind fun t127=>(if Fg.length < 5864062014805 then (eX.l0 k x6 (wrap64 (x7+1)) IE (Fg ++ [(([t125,t127]:List Int))])) else (none))) else (none))) else (none)) else (some (0,([]:List (List Int)),false)))) else (none)) else ((dR.f k IE Fg).bind fun t119=>(if t119=true then (some (IE,Fg,true)) else (some (0,([]:List (List Int)),false))))
end
def eX.f (k:Nat) (a0:ByteArray):Option (Int × (List (List Int)) × Bool):=(iq.f k a0 58).bind fun t102=>(if (t102.length:Int)=2 then (if 0 < (t102.length:Int) then ((gb.f k (atF ByteArray.empty t102 0)).bind fun t106=>((some (([]:List (List Int)):List (List Int))).bind fun jl=>(if 1 < (t102.length:Int) then ((iq.f k (atF ByteArray.empty t102 1) 44).bind fun t112=>(if (atF ByteArray.empty t102 1).toList=([]:List UInt8) then (eX.j0 k (([]:List ByteArray)) t106 jl) else (eX.j0 k t112 t106 jl))) else (none)))) else (none)) else (some (0,([]:List (List Int)),false)))
def eX.TT:Bool × List (List Nat × List Nat):=(true,[([],[]),([0],[0]),([],[]),([2],[2]),([3],[3]),([4],[4]),([],[]),([6],[6]),([7],[7]),([8,5],[8]),([5,9],[5,9]),([10],[10]),([1,11,9],[1,11]),([0,1,2,3,4,5,6,7,8,9,10,11,12],[]),([13,12,12,0,1,2,3,4,5,6,7,8,9,10,11,12],[12,13])])
def eX.B14:List Nat:=[0,1,0,4,12,28,0,64,192,508,1020,2044,4095,8191,16383]
theorem eX.akz:eB .any (opsOf Try.f133 14)=eX.TT:=by kernel_rfl
theorem eX.adt:ie eX.TT.2 eX.B14=true:=by kernel_rfl
theorem eX.calls (k : Nat) (a0 : ByteArray) (r1 : Int) (r2 : List (List Int)) (r3 : Bool) (w : World) (h : eX.f k a0 = some (r1, r2, r3)) :
  Calls Try.prog 133 #[.string a0] w fun e w'=>∃ nP:Value,e=.returned (.tuple #[.agg #[.int .i64 r1,nP],.bool r3])∧Kd.S (Kd.slice 2 (Kd.int .i64)) 29 w' w.heap.size (fun _=>True) nP r2∧Below w.heap.size w w':=by
 have gV:=Try.underlying26
 have HB:=k0 (Below.refl w.heap.size w)
 unfold eX.f at h
 have H:=h
 clear h
 replace H:=bS H;obtain ⟨t102,A2,H⟩:=H
 replace H:=iE H;obtain ⟨c3,lC,vU,H⟩|⟨lC,vU,H⟩:=H
 case inl =>
  simp only [Option.some.injEq,Prod.mk.injEq] at H
  obtain ⟨rfl,rfl,rfl⟩:=H
  go_enter Try.func133,Try.ntmps133
  go_wp2_with (first|(refine aX (N:=2) rfl ?_;refine dL 2 #[.int .i64 0,.slice none 0 0] 26 bl ?_;intro ay w61 aa bn HB;have cG:=bn)|(refine aT (f:=135) rfl ?_;refine gC (some 10) Try.func135 #[.string a0,.int .u8 58] ?_;(with_reducible refine (iq.calls k a0 58 t102 _ A2.z).mono ?_);rintro e w62 ⟨zw,rfl,as2,hb⟩;refine ⟨_,rfl,?_⟩;have fh:=k0 (Kd.cg as2 (as8 bl));replace aa:=kB aa hb;replace HB:=bW hb;obtain ⟨amd,aoU,rfl⟩:=Kd.b9 fh.z;obtain ⟨_,_,_,_⟩:=as9 aa))
  refine bodyPost_ret (Ih rfl _ _ ay 26 #[.int .i64 0,.slice none 0 0] (0,0) _ rfl kZ Try.underlying26 rfl (by kernel_rfl)) rfl ?_
  exact ⟨_,eR,by first|exact Kd.xW _ _ _ _ _|exact Kd.xR _ _ _ _ _|exact Kd.xX _ _ _ _ _|exact Kd.xV _ _ _ _ _|exact Kd.rZ _ _ _ _ _,bl⟩
 replace H:=iS H;obtain ⟨c4,H⟩:=H
 have gI:=decide_eq_true c4
 have au4:decide (0 < t102.length)=true:=decide_eq_true (by omega)
 clear c4
 replace H:=bS H;obtain ⟨t106,A5,H⟩:=H
 obtain ⟨jl,lV⟩:=nY (([]:List (List Int)):List (List Int))
 replace H:(if 1 < (t102.length:Int) then ((iq.f k (atF ByteArray.empty t102 1) 44).bind fun t112=>(if (atF ByteArray.empty t102 1).toList=([]:List UInt8) then (eX.j0 k (([]:List ByteArray)) t106 jl) else (eX.j0 k t112 t106 jl))) else (none))=some (r1,r2,r3):=rH lV.z H
 replace H:=iS H;obtain ⟨c6,H⟩:=H
 have iP:=decide_eq_true c6
 have mY:decide (1 < t102.length)=true:=decide_eq_true (by omega)
 clear c6
 replace H:=bS H;obtain ⟨t112,A7,H⟩:=H
 have Mr:=k0 H
 clear H
 go_enter Try.func133,Try.ntmps133
 go_upto_if 28 with (first|(refine aX (N:=2) rfl ?_;refine dL 2 #[.int .i64 0,.slice none 0 0] 26 bl ?_;intro ay w9 aa bn HB;have cG:=bn)|(refine aT (f:=135) rfl ?_;refine gC (some 10) Try.func135 #[.string a0,.int .u8 58] ?_;(with_reducible refine (iq.calls k a0 58 t102 _ A2.z).mono ?_);rintro e pT ⟨zw,rfl,as2,hb⟩;refine ⟨_,rfl,?_⟩;have fh:=k0 (Kd.cg as2 (as8 bl));replace aa:=kB aa hb;replace HB:=bW hb;obtain ⟨gB,gx,rfl⟩:=Kd.b9 fh.z;have dm:0≤(0:Int):=(by omega);have c_:0 < (t102.length:Int):=oD;obtain ⟨jo,e105,dO⟩:=Kd.Ai (Kd.bD fh.z).2.2 0 dm c_;cases e105;have E5:(0 < t102.length)=True:=eq_true (by omega);(try rw [show ((0:Int)).toNat=0 from rfl] at dO);(try rw [Addr.add_zero'] at dO);replace dm:=eT dm;replace c_:=eT c_)|(refine aT (f:=136) rfl ?_;refine gC (some 18) Try.func136 #[.string (atF ByteArray.empty t102 0)] ?_;(with_reducible refine (gb.calls k (atF ByteArray.empty t102 0) t106 _ A5.z).mono ?_);rintro e w' ⟨rfl,⟨nd,rfl⟩⟩;refine ⟨_,rfl,?_⟩;(try (rw [U1 pT];generalize AU:World.drewN pT _=pT;have fC:af (Kd.R Kd.string 9 pT w.heap.size (fun _=>True) (.slice (some jo) t102.length gx) t102):=⟨by rw [← AU];exact (aR fh.z)⟩;have fD:af (pT.heap[ay]?=some (.cells #[.int .i64 0,.slice none 0 0] 26 (0,0))):=⟨by rw [← AU];exact bk⟩;have gN:af (Below w.heap.size w pT):=⟨by rw [← AU];exact bl⟩;clear fh aa HB AU;have fh:=fC;have aa:=fD;have HB:=gN;clear fC fD gN)))|(refine aX (N:=19) rfl ?_;refine Kd.Eb (Kd.slice 2 (Kd.int .i64)) _ 29 ?hg (N:=19) ?hd (xs:=([]:List (List Int))) (inner:=[]) (ok:=fun _=>True) (cm:=fun _=>True) ?hr ?hp (fun _ hk=>hk) trivial (Below.refl _ _) (Nat.le_refl _) (by simp) ?_;(case hd=>rfl);(case hg=>rfl);(case hr=>first|(go_simp;done)|(go_simp;rfl));(case hp=>exact (aJ.none _ _));intro xk auL uI hb bR atf;clear bR atf;(first|rw [← lV.z] at uI|(simp only [Int.reduceToNat] at uI;rw [← lV.z] at uI));replace fh:=eI fh hb;have fj:=k0 (Kd.jD uI (as8 bl));replace aa:=kB aa hb;replace HB:=bW hb;clear hb uI;obtain ⟨zQ,Au,rfl⟩:=Kd.er fj.z)|(refine aX (N:=5) rfl ?_;refine eJ 5 #[.int .i64 0,.slice none 0 0] 26 ?_;intro eK hg sF aY hb;replace fh:=eI fh hb;replace fj:=nF fj hb;have bN:=k0 aY;have Mc:=gW hg (as8 bl);have aaM:=Mc;replace HB:=bW hb;have Nm:=nL hg aa;have Jr:=nG Nm;replace aa:=kB aa hb;clear hb aY hg;obtain ⟨_,_⟩:=nE Jr;obtain ⟨_,_,_,_⟩:=as9 bN;have oM:0≤(1:Int):=(by omega);have oO:1 < (t102.length:Int):=oD;obtain ⟨F3,e111,sA⟩:=Kd.Ai (Kd.bD fh.z).2.2 1 oM oO;obtain rfl:jo=F3:=(by injection e111);(try simp only [show (1:Int).toNat=1 from rfl,Nat.reduceMul,Nat.reduceEqDiff,Go.Addr.add,↓reduceIte] at sA);have arY:(1 < t102.length)=True:=eq_true (by omega);(try rw [show ((1:Int)).toNat=1 from rfl] at sA);have Kk:jo.block ≠ eK:=Kd.Qg (Kd.jh fh.z bN.z (by decide));have Kl:jo.block ≠ eK:=Kd.Qg (Kd.jh fh.z bN.z (by decide));replace sA:=(cell_far (p:=⟨eK,0,none⟩) (by first|(rw [add_block];exact Kk)|(show (Addr.add _ _).block ≠ _;rw [add_block];exact Kk)|exact Kk) (.int .i64 t106)).trans sA;replace sA:=(cell_far (p:=⟨eK,1,none⟩) (by first|(rw [add_block];exact Kl)|(show (Addr.add _ _).block ≠ _;rw [add_block];exact Kl)|exact Kl) (.slice zQ jl.length Au)).trans sA;clear Kk;clear Kl;replace oM:=eT oM;replace oO:=eT oO)|(refine aT (f:=135) rfl ?_;refine gC (some 24) Try.func135 #[.string (atF ByteArray.empty t102 1),.int .u8 44] ?_;(with_reducible refine (iq.calls k (atF ByteArray.empty t102 1) 44 t112 _ A7.z).mono ?_);rintro e Fc ⟨xm,rfl,as2,hb⟩;refine ⟨_,rfl,?_⟩;replace fj:=k0 (Kd.Ea (Lm fj bN) hb);have ug:=k0 (Kd.cg (Kd.cU as2 (Kd.bV (nN fh bN))) (as8 bl));replace fh:=k0 (Kd.yQ (nN fh bN) (Kd.bh as2) hb);replace aa:=kF aa hb;replace bN:=kP (sO t106 zQ jl Au 26) bN hb;replace HB:=bW hb;have wZ:0≤(1:Int):=(by omega);have auW:1 < (t102.length:Int):=oD;obtain ⟨avu,e115,yd⟩:=Kd.Ai (Kd.bD fh.z).2.2 1 wZ auW;obtain rfl:jo=avu:=(by injection e115);(try simp only [show (1:Int).toNat=1 from rfl,Nat.reduceMul,Nat.reduceEqDiff,Go.Addr.add,↓reduceIte] at yd);have arZ:(1 < t102.length)=True:=eq_true (by omega);(try rw [show ((1:Int)).toNat=1 from rfl] at yd);replace wZ:=eT wZ;replace auW:=eT auW))
 (try simp only [Act.put,zI,zZ,zS])
 go_cut [6] (fun v6 wc=>∃ (kq:Nat) (tV:List ByteArray),af (eX.j0 kq tV t106 jl=some (r1,r2,r3))∧af (kq≤k)∧af (Kd.R Kd.string 9 wc w.heap.size (fun _=>True) v6 tV)∧af (Kd.S (Kd.slice 2 (Kd.int .i64)) 29 wc w.heap.size (fun _=>True) (.slice zQ jl.length Au) jl)∧af (wc.heap[ay]?=some (.cells #[.int .i64 0,(.slice none 0 0)] 26 (0,0)))∧af (wc.heap[eK]?=some (sO t106 zQ jl Au 26))∧af (Below w.heap.size w wc))
 case first =>
  have H:=Mr.z
  clear Mr
  by_cases c19:(atF ByteArray.empty t102 1).toList=([]:List UInt8)
  case neg =>
   rw [if_neg c19] at H
   have auB:=beq_eq_false_iff_ne.mpr c19
   have NY:List.isEmpty ((atF ByteArray.empty t102 1).toList)=false:=by cases h_:((atF ByteArray.empty t102 1).toList) with|nil=>exact absurd h_ c19|cons _ _=>rfl
   have NX:=bne_iff_ne.mpr c19
   (first|rw [auB]|(simp only [bp,bH];rw [auB])|rw [NY]|skip)
   have H':=k0 H
   clear H
   go_wp2
   go_meet
   case rel=>exact ⟨_,(t112),H',⟨oL⟩,⟨aR (Kd.aH ug.z (fun _ hk=>trivial))⟩,⟨aS (fj.z)⟩,⟨bk⟩,⟨bk⟩,⟨bl⟩⟩
  rw [if_pos c19] at H
  have auB:=beq_iff_eq.mpr c19
  have NY:List.isEmpty ((atF ByteArray.empty t102 1).toList)=true:=by rw [c19];rfl
  have NX:=bne_eq_false_iff_eq.mpr c19
  clear c19
  (first|rw [auB]|(simp only [bp,bH];rw [auB])|rw [NY]|skip)
  obtain ⟨tZ,xU⟩:=nY (([]:List ByteArray):List ByteArray)
  replace H:(eX.j0 k tZ t106 jl)=some (r1,r2,r3):=rH xU.z H
  have H':=k0 H
  clear H
  go_wp2_with (first|(refine aX (N:=29) rfl ?_;refine Kd.B1 Kd.string _ 9 ?hg (N:=29) ?hd (xs:=([]:List ByteArray)) (inner:=[]) (ok:=fun _=>True) (cm:=fun _=>True) ?hr ?hp (fun _ hk=>hk) trivial (Below.refl _ _) (Nat.le_refl _) (by simp) ?_;(case hd=>rfl);(case hg=>rfl);(case hr=>first|(go_simp;done)|(go_simp;rfl));(case hp=>exact (aJ.none _ _));intro akQ Iw CL hb bR atf;clear bR atf;(first|rw [← xU.z] at CL|(simp only [Int.reduceToNat] at CL;rw [← xU.z] at CL));replace fj:=nF fj hb;have DP:=k0 (Kd.cg (Kd.cU (Kd.cU CL (Kd.bV (aR fh.z))) (Kd.bV (aR ug.z))) (as8 bl));replace fh:=eO fh (Kd.bh CL) hb;replace ug:=eO ug (Kd.bh CL) hb;replace aa:=kB aa hb;replace bN:=kB bN hb;replace HB:=bW hb;clear hb CL))
  go_meet
  case rel=>exact ⟨_,(tZ),H',⟨oL⟩,⟨aR (Kd.aH DP.z (fun _ hk=>trivial))⟩,⟨aS (fj.z)⟩,⟨bk⟩,⟨bk⟩,⟨bl⟩⟩
 case rest =>
  clear Mr
  obtain ⟨kq,tV,HA,SG,aI,atg,aa,bN,HB⟩:=hcut
  cases kq with
  | zero=>exact absurd HA.z (by simp [eX.j0])
  | succ Yj =>
   have H:=HA.z
   clear HA
   simp only [eX.j0] at H
   have H':=k0 H
   clear H
   go_wp2
   go_loopg [7] Yj (fun kq v7 w'=>∃ (iI:Int) (RO:Int) (auI:List (List Int)) (u111001:Value),v7=.int .i64 iI∧af (eX.l0 kq tV iI t106 auI=some (r1,r2,r3))∧af (kq≤Yj)∧af (Kd.R Kd.string 9 w' w.heap.size (fun _=>True) u6 tV)∧af (Kd.S (Kd.slice 2 (Kd.int .i64)) 29 w' w.heap.size (fun _=>True) u111001 auI)∧af (w'.heap[ay]?=some (.cells #[.int .i64 RO,(.slice none 0 0)] 26 (0,0)))∧af (w'.heap[eK]?=some (.cells #[.int .i64 t106,u111001] 26 (0,0)))∧af (Below w.heap.size w w'))
   case atStart=>exact ⟨(0),(0),(jl),(.slice zQ jl.length Au),rs,H',⟨Nat.le_refl _⟩,⟨aR (aI.z)⟩,⟨aS (atg.z)⟩,⟨bk⟩,⟨bk⟩,⟨bl⟩⟩
   case round =>
    clear H'
    obtain ⟨iI,RO,auI,u111001,rfl,HA,bw,aI,atg,aa,bN,HB⟩:=hrel
    cases gk with
    | zero=>exact absurd HA.z (by simp [eX.l0])
    | succ k2 =>
     have H:=HA.z
     clear HA
     simp only [eX.l0] at H
     replace H:=iC H;obtain ⟨Cd,H⟩|⟨Cd,H⟩:=H
     case inl =>
      replace H:=bS H;obtain ⟨t119,RZ,H⟩:=H
      cases t119
      case false =>
       replace H:=iF H
       simp only [Option.some.injEq,Prod.mk.injEq] at H
       obtain ⟨rfl,rfl,rfl⟩:=H
       obtain ⟨Dv,vW,rfl⟩:=Kd.b9 aI.z
       obtain ⟨_,_⟩:=nE Jr
       obtain ⟨_,_,_,_⟩:=as9 bN
       obtain ⟨Dw,Cn,rfl⟩:=Kd.er atg.z
       go_wp2_with (first|(refine aT (f:=68) rfl ?_;refine gC (some 60) Try.func68 #[.agg #[.int .i64 t106,.slice Dw auI.length Cn]] ?_;(with_reducible refine (dR.calls k2 t106 _ _ auI false _ ?av ?ax RZ.z).mono ?_);(case av=>exact aC ((Kd.as4 atg.z).2.2));(case ax=>exact (Kd.as4 atg.z).2.1);rintro e zz ⟨rfl,hb⟩;refine ⟨_,rfl,?_⟩;replace aI:=eI aI hb;replace atg:=nF atg hb;replace aa:=kB aa hb;replace bN:=kB bN hb;replace HB:=bW hb;obtain ⟨_,_,_,_⟩:=as9 aa))
       refine bodyPost_ret (Ih rfl _ _ ay 26 #[.int .i64 0,.slice none 0 0] (0,0) _ rfl kZ Try.underlying26 rfl (by kernel_rfl)) rfl ?_
       exact ⟨_,eR,by first|exact Kd.xW _ _ _ _ _|exact Kd.xR _ _ _ _ _|exact Kd.xX _ _ _ _ _|exact Kd.xV _ _ _ _ _|exact Kd.rZ _ _ _ _ _,bl⟩
      replace H:=iT H
      simp only [Option.some.injEq,Prod.mk.injEq] at H
      obtain ⟨rfl,rfl,rfl⟩:=H
      obtain ⟨qq,qH,rfl⟩:=Kd.b9 aI.z
      obtain ⟨_,_⟩:=nE Jr
      obtain ⟨_,_,_,_⟩:=as9 bN
      obtain ⟨yB,auC,rfl⟩:=Kd.er atg.z
      go_wp2_with (first|(refine aT (f:=68) rfl ?_;refine gC (some 60) Try.func68 #[.agg #[.int .i64 t106,.slice yB auI.length auC]] ?_;(with_reducible refine (dR.calls k2 t106 _ _ auI true _ ?av ?ax RZ.z).mono ?_);(case av=>exact aC ((Kd.as4 atg.z).2.2));(case ax=>exact (Kd.as4 atg.z).2.1);rintro e ZJ ⟨rfl,hb⟩;refine ⟨_,rfl,?_⟩;replace aI:=eI aI hb;replace atg:=nF atg hb;replace aa:=kB aa hb;replace bN:=kB bN hb;replace HB:=bW hb;obtain ⟨_,_,_,_⟩:=as9 bN;obtain ⟨_,_,_,_⟩:=as9 aa))
      refine bodyPost_ret (Ih rfl _ _ ay 26 #[.int .i64 t106,.slice yB auI.length auC] (0,0) _ rfl kZ Try.underlying26 rfl (by kernel_rfl)) rfl ?_
      exact ⟨_,eR,aS (Kd.bQ (gS 1 (.slice yB auI.length auC) (gS 0 (.int .i64 t106) (tS atg aa))) (fun _ hk=>trivial)),bl⟩
     replace H:=iS H;obtain ⟨c23,H⟩:=H
     have yZ:=decide_eq_true c23
     clear c23
     replace H:=bS H;obtain ⟨t121,Dr,H⟩:=H
     replace H:=iE H;obtain ⟨c25,Ce,Ut,H⟩|⟨Ce,Ut,H⟩:=H
     case inl =>
      simp only [Option.some.injEq,Prod.mk.injEq] at H
      obtain ⟨rfl,rfl,rfl⟩:=H
      obtain ⟨ama,aoQ,rfl⟩:=Kd.b9 aI.z
      obtain ⟨pP,nK⟩:=iN iI (tV.length:Int)
      obtain ⟨B6,e120,CP⟩:=Kd.Ai (Kd.bD aI.z).2.2 iI pP nK
      cases e120
      replace pP:=eT pP
      replace nK:=eT nK
      go_wp2_with (first|(refine aT (f:=135) rfl ?_;refine gC (some 40) Try.func135 #[.string (atF ByteArray.empty tV iI),.int .u8 45] ?_;(with_reducible refine (iq.calls k2 (atF ByteArray.empty tV iI) 45 t121 _ Dr.z).mono ?_);rintro e w42 ⟨Ls,rfl,as2,hb⟩;refine ⟨_,rfl,?_⟩;replace atg:=nF atg hb;have iL:=k0 (Kd.cg (Kd.cU as2 (Kd.bV (aR aI.z))) (as8 bl));replace aI:=eO aI (Kd.bh as2) hb;replace aa:=kB aa hb;replace bN:=kB bN hb;replace HB:=bW hb;obtain ⟨amb,ae2,rfl⟩:=Kd.b9 iL.z;obtain ⟨_,_⟩:=nE Nm;obtain ⟨_,_,_,_⟩:=as9 aa))
      refine bodyPost_ret (Ih rfl _ _ ay 26 #[.int .i64 0,.slice none 0 0] (0,0) _ rfl kZ Try.underlying26 rfl (by kernel_rfl)) rfl ?_
      exact ⟨_,eR,by first|exact Kd.xW _ _ _ _ _|exact Kd.xR _ _ _ _ _|exact Kd.xX _ _ _ _ _|exact Kd.xV _ _ _ _ _|exact Kd.rZ _ _ _ _ _,bl⟩
     replace H:=iS H;obtain ⟨c26,H⟩:=H
     have Cf:=decide_eq_true c26
     have anC:decide (0 < t121.length)=true:=decide_eq_true (by omega)
     clear c26
     replace H:=bS H;obtain ⟨t125,BA,H⟩:=H
     replace H:=iS H;obtain ⟨c28,H⟩:=H
     have N1:=decide_eq_true c28
     have anD:decide (1 < t121.length)=true:=decide_eq_true (by omega)
     clear c28
     replace H:=bS H;obtain ⟨t127,A29,H⟩:=H
     obtain ⟨Bw,D6⟩:=nY (([t125,t127]:List Int):List Int)
     replace H:(if auI.length < 5864062014805 then (eX.l0 k2 tV (wrap64 (iI+1)) t106 (auI ++ [Bw])) else (none))=some (r1,r2,r3):=rH D6.z H
     replace H:=iS H;obtain ⟨c30,H⟩:=H
     have Ni:=k0 c30
     clear c30
     obtain ⟨IL,To⟩:=nY (auI ++ [Bw]:List (List Int))
     replace H:(eX.l0 k2 tV (wrap64 (iI+1)) t106 IL)=some (r1,r2,r3):=rH To.z H
     have H':=k0 H
     clear H
     obtain ⟨xI,pz,rfl⟩:=Kd.b9 aI.z
     obtain ⟨pP,nK⟩:=iN iI (tV.length:Int)
     obtain ⟨B6,e120,CP⟩:=Kd.Ai (Kd.bD aI.z).2.2 iI pP nK
     cases e120
     replace pP:=eT pP
     replace nK:=eT nK
     try go_wp2_with (first|(refine aT (f:=135) rfl ?_;refine gC (some 40) Try.func135 #[.string (atF ByteArray.empty tV iI),.int .u8 45] ?_;(with_reducible refine (iq.calls k2 (atF ByteArray.empty tV iI) 45 t121 _ Dr.z).mono ?_);rintro e Iz ⟨Ls,rfl,as2,hb⟩;refine ⟨_,rfl,?_⟩;replace atg:=nF atg hb;have iL:=k0 (Kd.cg (Kd.cU as2 (Kd.bV (aR aI.z))) (as8 bl));replace aI:=eO aI (Kd.bh as2) hb;replace aa:=kB aa hb;replace bN:=kB bN hb;replace HB:=bW hb;obtain ⟨aal,JX,rfl⟩:=Kd.b9 iL.z))
     replace aI:=k0 (Kd.di aI.z);replace atg:=k0 (Kd.dK atg.z);replace iL:=k0 (Kd.di iL.z);replace aa:=k0 (dg aa.z);replace bN:=k0 (dg bN.z);replace HB:=k0 (eZ HB.z)
     have auU:0≤(0:Int):=(by omega)
     have auY:0 < (t121.length:Int):=oD
     obtain ⟨Ag,e124,uM⟩:=Kd.Ai (Kd.bD iL.z).2.2 0 auU auY
     cases e124
     have ar0:(0 < t121.length)=True:=eq_true (by omega)
     (try rw [show ((0:Int)).toNat=0 from rfl] at uM)
     (try rw [Addr.add_zero'] at uM)
     replace auU:=eT auU
     replace auY:=eT auY
     have auV:0≤(1:Int):=(by omega)
     have auZ:1 < (t121.length:Int):=oD
     obtain ⟨Ee,e126,wO⟩:=Kd.Ai (Kd.bD iL.z).2.2 1 auV auZ
     obtain rfl:Ag=Ee:=(by injection e126)
     (try simp only [show (1:Int).toNat=1 from rfl,Nat.reduceMul,Nat.reduceEqDiff,Go.Addr.add,↓reduceIte] at wO)
     have ar1:(1 < t121.length)=True:=eq_true (by omega)
     (try rw [show ((1:Int)).toNat=1 from rfl] at wO)
     replace auV:=eT auV
     replace auZ:=eT auZ
     refine atG (n:=15) (S:=fun w'=>w'.cell? ⟨eK,0,none⟩=some (.int .i64 t106)∧w'.cell? ⟨eK,1,none⟩=some (u111001)∧w'.cell? Ag=some (.string (atF ByteArray.empty t121 0))∧w'.cell? ⟨Ag.block,Ag.off+1,none⟩=some (.string (atF ByteArray.empty t121 1))) (ds:=[12,14]) (ba 15 0) (by kernel_rfl) rfl rfl ⟨dU bN,ej bN,uM,wO⟩ (fun hHeld=>?_);refine jX eX.akz eX.adt (fun aj bP=>?_)
     generalize Iz.drew=IA at aI atg iL aa bN HB uM wO hHeld ⊢
     refine pu 0 (some 45) (ba 15 1) aj (h:=?_)
     refine pu 2 (some 47) (ba 15 5) aj (h:=?_)
     refine pu 3 (some 48) (ba 15 13) aj (h:=?_)
     refine pu 6 (some 51) (ba 15 77) aj (h:=?_)
     refine pu 7 (some 52) (ba 15 205) aj (h:=?_)
     refine IV 1 (some 46) (ba 15 207) aj bP hHeld (h:=?_)
     refine IV 4 (some 49) (ba 15 223) aj bP hHeld (h:=?_)
     refine IV 8 (some 53) (ba 15 479) aj bP hHeld (h:=?_)
     refine atw (i:=5) (N:=some 50) (ba 15 511) rfl rfl (atq aj.out (by kernel_rfl)) (by decide) (fun K hK=>?_)
     refine mI Try.func136 (by kernel_rfl) rfl #[.string (atF ByteArray.empty t121 0)] (by rfl) rfl rfl gm ?_
     with_reducible refine (gb.calls k2 (atF ByteArray.empty t121 0) t125 _ BA.z).mono ?_
     rintro e w' ⟨rfl,⟨nd,rfl⟩⟩
     refine ⟨_,rfl,?_⟩
     refine hK.out _ _ ⟨dU bN,ej bN,hHeld.2.2.1,hHeld.2.2.2⟩ (fun hHeld=>?_)
     clear hK K
     refine hJ (a':=?_) ?_ ?_
     rotate_left;· show Act.put _ (some 50) _=_;simp only [Act.put,zI,zZ,zS,bp,bH];rfl
     refine atw (i:=9) (N:=some 54) (ba 15 1023) rfl rfl (atq aj.out (by kernel_rfl)) (by decide) (fun K hK=>?_)
     refine mI Try.func136 (by kernel_rfl) rfl #[.string (atF ByteArray.empty t121 1)] (by rfl) rfl rfl gm ?_
     with_reducible refine (gb.calls k2 (atF ByteArray.empty t121 1) t127 _ A29.z).mono ?_
     rintro e w' ⟨rfl,⟨nd,rfl⟩⟩
     refine ⟨_,rfl,?_⟩
     refine hK.out _ _ ⟨dU bN,ej bN,hHeld.2.2.1,hHeld.2.2.2⟩ (fun hHeld=>?_)
     clear hK K
     refine hJ (a':=?_) ?_ ?_
     rotate_left;· show Act.put _ (some 54) _=_;simp only [Act.put,zI,zZ,zS,bp,bH];rfl
     refine atw (i:=10) (N:=some 55) (ba 15 2047) rfl rfl (atq aj.out (by kernel_rfl)) (by decide) (fun K hK=>?_)
     refine LU 2 (N:=55) (xs:=([t125,t127]:List Int)) (inner:=[.int .i64 t125,.int .i64 t127]) (aJ.one (show Kd.M (Kd.int .i64) _ _ _ t125 [.int .i64 t125] from rfl) (aJ.one (show Kd.M (Kd.int .i64) _ _ _ t127 [.int .i64 t127] from rfl) (aJ.none _ _))) ?_
     intro ar9 RC EH hb bR atf
     have D2:=(hb.cell (World.block_lt_of_cell? _ _ (hHeld.2.2.1))).trans (hHeld.2.2.1)
     have abB:=(hb.cell (World.block_lt_of_cell? _ _ (hHeld.2.2.2))).trans (hHeld.2.2.2)
     clear bR atf
     (first|rw [← D6.z] at EH|(simp only [Int.reduceToNat] at EH;rw [← D6.z] at EH))
     replace aI:=eI aI hb;replace atg:=kg atg (Kd.bh EH) hb;replace iL:=eI iL hb;have Ji:=k0 (Kd.cg EH (as8 bl));replace aa:=kB aa hb;replace bN:=kB bN hb;replace HB:=bW hb
     clear hb EH
     obtain ⟨R9,US,Vh⟩:=Kd.b9 Ji.z
     (first|subst Vh|(injection Vh with atu jq fc;have jr:=atu.symm;have js:=fc.symm;clear atu jq fc;subst jr;subst js))
     refine hK.out _ _ ⟨dU bN,ej bN,D2,abB⟩ (fun hHeld=>?_)
     clear hK K
     refine hJ (a':=?_) ?_ ?_
     rotate_left;· show Act.put _ (some 55) _=_;simp only [Act.put,zI,zZ,zS,bp,bH];rfl
     refine atw (i:=11) (N:=some 56) (ba 15 4095) rfl rfl (atq aj.out (by kernel_rfl)) (by decide) (fun K hK=>?_)
     refine Iu (w1:=?_) (v:=?_) (by rfl) rfl ?_ ?_
     rotate_left 2
     ·go_simp
      constructor
      ·rfl
      ·rfl
     refine hK.out _ _ ⟨(dY (atW bN.z _) 0).trans rfl,(dY (atW bN.z _) 1).trans rfl,(World.cell?_alloc_lt _ _ _ (World.block_lt_of_cell? _ _ (hHeld.2.2.1))).trans (hHeld.2.2.1),(World.cell?_alloc_lt _ _ _ (World.block_lt_of_cell? _ _ (hHeld.2.2.2))).trans (hHeld.2.2.2)⟩ (fun hHeld=>?_)
     clear hK K
     refine hJ (a':=?_) ?_ ?_
     rotate_left;· show Act.put _ (some 56) _=_;simp only [Act.put,zI,zZ,zS,bp,bH];rfl
     refine oK (i:=12) (N:=some 57) (ba 15 8191) rfl rfl (atq aj.out (by kernel_rfl)) (by decide) (fun K hK=>?_)
     refine Kd.TI (Kd.slice 2 (Kd.int .i64)) (w0:=w) w.heap.size (by rfl) (.tmp 46) (.tmp 56) 24 29 (.slice none 0 0) 24 rfl Try.underlying24 sB rfl (by decide) (by omega) u111001 auI Bw [.slice R9 Bw.length US] (fun _=>True) (fun k_=>some k_=(.slice R9 Bw.length US:Value).ownBlock) rfl rfl ?aP (fun k_ aU=>((Kd.aH (ok':=fun k_=>((fun _=>True)) k_∧some k_ ≠ (u111001:Value).ownBlock) (Kd.iZ (Ji.z) (Kd.atC atg.z) (by decide)) (fun k_ hk=>⟨trivial,hk.2⟩))).1 k_ aU.symm) ?aF ?aO ?aB ?aS ?aL ?_
     (case aP=>exact Kd.ke (Kd.aH (Kd.om rfl (Kd.aH (ok':=fun k_=>((fun _=>True)) k_∧some k_ ≠ (u111001:Value).ownBlock) (Kd.iZ (Ji.z) (Kd.atC atg.z) (by decide)) (fun k_ hk=>⟨trivial,hk.2⟩))) (fun _ h_=>h_)))
     (case aB=>exact bl)
     (case aF=>exact (fun _ _=>trivial))
     (case aO=>exact (aS (Kd.bQ atg.z (fun k_ hk=>⟨trivial,fun e_=>hk.2 e_⟩))))
     (case aS=>exact (as8 bl))
     (case aL=>have:=Ni.out;omega)
     intro ar' ZH ho hb hg a_
     rw [← To.z] at ho
     replace aI:=k0 (Kd.TG (aR aI.z) (Kd.atC (aS atg.z)) (by decide) hg);replace aa:=k0 (fL (aB aa.z) hg (Kd.mX atg.z aa.z (by decide)));replace bN:=k0 (fL (aB bN.z) hg (Kd.mX atg.z bN.z (by decide)));replace iL:=k0 (Kd.TG (aR iL.z) (Kd.atC (aS atg.z)) (by decide) hg);replace HB:=k0 hb;have SI:=k0 ho;clear atg Ji
     clear ho hb hg a_
     obtain ⟨L3,Ok,Vi⟩:=Kd.er SI.z
     (first|subst Vi|(injection Vi with atu jq fc;have jr:=atu.symm;have js:=fc.symm;clear atu jq fc;subst jr;subst js))
     refine hK.out _ _ ?_
     clear hK K
     refine hJ (a':=?_) ?_ ?_
     rotate_left;· show Act.put _ (some 57) _=_;simp only [Act.put,zI,zZ,zS,bp,bH];rfl
     refine pu 13 (some 58) (ba 15 16383) aj (h:=?_)
     refine oK (i:=14) (N:=none) (ba 15 32767) rfl rfl (atq aj.out (by kernel_rfl)) (by decide) (fun K hK=>?_)
     have arx:=ej bN
     have apE:=bF bN 1
     have ari:=Nm.z
     have aqy:=Jr.z
     refine lf (w1:=?_) (by rfl) rfl ?_ ?_
     rotate_left;· go_simp;rfl
     refine hK.out _ _ ?_
     clear hK K
     refine gY (jU aj.out (by kernel_rfl)) ?_
     try go_wp2
     go_roundg k2
     case measure=>have:=SG.out;have:=bw.z;omega
     case rel=>exact ⟨(wrap64 (iI+1)),(RO),(IL),(.slice L3 IL.length Ok),rs,H',⟨by have:=SG.out;have:=bw.z;omega⟩,⟨aR (Kd.aH (gR 1 (.slice L3 IL.length Ok) (tR aI bN)) (fun _ hk=>trivial))⟩,⟨aS (Kd.bQ (gS 1 (.slice L3 IL.length Ok) (tS SI bN)) (fun _ hk=>trivial))⟩,⟨kZ⟩,⟨kZ⟩,⟨bl⟩⟩
/-! ### F134: function 134 -/
def Fx.f (a0:ByteArray):Option (ByteArray):=if a0.toList=([112,111,105,110,116]:List UInt8) then (some (⟨#[49,58]⟩:ByteArray)) else (if a0.toList=([101,100,103,101]:List UInt8) then (some (⟨#[50,58,48,45,49]⟩:ByteArray)) else (if a0.toList=([108,111,111,112]:List UInt8) then (some (⟨#[49,58,48,45,48]⟩:ByteArray)) else (if a0.toList=([98,111,117,113,117,101,116]:List UInt8) then (some (⟨#[49,58,48,45,48,44,48,45,48]⟩:ByteArray)) else (if a0.toList=([116,104,101,116,97]:List UInt8) then (some (⟨#[50,58,48,45,49,44,48,45,49,44,48,45,49]⟩:ByteArray)) else (if a0.toList=([100,117,109,98,98,101,108,108]:List UInt8) then (some (⟨#[50,58,48,45,48,44,48,45,49,44,49,45,49]⟩:ByteArray)) else (if a0.toList=([116,114,105,97,110,103,108,101]:List UInt8) then (some (⟨#[51,58,48,45,49,44,49,45,50,44,50,45,48]⟩:ByteArray)) else (if a0.toList=([115,113,117,97,114,101]:List UInt8) then (some (⟨#[52,58,48,45,49,44,49,45,50,44,50,45,51,44,51,45,48]⟩:ByteArray)) else (if a0.toList=([112,101,110,116,97,103,111,110]:List UInt8) then (some (⟨#[53,58,48,45,49,44,49,45,50,44,50,45,51,44,51,45,52,44,52,45,48]⟩:ByteArray)) else (if a0.toList=([115,116,97,114]:List UInt8) then (some (⟨#[52,58,48,45,49,44,48,45,50,44,48,45,51]⟩:ByteArray)) else (if a0.toList=([100,105,97,109,111,110,100]:List UInt8) then (some (⟨#[52,58,48,45,49,44,49,45,50,44,50,45,51,44,51,45,48,44,48,45,50]⟩:ByteArray)) else (if a0.toList=([116,101,116,114,97,104,101,100,114,111,110]:List UInt8) then (some (⟨#[52,58,48,45,49,44,48,45,50,44,48,45,51,44,49,45,50,44,49,45,51,44,50,45,51]⟩:ByteArray)) else (if a0.toList=([112,114,105,115,109]:List UInt8) then (some (⟨#[54,58,48,45,49,44,49,45,50,44,50,45,48,44,51,45,52,44,52,45,53,44,53,45,51,44,48,45,51,44,49,45,52,44,50,45,53]⟩:ByteArray)) else (if a0.toList=([104,111,117,115,101,115]:List UInt8) then (some (⟨#[54,58,48,45,51,44,48,45,52,44,48,45,53,44,49,45,51,44,49,45,52,44,49,45,53,44,50,45,51,44,50,45,52,44,50,45,53]⟩:ByteArray)) else (some (⟨#[]⟩:ByteArray)))))))))))))))
theorem Fx.calls (a0 : ByteArray) (r : ByteArray) (w : World) (h : Fx.f a0 = some r) :
  Calls Try.prog 134 #[.string a0] w fun e w'=>e=.returned (.string r)∧iV w w':=by
 unfold Fx.f at h
 have H:=h
 clear h
 replace H:=iE H;obtain ⟨c2,Cg,N2,H⟩|⟨Cg,N2,H⟩:=H
 case inl =>
  replace H:=iE H;obtain ⟨c3,lC,vU,H⟩|⟨lC,vU,H⟩:=H
  case inl =>
   replace H:=iE H;obtain ⟨c4,gI,au4,H⟩|⟨gI,au4,H⟩:=H
   case inl =>
    replace H:=iE H;obtain ⟨c5,gJ,rA,H⟩|⟨gJ,rA,H⟩:=H
    case inl =>
     replace H:=iE H;obtain ⟨c6,iP,mY,H⟩|⟨iP,mY,H⟩:=H
     case inl =>
      replace H:=iE H;obtain ⟨c7,pn,au5,H⟩|⟨pn,au5,H⟩:=H
      case inl =>
       replace H:=iE H;obtain ⟨c8,kX,tj,H⟩|⟨kX,tj,H⟩:=H
       case inl =>
        replace H:=iE H;obtain ⟨c9,au6,Ob,H⟩|⟨au6,Ob,H⟩:=H
        case inl =>
         replace H:=iE H;obtain ⟨c10,iw,Al,H⟩|⟨iw,Al,H⟩:=H
         case inl =>
          replace H:=iE H;obtain ⟨c11,kW,Am,H⟩|⟨kW,Am,H⟩:=H
          case inl =>
           replace H:=iE H;obtain ⟨c12,pg,Ek,H⟩|⟨pg,Ek,H⟩:=H
           case inl =>
            replace H:=iE H;obtain ⟨c13,qF,Us,H⟩|⟨qF,Us,H⟩:=H
            case inl =>
             replace H:=iE H;obtain ⟨c14,ov,El,H⟩|⟨ov,El,H⟩:=H
             case inl =>
              replace H:=iE H;obtain ⟨c15,qG,Em,H⟩|⟨qG,Em,H⟩:=H
              case inl =>
               obtain rfl:=Option.some.inj H
               go_enter Try.func134,Try.ntmps134
               go_wp2
               go_ret
               exact ⟨rs,dW⟩
              obtain rfl:=Option.some.inj H
              go_enter Try.func134,Try.ntmps134
              go_wp2
              go_ret
              exact ⟨rs,dW⟩
             obtain rfl:=Option.some.inj H
             go_enter Try.func134,Try.ntmps134
             go_wp2
             go_ret
             exact ⟨rs,dW⟩
            obtain rfl:=Option.some.inj H
            go_enter Try.func134,Try.ntmps134
            go_wp2
            go_ret
            exact ⟨rs,dW⟩
           obtain rfl:=Option.some.inj H
           go_enter Try.func134,Try.ntmps134
           go_wp2
           go_ret
           exact ⟨rs,dW⟩
          obtain rfl:=Option.some.inj H
          go_enter Try.func134,Try.ntmps134
          go_wp2
          go_ret
          exact ⟨rs,dW⟩
         obtain rfl:=Option.some.inj H
         go_enter Try.func134,Try.ntmps134
         go_wp2
         go_ret
         exact ⟨rs,dW⟩
        obtain rfl:=Option.some.inj H
        go_enter Try.func134,Try.ntmps134
        go_wp2
        go_ret
        exact ⟨rs,dW⟩
       obtain rfl:=Option.some.inj H
       go_enter Try.func134,Try.ntmps134
       go_wp2
       go_ret
       exact ⟨rs,dW⟩
      obtain rfl:=Option.some.inj H
      go_enter Try.func134,Try.ntmps134
      go_wp2
      go_ret
      exact ⟨rs,dW⟩
     obtain rfl:=Option.some.inj H
     go_enter Try.func134,Try.ntmps134
     go_wp2
     go_ret
     exact ⟨rs,dW⟩
    obtain rfl:=Option.some.inj H
    go_enter Try.func134,Try.ntmps134
    go_wp2
    go_ret
    exact ⟨rs,dW⟩
   obtain rfl:=Option.some.inj H
   go_enter Try.func134,Try.ntmps134
   go_wp2
   go_ret
   exact ⟨rs,dW⟩
  obtain rfl:=Option.some.inj H
  go_enter Try.func134,Try.ntmps134
  go_wp2
  go_ret
  exact ⟨rs,dW⟩
 obtain rfl:=Option.some.inj H
 go_enter Try.func134,Try.ntmps134
 go_wp2
 go_ret
 exact ⟨rs,dW⟩
/-! ### F128: function 128 -/
def sN.f (k:Nat) (a0:ByteArray):Option (Int × (List (List Int)) × Bool):=(Fx.f a0).bind fun t102=>((eX.f k t102).bind fun mF=>(some (mF.1,mF.2.1,mF.2.2)))
theorem sN.calls (k : Nat) (a0 : ByteArray) (r1 : Int) (r2 : List (List Int)) (r3 : Bool) (w : World) (h : sN.f k a0 = some (r1, r2, r3)) :
  Calls Try.prog 128 #[.string a0] w fun e w'=>∃ nP:Value,e=.returned (.tuple #[.agg #[.int .i64 r1,nP],.bool r3])∧Kd.S (Kd.slice 2 (Kd.int .i64)) 29 w' w.heap.size (fun _=>True) nP r2∧Below w.heap.size w w':=by
 have gV:=Try.underlying26
 have HB:=k0 (Below.refl w.heap.size w)
 unfold sN.f at h
 have H:=h
 clear h
 replace H:=bS H;obtain ⟨t102,A2,H⟩:=H
 replace H:=bS H;obtain ⟨⟨t103,t104,t107⟩,A3,H⟩:=H
 dsimp only at H
 simp only [Option.some.injEq,Prod.mk.injEq] at H
 obtain ⟨rfl,rfl,rfl⟩:=H
 go_enter Try.func128,Try.ntmps128
 go_wp2_with (first|(refine aX (N:=2) rfl ?_;refine dL 2 #[.int .i64 0,.slice none 0 0] 26 bl ?_;intro ay w4 aa bn HB;have cG:=bn)|(refine aT (f:=134) rfl ?_;refine gC (some 8) Try.func134 #[.string a0] ?_;(with_reducible refine (Fx.calls a0 t102 _ A2.z).mono ?_);rintro e w' ⟨rfl,⟨nd,rfl⟩⟩;refine ⟨_,rfl,?_⟩;(try (rw [U1 w4];generalize AU:World.drewN w4 _=w4;have fC:af (w4.heap[ay]?=some (.cells #[.int .i64 0,.slice none 0 0] 26 (0,0))):=⟨by rw [← AU];exact bk⟩;have fD:af (Below w.heap.size w w4):=⟨by rw [← AU];exact bl⟩;clear aa HB AU;have aa:=fC;have HB:=fD;clear fC fD)))|(refine aT (f:=133) rfl ?_;refine gC (some 9) Try.func133 #[.string t102] ?_;(with_reducible refine (eX.calls k t102 t103 t104 t107 _ A3.z).mono ?_);rintro e w5 ⟨qV,rfl,as2,hb⟩;refine ⟨_,rfl,?_⟩;have dG:=k0 (Kd.jD as2 (as8 bl));replace aa:=kB aa hb;replace HB:=bW hb)|(refine aX (N:=4) rfl ?_;refine eJ 4 #[.int .i64 0,.slice none 0 0] 26 ?_;intro VF hg w6 aY hb;replace dG:=nF dG hb;have Sc:=k0 aY;have aaZ:=gW hg (as8 bl);have amu:=aaZ;replace HB:=bW hb;have ab_:=nL hg aa;have ace:=nG ab_;replace aa:=kB aa hb;clear hb aY hg;obtain ⟨_,_⟩:=nE ace;obtain ⟨_,_,_,_⟩:=as9 Sc;obtain ⟨nu,atP,rfl⟩:=Kd.er dG.z;obtain ⟨_,_,_,_⟩:=as9 aa))
 refine bodyPost_ret (Ih rfl _ _ ay 26 #[.int .i64 t103,.slice nu t104.length atP] (0,0) _ rfl kZ Try.underlying26 rfl (by kernel_rfl)) rfl ?_
 exact ⟨_,eR,aS (Kd.bQ (Kd.lW (p:=⟨ay,1,none⟩) (Kd.lW (p:=⟨ay,0,none⟩) (Kd.lW (p:=⟨VF,1,none⟩) (Kd.lW (p:=⟨VF,0,none⟩) (Kd.Af (tS dG Sc) aa.z (by decide)) (fun _ hk=>hk.1.2) (.int .i64 t103)) (fun _ hk=>hk.1.2) (.slice nu t104.length atP)) (fun _ hk=>hk.2) (.int .i64 t103)) (fun _ hk=>hk.2) (.slice nu t104.length atP)) (fun _ hk=>trivial)),bl⟩
end Go.Proofs.Ytapnggjaeehpdaa.B
/- Set with little white space, by a program. -/
