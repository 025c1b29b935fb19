/- The functions that one law reaches, each as a Lean function, and that Go's call comes to what it says. Condition of each: that the Lean function answers (is not none). -/
import Derived.Test.YtoebojnhchocaaaGx0
import Derived.Test.YtoebojnhchocaaaGx4
namespace Go.Proofs.Ytoebojnhchocaaa.G
open Go.RowKit Go.Proofs.cx.fq Go.Proofs.cx.jX Go.Proofs.cx.lu
attribute [local go_sem] max2_int min2_int max_two min_two max_three min_three max_four min_four   -- for this text's walks alone
set_option linter.unusedVariables false
set_option linter.unusedSimpArgs false
set_option maxHeartbeats 8000000
set_option maxRecDepth 100000
/-! ### F242: function 242 -/
mutual
def ei.j0 : Nat → List ByteArray → Int → List (List Int) → Option (Int × (List (List Int)) × Bool)
 | 0,_,_,_=>none
 | k+1,x6,D2,Ba=>ei.l0 k x6 0 D2 Ba
def ei.l0 : Nat → List ByteArray → Int → Int → List (List Int) → Option (Int × (List (List Int)) × Bool)
 | 0,_,_,_,_=>none
 | k+1,x6,x7,D2,Ba=>if x7 < (x6.length:Int) then (if 0≤x7 then ((gv.f k (eB ByteArray.empty x6 x7) 45).bind fun t121=>(if (t121.length:Int)=2 then (if 0 < (t121.length:Int) then ((an4.f k (eB ByteArray.empty t121 0)).bind fun t125=>(if 1 < (t121.length:Int) then ((an4.f k (eB ByteArray.empty t121 1)).bind fun t127=>(if Ba.length < 5864062014805 then (ei.l0 k x6 (wrap64 (x7+1)) D2 (Ba ++ [(([t125,t127]:List Int))])) else (none))) else (none))) else (none)) else (some (0,([]:List (List Int)),false)))) else (none)) else ((cY.f k D2 Ba).bind fun t119=>(if t119=true then (some (D2,Ba,true)) else (some (0,([]:List (List Int)),false))))
end
def ei.f (k:Nat) (a0:ByteArray):Option (Int × (List (List Int)) × Bool):=(gv.f k a0 58).bind fun t102=>(if (t102.length:Int)=2 then (if 0 < (t102.length:Int) then ((an4.f k (eB ByteArray.empty t102 0)).bind fun t106=>((some (([]:List (List Int)):List (List Int))).bind fun gX=>(if 1 < (t102.length:Int) then ((gv.f k (eB ByteArray.empty t102 1) 44).bind fun t112=>(if (eB ByteArray.empty t102 1).toList=([]:List UInt8) then (ei.j0 k (([]:List ByteArray)) t106 gX) else (ei.j0 k t112 t106 gX))) else (none)))) else (none)) else (some (0,([]:List (List Int)),false)))
theorem ei.cC : ∀ k, (∀ y0 y1 y2, ag (ei.j0 k y0 y1 y2) (ei.j0 (k + 1) y0 y1 y2)) ∧ (∀ y0 y1 y2 y3, ag (ei.l0 k y0 y1 y2 y3) (ei.l0 (k + 1) y0 y1 y2 y3))
 | 0=>⟨fun _ _ _ r h=>by simp [ei.j0] at h,fun _ _ _ _ r h=>by simp [ei.l0] at h⟩
 | k+1=>by
  obtain ⟨a_,ih1⟩:=ei.cC k
  refine ⟨?_, ?_⟩ <;> intros <;> (first | unfold ei.j0 | unfold ei.l0) <;> repeat' first
   | (with_reducible first|exact a_ _ _ _|exact ih1 _ _ _ _|exact cY.mono _ _ _|exact an4.mono _ _|exact gv.mono _ _ _|exact ag.refl _|exact ag.none _|refine ag.ite ?_ ?_|refine ag.bind ?_ (fun _=>?_))
   | exact a_ _ _ _|exact ih1 _ _ _ _|exact cY.mono _ _ _|exact an4.mono _ _|exact gv.mono _ _ _|exact ag.none _|refine ag.ite ?_ ?_|refine ag.bind ?_ (fun _=>?_)
theorem ei.mono:∀ a0 k,ag (ei.f k a0) (ei.f (k+1) a0):=by
 intro a0 k
 obtain ⟨a_,ih1⟩:=ei.cC k
 unfold ei.f
 repeat' first
  | (with_reducible first|exact a_ _ _ _|exact ih1 _ _ _ _|exact cY.mono _ _ _|exact an4.mono _ _|exact gv.mono _ _ _|exact ag.refl _|exact ag.none _|refine ag.ite ?_ ?_|refine ag.bind ?_ (fun _=>?_))
  | exact a_ _ _ _|exact ih1 _ _ _ _|exact cY.mono _ _ _|exact an4.mono _ _|exact gv.mono _ _ _|exact ag.none _|refine ag.ite ?_ ?_|refine ag.bind ?_ (fun _=>?_)
def ei.Oc:Bool × List (List Nat × List Nat):=(true,[([],[]),([0],[0]),([],[]),([2],[2]),([3],[3]),([4],[4]),([],[]),([6],[6]),([7],[7]),([8,5],[8]),([5,9],[5,9]),([10],[10]),([1,11,9],[1,11]),([0,1,2,3,4,5,6,7,8,9,10,11,12],[]),([13,12,12,0,1,2,3,4,5,6,7,8,9,10,11,12],[12,13])])
def ei.Ux:List Nat:=[0,1,0,4,12,28,0,64,192,508,1020,2044,4095,8191,16383]
theorem ei.aeZ:fh .any (opsOf Try.f242 14)=ei.Oc:=by kernel_rfl
theorem ei.Xl:kN ei.Oc.2 ei.Ux=true:=by kernel_rfl
theorem ei.calls (k : Nat) (a0 : ByteArray) (r1 : Int) (r2 : List (List Int)) (r3 : Bool) (w : World) (h : ei.f k a0 = some (r1, r2, r3)) :
  Calls Try.prog 242 #[.string a0] w fun e w'=>∃ iw:Value,e=.returned (.tuple #[.agg #[.int .i64 r1,iw],.bool r3])∧Kd.S (Kd.slice 2 (Kd.int .i64)) 28 w' w.heap.size (fun _=>True) iw r2∧Below w.heap.size w w':=by
 have jS:=Try.underlying31
 have HB:=k0 (Below.refl w.heap.size w)
 have H:((gv.f k a0 58).bind fun t102=>(if (t102.length:Int)=2 then (if 0 < (t102.length:Int) then ((an4.f k (eB ByteArray.empty t102 0)).bind fun t106=>((some (([]:List (List Int)):List (List Int))).bind fun gX=>(if 1 < (t102.length:Int) then ((gv.f k (eB ByteArray.empty t102 1) 44).bind fun t112=>(if (eB ByteArray.empty t102 1).toList=([]:List UInt8) then (ei.j0 k (([]:List ByteArray)) t106 gX) else (ei.j0 k t112 t106 gX))) else (none)))) else (none)) else (some (0,([]:List (List Int)),false))))=some (r1,r2,r3):=h
 clear h
 replace H:=Option.bind_eq_some_iff.mp H
 obtain ⟨t102,eD,H⟩:=H
 replace H:(if (t102.length:Int)=2 then (if 0 < (t102.length:Int) then ((an4.f k (eB ByteArray.empty t102 0)).bind fun t106=>((some (([]:List (List Int)):List (List Int))).bind fun gX=>(if 1 < (t102.length:Int) then ((gv.f k (eB ByteArray.empty t102 1) 44).bind fun t112=>(if (eB ByteArray.empty t102 1).toList=([]:List UInt8) then (ei.j0 k (([]:List ByteArray)) t106 gX) else (ei.j0 k t112 t106 gX))) else (none)))) else (none)) else (some (0,([]:List (List Int)),false)))=some (r1,r2,r3):=H
 have A2:=k0 eD
 clear eD
 by_cases c3:(t102.length:Int)=2
 case neg =>
  rw [if_neg c3] at H
  have jZ:((t102.length:Int) == 2)=false:=beq_eq_false_iff_ne.mpr c3
  have uy:((t102.length:Int) != 2)=true:=bne_iff_ne.mpr c3
  simp only [Option.some.injEq,Prod.mk.injEq] at H
  obtain ⟨rfl,rfl,rfl⟩:=H
  go_enter Try.func242,Try.ntmps242
  go_wp2_with (first|((with_reducible refine bN (N:=2) rfl ?_);refine cE 2 #[.int .i64 0,.slice none 0 0] 31 ?_;intro aW hg w61 aG hb;have aa:=k0 (aG);have cu:=gW hg (anG bl);have anQ:=cu;replace HB:=k0 (anH bl hb);clear hb aG hg)|((with_reducible refine bS (f:=248) rfl ?_);refine gC (some 10) Try.func248 #[.string a0,.int .u8 58] ?_;(with_reducible refine (gv.calls k a0 58 t102 _ A2.z).mono ?_);rintro e w62 ⟨iF,rfl,aq,hb⟩;refine ⟨_,rfl,?_⟩;have eP:=k0 (Kd.cH aq (anG bl));replace aa:=kB aa hb;replace HB:=k0 (anH bl hb);obtain ⟨af4,ahQ,ZE⟩:=Kd.cK eP.z;subst ZE;have aa1:=aX aa;have aa2:=aY aa;have abE:=bF aa 0;have abF:=bF aa 1))
  refine bodyPost_ret (apm rfl _ _ aW 31 #[.int .i64 0,.slice none 0 0] (0,0) _ rfl (by (with_reducible repeat (first|refine anF ?_ _|refine aH ?_|refine aI ?_ _));refine anV (cs:=#[.int .i64 0,.slice none 0 0]) ?_ 1 _ rfl;(with_reducible repeat (first|refine anF ?_ _|refine aH ?_|refine aI ?_ _));refine anV (cs:=#[.int .i64 0,.slice none 0 0]) ?_ 0 _ rfl;exact bk) Try.underlying31 rfl (by kernel_rfl)) rfl ?_
  exact ⟨_,eR,by first|exact Kd.rX _ _ _ _ _|exact Kd.rV _ _ _ _ _|exact Kd.rY _ _ _ _ _|exact Kd.rW _ _ _ _ _|exact Kd.ny _ _ _ _ _,bl⟩
 rw [if_pos c3] at H
 have jZ:((t102.length:Int) == 2)=true:=beq_iff_eq.mpr c3
 have uy:((t102.length:Int) != 2)=false:=bne_eq_false_iff_eq.mpr c3
 clear c3
 replace H:=iS H;obtain ⟨c4,H⟩:=H
 have gT:=decide_eq_true c4
 have tE:decide (0 < t102.length)=true:=decide_eq_true (by omega)
 clear c4
 replace H:=Option.bind_eq_some_iff.mp H
 obtain ⟨t106,aox,H⟩:=H
 replace H:((some (([]:List (List Int)):List (List Int))).bind fun gX=>(if 1 < (t102.length:Int) then ((gv.f k (eB ByteArray.empty t102 1) 44).bind fun t112=>(if (eB ByteArray.empty t102 1).toList=([]:List UInt8) then (ei.j0 k (([]:List ByteArray)) t106 gX) else (ei.j0 k t112 t106 gX))) else (none)))=some (r1,r2,r3):=H
 have A5:=k0 aox
 clear aox
 obtain ⟨gX,pI⟩:∃ y_:List (List Int),y_=(([]:List (List Int))):=⟨_,rfl⟩
 replace H:(if 1 < (t102.length:Int) then ((gv.f k (eB ByteArray.empty t102 1) 44).bind fun t112=>(if (eB ByteArray.empty t102 1).toList=([]:List UInt8) then (ei.j0 k (([]:List ByteArray)) t106 gX) else (ei.j0 k t112 t106 gX))) else (none))=some (r1,r2,r3):=rH pI H
 have uj:=k0 pI
 clear pI
 replace H:=iS H;obtain ⟨c6,H⟩:=H
 have iD:=decide_eq_true c6
 have oF:decide (1 < t102.length)=true:=decide_eq_true (by omega)
 clear c6
 replace H:=Option.bind_eq_some_iff.mp H
 obtain ⟨t112,vB,H⟩:=H
 replace H:(if (eB ByteArray.empty t102 1).toList=([]:List UInt8) then (ei.j0 k (([]:List ByteArray)) t106 gX) else (ei.j0 k t112 t106 gX))=some (r1,r2,r3):=H
 have A7:=k0 vB
 clear vB
 have He:=k0 H
 clear H
 go_enter Try.func242,Try.ntmps242
 go_upto_if 28 with (first|((with_reducible refine bN (N:=2) rfl ?_);refine cE 2 #[.int .i64 0,.slice none 0 0] 31 ?_;intro aW hg w9 aG hb;have aa:=k0 (aG);have cu:=gW hg (anG bl);have anQ:=cu;replace HB:=k0 (anH bl hb);clear hb aG hg)|((with_reducible refine bS (f:=248) rfl ?_);refine gC (some 10) Try.func248 #[.string a0,.int .u8 58] ?_;(with_reducible refine (gv.calls k a0 58 t102 _ A2.z).mono ?_);rintro e qN ⟨iF,rfl,aq,hb⟩;refine ⟨_,rfl,?_⟩;have eP:=k0 (Kd.cH aq (anG bl));replace aa:=kB aa hb;replace HB:=k0 (anH bl hb);obtain ⟨eG,dZ,ru⟩:=Kd.cK eP.z;subst ru;have fW:0≤(0:Int):=(by omega);have fX:0 < (t102.length:Int):=oD;obtain ⟨mb,e105,fL⟩:=Kd.vW (Kd.anT eP.z).2.2 0 fW fX;cases e105;have apz:(0 < t102.length)=True:=eq_true (by omega);(try rw [show ((0:Int)).toNat=0 from rfl] at fL);(try rw [Addr.add_zero'] at fL);replace fW:=eq_true fW;replace fX:=eq_true fX)|((with_reducible refine bS (f:=249) rfl ?_);refine gC (some 18) Try.func249 #[.string (eB ByteArray.empty t102 0)] ?_;(with_reducible refine (an4.calls k (eB ByteArray.empty t102 0) t106 _ A5.z).mono ?_);rintro e w' ⟨rfl,⟨nd,rfl⟩⟩;refine ⟨_,rfl,?_⟩;(try (rw [Pb qN];generalize wA:World.drewN qN _=qN;have av:ak (Kd.R Kd.string 9 qN w.heap.size (fun _=>True) (.slice (some mb) t102.length dZ) t102):=⟨by rw [← wA];exact (aR eP.z)⟩;have ax:ak (qN.heap[aW]?=some (.cells #[.int .i64 0,.slice none 0 0] 31 (0,0))):=⟨by rw [← wA];exact bk⟩;have ay:ak (Below w.heap.size w qN):=⟨by rw [← wA];exact bl⟩;clear eP aa HB wA;have eP:=av;have aa:=ax;have HB:=ay;clear av ax ay)))|((with_reducible refine bN (N:=19) rfl ?_);refine Kd.z_ (Kd.slice 2 (Kd.int .i64)) _ 28 ?hg (N:=19) ?hd (xs:=([]:List (List Int))) (inner:=[]) (ok:=fun _=>True) (anX:=fun _=>True) ?hr ?hp (fun _ hk=>hk) trivial (Below.refl _ _) (Nat.le_refl _) (by simp) ?_;(case hd=>rfl);(case hg=>rfl);(case hr=>first|(go_simp;done)|(go_simp;rfl));(case hp=>exact (bu.none _ _));intro cw ao0 rz hb c_ dc;clear c_ dc;(first|rw [← uj.z] at rz|(simp only [Int.reduceToNat] at rz;rw [← uj.z] at rz));replace eP:=k0 (Kd.dg (aR eP.z) hb);have dy:=k0 (Kd.gD rz (anG bl));replace aa:=kB aa hb;replace HB:=k0 (anH bl hb);clear hb rz;obtain ⟨rO,r_,IY⟩:=Kd.eH dy.z;subst IY)|((with_reducible refine bN (N:=5) rfl ?_);refine cE 5 #[.int .i64 0,.slice none 0 0] 31 ?_;intro uD hg apE aG hb;replace eP:=k0 (Kd.dg (aR eP.z) hb);replace dy:=k0 (Kd.kn (aS dy.z) hb);have dS:=k0 (aG);have U5:=gW hg (anG bl);have agc:=U5;replace HB:=k0 (anH bl hb);have uh:=nL hg aa;have BH:=nG uh;replace aa:=kB aa hb;clear hb aG hg;have Rp:=BH.z;have RJ:=uh.z;have ail:=aX dS;have aim:=aY dS;have ajM:=bF dS 0;have ajN:=bF dS 1;have oL:0≤(1:Int):=(by omega);have oM:1 < (t102.length:Int):=oD;obtain ⟨Ac,e111,oH⟩:=Kd.vW (Kd.anT eP.z).2.2 1 oL oM;obtain rfl:mb=Ac:=(by injection e111);(try simp only [show (1:Int).toNat=1 from rfl,Nat.reduceMul,Nat.reduceEqDiff,Go.Addr.add,↓reduceIte] at oH);have aek:(1 < t102.length)=True:=eq_true (by omega);(try rw [show ((1:Int)).toNat=1 from rfl] at oH);have Fq:mb.block ≠ uD:=Kd.KX (Kd.iM eP.z dS.z (by decide));have Fs:mb.block ≠ uD:=Kd.KX (Kd.iM eP.z dS.z (by decide));replace oH:=(cell_far (p:=⟨uD,0,none⟩) (by first|(rw [add_block];exact Fq)|(show (Addr.add _ _).block ≠ _;rw [add_block];exact Fq)|exact Fq) (.int .i64 t106)).trans oH;replace oH:=(cell_far (p:=⟨uD,1,none⟩) (by first|(rw [add_block];exact Fs)|(show (Addr.add _ _).block ≠ _;rw [add_block];exact Fs)|exact Fs) (.slice rO gX.length r_)).trans oH;clear Fq;clear Fs;replace oL:=eq_true oL;replace oM:=eq_true oM)|((with_reducible refine bS (f:=248) rfl ?_);refine gC (some 24) Try.func248 #[.string (eB ByteArray.empty t102 1),.int .u8 44] ?_;(with_reducible refine (gv.calls k (eB ByteArray.empty t102 1) 44 t112 _ A7.z).mono ?_);rintro e TR ⟨Tz,rfl,aq,hb⟩;refine ⟨_,rfl,?_⟩;replace dy:=k0 (Kd.kn (by (with_reducible repeat (first|apply Kd.di|apply Kd.dm|apply Kd.cS));exact (Kd.anW (gS 1 (.slice rO gX.length r_) (gS 0 (.int .i64 t106) (tS dy dS))) (fun _ h_=>h_.1))) hb);have ud:=k0 (Kd.cH (Kd.cR aq (Kd.bK (by (with_reducible repeat (first|apply Kd.b_|apply Kd.bZ|apply Kd.bP));exact (Kd.aT (gR 1 (.slice rO gX.length r_) (gR 0 (.int .i64 t106) (tR eP dS))) (fun _ h_=>h_.1))))) (anG bl));replace eP:=k0 (Kd.cQ (by (with_reducible repeat (first|apply Kd.b_|apply Kd.bZ|apply Kd.bP));exact (Kd.aT (gR 1 (.slice rO gX.length r_) (gR 0 (.int .i64 t106) (tR eP dS))) (fun _ h_=>h_.1))) (Kd.aU aq) hb);replace aa:=k0 (cB (g:=aW) (o:=.cells #[.int .i64 0,.slice none 0 0] 31 (0,0)) (by (with_reducible repeat (first|refine anF ?_ _|refine aH ?_|refine aI ?_ _));refine anU ?_ uh.z _;(with_reducible repeat (first|refine anF ?_ _|refine aH ?_|refine aI ?_ _));refine anU ?_ uh.z _;exact bk) hb);replace dS:=k0 (cB (g:=uD) (o:=sO t106 rO gX r_ 31) (by (with_reducible repeat (first|refine anF ?_ _|refine aH ?_|refine aI ?_ _));refine anV (cs:=#[.int .i64 t106,.slice none 0 0]) ?_ 1 _ rfl;(with_reducible repeat (first|refine anF ?_ _|refine aH ?_|refine aI ?_ _));refine anV (cs:=#[.int .i64 0,.slice none 0 0]) ?_ 0 _ rfl;exact bk) hb);replace HB:=k0 (anH bl hb);have pM:0≤(1:Int):=(by omega);have pO:1 < (t102.length:Int):=oD;obtain ⟨xy,e115,pG⟩:=Kd.vW (Kd.anT eP.z).2.2 1 pM pO;obtain rfl:mb=xy:=(by injection e115);(try simp only [show (1:Int).toNat=1 from rfl,Nat.reduceMul,Nat.reduceEqDiff,Go.Addr.add,↓reduceIte] at pG);have aem:(1 < t102.length)=True:=eq_true (by omega);(try rw [show ((1:Int)).toNat=1 from rfl] at pG);replace pM:=eq_true pM;replace pO:=eq_true pO))
 (try simp only [Act.put,zI,zZ,zS])
 go_cut [6] (fun v6 wc=>∃ (kq:Nat) (nK:List ByteArray),ak (ei.j0 kq nK t106 gX=some (r1,r2,r3))∧ak (kq≤k)∧ak (Kd.R Kd.string 9 wc w.heap.size (fun _=>True) v6 nK)∧ak (Kd.S (Kd.slice 2 (Kd.int .i64)) 28 wc w.heap.size (fun _=>True) (.slice rO gX.length r_) gX)∧ak (wc.heap[aW]?=some (.cells #[.int .i64 0,(.slice none 0 0)] 31 (0,0)))∧ak (wc.heap[uD]?=some (sO t106 rO gX r_ 31))∧ak (Below w.heap.size w wc))
 case first =>
  have H:=He.z
  clear He
  by_cases c19:(eB ByteArray.empty t102 1).toList=([]:List UInt8)
  case neg =>
   rw [if_neg c19] at H
   have ux:((eB ByteArray.empty t102 1).toList == ([]:List UInt8))=false:=beq_eq_false_iff_ne.mpr c19
   have IA:List.isEmpty ((eB ByteArray.empty t102 1).toList)=false:=by cases h_:((eB ByteArray.empty t102 1).toList) with|nil=>exact absurd h_ c19|cons _ _=>rfl
   have Iz:((eB ByteArray.empty t102 1).toList != ([]:List UInt8))=true:=bne_iff_ne.mpr c19
   (first|rw [ux]|(simp only [dX,eZ];rw [ux])|rw [IA]|skip)
   have H':=k0 H
   clear H
   go_wp2
   go_meet
   case rel=>exact ⟨_,(t112),H',⟨by first|omega|exact Nat.le_refl _⟩,⟨aR (Kd.aT ud.z (fun _ hk=>trivial))⟩,⟨aS (dy.z)⟩,⟨bk⟩,⟨bk⟩,⟨bl⟩⟩
  rw [if_pos c19] at H
  have ux:((eB ByteArray.empty t102 1).toList == ([]:List UInt8))=true:=beq_iff_eq.mpr c19
  have IA:List.isEmpty ((eB ByteArray.empty t102 1).toList)=true:=by rw [c19];rfl
  have Iz:((eB ByteArray.empty t102 1).toList != ([]:List UInt8))=false:=bne_eq_false_iff_eq.mpr c19
  clear c19
  (first|rw [ux]|(simp only [dX,eZ];rw [ux])|rw [IA]|skip)
  obtain ⟨qU,sJ⟩:∃ y_:List ByteArray,y_=(([]:List ByteArray)):=⟨_,rfl⟩
  replace H:(ei.j0 k qU t106 gX)=some (r1,r2,r3):=rH sJ H
  have xj:=k0 sJ
  clear sJ
  have H':=k0 H
  clear H
  go_wp2_with (first|((with_reducible refine bN (N:=29) rfl ?_);refine Kd.jd Kd.string _ 9 ?hg (N:=29) ?hd (xs:=([]:List ByteArray)) (inner:=[]) (ok:=fun _=>True) (anX:=fun _=>True) ?hr ?hp (fun _ hk=>hk) trivial (Below.refl _ _) (Nat.le_refl _) (by simp) ?_;(case hd=>rfl);(case hg=>rfl);(case hr=>first|(go_simp;done)|(go_simp;rfl));(case hp=>exact (bu.none _ _));intro v117 zf ya hb c_ dc;clear c_ dc;(first|rw [← xj.z] at ya|(simp only [Int.reduceToNat] at ya;rw [← xj.z] at ya));have av:=k0 (Kd.cQ (aR eP.z) (Kd.aU ya) hb);have ax:=k0 (Kd.kn (aS dy.z) hb);have ay:=k0 (Kd.cQ (aR ud.z) (Kd.aU ya) hb);have anC:=k0 (Kd.cH (Kd.cR (Kd.cR ya (Kd.bK (aR eP.z))) (Kd.bK (aR ud.z))) (anG bl));have aD:=kB aa hb;have anE:=kB dS hb;have anP:=k0 (anH bl hb);clear eP;clear dy;clear ud;clear aa;clear dS;clear HB;have eP:=av;have dy:=ax;have ud:=ay;have zQ:=anC;have aa:=aD;have dS:=anE;have HB:=anP;clear av ax ay anC aD anE anP;clear hb ya))
  go_meet
  case rel=>exact ⟨_,(qU),H',⟨by first|omega|exact Nat.le_refl _⟩,⟨aR (Kd.aT zQ.z (fun _ hk=>trivial))⟩,⟨aS (dy.z)⟩,⟨bk⟩,⟨bk⟩,⟨bl⟩⟩
 case rest =>
  clear He
  obtain ⟨kq,nK,HA,Nn,cG,aoe,aa,dS,HB⟩:=hcut
  cases kq with
  | zero=>exact absurd HA.z (by simp [ei.j0])
  | succ Sw =>
   have H:=HA.z
   clear HA
   simp only [ei.j0] at H
   have H':=k0 H
   clear H
   go_wp2
   go_loopg [7] Sw (fun kq v7 w'=>∃ (eC:Int) (A_:Int) (lY:List (List Int)) (u111001:Value),v7=.int .i64 eC∧ak (ei.l0 kq nK eC t106 lY=some (r1,r2,r3))∧ak (kq≤Sw)∧ak (Kd.R Kd.string 9 w' w.heap.size (fun _=>True) u6 nK)∧ak (Kd.S (Kd.slice 2 (Kd.int .i64)) 28 w' w.heap.size (fun _=>True) u111001 lY)∧ak (w'.heap[aW]?=some (.cells #[.int .i64 A_,(.slice none 0 0)] 31 (0,0)))∧ak (w'.heap[uD]?=some (.cells #[.int .i64 t106,u111001] 31 (0,0)))∧ak (Below w.heap.size w w'))
   case atStart=>exact ⟨(0),(0),(gX),(.slice rO gX.length r_),rs,H',⟨Nat.le_refl _⟩,⟨aR (cG.z)⟩,⟨aS (aoe.z)⟩,⟨bk⟩,⟨bk⟩,⟨bl⟩⟩
   case round =>
    clear H'
    obtain ⟨eC,A_,lY,u111001,rfl,HA,eo,cG,aoe,aa,dS,HB⟩:=hrel
    cases gk with
    | zero=>exact absurd HA.z (by simp [ei.l0])
    | succ k2 =>
     have H:=HA.z
     clear HA
     simp only [ei.l0] at H
     by_cases c22:eC < (nK.length:Int)
     case neg =>
      rw [if_neg c22] at H
      have EV:decide (eC < (nK.length:Int))=false:=decide_eq_false c22
      clear c22
      replace H:=Option.bind_eq_some_iff.mp H
      obtain ⟨t119,Mq,H⟩:=H
      replace H:(if t119=true then (some (t106,lY,true)) else (some (0,([]:List (List Int)),false)))=some (r1,r2,r3):=H
      have Mp:=k0 Mq
      clear Mq
      by_cases c47:t119=true
      case neg =>
       replace c47:=Bool.eq_false_iff.mpr c47
       subst c47
       have H1:(some (0,([]:List (List Int)),false))=some (r1,r2,r3):=by rw [if_neg (show ¬ (false=true) by decide)] at H;exact H
       clear H
       have H:=H1
       clear H1
       simp only [Option.some.injEq,Prod.mk.injEq] at H
       obtain ⟨rfl,rfl,rfl⟩:=H
       obtain ⟨Bn,sg,Ax⟩:=Kd.cK cG.z
       subst Ax
       have alq:=BH.z
       have amk:=uh.z
       have aiT:=aX dS
       have aiU:=aY dS
       have aki:=bF dS 0
       have akj:=bF dS 1
       obtain ⟨MO,IP,xN⟩:=Kd.eH aoe.z
       subst xN
       go_wp2_with (first|((with_reducible refine bS (f:=100) rfl ?_);refine gC (some 60) Try.func100 #[.agg #[.int .i64 t106,.slice MO lY.length IP]] ?_;(with_reducible refine (cY.calls k2 t106 _ _ lY false _ ?aA ?anD Mp.z).mono ?_);(case aA=>exact aC ((Kd.anY aoe.z).2.2));(case anD=>exact (Kd.anY aoe.z).2.1);rintro e wQ ⟨rfl,hb⟩;refine ⟨_,rfl,?_⟩;have av:=k0 (Kd.dg (aR cG.z) hb);have ax:=k0 (Kd.kn (aS aoe.z) hb);have ay:=kB aa hb;have anC:=kB dS hb;have aD:=k0 (anH bl hb);clear cG;clear aoe;clear aa;clear dS;clear HB;have cG:=av;have aoe:=ax;have aa:=ay;have dS:=anC;have HB:=aD;clear av ax ay anC aD;have aaZ:=aX aa;have aa0:=aY aa;have abC:=bF aa 0;have abD:=bF aa 1))
       refine bodyPost_ret (apm rfl _ _ aW 31 #[.int .i64 0,.slice none 0 0] (0,0) _ rfl (by (with_reducible repeat (first|refine anF ?_ _|refine aH ?_|refine aI ?_ _));refine anV (cs:=#[.int .i64 0,.slice none 0 0]) ?_ 1 _ rfl;(with_reducible repeat (first|refine anF ?_ _|refine aH ?_|refine aI ?_ _));refine anV (cs:=#[.int .i64 A_,.slice none 0 0]) ?_ 0 _ rfl;exact bk) Try.underlying31 rfl (by kernel_rfl)) rfl ?_
       exact ⟨_,eR,by first|exact Kd.rX _ _ _ _ _|exact Kd.rV _ _ _ _ _|exact Kd.rY _ _ _ _ _|exact Kd.rW _ _ _ _ _|exact Kd.ny _ _ _ _ _,bl⟩
      subst c47
      have H1:(some (t106,lY,true))=some (r1,r2,r3):=by rw [if_pos rfl] at H;exact H
      clear H
      have H:=H1
      clear H1
      simp only [Option.some.injEq,Prod.mk.injEq] at H
      obtain ⟨rfl,rfl,rfl⟩:=H
      obtain ⟨afY,ahK,Zv⟩:=Kd.cK cG.z
      subst Zv
      have alm:=BH.z
      have amg:=uh.z
      have aiN:=aX dS
      have aiO:=aY dS
      have akc:=bF dS 0
      have akd:=bF dS 1
      obtain ⟨GV,IM,Zx⟩:=Kd.eH aoe.z
      subst Zx
      go_wp2_with (first|((with_reducible refine bS (f:=100) rfl ?_);refine gC (some 60) Try.func100 #[.agg #[.int .i64 t106,.slice GV lY.length IM]] ?_;(with_reducible refine (cY.calls k2 t106 _ _ lY true _ ?aA ?anD Mp.z).mono ?_);(case aA=>exact aC ((Kd.anY aoe.z).2.2));(case anD=>exact (Kd.anY aoe.z).2.1);rintro e w52 ⟨rfl,hb⟩;refine ⟨_,rfl,?_⟩;have av:=k0 (Kd.dg (aR cG.z) hb);have ax:=k0 (Kd.kn (aS aoe.z) hb);have ay:=kB aa hb;have anC:=kB dS hb;have aD:=k0 (anH bl hb);clear cG;clear aoe;clear aa;clear dS;clear HB;have cG:=av;have aoe:=ax;have aa:=ay;have dS:=anC;have HB:=aD;clear av ax ay anC aD;have aiP:=aX dS;have aiQ:=aY dS;have ake:=bF dS 0;have akf:=bF dS 1;have aaX:=aX aa;have aaY:=aY aa;have abA:=bF aa 0;have abB:=bF aa 1))
      refine bodyPost_ret (apm rfl _ _ aW 31 #[.int .i64 t106,.slice GV lY.length IM] (0,0) _ rfl (by (with_reducible repeat (first|refine anF ?_ _|refine aH ?_|refine aI ?_ _));refine anV (cs:=#[.int .i64 t106,.slice none 0 0]) ?_ 1 _ rfl;(with_reducible repeat (first|refine anF ?_ _|refine aH ?_|refine aI ?_ _));refine anV (cs:=#[.int .i64 A_,.slice none 0 0]) ?_ 0 _ rfl;exact bk) Try.underlying31 rfl (by kernel_rfl)) rfl ?_
      exact ⟨_,eR,by (with_reducible repeat (first|apply Kd.di|apply Kd.dm|apply Kd.cS));exact Kd.anW (gS 1 (.slice GV lY.length IM) (gS 0 (.int .i64 t106) (tS aoe aa))) (fun _ hk=>trivial),bl⟩
     rw [if_pos c22] at H
     have EV:=decide_eq_true c22
     clear c22
     replace H:=iS H;obtain ⟨c23,H⟩:=H
     have Ah:=decide_eq_true c23
     clear c23
     replace H:=Option.bind_eq_some_iff.mp H
     obtain ⟨t121,vA,H⟩:=H
     replace H:(if (t121.length:Int)=2 then (if 0 < (t121.length:Int) then ((an4.f k2 (eB ByteArray.empty t121 0)).bind fun t125=>(if 1 < (t121.length:Int) then ((an4.f k2 (eB ByteArray.empty t121 1)).bind fun t127=>(if lY.length < 5864062014805 then (ei.l0 k2 nK (wrap64 (eC+1)) t106 (lY ++ [(([t125,t127]:List Int))])) else (none))) else (none))) else (none)) else (some (0,([]:List (List Int)),false)))=some (r1,r2,r3):=H
     have vz:=k0 vA
     clear vA
     by_cases c25:(t121.length:Int)=2
     case neg =>
      rw [if_neg c25] at H
      have EW:((t121.length:Int) == 2)=false:=beq_eq_false_iff_ne.mpr c25
      have Ov:((t121.length:Int) != 2)=true:=bne_iff_ne.mpr c25
      simp only [Option.some.injEq,Prod.mk.injEq] at H
      obtain ⟨rfl,rfl,rfl⟩:=H
      obtain ⟨afW,ahI,Zs⟩:=Kd.cK cG.z
      subst Zs
      have yK:0≤(eC:Int):=oD
      have yT:eC < (nK.length:Int):=oD
      obtain ⟨WV,e120,acA⟩:=Kd.vW (Kd.anT cG.z).2.2 eC yK yT
      cases e120
      replace yK:=eq_true yK
      replace yT:=eq_true yT
      go_wp2_with (first|((with_reducible refine bS (f:=248) rfl ?_);refine gC (some 40) Try.func248 #[.string (eB ByteArray.empty nK eC),.int .u8 45] ?_;(with_reducible refine (gv.calls k2 (eB ByteArray.empty nK eC) 45 t121 _ vz.z).mono ?_);rintro e LW ⟨lJ,rfl,aq,hb⟩;refine ⟨_,rfl,?_⟩;have av:=k0 (Kd.cQ (aR cG.z) (Kd.aU aq) hb);have ax:=k0 (Kd.kn (aS aoe.z) hb);have ay:=k0 (Kd.cH (Kd.cR aq (Kd.bK (aR cG.z))) (anG bl));have anC:=kB aa hb;have aD:=kB dS hb;have anE:=k0 (anH bl hb);clear cG;clear aoe;clear aa;clear dS;clear HB;have cG:=av;have aoe:=ax;have eu:=ay;have aa:=anC;have dS:=aD;have HB:=anE;clear av ax ay anC aD anE;obtain ⟨afX,ahJ,Zt⟩:=Kd.cK eu.z;subst Zt;have J1:=uh.z;have J5:=BH.z;have JC:=aX aa;have JD:=aY aa;have JR:=bF aa 0;have JS:=bF aa 1))
      refine bodyPost_ret (apm rfl _ _ aW 31 #[.int .i64 0,.slice none 0 0] (0,0) _ rfl (by (with_reducible repeat (first|refine anF ?_ _|refine aH ?_|refine aI ?_ _));refine anV (cs:=#[.int .i64 0,.slice none 0 0]) ?_ 1 _ rfl;(with_reducible repeat (first|refine anF ?_ _|refine aH ?_|refine aI ?_ _));refine anV (cs:=#[.int .i64 A_,.slice none 0 0]) ?_ 0 _ rfl;exact bk) Try.underlying31 rfl (by kernel_rfl)) rfl ?_
      exact ⟨_,eR,by first|exact Kd.rX _ _ _ _ _|exact Kd.rV _ _ _ _ _|exact Kd.rY _ _ _ _ _|exact Kd.rW _ _ _ _ _|exact Kd.ny _ _ _ _ _,bl⟩
     rw [if_pos c25] at H
     have EW:((t121.length:Int) == 2)=true:=beq_iff_eq.mpr c25
     have Ov:((t121.length:Int) != 2)=false:=bne_eq_false_iff_eq.mpr c25
     clear c25
     replace H:=iS H;obtain ⟨c26,H⟩:=H
     have IC:=decide_eq_true c26
     have agO:decide (0 < t121.length)=true:=decide_eq_true (by omega)
     clear c26
     replace H:=Option.bind_eq_some_iff.mp H
     obtain ⟨t125,Mg,H⟩:=H
     replace H:(if 1 < (t121.length:Int) then ((an4.f k2 (eB ByteArray.empty t121 1)).bind fun t127=>(if lY.length < 5864062014805 then (ei.l0 k2 nK (wrap64 (eC+1)) t106 (lY ++ [(([t125,t127]:List Int))])) else (none))) else (none))=some (r1,r2,r3):=H
     have Um:=k0 Mg
     clear Mg
     replace H:=iS H;obtain ⟨c28,H⟩:=H
     have XU:=decide_eq_true c28
     have agP:decide (1 < t121.length)=true:=decide_eq_true (by omega)
     clear c28
     replace H:=Option.bind_eq_some_iff.mp H
     obtain ⟨t127,Mh,H⟩:=H
     replace H:(if lY.length < 5864062014805 then (ei.l0 k2 nK (wrap64 (eC+1)) t106 (lY ++ [(([t125,t127]:List Int))])) else (none))=some (r1,r2,r3):=H
     have Un:=k0 Mh
     clear Mh
     obtain ⟨D8,Kp⟩:∃ y_:List Int,y_=(([t125,t127]:List Int)):=⟨_,rfl⟩
     replace H:(if lY.length < 5864062014805 then (ei.l0 k2 nK (wrap64 (eC+1)) t106 (lY ++ [D8])) else (none))=some (r1,r2,r3):=rH Kp H
     have NU:=k0 Kp
     clear Kp
     replace H:=iS H;obtain ⟨c30,H⟩:=H
     have VX:=k0 c30
     clear c30
     obtain ⟨D9,Kq⟩:∃ y_:List (List Int),y_=(lY ++ [D8]):=⟨_,rfl⟩
     replace H:(ei.l0 k2 nK (wrap64 (eC+1)) t106 D9)=some (r1,r2,r3):=rH Kq H
     have Wf:=k0 Kq
     clear Kq
     have H':=k0 H
     clear H
     obtain ⟨qX,rq,xL⟩:=Kd.cK cG.z
     subst xL
     have yK:0≤(eC:Int):=oD
     have yT:eC < (nK.length:Int):=oD
     obtain ⟨WV,e120,acA⟩:=Kd.vW (Kd.anT cG.z).2.2 eC yK yT
     cases e120
     replace yK:=eq_true yK
     replace yT:=eq_true yT
     try go_wp2_with (first|((with_reducible refine bS (f:=248) rfl ?_);refine gC (some 40) Try.func248 #[.string (eB ByteArray.empty nK eC),.int .u8 45] ?_;(with_reducible refine (gv.calls k2 (eB ByteArray.empty nK eC) 45 t121 _ vz.z).mono ?_);rintro e Gu ⟨lJ,rfl,aq,hb⟩;refine ⟨_,rfl,?_⟩;have av:=k0 (Kd.cQ (aR cG.z) (Kd.aU aq) hb);have ax:=k0 (Kd.kn (aS aoe.z) hb);have ay:=k0 (Kd.cH (Kd.cR aq (Kd.bK (aR cG.z))) (anG bl));have anC:=kB aa hb;have aD:=kB dS hb;have anE:=k0 (anH bl hb);clear cG;clear aoe;clear aa;clear dS;clear HB;have cG:=av;have aoe:=ax;have eu:=ay;have aa:=anC;have dS:=aD;have HB:=anE;clear av ax ay anC aD anE;obtain ⟨MK,OX,I2⟩:=Kd.cK eu.z;subst I2))
     replace cG:=k0 (Kd.bP cG.z);replace aoe:=k0 (Kd.cS aoe.z);replace eu:=k0 (Kd.bP eu.z);replace aa:=k0 (aH aa.z);replace dS:=k0 (aH dS.z);replace HB:=k0 (anS HB.z)
     have KY:0≤(0:Int):=(by omega)
     have Le:0 < (t121.length:Int):=oD
     obtain ⟨EL,e124,FN⟩:=Kd.vW (Kd.anT eu.z).2.2 0 KY Le
     cases e124
     have am4:(0 < t121.length)=True:=eq_true (by omega)
     (try rw [show ((0:Int)).toNat=0 from rfl] at FN)
     (try rw [Addr.add_zero'] at FN)
     replace KY:=eq_true KY
     replace Le:=eq_true Le
     have yL:0≤(1:Int):=(by omega)
     have yU:1 < (t121.length:Int):=oD
     obtain ⟨Ii,e126,uQ⟩:=Kd.vW (Kd.anT eu.z).2.2 1 yL yU
     obtain rfl:EL=Ii:=(by injection e126)
     (try simp only [show (1:Int).toNat=1 from rfl,Nat.reduceMul,Nat.reduceEqDiff,Go.Addr.add,↓reduceIte] at uQ)
     have am5:(1 < t121.length)=True:=eq_true (by omega)
     (try rw [show ((1:Int)).toNat=1 from rfl] at uQ)
     replace yL:=eq_true yL
     replace yU:=eq_true yU
     refine oO (n:=15) (S:=fun w'=>w'.cell? ⟨uD,0,none⟩=some (.int .i64 t106)∧w'.cell? ⟨uD,1,none⟩=some (u111001)∧w'.cell? EL=some (.string (eB ByteArray.empty t121 0))∧w'.cell? ⟨EL.block,EL.off+1,none⟩=some (.string (eB ByteArray.empty t121 1))) (ds:=[12,14]) (ba 15 0) (by kernel_rfl) rfl rfl ⟨aX dS,aY dS,FN,uQ⟩ (fun hHeld=>?_);refine qt ei.aeZ ei.Xl (fun anM eE=>?_)
     generalize Gu.drew=TV at cG aoe eu aa dS HB FN uQ hHeld ⊢
     refine pu 0 (some 45) (ba 15 1) anM (h:=?_)
     refine pu 2 (some 47) (ba 15 5) anM (h:=?_)
     refine pu 3 (some 48) (ba 15 13) anM (h:=?_)
     refine pu 6 (some 51) (ba 15 77) anM (h:=?_)
     refine pu 7 (some 52) (ba 15 205) anM (h:=?_)
     refine ta 1 (some 46) (ba 15 207) anM eE hHeld (hy:=Or.inl ⟨by rfl,by rintro w' ⟨s0,s1,s2,s3⟩;go_simp;with_reducible rfl⟩) (h:=?_)
     refine ta 4 (some 49) (ba 15 223) anM eE hHeld (hy:=Or.inl ⟨by rfl,by rintro w' ⟨s0,s1,s2,s3⟩;go_simp;with_reducible rfl⟩) (h:=?_)
     refine ta 8 (some 53) (ba 15 479) anM eE hHeld (hy:=Or.inl ⟨by rfl,by rintro w' ⟨s0,s1,s2,s3⟩;go_simp;with_reducible rfl⟩) (h:=?_)
     refine nF (i:=5) (N:=some 50) (ba 15 511) rfl rfl (j7 anM.out (by kernel_rfl)) (by decide) (fun K hK=>?_)
     refine uE Try.func249 (by kernel_rfl) rfl #[.string (eB ByteArray.empty t121 0)] (by rfl) rfl rfl gm ?_
     with_reducible refine (an4.calls k2 (eB ByteArray.empty t121 0) t125 _ Um.z).mono ?_
     rintro e w' ⟨rfl,⟨nd,rfl⟩⟩
     refine ⟨_,rfl,?_⟩
     refine hK.out _ _ ⟨aX dS,aY dS,hHeld.2.2.1,hHeld.2.2.2⟩ (fun hHeld=>?_)
     clear hK K
     refine mY (a':=?_) ?_ ?_
     rotate_left;· show Act.put _ (some 50) _=_;simp only [Act.put,zI,zZ,zS,dX,eZ];rfl
     refine nF (i:=9) (N:=some 54) (ba 15 1023) rfl rfl (j7 anM.out (by kernel_rfl)) (by decide) (fun K hK=>?_)
     refine uE Try.func249 (by kernel_rfl) rfl #[.string (eB ByteArray.empty t121 1)] (by rfl) rfl rfl gm ?_
     with_reducible refine (an4.calls k2 (eB ByteArray.empty t121 1) t127 _ Un.z).mono ?_
     rintro e w' ⟨rfl,⟨nd,rfl⟩⟩
     refine ⟨_,rfl,?_⟩
     refine hK.out _ _ ⟨aX dS,aY dS,hHeld.2.2.1,hHeld.2.2.2⟩ (fun hHeld=>?_)
     clear hK K
     refine mY (a':=?_) ?_ ?_
     rotate_left;· show Act.put _ (some 54) _=_;simp only [Act.put,zI,zZ,zS,dX,eZ];rfl
     refine nF (i:=10) (N:=some 55) (ba 15 2047) rfl rfl (j7 anM.out (by kernel_rfl)) (by decide) (fun K hK=>?_)
     refine Kd.N6 (Kd.int .i64) _ 2 ?hg (N:=55) ?hd (xs:=([t125,t127]:List Int)) (inner:=[.int .i64 t125,.int .i64 t127]) (ok:=fun _=>True) (anX:=fun _=>True) ?hr ?hp (fun _ hk=>hk) trivial (Below.refl _ _) (Nat.le_refl _) (by simp) ?_;(case hd=>rfl);(case hg=>rfl);(case hr=>first|(go_simp;done)|(go_simp;rfl));(case hp=>exact (bu.one (show Kd.M (Kd.int .i64) _ _ _ t125 [.int .i64 t125] from rfl) (bu.one (show Kd.M (Kd.int .i64) _ _ _ t127 [.int .i64 t127] from rfl) (bu.none _ _))))
     intro anc TW AG hb c_ dc
     have Ew:=(hb.cell (World.block_lt_of_cell? _ _ (hHeld.2.2.1))).trans (hHeld.2.2.1)
     have VB:=(hb.cell (World.block_lt_of_cell? _ _ (hHeld.2.2.2))).trans (hHeld.2.2.2)
     clear c_ dc
     (first|rw [← NU.z] at AG|(simp only [Int.reduceToNat] at AG;rw [← NU.z] at AG))
     have av:=k0 (Kd.dg (aR cG.z) hb)
     have ax:=k0 (Kd.an6 (aS aoe.z) (Kd.aU AG) hb)
     have ay:=k0 (Kd.dg (aR eu.z) hb)
     have anC:=k0 (Kd.cH AG (anG bl))
     have aD:=kB aa hb
     have anE:=kB dS hb
     have anP:=k0 (anH bl hb)
     clear cG
     clear aoe
     clear eu
     clear aa
     clear dS
     clear HB
     have cG:=av
     have aoe:=ax
     have eu:=ay
     have Es:=anC
     have aa:=aD
     have dS:=anE
     have HB:=anP
     clear av ax ay anC aD anE anP
     clear hb AG
     obtain ⟨ML,OY,Pg⟩:=Kd.cK Es.z
     (first|subst Pg|(injection Pg with ig aoq ij;have aor:=ig.symm;have aos:=ij.symm;clear ig aoq ij;subst aor;subst aos))
     refine hK.out _ _ ⟨aX dS,aY dS,Ew,VB⟩ (fun hHeld=>?_)
     clear hK K
     refine mY (a':=?_) ?_ ?_
     rotate_left;· show Act.put _ (some 55) _=_;simp only [Act.put,zI,zZ,zS,dX,eZ];rfl
     refine nF (i:=11) (N:=some 56) (ba 15 4095) rfl rfl (j7 anM.out (by kernel_rfl)) (by decide) (fun K hK=>?_)
     refine ao2 (w1:=?_) (v:=?_) (by rfl) rfl ?_ ?_
     rotate_left 2
     ·go_simp
      constructor
      ·rfl
      ·rfl
     refine hK.out _ _ ⟨(eX (aI dS.z _) 0).trans rfl,(eX (aI dS.z _) 1).trans rfl,(World.cell?_alloc_lt _ _ _ (World.block_lt_of_cell? _ _ (hHeld.2.2.1))).trans (hHeld.2.2.1),(World.cell?_alloc_lt _ _ _ (World.block_lt_of_cell? _ _ (hHeld.2.2.2))).trans (hHeld.2.2.2)⟩ (fun hHeld=>?_)
     clear hK K
     refine mY (a':=?_) ?_ ?_
     rotate_left;· show Act.put _ (some 56) _=_;simp only [Act.put,zI,zZ,zS,dX,eZ];rfl
     refine rC (i:=12) (N:=some 57) (ba 15 8191) rfl rfl (j7 anM.out (by kernel_rfl)) (by decide) (fun K hK=>?_)
     refine Kd.Ic (Kd.slice 2 (Kd.int .i64)) (w0:=w) w.heap.size (by rfl) (.tmp 46) (.tmp 56) 22 28 (.slice none 0 0) 24 rfl Try.underlying22 qI rfl (by decide) (by omega) u111001 lY D8 [.slice ML D8.length OY] (fun _=>True) (fun k_=>some k_=(.slice ML D8.length OY:Value).ownBlock) rfl rfl ?aP (fun k_ b9=>((Kd.aT (ok':=fun k_=>((fun _=>True)) k_∧some k_ ≠ (u111001:Value).ownBlock) (Kd.jx (Es.z) (Kd.iR aoe.z) (by decide)) (fun k_ hk=>⟨trivial,hk.2⟩))).1 k_ b9.symm) ?aF ?aO ?aB ?aS ?aL ?_
     (case aP=>exact Kd.lg (Kd.aT (Kd.oB rfl (Kd.aT (ok':=fun k_=>((fun _=>True)) k_∧some k_ ≠ (u111001:Value).ownBlock) (Kd.jx (Es.z) (Kd.iR aoe.z) (by decide)) (fun k_ hk=>⟨trivial,hk.2⟩))) (fun _ h_=>h_)))
     (case aB=>exact bl)
     (case aF=>exact (fun _ _=>trivial))
     (case aO=>exact (by (with_reducible repeat (first|apply Kd.di|apply Kd.dm|apply Kd.cS));exact Kd.anW aoe.z (fun k_ hk=>⟨trivial,fun e_=>hk.2 e_⟩)))
     (case aS=>exact (anG bl))
     (case aL=>have:=VX.out;omega)
     intro LM TY ho hb hg bz
     rw [← Wf.z] at ho
     have av:=k0 (Kd.Ia (aR cG.z) (Kd.iR (aS aoe.z)) (by decide) hg)
     have ax:=k0 (gh (aB aa.z) hg (Kd.kD aoe.z aa.z (by decide)))
     have ay:=k0 (gh (aB dS.z) hg (Kd.kD aoe.z dS.z (by decide)))
     have anC:=k0 (Kd.Ia (aR eu.z) (Kd.iR (aS aoe.z)) (by decide) hg)
     have aD:=k0 (hb)
     have anE:=k0 (ho)
     clear cG
     clear aa
     clear dS
     clear eu
     clear HB
     clear aoe
     clear Es
     have cG:=av
     have aa:=ax
     have dS:=ay
     have eu:=anC
     have HB:=aD
     have fJ:=anE
     clear av ax ay anC aD anE
     clear ho hb hg bz
     obtain ⟨GU,IL,Ph⟩:=Kd.eH fJ.z
     (first|subst Ph|(injection Ph with ig aoq ij;have aor:=ig.symm;have aos:=ij.symm;clear ig aoq ij;subst aor;subst aos))
     refine hK.out _ _ ?_
     clear hK K
     refine mY (a':=?_) ?_ ?_
     rotate_left;· show Act.put _ (some 57) _=_;simp only [Act.put,zI,zZ,zS,dX,eZ];rfl
     refine pu 13 (some 58) (ba 15 16383) anM (h:=?_)
     refine rC (i:=14) (N:=none) (ba 15 32767) rfl rfl (j7 anM.out (by kernel_rfl)) (by decide) (fun K hK=>?_)
     have amP:=aY dS
     have ajm:=bF dS 1
     have amM:=uh.z
     have akT:=BH.z
     refine sZ (w1:=?_) (by rfl) rfl ?_ ?_
     rotate_left;· go_simp;rfl
     refine hK.out _ _ ?_
     clear hK K
     refine o_ (qF anM.out (by kernel_rfl)) ?_
     try go_wp2
     go_roundg k2
     case measure=>have:=Nn.out;have:=eo.z;omega
     case rel=>exact ⟨(wrap64 (eC+1)),(A_),(D9),(.slice GU D9.length IL),rs,H',⟨by have:=Nn.out;have:=eo.z;omega⟩,⟨aR (Kd.aT (gR 1 (.slice GU D9.length IL) (tR cG dS)) (fun _ hk=>trivial))⟩,⟨aS (Kd.anW (gS 1 (.slice GU D9.length IL) (tS fJ dS)) (fun _ hk=>trivial))⟩,⟨by (with_reducible repeat (first|refine anF ?_ _|refine aH ?_|refine aI ?_ _));refine anU ?_ uh.z _;exact bk⟩,⟨by (with_reducible repeat (first|refine anF ?_ _|refine aH ?_|refine aI ?_ _));refine anV (cs:=#[.int .i64 t106,u111001]) ?_ 1 _ rfl;exact bk⟩,⟨bl⟩⟩
/-! ### F243: function 243 -/
def Bs.f (a0:ByteArray):Option (ByteArray):=if a0.toList=([112,111,105,110,116]:List UInt8) then (some (⟨#[49,58]⟩:ByteArray)) else (if a0.toList=([101,100,103,101]:List UInt8) then (some (⟨#[50,58,48,45,49]⟩:ByteArray)) else (if a0.toList=([108,111,111,112]:List UInt8) then (some (⟨#[49,58,48,45,48]⟩:ByteArray)) else (if a0.toList=([98,111,117,113,117,101,116]:List UInt8) then (some (⟨#[49,58,48,45,48,44,48,45,48]⟩:ByteArray)) else (if a0.toList=([116,104,101,116,97]:List UInt8) then (some (⟨#[50,58,48,45,49,44,48,45,49,44,48,45,49]⟩:ByteArray)) else (if a0.toList=([100,117,109,98,98,101,108,108]:List UInt8) then (some (⟨#[50,58,48,45,48,44,48,45,49,44,49,45,49]⟩:ByteArray)) else (if a0.toList=([116,114,105,97,110,103,108,101]:List UInt8) then (some (⟨#[51,58,48,45,49,44,49,45,50,44,50,45,48]⟩:ByteArray)) else (if a0.toList=([115,113,117,97,114,101]:List UInt8) then (some (⟨#[52,58,48,45,49,44,49,45,50,44,50,45,51,44,51,45,48]⟩:ByteArray)) else (if a0.toList=([112,101,110,116,97,103,111,110]:List UInt8) then (some (⟨#[53,58,48,45,49,44,49,45,50,44,50,45,51,44,51,45,52,44,52,45,48]⟩:ByteArray)) else (if a0.toList=([115,116,97,114]:List UInt8) then (some (⟨#[52,58,48,45,49,44,48,45,50,44,48,45,51]⟩:ByteArray)) else (if a0.toList=([100,105,97,109,111,110,100]:List UInt8) then (some (⟨#[52,58,48,45,49,44,49,45,50,44,50,45,51,44,51,45,48,44,48,45,50]⟩:ByteArray)) else (if a0.toList=([116,101,116,114,97,104,101,100,114,111,110]:List UInt8) then (some (⟨#[52,58,48,45,49,44,48,45,50,44,48,45,51,44,49,45,50,44,49,45,51,44,50,45,51]⟩:ByteArray)) else (if a0.toList=([112,114,105,115,109]:List UInt8) then (some (⟨#[54,58,48,45,49,44,49,45,50,44,50,45,48,44,51,45,52,44,52,45,53,44,53,45,51,44,48,45,51,44,49,45,52,44,50,45,53]⟩:ByteArray)) else (if a0.toList=([104,111,117,115,101,115]:List UInt8) then (some (⟨#[54,58,48,45,51,44,48,45,52,44,48,45,53,44,49,45,51,44,49,45,52,44,49,45,53,44,50,45,51,44,50,45,52,44,50,45,53]⟩:ByteArray)) else (some (⟨#[]⟩:ByteArray)))))))))))))))
theorem Bs.calls (a0 : ByteArray) (r : ByteArray) (w : World) (h : Bs.f a0 = some r) :
  Calls Try.prog 243 #[.string a0] w fun e w'=>e=.returned (.string r)∧aod w w':=by
 have H:(if a0.toList=([112,111,105,110,116]:List UInt8) then (some (⟨#[49,58]⟩:ByteArray)) else (if a0.toList=([101,100,103,101]:List UInt8) then (some (⟨#[50,58,48,45,49]⟩:ByteArray)) else (if a0.toList=([108,111,111,112]:List UInt8) then (some (⟨#[49,58,48,45,48]⟩:ByteArray)) else (if a0.toList=([98,111,117,113,117,101,116]:List UInt8) then (some (⟨#[49,58,48,45,48,44,48,45,48]⟩:ByteArray)) else (if a0.toList=([116,104,101,116,97]:List UInt8) then (some (⟨#[50,58,48,45,49,44,48,45,49,44,48,45,49]⟩:ByteArray)) else (if a0.toList=([100,117,109,98,98,101,108,108]:List UInt8) then (some (⟨#[50,58,48,45,48,44,48,45,49,44,49,45,49]⟩:ByteArray)) else (if a0.toList=([116,114,105,97,110,103,108,101]:List UInt8) then (some (⟨#[51,58,48,45,49,44,49,45,50,44,50,45,48]⟩:ByteArray)) else (if a0.toList=([115,113,117,97,114,101]:List UInt8) then (some (⟨#[52,58,48,45,49,44,49,45,50,44,50,45,51,44,51,45,48]⟩:ByteArray)) else (if a0.toList=([112,101,110,116,97,103,111,110]:List UInt8) then (some (⟨#[53,58,48,45,49,44,49,45,50,44,50,45,51,44,51,45,52,44,52,45,48]⟩:ByteArray)) else (if a0.toList=([115,116,97,114]:List UInt8) then (some (⟨#[52,58,48,45,49,44,48,45,50,44,48,45,51]⟩:ByteArray)) else (if a0.toList=([100,105,97,109,111,110,100]:List UInt8) then (some (⟨#[52,58,48,45,49,44,49,45,50,44,50,45,51,44,51,45,48,44,48,45,50]⟩:ByteArray)) else (if a0.toList=([116,101,116,114,97,104,101,100,114,111,110]:List UInt8) then (some (⟨#[52,58,48,45,49,44,48,45,50,44,48,45,51,44,49,45,50,44,49,45,51,44,50,45,51]⟩:ByteArray)) else (if a0.toList=([112,114,105,115,109]:List UInt8) then (some (⟨#[54,58,48,45,49,44,49,45,50,44,50,45,48,44,51,45,52,44,52,45,53,44,53,45,51,44,48,45,51,44,49,45,52,44,50,45,53]⟩:ByteArray)) else (if a0.toList=([104,111,117,115,101,115]:List UInt8) then (some (⟨#[54,58,48,45,51,44,48,45,52,44,48,45,53,44,49,45,51,44,49,45,52,44,49,45,53,44,50,45,51,44,50,45,52,44,50,45,53]⟩:ByteArray)) else (some (⟨#[]⟩:ByteArray))))))))))))))))=some r:=h
 clear h
 by_cases c2:a0.toList=([112,111,105,110,116]:List UInt8)
 case neg =>
  rw [if_neg c2] at H
  have xG:(a0.toList == ([112,111,105,110,116]:List UInt8))=false:=beq_eq_false_iff_ne.mpr c2
  have IE:(a0.toList != ([112,111,105,110,116]:List UInt8))=true:=bne_iff_ne.mpr c2
  by_cases c3:a0.toList=([101,100,103,101]:List UInt8)
  case neg =>
   rw [if_neg c3] at H
   have jZ:(a0.toList == ([101,100,103,101]:List UInt8))=false:=beq_eq_false_iff_ne.mpr c3
   have uy:(a0.toList != ([101,100,103,101]:List UInt8))=true:=bne_iff_ne.mpr c3
   by_cases c4:a0.toList=([108,111,111,112]:List UInt8)
   case neg =>
    rw [if_neg c4] at H
    have gT:(a0.toList == ([108,111,111,112]:List UInt8))=false:=beq_eq_false_iff_ne.mpr c4
    have tE:(a0.toList != ([108,111,111,112]:List UInt8))=true:=bne_iff_ne.mpr c4
    by_cases c5:a0.toList=([98,111,117,113,117,101,116]:List UInt8)
    case neg =>
     rw [if_neg c5] at H
     have aoo:(a0.toList == ([98,111,117,113,117,101,116]:List UInt8))=false:=beq_eq_false_iff_ne.mpr c5
     have EX:(a0.toList != ([98,111,117,113,117,101,116]:List UInt8))=true:=bne_iff_ne.mpr c5
     by_cases c6:a0.toList=([116,104,101,116,97]:List UInt8)
     case neg =>
      rw [if_neg c6] at H
      have iD:(a0.toList == ([116,104,101,116,97]:List UInt8))=false:=beq_eq_false_iff_ne.mpr c6
      have oF:(a0.toList != ([116,104,101,116,97]:List UInt8))=true:=bne_iff_ne.mpr c6
      by_cases c7:a0.toList=([100,117,109,98,98,101,108,108]:List UInt8)
      case neg =>
       rw [if_neg c7] at H
       have o7:(a0.toList == ([100,117,109,98,98,101,108,108]:List UInt8))=false:=beq_eq_false_iff_ne.mpr c7
       have ao4:(a0.toList != ([100,117,109,98,98,101,108,108]:List UInt8))=true:=bne_iff_ne.mpr c7
       by_cases c8:a0.toList=([116,114,105,97,110,103,108,101]:List UInt8)
       case neg =>
        rw [if_neg c8] at H
        have p8:(a0.toList == ([116,114,105,97,110,103,108,101]:List UInt8))=false:=beq_eq_false_iff_ne.mpr c8
        have ao5:(a0.toList != ([116,114,105,97,110,103,108,101]:List UInt8))=true:=bne_iff_ne.mpr c8
        by_cases c9:a0.toList=([115,113,117,97,114,101]:List UInt8)
        case neg =>
         rw [if_neg c9] at H
         have nY:(a0.toList == ([115,113,117,97,114,101]:List UInt8))=false:=beq_eq_false_iff_ne.mpr c9
         have EY:(a0.toList != ([115,113,117,97,114,101]:List UInt8))=true:=bne_iff_ne.mpr c9
         by_cases c10:a0.toList=([112,101,110,116,97,103,111,110]:List UInt8)
         case neg =>
          rw [if_neg c10] at H
          have r9:(a0.toList == ([112,101,110,116,97,103,111,110]:List UInt8))=false:=beq_eq_false_iff_ne.mpr c10
          have apK:(a0.toList != ([112,101,110,116,97,103,111,110]:List UInt8))=true:=bne_iff_ne.mpr c10
          by_cases c11:a0.toList=([115,116,97,114]:List UInt8)
          case neg =>
           rw [if_neg c11] at H
           have lS:(a0.toList == ([115,116,97,114]:List UInt8))=false:=beq_eq_false_iff_ne.mpr c11
           have uv:(a0.toList != ([115,116,97,114]:List UInt8))=true:=bne_iff_ne.mpr c11
           by_cases c12:a0.toList=([100,105,97,109,111,110,100]:List UInt8)
           case neg =>
            rw [if_neg c12] at H
            have p6:(a0.toList == ([100,105,97,109,111,110,100]:List UInt8))=false:=beq_eq_false_iff_ne.mpr c12
            have EU:(a0.toList != ([100,105,97,109,111,110,100]:List UInt8))=true:=bne_iff_ne.mpr c12
            by_cases c13:a0.toList=([116,101,116,114,97,104,101,100,114,111,110]:List UInt8)
            case neg =>
             rw [if_neg c13] at H
             have aoJ:(a0.toList == ([116,101,116,114,97,104,101,100,114,111,110]:List UInt8))=false:=beq_eq_false_iff_ne.mpr c13
             have Iv:(a0.toList != ([116,101,116,114,97,104,101,100,114,111,110]:List UInt8))=true:=bne_iff_ne.mpr c13
             by_cases c14:a0.toList=([112,114,105,115,109]:List UInt8)
             case neg =>
              rw [if_neg c14] at H
              have qC:(a0.toList == ([112,114,105,115,109]:List UInt8))=false:=beq_eq_false_iff_ne.mpr c14
              have B7:(a0.toList != ([112,114,105,115,109]:List UInt8))=true:=bne_iff_ne.mpr c14
              by_cases c15:a0.toList=([104,111,117,115,101,115]:List UInt8)
              case neg =>
               rw [if_neg c15] at H
               have lD:(a0.toList == ([104,111,117,115,101,115]:List UInt8))=false:=beq_eq_false_iff_ne.mpr c15
               have xF:(a0.toList != ([104,111,117,115,101,115]:List UInt8))=true:=bne_iff_ne.mpr c15
               obtain rfl:=Option.some.inj H
               go_enter Try.func243,Try.ntmps243
               go_wp2
               go_ret
               exact ⟨rs,dW⟩
              rw [if_pos c15] at H
              have lD:(a0.toList == ([104,111,117,115,101,115]:List UInt8))=true:=beq_iff_eq.mpr c15
              have xF:(a0.toList != ([104,111,117,115,101,115]:List UInt8))=false:=bne_eq_false_iff_eq.mpr c15
              clear c15
              obtain rfl:=Option.some.inj H
              go_enter Try.func243,Try.ntmps243
              go_wp2
              go_ret
              exact ⟨rs,dW⟩
             rw [if_pos c14] at H
             have qC:(a0.toList == ([112,114,105,115,109]:List UInt8))=true:=beq_iff_eq.mpr c14
             have B7:(a0.toList != ([112,114,105,115,109]:List UInt8))=false:=bne_eq_false_iff_eq.mpr c14
             clear c14
             obtain rfl:=Option.some.inj H
             go_enter Try.func243,Try.ntmps243
             go_wp2
             go_ret
             exact ⟨rs,dW⟩
            rw [if_pos c13] at H
            have aoJ:(a0.toList == ([116,101,116,114,97,104,101,100,114,111,110]:List UInt8))=true:=beq_iff_eq.mpr c13
            have Iv:(a0.toList != ([116,101,116,114,97,104,101,100,114,111,110]:List UInt8))=false:=bne_eq_false_iff_eq.mpr c13
            clear c13
            obtain rfl:=Option.some.inj H
            go_enter Try.func243,Try.ntmps243
            go_wp2
            go_ret
            exact ⟨rs,dW⟩
           rw [if_pos c12] at H
           have p6:(a0.toList == ([100,105,97,109,111,110,100]:List UInt8))=true:=beq_iff_eq.mpr c12
           have EU:(a0.toList != ([100,105,97,109,111,110,100]:List UInt8))=false:=bne_eq_false_iff_eq.mpr c12
           clear c12
           obtain rfl:=Option.some.inj H
           go_enter Try.func243,Try.ntmps243
           go_wp2
           go_ret
           exact ⟨rs,dW⟩
          rw [if_pos c11] at H
          have lS:(a0.toList == ([115,116,97,114]:List UInt8))=true:=beq_iff_eq.mpr c11
          have uv:(a0.toList != ([115,116,97,114]:List UInt8))=false:=bne_eq_false_iff_eq.mpr c11
          clear c11
          obtain rfl:=Option.some.inj H
          go_enter Try.func243,Try.ntmps243
          go_wp2
          go_ret
          exact ⟨rs,dW⟩
         rw [if_pos c10] at H
         have r9:(a0.toList == ([112,101,110,116,97,103,111,110]:List UInt8))=true:=beq_iff_eq.mpr c10
         have apK:(a0.toList != ([112,101,110,116,97,103,111,110]:List UInt8))=false:=bne_eq_false_iff_eq.mpr c10
         clear c10
         obtain rfl:=Option.some.inj H
         go_enter Try.func243,Try.ntmps243
         go_wp2
         go_ret
         exact ⟨rs,dW⟩
        rw [if_pos c9] at H
        have nY:(a0.toList == ([115,113,117,97,114,101]:List UInt8))=true:=beq_iff_eq.mpr c9
        have EY:(a0.toList != ([115,113,117,97,114,101]:List UInt8))=false:=bne_eq_false_iff_eq.mpr c9
        clear c9
        obtain rfl:=Option.some.inj H
        go_enter Try.func243,Try.ntmps243
        go_wp2
        go_ret
        exact ⟨rs,dW⟩
       rw [if_pos c8] at H
       have p8:(a0.toList == ([116,114,105,97,110,103,108,101]:List UInt8))=true:=beq_iff_eq.mpr c8
       have ao5:(a0.toList != ([116,114,105,97,110,103,108,101]:List UInt8))=false:=bne_eq_false_iff_eq.mpr c8
       clear c8
       obtain rfl:=Option.some.inj H
       go_enter Try.func243,Try.ntmps243
       go_wp2
       go_ret
       exact ⟨rs,dW⟩
      rw [if_pos c7] at H
      have o7:(a0.toList == ([100,117,109,98,98,101,108,108]:List UInt8))=true:=beq_iff_eq.mpr c7
      have ao4:(a0.toList != ([100,117,109,98,98,101,108,108]:List UInt8))=false:=bne_eq_false_iff_eq.mpr c7
      clear c7
      obtain rfl:=Option.some.inj H
      go_enter Try.func243,Try.ntmps243
      go_wp2
      go_ret
      exact ⟨rs,dW⟩
     rw [if_pos c6] at H
     have iD:(a0.toList == ([116,104,101,116,97]:List UInt8))=true:=beq_iff_eq.mpr c6
     have oF:(a0.toList != ([116,104,101,116,97]:List UInt8))=false:=bne_eq_false_iff_eq.mpr c6
     clear c6
     obtain rfl:=Option.some.inj H
     go_enter Try.func243,Try.ntmps243
     go_wp2
     go_ret
     exact ⟨rs,dW⟩
    rw [if_pos c5] at H
    have aoo:(a0.toList == ([98,111,117,113,117,101,116]:List UInt8))=true:=beq_iff_eq.mpr c5
    have EX:(a0.toList != ([98,111,117,113,117,101,116]:List UInt8))=false:=bne_eq_false_iff_eq.mpr c5
    clear c5
    obtain rfl:=Option.some.inj H
    go_enter Try.func243,Try.ntmps243
    go_wp2
    go_ret
    exact ⟨rs,dW⟩
   rw [if_pos c4] at H
   have gT:(a0.toList == ([108,111,111,112]:List UInt8))=true:=beq_iff_eq.mpr c4
   have tE:(a0.toList != ([108,111,111,112]:List UInt8))=false:=bne_eq_false_iff_eq.mpr c4
   clear c4
   obtain rfl:=Option.some.inj H
   go_enter Try.func243,Try.ntmps243
   go_wp2
   go_ret
   exact ⟨rs,dW⟩
  rw [if_pos c3] at H
  have jZ:(a0.toList == ([101,100,103,101]:List UInt8))=true:=beq_iff_eq.mpr c3
  have uy:(a0.toList != ([101,100,103,101]:List UInt8))=false:=bne_eq_false_iff_eq.mpr c3
  clear c3
  obtain rfl:=Option.some.inj H
  go_enter Try.func243,Try.ntmps243
  go_wp2
  go_ret
  exact ⟨rs,dW⟩
 rw [if_pos c2] at H
 have xG:(a0.toList == ([112,111,105,110,116]:List UInt8))=true:=beq_iff_eq.mpr c2
 have IE:(a0.toList != ([112,111,105,110,116]:List UInt8))=false:=bne_eq_false_iff_eq.mpr c2
 clear c2
 obtain rfl:=Option.some.inj H
 go_enter Try.func243,Try.ntmps243
 go_wp2
 go_ret
 exact ⟨rs,dW⟩
/-! ### F233: function 233 -/
def ng.f (k:Nat) (a0:ByteArray):Option (Int × (List (List Int)) × Bool):=(Bs.f a0).bind fun t102=>((ei.f k t102).bind fun fN=>(some (fN.1,fN.2.1,fN.2.2)))
theorem ng.mono:∀ a0 k,ag (ng.f k a0) (ng.f (k+1) a0):=by
 intro a0 k
 unfold ng.f
 repeat' first
  | (with_reducible first|exact ei.mono _ _|exact ag.refl _|exact ag.none _|refine ag.ite ?_ ?_|refine ag.bind ?_ (fun _=>?_))
  | exact ei.mono _ _|exact ag.none _|refine ag.ite ?_ ?_|refine ag.bind ?_ (fun _=>?_)
theorem ng.calls (k : Nat) (a0 : ByteArray) (r1 : Int) (r2 : List (List Int)) (r3 : Bool) (w : World) (h : ng.f k a0 = some (r1, r2, r3)) :
  Calls Try.prog 233 #[.string a0] w fun e w'=>∃ iw:Value,e=.returned (.tuple #[.agg #[.int .i64 r1,iw],.bool r3])∧Kd.S (Kd.slice 2 (Kd.int .i64)) 28 w' w.heap.size (fun _=>True) iw r2∧Below w.heap.size w w':=by
 have jS:=Try.underlying31
 have HB:=k0 (Below.refl w.heap.size w)
 have H:((Bs.f a0).bind fun t102=>((ei.f k t102).bind fun fN=>(some (fN.1,fN.2.1,fN.2.2))))=some (r1,r2,r3):=h
 clear h
 replace H:=Option.bind_eq_some_iff.mp H
 obtain ⟨t102,eD,H⟩:=H
 replace H:((ei.f k t102).bind fun fN=>(some (fN.1,fN.2.1,fN.2.2)))=some (r1,r2,r3):=H
 have A2:=k0 eD
 clear eD
 replace H:=Option.bind_eq_some_iff.mp H
 obtain ⟨⟨t103,t104,t107⟩,fS,H⟩:=H
 replace H:(some (t103,t104,t107))=some (r1,r2,r3):=H
 have A3:=k0 fS
 clear fS
 simp only [Option.some.injEq,Prod.mk.injEq] at H
 obtain ⟨rfl,rfl,rfl⟩:=H
 go_enter Try.func233,Try.ntmps233
 go_wp2_with (first|((with_reducible refine bN (N:=2) rfl ?_);refine cE 2 #[.int .i64 0,.slice none 0 0] 31 ?_;intro aW hg w4 aG hb;have aa:=k0 (aG);have cu:=gW hg (anG bl);have anQ:=cu;replace HB:=k0 (anH bl hb);clear hb aG hg)|((with_reducible refine bS (f:=243) rfl ?_);refine gC (some 8) Try.func243 #[.string a0] ?_;(with_reducible refine (Bs.calls a0 t102 _ A2.z).mono ?_);rintro e w' ⟨rfl,⟨nd,rfl⟩⟩;refine ⟨_,rfl,?_⟩;(try (rw [Pb w4];generalize wA:World.drewN w4 _=w4;have av:ak (w4.heap[aW]?=some (.cells #[.int .i64 0,.slice none 0 0] 31 (0,0))):=⟨by rw [← wA];exact bk⟩;have ax:ak (Below w.heap.size w w4):=⟨by rw [← wA];exact bl⟩;clear aa HB wA;have aa:=av;have HB:=ax;clear av ax)))|((with_reducible refine bS (f:=242) rfl ?_);refine gC (some 9) Try.func242 #[.string t102] ?_;(with_reducible refine (ei.calls k t102 t103 t104 t107 _ A3.z).mono ?_);rintro e w5 ⟨v105,rfl,aq,hb⟩;refine ⟨_,rfl,?_⟩;have kS:=k0 (Kd.gD aq (anG bl));replace aa:=kB aa hb;replace HB:=k0 (anH bl hb);)|((with_reducible refine bN (N:=4) rfl ?_);refine cE 4 #[.int .i64 0,.slice none 0 0] 31 ?_;intro Pw hg w6 aG hb;replace kS:=k0 (Kd.kn (aS kS.z) hb);have Bq:=k0 (aG);have U4:=gW hg (anG bl);have aga:=U4;replace HB:=k0 (anH bl hb);have Ey:=nL hg aa;have V6:=nG Ey;replace aa:=kB aa hb;clear hb aG hg;have J2:=V6.z;have J6:=Ey.z;have CR:=aX Bq;have CS:=aY Bq;have CZ:=bF Bq 0;have C0:=bF Bq 1;obtain ⟨s7,p_,xO⟩:=Kd.eH kS.z;subst xO;have xW:=aX aa;have xX:=aY aa;have apc:=bF aa 0;have apd:=bF aa 1))
 refine bodyPost_ret (apm rfl _ _ aW 31 #[.int .i64 t103,.slice s7 t104.length p_] (0,0) _ rfl (by (with_reducible repeat (first|refine anF ?_ _|refine aH ?_|refine aI ?_ _));refine anV (cs:=#[.int .i64 t103,.slice none 0 0]) ?_ 1 _ rfl;(with_reducible repeat (first|refine anF ?_ _|refine aH ?_|refine aI ?_ _));refine anV (cs:=#[.int .i64 0,.slice none 0 0]) ?_ 0 _ rfl;(with_reducible repeat (first|refine anF ?_ _|refine aH ?_|refine aI ?_ _));refine anU ?_ Ey.z _;(with_reducible repeat (first|refine anF ?_ _|refine aH ?_|refine aI ?_ _));refine anU ?_ Ey.z _;exact bk) Try.underlying31 rfl (by kernel_rfl)) rfl ?_
 exact ⟨_,eR,by (with_reducible repeat (first|apply Kd.di|apply Kd.dm|apply Kd.cS));exact Kd.anW (Kd.oC (p:=⟨aW,1,none⟩) (Kd.oC (p:=⟨aW,0,none⟩) (Kd.oC (p:=⟨Pw,1,none⟩) (Kd.oC (p:=⟨Pw,0,none⟩) (Kd.xu (tS kS Bq) aa.z (by decide)) (fun _ hk=>hk.1.2) (.int .i64 t103)) (fun _ hk=>hk.1.2) (.slice s7 t104.length p_)) (fun _ hk=>hk.2) (.int .i64 t103)) (fun _ hk=>hk.2) (.slice s7 t104.length p_)) (fun _ hk=>trivial),bl⟩
end Go.Proofs.Ytoebojnhchocaaa.G
/- Set with little white space, by a program. -/
