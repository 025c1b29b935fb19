/- The functions that one law reaches, each as a Lean function, and that Go's call comes to what it says. Condition of each: that the Lean function answers (is not none). -/
import Derived.Test.YtoebojnhchocaaaEx0
import Derived.Test.YtoebojnhchocaaaEx13
namespace Go.Proofs.Ytoebojnhchocaaa.E
open Go.RowKit Go.Proofs.bY.apf Go.Proofs.bY.ko Go.Proofs.bY.kN
attribute [local go_sem] max2_int min2_int max_two min_two max_three min_three max_four min_four   -- for this text's walks alone
set_option linter.unusedVariables false
set_option linter.unusedSimpArgs false
set_option maxHeartbeats 8000000
set_option maxRecDepth 100000
/-! ### F242: function 242 -/
mutual
def eI.j0 : Nat → List ByteArray → Int → List (List Int) → Option (Int × (List (List Int)) × Bool)
 | 0,_,_,_=>none
 | k+1,x6,vt,tQ=>eI.l0 k x6 0 vt tQ
def eI.l0 : Nat → List ByteArray → Int → Int → List (List Int) → Option (Int × (List (List Int)) × Bool)
 | 0,_,_,_,_=>none
 | k+1,x6,x7,vt,tQ=>if x7 < (x6.length:Int) then (if 0≤x7 then ((iu.f k (fj ByteArray.empty x6 x7) 45).bind fun t121=>(if (t121.length:Int)=2 then (if 0 < (t121.length:Int) then ((fP.f k (fj ByteArray.empty t121 0)).bind fun t125=>(if 1 < (t121.length:Int) then ((fP.f k (fj ByteArray.empty t121 1)).bind fun t127=>(if tQ.length < 5864062014805 then (eI.l0 k x6 (wrap64 (x7+1)) vt (tQ ++ [(([t125,t127]:List Int))])) else (none))) else (none))) else (none)) else (some (0,([]:List (List Int)),false)))) else (none)) else ((eO.f k vt tQ).bind fun t119=>(if t119=true then (some (vt,tQ,true)) else (some (0,([]:List (List Int)),false))))
end
def eI.f (k:Nat) (a0:ByteArray):Option (Int × (List (List Int)) × Bool):=(iu.f k a0 58).bind fun t102=>(if (t102.length:Int)=2 then (if 0 < (t102.length:Int) then ((fP.f k (fj ByteArray.empty t102 0)).bind fun t106=>((some (([]:List (List Int)):List (List Int))).bind fun gF=>(if 1 < (t102.length:Int) then ((iu.f k (fj ByteArray.empty t102 1) 44).bind fun t112=>(if (fj ByteArray.empty t102 1).toList=([]:List UInt8) then (eI.j0 k (([]:List ByteArray)) t106 gF) else (eI.j0 k t112 t106 gF))) else (none)))) else (none)) else (some (0,([]:List (List Int)),false)))
theorem eI.uY : ∀ k, (∀ y0 y1 y2, cz (eI.j0 k y0 y1 y2) (eI.j0 (k + 1) y0 y1 y2)) ∧ (∀ y0 y1 y2 y3, cz (eI.l0 k y0 y1 y2 y3) (eI.l0 (k + 1) y0 y1 y2 y3))
 | 0=>⟨fun _ _ _ r h=>by simp [eI.j0] at h,fun _ _ _ _ r h=>by simp [eI.l0] at h⟩
 | k+1=>by
  obtain ⟨mC,ih1⟩:=eI.uY k
  refine ⟨?_, ?_⟩ <;> intros <;> (first | unfold eI.j0 | unfold eI.l0) <;> repeat' first
   | (with_reducible first|exact mC _ _ _|exact ih1 _ _ _ _|exact eO.mono _ _ _|exact fP.mono _ _|exact iu.mono _ _ _|exact cz.refl _|exact cz.none _|refine cz.ite ?_ ?_|refine cz.bind ?_ (fun _=>?_))
   | exact mC _ _ _|exact ih1 _ _ _ _|exact eO.mono _ _ _|exact fP.mono _ _|exact iu.mono _ _ _|exact cz.none _|refine cz.ite ?_ ?_|refine cz.bind ?_ (fun _=>?_)
theorem eI.mono:∀ a0 k,cz (eI.f k a0) (eI.f (k+1) a0):=by
 intro a0 k
 obtain ⟨mC,ih1⟩:=eI.uY k
 unfold eI.f
 repeat' first
  | (with_reducible first|exact mC _ _ _|exact ih1 _ _ _ _|exact eO.mono _ _ _|exact fP.mono _ _|exact iu.mono _ _ _|exact cz.refl _|exact cz.none _|refine cz.ite ?_ ?_|refine cz.bind ?_ (fun _=>?_))
  | exact mC _ _ _|exact ih1 _ _ _ _|exact eO.mono _ _ _|exact fP.mono _ _|exact iu.mono _ _ _|exact cz.none _|refine cz.ite ?_ ?_|refine cz.bind ?_ (fun _=>?_)
def eI.O6:Bool × List (List Nat × List Nat):=(true,[([],[]),([0],[0]),([],[]),([2],[2]),([3],[3]),([4],[4]),([],[]),([6],[6]),([7],[7]),([8,5],[8]),([5,9],[5,9]),([10],[10]),([1,11,9],[1,11]),([0,1,2,3,4,5,6,7,8,9,10,11,12],[]),([13,12,12,0,1,2,3,4,5,6,7,8,9,10,11,12],[12,13])])
def eI.U4:List Nat:=[0,1,0,4,12,28,0,64,192,508,1020,2044,4095,8191,16383]
theorem eI.aft:iP .any (opsOf Try.f242 14)=eI.O6:=by kernel_rfl
theorem eI.Xo:nA eI.O6.2 eI.U4=true:=by kernel_rfl
theorem eI.calls (k : Nat) (a0 : ByteArray) (r1 : Int) (r2 : List (List Int)) (r3 : Bool) (w : World) (h : eI.f k a0 = some (r1, r2, r3)) :
  Calls Try.prog 242 #[.string a0] w fun e w'=>∃ eM:Value,e=.returned (.tuple #[.agg #[.int .i64 r1,eM],.bool r3])∧Kd.S (Kd.slice 2 (Kd.int .i64)) 28 w' w.heap.size (fun _=>True) eM r2∧Below w.heap.size w w':=by
 have iX:=Try.underlying31
 have HB:=k0 (Below.refl w.heap.size w)
 have H:((iu.f k a0 58).bind fun t102=>(if (t102.length:Int)=2 then (if 0 < (t102.length:Int) then ((fP.f k (fj ByteArray.empty t102 0)).bind fun t106=>((some (([]:List (List Int)):List (List Int))).bind fun gF=>(if 1 < (t102.length:Int) then ((iu.f k (fj ByteArray.empty t102 1) 44).bind fun t112=>(if (fj ByteArray.empty t102 1).toList=([]:List UInt8) then (eI.j0 k (([]:List ByteArray)) t106 gF) else (eI.j0 k t112 t106 gF))) else (none)))) else (none)) else (some (0,([]:List (List Int)),false))))=some (r1,r2,r3):=h
 clear h
 replace H:=Option.bind_eq_some_iff.mp H
 obtain ⟨t102,fI,H⟩:=H
 replace H:(if (t102.length:Int)=2 then (if 0 < (t102.length:Int) then ((fP.f k (fj ByteArray.empty t102 0)).bind fun t106=>((some (([]:List (List Int)):List (List Int))).bind fun gF=>(if 1 < (t102.length:Int) then ((iu.f k (fj ByteArray.empty t102 1) 44).bind fun t112=>(if (fj ByteArray.empty t102 1).toList=([]:List UInt8) then (eI.j0 k (([]:List ByteArray)) t106 gF) else (eI.j0 k t112 t106 gF))) else (none)))) else (none)) else (some (0,([]:List (List Int)),false)))=some (r1,r2,r3):=H
 have A2:=k0 fI
 clear fI
 by_cases c3:(t102.length:Int)=2
 case neg =>
  rw [if_neg c3] at H
  have jd:((t102.length:Int) == 2)=false:=beq_eq_false_iff_ne.mpr c3
  have oc:((t102.length:Int) != 2)=true:=bne_iff_ne.mpr c3
  simp only [Option.some.injEq,Prod.mk.injEq] at H
  obtain ⟨rfl,rfl,rfl⟩:=H
  go_enter Try.func242,Try.ntmps242
  go_wp2_with (first|((with_reducible refine bp (N:=2) rfl ?_);refine bR 2 #[.int .i64 0,.slice none 0 0] 31 ?_;intro aoV hg w61 aE hb;have aa:=k0 (aE);have bB:=gW hg (aoS bl);have aX:=bB;replace HB:=k0 (aH bl hb);clear hb aE hg)|((with_reducible refine bg (f:=248) rfl ?_);refine gC (some 10) Try.func248 #[.string a0,.int .u8 58] ?_;(with_reducible refine (iu.calls k a0 58 t102 _ A2.z).mono ?_);rintro e w62 ⟨CK,rfl,aD,hb⟩;refine ⟨_,rfl,?_⟩;have hJ:=k0 (Kd.cU aD (aoS bl));replace aa:=kB aa hb;replace HB:=k0 (aH bl hb);obtain ⟨agi,ahL,Zy⟩:=Kd.dM hJ.z;subst Zy;have aa2:=aQ aa;have aa3:=aoT aa;have abO:=bF aa 0;have abP:=bF aa 1))
  refine bodyPost_ret (apP rfl _ _ aoV 31 #[.int .i64 0,.slice none 0 0] (0,0) _ rfl (by (with_reducible repeat (first|refine aoU ?_ _|refine aJ ?_|refine aoQ ?_ _));refine bE (cs:=#[.int .i64 0,.slice none 0 0]) ?_ 1 _ rfl;(with_reducible repeat (first|refine aoU ?_ _|refine aJ ?_|refine aoQ ?_ _));refine bE (cs:=#[.int .i64 0,.slice none 0 0]) ?_ 0 _ rfl;exact bk) Try.underlying31 rfl (by kernel_rfl)) rfl ?_
  exact ⟨_,eR,by first|exact Kd.lf _ _ _ _ _|exact Kd.lG _ _ _ _ _|exact Kd.apy _ _ _ _ _|exact Kd.lH _ _ _ _ _|exact Kd.kO _ _ _ _ _,bl⟩
 rw [if_pos c3] at H
 have jd:((t102.length:Int) == 2)=true:=beq_iff_eq.mpr c3
 have oc:((t102.length:Int) != 2)=false:=bne_eq_false_iff_eq.mpr c3
 clear c3
 replace H:=iS H;obtain ⟨c4,H⟩:=H
 have fX:=decide_eq_true c4
 have qa:decide (0 < t102.length)=true:=decide_eq_true (by omega)
 clear c4
 replace H:=Option.bind_eq_some_iff.mp H
 obtain ⟨t106,kC,H⟩:=H
 replace H:((some (([]:List (List Int)):List (List Int))).bind fun gF=>(if 1 < (t102.length:Int) then ((iu.f k (fj ByteArray.empty t102 1) 44).bind fun t112=>(if (fj ByteArray.empty t102 1).toList=([]:List UInt8) then (eI.j0 k (([]:List ByteArray)) t106 gF) else (eI.j0 k t112 t106 gF))) else (none)))=some (r1,r2,r3):=H
 have A5:=k0 kC
 clear kC
 obtain ⟨gF,mB⟩:∃ y_:List (List Int),y_=(([]:List (List Int))):=⟨_,rfl⟩
 replace H:(if 1 < (t102.length:Int) then ((iu.f k (fj ByteArray.empty t102 1) 44).bind fun t112=>(if (fj ByteArray.empty t102 1).toList=([]:List UInt8) then (eI.j0 k (([]:List ByteArray)) t106 gF) else (eI.j0 k t112 t106 gF))) else (none))=some (r1,r2,r3):=rH mB H
 have ri:=k0 mB
 clear mB
 replace H:=iS H;obtain ⟨c6,H⟩:=H
 have kG:=decide_eq_true c6
 have apZ:decide (1 < t102.length)=true:=decide_eq_true (by omega)
 clear c6
 replace H:=Option.bind_eq_some_iff.mp H
 obtain ⟨t112,nE,H⟩:=H
 replace H:(if (fj ByteArray.empty t102 1).toList=([]:List UInt8) then (eI.j0 k (([]:List ByteArray)) t106 gF) else (eI.j0 k t112 t106 gF))=some (r1,r2,r3):=H
 have A7:=k0 nE
 clear nE
 have Jb:=k0 H
 clear H
 go_enter Try.func242,Try.ntmps242
 go_upto_if 28 with (first|((with_reducible refine bp (N:=2) rfl ?_);refine bR 2 #[.int .i64 0,.slice none 0 0] 31 ?_;intro aoV hg w9 aE hb;have aa:=k0 (aE);have bB:=gW hg (aoS bl);have aX:=bB;replace HB:=k0 (aH bl hb);clear hb aE hg)|((with_reducible refine bg (f:=248) rfl ?_);refine gC (some 10) Try.func248 #[.string a0,.int .u8 58] ?_;(with_reducible refine (iu.calls k a0 58 t102 _ A2.z).mono ?_);rintro e mH ⟨CK,rfl,aD,hb⟩;refine ⟨_,rfl,?_⟩;have hJ:=k0 (Kd.cU aD (aoS bl));replace aa:=kB aa hb;replace HB:=k0 (aH bl hb);obtain ⟨kD,apq,D4⟩:=Kd.dM hJ.z;subst D4;have gD:0≤(0:Int):=(by omega);have gl:0 < (t102.length:Int):=oD;obtain ⟨lg,e105,gj⟩:=Kd.ye (Kd.cx hJ.z).2.2 0 gD gl;cases e105;have AU:(0 < t102.length)=True:=eq_true (by omega);(try rw [show ((0:Int)).toNat=0 from rfl] at gj);(try rw [Addr.add_zero'] at gj);replace gD:=eq_true gD;replace gl:=eq_true gl)|((with_reducible refine bg (f:=249) rfl ?_);refine gC (some 18) Try.func249 #[.string (fj ByteArray.empty t102 0)] ?_;(with_reducible refine (fP.calls k (fj ByteArray.empty t102 0) t106 _ A5.z).mono ?_);rintro e w' ⟨rfl,⟨nd,rfl⟩⟩;refine ⟨_,rfl,?_⟩;(try (rw [Qk mH];generalize yM:World.drewN mH _=mH;have aq:aj (Kd.R Kd.string 9 mH w.heap.size (fun _=>True) (.slice (some lg) t102.length apq) t102):=⟨by rw [← yM];exact (aR hJ.z)⟩;have au:aj (mH.heap[aoV]?=some (.cells #[.int .i64 0,.slice none 0 0] 31 (0,0))):=⟨by rw [← yM];exact bk⟩;have ax:aj (Below w.heap.size w mH):=⟨by rw [← yM];exact bl⟩;clear hJ aa HB yM;have hJ:=aq;have aa:=au;have HB:=ax;clear aq au ax)))|((with_reducible refine bp (N:=19) rfl ?_);refine Kd.DH (Kd.slice 2 (Kd.int .i64)) _ 28 ?hg (N:=19) ?hd (xs:=([]:List (List Int))) (inner:=[]) (ok:=fun _=>True) (b_:=fun _=>True) ?hr ?hp (fun _ hk=>hk) trivial (Below.refl _ _) (Nat.le_refl _) (by simp) ?_;(case hd=>rfl);(case hg=>rfl);(case hr=>first|(go_simp;done)|(go_simp;rfl));(case hp=>exact (bh.none _ _));intro vo vq oP hb cJ cK;clear cJ cK;(first|rw [← ri.z] at oP|(simp only [Int.reduceToNat] at oP;rw [← ri.z] at oP));replace hJ:=k0 (Kd.apn (aR hJ.z) hb);have eB:=k0 (Kd.ig oP (aoS bl));replace aa:=kB aa hb;replace HB:=k0 (aH bl hb);clear hb oP;obtain ⟨nS,og,zX⟩:=Kd.apc eB.z;subst zX)|((with_reducible refine bp (N:=5) rfl ?_);refine bR 5 #[.int .i64 0,.slice none 0 0] 31 ?_;intro rA hg qq aE hb;replace hJ:=k0 (Kd.apn (aR hJ.z) hb);replace eB:=k0 (Kd.gB (aS eB.z) hb);have b9:=k0 (aE);have Oc:=gW hg (aoS bl);have Vw:=Oc;replace HB:=k0 (aH bl hb);have oK:=nL hg aa;have wY:=nG oK;replace aa:=kB aa hb;clear hb aE hg;have R5:=wY.z;have Sh:=oK.z;have aaE:=aQ b9;have aaF:=aoT b9;have abp:=bF b9 0;have abq:=bF b9 1;have apG:0≤(1:Int):=(by omega);have ox:1 < (t102.length:Int):=oD;obtain ⟨zL,e111,oQ⟩:=Kd.ye (Kd.cx hJ.z).2.2 1 apG ox;obtain rfl:lg=zL:=(by injection e111);(try simp only [show (1:Int).toNat=1 from rfl,Nat.reduceMul,Nat.reduceEqDiff,Go.Addr.add,↓reduceIte] at oQ);have an':(1 < t102.length)=True:=eq_true (by omega);(try rw [show ((1:Int)).toNat=1 from rfl] at oQ);have G5:lg.block ≠ rA:=Kd.Mq (Kd.kr hJ.z b9.z (by decide));have G6:lg.block ≠ rA:=Kd.Mq (Kd.kr hJ.z b9.z (by decide));replace oQ:=(cell_far (p:=⟨rA,0,none⟩) (by first|(rw [add_block];exact G5)|(show (Addr.add _ _).block ≠ _;rw [add_block];exact G5)|exact G5) (.int .i64 t106)).trans oQ;replace oQ:=(cell_far (p:=⟨rA,1,none⟩) (by first|(rw [add_block];exact G6)|(show (Addr.add _ _).block ≠ _;rw [add_block];exact G6)|exact G6) (.slice nS gF.length og)).trans oQ;clear G5;clear G6;replace apG:=eq_true apG;replace ox:=eq_true ox)|((with_reducible refine bg (f:=248) rfl ?_);refine gC (some 24) Try.func248 #[.string (fj ByteArray.empty t102 1),.int .u8 44] ?_;(with_reducible refine (iu.calls k (fj ByteArray.empty t102 1) 44 t112 _ A7.z).mono ?_);rintro e CL ⟨Ni,rfl,aD,hb⟩;refine ⟨_,rfl,?_⟩;replace eB:=k0 (Kd.gB (by (with_reducible repeat (first|apply Kd.cM|apply Kd.cI|apply Kd.cr));exact (Kd.bq (gS 1 (.slice nS gF.length og) (gS 0 (.int .i64 t106) (tS eB b9))) (fun _ h_=>h_.1))) hb);have sU:=k0 (Kd.cU (Kd.cT aD (Kd.bT (by (with_reducible repeat (first|apply Kd.dK|apply Kd.dD|apply Kd.cB));exact (Kd.aoY (gR 1 (.slice nS gF.length og) (gR 0 (.int .i64 t106) (tR hJ b9))) (fun _ h_=>h_.1))))) (aoS bl));replace hJ:=k0 (Kd.ao9 (by (with_reducible repeat (first|apply Kd.dK|apply Kd.dD|apply Kd.cB));exact (Kd.aoY (gR 1 (.slice nS gF.length og) (gR 0 (.int .i64 t106) (tR hJ b9))) (fun _ h_=>h_.1))) (Kd.aU aD) hb);replace aa:=k0 (cZ (g:=aoV) (o:=.cells #[.int .i64 0,.slice none 0 0] 31 (0,0)) (by (with_reducible repeat (first|refine aoU ?_ _|refine aJ ?_|refine aoQ ?_ _));refine bW ?_ oK.z _;(with_reducible repeat (first|refine aoU ?_ _|refine aJ ?_|refine aoQ ?_ _));refine bW ?_ oK.z _;exact bk) hb);replace b9:=k0 (cZ (g:=rA) (o:=sO t106 nS gF og 31) (by (with_reducible repeat (first|refine aoU ?_ _|refine aJ ?_|refine aoQ ?_ _));refine bE (cs:=#[.int .i64 t106,.slice none 0 0]) ?_ 1 _ rfl;(with_reducible repeat (first|refine aoU ?_ _|refine aJ ?_|refine aoQ ?_ _));refine bE (cs:=#[.int .i64 0,.slice none 0 0]) ?_ 0 _ rfl;exact bk) hb);replace HB:=k0 (aH bl hb);have qZ:0≤(1:Int):=(by omega);have apO:1 < (t102.length:Int):=oD;obtain ⟨By,e115,uO⟩:=Kd.ye (Kd.cx hJ.z).2.2 1 qZ apO;obtain rfl:lg=By:=(by injection e115);(try simp only [show (1:Int).toNat=1 from rfl,Nat.reduceMul,Nat.reduceEqDiff,Go.Addr.add,↓reduceIte] at uO);have aeM:(1 < t102.length)=True:=eq_true (by omega);(try rw [show ((1:Int)).toNat=1 from rfl] at uO);replace qZ:=eq_true qZ;replace apO:=eq_true apO))
 (try simp only [Act.put,zI,zZ,zS])
 go_cut [6] (fun v6 wc=>∃ (kq:Nat) (o9:List ByteArray),aj (eI.j0 kq o9 t106 gF=some (r1,r2,r3))∧aj (kq≤k)∧aj (Kd.R Kd.string 9 wc w.heap.size (fun _=>True) v6 o9)∧aj (Kd.S (Kd.slice 2 (Kd.int .i64)) 28 wc w.heap.size (fun _=>True) (.slice nS gF.length og) gF)∧aj (wc.heap[aoV]?=some (.cells #[.int .i64 0,(.slice none 0 0)] 31 (0,0)))∧aj (wc.heap[rA]?=some (sO t106 nS gF og 31))∧aj (Below w.heap.size w wc))
 case first =>
  have H:=Jb.z
  clear Jb
  by_cases c19:(fj ByteArray.empty t102 1).toList=([]:List UInt8)
  case neg =>
   rw [if_neg c19] at H
   have aqp:((fj ByteArray.empty t102 1).toList == ([]:List UInt8))=false:=beq_eq_false_iff_ne.mpr c19
   have JU:List.isEmpty ((fj ByteArray.empty t102 1).toList)=false:=by cases h_:((fj ByteArray.empty t102 1).toList) with|nil=>exact absurd h_ c19|cons _ _=>rfl
   have Gh:((fj ByteArray.empty t102 1).toList != ([]:List UInt8))=true:=bne_iff_ne.mpr c19
   (first|rw [aqp]|(simp only [cm,cO];rw [aqp])|rw [JU]|skip)
   have H':=k0 H
   clear H
   go_wp2
   go_meet
   case rel=>exact ⟨_,(t112),H',⟨by first|omega|exact Nat.le_refl _⟩,⟨aR (Kd.aoY sU.z (fun _ hk=>trivial))⟩,⟨aS (eB.z)⟩,⟨bk⟩,⟨bk⟩,⟨bl⟩⟩
  rw [if_pos c19] at H
  have aqp:((fj ByteArray.empty t102 1).toList == ([]:List UInt8))=true:=beq_iff_eq.mpr c19
  have JU:List.isEmpty ((fj ByteArray.empty t102 1).toList)=true:=by rw [c19];rfl
  have Gh:((fj ByteArray.empty t102 1).toList != ([]:List UInt8))=false:=bne_eq_false_iff_eq.mpr c19
  clear c19
  (first|rw [aqp]|(simp only [cm,cO];rw [aqp])|rw [JU]|skip)
  obtain ⟨qv,qW⟩:∃ y_:List ByteArray,y_=(([]:List ByteArray)):=⟨_,rfl⟩
  replace H:(eI.j0 k qv t106 gF)=some (r1,r2,r3):=rH qW H
  have aqk:=k0 qW
  clear qW
  have H':=k0 H
  clear H
  go_wp2_with (first|((with_reducible refine bp (N:=29) rfl ?_);refine Kd.jr Kd.string _ 9 ?hg (N:=29) ?hd (xs:=([]:List ByteArray)) (inner:=[]) (ok:=fun _=>True) (b_:=fun _=>True) ?hr ?hp (fun _ hk=>hk) trivial (Below.refl _ _) (Nat.le_refl _) (by simp) ?_;(case hd=>rfl);(case hg=>rfl);(case hr=>first|(go_simp;done)|(go_simp;rfl));(case hp=>exact (bh.none _ _));intro v117 aqf Ao hb cJ cK;clear cJ cK;(first|rw [← aqk.z] at Ao|(simp only [Int.reduceToNat] at Ao;rw [← aqk.z] at Ao));have aq:=k0 (Kd.ao9 (aR hJ.z) (Kd.aU Ao) hb);have au:=k0 (Kd.gB (aS eB.z) hb);have ax:=k0 (Kd.ao9 (aR sU.z) (Kd.aU Ao) hb);have aA:=k0 (Kd.cU (Kd.cT (Kd.cT Ao (Kd.bT (aR hJ.z))) (Kd.bT (aR sU.z))) (aoS bl));have aG:=kB aa hb;have aM:=kB b9 hb;have bu:=k0 (aH bl hb);clear hJ;clear eB;clear sU;clear aa;clear b9;clear HB;have hJ:=aq;have eB:=au;have sU:=ax;have aqv:=aA;have aa:=aG;have b9:=aM;have HB:=bu;clear aq au ax aA aG aM bu;clear hb Ao))
  go_meet
  case rel=>exact ⟨_,(qv),H',⟨by first|omega|exact Nat.le_refl _⟩,⟨aR (Kd.aoY aqv.z (fun _ hk=>trivial))⟩,⟨aS (eB.z)⟩,⟨bk⟩,⟨bk⟩,⟨bl⟩⟩
 case rest =>
  clear Jb
  obtain ⟨kq,o9,HA,Om,bz,fC,aa,b9,HB⟩:=hcut
  cases kq with
  | zero=>exact absurd HA.z (by simp [eI.j0])
  | succ SY =>
   have H:=HA.z
   clear HA
   simp only [eI.j0] at H
   have H':=k0 H
   clear H
   go_wp2
   go_loopg [7] SY (fun kq v7 w'=>∃ (ez:Int) (CS:Int) (nC:List (List Int)) (u111001:Value),v7=.int .i64 ez∧aj (eI.l0 kq o9 ez t106 nC=some (r1,r2,r3))∧aj (kq≤SY)∧aj (Kd.R Kd.string 9 w' w.heap.size (fun _=>True) u6 o9)∧aj (Kd.S (Kd.slice 2 (Kd.int .i64)) 28 w' w.heap.size (fun _=>True) u111001 nC)∧aj (w'.heap[aoV]?=some (.cells #[.int .i64 CS,(.slice none 0 0)] 31 (0,0)))∧aj (w'.heap[rA]?=some (.cells #[.int .i64 t106,u111001] 31 (0,0)))∧aj (Below w.heap.size w w'))
   case atStart=>exact ⟨(0),(0),(gF),(.slice nS gF.length og),rs,H',⟨Nat.le_refl _⟩,⟨aR (bz.z)⟩,⟨aS (fC.z)⟩,⟨bk⟩,⟨bk⟩,⟨bl⟩⟩
   case round =>
    clear H'
    obtain ⟨ez,CS,nC,u111001,rfl,HA,cD,bz,fC,aa,b9,HB⟩:=hrel
    cases gk with
    | zero=>exact absurd HA.z (by simp [eI.l0])
    | succ k2 =>
     have H:=HA.z
     clear HA
     simp only [eI.l0] at H
     by_cases c22:ez < (o9.length:Int)
     case neg =>
      rw [if_neg c22] at H
      have DS:decide (ez < (o9.length:Int))=false:=decide_eq_false c22
      clear c22
      replace H:=Option.bind_eq_some_iff.mp H
      obtain ⟨t119,NL,H⟩:=H
      replace H:(if t119=true then (some (t106,nC,true)) else (some (0,([]:List (List Int)),false)))=some (r1,r2,r3):=H
      have NK:=k0 NL
      clear NL
      by_cases c47:t119=true
      case neg =>
       replace c47:=Bool.eq_false_iff.mpr c47
       subst c47
       have H1:(some (0,([]:List (List Int)),false))=some (r1,r2,r3):=by rw [if_neg (show ¬ (false=true) by decide)] at H;exact H
       clear H
       have H:=H1
       clear H1
       simp only [Option.some.injEq,Prod.mk.injEq] at H
       obtain ⟨rfl,rfl,rfl⟩:=H
       obtain ⟨C8,ux,BO⟩:=Kd.dM bz.z
       subst BO
       have amM:=wY.z
       have anv:=oK.z
       have ai4:=aQ b9
       have ai5:=aoT b9
       have alc:=bF b9 0
       have ald:=bF b9 1
       obtain ⟨N2,J4,z6⟩:=Kd.apc fC.z
       subst z6
       go_wp2_with (first|((with_reducible refine bg (f:=100) rfl ?_);refine gC (some 60) Try.func100 #[.agg #[.int .i64 t106,.slice N2 nC.length J4]] ?_;(with_reducible refine (eO.calls k2 t106 _ _ nC false _ ?aoN ?aoP NK.z).mono ?_);(case aoN=>exact aC ((Kd.cQ fC.z).2.2));(case aoP=>exact (Kd.cQ fC.z).2.1);rintro e y6 ⟨rfl,hb⟩;refine ⟨_,rfl,?_⟩;have aq:=k0 (Kd.apn (aR bz.z) hb);have au:=k0 (Kd.gB (aS fC.z) hb);have ax:=kB aa hb;have aA:=kB b9 hb;have aG:=k0 (aH bl hb);clear bz;clear fC;clear aa;clear b9;clear HB;have bz:=aq;have fC:=au;have aa:=ax;have b9:=aA;have HB:=aG;clear aq au ax aA aG;have ai8:=aQ aa;have ai9:=aoT aa;have alg:=bF aa 0;have alh:=bF aa 1))
       refine bodyPost_ret (apP rfl _ _ aoV 31 #[.int .i64 0,.slice none 0 0] (0,0) _ rfl (by (with_reducible repeat (first|refine aoU ?_ _|refine aJ ?_|refine aoQ ?_ _));refine bE (cs:=#[.int .i64 0,.slice none 0 0]) ?_ 1 _ rfl;(with_reducible repeat (first|refine aoU ?_ _|refine aJ ?_|refine aoQ ?_ _));refine bE (cs:=#[.int .i64 CS,.slice none 0 0]) ?_ 0 _ rfl;exact bk) Try.underlying31 rfl (by kernel_rfl)) rfl ?_
       exact ⟨_,eR,by first|exact Kd.lf _ _ _ _ _|exact Kd.lG _ _ _ _ _|exact Kd.apy _ _ _ _ _|exact Kd.lH _ _ _ _ _|exact Kd.kO _ _ _ _ _,bl⟩
      subst c47
      have H1:(some (t106,nC,true))=some (r1,r2,r3):=by rw [if_pos rfl] at H;exact H
      clear H
      have H:=H1
      clear H1
      simp only [Option.some.injEq,Prod.mk.injEq] at H
      obtain ⟨rfl,rfl,rfl⟩:=H
      obtain ⟨agc,ahG,Zt⟩:=Kd.dM bz.z
      subst Zt
      have acd:=wY.z
      have acD:=oK.z
      have aiW:=aQ b9
      have aiX:=aoT b9
      have ak6:=bF b9 0
      have ak7:=bF b9 1
      obtain ⟨IV,J3,Zu⟩:=Kd.apc fC.z
      subst Zu
      go_wp2_with (first|((with_reducible refine bg (f:=100) rfl ?_);refine gC (some 60) Try.func100 #[.agg #[.int .i64 t106,.slice IV nC.length J3]] ?_;(with_reducible refine (eO.calls k2 t106 _ _ nC true _ ?aoN ?aoP NK.z).mono ?_);(case aoN=>exact aC ((Kd.cQ fC.z).2.2));(case aoP=>exact (Kd.cQ fC.z).2.1);rintro e w52 ⟨rfl,hb⟩;refine ⟨_,rfl,?_⟩;have aq:=k0 (Kd.apn (aR bz.z) hb);have au:=k0 (Kd.gB (aS fC.z) hb);have ax:=kB aa hb;have aA:=kB b9 hb;have aG:=k0 (aH bl hb);clear bz;clear fC;clear aa;clear b9;clear HB;have bz:=aq;have fC:=au;have aa:=ax;have b9:=aA;have HB:=aG;clear aq au ax aA aG;have aaY:=aQ b9;have aaZ:=aoT b9;have abK:=bF b9 0;have abL:=bF b9 1;have aa0:=aQ aa;have aa1:=aoT aa;have abM:=bF aa 0;have abN:=bF aa 1))
      refine bodyPost_ret (apP rfl _ _ aoV 31 #[.int .i64 t106,.slice IV nC.length J3] (0,0) _ rfl (by (with_reducible repeat (first|refine aoU ?_ _|refine aJ ?_|refine aoQ ?_ _));refine bE (cs:=#[.int .i64 t106,.slice none 0 0]) ?_ 1 _ rfl;(with_reducible repeat (first|refine aoU ?_ _|refine aJ ?_|refine aoQ ?_ _));refine bE (cs:=#[.int .i64 CS,.slice none 0 0]) ?_ 0 _ rfl;exact bk) Try.underlying31 rfl (by kernel_rfl)) rfl ?_
      exact ⟨_,eR,by (with_reducible repeat (first|apply Kd.cM|apply Kd.cI|apply Kd.cr));exact Kd.bq (gS 1 (.slice IV nC.length J3) (gS 0 (.int .i64 t106) (tS fC aa))) (fun _ hk=>trivial),bl⟩
     rw [if_pos c22] at H
     have DS:=decide_eq_true c22
     clear c22
     replace H:=iS H;obtain ⟨c23,H⟩:=H
     have DT:=decide_eq_true c23
     clear c23
     replace H:=Option.bind_eq_some_iff.mp H
     obtain ⟨t121,xW,H⟩:=H
     replace H:(if (t121.length:Int)=2 then (if 0 < (t121.length:Int) then ((fP.f k2 (fj ByteArray.empty t121 0)).bind fun t125=>(if 1 < (t121.length:Int) then ((fP.f k2 (fj ByteArray.empty t121 1)).bind fun t127=>(if nC.length < 5864062014805 then (eI.l0 k2 o9 (wrap64 (ez+1)) t106 (nC ++ [(([t125,t127]:List Int))])) else (none))) else (none))) else (none)) else (some (0,([]:List (List Int)),false)))=some (r1,r2,r3):=H
     have Bd:=k0 xW
     clear xW
     by_cases c25:(t121.length:Int)=2
     case neg =>
      rw [if_neg c25] at H
      have Gj:((t121.length:Int) == 2)=false:=beq_eq_false_iff_ne.mpr c25
      have Pz:((t121.length:Int) != 2)=true:=bne_iff_ne.mpr c25
      simp only [Option.some.injEq,Prod.mk.injEq] at H
      obtain ⟨rfl,rfl,rfl⟩:=H
      obtain ⟨UU,Yr,J_⟩:=Kd.dM bz.z
      subst J_
      have AK:0≤(ez:Int):=oD
      have AP:ez < (o9.length:Int):=oD
      obtain ⟨W4,e120,ac0⟩:=Kd.ye (Kd.cx bz.z).2.2 ez AK AP
      cases e120
      replace AK:=eq_true AK
      replace AP:=eq_true AP
      go_wp2_with (first|((with_reducible refine bg (f:=248) rfl ?_);refine gC (some 40) Try.func248 #[.string (fj ByteArray.empty o9 ez),.int .u8 45] ?_;(with_reducible refine (iu.calls k2 (fj ByteArray.empty o9 ez) 45 t121 _ Bd.z).mono ?_);rintro e w42 ⟨Nk,rfl,aD,hb⟩;refine ⟨_,rfl,?_⟩;have aq:=k0 (Kd.ao9 (aR bz.z) (Kd.aU aD) hb);have au:=k0 (Kd.gB (aS fC.z) hb);have ax:=k0 (Kd.cU (Kd.cT aD (Kd.bT (aR bz.z))) (aoS bl));have aA:=kB aa hb;have aG:=kB b9 hb;have aM:=k0 (aH bl hb);clear bz;clear fC;clear aa;clear b9;clear HB;have bz:=aq;have fC:=au;have jn:=ax;have aa:=aA;have b9:=aG;have HB:=aM;clear aq au ax aA aG aM;obtain ⟨agb,ahF,Zq⟩:=Kd.dM jn.z;subst Zq;have ab_:=oK.z;have acC:=wY.z;have aaS:=aQ aa;have aaT:=aoT aa;have abE:=bF aa 0;have abF:=bF aa 1))
      refine bodyPost_ret (apP rfl _ _ aoV 31 #[.int .i64 0,.slice none 0 0] (0,0) _ rfl (by (with_reducible repeat (first|refine aoU ?_ _|refine aJ ?_|refine aoQ ?_ _));refine bE (cs:=#[.int .i64 0,.slice none 0 0]) ?_ 1 _ rfl;(with_reducible repeat (first|refine aoU ?_ _|refine aJ ?_|refine aoQ ?_ _));refine bE (cs:=#[.int .i64 CS,.slice none 0 0]) ?_ 0 _ rfl;exact bk) Try.underlying31 rfl (by kernel_rfl)) rfl ?_
      exact ⟨_,eR,by first|exact Kd.lf _ _ _ _ _|exact Kd.lG _ _ _ _ _|exact Kd.apy _ _ _ _ _|exact Kd.lH _ _ _ _ _|exact Kd.kO _ _ _ _ _,bl⟩
     rw [if_pos c25] at H
     have Gj:((t121.length:Int) == 2)=true:=beq_iff_eq.mpr c25
     have Pz:((t121.length:Int) != 2)=false:=bne_eq_false_iff_eq.mpr c25
     clear c25
     replace H:=iS H;obtain ⟨c26,H⟩:=H
     have JV:=decide_eq_true c26
     have XS:decide (0 < t121.length)=true:=decide_eq_true (by omega)
     clear c26
     replace H:=Option.bind_eq_some_iff.mp H
     obtain ⟨t125,ND,H⟩:=H
     replace H:(if 1 < (t121.length:Int) then ((fP.f k2 (fj ByteArray.empty t121 1)).bind fun t127=>(if nC.length < 5864062014805 then (eI.l0 k2 o9 (wrap64 (ez+1)) t106 (nC ++ [(([t125,t127]:List Int))])) else (none))) else (none))=some (r1,r2,r3):=H
     have UJ:=k0 ND
     clear ND
     replace H:=iS H;obtain ⟨c28,H⟩:=H
     have ag5:=decide_eq_true c28
     have ag6:decide (1 < t121.length)=true:=decide_eq_true (by omega)
     clear c28
     replace H:=Option.bind_eq_some_iff.mp H
     obtain ⟨t127,NF,H⟩:=H
     replace H:(if nC.length < 5864062014805 then (eI.l0 k2 o9 (wrap64 (ez+1)) t106 (nC ++ [(([t125,t127]:List Int))])) else (none))=some (r1,r2,r3):=H
     have UK:=k0 NF
     clear NF
     obtain ⟨FA,LU⟩:∃ y_:List Int,y_=(([t125,t127]:List Int)):=⟨_,rfl⟩
     replace H:(if nC.length < 5864062014805 then (eI.l0 k2 o9 (wrap64 (ez+1)) t106 (nC ++ [FA])) else (none))=some (r1,r2,r3):=rH LU H
     have OK:=k0 LU
     clear LU
     replace H:=iS H;obtain ⟨c30,H⟩:=H
     have Jw:=k0 c30
     clear c30
     obtain ⟨FB,LW⟩:∃ y_:List (List Int),y_=(nC ++ [FA]):=⟨_,rfl⟩
     replace H:(eI.l0 k2 o9 (wrap64 (ez+1)) t106 FB)=some (r1,r2,r3):=rH LW H
     have WA:=k0 LW
     clear LW
     have H':=k0 H
     clear H
     obtain ⟨zg,uw,xk⟩:=Kd.dM bz.z
     subst xk
     have AK:0≤(ez:Int):=oD
     have AP:ez < (o9.length:Int):=oD
     obtain ⟨W4,e120,ac0⟩:=Kd.ye (Kd.cx bz.z).2.2 ez AK AP
     cases e120
     replace AK:=eq_true AK
     replace AP:=eq_true AP
     try go_wp2_with (first|((with_reducible refine bg (f:=248) rfl ?_);refine gC (some 40) Try.func248 #[.string (fj ByteArray.empty o9 ez),.int .u8 45] ?_;(with_reducible refine (iu.calls k2 (fj ByteArray.empty o9 ez) 45 t121 _ Bd.z).mono ?_);rintro e CQ ⟨Nk,rfl,aD,hb⟩;refine ⟨_,rfl,?_⟩;have aq:=k0 (Kd.ao9 (aR bz.z) (Kd.aU aD) hb);have au:=k0 (Kd.gB (aS fC.z) hb);have ax:=k0 (Kd.cU (Kd.cT aD (Kd.bT (aR bz.z))) (aoS bl));have aA:=kB aa hb;have aG:=kB b9 hb;have aM:=k0 (aH bl hb);clear bz;clear fC;clear aa;clear b9;clear HB;have bz:=aq;have fC:=au;have jn:=ax;have aa:=aA;have b9:=aG;have HB:=aM;clear aq au ax aA aG aM;obtain ⟨Bf,BI,D6⟩:=Kd.dM jn.z;subst D6))
     replace bz:=k0 (Kd.cB bz.z);replace fC:=k0 (Kd.cr fC.z);replace jn:=k0 (Kd.cB jn.z);replace aa:=k0 (aJ aa.z);replace b9:=k0 (aJ b9.z);replace HB:=k0 (aZ HB.z)
     have Ms:0≤(0:Int):=(by omega)
     have MN:0 < (t121.length:Int):=oD
     obtain ⟨F_,e124,Hu⟩:=Kd.ye (Kd.cx jn.z).2.2 0 Ms MN
     cases e124
     have an_:(0 < t121.length)=True:=eq_true (by omega)
     (try rw [show ((0:Int)).toNat=0 from rfl] at Hu)
     (try rw [Addr.add_zero'] at Hu)
     replace Ms:=eq_true Ms
     replace MN:=eq_true MN
     have AL:0≤(1:Int):=(by omega)
     have AQ:1 < (t121.length:Int):=oD
     obtain ⟨JM,e126,xw⟩:=Kd.ye (Kd.cx jn.z).2.2 1 AL AQ
     obtain rfl:F_=JM:=(by injection e126)
     (try simp only [show (1:Int).toNat=1 from rfl,Nat.reduceMul,Nat.reduceEqDiff,Go.Addr.add,↓reduceIte] at xw)
     have aoa:(1 < t121.length)=True:=eq_true (by omega)
     (try rw [show ((1:Int)).toNat=1 from rfl] at xw)
     replace AL:=eq_true AL
     replace AQ:=eq_true AQ
     refine apA (n:=15) (S:=fun w'=>w'.cell? ⟨rA,0,none⟩=some (.int .i64 t106)∧w'.cell? ⟨rA,1,none⟩=some (u111001)∧w'.cell? F_=some (.string (fj ByteArray.empty t121 0))∧w'.cell? ⟨F_.block,F_.off+1,none⟩=some (.string (fj ByteArray.empty t121 1))) (ds:=[12,14]) (ba 15 0) (by kernel_rfl) rfl rfl ⟨aQ b9,aoT b9,Hu,xw⟩ (fun hHeld=>?_);refine nB eI.aft eI.Xo (fun az dA=>?_)
     generalize CQ.drew=w34 at bz fC jn aa b9 HB Hu xw hHeld ⊢
     refine pu 0 (some 45) (ba 15 1) az (h:=?_)
     refine pu 2 (some 47) (ba 15 5) az (h:=?_)
     refine pu 3 (some 48) (ba 15 13) az (h:=?_)
     refine pu 6 (some 51) (ba 15 77) az (h:=?_)
     refine pu 7 (some 52) (ba 15 205) az (h:=?_)
     refine ta 1 (some 46) (ba 15 207) az dA hHeld (hy:=Or.inl ⟨by rfl,by rintro w' ⟨s0,s1,s2,s3⟩;go_simp;with_reducible rfl⟩) (h:=?_)
     refine ta 4 (some 49) (ba 15 223) az dA hHeld (hy:=Or.inl ⟨by rfl,by rintro w' ⟨s0,s1,s2,s3⟩;go_simp;with_reducible rfl⟩) (h:=?_)
     refine ta 8 (some 53) (ba 15 479) az dA hHeld (hy:=Or.inl ⟨by rfl,by rintro w' ⟨s0,s1,s2,s3⟩;go_simp;with_reducible rfl⟩) (h:=?_)
     refine ja (i:=5) (N:=some 50) (ba 15 511) rfl rfl (hO az.out (by kernel_rfl)) (by decide) (fun K hK=>?_)
     refine mP Try.func249 (by kernel_rfl) rfl #[.string (fj ByteArray.empty t121 0)] (by rfl) rfl rfl gm ?_
     with_reducible refine (fP.calls k2 (fj ByteArray.empty t121 0) t125 _ UJ.z).mono ?_
     rintro e w' ⟨rfl,⟨nd,rfl⟩⟩
     refine ⟨_,rfl,?_⟩
     refine hK.out _ _ ⟨aQ b9,aoT b9,hHeld.2.2.1,hHeld.2.2.2⟩ (fun hHeld=>?_)
     clear hK K
     refine jh (a':=?_) ?_ ?_
     rotate_left;· show Act.put _ (some 50) _=_;simp only [Act.put,zI,zZ,zS,cm,cO];rfl
     refine ja (i:=9) (N:=some 54) (ba 15 1023) rfl rfl (hO az.out (by kernel_rfl)) (by decide) (fun K hK=>?_)
     refine mP Try.func249 (by kernel_rfl) rfl #[.string (fj ByteArray.empty t121 1)] (by rfl) rfl rfl gm ?_
     with_reducible refine (fP.calls k2 (fj ByteArray.empty t121 1) t127 _ UK.z).mono ?_
     rintro e w' ⟨rfl,⟨nd,rfl⟩⟩
     refine ⟨_,rfl,?_⟩
     refine hK.out _ _ ⟨aQ b9,aoT b9,hHeld.2.2.1,hHeld.2.2.2⟩ (fun hHeld=>?_)
     clear hK K
     refine jh (a':=?_) ?_ ?_
     rotate_left;· show Act.put _ (some 54) _=_;simp only [Act.put,zI,zZ,zS,cm,cO];rfl
     refine ja (i:=10) (N:=some 55) (ba 15 2047) rfl rfl (hO az.out (by kernel_rfl)) (by decide) (fun K hK=>?_)
     refine Kd.JF (Kd.int .i64) _ 2 ?hg (N:=55) ?hd (xs:=([t125,t127]:List Int)) (inner:=[.int .i64 t125,.int .i64 t127]) (ok:=fun _=>True) (b_:=fun _=>True) ?hr ?hp (fun _ hk=>hk) trivial (Below.refl _ _) (Nat.le_refl _) (by simp) ?_;(case hd=>rfl);(case hg=>rfl);(case hr=>first|(go_simp;done)|(go_simp;rfl));(case hp=>exact (bh.one (show Kd.M (Kd.int .i64) _ _ _ t125 [.int .i64 t125] from rfl) (bh.one (show Kd.M (Kd.int .i64) _ _ _ t127 [.int .i64 t127] from rfl) (bh.none _ _))))
     intro afI CR Ci hb cJ cK
     have FZ:=(hb.cell (World.block_lt_of_cell? _ _ (hHeld.2.2.1))).trans (hHeld.2.2.1)
     have VX:=(hb.cell (World.block_lt_of_cell? _ _ (hHeld.2.2.2))).trans (hHeld.2.2.2)
     clear cJ cK
     (first|rw [← OK.z] at Ci|(simp only [Int.reduceToNat] at Ci;rw [← OK.z] at Ci))
     have aq:=k0 (Kd.apn (aR bz.z) hb)
     have au:=k0 (Kd.cC (aS fC.z) (Kd.aU Ci) hb)
     have ax:=k0 (Kd.apn (aR jn.z) hb)
     have aA:=k0 (Kd.cU Ci (aoS bl))
     have aG:=kB aa hb
     have aM:=kB b9 hb
     have bu:=k0 (aH bl hb)
     clear bz
     clear fC
     clear jn
     clear aa
     clear b9
     clear HB
     have bz:=aq
     have fC:=au
     have jn:=ax
     have mM:=aA
     have aa:=aG
     have b9:=aM
     have HB:=bu
     clear aq au ax aA aG aM bu
     clear hb Ci
     obtain ⟨N0,PY,Qp⟩:=Kd.dM mM.z
     (first|subst Qp|(injection Qp with gv apr gw;have j4:=gv.symm;have j5:=gw.symm;clear gv apr gw;subst j4;subst j5))
     refine hK.out _ _ ⟨aQ b9,aoT b9,FZ,VX⟩ (fun hHeld=>?_)
     clear hK K
     refine jh (a':=?_) ?_ ?_
     rotate_left;· show Act.put _ (some 55) _=_;simp only [Act.put,zI,zZ,zS,cm,cO];rfl
     refine ja (i:=11) (N:=some 56) (ba 15 4095) rfl rfl (hO az.out (by kernel_rfl)) (by decide) (fun K hK=>?_)
     refine Fq (w1:=?_) (v:=?_) (by rfl) rfl ?_ ?_
     rotate_left 2
     ·go_simp
      constructor
      ·rfl
      ·rfl
     refine hK.out _ _ ⟨(fq (aoQ b9.z _) 0).trans rfl,(fq (aoQ b9.z _) 1).trans rfl,(World.cell?_alloc_lt _ _ _ (World.block_lt_of_cell? _ _ (hHeld.2.2.1))).trans (hHeld.2.2.1),(World.cell?_alloc_lt _ _ _ (World.block_lt_of_cell? _ _ (hHeld.2.2.2))).trans (hHeld.2.2.2)⟩ (fun hHeld=>?_)
     clear hK K
     refine jh (a':=?_) ?_ ?_
     rotate_left;· show Act.put _ (some 56) _=_;simp only [Act.put,zI,zZ,zS,cm,cO];rfl
     refine uW (i:=12) (N:=some 57) (ba 15 8191) rfl rfl (hO az.out (by kernel_rfl)) (by decide) (fun K hK=>?_)
     refine Kd.F5 (Kd.slice 2 (Kd.int .i64)) (w0:=w) w.heap.size (by rfl) (.tmp 46) (.tmp 56) 22 28 (.slice none 0 0) 24 rfl Try.underlying22 qX rfl (by decide) (by omega) u111001 nC FA [.slice N0 FA.length PY] (fun _=>True) (fun k_=>some k_=(.slice N0 FA.length PY:Value).ownBlock) rfl rfl ?aP (fun k_ bZ=>((Kd.aoY (ok':=fun k_=>((fun _=>True)) k_∧some k_ ≠ (u111001:Value).ownBlock) (Kd.iU (mM.z) (Kd.iE fC.z) (by decide)) (fun k_ hk=>⟨trivial,hk.2⟩))).1 k_ bZ.symm) ?aF ?aO ?aB ?aS ?aL ?_
     (case aP=>exact Kd.apB (Kd.aoY (Kd.mh rfl (Kd.aoY (ok':=fun k_=>((fun _=>True)) k_∧some k_ ≠ (u111001:Value).ownBlock) (Kd.iU (mM.z) (Kd.iE fC.z) (by decide)) (fun k_ hk=>⟨trivial,hk.2⟩))) (fun _ h_=>h_)))
     (case aB=>exact bl)
     (case aF=>exact (fun _ _=>trivial))
     (case aO=>exact (by (with_reducible repeat (first|apply Kd.cM|apply Kd.cI|apply Kd.cr));exact Kd.bq fC.z (fun k_ hk=>⟨trivial,fun e_=>hk.2 e_⟩)))
     (case aS=>exact (aoS bl))
     (case aL=>have:=Jw.out;omega)
     intro aoe aqH ho hb hg ao1
     rw [← WA.z] at ho
     have aq:=k0 (Kd.OX (aR bz.z) (Kd.iE (aS fC.z)) (by decide) hg)
     have au:=k0 (fl (aB aa.z) hg (Kd.jz fC.z aa.z (by decide)))
     have ax:=k0 (fl (aB b9.z) hg (Kd.jz fC.z b9.z (by decide)))
     have aA:=k0 (Kd.OX (aR jn.z) (Kd.iE (aS fC.z)) (by decide) hg)
     have aG:=k0 (hb)
     have aM:=k0 (ho)
     clear bz
     clear aa
     clear b9
     clear jn
     clear HB
     clear fC
     clear mM
     have bz:=aq
     have aa:=au
     have b9:=ax
     have jn:=aA
     have HB:=aG
     have Oq:=aM
     clear aq au ax aA aG aM
     clear ho hb hg ao1
     obtain ⟨IU,J2,Qq⟩:=Kd.apc Oq.z
     (first|subst Qq|(injection Qq with gv apr gw;have j4:=gv.symm;have j5:=gw.symm;clear gv apr gw;subst j4;subst j5))
     refine hK.out _ _ ?_
     clear hK K
     refine jh (a':=?_) ?_ ?_
     rotate_left;· show Act.put _ (some 57) _=_;simp only [Act.put,zI,zZ,zS,cm,cO];rfl
     refine pu 13 (some 58) (ba 15 16383) az (h:=?_)
     refine uW (i:=14) (N:=none) (ba 15 32767) rfl rfl (hO az.out (by kernel_rfl)) (by decide) (fun K hK=>?_)
     have an0:=aoT b9
     have ajZ:=bF b9 1
     have anW:=oK.z
     have amn:=wY.z
     refine tG (w1:=?_) (by rfl) rfl ?_ ?_
     rotate_left;· go_simp;rfl
     refine hK.out _ _ ?_
     clear hK K
     refine lY (nj az.out (by kernel_rfl)) ?_
     try go_wp2
     go_roundg k2
     case measure=>have:=Om.out;have:=cD.z;omega
     case rel=>exact ⟨(wrap64 (ez+1)),(CS),(FB),(.slice IU FB.length J2),rs,H',⟨by have:=Om.out;have:=cD.z;omega⟩,⟨aR (Kd.aoY (gR 1 (.slice IU FB.length J2) (tR bz b9)) (fun _ hk=>trivial))⟩,⟨aS (Kd.bq (gS 1 (.slice IU FB.length J2) (tS Oq b9)) (fun _ hk=>trivial))⟩,⟨by (with_reducible repeat (first|refine aoU ?_ _|refine aJ ?_|refine aoQ ?_ _));refine bW ?_ oK.z _;exact bk⟩,⟨by (with_reducible repeat (first|refine aoU ?_ _|refine aJ ?_|refine aoQ ?_ _));refine bE (cs:=#[.int .i64 t106,u111001]) ?_ 1 _ rfl;exact bk⟩,⟨bl⟩⟩
/-! ### F243: function 243 -/
def Db.f (a0:ByteArray):Option (ByteArray):=if a0.toList=([112,111,105,110,116]:List UInt8) then (some (⟨#[49,58]⟩:ByteArray)) else (if a0.toList=([101,100,103,101]:List UInt8) then (some (⟨#[50,58,48,45,49]⟩:ByteArray)) else (if a0.toList=([108,111,111,112]:List UInt8) then (some (⟨#[49,58,48,45,48]⟩:ByteArray)) else (if a0.toList=([98,111,117,113,117,101,116]:List UInt8) then (some (⟨#[49,58,48,45,48,44,48,45,48]⟩:ByteArray)) else (if a0.toList=([116,104,101,116,97]:List UInt8) then (some (⟨#[50,58,48,45,49,44,48,45,49,44,48,45,49]⟩:ByteArray)) else (if a0.toList=([100,117,109,98,98,101,108,108]:List UInt8) then (some (⟨#[50,58,48,45,48,44,48,45,49,44,49,45,49]⟩:ByteArray)) else (if a0.toList=([116,114,105,97,110,103,108,101]:List UInt8) then (some (⟨#[51,58,48,45,49,44,49,45,50,44,50,45,48]⟩:ByteArray)) else (if a0.toList=([115,113,117,97,114,101]:List UInt8) then (some (⟨#[52,58,48,45,49,44,49,45,50,44,50,45,51,44,51,45,48]⟩:ByteArray)) else (if a0.toList=([112,101,110,116,97,103,111,110]:List UInt8) then (some (⟨#[53,58,48,45,49,44,49,45,50,44,50,45,51,44,51,45,52,44,52,45,48]⟩:ByteArray)) else (if a0.toList=([115,116,97,114]:List UInt8) then (some (⟨#[52,58,48,45,49,44,48,45,50,44,48,45,51]⟩:ByteArray)) else (if a0.toList=([100,105,97,109,111,110,100]:List UInt8) then (some (⟨#[52,58,48,45,49,44,49,45,50,44,50,45,51,44,51,45,48,44,48,45,50]⟩:ByteArray)) else (if a0.toList=([116,101,116,114,97,104,101,100,114,111,110]:List UInt8) then (some (⟨#[52,58,48,45,49,44,48,45,50,44,48,45,51,44,49,45,50,44,49,45,51,44,50,45,51]⟩:ByteArray)) else (if a0.toList=([112,114,105,115,109]:List UInt8) then (some (⟨#[54,58,48,45,49,44,49,45,50,44,50,45,48,44,51,45,52,44,52,45,53,44,53,45,51,44,48,45,51,44,49,45,52,44,50,45,53]⟩:ByteArray)) else (if a0.toList=([104,111,117,115,101,115]:List UInt8) then (some (⟨#[54,58,48,45,51,44,48,45,52,44,48,45,53,44,49,45,51,44,49,45,52,44,49,45,53,44,50,45,51,44,50,45,52,44,50,45,53]⟩:ByteArray)) else (some (⟨#[]⟩:ByteArray)))))))))))))))
theorem Db.calls (a0 : ByteArray) (r : ByteArray) (w : World) (h : Db.f a0 = some r) :
  Calls Try.prog 243 #[.string a0] w fun e w'=>e=.returned (.string r)∧iR w w':=by
 have H:(if a0.toList=([112,111,105,110,116]:List UInt8) then (some (⟨#[49,58]⟩:ByteArray)) else (if a0.toList=([101,100,103,101]:List UInt8) then (some (⟨#[50,58,48,45,49]⟩:ByteArray)) else (if a0.toList=([108,111,111,112]:List UInt8) then (some (⟨#[49,58,48,45,48]⟩:ByteArray)) else (if a0.toList=([98,111,117,113,117,101,116]:List UInt8) then (some (⟨#[49,58,48,45,48,44,48,45,48]⟩:ByteArray)) else (if a0.toList=([116,104,101,116,97]:List UInt8) then (some (⟨#[50,58,48,45,49,44,48,45,49,44,48,45,49]⟩:ByteArray)) else (if a0.toList=([100,117,109,98,98,101,108,108]:List UInt8) then (some (⟨#[50,58,48,45,48,44,48,45,49,44,49,45,49]⟩:ByteArray)) else (if a0.toList=([116,114,105,97,110,103,108,101]:List UInt8) then (some (⟨#[51,58,48,45,49,44,49,45,50,44,50,45,48]⟩:ByteArray)) else (if a0.toList=([115,113,117,97,114,101]:List UInt8) then (some (⟨#[52,58,48,45,49,44,49,45,50,44,50,45,51,44,51,45,48]⟩:ByteArray)) else (if a0.toList=([112,101,110,116,97,103,111,110]:List UInt8) then (some (⟨#[53,58,48,45,49,44,49,45,50,44,50,45,51,44,51,45,52,44,52,45,48]⟩:ByteArray)) else (if a0.toList=([115,116,97,114]:List UInt8) then (some (⟨#[52,58,48,45,49,44,48,45,50,44,48,45,51]⟩:ByteArray)) else (if a0.toList=([100,105,97,109,111,110,100]:List UInt8) then (some (⟨#[52,58,48,45,49,44,49,45,50,44,50,45,51,44,51,45,48,44,48,45,50]⟩:ByteArray)) else (if a0.toList=([116,101,116,114,97,104,101,100,114,111,110]:List UInt8) then (some (⟨#[52,58,48,45,49,44,48,45,50,44,48,45,51,44,49,45,50,44,49,45,51,44,50,45,51]⟩:ByteArray)) else (if a0.toList=([112,114,105,115,109]:List UInt8) then (some (⟨#[54,58,48,45,49,44,49,45,50,44,50,45,48,44,51,45,52,44,52,45,53,44,53,45,51,44,48,45,51,44,49,45,52,44,50,45,53]⟩:ByteArray)) else (if a0.toList=([104,111,117,115,101,115]:List UInt8) then (some (⟨#[54,58,48,45,51,44,48,45,52,44,48,45,53,44,49,45,51,44,49,45,52,44,49,45,53,44,50,45,51,44,50,45,52,44,50,45,53]⟩:ByteArray)) else (some (⟨#[]⟩:ByteArray))))))))))))))))=some r:=h
 clear h
 by_cases c2:a0.toList=([112,111,105,110,116]:List UInt8)
 case neg =>
  rw [if_neg c2] at H
  have xb:(a0.toList == ([112,111,105,110,116]:List UInt8))=false:=beq_eq_false_iff_ne.mpr c2
  have JW:(a0.toList != ([112,111,105,110,116]:List UInt8))=true:=bne_iff_ne.mpr c2
  by_cases c3:a0.toList=([101,100,103,101]:List UInt8)
  case neg =>
   rw [if_neg c3] at H
   have jd:(a0.toList == ([101,100,103,101]:List UInt8))=false:=beq_eq_false_iff_ne.mpr c3
   have oc:(a0.toList != ([101,100,103,101]:List UInt8))=true:=bne_iff_ne.mpr c3
   by_cases c4:a0.toList=([108,111,111,112]:List UInt8)
   case neg =>
    rw [if_neg c4] at H
    have fX:(a0.toList == ([108,111,111,112]:List UInt8))=false:=beq_eq_false_iff_ne.mpr c4
    have qa:(a0.toList != ([108,111,111,112]:List UInt8))=true:=bne_iff_ne.mpr c4
    by_cases c5:a0.toList=([98,111,117,113,117,101,116]:List UInt8)
    case neg =>
     rw [if_neg c5] at H
     have jt:(a0.toList == ([98,111,117,113,117,101,116]:List UInt8))=false:=beq_eq_false_iff_ne.mpr c5
     have ym:(a0.toList != ([98,111,117,113,117,101,116]:List UInt8))=true:=bne_iff_ne.mpr c5
     by_cases c6:a0.toList=([116,104,101,116,97]:List UInt8)
     case neg =>
      rw [if_neg c6] at H
      have kG:(a0.toList == ([116,104,101,116,97]:List UInt8))=false:=beq_eq_false_iff_ne.mpr c6
      have apZ:(a0.toList != ([116,104,101,116,97]:List UInt8))=true:=bne_iff_ne.mpr c6
      by_cases c7:a0.toList=([100,117,109,98,98,101,108,108]:List UInt8)
      case neg =>
       rw [if_neg c7] at H
       have oO:(a0.toList == ([100,117,109,98,98,101,108,108]:List UInt8))=false:=beq_eq_false_iff_ne.mpr c7
       have uv:(a0.toList != ([100,117,109,98,98,101,108,108]:List UInt8))=true:=bne_iff_ne.mpr c7
       by_cases c8:a0.toList=([116,114,105,97,110,103,108,101]:List UInt8)
       case neg =>
        rw [if_neg c8] at H
        have kH:(a0.toList == ([116,114,105,97,110,103,108,101]:List UInt8))=false:=beq_eq_false_iff_ne.mpr c8
        have qL:(a0.toList != ([116,114,105,97,110,103,108,101]:List UInt8))=true:=bne_iff_ne.mpr c8
        by_cases c9:a0.toList=([115,113,117,97,114,101]:List UInt8)
        case neg =>
         rw [if_neg c9] at H
         have ap8:(a0.toList == ([115,113,117,97,114,101]:List UInt8))=false:=beq_eq_false_iff_ne.mpr c9
         have BD:(a0.toList != ([115,113,117,97,114,101]:List UInt8))=true:=bne_iff_ne.mpr c9
         by_cases c10:a0.toList=([112,101,110,116,97,103,111,110]:List UInt8)
         case neg =>
          rw [if_neg c10] at H
          have qI:(a0.toList == ([112,101,110,116,97,103,111,110]:List UInt8))=false:=beq_eq_false_iff_ne.mpr c10
          have Ge:(a0.toList != ([112,101,110,116,97,103,111,110]:List UInt8))=true:=bne_iff_ne.mpr c10
          by_cases c11:a0.toList=([115,116,97,114]:List UInt8)
          case neg =>
           rw [if_neg c11] at H
           have ku:(a0.toList == ([115,116,97,114]:List UInt8))=false:=beq_eq_false_iff_ne.mpr c11
           have yh:(a0.toList != ([115,116,97,114]:List UInt8))=true:=bne_iff_ne.mpr c11
           by_cases c12:a0.toList=([100,105,97,109,111,110,100]:List UInt8)
           case neg =>
            rw [if_neg c12] at H
            have qJ:(a0.toList == ([100,105,97,109,111,110,100]:List UInt8))=false:=beq_eq_false_iff_ne.mpr c12
            have Gf:(a0.toList != ([100,105,97,109,111,110,100]:List UInt8))=true:=bne_iff_ne.mpr c12
            by_cases c13:a0.toList=([116,101,116,114,97,104,101,100,114,111,110]:List UInt8)
            case neg =>
             rw [if_neg c13] at H
             have ru:(a0.toList == ([116,101,116,114,97,104,101,100,114,111,110]:List UInt8))=false:=beq_eq_false_iff_ne.mpr c13
             have Pw:(a0.toList != ([116,101,116,114,97,104,101,100,114,111,110]:List UInt8))=true:=bne_iff_ne.mpr c13
             by_cases c14:a0.toList=([112,114,105,115,109]:List UInt8)
             case neg =>
              rw [if_neg c14] at H
              have pJ:(a0.toList == ([112,114,105,115,109]:List UInt8))=false:=beq_eq_false_iff_ne.mpr c14
              have Gg:(a0.toList != ([112,114,105,115,109]:List UInt8))=true:=bne_iff_ne.mpr c14
              by_cases c15:a0.toList=([104,111,117,115,101,115]:List UInt8)
              case neg =>
               rw [if_neg c15] at H
               have oN:(a0.toList == ([104,111,117,115,101,115]:List UInt8))=false:=beq_eq_false_iff_ne.mpr c15
               have JS:(a0.toList != ([104,111,117,115,101,115]:List UInt8))=true:=bne_iff_ne.mpr c15
               obtain rfl:=Option.some.inj H
               go_enter Try.func243,Try.ntmps243
               go_wp2
               go_ret
               exact ⟨rs,dW⟩
              rw [if_pos c15] at H
              have oN:(a0.toList == ([104,111,117,115,101,115]:List UInt8))=true:=beq_iff_eq.mpr c15
              have JS:(a0.toList != ([104,111,117,115,101,115]:List UInt8))=false:=bne_eq_false_iff_eq.mpr c15
              clear c15
              obtain rfl:=Option.some.inj H
              go_enter Try.func243,Try.ntmps243
              go_wp2
              go_ret
              exact ⟨rs,dW⟩
             rw [if_pos c14] at H
             have pJ:(a0.toList == ([112,114,105,115,109]:List UInt8))=true:=beq_iff_eq.mpr c14
             have Gg:(a0.toList != ([112,114,105,115,109]:List UInt8))=false:=bne_eq_false_iff_eq.mpr c14
             clear c14
             obtain rfl:=Option.some.inj H
             go_enter Try.func243,Try.ntmps243
             go_wp2
             go_ret
             exact ⟨rs,dW⟩
            rw [if_pos c13] at H
            have ru:(a0.toList == ([116,101,116,114,97,104,101,100,114,111,110]:List UInt8))=true:=beq_iff_eq.mpr c13
            have Pw:(a0.toList != ([116,101,116,114,97,104,101,100,114,111,110]:List UInt8))=false:=bne_eq_false_iff_eq.mpr c13
            clear c13
            obtain rfl:=Option.some.inj H
            go_enter Try.func243,Try.ntmps243
            go_wp2
            go_ret
            exact ⟨rs,dW⟩
           rw [if_pos c12] at H
           have qJ:(a0.toList == ([100,105,97,109,111,110,100]:List UInt8))=true:=beq_iff_eq.mpr c12
           have Gf:(a0.toList != ([100,105,97,109,111,110,100]:List UInt8))=false:=bne_eq_false_iff_eq.mpr c12
           clear c12
           obtain rfl:=Option.some.inj H
           go_enter Try.func243,Try.ntmps243
           go_wp2
           go_ret
           exact ⟨rs,dW⟩
          rw [if_pos c11] at H
          have ku:(a0.toList == ([115,116,97,114]:List UInt8))=true:=beq_iff_eq.mpr c11
          have yh:(a0.toList != ([115,116,97,114]:List UInt8))=false:=bne_eq_false_iff_eq.mpr c11
          clear c11
          obtain rfl:=Option.some.inj H
          go_enter Try.func243,Try.ntmps243
          go_wp2
          go_ret
          exact ⟨rs,dW⟩
         rw [if_pos c10] at H
         have qI:(a0.toList == ([112,101,110,116,97,103,111,110]:List UInt8))=true:=beq_iff_eq.mpr c10
         have Ge:(a0.toList != ([112,101,110,116,97,103,111,110]:List UInt8))=false:=bne_eq_false_iff_eq.mpr c10
         clear c10
         obtain rfl:=Option.some.inj H
         go_enter Try.func243,Try.ntmps243
         go_wp2
         go_ret
         exact ⟨rs,dW⟩
        rw [if_pos c9] at H
        have ap8:(a0.toList == ([115,113,117,97,114,101]:List UInt8))=true:=beq_iff_eq.mpr c9
        have BD:(a0.toList != ([115,113,117,97,114,101]:List UInt8))=false:=bne_eq_false_iff_eq.mpr c9
        clear c9
        obtain rfl:=Option.some.inj H
        go_enter Try.func243,Try.ntmps243
        go_wp2
        go_ret
        exact ⟨rs,dW⟩
       rw [if_pos c8] at H
       have kH:(a0.toList == ([116,114,105,97,110,103,108,101]:List UInt8))=true:=beq_iff_eq.mpr c8
       have qL:(a0.toList != ([116,114,105,97,110,103,108,101]:List UInt8))=false:=bne_eq_false_iff_eq.mpr c8
       clear c8
       obtain rfl:=Option.some.inj H
       go_enter Try.func243,Try.ntmps243
       go_wp2
       go_ret
       exact ⟨rs,dW⟩
      rw [if_pos c7] at H
      have oO:(a0.toList == ([100,117,109,98,98,101,108,108]:List UInt8))=true:=beq_iff_eq.mpr c7
      have uv:(a0.toList != ([100,117,109,98,98,101,108,108]:List UInt8))=false:=bne_eq_false_iff_eq.mpr c7
      clear c7
      obtain rfl:=Option.some.inj H
      go_enter Try.func243,Try.ntmps243
      go_wp2
      go_ret
      exact ⟨rs,dW⟩
     rw [if_pos c6] at H
     have kG:(a0.toList == ([116,104,101,116,97]:List UInt8))=true:=beq_iff_eq.mpr c6
     have apZ:(a0.toList != ([116,104,101,116,97]:List UInt8))=false:=bne_eq_false_iff_eq.mpr c6
     clear c6
     obtain rfl:=Option.some.inj H
     go_enter Try.func243,Try.ntmps243
     go_wp2
     go_ret
     exact ⟨rs,dW⟩
    rw [if_pos c5] at H
    have jt:(a0.toList == ([98,111,117,113,117,101,116]:List UInt8))=true:=beq_iff_eq.mpr c5
    have ym:(a0.toList != ([98,111,117,113,117,101,116]:List UInt8))=false:=bne_eq_false_iff_eq.mpr c5
    clear c5
    obtain rfl:=Option.some.inj H
    go_enter Try.func243,Try.ntmps243
    go_wp2
    go_ret
    exact ⟨rs,dW⟩
   rw [if_pos c4] at H
   have fX:(a0.toList == ([108,111,111,112]:List UInt8))=true:=beq_iff_eq.mpr c4
   have qa:(a0.toList != ([108,111,111,112]:List UInt8))=false:=bne_eq_false_iff_eq.mpr c4
   clear c4
   obtain rfl:=Option.some.inj H
   go_enter Try.func243,Try.ntmps243
   go_wp2
   go_ret
   exact ⟨rs,dW⟩
  rw [if_pos c3] at H
  have jd:(a0.toList == ([101,100,103,101]:List UInt8))=true:=beq_iff_eq.mpr c3
  have oc:(a0.toList != ([101,100,103,101]:List UInt8))=false:=bne_eq_false_iff_eq.mpr c3
  clear c3
  obtain rfl:=Option.some.inj H
  go_enter Try.func243,Try.ntmps243
  go_wp2
  go_ret
  exact ⟨rs,dW⟩
 rw [if_pos c2] at H
 have xb:(a0.toList == ([112,111,105,110,116]:List UInt8))=true:=beq_iff_eq.mpr c2
 have JW:(a0.toList != ([112,111,105,110,116]:List UInt8))=false:=bne_eq_false_iff_eq.mpr c2
 clear c2
 obtain rfl:=Option.some.inj H
 go_enter Try.func243,Try.ntmps243
 go_wp2
 go_ret
 exact ⟨rs,dW⟩
/-! ### F233: function 233 -/
def pZ.f (k:Nat) (a0:ByteArray):Option (Int × (List (List Int)) × Bool):=(Db.f a0).bind fun t102=>((eI.f k t102).bind fun fc=>(some (fc.1,fc.2.1,fc.2.2)))
theorem pZ.mono:∀ a0 k,cz (pZ.f k a0) (pZ.f (k+1) a0):=by
 intro a0 k
 unfold pZ.f
 repeat' first
  | (with_reducible first|exact eI.mono _ _|exact cz.refl _|exact cz.none _|refine cz.ite ?_ ?_|refine cz.bind ?_ (fun _=>?_))
  | exact eI.mono _ _|exact cz.none _|refine cz.ite ?_ ?_|refine cz.bind ?_ (fun _=>?_)
theorem pZ.calls (k : Nat) (a0 : ByteArray) (r1 : Int) (r2 : List (List Int)) (r3 : Bool) (w : World) (h : pZ.f k a0 = some (r1, r2, r3)) :
  Calls Try.prog 233 #[.string a0] w fun e w'=>∃ eM:Value,e=.returned (.tuple #[.agg #[.int .i64 r1,eM],.bool r3])∧Kd.S (Kd.slice 2 (Kd.int .i64)) 28 w' w.heap.size (fun _=>True) eM r2∧Below w.heap.size w w':=by
 have iX:=Try.underlying31
 have HB:=k0 (Below.refl w.heap.size w)
 have H:((Db.f a0).bind fun t102=>((eI.f k t102).bind fun fc=>(some (fc.1,fc.2.1,fc.2.2))))=some (r1,r2,r3):=h
 clear h
 replace H:=Option.bind_eq_some_iff.mp H
 obtain ⟨t102,fI,H⟩:=H
 replace H:((eI.f k t102).bind fun fc=>(some (fc.1,fc.2.1,fc.2.2)))=some (r1,r2,r3):=H
 have A2:=k0 fI
 clear fI
 replace H:=Option.bind_eq_some_iff.mp H
 obtain ⟨⟨t103,t104,t107⟩,fJ,H⟩:=H
 replace H:(some (t103,t104,t107))=some (r1,r2,r3):=H
 have A3:=k0 fJ
 clear fJ
 simp only [Option.some.injEq,Prod.mk.injEq] at H
 obtain ⟨rfl,rfl,rfl⟩:=H
 go_enter Try.func233,Try.ntmps233
 go_wp2_with (first|((with_reducible refine bp (N:=2) rfl ?_);refine bR 2 #[.int .i64 0,.slice none 0 0] 31 ?_;intro aoV hg w4 aE hb;have aa:=k0 (aE);have bB:=gW hg (aoS bl);have aX:=bB;replace HB:=k0 (aH bl hb);clear hb aE hg)|((with_reducible refine bg (f:=243) rfl ?_);refine gC (some 8) Try.func243 #[.string a0] ?_;(with_reducible refine (Db.calls a0 t102 _ A2.z).mono ?_);rintro e w' ⟨rfl,⟨nd,rfl⟩⟩;refine ⟨_,rfl,?_⟩;(try (rw [Qk w4];generalize yM:World.drewN w4 _=w4;have aq:aj (w4.heap[aoV]?=some (.cells #[.int .i64 0,.slice none 0 0] 31 (0,0))):=⟨by rw [← yM];exact bk⟩;have au:aj (Below w.heap.size w w4):=⟨by rw [← yM];exact bl⟩;clear aa HB yM;have aa:=aq;have HB:=au;clear aq au)))|((with_reducible refine bg (f:=242) rfl ?_);refine gC (some 9) Try.func242 #[.string t102] ?_;(with_reducible refine (eI.calls k t102 t103 t104 t107 _ A3.z).mono ?_);rintro e w5 ⟨v105,rfl,aD,hb⟩;refine ⟨_,rfl,?_⟩;have gp:=k0 (Kd.ig aD (aoS bl));replace aa:=kB aa hb;replace HB:=k0 (aH bl hb);)|((with_reducible refine bp (N:=4) rfl ?_);refine bR 4 #[.int .i64 0,.slice none 0 0] 31 ?_;intro r_ hg w6 aE hb;replace gp:=k0 (Kd.gB (aS gp.z) hb);have kf:=k0 (aE);have FO:=gW hg (aoS bl);have I4:=FO;replace HB:=k0 (aH bl hb);have q9:=nL hg aa;have zC:=nG q9;replace aa:=kB aa hb;clear hb aE hg;have EN:=zC.z;have EO:=q9.z;have BX:=aQ kf;have BZ:=aoT kf;have B7:=bF kf 0;have aqR:=bF kf 1;obtain ⟨FL,yt,Kg⟩:=Kd.apc gp.z;subst Kg;have uD:=aQ aa;have uE:=aoT aa;have uF:=bF aa 0;have uG:=bF aa 1))
 refine bodyPost_ret (apP rfl _ _ aoV 31 #[.int .i64 t103,.slice FL t104.length yt] (0,0) _ rfl (by (with_reducible repeat (first|refine aoU ?_ _|refine aJ ?_|refine aoQ ?_ _));refine bE (cs:=#[.int .i64 t103,.slice none 0 0]) ?_ 1 _ rfl;(with_reducible repeat (first|refine aoU ?_ _|refine aJ ?_|refine aoQ ?_ _));refine bE (cs:=#[.int .i64 0,.slice none 0 0]) ?_ 0 _ rfl;(with_reducible repeat (first|refine aoU ?_ _|refine aJ ?_|refine aoQ ?_ _));refine bW ?_ q9.z _;(with_reducible repeat (first|refine aoU ?_ _|refine aJ ?_|refine aoQ ?_ _));refine bW ?_ q9.z _;exact bk) Try.underlying31 rfl (by kernel_rfl)) rfl ?_
 exact ⟨_,eR,by (with_reducible repeat (first|apply Kd.cM|apply Kd.cI|apply Kd.cr));exact Kd.bq (Kd.nI (p:=⟨aoV,1,none⟩) (Kd.nI (p:=⟨aoV,0,none⟩) (Kd.nI (p:=⟨r_,1,none⟩) (Kd.nI (p:=⟨r_,0,none⟩) (Kd.zK (tS gp kf) aa.z (by decide)) (fun _ hk=>hk.1.2) (.int .i64 t103)) (fun _ hk=>hk.1.2) (.slice FL t104.length yt)) (fun _ hk=>hk.2) (.int .i64 t103)) (fun _ hk=>hk.2) (.slice FL t104.length yt)) (fun _ hk=>trivial),bl⟩
end Go.Proofs.Ytoebojnhchocaaa.E
/- Set with little white space, by a program. -/
