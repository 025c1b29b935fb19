/- The functions that one law reaches, each as a Lean function, and that Go's call comes to what it says. Condition of each: that the Lean function answers (is not none). -/
import Derived.Test.YtapnggjaeehpdaaAx0
import Derived.Test.YtapnggjaeehpdaaAx7
namespace Go.Proofs.Ytapnggjaeehpdaa.A
open Go.RowKit Go.Proofs.bB.dI Go.Proofs.bB.ark Go.Proofs.bB.jd
attribute [local go_sem] max2_int min2_int max_two min_two max_three min_three max_four min_four   -- for this text's walks alone
set_option linter.unusedVariables false
set_option linter.unusedSimpArgs false
set_option maxHeartbeats 8000000
set_option maxRecDepth 100000
/-! ### F100: function 100 -/
mutual
def fL.l0 : Nat → List (List Int) → List Int → List (List Int) → Int → Option (List Int)
 | 0,_,_,_,_=>none
 | k+1,x0,x3,x4,x5=>if x5≤(x0.length:Int) then ((fo.f k x0 x4).bind fun t110=>(fL.l1 k x0 x3 t110 x5 (t110.length:Int) 0)) else ((nS.f k x3).bind fun t107=>(some t107))
def fL.l1 : Nat → List (List Int) → List Int → List (List Int) → Int → Int → Int → Option (List Int)
 | 0,_,_,_,_,_,_=>none
 | k+1,x0,x3,x4,x5,lA,ke=>if ke < lA then (if 0≤ke then (if ke < (x4.length:Int) then (if ke < ((ah x4 ke).length:Int) then (if 0≤(wrap64 (x5 - 1)) then (if (wrap64 (x5 - 1)) < (x3.length:Int) then (fL.l1 k x0 x3 (x4.set (ke:Int).toNat ((ah x4 ke).set (ke:Int).toNat (wrap64 ((rd (ah x4 ke) ke)+(rd x3 (wrap64 (x5 - 1))))))) x5 lA (wrap64 (ke+1))) else (none)) else (none)) else (none)) else (none)) else (none)) else ((fo.f k x0 x4).bind fun t119=>((kf.f k t119).bind fun t122=>(if x5=0 then (none) else (if x3.length < 17592186044416 then (fL.l0 k x0 (x3 ++ [wrap64 (Int.tdiv (wrap64 (-t122)) x5)]) x4 (wrap64 (x5+1))) else (none)))))
end
def fL.f (k:Nat) (l0:List (List Int)):Option (List Int):=(kL.f k (l0.length:Int)).bind fun t104=>(fL.l0 k l0 (([1]:List Int)) t104 1)
def fL.T9:Bool × List (List Nat × List Nat):=(true,[([],[]),([],[]),([0,1],[0,1]),([2],[2]),([],[]),([3,4],[3,4]),([5],[5]),([],[]),([],[]),([8],[8]),([7,9],[7,9]),([10],[10]),([6,11],[6,11]),([3,4,0,1,2,3,4,5,6,7,8,9,10,11,12],[3,4]),([13,12,0,1,2,3,4,5,6,7,8,9,10,11,12],[12,13])])
def fL.B9:List Nat:=[0,0,3,7,0,31,63,0,0,256,896,1920,4095,8191,16383]
theorem fL.aji:eH .any (opsOf Try.f100 9)=fL.T9:=by kernel_rfl
theorem fL.ab3:iL fL.T9.2 fL.B9=true:=by kernel_rfl
theorem fL.calls (k : Nat) (A0 : Option Addr) (c0 : Nat) (l0 : List (List Int)) (r : List Int) (w : World) (bZ : Kd.C (Kd.slice 2 (Kd.int .i64)) w A0 l0.length l0) (hc0 : l0.length ≤ c0) (h : fL.f k l0 = some r) :
  Calls Try.prog 100 #[.slice A0 l0.length c0] w fun e w'=>∃ cR:Value,e=.returned (cR)∧Kd.R (Kd.int .i64) 2 w' w.heap.size (fun _=>True) cR r∧Below w.heap.size w w':=by
 have cP:=k0 bZ
 have fq:=k0 hc0
 clear bZ hc0
 have HB:=k0 (Below.refl w.heap.size w)
 unfold fL.f at h
 have H:=h
 clear h
 obtain ⟨mq,kQ⟩:=nY (([1]:List Int):List Int)
 replace H:((kL.f k (l0.length:Int)).bind fun t104=>(fL.l0 k l0 mq t104 1))=some r:=rH kQ.z H
 replace H:=bS H;obtain ⟨t104,A2,H⟩:=H
 have H':=k0 H
 clear H
 go_enter Try.func100,Try.ntmps100
 go_wp2_with (first|(refine aqI (N:=7) rfl ?_;refine Kd.gw (Kd.int .i64) _ 2 ?hg (N:=7) ?hd (xs:=([1]:List Int)) (inner:=[.int .i64 1]) (ok:=fun _=>True) (bw:=fun _=>True) ?hr ?hp (fun _ hk=>hk) trivial (Below.refl _ _) (Nat.le_refl _) (by simp) ?_;(case hd=>rfl);(case hg=>rfl);(case hr=>first|(go_simp;done)|(go_simp;rfl));(case hp=>exact (aH.one (show Kd.M (Kd.int .i64) _ _ _ 1 [.int .i64 1] from rfl) (aH.none _ _)));intro tM w3 mO hb bH bI;clear bH bI;(first|rw [← kQ.z] at mO|(simp only [Int.reduceToNat] at mO;rw [← kQ.z] at mO));have mC:=k0 (Kd.cA mO (aqG bl));replace HB:=bW hb;clear hb mO)|(refine aqz (f:=122) rfl ?_;refine gC (some 10) Try.func122 #[.int .i64 (l0.length:Int)] ?_;(with_reducible refine (kL.calls k (l0.length:Int) t104 _ A2.z).mono ?_);rintro e w5 ⟨wj,rfl,aD,hb⟩;refine ⟨_,rfl,?_⟩;have fF:=k0 (Kd.fT (Kd.oX aD (Kd.eZ (aR mC.z))) (aqG bl));replace mC:=eC mC hb;replace HB:=bW hb))
 go_loopg [3,4,5] k (fun kq v3 v4 v5 w'=>∃ (bp:List Int) (bR:List (List Int)) (bK:Int),v5=.int .i64 bK∧ai (fL.l0 kq l0 bp bR bK=some r)∧ai (kq≤k)∧ai (Kd.R (Kd.int .i64) 2 w' w.heap.size (fun _=>True) v3 bp)∧ai (Kd.S (Kd.slice 2 (Kd.int .i64)) 29 w' w.heap.size (fun k_=>some k_ ≠ (v3:Value).ownBlock) v4 bR)∧ai (Below w.heap.size w w'))
 case atStart=>exact ⟨(mq),(t104),(1),rs,H',⟨Nat.le_refl _⟩,⟨aR (mC.z)⟩,⟨aS (Kd.b6 fF.z (fun _ hk=>hk.2))⟩,⟨bl⟩⟩
 case round =>
  clear H'
  obtain ⟨bp,bR,bK,rfl,HA,aI,aqK,iR,HB⟩:=hrel
  cases gk with
  | zero=>exact absurd HA.z (by simp [fL.l0])
  | succ k1 =>
   have H:=HA.z
   clear HA
   simp only [fL.l0] at H
   replace H:=iC H;obtain ⟨fN,H⟩|⟨fN,H⟩:=H
   case inl =>
    replace H:=bS H;obtain ⟨t107,X4,H⟩:=H
    obtain rfl:=Option.some.inj H
    obtain ⟨zm,vR,rfl⟩:=Kd.cy aqK.z
    go_wp2_with (first|(refine aqz (f:=118) rfl ?_;refine gC (some 51) Try.func118 #[.slice zm bp.length vR] ?_;(with_reducible refine (nS.calls k1 (fun k_=>some k_=(.slice zm bp.length vR:Value).ownBlock) _ _ bp t107 _ ?aq X4.z).mono ?_);(case aq=>exact Kd.Q4 (Kd.oV rfl (Kd.aq' (aqK.z) (Kd.fH iR.z) (by decide))));rintro e as_ ⟨q3,rfl,aD,hb⟩;refine ⟨_,rfl,?_⟩;replace iR:=iw iR (Kd.cm aD) hb;have bD:=k0 (Kd.cA (Kd.kS (Kd.aqM (ok':=fun k_=>True) aD (fun _ aqJ=>trivial)) (Kd.eZ (aR aqK.z))) (aqG bl));replace aqK:=l_ aqK (Kd.cm aD) hb;replace HB:=bW hb))
    go_ret
    exact ⟨_,eR,aR (Kd.aqM bD.z (fun _ hk=>trivial)),bl⟩
   replace H:=bS H;obtain ⟨t110,A7,H⟩:=H
   have H':=k0 H
   clear H
   obtain ⟨wu,wP,rfl⟩:=Kd.dL iR.z
   go_wp2_with (first|(refine aqz (f:=87) rfl ?_;refine gC (some 19) Try.func87 #[.slice A0 l0.length c0,.slice wu bR.length wP] ?_;(with_reducible refine (fo.calls k1 _ _ l0 _ _ bR t110 _ ?aq ?au ?cr ?dw A7.z).mono ?_);(case aq=>exact aC (Kd.aqN cP.z HB.z));(case au=>exact fq.z);(case cr=>exact aC ((Kd.a_ iR.z).2.2));(case dw=>exact (Kd.a_ iR.z).2.1);rintro e w9 ⟨F0,rfl,aD,hb⟩;refine ⟨_,rfl,?_⟩;have oQ:=k0 (Kd.fT (Kd.oX (Kd.oX aD (Kd.eZ (aR aqK.z))) (Kd.p9 (aS iR.z))) (aqG bl));replace aqK:=eC aqK hb;replace iR:=iw iR (Kd.nw aD) hb;replace HB:=bW hb;obtain ⟨xu,asD,rfl⟩:=Kd.dL oQ.z))
   go_loopg [22] k1 (fun kq OL w'=>∃ (cg:List Int) (eW:List (List Int)) (aq1:Int),OL=.int .i64 aq1∧ai (fL.l1 kq l0 cg eW bK (t110.length:Int) aq1=some r)∧ai (kq≤k1)∧ai (Kd.R (Kd.int .i64) 2 w' w.heap.size (fun _=>True) u3 cg)∧ai (Kd.S (Kd.slice 2 (Kd.int .i64)) 29 w' w.heap.size (fun k_=>some k_ ≠ (u3:Value).ownBlock) (.slice xu t110.length asD) eW)∧ai (Below w.heap.size w w'))
   case atStart=>exact ⟨(bp),(t110),(0),rs,H',⟨Nat.le_refl _⟩,⟨aR (aqK.z)⟩,⟨aS (Kd.b6 oQ.z (fun _ hk=>hk.1.2))⟩,⟨bl⟩⟩
   case round =>
    clear H'
    obtain ⟨cg,eW,aq1,rfl,HA,aqL,aqK,iR,HB⟩:=hrel
    have ar5:=(Kd.a_ iR.z).1
    rw [ar5] at iR
    (try simp only [ar5])
    (try simp only [ar5] at aqK)
    cases gk with
    | zero=>exact absurd HA.z (by simp [fL.l1])
    | succ k2 =>
     have H:=HA.z
     clear HA
     simp only [fL.l1] at H
     by_cases c11:aq1 < (t110.length:Int)
     case neg =>
      rw [if_neg c11] at H
      have jy:=decide_eq_false c11
      (try simp only [ar5] at jy)
      clear c11
      replace H:=bS H;obtain ⟨t119,rQ,H⟩:=H
      replace H:=bS H;obtain ⟨t122,Bf,H⟩:=H
      by_cases c25:bK=0
      case neg =>
       rw [if_neg c25] at H
       have asz:=beq_eq_false_iff_ne.mpr c25
       have G8:=bne_iff_ne.mpr c25
       replace H:=iS H;obtain ⟨c26,H⟩:=H
       have aab:=k0 c26
       clear c26
       obtain ⟨mz,uk⟩:=nY (cg ++ [wrap64 (Int.tdiv (wrap64 (-t122)) bK)]:List Int)
       replace H:(fL.l0 k2 l0 mz eW (wrap64 (bK+1)))=some r:=rH uk.z H
       have H':=k0 H
       clear H
       go_wp2_with (first|(refine aqz (f:=87) rfl ?_;refine gC (some 43) Try.func87 #[.slice A0 l0.length c0,.slice xu eW.length asD] ?_;(with_reducible refine (fo.calls k2 _ _ l0 _ _ eW t119 _ ?aq ?au ?cr ?dw rQ.z).mono ?_);(case aq=>exact aC (Kd.aqN cP.z HB.z));(case au=>exact fq.z);(case cr=>exact aC ((Kd.a_ iR.z).2.2));(case dw=>exact (Kd.a_ iR.z).2.1);rintro e rL ⟨OG,rfl,aD,hb⟩;refine ⟨_,rfl,?_⟩;have oR:=k0 (Kd.fT (Kd.oX (Kd.oX aD (Kd.eZ (aR aqK.z))) (Kd.p9 (aS iR.z))) (aqG bl));replace aqK:=eC aqK hb;replace iR:=iw iR (Kd.nw aD) hb;replace HB:=bW hb;obtain ⟨xw,qd,rfl⟩:=Kd.dL oR.z)|(refine aqz (f:=58) rfl ?_;refine gC (some 44) Try.func58 #[.slice xw t119.length qd] ?_;(with_reducible refine (kf.calls k2 _ _ t119 t122 _ ?aq ?au Bf.z).mono ?_);(case aq=>exact aC ((Kd.a_ oR.z).2.2));(case au=>exact (Kd.a_ oR.z).2.1);rintro e w' ⟨rfl,⟨nd,rfl⟩⟩;refine ⟨_,rfl,?_⟩)|((with_reducible refine ars (b:=.append) (xs:=#[.tmp 40,.tmp 48]) rfl ?_);at_builtin;refine Kd.asb (Kd.int .i64) (w0:=w) w.heap.size rfl (.tmp 40) (.tmp 48) 29 2 (.int .i64 0) 8 rfl Try.underlying29 lS rfl (by decide) (by omega) u3 cg (wrap64 (Int.tdiv (wrap64 (-t122)) bK)) [.int .i64 (wrap64 (Int.tdiv (wrap64 (-t122)) bK))] (fun _=>True) (fun _=>False) rfl rfl ?aP (fun _ hk=>hk.elim) ?aF ?aO ?aB ?aS ?aL ?_;(case aP=>exact rfl);(case aB=>exact bl);(case aF=>exact (fun _ _=>trivial));(case aO=>exact (aR aqK.z));(case aS=>exact (aqG bl));(case aL=>have:=aab.out;omega);intro OH zb ho hb hg bg;rw [← uk.z] at ho;replace iR:=k0 (Kd.mF (ok:=(fun k_=>some k_ ≠ (.slice xw t119.length qd:Value).ownBlock)) (aS (Kd.b6 iR.z (fun _ hk=>⟨hk.2,hk.1⟩))) hg bg);replace oR:=k0 (Kd.mF (ok:=(fun k_=>some k_ ≠ (.slice xu eW.length asD:Value).ownBlock)) (aS (Kd.b6 oR.z (fun _ hk=>⟨hk.2,hk.1.2⟩))) hg bg);replace HB:=k0 (hb);have iQ:=k0 (ho);clear aqK;clear ho hb hg bg))
       (try simp only [← ar5])
       first|go_roundg k2|(simp only [← gl];go_roundg k2)
       case measure=>have:=aI.z;have:=aqL.z;omega
       case rel=>exact ⟨(mz),(eW),(wrap64 (bK+1)),rs,(by first|exact H'|(rw [gl];exact H')),⟨by have:=aI.z;have:=aqL.z;omega⟩,⟨by (try simp only [ar5]);(with_reducible repeat (first|apply Kd.qE|apply Kd.qF|apply Kd.fG));exact iQ.z⟩,⟨by (try simp only [ar5]);(with_reducible repeat (first|apply Kd.iU|apply Kd.iV|apply Kd.gf));exact Kd.b6 iR.z (fun _ hk=>hk.2)⟩,⟨bl⟩⟩
      rw [if_pos c25] at H
      exact absurd H (by simp)
     rw [if_pos c11] at H
     have jy:=decide_eq_true c11
     (try simp only [ar5] at jy)
     clear c11
     replace H:=iS H;obtain ⟨c12,H⟩:=H
     have arN:=decide_eq_true c12
     clear c12
     replace H:=iS H;obtain ⟨c13,H⟩:=H
     have arT:=decide_eq_true c13
     (try simp only [ar5] at arT)
     clear c13
     replace H:=iS H;obtain ⟨c14,H⟩:=H
     have mH:=decide_eq_true c14
     (try simp only [ar5] at mH)
     clear c14
     obtain ⟨jg,gl⟩:∃ j_:Int,(wrap64 (bK - 1))=j_:=⟨_,rfl⟩
     replace H:(if 0≤(jg) then (if (jg) < (cg.length:Int) then (fL.l1 k2 l0 cg (eW.set (aq1:Int).toNat ((ah eW aq1).set (aq1:Int).toNat (wrap64 ((rd (ah eW aq1) aq1)+(rd cg (jg)))))) bK (t110.length:Int) (wrap64 (aq1+1))) else (none)) else (none))=some r:=by first|(rw [gl] at H;exact H)|(simp only [gl] at H ⊢;exact H)
     have UT:(IntKind.i64.wrap (bK - 1))=jg:=(bJ _).trans gl
     replace H:=iS H;obtain ⟨c16,H⟩:=H
     have asK:=decide_eq_true c16
     clear c16
     replace H:=iS H;obtain ⟨c17,H⟩:=H
     have asL:=decide_eq_true c17
     (try simp only [ar5] at asL)
     clear c17
     obtain ⟨oH,rZ⟩:=nY ((ah eW aq1).set (aq1:Int).toNat (wrap64 ((rd (ah eW aq1) aq1)+(rd cg (jg)))):List Int)
     replace H:(fL.l1 k2 l0 cg (eW.set (aq1:Int).toNat oH) bK (t110.length:Int) (wrap64 (aq1+1)))=some r:=rH rZ.z H
     obtain ⟨rj,uj⟩:=nY (eW.set (aq1:Int).toNat oH:List (List Int))
     replace H:(fL.l1 k2 l0 cg rj bK (t110.length:Int) (wrap64 (aq1+1)))=some r:=rH uj.z H
     have H':=k0 H
     clear H
     try go_wp2
     replace aqK:=k0 (Kd.fG aqK.z);replace iR:=k0 (Kd.gf iR.z);replace HB:=k0 (aqW HB.z)
     obtain ⟨tF,tH⟩:=iN aq1 (eW.length:Int)
     obtain ⟨BN,aj7,acj,e113,Cw,U1,UC⟩:=cD (Kd.a_ iR.z).2.2 aq1 tF tH
     cases e113
     obtain ⟨amR,afe,aeW,TN⟩:=Kd.aq9 iR.z [] aq1 tF (by first|exact tH|exact oD|(have e_:=(Kd.a_ iR.z).1;omega))
     obtain ⟨apH,rfl,L6⟩:=aeW
     have Fb:=TN 0 _ rfl
     rw [Nat.add_zero,show ((Kd.slice 2 (Kd.int .i64))).sz=1 from rfl,Nat.mul_one] at Fb
     replace Fb:=Option.some.inj (Fb.symm.trans Cw)
     rw [Fb] at L6
     have Gy:=k0 (show Kd.R (Kd.int .i64) 2 _ _ _ _ (ah eW aq1) from L6)
     clear Fb L6
     have KF:=k0 Cw
     clear TN afe
     have Kv:=k0 UC
     have alc:=k0 U1
     clear UC U1
     replace tF:=eT tF
     replace tH:=eT tH
     obtain ⟨NL,N2⟩:=iN aq1 ((ah eW aq1).length:Int)
     obtain ⟨al7,e114,Ib⟩:=Kd.bM (by repeat (first|(with_reducible exact Kv.z)|(with_reducible refine Kd.fP ?_ _)|(with_reducible refine Kd.fQ ?_ _)|(with_reducible refine Kd.fk ?_)|exact Kv.z)) aq1 NL N2
     cases e114
     replace NL:=eT NL
     replace N2:=eT N2
     obtain ⟨C2,asG,SS⟩:=Kd.cy aqK.z
     (first|subst SS|(injection SS with gh jY fU;have jZ:=gh.symm;have arq:=fU.symm;clear gh jY fU;subst jZ;subst arq))
     have qQ:0≤((jg):Int):=oD
     have qW:(jg) < (cg.length:Int):=oD
     obtain ⟨BO,e115,vY⟩:=Kd.bM (Kd.aqP aqK.z).2.2 (jg) qQ qW
     cases e115
     replace qQ:=eT qQ
     replace qW:=eT qW
     have NR:0≤(aq1:Int):=oD
     have N7:(aq1:Int) < (((ah eW aq1).length:Int):Int):=oD
     obtain ⟨Mm,adF,SQ,Tg,aeE,ane,PT⟩:=Kd.qG Gy.z (by omega)
     (first|cases SQ|(injection SQ with bC eo ek;(first|subst bC|(injection bC with bC;subst bC));subst ek;clear eo))
     (first|simp only [add_plain] at Ib|skip)
     have akJ:=k0 Tg
     have YX:=k0 PT
     clear Tg aeE PT
     (first|simp only [add_plain] at Ib|skip)
     obtain ⟨agc,afJ⟩:=Kd.kR 0 Gy.z (aq1:Int) NR N7
     replace NR:=eT NR
     replace N7:=eT N7
     have M3:(aq1:Int) < (eW.length:Int):=(by have h_:(aq1:Int) < ((eW.length:Int):Int):=oD;first|exact h_|(have e_:=(Kd.a_ iR.z).1;omega)|simpa only [List.length_set,List.length_set] using h_)
     obtain ⟨Wi,adq,ML,Ms,EE,Cv,EA⟩:=Kd.zO iR.z [] (aq1:Int) oD (by first|exact M3|(have e_:=(Kd.a_ iR.z).1;omega))
     obtain ⟨ajL,rfl,uC⟩:=Ms
     have wU:=EE 0 _ rfl
     rw [Nat.add_zero,show ((Kd.slice 2 (Kd.int .i64))).sz=1 from rfl,Nat.mul_one] at wU
     replace wU:=Option.some.inj (wU.symm.trans KF.z)
     subst wU
     clear EE ML
     replace uC:=(show Kd.R (Kd.int .i64) 2 _ _ _ _ (ah eW aq1) from uC)
     have ry:=Kd.ar0 uC (aq1:Int) (wrap64 ((rd (ah eW aq1) aq1)+(rd cg (jg))))
     have ZS:=k0 (r8 ry.2 KF.z (z3 (Cv _ (uC.1 _ rfl)).2))
     rw [← rZ.z] at ry
     have alF:=k0 ry.1
     have KB:=EA ry.2 (fun k_ e_=>by injection e_ with e_;subst e_;exact uC.1 _ rfl) (x':=oH) (Kd.lD ry.1)
     rw [← uj.z] at KB
     have Qi:=k0 KB
     clear ry KB EA Cv
     refine gz (n:=15) (S:=fun w'=>w'.cell? (BN.add (aq1).toNat)=some (.slice (some ⟨Mm,0,none⟩) (ah eW aq1).length acj)∧w'.cell? ⟨Mm,(aq1).toNat,none⟩=some (.int .i64 (rd (ah eW aq1) aq1))∧w'.cell? (BO.add ((jg)).toNat)=some (.int .i64 (rd cg (jg)))) (ds:=[14]) (ba 15 0) (by kernel_rfl) rfl rfl ⟨Cw,Ib,vY⟩ (fun hHeld=>?_);refine hJ fL.aji fL.ab3 (fun ak bE=>?_)
     generalize wr.drew=asR at aqK iR HB YX Gy Qi Kv KF ZS afJ Cw Ib vY agc hHeld ⊢
     refine pu 0 (some 25) (ba 15 1) ak (h:=?_)
     refine pu 1 (some 26) (ba 15 3) ak (h:=?_)
     refine pu 2 (some 27) (ba 15 7) ak (h:=?_)
     refine pu 4 (some 29) (ba 15 23) ak (h:=?_)
     refine pu 7 (some 32) (ba 15 151) ak (h:=?_)
     refine pu 8 (some 33) (ba 15 407) ak (h:=?_)
     refine pu 9 (some 34) (ba 15 919) ak (h:=?_)
     refine pu 10 (some 35) (ba 15 1943) ak (h:=?_)
     refine ta 3 (some 28) (ba 15 1951) ak bE hHeld (hy:=Or.inl ⟨by rfl,by rintro w' ⟨s0,s1,s2⟩;go_simp;with_reducible rfl⟩) (h:=?_)
     refine pu 5 (some 30) (ba 15 1983) ak (h:=?_)
     refine ta 6 (some 31) (ba 15 2047) ak bE hHeld (hy:=Or.inl ⟨by rfl,by rintro w' ⟨s0,s1,s2⟩;go_simp;with_reducible rfl⟩) (h:=?_)
     refine ta 11 (some 36) (ba 15 4095) ak bE hHeld (hy:=Or.inl ⟨by rfl,by rintro w' ⟨s0,s1,s2⟩;go_simp;with_reducible rfl⟩) (h:=?_)
     refine pu 12 (some 37) (ba 15 8191) ak (h:=?_)
     refine pu 13 (some 38) (ba 15 16383) ak (h:=?_)
     refine tD (i:=14) (N:=none) (ba 15 32767) rfl rfl (dU ak.out (by kernel_rfl)) (by decide) (fun K hK=>?_)
     refine oz (w1:=?_) (by rfl) rfl ?_ ?_
     rotate_left;· go_simp;rfl
     refine hK.out _ _ ?_
     clear hK K
     refine gx (gZ ak.out (by kernel_rfl)) ?_
     try go_wp2
     (try simp only [← ar5])
     first|go_roundg k2|(simp only [← gl];go_roundg k2)
     case measure=>have:=aI.z;have:=aqL.z;omega
     case rel=>exact ⟨(cg),(rj),(wrap64 (aq1+1)),rs,(by first|exact H'|(rw [gl];exact H')),⟨by have:=aI.z;have:=aqL.z;omega⟩,⟨by (try simp only [ar5]);(with_reducible repeat (first|apply Kd.qE|apply Kd.qF|apply Kd.fG));exact Kd.aqM (Kd.DC (p:=⟨Mm,(aq1:Int).toNat,none⟩) (Kd.abc aqK.z rfl ((Gy.z.1 _ rfl).1)) (fun _ hk=>hk.2) (.int .i64 (wrap64 ((rd (ah eW aq1) aq1)+(rd cg (jg)))))) (fun _ hk=>trivial)⟩,⟨by (try simp only [ar5]);(with_reducible repeat (first|apply Kd.iU|apply Kd.iV|apply Kd.gf));exact Qi.out⟩,⟨aL HB.z⟩⟩
/-! ### F64: function 64 -/
def oO.f (ag:Int) (af:List (List Int)):Option (Int):=some (af.length:Int)
theorem oO.calls (ag : Int) (az : Option Addr) (ay : Nat) (af : List (List Int)) (r : Int) (w : World) (aqO : Kd.C (Kd.slice 2 (Kd.int .i64)) w az af.length af) (bG : af.length ≤ ay) (h : oO.f ag af = some r) :
  Calls Try.prog 64 #[.agg #[.int .i64 ag,.slice az af.length ay]] w fun e w'=>e=.returned (.int .i64 r)∧Below w.heap.size w w':=by
 have eE:=Try.underlying26
 have aW:=k0 aqO
 have bh:=k0 bG
 clear aqO bG
 have HB:=k0 (Below.refl w.heap.size w)
 unfold oO.f at h
 have H:=h
 clear h
 obtain rfl:=Option.some.inj H
 go_enter Try.func64,Try.ntmps64
 go_wp2_with (first|(refine aqI (N:=1) rfl ?_;refine cz 1 #[.int .i64 ag,.slice az af.length ay] 26 bl ?_;intro aA w2 aa aqF HB;have aqR:=aqF;obtain ⟨_,_,_,_⟩:=aqA aa))
 go_ret
 exact ⟨eR,bl⟩
/-! ### F111: function 111 -/
def oM.f (ag:Int) (af:List (List Int)) (a1:Int):Option (Int × Int):=if 0≤(wrap64 (Int.tdiv a1 2)) then (if (wrap64 (Int.tdiv a1 2)) < (af.length:Int) then (if 0≤(Int.tmod a1 2) then (if (Int.tmod a1 2) < ((ah af (wrap64 (Int.tdiv a1 2))).length:Int) then (if 0≤(wrap64 (1 - (Int.tmod a1 2))) then (if (wrap64 (1 - (Int.tmod a1 2))) < ((ah af (wrap64 (Int.tdiv a1 2))).length:Int) then (some (rd (ah af (wrap64 (Int.tdiv a1 2))) (Int.tmod a1 2),rd (ah af (wrap64 (Int.tdiv a1 2))) (wrap64 (1 - (Int.tmod a1 2))))) else (none)) else (none)) else (none)) else (none)) else (none)) else (none)
theorem oM.calls (ag : Int) (az : Option Addr) (ay : Nat) (af : List (List Int)) (a1 : Int) (r1 : Int) (r2 : Int) (w : World) (aqO : Kd.C (Kd.slice 2 (Kd.int .i64)) w az af.length af) (bG : af.length ≤ ay) (h : oM.f ag af a1 = some (r1, r2)) :
  Calls Try.prog 111 #[.agg #[.int .i64 ag,.slice az af.length ay],.int .i64 a1] w fun e w'=>e=.returned (.tuple #[.int .i64 r1,.int .i64 r2])∧Below w.heap.size w w':=by
 have eE:=Try.underlying26
 have aW:=k0 aqO
 have bh:=k0 bG
 clear aqO bG
 have HB:=k0 (Below.refl w.heap.size w)
 unfold oM.f at h
 have H:=h
 clear h
 obtain ⟨bz,arv⟩:∃ j_:Int,(wrap64 (Int.tdiv a1 2))=j_:=⟨_,rfl⟩
 replace H:(if 0≤(bz) then (if (bz) < (af.length:Int) then (if 0≤(Int.tmod a1 2) then (if (Int.tmod a1 2) < ((ah af (bz)).length:Int) then (if 0≤(wrap64 (1 - (Int.tmod a1 2))) then (if (wrap64 (1 - (Int.tmod a1 2))) < ((ah af (bz)).length:Int) then (some (rd (ah af (bz)) (Int.tmod a1 2),rd (ah af (bz)) (wrap64 (1 - (Int.tmod a1 2))))) else (none)) else (none)) else (none)) else (none)) else (none)) else (none))=some (r1,r2):=by first|(rw [arv] at H;exact H)|(simp only [arv] at H ⊢;exact H)
 have MV:(IntKind.i64.wrap (Int.tdiv a1 2))=bz:=(bJ _).trans arv
 replace H:=iS H;obtain ⟨c4,H⟩:=H
 have ej:=decide_eq_true c4
 clear c4
 replace H:=iS H;obtain ⟨c5,H⟩:=H
 have gD:=decide_eq_true c5
 clear c5
 obtain ⟨j8,sk⟩:∃ j_:Int,(Int.tmod a1 2)=j_:=⟨_,rfl⟩
 replace H:(if 0≤(j8) then (if (j8) < ((ah af (bz)).length:Int) then (if 0≤(wrap64 (1 - (j8))) then (if (wrap64 (1 - (j8))) < ((ah af (bz)).length:Int) then (some (rd (ah af (bz)) (j8),rd (ah af (bz)) (wrap64 (1 - (j8))))) else (none)) else (none)) else (none)) else (none))=some (r1,r2):=by first|(rw [sk] at H;exact H)|(simp only [sk] at H ⊢;exact H)
 replace H:=iS H;obtain ⟨c7,H⟩:=H
 have l8:=decide_eq_true c7
 clear c7
 replace H:=iS H;obtain ⟨c8,H⟩:=H
 have r7:=decide_eq_true c8
 clear c8
 obtain ⟨sx,atm⟩:∃ j_:Int,(wrap64 (1 - (j8)))=j_:=⟨_,rfl⟩
 replace H:(if 0≤(sx) then (if (sx) < ((ah af (bz)).length:Int) then (some (rd (ah af (bz)) (j8),rd (ah af (bz)) (sx))) else (none)) else (none))=some (r1,r2):=by first|(rw [atm] at H;exact H)|(simp only [atm] at H ⊢;exact H)
 have aou:(IntKind.i64.wrap (1 - (j8)))=sx:=(bJ _).trans atm
 replace H:=iS H;obtain ⟨c10,H⟩:=H
 have vN:=decide_eq_true c10
 clear c10
 replace H:=iS H;obtain ⟨c11,H⟩:=H
 have jy:=decide_eq_true c11
 clear c11
 simp only [Option.some.injEq,Prod.mk.injEq] at H
 obtain ⟨rfl,rfl⟩:=H
 go_enter Try.func111,Try.ntmps111
 go_wp2_with (first|(refine aqI (N:=2) rfl ?_;refine cz 2 #[.int .i64 ag,.slice az af.length ay] 26 bl ?_;intro aA oB aa aqF HB;have aqR:=aqF;obtain ⟨Ub,Uc,Um,Un⟩:=aqA aa;have cT:0≤((bz):Int):=oD;have cU:(bz) < (af.length:Int):=oD;obtain ⟨nZ,asa,s9,e102,fB,aq8,gj⟩:=cD aW.z (bz) cT cU;cases e102;replace fB:=hbc HB fB;have gb:=k0 gj;have nU:=k0 aq8;clear gj aq8;replace cT:=eT cT;replace cU:=eT cU;have di:0≤((j8):Int):=oD;have dn:(j8) < ((ah af (bz)).length:Int):=oD;obtain ⟨jK,e103,dH⟩:=Kd.bM gb.z (j8) di dn;cases e103;replace dH:=hbc HB dH;replace di:=eT di;replace dn:=eT dn;have dm:0≤((sx):Int):=oD;have aqT:(sx) < ((ah af (bz)).length:Int):=oD;obtain ⟨jw,e104,dz⟩:=Kd.bM gb.z (sx) dm aqT;obtain rfl:jK=jw:=(by injection e104);replace dz:=hbc HB dz;replace dm:=eT dm;replace aqT:=eT aqT))
 repeat (go_quiet (first|(refine aqI (N:=2) rfl ?_;refine cz 2 #[.int .i64 ag,.slice az af.length ay] 26 bl ?_;intro aA oB aa aqF HB;have aqR:=aqF;obtain ⟨Ub,Uc,Um,Un⟩:=aqA aa;have cT:0≤((bz):Int):=oD;have cU:(bz) < (af.length:Int):=oD;obtain ⟨nZ,asa,s9,e102,fB,aq8,gj⟩:=cD aW.z (bz) cT cU;cases e102;replace fB:=hbc HB fB;have gb:=k0 gj;have nU:=k0 aq8;clear gj aq8;replace cT:=eT cT;replace cU:=eT cU;have di:0≤((j8):Int):=oD;have dn:(j8) < ((ah af (bz)).length:Int):=oD;obtain ⟨jK,e103,dH⟩:=Kd.bM gb.z (j8) di dn;cases e103;replace dH:=hbc HB dH;replace di:=eT di;replace dn:=eT dn;have dm:0≤((sx):Int):=oD;have aqT:(sx) < ((ah af (bz)).length:Int):=oD;obtain ⟨jw,e104,dz⟩:=Kd.bM gb.z (sx) dm aqT;obtain rfl:jK=jw:=(by injection e104);replace dz:=hbc HB dz;replace dm:=eT dm;replace aqT:=eT aqT));try go_wp2_with (first|(refine aqI (N:=2) rfl ?_;refine cz 2 #[.int .i64 ag,.slice az af.length ay] 26 bl ?_;intro aA oB aa aqF HB;have aqR:=aqF;obtain ⟨Ub,Uc,Um,Un⟩:=aqA aa;have cT:0≤((bz):Int):=oD;have cU:(bz) < (af.length:Int):=oD;obtain ⟨nZ,asa,s9,e102,fB,aq8,gj⟩:=cD aW.z (bz) cT cU;cases e102;replace fB:=hbc HB fB;have gb:=k0 gj;have nU:=k0 aq8;clear gj aq8;replace cT:=eT cT;replace cU:=eT cU;have di:0≤((j8):Int):=oD;have dn:(j8) < ((ah af (bz)).length:Int):=oD;obtain ⟨jK,e103,dH⟩:=Kd.bM gb.z (j8) di dn;cases e103;replace dH:=hbc HB dH;replace di:=eT di;replace dn:=eT dn;have dm:0≤((sx):Int):=oD;have aqT:(sx) < ((ah af (bz)).length:Int):=oD;obtain ⟨jw,e104,dz⟩:=Kd.bM gb.z (sx) dm aqT;obtain rfl:jK=jw:=(by injection e104);replace dz:=hbc HB dz;replace dm:=eT dm;replace aqT:=eT aqT)))
 go_ret2
 exact ⟨by first|rfl|(simp [ic,ie]<;>rfl)|(simp only [← arv,← sk,← atm];first|rfl|(simp [ic,ie]<;>rfl))|(simp [*,ic,ie]<;>rfl),bl⟩
/-! ### F101: function 101 -/
mutual
def gI.l0 : Nat → List (List Int) → Int → Int → Int → List (List Int) → Option ((List (List Int)))
 | 0,_,_,_,_,_=>none
 | k+1,x3,ey,arf,dx,cF=>if arf < ey then ((oM.f dx cF arf).bind fun jx=>((oO.f dx cF).bind fun t109=>(gI.l1 k x3 arf jx.2 ey arf (wrap64 (2 * t109)) 0 dx cF))) else (some x3)
def gI.l1 : Nat → List (List Int) → Int → Int → Int → Int → Int → Int → Int → List (List Int) → Option ((List (List Int)))
 | 0,_,_,_,_,_,_,_,_,_=>none
 | k+1,x3,x4,x6,ey,arf,Js,xk,dx,cF=>if xk < Js then ((oM.f dx cF xk).bind fun DJ=>(if DJ.1=x6 then (if xk=(Go.bits .xor .i64 x4 1) then (gI.l1 k x3 x4 x6 ey arf Js (wrap64 (xk+1)) dx cF) else (if 0≤x4 then (if x4 < (x3.length:Int) then (if 0≤xk then (if xk < ((ah x3 x4).length:Int) then (gI.l1 k (x3.set (x4:Int).toNat ((ah x3 x4).set (xk:Int).toNat 1)) x4 x6 ey arf Js (wrap64 (xk+1)) dx cF) else (none)) else (none)) else (none)) else (none))) else (gI.l1 k x3 x4 x6 ey arf Js (wrap64 (xk+1)) dx cF))) else (gI.l0 k x3 ey (wrap64 (arf+1)) dx cF)
end
def gI.f (k:Nat) (ag:Int) (af:List (List Int)):Option ((List (List Int))):=(oO.f ag af).bind fun t102=>((kL.f k (wrap64 (2 * t102))).bind fun t103=>((oO.f ag af).bind fun t106=>(gI.l0 k t103 (wrap64 (2 * t106)) 0 ag af)))
theorem gI.calls (k : Nat) (ag : Int) (az : Option Addr) (ay : Nat) (af : List (List Int)) (r : List (List Int)) (w : World) (aqO : Kd.C (Kd.slice 2 (Kd.int .i64)) w az af.length af) (bG : af.length ≤ ay) (h : gI.f k ag af = some r) :
  Calls Try.prog 101 #[.agg #[.int .i64 ag,.slice az af.length ay]] w fun e w'=>∃ cR:Value,e=.returned (cR)∧Kd.S (Kd.slice 2 (Kd.int .i64)) 29 w' w.heap.size (fun _=>True) cR r∧Below w.heap.size w w':=by
 have eE:=Try.underlying26
 have aW:=k0 aqO
 have bh:=k0 bG
 clear aqO bG
 have HB:=k0 (Below.refl w.heap.size w)
 unfold gI.f at h
 have H:=h
 clear h
 replace H:=bS H;obtain ⟨t102,A2,H⟩:=H
 replace H:=bS H;obtain ⟨t103,A3,H⟩:=H
 replace H:=bS H;obtain ⟨t106,A4,H⟩:=H
 have H':=k0 H
 clear H
 go_enter Try.func101,Try.ntmps101
 go_wp2_with (first|(refine aqI (N:=1) rfl ?_;refine cz 1 #[.int .i64 ag,.slice az af.length ay] 26 bl ?_;intro aA w5 aa aqF HB;have aqR:=aqF;obtain ⟨_,_,_,_⟩:=aqA aa)|(refine aqz (f:=64) rfl ?_;refine gC (some 11) Try.func64 #[.agg #[.int .i64 ag,.slice az af.length ay]] ?_;(with_reducible refine (oO.calls ag _ _ af t102 _ ?aq ?au A2.z).mono ?_);(case aq=>exact aC (Kd.aqN aW.z HB.z));(case au=>exact bh.z);rintro e w7 ⟨rfl,hb⟩;refine ⟨_,rfl,?_⟩;replace aa:=kB aa hb;replace HB:=bW hb)|(refine aqz (f:=122) rfl ?_;refine gC (some 13) Try.func122 #[.int .i64 (wrap64 (2 * t102))] ?_;(with_reducible refine (kL.calls k (wrap64 (2 * t102)) t103 _ A3.z).mono ?_);rintro e w8 ⟨mT,rfl,aD,hb⟩;refine ⟨_,rfl,?_⟩;have b8:=k0 (Kd.fT aD (aqG bl));replace aa:=kB aa hb;replace HB:=bW hb;obtain ⟨_,_,_,_⟩:=aqA aa)|(refine aqz (f:=64) rfl ?_;refine gC (some 15) Try.func64 #[.agg #[.int .i64 ag,.slice az af.length ay]] ?_;(with_reducible refine (oO.calls ag _ _ af t106 _ ?aq ?au A4.z).mono ?_);(case aq=>exact aC (Kd.aqN aW.z HB.z));(case au=>exact bh.z);rintro e jh ⟨rfl,hb⟩;refine ⟨_,rfl,?_⟩;replace b8:=iG b8 hb;replace aa:=kB aa hb;replace HB:=bW hb))
 go_loopg [17] k (fun kq OJ w'=>∃ (bp:List (List Int)) (cG:Int),OJ=.int .i64 cG∧ai (gI.l0 kq bp (wrap64 (2 * t106)) cG ag af=some r)∧ai (kq≤k)∧ai (Kd.S (Kd.slice 2 (Kd.int .i64)) 29 w' w.heap.size (fun _=>True) mT bp)∧ai (w'.heap[aA]?=some (sO ag az af ay 26))∧ai (Below w.heap.size w w'))
 case atStart=>exact ⟨(t103),(0),rs,H',⟨Nat.le_refl _⟩,⟨aS (b8.z)⟩,⟨bk⟩,⟨bl⟩⟩
 case round =>
  clear H'
  obtain ⟨bp,cG,rfl,HA,aI,aqK,aa,HB⟩:=hrel
  cases gk with
  | zero=>exact absurd HA.z (by simp [gI.l0])
  | succ k1 =>
   have H:=HA.z
   clear HA
   simp only [gI.l0] at H
   replace H:=iC H;obtain ⟨jy,H⟩|⟨jy,H⟩:=H
   case inl =>
    obtain rfl:=Option.some.inj H
    go_wp2
    go_ret
    exact ⟨_,eR,aS aqK.z,bl⟩
   replace H:=bS H;obtain ⟨⟨t107,t108⟩,xq,H⟩:=H
   dsimp only at H
   replace H:=bS H;obtain ⟨t109,oI,H⟩:=H
   have H':=k0 H
   clear H
   obtain ⟨_,_,_,_⟩:=aqA aa
   go_wp2_with (first|(refine aqz (f:=111) rfl ?_;refine gC (some 23) Try.func111 #[.agg #[.int .i64 ag,.slice az af.length ay],.int .i64 cG] ?_;(with_reducible refine (oM.calls ag _ _ af cG t107 t108 _ ?aq ?au xq.z).mono ?_);(case aq=>exact aC (Kd.aqN aW.z HB.z));(case au=>exact bh.z);rintro e pH ⟨rfl,hb⟩;refine ⟨_,rfl,?_⟩;replace aqK:=iG aqK hb;replace aa:=kB aa hb;replace HB:=bW hb;obtain ⟨_,_,_,_⟩:=aqA aa)|(refine aqz (f:=64) rfl ?_;refine gC (some 27) Try.func64 #[.agg #[.int .i64 ag,.slice az af.length ay]] ?_;(with_reducible refine (oO.calls ag _ _ af t109 _ ?aq ?au oI.z).mono ?_);(case aq=>exact aC (Kd.aqN aW.z HB.z));(case au=>exact bh.z);rintro e y_ ⟨rfl,hb⟩;refine ⟨_,rfl,?_⟩;replace aqK:=iG aqK hb;replace aa:=kB aa hb;replace HB:=bW hb))
   go_loopg [29] k1 (fun kq v29 w'=>∃ (cg:List (List Int)) (mW:Int),v29=.int .i64 mW∧ai (gI.l1 kq cg cG t108 (wrap64 (2 * t106)) cG (wrap64 (2 * t109)) mW ag af=some r)∧ai (kq≤k1)∧ai (Kd.S (Kd.slice 2 (Kd.int .i64)) 29 w' w.heap.size (fun _=>True) mT cg)∧ai (w'.heap[aA]?=some (sO ag az af ay 26))∧ai (Below w.heap.size w w'))
   case atStart=>exact ⟨(bp),(0),rs,H',⟨Nat.le_refl _⟩,⟨aS (aqK.z)⟩,⟨bk⟩,⟨bl⟩⟩
   case round =>
    clear H'
    obtain ⟨cg,mW,rfl,HA,aqL,aqK,aa,HB⟩:=hrel
    cases gk with
    | zero=>exact absurd HA.z (by simp [gI.l1])
    | succ k2 =>
     have H:=HA.z
     clear HA
     simp only [gI.l1] at H
     replace H:=iC H;obtain ⟨B0,H⟩|⟨B0,H⟩:=H
     case inl =>
      have H':=k0 H
      clear H
      go_wp2
      go_roundg k2
      case measure=>have:=aI.z;have:=aqL.z;omega
      case rel=>exact ⟨(cg),(wrap64 (cG+1)),rs,H',⟨by have:=aI.z;have:=aqL.z;omega⟩,⟨aS (aqK.z)⟩,⟨bk⟩,⟨bl⟩⟩
     replace H:=bS H;obtain ⟨⟨t110,t111⟩,JH,H⟩:=H
     dsimp only at H
     replace H:=iE H;obtain ⟨c20,vP,Lz,H⟩|⟨vP,Lz,H⟩:=H
     case inl =>
      have H':=k0 H
      clear H
      obtain ⟨_,_,_,_⟩:=aqA aa
      go_wp2_with (first|(refine aqz (f:=111) rfl ?_;refine gC (some 35) Try.func111 #[.agg #[.int .i64 ag,.slice az af.length ay],.int .i64 mW] ?_;(with_reducible refine (oM.calls ag _ _ af mW t110 t111 _ ?aq ?au JH.z).mono ?_);(case aq=>exact aC (Kd.aqN aW.z HB.z));(case au=>exact bh.z);rintro e Jg ⟨rfl,hb⟩;refine ⟨_,rfl,?_⟩;replace aqK:=iG aqK hb;replace aa:=kB aa hb;replace HB:=bW hb))
      go_roundg k2
      case measure=>have:=aI.z;have:=aqL.z;omega
      case rel=>exact ⟨(cg),(wrap64 (mW+1)),rs,H',⟨by have:=aI.z;have:=aqL.z;omega⟩,⟨aS (aqK.z)⟩,⟨bk⟩,⟨bl⟩⟩
     replace H:=iE H;obtain ⟨c21,asZ,acR,H⟩|⟨asZ,acR,H⟩:=H
     case inl =>
      replace H:=iS H;obtain ⟨c24,H⟩:=H
      have wM:=decide_eq_true c24
      clear c24
      replace H:=iS H;obtain ⟨c25,H⟩:=H
      have asz:=decide_eq_true c25
      clear c25
      replace H:=iS H;obtain ⟨c26,H⟩:=H
      have as0:=decide_eq_true c26
      clear c26
      replace H:=iS H;obtain ⟨c27,H⟩:=H
      have acT:=decide_eq_true c27
      clear c27
      obtain ⟨O1,QG⟩:=nY ((ah cg cG).set (mW:Int).toNat 1:List Int)
      replace H:(gI.l1 k2 (cg.set (cG:Int).toNat O1) cG t108 (wrap64 (2 * t106)) cG (wrap64 (2 * t109)) (wrap64 (mW+1)) ag af)=some r:=rH QG.z H
      obtain ⟨sN,asr⟩:=nY (cg.set (cG:Int).toNat O1:List (List Int))
      replace H:(gI.l1 k2 sN cG t108 (wrap64 (2 * t106)) cG (wrap64 (2 * t109)) (wrap64 (mW+1)) ag af)=some r:=rH asr.z H
      have H':=k0 H
      clear H
      obtain ⟨_,_,_,_⟩:=aqA aa
      go_wp2_with (first|(refine aqz (f:=111) rfl ?_;refine gC (some 35) Try.func111 #[.agg #[.int .i64 ag,.slice az af.length ay],.int .i64 mW] ?_;(with_reducible refine (oM.calls ag _ _ af mW t110 t111 _ ?aq ?au JH.z).mono ?_);(case aq=>exact aC (Kd.aqN aW.z HB.z));(case au=>exact bh.z);rintro e CV ⟨rfl,hb⟩;refine ⟨_,rfl,?_⟩;replace aqK:=iG aqK hb;replace aa:=kB aa hb;replace HB:=bW hb;obtain ⟨zm,vR,rfl⟩:=Kd.dL aqK.z;obtain ⟨iZ,iA⟩:=iN cG (cg.length:Int);obtain ⟨ur,JD,BX,e112,tv,uN,uH⟩:=cD (Kd.a_ aqK.z).2.2 cG iZ iA;cases e112;obtain ⟨LM,Ae,Ab,uD⟩:=Kd.aq9 aqK.z [] cG iZ (by first|exact iA|exact oD|(have e_:=(Kd.a_ aqK.z).1;omega));obtain ⟨OP,rfl,qM⟩:=Ab;have arD:=uD 0 _ rfl;rw [Nat.add_zero,show ((Kd.slice 2 (Kd.int .i64))).sz=1 from rfl,Nat.mul_one] at arD;replace arD:=Option.some.inj (arD.symm.trans tv);rw [arD] at qM;have nX:=k0 (show Kd.R (Kd.int .i64) 2 _ _ _ _ (ah cg cG) from qM);clear arD qM;have arS:=k0 tv;clear uD Ae;have uf:=k0 uH;have J8:=k0 uN;clear uH uN;replace iZ:=eT iZ;replace iA:=eT iA;have NU:0≤(mW:Int):=oD;have N_:(mW:Int) < (((ah cg cG).length:Int):Int):=oD;obtain ⟨Mo,qd,Eg,Tl,aeI,ani,PX⟩:=Kd.qG nX.z (by omega);(first|cases Eg|(injection Eg with bC eo ek;(first|subst bC|(injection bC with bC;subst bC));subst ek;clear eo));have YT:=k0 Tl;have ak6:=k0 PX;clear Tl aeI PX;obtain ⟨aoV,an5⟩:=Kd.kR 0 nX.z (mW:Int) NU N_;replace NU:=eT NU;replace N_:=eT N_;have af3:(cG:Int) < (cg.length:Int):=(by have h_:(cG:Int) < ((cg.length:Int):Int):=oD;first|exact h_|(have e_:=(Kd.a_ aqK.z).1;omega)|simpa only [List.length_set,List.length_set] using h_);obtain ⟨ahN,am6,afu,aeP,atD,M0,TG⟩:=Kd.zO aqK.z [] (cG:Int) oD (by first|exact af3|(have e_:=(Kd.a_ aqK.z).1;omega));obtain ⟨apW,rfl,Eo⟩:=aeP;have H8:=atD 0 _ rfl;rw [Nat.add_zero,show ((Kd.slice 2 (Kd.int .i64))).sz=1 from rfl,Nat.mul_one] at H8;replace H8:=Option.some.inj (H8.symm.trans arS.z);subst H8;clear atD afu;replace Eo:=(show Kd.R (Kd.int .i64) 2 _ _ _ _ (ah cg cG) from Eo);have Kq:=Kd.ar0 Eo (mW:Int) 1)|((with_reducible refine qi (t:=2) (p:=52) rfl ?_);refine qq (t:=2) (p:=52) (v:=?ap3) (w1:=(CV.setCell ⟨Mo,(mW:Int).toNat,none⟩ (.int .i64 1))) ?hg ?ho ?hn ?hr ?_;(case ho=>rfl);(case hg=>rfl);(case hn=>rfl);(case hr=>first|(go_simp;done)|(go_simp;rfl));intro zc hw;have hg:CV.grownBy zc (some Mo):=(by rw [hw];exact Kq.2);have u_:Kd.R (Kd.int .i64) 2 zc w.heap.size ahN (.slice (some ⟨Mo,0,none⟩) (ah cg cG).length BX) O1:=(by rw [hw,QG.z];exact Kq.1);have gp:Kd.S (Kd.slice 2 (Kd.int .i64)) 29 zc w.heap.size (fun _=>True) (.slice (some ur) cg.length vR) sN:=(by rw [asr.z];exact TG hg (fun k_ e_=>by injection e_ with e_;subst e_;exact Eo.1 _ rfl) (Kd.lD u_));have uQ:=Kd.aqM u_ M0;clear Kq TG;replace aqK:=k0 (gp);replace aa:=k0 (aq2 (aB aa.z) hg (Kd.aro nX.z aa.z (by decide)));replace arS:=k0 (r8 hg arS.z (z3 (M0 _ (Eo.1 _ rfl)).2));replace HB:=k0 ((by rw [hw];exact lZ (HB.z) YT.out:Below w.heap.size w zc));have aly:=k0 (uQ);have ald:=k0 ((Kd.aqP uQ).2.1);clear nX;clear hg hw gp u_ uQ M0))
      go_roundg k2
      case measure=>have:=aI.z;have:=aqL.z;omega
      case rel=>exact ⟨(sN),(wrap64 (mW+1)),rs,H',⟨by have:=aI.z;have:=aqL.z;omega⟩,⟨aS (aqK.z)⟩,⟨bk⟩,⟨bl⟩⟩
     have H':=k0 H
     clear H
     obtain ⟨_,_,_,_⟩:=aqA aa
     go_wp2_with (first|(refine aqz (f:=111) rfl ?_;refine gC (some 35) Try.func111 #[.agg #[.int .i64 ag,.slice az af.length ay],.int .i64 mW] ?_;(with_reducible refine (oM.calls ag _ _ af mW t110 t111 _ ?aq ?au JH.z).mono ?_);(case aq=>exact aC (Kd.aqN aW.z HB.z));(case au=>exact bh.z);rintro e asy ⟨rfl,hb⟩;refine ⟨_,rfl,?_⟩;replace aqK:=iG aqK hb;replace aa:=kB aa hb;replace HB:=bW hb))
     go_roundg k2
     case measure=>have:=aI.z;have:=aqL.z;omega
     case rel=>exact ⟨(cg),(wrap64 (mW+1)),rs,H',⟨by have:=aI.z;have:=aqL.z;omega⟩,⟨aS (aqK.z)⟩,⟨bk⟩,⟨bl⟩⟩
/-! ### F53: function 53 -/
def sR.f (k:Nat) (ag:Int) (af:List (List Int)):Option (List Int):=(gI.f k ag af).bind fun t102=>((fL.f k t102).bind fun t105=>(some t105))
theorem sR.calls (k : Nat) (ag : Int) (az : Option Addr) (ay : Nat) (af : List (List Int)) (r : List Int) (w : World) (aqO : Kd.C (Kd.slice 2 (Kd.int .i64)) w az af.length af) (bG : af.length ≤ ay) (h : sR.f k ag af = some r) :
  Calls Try.prog 53 #[.agg #[.int .i64 ag,.slice az af.length ay]] w fun e w'=>∃ cR:Value,e=.returned (cR)∧Kd.R (Kd.int .i64) 2 w' w.heap.size (fun _=>True) cR r∧Below w.heap.size w w':=by
 have eE:=Try.underlying26
 have aW:=k0 aqO
 have bh:=k0 bG
 clear aqO bG
 have HB:=k0 (Below.refl w.heap.size w)
 unfold sR.f at h
 have H:=h
 clear h
 replace H:=bS H;obtain ⟨t102,A2,H⟩:=H
 replace H:=bS H;obtain ⟨t105,A3,H⟩:=H
 obtain rfl:=Option.some.inj H
 go_enter Try.func53,Try.ntmps53
 go_wp2_with (first|(refine aqI (N:=1) rfl ?_;refine cz 1 #[.int .i64 ag,.slice az af.length ay] 26 bl ?_;intro aA w4 aa aqF HB;have aqR:=aqF;obtain ⟨_,_,_,_⟩:=aqA aa)|(refine aqz (f:=101) rfl ?_;refine gC (some 4) Try.func101 #[.agg #[.int .i64 ag,.slice az af.length ay]] ?_;(with_reducible refine (gI.calls k ag _ _ af t102 _ ?aq ?au A2.z).mono ?_);(case aq=>exact aC (Kd.aqN aW.z HB.z));(case au=>exact bh.z);rintro e w6 ⟨ary,rfl,aD,hb⟩;refine ⟨_,rfl,?_⟩;have bU:=k0 (Kd.fT aD (aqG bl));replace aa:=kB aa hb;replace HB:=bW hb;obtain ⟨Yl,co7,rfl⟩:=Kd.dL bU.z)|(refine aqz (f:=100) rfl ?_;refine gC (some 5) Try.func100 #[.slice Yl t102.length co7] ?_;(with_reducible refine (fL.calls k _ _ t102 t105 _ ?aq ?au A3.z).mono ?_);(case aq=>exact aC ((Kd.a_ bU.z).2.2));(case au=>exact (Kd.a_ bU.z).2.1);rintro e w8 ⟨CS,rfl,aD,hb⟩;refine ⟨_,rfl,?_⟩;replace bU:=iw bU (Kd.cm aD) hb;have oP:=k0 (Kd.cA aD (aqG bl));replace aa:=kB aa hb;replace HB:=bW hb))
 go_ret
 exact ⟨_,eR,aR oP.z,bl⟩
/-! ### F86: function 86 -/
def tX.f (a0:Int) (a1:Int):Option (Int):=if a1=0 then (none) else (some (Int.tmod (wrap64 ((Int.tmod a0 a1)+a1)) a1))
theorem tX.calls (a0 : Int) (a1 : Int) (r : Int) (w : World) (h : tX.f a0 a1 = some r) :
  Calls Try.prog 86 #[.int .i64 a0,.int .i64 a1] w fun e w'=>e=.returned (.int .i64 r)∧eX w w':=by
 unfold tX.f at h
 have H:=h
 clear h
 by_cases c3:a1=0
 case neg =>
  rw [if_neg c3] at H
  have ia:=beq_eq_false_iff_ne.mpr c3
  have qb:=bne_iff_ne.mpr c3
  obtain rfl:=Option.some.inj H
  go_enter Try.func86,Try.ntmps86
  go_wp2
  go_ret
  exact ⟨rs,dW⟩
 rw [if_pos c3] at H
 exact absurd H (by simp)
end Go.Proofs.Ytapnggjaeehpdaa.A
/- Set with little white space, by a program. -/
