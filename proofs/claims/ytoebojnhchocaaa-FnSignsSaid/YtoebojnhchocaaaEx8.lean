/- The functions that one law reaches, each as a Lean function, and that Go's call comes to what it says. Condition of each: that the Lean function answers (is not none). -/
import Derived.Test.YtoebojnhchocaaaEx0
import Derived.Test.YtoebojnhchocaaaEx1
import Derived.Test.YtoebojnhchocaaaEx4
import Derived.Test.YtoebojnhchocaaaEx7
namespace Go.Proofs.Ytoebojnhchocaaa.E
open Go.RowKit Go.Proofs.bY.apf Go.Proofs.bY.ko Go.Proofs.bY.kN
attribute [local go_sem] max2_int min2_int max_two min_two max_three min_three max_four min_four   -- for this text's walks alone
set_option linter.unusedVariables false
set_option linter.unusedSimpArgs false
set_option maxHeartbeats 8000000
set_option maxRecDepth 100000
/-! ### F132: function 132 -/
mutual
def fO.l0 : Nat → List (List Int) → List Int → List (List Int) → Int → Option (List Int)
 | 0,_,_,_,_=>none
 | k+1,x0,x3,x4,x5=>if x5≤(x0.length:Int) then ((apj.f k x0 x4).bind fun t110=>(fO.l1 k x0 x3 t110 x5 (t110.length:Int) 0)) else ((mK.f k x3).bind fun t107=>(some t107))
def fO.l1 : Nat → List (List Int) → List Int → List (List Int) → Int → Int → Int → Option (List Int)
 | 0,_,_,_,_,_,_=>none
 | k+1,x0,x3,x4,x5,Ut,mV=>if mV < Ut then (if 0≤mV then (if mV < (x4.length:Int) then (if mV < ((av x4 mV).length:Int) then (if 0≤(wrap64 (x5 - 1)) then (if (wrap64 (x5 - 1)) < (x3.length:Int) then (fO.l1 k x0 x3 (x4.set (mV:Int).toNat ((av x4 mV).set (mV:Int).toNat (wrap64 ((rd (av x4 mV) mV)+(rd x3 (wrap64 (x5 - 1))))))) x5 Ut (wrap64 (mV+1))) else (none)) else (none)) else (none)) else (none)) else (none)) else ((apj.f k x0 x4).bind fun t119=>((oC.f k t119).bind fun t122=>(if x5=0 then (none) else (if x3.length < 17592186044416 then (fO.l0 k x0 (x3 ++ [wrap64 (Int.tdiv (wrap64 (-t122)) x5)]) x4 (wrap64 (x5+1))) else (none)))))
end
def fO.f (k:Nat) (l0:List (List Int)):Option (List Int):=(kZ.f k (l0.length:Int)).bind fun t104=>(fO.l0 k l0 (([1]:List Int)) t104 1)
def fO.T9:Bool × List (List Nat × List Nat):=(true,[([],[]),([],[]),([0,1],[0,1]),([2],[2]),([],[]),([3,4],[3,4]),([5],[5]),([],[]),([],[]),([8],[8]),([7,9],[7,9]),([10],[10]),([6,11],[6,11]),([3,4,0,1,2,3,4,5,6,7,8,9,10,11,12],[3,4]),([13,12,0,1,2,3,4,5,6,7,8,9,10,11,12],[12,13])])
def fO.B9:List Nat:=[0,0,3,7,0,31,63,0,0,256,896,1920,4095,8191,16383]
theorem fO.afy:iP .any (opsOf Try.f132 9)=fO.T9:=by kernel_rfl
theorem fO.Xu:nA fO.T9.2 fO.B9=true:=by kernel_rfl
theorem fO.calls (k : Nat) (A0 : Option Addr) (c0 : Nat) (l0 : List (List Int)) (r : List Int) (w : World) (cY : Kd.C (Kd.slice 2 (Kd.int .i64)) w A0 l0.length l0) (hc0 : l0.length ≤ c0) (h : fO.f k l0 = some r) :
  Calls Try.prog 132 #[.slice A0 l0.length c0] w fun e w'=>∃ eE:Value,e=.returned (eE)∧Kd.R (Kd.int .i64) 2 w' w.heap.size (fun _=>True) eE r∧Below w.heap.size w w':=by
 have ek:=k0 cY
 have jx:=k0 hc0
 clear cY hc0
 have HB:=k0 (Below.refl w.heap.size w)
 have H:((kZ.f k (l0.length:Int)).bind fun t104=>(fO.l0 k l0 (([1]:List Int)) t104 1))=some r:=h
 clear h
 obtain ⟨iJ,j7⟩:∃ y_:List Int,y_=(([1]:List Int)):=⟨_,rfl⟩
 replace H:((kZ.f k (l0.length:Int)).bind fun t104=>(fO.l0 k l0 iJ t104 1))=some r:=rH j7 H
 have jX:=k0 j7
 clear j7
 replace H:=Option.bind_eq_some_iff.mp H
 obtain ⟨t104,fI,H⟩:=H
 replace H:(fO.l0 k l0 iJ t104 1)=some r:=H
 have A2:=k0 fI
 clear fI
 have H':=k0 H
 clear H
 go_enter Try.func132,Try.ntmps132
 go_wp2_with (first|((with_reducible refine bp (N:=7) rfl ?_);refine Kd.jr (Kd.int .i64) _ 2 ?hg (N:=7) ?hd (xs:=([1]:List Int)) (inner:=[.int .i64 1]) (ok:=fun _=>True) (b_:=fun _=>True) ?hr ?hp (fun _ hk=>hk) trivial (Below.refl _ _) (Nat.le_refl _) (by simp) ?_;(case hd=>rfl);(case hg=>rfl);(case hr=>first|(go_simp;done)|(go_simp;rfl));(case hp=>exact (bh.one (show Kd.M (Kd.int .i64) _ _ _ 1 [.int .i64 1] from rfl) (bh.none _ _)));intro o5 w3 nM hb cJ cK;clear cJ cK;(first|rw [← jX.z] at nM|(simp only [Int.reduceToNat] at nM;rw [← jX.z] at nM));have eJ:=k0 (Kd.cU nM (aoS bl));replace HB:=k0 (aH bl hb);clear hb nM)|((with_reducible refine bg (f:=204) rfl ?_);refine gC (some 10) Try.func204 #[.int .i64 (l0.length:Int)] ?_;(with_reducible refine (kZ.calls k (l0.length:Int) t104 _ A2.z).mono ?_);rintro e w5 ⟨v105,rfl,aD,hb⟩;refine ⟨_,rfl,?_⟩;have gp:=k0 (Kd.ig (Kd.kP aD (Kd.bT (aR eJ.z))) (aoS bl));replace eJ:=k0 (Kd.apn (aR eJ.z) hb);replace HB:=k0 (aH bl hb);))
 go_loopg [3,4,5] k (fun kq v3 v4 v5 w'=>∃ (cn:List Int) (cu:List (List Int)) (aY:Int),v5=.int .i64 aY∧aj (fO.l0 kq l0 cn cu aY=some r)∧aj (kq≤k)∧aj (Kd.R (Kd.int .i64) 2 w' w.heap.size (fun _=>True) v3 cn)∧aj (Kd.S (Kd.slice 2 (Kd.int .i64)) 28 w' w.heap.size (fun k_=>some k_ ≠ (v3:Value).ownBlock) v4 cu)∧aj (Below w.heap.size w w'))
 case atStart=>exact ⟨(iJ),(t104),(1),rs,H',⟨Nat.le_refl _⟩,⟨aR (eJ.z)⟩,⟨aS (Kd.bq gp.z (fun _ hk=>hk.2))⟩,⟨bl⟩⟩
 case round =>
  clear H'
  obtain ⟨cn,cu,aY,rfl,HA,bx,bC,bJ,HB⟩:=hrel
  cases gk with
  | zero=>exact absurd HA.z (by simp [fO.l0])
  | succ k1 =>
   have H:=HA.z
   clear HA
   simp only [fO.l0] at H
   by_cases c6:aY≤(l0.length:Int)
   case neg =>
    rw [if_neg c6] at H
    have kG:decide (aY≤(l0.length:Int))=false:=decide_eq_false c6
    clear c6
    replace H:=Option.bind_eq_some_iff.mp H
    obtain ⟨t107,NG,H⟩:=H
    replace H:(some t107)=some r:=H
    have fJ:=k0 NG
    clear NG
    obtain rfl:=Option.some.inj H
    obtain ⟨zg,uw,xk⟩:=Kd.dM bC.z
    subst xk
    go_wp2_with (first|((with_reducible refine bg (f:=168) rfl ?_);refine gC (some 51) Try.func168 #[.slice zg cn.length uw] ?_;(with_reducible refine (mK.calls k1 (fun k_=>some k_=(.slice zg cn.length uw:Value).ownBlock) _ _ cn t107 _ ?aoN fJ.z).mono ?_);(case aoN=>exact Kd.zG (Kd.mh rfl (Kd.iU (bC.z) (Kd.iE bJ.z) (by decide))));rintro e CQ ⟨vo,rfl,aD,hb⟩;refine ⟨_,rfl,?_⟩;replace bJ:=k0 (Kd.cC (aS bJ.z) (Kd.aU aD) hb);have eB:=k0 (Kd.cU (Kd.cT (Kd.aoY (ok':=fun k_=>True) aD (fun _ bZ=>trivial)) (Kd.bT (aR bC.z))) (aoS bl));replace bC:=k0 (Kd.ao9 (aR bC.z) (Kd.aU aD) hb);replace HB:=k0 (aH bl hb);))
    go_ret
    exact ⟨_,eR,by (with_reducible repeat (first|apply Kd.dK|apply Kd.dD|apply Kd.cB));exact Kd.aoY eB.z (fun _ hk=>trivial),bl⟩
   rw [if_pos c6] at H
   have kG:=decide_eq_true c6
   clear c6
   replace H:=Option.bind_eq_some_iff.mp H
   obtain ⟨t110,nE,H⟩:=H
   replace H:(fO.l1 k1 l0 cn t110 aY (t110.length:Int) 0)=some r:=H
   have A7:=k0 nE
   clear nE
   have H':=k0 H
   clear H
   obtain ⟨aqq,yq,D_⟩:=Kd.apc bJ.z
   subst D_
   go_wp2_with (first|((with_reducible refine bg (f:=205) rfl ?_);refine gC (some 19) Try.func205 #[.slice A0 l0.length c0,.slice aqq cu.length yq] ?_;(with_reducible refine (apj.calls k1 _ _ l0 _ _ cu t110 _ ?aoN ?aoP ?bA ?bH A7.z).mono ?_);(case aoN=>exact aC (Kd.ao4 ek.z HB.z));(case aoP=>exact jx.z);(case bA=>exact aC ((Kd.cQ bJ.z).2.2));(case bH=>exact (Kd.cQ bJ.z).2.1);rintro e w9 ⟨jF,rfl,aD,hb⟩;refine ⟨_,rfl,?_⟩;have rS:=k0 (Kd.ig (Kd.kP (Kd.kP aD (Kd.bT (aR bC.z))) (Kd.ap6 (aS bJ.z))) (aoS bl));replace bC:=k0 (Kd.apn (aR bC.z) hb);replace bJ:=k0 (Kd.cC (aS bJ.z) (Kd.nZ aD) hb);replace HB:=k0 (aH bl hb);obtain ⟨jl,ju,zW⟩:=Kd.apc rS.z;subst zW))
   go_loopg [22] k1 (fun kq v22 w'=>∃ (bS:List Int) (eY:List (List Int)) (apg:Int),v22=.int .i64 apg∧aj (fO.l1 kq l0 bS eY aY (t110.length:Int) apg=some r)∧aj (kq≤k1)∧aj (Kd.R (Kd.int .i64) 2 w' w.heap.size (fun _=>True) u3 bS)∧aj (Kd.S (Kd.slice 2 (Kd.int .i64)) 28 w' w.heap.size (fun k_=>some k_ ≠ (u3:Value).ownBlock) (.slice jl t110.length ju) eY)∧aj (Below w.heap.size w w'))
   case atStart=>exact ⟨(cn),(t110),(0),rs,H',⟨Nat.le_refl _⟩,⟨aR (bC.z)⟩,⟨aS (Kd.bq rS.z (fun _ hk=>hk.1.2))⟩,⟨bl⟩⟩
   case round =>
    clear H'
    obtain ⟨bS,eY,apg,rfl,HA,cD,bC,bJ,HB⟩:=hrel
    have rF:=(Kd.cQ bJ.z).1
    rw [rF] at bJ
    (try simp only [rF])
    (try simp only [rF] at bC)
    cases gk with
    | zero=>exact absurd HA.z (by simp [fO.l1])
    | succ k2 =>
     have H:=HA.z
     clear HA
     simp only [fO.l1] at H
     by_cases c11:apg < (t110.length:Int)
     case neg =>
      rw [if_neg c11] at H
      have ku:decide (apg < (t110.length:Int))=false:=decide_eq_false c11
      (try simp only [rF] at ku)
      clear c11
      replace H:=Option.bind_eq_some_iff.mp H
      obtain ⟨t119,apS,H⟩:=H
      replace H:((oC.f k2 t119).bind fun t122=>(if aY=0 then (none) else (if bS.length < 17592186044416 then (fO.l0 k2 l0 (bS ++ [wrap64 (Int.tdiv (wrap64 (-t122)) aY)]) eY (wrap64 (aY+1))) else (none))))=some r:=H
      have vC:=k0 apS
      clear apS
      replace H:=Option.bind_eq_some_iff.mp H
      obtain ⟨t122,xW,H⟩:=H
      replace H:(if aY=0 then (none) else (if bS.length < 17592186044416 then (fO.l0 k2 l0 (bS ++ [wrap64 (Int.tdiv (wrap64 (-t122)) aY)]) eY (wrap64 (aY+1))) else (none)))=some r:=H
      have Bd:=k0 xW
      clear xW
      by_cases c25:aY=0
      case neg =>
       rw [if_neg c25] at H
       have Gj:(aY == 0)=false:=beq_eq_false_iff_ne.mpr c25
       have Pz:(aY != 0)=true:=bne_iff_ne.mpr c25
       replace H:=iS H;obtain ⟨c26,H⟩:=H
       have Jv:=k0 c26
       clear c26
       obtain ⟨Fz,Ay⟩:∃ y_:List Int,y_=(bS ++ [wrap64 (Int.tdiv (wrap64 (-t122)) aY)]):=⟨_,rfl⟩
       replace H:(fO.l0 k2 l0 Fz eY (wrap64 (aY+1)))=some r:=rH Ay H
       have JC:=k0 Ay
       clear Ay
       have H':=k0 H
       clear H
       go_wp2_with (first|((with_reducible refine bg (f:=205) rfl ?_);refine gC (some 43) Try.func205 #[.slice A0 l0.length c0,.slice jl eY.length ju] ?_;(with_reducible refine (apj.calls k2 _ _ l0 _ _ eY t119 _ ?aoN ?aoP ?bA ?bH vC.z).mono ?_);(case aoN=>exact aC (Kd.ao4 ek.z HB.z));(case aoP=>exact jx.z);(case bA=>exact aC ((Kd.cQ bJ.z).2.2));(case bH=>exact (Kd.cQ bJ.z).2.1);rintro e xG ⟨Ii,rfl,aD,hb⟩;refine ⟨_,rfl,?_⟩;have jW:=k0 (Kd.ig (Kd.kP (Kd.kP aD (Kd.bT (aR bC.z))) (Kd.ap6 (aS bJ.z))) (aoS bl));replace bC:=k0 (Kd.apn (aR bC.z) hb);replace bJ:=k0 (Kd.cC (aS bJ.z) (Kd.nZ aD) hb);replace HB:=k0 (aH bl hb);obtain ⟨C7,r7,xj⟩:=Kd.apc jW.z;subst xj)|((with_reducible refine bg (f:=206) rfl ?_);refine gC (some 44) Try.func206 #[.slice C7 t119.length r7] ?_;(with_reducible refine (oC.calls k2 _ _ t119 t122 _ ?aoN ?aoP Bd.z).mono ?_);(case aoN=>exact aC ((Kd.cQ jW.z).2.2));(case aoP=>exact (Kd.cQ jW.z).2.1);rintro e w' ⟨rfl,⟨nd,rfl⟩⟩;refine ⟨_,rfl,?_⟩)|((with_reducible refine kQ (b:=.append) (xs:=#[.tmp 40,.tmp 48]) rfl ?_);at_builtin;refine Kd.p9 (Kd.int .i64) (w0:=w) w.heap.size rfl (.tmp 40) (.tmp 48) 28 2 (.int .i64 0) 8 rfl Try.underlying28 mR rfl (by decide) (by omega) u3 bS (wrap64 (Int.tdiv (wrap64 (-t122)) aY)) [.int .i64 (wrap64 (Int.tdiv (wrap64 (-t122)) aY))] (fun _=>True) (fun _=>False) rfl rfl ?aP (fun _ hk=>hk.elim) ?aF ?aO ?aB ?aS ?aL ?_;(case aP=>exact rfl);(case aB=>exact bl);(case aF=>exact (fun _ _=>trivial));(case aO=>exact (aR bC.z));(case aS=>exact (aoS bl));(case aL=>have:=Jv.out;omega);intro v124 Nq ho hb hg ao1;rw [← JC.z] at ho;have aq:=k0 (Kd.apW (ok:=(fun k_=>some k_ ≠ (.slice C7 t119.length r7:Value).ownBlock)) (by (with_reducible repeat (first|apply Kd.cM|apply Kd.cI|apply Kd.cr));exact Kd.bq bJ.z (fun _ hk=>⟨hk.2,hk.1⟩)) hg ao1);have au:=k0 (Kd.apW (ok:=(fun k_=>some k_ ≠ (.slice jl eY.length ju:Value).ownBlock)) (by (with_reducible repeat (first|apply Kd.cM|apply Kd.cI|apply Kd.cr));exact Kd.bq jW.z (fun _ hk=>⟨hk.2,hk.1.2⟩)) hg ao1);have ax:=k0 (hb);have aA:=k0 (ho);clear bJ;clear jW;clear HB;clear bC;have bJ:=aq;have jW:=au;have HB:=ax;have ei:=aA;clear aq au ax aA;clear ho hb hg ao1))
       (try simp only [← rF])
       first|go_roundg k2|(simp only [← Ae];go_roundg k2)
       case measure=>have:=bx.z;have:=cD.z;omega
       case rel=>exact ⟨(Fz),(eY),(wrap64 (aY+1)),rs,(by first|exact H'|(rw [Ae];exact H')),⟨by have:=bx.z;have:=cD.z;omega⟩,⟨by (try simp only [rF]);(with_reducible repeat (first|apply Kd.dK|apply Kd.dD|apply Kd.cB));exact ei.z⟩,⟨by (try simp only [rF]);(with_reducible repeat (first|apply Kd.cM|apply Kd.cI|apply Kd.cr));exact Kd.bq bJ.z (fun _ hk=>hk.2)⟩,⟨bl⟩⟩
      rw [if_pos c25] at H
      exact absurd H (by simp)
     rw [if_pos c11] at H
     have ku:=decide_eq_true c11
     (try simp only [rF] at ku)
     clear c11
     replace H:=iS H;obtain ⟨c12,H⟩:=H
     have qJ:=decide_eq_true c12
     clear c12
     replace H:=iS H;obtain ⟨c13,H⟩:=H
     have ru:=decide_eq_true c13
     (try simp only [rF] at ru)
     clear c13
     replace H:=iS H;obtain ⟨c14,H⟩:=H
     have pJ:=decide_eq_true c14
     (try simp only [rF] at pJ)
     clear c14
     obtain ⟨tr,Ae⟩:∃ j_:Int,(wrap64 (aY - 1))=j_:=⟨_,rfl⟩
     replace H:(if 0≤(tr) then (if (tr) < (bS.length:Int) then (fO.l1 k2 l0 bS (eY.set (apg:Int).toNat ((av eY apg).set (apg:Int).toNat (wrap64 ((rd (av eY apg) apg)+(rd bS (tr)))))) aY (t110.length:Int) (wrap64 (apg+1))) else (none)) else (none))=some r:=by first|(rw [Ae] at H;exact H)|(simp only [Ae] at H ⊢;exact H)
     have al7:(IntKind.i64.wrap (aY - 1))=tr:=(cm _).trans Ae
     replace H:=iS H;obtain ⟨c16,H⟩:=H
     have qK:=decide_eq_true c16
     clear c16
     replace H:=iS H;obtain ⟨c17,H⟩:=H
     have ur:=decide_eq_true c17
     (try simp only [rF] at ur)
     clear c17
     obtain ⟨qv,qW⟩:∃ y_:List Int,y_=((av eY apg).set (apg:Int).toNat (wrap64 ((rd (av eY apg) apg)+(rd bS (tr))))):=⟨_,rfl⟩
     replace H:(fO.l1 k2 l0 bS (eY.set (apg:Int).toNat qv) aY (t110.length:Int) (wrap64 (apg+1)))=some r:=rH qW H
     have aqk:=k0 qW
     clear qW
     obtain ⟨sL,uR⟩:∃ y_:List (List Int),y_=(eY.set (apg:Int).toNat qv):=⟨_,rfl⟩
     replace H:(fO.l1 k2 l0 bS sL aY (t110.length:Int) (wrap64 (apg+1)))=some r:=rH uR H
     have DA:=k0 uR
     clear uR
     have H':=k0 H
     clear H
     try go_wp2
     replace bC:=k0 (Kd.cB bC.z);replace bJ:=k0 (Kd.cr bJ.z);replace HB:=k0 (aZ HB.z)
     have HV:0≤(apg:Int):=oD
     have aq8:apg < (eY.length:Int):=oD
     obtain ⟨arh,af5,XG,e113,Ht,RX,RP⟩:=fW (Kd.cQ bJ.z).2.2 apg HV aq8
     cases e113
     obtain ⟨ahq,aai,Z9,QZ⟩:=Kd.vS bJ.z [] apg HV (by first|exact aq8|exact oD|(have e_:=(Kd.cQ bJ.z).1;omega))
     obtain ⟨aop,rfl,Kn⟩:=Z9
     have E0:=QZ 0 _ rfl
     rw [Nat.add_zero,show ((Kd.slice 2 (Kd.int .i64))).sz=1 from rfl,Nat.mul_one] at E0
     replace E0:=Option.some.inj (E0.symm.trans Ht)
     rw [E0] at Kn
     have FT:=k0 (show Kd.R (Kd.int .i64) 2 _ _ _ _ (av eY apg) from Kn)
     clear E0 Kn
     have Jp:=k0 Ht
     clear QZ aai
     have Jk:=k0 RP
     have agF:=k0 RX
     clear RP RX
     replace HV:=eq_true HV
     replace aq8:=eq_true aq8
     have AJ:0≤(apg:Int):=oD
     have AO:apg < ((av eY apg).length:Int):=oD
     obtain ⟨W3,e114,At⟩:=Kd.cN (by repeat (first|(with_reducible exact Jk.z)|(with_reducible refine Kd.wL ?_ _)|(with_reducible refine Kd.zh ?_ _)|(with_reducible refine Kd.vG ?_)|exact Jk.z)) apg AJ AO
     cases e114
     replace AJ:=eq_true AJ
     replace AO:=eq_true AO
     obtain ⟨C6,BH,xh⟩:=Kd.dM bC.z
     (first|subst xh|(injection xh with gv apr gw;have j4:=gv.symm;have j5:=gw.symm;clear gv apr gw;subst j4;subst j5))
     have qZ:0≤((tr):Int):=oD
     have apO:(tr) < (bS.length:Int):=oD
     obtain ⟨By,e115,uO⟩:=Kd.cN (Kd.cx bC.z).2.2 (tr) qZ apO
     cases e115
     replace qZ:=eq_true qZ
     replace apO:=eq_true apO
     have MB:0≤(apg:Int):=oD
     have MW:(apg:Int) < (((av eY apg).length:Int):Int):=oD
     obtain ⟨Kq,vY,uB,QE,ZS,ahw,Og⟩:=Kd.aql FT.z (by omega)
     (first|cases uB|(injection uB with er apw apv;(first|subst er|(injection er with er;subst er));subst apv;clear apw))
     (first|simp only [add_plain] at At|skip)
     have agm:=k0 QE
     have Vz:=k0 Og
     clear QE ZS Og
     (first|simp only [add_plain] at At|skip)
     obtain ⟨ac3,aa8⟩:=Kd.vR 0 FT.z (apg:Int) MB MW
     replace MB:=eq_true MB
     replace MW:=eq_true MW
     have ET:(apg:Int) < (eY.length:Int):=(by have h_:(apg:Int) < ((eY.length:Int):Int):=oD;first|exact h_|(have e_:=(Kd.cQ bJ.z).1;omega)|simpa only [List.length_set,List.length_set] using h_)
     obtain ⟨Mo,PI,Ep,El,yz,xu,yx⟩:=Kd.DF bJ.z [] (apg:Int) oD (by first|exact ET|(have e_:=(Kd.cQ bJ.z).1;omega))
     obtain ⟨Uc,rfl,pL⟩:=El
     have rJ:=yz 0 _ rfl
     rw [Nat.add_zero,show ((Kd.slice 2 (Kd.int .i64))).sz=1 from rfl,Nat.mul_one] at rJ
     replace rJ:=Option.some.inj (rJ.symm.trans Jp.z)
     subst rJ
     clear yz Ep
     replace pL:=(show Kd.R (Kd.int .i64) 2 _ _ _ _ (av eY apg) from pL)
     have pn:=Kd.zH pL (apg:Int) (wrap64 ((rd (av eY apg) apg)+(rd bS (tr))))
     have Dp:=k0 (zQ pn.2 Jp.z (DV (xu _ (pL.1 _ rfl)).2))
     rw [← aqk.z] at pn
     have VR:=k0 pn.1
     have zy:=yx pn.2 (fun k_ e_=>by injection e_ with e_;subst e_;exact pL.1 _ rfl) (x':=qv) (Kd.apB pn.1)
     rw [← DA.z] at zy
     have Dn:=k0 zy
     clear pn zy yx xu
     refine apA (n:=15) (S:=fun w'=>w'.cell? (arh.add (apg).toNat)=some (.slice (some ⟨Kq,0,none⟩) (av eY apg).length XG)∧w'.cell? ⟨Kq,(apg).toNat,none⟩=some (.int .i64 (rd (av eY apg) apg))∧w'.cell? (By.add ((tr)).toNat)=some (.int .i64 (rd bS (tr)))) (ds:=[14]) (ba 15 0) (by kernel_rfl) rfl rfl ⟨Ht,At,uO⟩ (fun hHeld=>?_);refine nB fO.afy fO.Xu (fun az dA=>?_)
     generalize wr.drew=CM at bC bJ HB Vz FT Dn Jk Jp Dp aa8 Ht At uO ac3 hHeld ⊢
     refine pu 0 (some 25) (ba 15 1) az (h:=?_)
     refine pu 1 (some 26) (ba 15 3) az (h:=?_)
     refine pu 2 (some 27) (ba 15 7) az (h:=?_)
     refine pu 4 (some 29) (ba 15 23) az (h:=?_)
     refine pu 7 (some 32) (ba 15 151) az (h:=?_)
     refine pu 8 (some 33) (ba 15 407) az (h:=?_)
     refine pu 9 (some 34) (ba 15 919) az (h:=?_)
     refine pu 10 (some 35) (ba 15 1943) az (h:=?_)
     refine ta 3 (some 28) (ba 15 1951) az dA hHeld (hy:=Or.inl ⟨by rfl,by rintro w' ⟨s0,s1,s2⟩;go_simp;with_reducible rfl⟩) (h:=?_)
     refine pu 5 (some 30) (ba 15 1983) az (h:=?_)
     refine ta 6 (some 31) (ba 15 2047) az dA hHeld (hy:=Or.inl ⟨by rfl,by rintro w' ⟨s0,s1,s2⟩;go_simp;with_reducible rfl⟩) (h:=?_)
     refine ta 11 (some 36) (ba 15 4095) az dA hHeld (hy:=Or.inl ⟨by rfl,by rintro w' ⟨s0,s1,s2⟩;go_simp;with_reducible rfl⟩) (h:=?_)
     refine pu 12 (some 37) (ba 15 8191) az (h:=?_)
     refine pu 13 (some 38) (ba 15 16383) az (h:=?_)
     refine uW (i:=14) (N:=none) (ba 15 32767) rfl rfl (hO az.out (by kernel_rfl)) (by decide) (fun K hK=>?_)
     refine tG (w1:=?_) (by rfl) rfl ?_ ?_
     rotate_left;· go_simp;rfl
     refine hK.out _ _ ?_
     clear hK K
     refine lY (nj az.out (by kernel_rfl)) ?_
     try go_wp2
     (try simp only [← rF])
     first|go_roundg k2|(simp only [← Ae];go_roundg k2)
     case measure=>have:=bx.z;have:=cD.z;omega
     case rel=>exact ⟨(bS),(sL),(wrap64 (apg+1)),rs,(by first|exact H'|(rw [Ae];exact H')),⟨by have:=bx.z;have:=cD.z;omega⟩,⟨by (try simp only [rF]);(with_reducible repeat (first|apply Kd.dK|apply Kd.dD|apply Kd.cB));exact Kd.aoY (Kd.F4 (p:=⟨Kq,(apg:Int).toNat,none⟩) (Kd.WL bC.z rfl ((FT.z.1 _ rfl).1)) (fun _ hk=>hk.2) (.int .i64 (wrap64 ((rd (av eY apg) apg)+(rd bS (tr)))))) (fun _ hk=>trivial)⟩,⟨by (try simp only [rF]);(with_reducible repeat (first|apply Kd.cM|apply Kd.cI|apply Kd.cr));exact Dn.out⟩,⟨aL HB.z⟩⟩
/-! ### F219: function 219 -/
def vH.f (ah:Int) (af:List (List Int)) (a1:Int):Option (Int × Int):=if 0≤(wrap64 (Int.tdiv a1 2)) then (if (wrap64 (Int.tdiv a1 2)) < (af.length:Int) then (if 0≤(Int.tmod a1 2) then (if (Int.tmod a1 2) < ((av af (wrap64 (Int.tdiv a1 2))).length:Int) then (if 0≤(wrap64 (1 - (Int.tmod a1 2))) then (if (wrap64 (1 - (Int.tmod a1 2))) < ((av af (wrap64 (Int.tdiv a1 2))).length:Int) then (some (rd (av af (wrap64 (Int.tdiv a1 2))) (Int.tmod a1 2),rd (av af (wrap64 (Int.tdiv a1 2))) (wrap64 (1 - (Int.tmod a1 2))))) else (none)) else (none)) else (none)) else (none)) else (none)) else (none)
theorem vH.calls (ah : Int) (aT : Option Addr) (aoW : Nat) (af : List (List Int)) (a1 : Int) (r1 : Int) (r2 : Int) (w : World) (cR : Kd.C (Kd.slice 2 (Kd.int .i64)) w aT af.length af) (cX : af.length ≤ aoW) (h : vH.f ah af a1 = some (r1, r2)) :
  Calls Try.prog 219 #[.agg #[.int .i64 ah,.slice aT af.length aoW],.int .i64 a1] w fun e w'=>e=.returned (.tuple #[.int .i64 r1,.int .i64 r2])∧Below w.heap.size w w':=by
 have iX:=Try.underlying31
 have ao6:=k0 cR
 have cV:=k0 cX
 clear cR cX
 have HB:=k0 (Below.refl w.heap.size w)
 have H:(if 0≤(wrap64 (Int.tdiv a1 2)) then (if (wrap64 (Int.tdiv a1 2)) < (af.length:Int) then (if 0≤(Int.tmod a1 2) then (if (Int.tmod a1 2) < ((av af (wrap64 (Int.tdiv a1 2))).length:Int) then (if 0≤(wrap64 (1 - (Int.tmod a1 2))) then (if (wrap64 (1 - (Int.tmod a1 2))) < ((av af (wrap64 (Int.tdiv a1 2))).length:Int) then (some (rd (av af (wrap64 (Int.tdiv a1 2))) (Int.tmod a1 2),rd (av af (wrap64 (Int.tdiv a1 2))) (wrap64 (1 - (Int.tmod a1 2))))) else (none)) else (none)) else (none)) else (none)) else (none)) else (none))=some (r1,r2):=h
 clear h
 obtain ⟨bQ,lN⟩:∃ j_:Int,(wrap64 (Int.tdiv a1 2))=j_:=⟨_,rfl⟩
 replace H:(if 0≤(bQ) then (if (bQ) < (af.length:Int) then (if 0≤(Int.tmod a1 2) then (if (Int.tmod a1 2) < ((av af (bQ)).length:Int) then (if 0≤(wrap64 (1 - (Int.tmod a1 2))) then (if (wrap64 (1 - (Int.tmod a1 2))) < ((av af (bQ)).length:Int) then (some (rd (av af (bQ)) (Int.tmod a1 2),rd (av af (bQ)) (wrap64 (1 - (Int.tmod a1 2))))) else (none)) else (none)) else (none)) else (none)) else (none)) else (none))=some (r1,r2):=by first|(rw [lN] at H;exact H)|(simp only [lN] at H ⊢;exact H)
 have Lr:(IntKind.i64.wrap (Int.tdiv a1 2))=bQ:=(cm _).trans lN
 replace H:=iS H;obtain ⟨c4,H⟩:=H
 have fX:=decide_eq_true c4
 clear c4
 replace H:=iS H;obtain ⟨c5,H⟩:=H
 have jt:=decide_eq_true c5
 clear c5
 obtain ⟨oU,Ls⟩:∃ j_:Int,(Int.tmod a1 2)=j_:=⟨_,rfl⟩
 replace H:(if 0≤(oU) then (if (oU) < ((av af (bQ)).length:Int) then (if 0≤(wrap64 (1 - (oU))) then (if (wrap64 (1 - (oU))) < ((av af (bQ)).length:Int) then (some (rd (av af (bQ)) (oU),rd (av af (bQ)) (wrap64 (1 - (oU))))) else (none)) else (none)) else (none)) else (none))=some (r1,r2):=by first|(rw [Ls] at H;exact H)|(simp only [Ls] at H ⊢;exact H)
 replace H:=iS H;obtain ⟨c7,H⟩:=H
 have oO:=decide_eq_true c7
 clear c7
 replace H:=iS H;obtain ⟨c8,H⟩:=H
 have kH:=decide_eq_true c8
 clear c8
 obtain ⟨nt,uI⟩:∃ j_:Int,(wrap64 (1 - (oU)))=j_:=⟨_,rfl⟩
 replace H:(if 0≤(nt) then (if (nt) < ((av af (bQ)).length:Int) then (some (rd (av af (bQ)) (oU),rd (av af (bQ)) (nt))) else (none)) else (none))=some (r1,r2):=by first|(rw [uI] at H;exact H)|(simp only [uI] at H ⊢;exact H)
 have abV:(IntKind.i64.wrap (1 - (oU)))=nt:=(cm _).trans uI
 replace H:=iS H;obtain ⟨c10,H⟩:=H
 have qI:=decide_eq_true c10
 clear c10
 replace H:=iS H;obtain ⟨c11,H⟩:=H
 have ku:=decide_eq_true c11
 clear c11
 simp only [Option.some.injEq,Prod.mk.injEq] at H
 obtain ⟨rfl,rfl⟩:=H
 go_enter Try.func219,Try.ntmps219
 go_wp2_with (first|((with_reducible refine bp (N:=2) rfl ?_);refine bR 2 #[.int .i64 ah,.slice aT af.length aoW] 31 ?_;intro aoV hg vq aE hb;have aa:=k0 (aE);have bB:=gW hg (aoS bl);have aX:=bB;replace HB:=k0 (aH bl hb);clear hb aE hg;have xm:=aQ aa;have yA:=aoT aa;have xo:=bF aa 0;have yD:=bF aa 1;have dF:0≤((bQ):Int):=oD;have dG:(bQ) < (af.length:Int):=oD;obtain ⟨nh,vA,vX,e102,gO,jM,jK⟩:=fW ao6.z (bQ) dF dG;cases e102;replace gO:=hbc HB gO;have jq:=k0 jK;have apK:=k0 jM;clear jK jM;replace dF:=eq_true dF;replace dG:=eq_true dG;have eU:0≤((oU):Int):=oD;have eV:(oU) < ((av af (bQ)).length:Int):=oD;obtain ⟨lJ,e103,fF⟩:=Kd.cN jq.z (oU) eU eV;cases e103;replace fF:=hbc HB fF;replace eU:=eq_true eU;replace eV:=eq_true eV;have dR:0≤((nt):Int):=oD;have dS:(nt) < ((av af (bQ)).length:Int):=oD;obtain ⟨jY,e104,dY⟩:=Kd.cN jq.z (nt) dR dS;obtain rfl:lJ=jY:=(by injection e104);replace dY:=hbc HB dY;replace dR:=eq_true dR;replace dS:=eq_true dS))
 repeat (go_quiet (first|((with_reducible refine bp (N:=2) rfl ?_);refine bR 2 #[.int .i64 ah,.slice aT af.length aoW] 31 ?_;intro aoV hg vq aE hb;have aa:=k0 (aE);have bB:=gW hg (aoS bl);have aX:=bB;replace HB:=k0 (aH bl hb);clear hb aE hg;have xm:=aQ aa;have yA:=aoT aa;have xo:=bF aa 0;have yD:=bF aa 1;have dF:0≤((bQ):Int):=oD;have dG:(bQ) < (af.length:Int):=oD;obtain ⟨nh,vA,vX,e102,gO,jM,jK⟩:=fW ao6.z (bQ) dF dG;cases e102;replace gO:=hbc HB gO;have jq:=k0 jK;have apK:=k0 jM;clear jK jM;replace dF:=eq_true dF;replace dG:=eq_true dG;have eU:0≤((oU):Int):=oD;have eV:(oU) < ((av af (bQ)).length:Int):=oD;obtain ⟨lJ,e103,fF⟩:=Kd.cN jq.z (oU) eU eV;cases e103;replace fF:=hbc HB fF;replace eU:=eq_true eU;replace eV:=eq_true eV;have dR:0≤((nt):Int):=oD;have dS:(nt) < ((av af (bQ)).length:Int):=oD;obtain ⟨jY,e104,dY⟩:=Kd.cN jq.z (nt) dR dS;obtain rfl:lJ=jY:=(by injection e104);replace dY:=hbc HB dY;replace dR:=eq_true dR;replace dS:=eq_true dS));try go_wp2_with (first|((with_reducible refine bp (N:=2) rfl ?_);refine bR 2 #[.int .i64 ah,.slice aT af.length aoW] 31 ?_;intro aoV hg vq aE hb;have aa:=k0 (aE);have bB:=gW hg (aoS bl);have aX:=bB;replace HB:=k0 (aH bl hb);clear hb aE hg;have xm:=aQ aa;have yA:=aoT aa;have xo:=bF aa 0;have yD:=bF aa 1;have dF:0≤((bQ):Int):=oD;have dG:(bQ) < (af.length:Int):=oD;obtain ⟨nh,vA,vX,e102,gO,jM,jK⟩:=fW ao6.z (bQ) dF dG;cases e102;replace gO:=hbc HB gO;have jq:=k0 jK;have apK:=k0 jM;clear jK jM;replace dF:=eq_true dF;replace dG:=eq_true dG;have eU:0≤((oU):Int):=oD;have eV:(oU) < ((av af (bQ)).length:Int):=oD;obtain ⟨lJ,e103,fF⟩:=Kd.cN jq.z (oU) eU eV;cases e103;replace fF:=hbc HB fF;replace eU:=eq_true eU;replace eV:=eq_true eV;have dR:0≤((nt):Int):=oD;have dS:(nt) < ((av af (bQ)).length:Int):=oD;obtain ⟨jY,e104,dY⟩:=Kd.cN jq.z (nt) dR dS;obtain rfl:lJ=jY:=(by injection e104);replace dY:=hbc HB dY;replace dR:=eq_true dR;replace dS:=eq_true dS)))
 go_ret2
 exact ⟨by first|rfl|(simp [je,jf]<;>rfl)|(simp only [← lN,← Ls,← uI];first|rfl|(simp [je,jf]<;>rfl))|(simp [*,je,jf]<;>rfl),bl⟩
/-! ### F170: function 170 -/
mutual
def gZ.l0 : Nat → List (List Int) → Int → Int → Int → List (List Int) → Option ((List (List Int)))
 | 0,_,_,_,_,_=>none
 | k+1,x3,iA,jb,fG,eH=>if jb < iA then ((vH.f fG eH jb).bind fun Xy=>((jU.f fG eH).bind fun t109=>(gZ.l1 k x3 jb Xy.2 iA jb (wrap64 (2 * t109)) 0 fG eH))) else (some x3)
def gZ.l1 : Nat → List (List Int) → Int → Int → Int → Int → Int → Int → Int → List (List Int) → Option ((List (List Int)))
 | 0,_,_,_,_,_,_,_,_,_=>none
 | k+1,x3,x4,x6,iA,jb,Iu,xM,fG,eH=>if xM < Iu then ((vH.f fG eH xM).bind fun gT=>(if gT.1=x6 then (if xM=(Go.bits .xor .i64 x4 1) then (gZ.l1 k x3 x4 x6 iA jb Iu (wrap64 (xM+1)) fG eH) else (if 0≤x4 then (if x4 < (x3.length:Int) then (if 0≤xM then (if xM < ((av x3 x4).length:Int) then (gZ.l1 k (x3.set (x4:Int).toNat ((av x3 x4).set (xM:Int).toNat 1)) x4 x6 iA jb Iu (wrap64 (xM+1)) fG eH) else (none)) else (none)) else (none)) else (none))) else (gZ.l1 k x3 x4 x6 iA jb Iu (wrap64 (xM+1)) fG eH))) else (gZ.l0 k x3 iA (wrap64 (jb+1)) fG eH)
end
def gZ.f (k:Nat) (ah:Int) (af:List (List Int)):Option ((List (List Int))):=(jU.f ah af).bind fun t102=>((kZ.f k (wrap64 (2 * t102))).bind fun t103=>((jU.f ah af).bind fun t106=>(gZ.l0 k t103 (wrap64 (2 * t106)) 0 ah af)))
theorem gZ.calls (k : Nat) (ah : Int) (aT : Option Addr) (aoW : Nat) (af : List (List Int)) (r : List (List Int)) (w : World) (cR : Kd.C (Kd.slice 2 (Kd.int .i64)) w aT af.length af) (cX : af.length ≤ aoW) (h : gZ.f k ah af = some r) :
  Calls Try.prog 170 #[.agg #[.int .i64 ah,.slice aT af.length aoW]] w fun e w'=>∃ eE:Value,e=.returned (eE)∧Kd.S (Kd.slice 2 (Kd.int .i64)) 28 w' w.heap.size (fun _=>True) eE r∧Below w.heap.size w w':=by
 have iX:=Try.underlying31
 have ao6:=k0 cR
 have cV:=k0 cX
 clear cR cX
 have HB:=k0 (Below.refl w.heap.size w)
 have H:((jU.f ah af).bind fun t102=>((kZ.f k (wrap64 (2 * t102))).bind fun t103=>((jU.f ah af).bind fun t106=>(gZ.l0 k t103 (wrap64 (2 * t106)) 0 ah af))))=some r:=h
 clear h
 replace H:=Option.bind_eq_some_iff.mp H
 obtain ⟨t102,fI,H⟩:=H
 replace H:((kZ.f k (wrap64 (2 * t102))).bind fun t103=>((jU.f ah af).bind fun t106=>(gZ.l0 k t103 (wrap64 (2 * t106)) 0 ah af)))=some r:=H
 have A2:=k0 fI
 clear fI
 replace H:=Option.bind_eq_some_iff.mp H
 obtain ⟨t103,fJ,H⟩:=H
 replace H:((jU.f ah af).bind fun t106=>(gZ.l0 k t103 (wrap64 (2 * t106)) 0 ah af))=some r:=H
 have A3:=k0 fJ
 clear fJ
 replace H:=Option.bind_eq_some_iff.mp H
 obtain ⟨t106,fu,H⟩:=H
 replace H:(gZ.l0 k t103 (wrap64 (2 * t106)) 0 ah af)=some r:=H
 have A4:=k0 fu
 clear fu
 have H':=k0 H
 clear H
 go_enter Try.func170,Try.ntmps170
 go_wp2_with (first|((with_reducible refine bp (N:=1) rfl ?_);refine bR 1 #[.int .i64 ah,.slice aT af.length aoW] 31 ?_;intro aoV hg w5 aE hb;have aa:=k0 (aE);have bB:=gW hg (aoS bl);have aX:=bB;replace HB:=k0 (aH bl hb);clear hb aE hg;have Ri:=aQ aa;have Rj:=aoT aa;have RD:=bF aa 0;have RE:=bF aa 1)|((with_reducible refine bg (f:=163) rfl ?_);refine gC (some 11) Try.func163 #[.agg #[.int .i64 ah,.slice aT af.length aoW]] ?_;(with_reducible refine (jU.calls ah _ _ af t102 _ ?aoN ?aoP A2.z).mono ?_);(case aoN=>exact aC (Kd.ao4 ao6.z HB.z));(case aoP=>exact cV.z);rintro e w7 ⟨rfl,hb⟩;refine ⟨_,rfl,?_⟩;replace aa:=kB aa hb;replace HB:=k0 (aH bl hb);)|((with_reducible refine bg (f:=204) rfl ?_);refine gC (some 13) Try.func204 #[.int .i64 (wrap64 (2 * t102))] ?_;(with_reducible refine (kZ.calls k (wrap64 (2 * t102)) t103 _ A3.z).mono ?_);rintro e w8 ⟨tI,rfl,aD,hb⟩;refine ⟨_,rfl,?_⟩;have apd:=k0 (Kd.ig aD (aoS bl));replace aa:=kB aa hb;replace HB:=k0 (aH bl hb);have v_:=aQ aa;have we:=aoT aa;have xp:=bF aa 0;have wh:=bF aa 1)|((with_reducible refine bg (f:=163) rfl ?_);refine gC (some 15) Try.func163 #[.agg #[.int .i64 ah,.slice aT af.length aoW]] ?_;(with_reducible refine (jU.calls ah _ _ af t106 _ ?aoN ?aoP A4.z).mono ?_);(case aoN=>exact aC (Kd.ao4 ao6.z HB.z));(case aoP=>exact cV.z);rintro e mH ⟨rfl,hb⟩;refine ⟨_,rfl,?_⟩;replace apd:=k0 (Kd.gB (aS apd.z) hb);replace aa:=kB aa hb;replace HB:=k0 (aH bl hb);))
 go_loopg [17] k (fun kq Nl w'=>∃ (cn:List (List Int)) (ck:Int),Nl=.int .i64 ck∧aj (gZ.l0 kq cn (wrap64 (2 * t106)) ck ah af=some r)∧aj (kq≤k)∧aj (Kd.S (Kd.slice 2 (Kd.int .i64)) 28 w' w.heap.size (fun _=>True) tI cn)∧aj (w'.heap[aoV]?=some (sO ah aT af aoW 31))∧aj (Below w.heap.size w w'))
 case atStart=>exact ⟨(t103),(0),rs,H',⟨Nat.le_refl _⟩,⟨aS (apd.z)⟩,⟨bk⟩,⟨bl⟩⟩
 case round =>
  clear H'
  obtain ⟨cn,ck,rfl,HA,bx,bC,aa,HB⟩:=hrel
  cases gk with
  | zero=>exact absurd HA.z (by simp [gZ.l0])
  | succ k1 =>
   have H:=HA.z
   clear HA
   simp only [gZ.l0] at H
   by_cases c11:ck < (wrap64 (2 * t106))
   case neg =>
    rw [if_neg c11] at H
    have ku:decide (ck < (wrap64 (2 * t106)))=false:=decide_eq_false c11
    clear c11
    obtain rfl:=Option.some.inj H
    go_wp2
    go_ret
    exact ⟨_,eR,by (with_reducible repeat (first|apply Kd.cM|apply Kd.cI|apply Kd.cr));exact bC.z,bl⟩
   rw [if_pos c11] at H
   have ku:=decide_eq_true c11
   clear c11
   replace H:=Option.bind_eq_some_iff.mp H
   obtain ⟨⟨t107,t108⟩,xQ,H⟩:=H
   replace H:((jU.f ah af).bind fun t109=>(gZ.l1 k1 cn ck t108 (wrap64 (2 * t106)) ck (wrap64 (2 * t109)) 0 ah af))=some r:=H
   have vB:=k0 xQ
   clear xQ
   replace H:=Option.bind_eq_some_iff.mp H
   obtain ⟨t109,tV,H⟩:=H
   replace H:(gZ.l1 k1 cn ck t108 (wrap64 (2 * t106)) ck (wrap64 (2 * t109)) 0 ah af)=some r:=H
   have qw:=k0 tV
   clear tV
   have H':=k0 H
   clear H
   have yB:=aQ aa
   have yC:=aoT aa
   have yE:=bF aa 0
   have yF:=bF aa 1
   go_wp2_with (first|((with_reducible refine bg (f:=219) rfl ?_);refine gC (some 23) Try.func219 #[.agg #[.int .i64 ah,.slice aT af.length aoW],.int .i64 ck] ?_;(with_reducible refine (vH.calls ah _ _ af ck t107 t108 _ ?aoN ?aoP vB.z).mono ?_);(case aoN=>exact aC (Kd.ao4 ao6.z HB.z));(case aoP=>exact cV.z);rintro e qq ⟨rfl,hb⟩;refine ⟨_,rfl,?_⟩;replace bC:=k0 (Kd.gB (aS bC.z) hb);replace aa:=kB aa hb;replace HB:=k0 (aH bl hb);have BS:=aQ aa;have BU:=aoT aa;have B3:=bF aa 0;have aqP:=bF aa 1)|((with_reducible refine bg (f:=163) rfl ?_);refine gC (some 27) Try.func163 #[.agg #[.int .i64 ah,.slice aT af.length aoW]] ?_;(with_reducible refine (jU.calls ah _ _ af t109 _ ?aoN ?aoP qw.z).mono ?_);(case aoN=>exact aC (Kd.ao4 ao6.z HB.z));(case aoP=>exact cV.z);rintro e xF ⟨rfl,hb⟩;refine ⟨_,rfl,?_⟩;replace bC:=k0 (Kd.gB (aS bC.z) hb);replace aa:=kB aa hb;replace HB:=k0 (aH bl hb);))
   go_loopg [29] k1 (fun kq v29 w'=>∃ (bS:List (List Int)) (jw:Int),v29=.int .i64 jw∧aj (gZ.l1 kq bS ck t108 (wrap64 (2 * t106)) ck (wrap64 (2 * t109)) jw ah af=some r)∧aj (kq≤k1)∧aj (Kd.S (Kd.slice 2 (Kd.int .i64)) 28 w' w.heap.size (fun _=>True) tI bS)∧aj (w'.heap[aoV]?=some (sO ah aT af aoW 31))∧aj (Below w.heap.size w w'))
   case atStart=>exact ⟨(cn),(0),rs,H',⟨Nat.le_refl _⟩,⟨aS (bC.z)⟩,⟨bk⟩,⟨bl⟩⟩
   case round =>
    clear H'
    obtain ⟨bS,jw,rfl,HA,cD,bC,aa,HB⟩:=hrel
    cases gk with
    | zero=>exact absurd HA.z (by simp [gZ.l1])
    | succ k2 =>
     have H:=HA.z
     clear HA
     simp only [gZ.l1] at H
     by_cases c18:jw < (wrap64 (2 * t109))
     case neg =>
      rw [if_neg c18] at H
      have apY:decide (jw < (wrap64 (2 * t109)))=false:=decide_eq_false c18
      clear c18
      have H':=k0 H
      clear H
      go_wp2
      go_roundg k2
      case measure=>have:=bx.z;have:=cD.z;omega
      case rel=>exact ⟨(bS),(wrap64 (ck+1)),rs,H',⟨by have:=bx.z;have:=cD.z;omega⟩,⟨aS (bC.z)⟩,⟨bk⟩,⟨bl⟩⟩
     rw [if_pos c18] at H
     have apY:=decide_eq_true c18
     clear c18
     replace H:=Option.bind_eq_some_iff.mp H
     obtain ⟨⟨t110,t111⟩,CZ,H⟩:=H
     replace H:(if t110=t108 then (if jw=(Go.bits .xor .i64 ck 1) then (gZ.l1 k2 bS ck t108 (wrap64 (2 * t106)) ck (wrap64 (2 * t109)) (wrap64 (jw+1)) ah af) else (if 0≤ck then (if ck < (bS.length:Int) then (if 0≤jw then (if jw < ((av bS ck).length:Int) then (gZ.l1 k2 (bS.set (ck:Int).toNat ((av bS ck).set (jw:Int).toNat 1)) ck t108 (wrap64 (2 * t106)) ck (wrap64 (2 * t109)) (wrap64 (jw+1)) ah af) else (none)) else (none)) else (none)) else (none))) else (gZ.l1 k2 bS ck t108 (wrap64 (2 * t106)) ck (wrap64 (2 * t109)) (wrap64 (jw+1)) ah af))=some r:=H
     have Bb:=k0 CZ
     clear CZ
     by_cases c20:t110=t108
     case neg =>
      rw [if_neg c20] at H
      have BA:(t110 == t108)=false:=beq_eq_false_iff_ne.mpr c20
      have XQ:(t110 != t108)=true:=bne_iff_ne.mpr c20
      have H':=k0 H
      clear H
      have GF:=aQ aa
      have GG:=aoT aa
      have GQ:=bF aa 0
      have GR:=bF aa 1
      go_wp2_with (first|((with_reducible refine bg (f:=219) rfl ?_);refine gC (some 35) Try.func219 #[.agg #[.int .i64 ah,.slice aT af.length aoW],.int .i64 jw] ?_;(with_reducible refine (vH.calls ah _ _ af jw t110 t111 _ ?aoN ?aoP Bb.z).mono ?_);(case aoN=>exact aC (Kd.ao4 ao6.z HB.z));(case aoP=>exact cV.z);rintro e CR ⟨rfl,hb⟩;refine ⟨_,rfl,?_⟩;replace bC:=k0 (Kd.gB (aS bC.z) hb);replace aa:=kB aa hb;replace HB:=k0 (aH bl hb);))
      go_roundg k2
      case measure=>have:=bx.z;have:=cD.z;omega
      case rel=>exact ⟨(bS),(wrap64 (jw+1)),rs,H',⟨by have:=bx.z;have:=cD.z;omega⟩,⟨aS (bC.z)⟩,⟨bk⟩,⟨bl⟩⟩
     rw [if_pos c20] at H
     have BA:(t110 == t108)=true:=beq_iff_eq.mpr c20
     have XQ:(t110 != t108)=false:=bne_eq_false_iff_eq.mpr c20
     clear c20
     by_cases c21:jw=(Go.bits .xor .i64 ck 1)
     case neg =>
      rw [if_neg c21] at H
      have yl:(jw == (Go.bits .xor .i64 ck 1))=false:=beq_eq_false_iff_ne.mpr c21
      have Py:(jw != (Go.bits .xor .i64 ck 1))=true:=bne_iff_ne.mpr c21
      replace H:=iS H;obtain ⟨c24,H⟩:=H
      have BB:=decide_eq_true c24
      clear c24
      replace H:=iS H;obtain ⟨c25,H⟩:=H
      have Gj:=decide_eq_true c25
      clear c25
      replace H:=iS H;obtain ⟨c26,H⟩:=H
      have JV:=decide_eq_true c26
      clear c26
      replace H:=iS H;obtain ⟨c27,H⟩:=H
      have ag4:=decide_eq_true c27
      clear c27
      obtain ⟨aqh,uQ⟩:∃ y_:List Int,y_=((av bS ck).set (jw:Int).toNat 1):=⟨_,rfl⟩
      replace H:(gZ.l1 k2 (bS.set (ck:Int).toNat aqh) ck t108 (wrap64 (2 * t106)) ck (wrap64 (2 * t109)) (wrap64 (jw+1)) ah af)=some r:=rH uQ H
      have Dz:=k0 uQ
      clear uQ
      obtain ⟨nD,ot⟩:∃ y_:List (List Int),y_=(bS.set (ck:Int).toNat aqh):=⟨_,rfl⟩
      replace H:(gZ.l1 k2 nD ck t108 (wrap64 (2 * t106)) ck (wrap64 (2 * t109)) (wrap64 (jw+1)) ah af)=some r:=rH ot H
      have vQ:=k0 ot
      clear ot
      have H':=k0 H
      clear H
      have Q9:=aQ aa
      have Q_:=aoT aa
      have Rt:=bF aa 0
      have Ru:=bF aa 1
      go_wp2_with (first|((with_reducible refine bg (f:=219) rfl ?_);refine gC (some 35) Try.func219 #[.agg #[.int .i64 ah,.slice aT af.length aoW],.int .i64 jw] ?_;(with_reducible refine (vH.calls ah _ _ af jw t110 t111 _ ?aoN ?aoP Bb.z).mono ?_);(case aoN=>exact aC (Kd.ao4 ao6.z HB.z));(case aoP=>exact cV.z);rintro e Im ⟨rfl,hb⟩;refine ⟨_,rfl,?_⟩;replace bC:=k0 (Kd.gB (aS bC.z) hb);replace aa:=kB aa hb;replace HB:=k0 (aH bl hb);obtain ⟨zg,uw,xk⟩:=Kd.apc bC.z;subst xk;have qm:0≤(ck:Int):=oD;have qo:ck < (bS.length:Int):=oD;obtain ⟨zM,af4,XF,e112,sx,RW,RO⟩:=fW (Kd.cQ bC.z).2.2 ck qm qo;cases e112;obtain ⟨ahp,aah,Z8,QY⟩:=Kd.vS bC.z [] ck qm (by first|exact qo|exact oD|(have e_:=(Kd.cQ bC.z).1;omega));obtain ⟨aoo,rfl,Km⟩:=Z8;have EZ:=QY 0 _ rfl;rw [Nat.add_zero,show ((Kd.slice 2 (Kd.int .i64))).sz=1 from rfl,Nat.mul_one] at EZ;replace EZ:=Option.some.inj (EZ.symm.trans sx);rw [EZ] at Km;have FR:=k0 (show Kd.R (Kd.int .i64) 2 _ _ _ _ (av bS ck) from Km);clear EZ Km;have F1:=k0 sx;clear QY aah;have agR:=k0 RO;have agE:=k0 RW;clear RO RW;replace qm:=eq_true qm;replace qo:=eq_true qo;have ME:0≤(jw:Int):=oD;have MZ:(jw:Int) < (((av bS ck).length:Int):Int):=oD;obtain ⟨Kr,r7,xj,QH,ZV,ahz,Oj⟩:=Kd.aql FR.z (by omega);(first|cases xj|(injection xj with er apw apv;(first|subst er|(injection er with er;subst er));subst apv;clear apw));have Vu:=k0 QH;have agv:=k0 Oj;clear QH ZV Oj;obtain ⟨an4,ajV⟩:=Kd.vR 0 FR.z (jw:Int) ME MZ;replace ME:=eq_true ME;replace MZ:=eq_true MZ;have acR:(ck:Int) < (bS.length:Int):=(by have h_:(ck:Int) < ((bS.length:Int):Int):=oD;first|exact h_|(have e_:=(Kd.cQ bC.z).1;omega)|simpa only [List.length_set,List.length_set] using h_);obtain ⟨aen,aht,aal,Z3,Q2,LD,QT⟩:=Kd.DF bC.z [] (ck:Int) oD (by first|exact acR|(have e_:=(Kd.cQ bC.z).1;omega));obtain ⟨aos,rfl,Ef⟩:=Z3;have Hs:=Q2 0 _ rfl;rw [Nat.add_zero,show ((Kd.slice 2 (Kd.int .i64))).sz=1 from rfl,Nat.mul_one] at Hs;replace Hs:=Option.some.inj (Hs.symm.trans F1.z);subst Hs;clear Q2 aal;replace Ef:=(show Kd.R (Kd.int .i64) 2 _ _ _ _ (av bS ck) from Ef);have Jg:=Kd.zH Ef (jw:Int) 1)|((with_reducible refine Gw (t:=2) (p:=52) rfl ?_);refine Ib (t:=2) (p:=52) (v:=?aow) (w1:=(Im.setCell ⟨Kr,(jw:Int).toNat,none⟩ (.int .i64 1))) ?hg ?ho ?hn ?hr ?_;(case ho=>rfl);(case hg=>rfl);(case hn=>rfl);(case hr=>first|(go_simp;done)|(go_simp;rfl));intro xH hw;have hg:Im.grownBy xH (some Kr):=(by rw [hw];exact Jg.2);have AB:Kd.R (Kd.int .i64) 2 xH w.heap.size aen (.slice (some ⟨Kr,0,none⟩) (av bS ck).length XF) aqh:=(by rw [hw,Dz.z];exact Jg.1);have uL:Kd.S (Kd.slice 2 (Kd.int .i64)) 28 xH w.heap.size (fun _=>True) (.slice (some zM) bS.length uw) nD:=(by rw [vQ.z];exact QT hg (fun k_ e_=>by injection e_ with e_;subst e_;exact Ef.1 _ rfl) (Kd.apB AB));have Ai:=Kd.aoY AB LD;clear Jg QT;have aq:=k0 (uL);have au:=k0 (fl (aB aa.z) hg (Kd.kr FR.z aa.z (by decide)));have ax:=k0 (zQ hg F1.z (DV (LD _ (Ef.1 _ rfl)).2));have aA:=k0 ((by rw [hw];exact aoO (HB.z) Vu.out:Below w.heap.size w xH));have aG:=k0 (Ai);have aM:=k0 ((Kd.cx Ai).2.1);clear bC;clear aa;clear F1;clear HB;clear FR;have bC:=aq;have aa:=au;have F1:=ax;have HB:=aA;have agM:=aG;have agG:=aM;clear aq au ax aA aG aM;clear hg hw uL AB Ai LD))
      go_roundg k2
      case measure=>have:=bx.z;have:=cD.z;omega
      case rel=>exact ⟨(nD),(wrap64 (jw+1)),rs,H',⟨by have:=bx.z;have:=cD.z;omega⟩,⟨aS (bC.z)⟩,⟨bk⟩,⟨bl⟩⟩
     rw [if_pos c21] at H
     have yl:(jw == (Go.bits .xor .i64 ck 1))=true:=beq_iff_eq.mpr c21
     have Py:(jw != (Go.bits .xor .i64 ck 1))=false:=bne_eq_false_iff_eq.mpr c21
     clear c21
     have H':=k0 H
     clear H
     have KJ:=aQ aa
     have KK:=aoT aa
     have K5:=bF aa 0
     have K6:=bF aa 1
     go_wp2_with (first|((with_reducible refine bg (f:=219) rfl ?_);refine gC (some 35) Try.func219 #[.agg #[.int .i64 ah,.slice aT af.length aoW],.int .i64 jw] ?_;(with_reducible refine (vH.calls ah _ _ af jw t110 t111 _ ?aoN ?aoP Bb.z).mono ?_);(case aoN=>exact aC (Kd.ao4 ao6.z HB.z));(case aoP=>exact cV.z);rintro e CO ⟨rfl,hb⟩;refine ⟨_,rfl,?_⟩;replace bC:=k0 (Kd.gB (aS bC.z) hb);replace aa:=kB aa hb;replace HB:=k0 (aH bl hb);))
     go_roundg k2
     case measure=>have:=bx.z;have:=cD.z;omega
     case rel=>exact ⟨(bS),(wrap64 (jw+1)),rs,H',⟨by have:=bx.z;have:=cD.z;omega⟩,⟨aS (bC.z)⟩,⟨bk⟩,⟨bl⟩⟩
/-! ### F86: function 86 -/
def apD.f (k:Nat) (ah:Int) (af:List (List Int)):Option (List Int):=(gZ.f k ah af).bind fun t102=>((fO.f k t102).bind fun t105=>(some t105))
theorem apD.calls (k : Nat) (ah : Int) (aT : Option Addr) (aoW : Nat) (af : List (List Int)) (r : List Int) (w : World) (cR : Kd.C (Kd.slice 2 (Kd.int .i64)) w aT af.length af) (cX : af.length ≤ aoW) (h : apD.f k ah af = some r) :
  Calls Try.prog 86 #[.agg #[.int .i64 ah,.slice aT af.length aoW]] w fun e w'=>∃ eE:Value,e=.returned (eE)∧Kd.R (Kd.int .i64) 2 w' w.heap.size (fun _=>True) eE r∧Below w.heap.size w w':=by
 have iX:=Try.underlying31
 have ao6:=k0 cR
 have cV:=k0 cX
 clear cR cX
 have HB:=k0 (Below.refl w.heap.size w)
 have H:((gZ.f k ah af).bind fun t102=>((fO.f k t102).bind fun t105=>(some t105)))=some r:=h
 clear h
 replace H:=Option.bind_eq_some_iff.mp H
 obtain ⟨t102,fI,H⟩:=H
 replace H:((fO.f k t102).bind fun t105=>(some t105))=some r:=H
 have A2:=k0 fI
 clear fI
 replace H:=Option.bind_eq_some_iff.mp H
 obtain ⟨t105,fJ,H⟩:=H
 replace H:(some t105)=some r:=H
 have A3:=k0 fJ
 clear fJ
 obtain rfl:=Option.some.inj H
 go_enter Try.func86,Try.ntmps86
 go_wp2_with (first|((with_reducible refine bp (N:=1) rfl ?_);refine bR 1 #[.int .i64 ah,.slice aT af.length aoW] 31 ?_;intro aoV hg w4 aE hb;have aa:=k0 (aE);have bB:=gW hg (aoS bl);have aX:=bB;replace HB:=k0 (aH bl hb);clear hb aE hg;have GJ:=aQ aa;have GK:=aoT aa;have GV:=bF aa 0;have GW:=bF aa 1)|((with_reducible refine bg (f:=170) rfl ?_);refine gC (some 4) Try.func170 #[.agg #[.int .i64 ah,.slice aT af.length aoW]] ?_;(with_reducible refine (gZ.calls k ah _ _ af t102 _ ?aoN ?aoP A2.z).mono ?_);(case aoN=>exact aC (Kd.ao4 ao6.z HB.z));(case aoP=>exact cV.z);rintro e w6 ⟨CK,rfl,aD,hb⟩;refine ⟨_,rfl,?_⟩;have hJ:=k0 (Kd.ig aD (aoS bl));replace aa:=kB aa hb;replace HB:=k0 (aH bl hb);obtain ⟨IW,DZ,Kb⟩:=Kd.apc hJ.z;subst Kb)|((with_reducible refine bg (f:=132) rfl ?_);refine gC (some 5) Try.func132 #[.slice IW t102.length DZ] ?_;(with_reducible refine (fO.calls k _ _ t102 t105 _ ?aoN ?aoP A3.z).mono ?_);(case aoN=>exact aC ((Kd.cQ hJ.z).2.2));(case aoP=>exact (Kd.cQ hJ.z).2.1);rintro e w8 ⟨vn,rfl,aD,hb⟩;refine ⟨_,rfl,?_⟩;replace hJ:=k0 (Kd.cC (aS hJ.z) (Kd.aU aD) hb);have eP:=k0 (Kd.cU aD (aoS bl));replace aa:=kB aa hb;replace HB:=k0 (aH bl hb);))
 go_ret
 exact ⟨_,eR,by (with_reducible repeat (first|apply Kd.dK|apply Kd.dD|apply Kd.cB));exact eP.z,bl⟩
end Go.Proofs.Ytoebojnhchocaaa.E
/- Set with little white space, by a program. -/
