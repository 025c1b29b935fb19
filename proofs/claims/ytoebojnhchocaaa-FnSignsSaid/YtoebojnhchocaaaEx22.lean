/- The functions that one law reaches, each as a Lean function, and that Go's call comes to what it says. Condition of each: that the Lean function answers (is not none). -/
import Derived.Test.YtoebojnhchocaaaEx0
import Derived.Test.YtoebojnhchocaaaEx9
import Derived.Test.YtoebojnhchocaaaEx15
import Derived.Test.YtoebojnhchocaaaEx16
import Derived.Test.YtoebojnhchocaaaEx19
import Derived.Test.YtoebojnhchocaaaEx20
import Derived.Test.YtoebojnhchocaaaEx21
namespace Go.Proofs.Ytoebojnhchocaaa.E
open Go.RowKit Go.Proofs.bY.apf Go.Proofs.bY.ko Go.Proofs.bY.kN
attribute [local go_sem] max2_int min2_int max_two min_two max_three min_three max_four min_four   -- for this text's walks alone
set_option linter.unusedVariables false
set_option linter.unusedSimpArgs false
/-! ### F11: function 11 -/
mutual
def dL.j0 : Nat → List Int → List Int → List Int → Int → Bool → Int → List (List Int) → Option (Bool)
 | 0,_,_,_,_,_,_,_=>none
 | k+1,x0,x4,x5,x6,x52,tO,tP=>if x52=true then (some false) else ((Bh.f k x0).bind fun lK=>((lU.f k lK.1 lK.2.1 lK.2.2).bind fun fo=>((wP.f k lK.1 lK.2.1 lK.2.2).bind fun mo=>(if fo.2.2.2.2=mo.2.2.2.2 then ((sQ.f k fo.1 fo.2.1 fo.2.2.1 fo.2.2.2.1 mo.1 mo.2.1 mo.2.2.1 mo.2.2.2.1).bind fun t147=>(dL.j1 k x4 x5 x6 lK.2.2 fo.2.2.2.2 (!t147) tO tP lK.1 lK.2.1 fo.1 fo.2.1 fo.2.2.1 fo.2.2.2.1)) else (dL.j1 k x4 x5 x6 lK.2.2 fo.2.2.2.2 true tO tP lK.1 lK.2.1 fo.1 fo.2.1 fo.2.2.1 fo.2.2.2.1)))))
def dL.j1 : Nat → List Int → List Int → Int → List Int → Int → Bool → Int → List (List Int) → Int → List (List Int) → Int → List (List Int) → Int → List (List Int) → Option (Bool)
 | 0,_,_,_,_,_,_,_,_,_,_,_,_,_,_=>none
 | k+1,x4,x5,x6,fS,oz,x78,tO,tP,afW,afX,afY,afZ,af0,af1=>if x78=true then (some false) else (if oz=0 then ((l9.f k afY afZ af0 af1).bind fun zN=>((mL.f k afW afX fS).bind fun yg=>(if yg.2=0 then (if zN.2=0 then ((iC.f k zN.1 yg.1).bind fun t156=>(if t156=true then (dL.j2 k x4 x5 x6 tO tP) else (some false))) else (if zN.2=3 then (dL.j2 k x4 x5 x6 tO tP) else (some false))) else (some false)))) else (dL.j2 k x4 x5 x6 tO tP))
def dL.j2 : Nat → List Int → List Int → Int → Int → List (List Int) → Option (Bool)
 | 0,_,_,_,_,_=>none
 | k+1,x4,x5,x6,tO,tP=>if x6=0 then (dL.l0 k x4 (([]:List Int)) 0 tO tP) else (some ((x5.length:Int) == 0))
def dL.l0 : Nat → List Int → List Int → Int → Int → List (List Int) → Option (Bool)
 | 0,_,_,_,_,_=>none
 | k+1,x4,qt,aqz,tO,tP=>if aqz < (x4.length:Int) then (if qt.length < 17592186044416 then (dL.l0 k x4 (qt ++ [1]) (wrap64 (aqz+1)) tO tP) else (none)) else ((mL.f k tO tP qt).bind fun Pt=>((wQ.f k tO tP).bind fun DP=>(if Pt.2=0 then (if DP.2=0 then ((iC.f k Pt.1 DP.1).bind fun t171=>(some t171)) else (some false)) else (some false))))
end
def dL.f (k:Nat) (l0:List Int):Option (Bool):=(zk.f l0).bind fun t101=>(if t101=true then (some true) else ((aqt.f k l0).bind fun ao2=>((mL.f k ao2.1 ao2.2.1 ao2.2.2).bind fun gT=>((gG.f k ao2.1 ao2.2.1 ao2.2.2).bind fun eS=>(if gT.2=eS.2 then ((iC.f k gT.1 eS.1).bind fun t118=>(dL.j0 k l0 ao2.2.2 gT.1 gT.2 (!t118) ao2.1 ao2.2.1)) else (dL.j0 k l0 ao2.2.2 gT.1 gT.2 true ao2.1 ao2.2.1))))))
set_option maxHeartbeats 8000000 in
set_option maxRecDepth 100000 in
theorem dL.calls (k : Nat) (A0 : Option Addr) (c0 : Nat) (l0 : List Int) (r : Bool) (w : World) (cY : Kd.C (Kd.int .u8) w A0 l0.length l0) (hc0 : l0.length ≤ c0) (h : dL.f k l0 = some r) :
  Calls Try.prog 11 #[.slice A0 l0.length c0] w fun e w'=>e=.returned (.bool r)∧Below w.heap.size w w':=by
 have iX:=Try.underlying31
 have wo:=Try.underlying33
 have ek:=k0 cY
 have jx:=k0 hc0
 clear cY hc0
 have HB:=k0 (Below.refl w.heap.size w)
 have H:((zk.f l0).bind fun t101=>(if t101=true then (some true) else ((aqt.f k l0).bind fun ao2=>((mL.f k ao2.1 ao2.2.1 ao2.2.2).bind fun gT=>((gG.f k ao2.1 ao2.2.1 ao2.2.2).bind fun eS=>(if gT.2=eS.2 then ((iC.f k gT.1 eS.1).bind fun t118=>(dL.j0 k l0 ao2.2.2 gT.1 gT.2 (!t118) ao2.1 ao2.2.1)) else (dL.j0 k l0 ao2.2.2 gT.1 gT.2 true ao2.1 ao2.2.1)))))))=some r:=h
 clear h
 replace H:=Option.bind_eq_some_iff.mp H
 obtain ⟨t101,fI,H⟩:=H
 replace H:(if t101=true then (some true) else ((aqt.f k l0).bind fun ao2=>((mL.f k ao2.1 ao2.2.1 ao2.2.2).bind fun gT=>((gG.f k ao2.1 ao2.2.1 ao2.2.2).bind fun eS=>(if gT.2=eS.2 then ((iC.f k gT.1 eS.1).bind fun t118=>(dL.j0 k l0 ao2.2.2 gT.1 gT.2 (!t118) ao2.1 ao2.2.1)) else (dL.j0 k l0 ao2.2.2 gT.1 gT.2 true ao2.1 ao2.2.1))))))=some r:=H
 have A2:=k0 fI
 clear fI
 by_cases c3:t101=true
 case neg =>
  replace c3:=Bool.eq_false_iff.mpr c3
  subst c3
  have H1:((aqt.f k l0).bind fun ao2=>((mL.f k ao2.1 ao2.2.1 ao2.2.2).bind fun gT=>((gG.f k ao2.1 ao2.2.1 ao2.2.2).bind fun eS=>(if gT.2=eS.2 then ((iC.f k gT.1 eS.1).bind fun t118=>(dL.j0 k l0 ao2.2.2 gT.1 gT.2 (!t118) ao2.1 ao2.2.1)) else (dL.j0 k l0 ao2.2.2 gT.1 gT.2 true ao2.1 ao2.2.1)))))=some r:=by rw [if_neg (show ¬ (false=true) by decide)] at H;exact H
  clear H
  have H:=H1
  clear H1
  replace H:=Option.bind_eq_some_iff.mp H
  obtain ⟨⟨t102,t103,t106⟩,fu,H⟩:=H
  replace H:((mL.f k t102 t103 t106).bind fun gT=>((gG.f k t102 t103 t106).bind fun eS=>(if gT.2=eS.2 then ((iC.f k gT.1 eS.1).bind fun t118=>(dL.j0 k l0 t106 gT.1 gT.2 (!t118) t102 t103)) else (dL.j0 k l0 t106 gT.1 gT.2 true t102 t103))))=some r:=H
  have A4:=k0 fu
  clear fu
  replace H:=Option.bind_eq_some_iff.mp H
  obtain ⟨⟨t110,t113⟩,kC,H⟩:=H
  replace H:((gG.f k t102 t103 t106).bind fun eS=>(if t113=eS.2 then ((iC.f k t110 eS.1).bind fun t118=>(dL.j0 k l0 t106 t110 t113 (!t118) t102 t103)) else (dL.j0 k l0 t106 t110 t113 true t102 t103)))=some r:=H
  have A5:=k0 kC
  clear kC
  replace H:=Option.bind_eq_some_iff.mp H
  obtain ⟨⟨t114,t117⟩,kX,H⟩:=H
  replace H:(if t113=t117 then ((iC.f k t110 t114).bind fun t118=>(dL.j0 k l0 t106 t110 t113 (!t118) t102 t103)) else (dL.j0 k l0 t106 t110 t113 true t102 t103))=some r:=H
  have A6:=k0 kX
  clear kX
  have Ja:=k0 H
  clear H
  go_enter Try.func11,Try.ntmps11
  go_upto_region 6 with (first|((with_reducible refine bg (f:=40) rfl ?_);refine gC (some 26) Try.func40 #[.slice A0 l0.length c0] ?_;(with_reducible refine (zk.calls _ _ l0 false _ ?aoN ?aoP A2.z).mono ?_);(case aoN=>exact aC ek.z);(case aoP=>exact jx.z);rintro e w' ⟨rfl,⟨nd,rfl⟩⟩;refine ⟨_,rfl,?_⟩)|((with_reducible refine bg (f:=52) rfl ?_);refine gC (some 29) Try.func52 #[.slice A0 l0.length c0] ?_;(with_reducible refine (aqt.calls k _ _ l0 t102 t103 t106 _ ?aoN ?aoP A4.z).mono ?_);(case aoN=>exact aC ek.z);(case aoP=>exact jx.z);rintro e w8 ⟨tI,v107,rfl,aD,mA,hb⟩;refine ⟨_,rfl,?_⟩;have apd:=k0 (Kd.Bx (Kd.bP (ok':=fun k_=>some k_ ≠ (v107:Value).ownBlock) aD (fun k_ bZ=>bZ.2)) (aoS bl));have kM:=k0 (Kd.cU (Kd.aoY (ok':=fun k_=>True) mA (fun _ bZ=>trivial)) (aoS bl));replace HB:=k0 (aH bl hb);)|((with_reducible refine bp (N:=3) rfl ?_);refine bR 3 #[.int .i64 0,.slice none 0 0] 31 ?_;intro kR hg w9 aE hb;replace apd:=k0 (Kd.gI (Kd.ng (aV apd.z) kR (Nat.le_of_eq hg.symm)) hb);replace kM:=k0 (Kd.apn (aR kM.z) hb);have ao3:=k0 (aE);have VD:=gW hg (aoS bl);have agp:=VD;replace HB:=k0 (aH bl hb);clear hb aE hg;have uD:=aQ ao3;have uE:=aoT ao3;have uF:=bF ao3 0;have uG:=bF ao3 1;obtain ⟨kD,apq,D4⟩:=Kd.aqn apd.z;subst D4;obtain ⟨dc,cW,uA⟩:=Kd.dM kM.z;subst uA)|((with_reducible refine bg (f:=53) rfl ?_);refine gC (some 35) Try.func53 #[.agg #[.int .i64 t102,.slice kD t103.length apq],.slice dc t106.length cW] ?_;(with_reducible refine (mL.calls k t102 _ _ t103 _ _ t106 t110 t113 _ ?aoN ?aoP ?bA ?bH A5.z).mono ?_);(case aoN=>refine (Kd.dm (e:=28) (base:=w.heap.size) (ok:=fun k_=>(some k_ ≠ (.slice dc t106.length cW:Value).ownBlock∧k_ ≠ kR)) (n:=t103.length) (c:=apq) ?_).2.2;exact (by (with_reducible repeat (first|apply Kd.nc|apply Kd.mN|apply Kd.kE));exact (Kd.bP (Kd.ape (p:=⟨kR,1,none⟩) (Kd.ape (p:=⟨kR,0,none⟩) (Kd.bP apd.z (fun k_ hk=>(⟨hk,hk.2⟩:_∧k_ ≠ kR))) (fun _ hk=>hk.2) (.int .i64 t102)) (fun _ hk=>hk.2) (.slice kD t103.length apq)) (fun _ h_=>h_.1))));(case aoP=>exact (Kd.dm apd.z).2.1);(case bA=>refine (Kd.cx (e:=2) (base:=w.heap.size) (ok:=fun k_=>True) (n:=t106.length) (c:=cW) ?_).2.2;exact (by (with_reducible repeat (first|apply Kd.dK|apply Kd.dD|apply Kd.cB));exact (Kd.aoY (gR 1 (.slice kD t103.length apq) (gR 0 (.int .i64 t102) (tR kM ao3))) (fun _ h_=>h_.1))));(case bH=>exact (Kd.cx kM.z).2.1);rintro e tK ⟨jF,rfl,aD,hb⟩;refine ⟨_,rfl,?_⟩;replace apd:=k0 (Kd.dV (by (with_reducible repeat (first|apply Kd.nc|apply Kd.mN|apply Kd.kE));exact (Kd.bP (Kd.ape (p:=⟨kR,1,none⟩) (Kd.ape (p:=⟨kR,0,none⟩) (Kd.bP apd.z (fun k_ hk=>(⟨hk,hk.2⟩:_∧k_ ≠ kR))) (fun _ hk=>hk.2) (.int .i64 t102)) (fun _ hk=>hk.2) (.slice kD t103.length apq)) (fun _ h_=>h_.1))) (Kd.aU aD) hb);have rS:=k0 (Kd.cU (Kd.cT aD (Kd.bT (by (with_reducible repeat (first|apply Kd.dK|apply Kd.dD|apply Kd.cB));exact (Kd.aoY (gR 1 (.slice kD t103.length apq) (gR 0 (.int .i64 t102) (tR kM ao3))) (fun _ h_=>h_.1))))) (aoS bl));replace kM:=k0 (Kd.ao9 (by (with_reducible repeat (first|apply Kd.dK|apply Kd.dD|apply Kd.cB));exact (Kd.aoY (gR 1 (.slice kD t103.length apq) (gR 0 (.int .i64 t102) (tR kM ao3))) (fun _ h_=>h_.1))) (Kd.aU aD) hb);replace ao3:=k0 (cZ (g:=kR) (o:=sO t102 kD t103 apq 31) (by (with_reducible repeat (first|refine aoU ?_ _|refine aJ ?_|refine aoQ ?_ _));refine bE (cs:=#[.int .i64 t102,.slice none 0 0]) ?_ 1 _ rfl;(with_reducible repeat (first|refine aoU ?_ _|refine aJ ?_|refine aoQ ?_ _));refine bE (cs:=#[.int .i64 0,.slice none 0 0]) ?_ 0 _ rfl;exact bk) hb);replace HB:=k0 (aH bl hb);have yB:=aQ ao3;have yC:=aoT ao3;have yE:=bF ao3 0;have yF:=bF ao3 1)|((with_reducible refine bg (f:=54) rfl ?_);refine gC (some 41) Try.func54 #[.agg #[.int .i64 t102,.slice kD t103.length apq],.slice dc t106.length cW] ?_;(with_reducible refine (gG.calls k t102 _ _ t103 _ _ t106 t114 t117 _ ?aoN ?aoP ?bA ?bH A6.z).mono ?_);(case aoN=>exact aC ((Kd.dm apd.z).2.2));(case aoP=>exact (Kd.dm apd.z).2.1);(case bA=>exact aC ((Kd.cx kM.z).2.2));(case bH=>exact (Kd.cx kM.z).2.1);rintro e qq ⟨afH,rfl,aD,hb⟩;refine ⟨_,rfl,?_⟩;replace apd:=k0 (Kd.dV (aV apd.z) (Kd.aU aD) hb);have Dj:=k0 (Kd.cU (Kd.cT (Kd.cT aD (Kd.bT (aR kM.z))) (Kd.bT (aR rS.z))) (aoS bl));replace kM:=k0 (Kd.ao9 (aR kM.z) (Kd.aU aD) hb);replace rS:=k0 (Kd.ao9 (aR rS.z) (Kd.aU aD) hb);replace ao3:=kB ao3 hb;replace HB:=k0 (aH bl hb);))
  (try simp only [Act.put,zI,zZ,zS])
  go_cut [52] (fun v52 wc=>∃ (kq:Nat) (Iw:Bool),v52=.bool Iw∧aj (dL.j0 kq l0 t106 t110 t113 Iw t102 t103=some r)∧aj (kq≤k)∧aj (Kd.R (Kd.int .i64) 2 wc w.heap.size (fun k_=>some k_ ≠ (jF:Value).ownBlock) (.slice dc t106.length cW) t106)∧aj (Kd.R (Kd.int .i64) 2 wc w.heap.size (fun k_=>some k_ ≠ ((.slice dc t106.length cW):Value).ownBlock) jF t110)∧aj (Kd.V (Kd.slice 2 (Kd.int .i64)) 28 wc w.heap.size (fun k_=>some k_ ≠ ((.slice dc t106.length cW):Value).ownBlock∧some k_ ≠ (jF:Value).ownBlock∧k_ ≠ kR) (.slice kD t103.length apq) t103)∧aj (wc.heap[kR]?=some (sO t102 kD t103 apq 31))∧aj (Below w.heap.size w wc))
  case first =>
   have H:=Ja.z
   clear Ja
   by_cases c16:t113=t117
   case neg =>
    rw [if_neg c16] at H
    have qK:(t113 == t117)=false:=beq_eq_false_iff_ne.mpr c16
    have XP:(t113 != t117)=true:=bne_iff_ne.mpr c16
    (first|rw [qK]|(simp only [cm,cO];rw [qK])|skip)
    have H':=k0 H
    clear H
    go_wp2
    go_meet
    case rel=>exact ⟨_,(true),rs,H',⟨by first|omega|exact Nat.le_refl _⟩,⟨aR (Kd.aoY kM.z (fun _ hk=>hk.1.2))⟩,⟨aR (Kd.aoY rS.z (fun _ hk=>hk.1.2))⟩,⟨aV (Kd.bP apd.z (fun _ hk=>⟨hk.1.1.1,⟨hk.1.2,hk.1.1.2⟩⟩))⟩,⟨bk⟩,⟨bl⟩⟩
   rw [if_pos c16] at H
   have qK:(t113 == t117)=true:=beq_iff_eq.mpr c16
   have XP:(t113 != t117)=false:=bne_eq_false_iff_eq.mpr c16
   clear c16
   (first|rw [qK]|(simp only [cm,cO];rw [qK])|skip)
   replace H:=Option.bind_eq_some_iff.mp H
   obtain ⟨t118,CY,H⟩:=H
   replace H:(dL.j0 k l0 t106 t110 t113 (!t118) t102 t103)=some r:=H
   have xT:=k0 CY
   clear CY
   have H':=k0 H
   clear H
   obtain ⟨wJ,vY,uB⟩:=Kd.dM rS.z
   subst uB
   obtain ⟨vD,ap9,qO⟩:=Kd.dM Dj.z
   subst qO
   go_wp2_with (first|(go_at_call 44;(with_reducible refine (iC.calls k _ _ t110 _ _ t114 t118 _ ?aoN ?aoP ?bA ?bH xT.z).mono ?_);(case aoN=>exact aC ((Kd.cx rS.z).2.2));(case aoP=>exact (Kd.cx rS.z).2.1);(case bA=>exact aC ((Kd.cx Dj.z).2.2));(case bH=>exact (Kd.cx Dj.z).2.1);rintro e w' ⟨rfl,⟨nd,rfl⟩⟩))
   go_meet
   case rel=>exact ⟨_,(!t118),rs,H',⟨by first|omega|exact Nat.le_refl _⟩,⟨aR (Kd.aoY kM.z (fun _ hk=>hk.1.2))⟩,⟨aR (Kd.aoY rS.z (fun _ hk=>hk.1.2))⟩,⟨aV (Kd.bP apd.z (fun _ hk=>⟨hk.1.1.1,⟨hk.1.2,hk.1.1.2⟩⟩))⟩,⟨bk⟩,⟨bl⟩⟩
  case rest =>
   clear Ja
   obtain ⟨kq,Iw,rfl,HA,zu,bJ,aoX,cL,ao3,HB⟩:=hcut
   cases kq with
   | zero=>exact absurd HA.z (by simp [dL.j0])
   | succ apz =>
    have H:=HA.z
    clear HA
    simp only [dL.j0] at H
    by_cases c20:Iw=true
    case neg =>
     replace c20:=Bool.eq_false_iff.mpr c20
     subst c20
     have H1:((Bh.f apz l0).bind fun lK=>((lU.f apz lK.1 lK.2.1 lK.2.2).bind fun fo=>((wP.f apz lK.1 lK.2.1 lK.2.2).bind fun mo=>(if fo.2.2.2.2=mo.2.2.2.2 then ((sQ.f apz fo.1 fo.2.1 fo.2.2.1 fo.2.2.2.1 mo.1 mo.2.1 mo.2.2.1 mo.2.2.2.1).bind fun t147=>(dL.j1 apz t106 t110 t113 lK.2.2 fo.2.2.2.2 (!t147) t102 t103 lK.1 lK.2.1 fo.1 fo.2.1 fo.2.2.1 fo.2.2.2.1)) else (dL.j1 apz t106 t110 t113 lK.2.2 fo.2.2.2.2 true t102 t103 lK.1 lK.2.1 fo.1 fo.2.1 fo.2.2.1 fo.2.2.2.1)))))=some r:=by rw [if_neg (show ¬ (false=true) by decide)] at H;exact H
     clear H
     have H:=H1
     clear H1
     replace H:=Option.bind_eq_some_iff.mp H
     obtain ⟨⟨t119,t120,t123⟩,C1,H⟩:=H
     replace H:((lU.f apz t119 t120 t123).bind fun fo=>((wP.f apz t119 t120 t123).bind fun mo=>(if fo.2.2.2.2=mo.2.2.2.2 then ((sQ.f apz fo.1 fo.2.1 fo.2.2.1 fo.2.2.2.1 mo.1 mo.2.1 mo.2.2.1 mo.2.2.2.1).bind fun t147=>(dL.j1 apz t106 t110 t113 t123 fo.2.2.2.2 (!t147) t102 t103 t119 t120 fo.1 fo.2.1 fo.2.2.1 fo.2.2.2.1)) else (dL.j1 apz t106 t110 t113 t123 fo.2.2.2.2 true t102 t103 t119 t120 fo.1 fo.2.1 fo.2.2.1 fo.2.2.2.1))))=some r:=H
     have IK:=k0 C1
     clear C1
     replace H:=Option.bind_eq_some_iff.mp H
     obtain ⟨⟨t127,t128,t131,t132,t135⟩,xV,H⟩:=H
     replace H:((wP.f apz t119 t120 t123).bind fun mo=>(if t135=mo.2.2.2.2 then ((sQ.f apz t127 t128 t131 t132 mo.1 mo.2.1 mo.2.2.1 mo.2.2.2.1).bind fun t147=>(dL.j1 apz t106 t110 t113 t123 t135 (!t147) t102 t103 t119 t120 t127 t128 t131 t132)) else (dL.j1 apz t106 t110 t113 t123 t135 true t102 t103 t119 t120 t127 t128 t131 t132)))=some r:=H
     have Bc:=k0 xV
     clear xV
     replace H:=Option.bind_eq_some_iff.mp H
     obtain ⟨⟨t137,t138,t141,t142,t145⟩,apS,H⟩:=H
     replace H:(if t135=t145 then ((sQ.f apz t127 t128 t131 t132 t137 t138 t141 t142).bind fun t147=>(dL.j1 apz t106 t110 t113 t123 t135 (!t147) t102 t103 t119 t120 t127 t128 t131 t132)) else (dL.j1 apz t106 t110 t113 t123 t135 true t102 t103 t119 t120 t127 t128 t131 t132))=some r:=H
     have vC:=k0 apS
     clear apS
     have I8:=k0 H
     clear H
     go_upto_region 11 with (first|((with_reducible refine bg (f:=55) rfl ?_);refine gC (some 55) Try.func55 #[.slice A0 l0.length c0] ?_;(with_reducible refine (Bh.calls apz _ _ l0 t119 t120 t123 _ ?aoN ?aoP IK.z).mono ?_);(case aoN=>exact aC (Kd.ao4 ek.z HB.z));(case aoP=>exact jx.z);rintro e y5 ⟨Ub,v124,rfl,aD,mA,hb⟩;refine ⟨_,rfl,?_⟩;replace cL:=k0 (Kd.dV (aV cL.z) (Kd.aU mA) hb);have jI:=k0 (Kd.Bx (Kd.bP (ok':=fun k_=>some k_ ≠ (v124:Value).ownBlock∧some k_ ≠ (.slice dc t106.length cW:Value).ownBlock∧some k_ ≠ (jF:Value).ownBlock∧k_ ≠ kR) aD (fun k_ bZ=>⟨bZ.2,(Kd.fresh' (Kd.bT (aR bJ.z)) k_ bZ.1),(Kd.fresh' (Kd.bT (aR aoX.z)) k_ bZ.1),(Kd.BP (aB ao3.z) k_ bZ.1)⟩)) (aoS bl));have ei:=k0 (Kd.cU (Kd.cT (Kd.cT (Kd.aoY (ok':=fun k_=>True) mA (fun _ bZ=>trivial)) (Kd.bT (aR bJ.z))) (Kd.bT (aR aoX.z))) (aoS bl));replace bJ:=k0 (Kd.ao9 (aR bJ.z) (Kd.aU mA) hb);replace aoX:=k0 (Kd.ao9 (aR aoX.z) (Kd.aU mA) hb);replace ao3:=kB ao3 hb;replace HB:=k0 (aH bl hb);)|((with_reducible refine bp (N:=9) rfl ?_);refine bR 9 #[.int .i64 0,.slice none 0 0] 31 ?_;intro k6 hg aqF aE hb;replace bJ:=k0 (Kd.apn (aR bJ.z) hb);replace aoX:=k0 (Kd.apn (aR aoX.z) hb);replace cL:=k0 (Kd.gI (Kd.ng (aV cL.z) k6 (Nat.le_of_eq hg.symm)) hb);replace jI:=k0 (Kd.gI (Kd.ng (aV jI.z) k6 (Nat.le_of_eq hg.symm)) hb);replace ei:=k0 (Kd.apn (aR ei.z) hb);have cj:=k0 (aE);have VG:=gW hg (aoS bl);have agq:=VG;replace HB:=k0 (aH bl hb);have sY:=nL hg ao3;have wZ:=nG sY;replace ao3:=kB ao3 hb;clear hb aE hg;have R_:=wZ.z;have Sm:=sY.z;have KR:=aQ cj;have KS:=aoT cj;have Lc:=bF cj 0;have Ld:=bF cj 1;obtain ⟨api,gJ,yw⟩:=Kd.aqn jI.z;subst yw;obtain ⟨hU,gK,aqe⟩:=Kd.dM ei.z;subst aqe)|((with_reducible refine bg (f:=56) rfl ?_);refine gC (some 61) Try.func56 #[.agg #[.int .i64 t119,.slice api t120.length gJ],.slice hU t123.length gK] ?_;(with_reducible refine (lU.calls apz t119 _ _ t120 _ _ t123 t127 t128 t131 t132 t135 _ ?aoN ?aoP ?bA ?bH Bc.z).mono ?_);(case aoN=>refine (Kd.dm (e:=28) (base:=w.heap.size) (ok:=fun k_=>((some k_ ≠ (.slice hU t123.length gK:Value).ownBlock∧(some k_ ≠ (.slice dc t106.length cW:Value).ownBlock∧(some k_ ≠ (jF:Value).ownBlock∧k_ ≠ kR)))∧k_ ≠ k6)) (n:=t120.length) (c:=gJ) ?_).2.2;exact (by (with_reducible repeat (first|apply Kd.nc|apply Kd.mN|apply Kd.kE));exact (Kd.bP (Kd.ape (p:=⟨k6,1,none⟩) (Kd.ape (p:=⟨k6,0,none⟩) (Kd.bP jI.z (fun k_ hk=>(⟨hk,hk.2⟩:_∧k_ ≠ k6))) (fun _ hk=>hk.2) (.int .i64 t119)) (fun _ hk=>hk.2) (.slice api t120.length gJ)) (fun _ h_=>h_.1))));(case aoP=>exact (Kd.dm jI.z).2.1);(case bA=>first|(refine (Kd.cx (e:=2) (base:=w.heap.size) (ok:=fun k_=>((True∧some k_ ≠ (.slice dc t106.length cW:Value).ownBlock)∧some k_ ≠ (jF:Value).ownBlock)) (n:=t123.length) (c:=gK) ?_).2.2;exact (by (with_reducible repeat (first|apply Kd.dK|apply Kd.dD|apply Kd.cB));exact (Kd.aoY (gR 1 (.slice api t120.length gJ) (gR 0 (.int .i64 t119) (tR ei cj))) (fun _ h_=>h_.1))))|(refine (Kd.cx (e:=2) (base:=w.heap.size) (ok:=fun k_=>(some k_ ≠ (.slice dc t106.length cW:Value).ownBlock∧some k_ ≠ (jF:Value).ownBlock)) (n:=t123.length) (c:=gK) ?_).2.2;exact (by (with_reducible repeat (first|apply Kd.dK|apply Kd.dD|apply Kd.cB));exact (Kd.aoY (gR 1 (.slice api t120.length gJ) (gR 0 (.int .i64 t119) (tR ei cj))) (fun _ h_=>h_.1)))));(case bH=>exact (Kd.cx ei.z).2.1);rintro e CP ⟨afI,afJ,rfl,aD,mA,hb⟩;refine ⟨_,rfl,?_⟩;replace cL:=k0 (Kd.bP (Kd.vU (Kd.vU (Kd.F9 (by (with_reducible repeat (first|apply Kd.nc|apply Kd.mN|apply Kd.kE));exact (Kd.bP (Kd.ape (p:=⟨k6,1,none⟩) (Kd.ape (p:=⟨k6,0,none⟩) (Kd.bP cL.z (fun k_ hk=>(⟨hk,hk.2⟩:_∧k_ ≠ k6))) (fun _ hk=>hk.2) (.int .i64 t119)) (fun _ hk=>hk.2) (.slice api t120.length gJ)) (fun _ h_=>h_.1))) hb) (Kd.nZ aD)) (Kd.nZ mA)) (fun _ h_=>h_.1));replace jI:=k0 (Kd.bP (Kd.vU (Kd.vU (Kd.F9 (by (with_reducible repeat (first|apply Kd.nc|apply Kd.mN|apply Kd.kE));exact (Kd.bP (Kd.ape (p:=⟨k6,1,none⟩) (Kd.ape (p:=⟨k6,0,none⟩) (Kd.bP jI.z (fun k_ hk=>(⟨hk,hk.2⟩:_∧k_ ≠ k6))) (fun _ hk=>hk.2) (.int .i64 t119)) (fun _ hk=>hk.2) (.slice api t120.length gJ)) (fun _ h_=>h_.1))) hb) (Kd.nZ aD)) (Kd.nZ mA)) (fun _ h_=>h_.1));have mM:=k0 (Kd.ig (Kd.kP (Kd.kP (Kd.kP aD (Kd.bT (by (with_reducible repeat (first|apply Kd.dK|apply Kd.dD|apply Kd.cB));exact (Kd.aoY (gR 1 (.slice api t120.length gJ) (gR 0 (.int .i64 t119) (tR bJ cj))) (fun _ h_=>h_.1))))) (Kd.bT (by (with_reducible repeat (first|apply Kd.dK|apply Kd.dD|apply Kd.cB));exact (Kd.aoY (gR 1 (.slice api t120.length gJ) (gR 0 (.int .i64 t119) (tR aoX cj))) (fun _ h_=>h_.1))))) (Kd.bT (by (with_reducible repeat (first|apply Kd.dK|apply Kd.dD|apply Kd.cB));exact (Kd.aoY (gR 1 (.slice api t120.length gJ) (gR 0 (.int .i64 t119) (tR ei cj))) (fun _ h_=>h_.1))))) (aoS bl));have nU:=k0 (Kd.ig (Kd.kP (Kd.kP (Kd.kP mA (Kd.bT (by (with_reducible repeat (first|apply Kd.dK|apply Kd.dD|apply Kd.cB));exact (Kd.aoY (gR 1 (.slice api t120.length gJ) (gR 0 (.int .i64 t119) (tR bJ cj))) (fun _ h_=>h_.1))))) (Kd.bT (by (with_reducible repeat (first|apply Kd.dK|apply Kd.dD|apply Kd.cB));exact (Kd.aoY (gR 1 (.slice api t120.length gJ) (gR 0 (.int .i64 t119) (tR aoX cj))) (fun _ h_=>h_.1))))) (Kd.bT (by (with_reducible repeat (first|apply Kd.dK|apply Kd.dD|apply Kd.cB));exact (Kd.aoY (gR 1 (.slice api t120.length gJ) (gR 0 (.int .i64 t119) (tR ei cj))) (fun _ h_=>h_.1))))) (aoS bl));replace bJ:=k0 (Kd.apn (by (with_reducible repeat (first|apply Kd.dK|apply Kd.dD|apply Kd.cB));exact (Kd.aoY (gR 1 (.slice api t120.length gJ) (gR 0 (.int .i64 t119) (tR bJ cj))) (fun _ h_=>h_.1))) hb);replace aoX:=k0 (Kd.apn (by (with_reducible repeat (first|apply Kd.dK|apply Kd.dD|apply Kd.cB));exact (Kd.aoY (gR 1 (.slice api t120.length gJ) (gR 0 (.int .i64 t119) (tR aoX cj))) (fun _ h_=>h_.1))) hb);replace ei:=k0 (Kd.apn (by (with_reducible repeat (first|apply Kd.dK|apply Kd.dD|apply Kd.cB));exact (Kd.aoY (gR 1 (.slice api t120.length gJ) (gR 0 (.int .i64 t119) (tR ei cj))) (fun _ h_=>h_.1))) hb);replace ao3:=k0 (cZ (g:=kR) (o:=sO t102 kD t103 apq 31) (by (with_reducible repeat (first|refine aoU ?_ _|refine aJ ?_|refine aoQ ?_ _));refine bW ?_ sY.z _;(with_reducible repeat (first|refine aoU ?_ _|refine aJ ?_|refine aoQ ?_ _));refine bW ?_ sY.z _;exact bk) hb);replace cj:=k0 (cZ (g:=k6) (o:=sO t119 api t120 gJ 31) (by (with_reducible repeat (first|refine aoU ?_ _|refine aJ ?_|refine aoQ ?_ _));refine bE (cs:=#[.int .i64 t119,.slice none 0 0]) ?_ 1 _ rfl;(with_reducible repeat (first|refine aoU ?_ _|refine aJ ?_|refine aoQ ?_ _));refine bE (cs:=#[.int .i64 0,.slice none 0 0]) ?_ 0 _ rfl;exact bk) hb);replace HB:=k0 (aH bl hb);)|((with_reducible refine bp (N:=11) rfl ?_);refine bR 11 #[.int .i64 0,.slice none 0 0,.int .i64 0,.slice none 0 0] 33 ?_;intro jD hg CQ aE hb;have aq:=k0 (Kd.apn (aR bJ.z) hb);have au:=k0 (Kd.apn (aR aoX.z) hb);have ax:=k0 (Kd.gI (Kd.ng (aV cL.z) jD (Nat.le_of_eq hg.symm)) hb);have aA:=k0 (Kd.gI (Kd.ng (aV jI.z) jD (Nat.le_of_eq hg.symm)) hb);have aG:=k0 (Kd.apn (aR ei.z) hb);have aM:=k0 (Kd.gB (aS mM.z) hb);have bu:=k0 (Kd.gB (aS nU.z) hb);have cE:=kB ao3 hb;have ao8:=kB cj hb;have cG:=k0 (aH bl hb);have dy:=k0 (aE);have eD:=k0 ((by rw [hg];exact (aoS bl):w.heap.size≤jD));have eT:=k0 ((by rw [hg];exact (aoS bl):w.heap.size≤jD));have fh:=nL hg ao3;have gQ:=nG fh;have nw:=nL hg cj;have CA:=nG nw;clear bJ;clear aoX;clear cL;clear jI;clear ei;clear mM;clear nU;clear ao3;clear cj;clear HB;have bJ:=aq;have aoX:=au;have cL:=ax;have jI:=aA;have ei:=aG;have mM:=aM;have nU:=bu;have ao3:=cE;have cj:=ao8;have HB:=cG;have bI:=dy;have agy:=eD;have agr:=eT;have apT:=fh;have vK:=gQ;have uf:=nw;have zD:=CA;clear aq au ax aA aG aM bu cE ao8 cG dy eD eT fh gQ nw CA;clear hb aE hg;have Sb:=vK.z;have So:=apT.z;have ab6:=zD.z;have acw:=uf.z;have aiw:=aQ bI;have aix:=aoT bI;have aiy:=ao_ bI;have aiz:=ec bI;have akG:=bF bI 0;have akH:=bF bI 1;have akI:=bF bI 2;have akJ:=bF bI 3;obtain ⟨eN,eK,Zp⟩:=Kd.apc mM.z;subst Zp;obtain ⟨ep,eo,D9⟩:=Kd.apc nU.z;subst D9;have Re:=aQ cj;have Rf:=aoT cj;have Rz:=bF cj 0;have RA:=bF cj 1)|((with_reducible refine bg (f:=57) rfl ?_);refine gC (some 67) Try.func57 #[.agg #[.int .i64 t119,.slice api t120.length gJ],.slice hU t123.length gK] ?_;(with_reducible refine (wP.calls apz t119 _ _ t120 _ _ t123 t137 t138 t141 t142 t145 _ ?aoN ?aoP ?bA ?bH vC.z).mono ?_);(case aoN=>refine (Kd.dm (e:=28) (base:=w.heap.size) (ok:=fun k_=>(((((some k_ ≠ (.slice hU t123.length gK:Value).ownBlock∧(some k_ ≠ (.slice dc t106.length cW:Value).ownBlock∧(some k_ ≠ (jF:Value).ownBlock∧k_ ≠ kR)))∧k_ ≠ k6)∧some k_ ≠ (.slice eN t128.length eK:Value).ownBlock)∧some k_ ≠ (.slice ep t132.length eo:Value).ownBlock)∧k_ ≠ jD)) (n:=t120.length) (c:=gJ) ?_).2.2;exact (by (with_reducible repeat (first|apply Kd.nc|apply Kd.mN|apply Kd.kE));exact (Kd.bP (Kd.ape (p:=⟨jD,3,none⟩) (Kd.ape (p:=⟨jD,2,none⟩) (Kd.ape (p:=⟨jD,1,none⟩) (Kd.ape (p:=⟨jD,0,none⟩) (Kd.bP jI.z (fun k_ hk=>(⟨hk,hk.2⟩:_∧k_ ≠ jD))) (fun _ hk=>hk.2) (.int .i64 t127)) (fun _ hk=>hk.2) (.slice eN t128.length eK)) (fun _ hk=>hk.2) (.int .i64 t131)) (fun _ hk=>hk.2) (.slice ep t132.length eo)) (fun _ h_=>h_.1))));(case aoP=>exact (Kd.dm jI.z).2.1);(case bA=>first|(refine (Kd.cx (e:=2) (base:=w.heap.size) (ok:=fun k_=>((True∧some k_ ≠ (.slice dc t106.length cW:Value).ownBlock)∧some k_ ≠ (jF:Value).ownBlock)) (n:=t123.length) (c:=gK) ?_).2.2;exact (by (with_reducible repeat (first|apply Kd.dK|apply Kd.dD|apply Kd.cB));exact (Kd.aoY (gR 3 (.slice ep t132.length eo) (gR 2 (.int .i64 t131) (gR 1 (.slice eN t128.length eK) (gR 0 (.int .i64 t127) (tR ei bI))))) (fun _ h_=>h_.1))))|(refine (Kd.cx (e:=2) (base:=w.heap.size) (ok:=fun k_=>(some k_ ≠ (.slice dc t106.length cW:Value).ownBlock∧some k_ ≠ (jF:Value).ownBlock)) (n:=t123.length) (c:=gK) ?_).2.2;exact (by (with_reducible repeat (first|apply Kd.dK|apply Kd.dD|apply Kd.cB));exact (Kd.aoY (gR 3 (.slice ep t132.length eo) (gR 2 (.int .i64 t131) (gR 1 (.slice eN t128.length eK) (gR 0 (.int .i64 t127) (tR ei bI))))) (fun _ h_=>h_.1)))));(case bH=>exact (Kd.cx ei.z).2.1);rintro e Nr ⟨v139,v143,rfl,aD,mA,hb⟩;refine ⟨_,rfl,?_⟩;replace cL:=k0 (Kd.bP (Kd.vU (Kd.vU (Kd.F9 (by (with_reducible repeat (first|apply Kd.nc|apply Kd.mN|apply Kd.kE));exact (Kd.bP (Kd.ape (p:=⟨jD,3,none⟩) (Kd.ape (p:=⟨jD,2,none⟩) (Kd.ape (p:=⟨jD,1,none⟩) (Kd.ape (p:=⟨jD,0,none⟩) (Kd.bP cL.z (fun k_ hk=>(⟨hk,hk.2⟩:_∧k_ ≠ jD))) (fun _ hk=>hk.2) (.int .i64 t127)) (fun _ hk=>hk.2) (.slice eN t128.length eK)) (fun _ hk=>hk.2) (.int .i64 t131)) (fun _ hk=>hk.2) (.slice ep t132.length eo)) (fun _ h_=>h_.1))) hb) (Kd.nZ aD)) (Kd.nZ mA)) (fun _ h_=>h_.1));replace jI:=k0 (Kd.bP (Kd.vU (Kd.vU (Kd.F9 (by (with_reducible repeat (first|apply Kd.nc|apply Kd.mN|apply Kd.kE));exact (Kd.bP (Kd.ape (p:=⟨jD,3,none⟩) (Kd.ape (p:=⟨jD,2,none⟩) (Kd.ape (p:=⟨jD,1,none⟩) (Kd.ape (p:=⟨jD,0,none⟩) (Kd.bP jI.z (fun k_ hk=>(⟨hk,hk.2⟩:_∧k_ ≠ jD))) (fun _ hk=>hk.2) (.int .i64 t127)) (fun _ hk=>hk.2) (.slice eN t128.length eK)) (fun _ hk=>hk.2) (.int .i64 t131)) (fun _ hk=>hk.2) (.slice ep t132.length eo)) (fun _ h_=>h_.1))) hb) (Kd.nZ aD)) (Kd.nZ mA)) (fun _ h_=>h_.1));have qy:=k0 (Kd.ig (Kd.kP (Kd.kP (Kd.kP (Kd.kP (Kd.kP aD (Kd.bT (by (with_reducible repeat (first|apply Kd.dK|apply Kd.dD|apply Kd.cB));exact (Kd.aoY (gR 3 (.slice ep t132.length eo) (gR 2 (.int .i64 t131) (gR 1 (.slice eN t128.length eK) (gR 0 (.int .i64 t127) (tR bJ bI))))) (fun _ h_=>h_.1))))) (Kd.bT (by (with_reducible repeat (first|apply Kd.dK|apply Kd.dD|apply Kd.cB));exact (Kd.aoY (gR 3 (.slice ep t132.length eo) (gR 2 (.int .i64 t131) (gR 1 (.slice eN t128.length eK) (gR 0 (.int .i64 t127) (tR aoX bI))))) (fun _ h_=>h_.1))))) (Kd.bT (by (with_reducible repeat (first|apply Kd.dK|apply Kd.dD|apply Kd.cB));exact (Kd.aoY (gR 3 (.slice ep t132.length eo) (gR 2 (.int .i64 t131) (gR 1 (.slice eN t128.length eK) (gR 0 (.int .i64 t127) (tR ei bI))))) (fun _ h_=>h_.1))))) (Kd.ap6 (by (with_reducible repeat (first|apply Kd.cM|apply Kd.cI|apply Kd.cr));exact (Kd.bq (gS 3 (.slice ep t132.length eo) (gS 2 (.int .i64 t131) (gS 1 (.slice eN t128.length eK) (gS 0 (.int .i64 t127) (tS mM bI))))) (fun _ h_=>h_.1))))) (Kd.ap6 (by (with_reducible repeat (first|apply Kd.cM|apply Kd.cI|apply Kd.cr));exact (Kd.bq (gS 3 (.slice ep t132.length eo) (gS 2 (.int .i64 t131) (gS 1 (.slice eN t128.length eK) (gS 0 (.int .i64 t127) (tS nU bI))))) (fun _ h_=>h_.1))))) (aoS bl));have rT:=k0 (Kd.ig (Kd.kP (Kd.kP (Kd.kP (Kd.kP (Kd.kP mA (Kd.bT (by (with_reducible repeat (first|apply Kd.dK|apply Kd.dD|apply Kd.cB));exact (Kd.aoY (gR 3 (.slice ep t132.length eo) (gR 2 (.int .i64 t131) (gR 1 (.slice eN t128.length eK) (gR 0 (.int .i64 t127) (tR bJ bI))))) (fun _ h_=>h_.1))))) (Kd.bT (by (with_reducible repeat (first|apply Kd.dK|apply Kd.dD|apply Kd.cB));exact (Kd.aoY (gR 3 (.slice ep t132.length eo) (gR 2 (.int .i64 t131) (gR 1 (.slice eN t128.length eK) (gR 0 (.int .i64 t127) (tR aoX bI))))) (fun _ h_=>h_.1))))) (Kd.bT (by (with_reducible repeat (first|apply Kd.dK|apply Kd.dD|apply Kd.cB));exact (Kd.aoY (gR 3 (.slice ep t132.length eo) (gR 2 (.int .i64 t131) (gR 1 (.slice eN t128.length eK) (gR 0 (.int .i64 t127) (tR ei bI))))) (fun _ h_=>h_.1))))) (Kd.ap6 (by (with_reducible repeat (first|apply Kd.cM|apply Kd.cI|apply Kd.cr));exact (Kd.bq (gS 3 (.slice ep t132.length eo) (gS 2 (.int .i64 t131) (gS 1 (.slice eN t128.length eK) (gS 0 (.int .i64 t127) (tS mM bI))))) (fun _ h_=>h_.1))))) (Kd.ap6 (by (with_reducible repeat (first|apply Kd.cM|apply Kd.cI|apply Kd.cr));exact (Kd.bq (gS 3 (.slice ep t132.length eo) (gS 2 (.int .i64 t131) (gS 1 (.slice eN t128.length eK) (gS 0 (.int .i64 t127) (tS nU bI))))) (fun _ h_=>h_.1))))) (aoS bl));replace bJ:=k0 (Kd.apn (by (with_reducible repeat (first|apply Kd.dK|apply Kd.dD|apply Kd.cB));exact (Kd.aoY (gR 3 (.slice ep t132.length eo) (gR 2 (.int .i64 t131) (gR 1 (.slice eN t128.length eK) (gR 0 (.int .i64 t127) (tR bJ bI))))) (fun _ h_=>h_.1))) hb);replace aoX:=k0 (Kd.apn (by (with_reducible repeat (first|apply Kd.dK|apply Kd.dD|apply Kd.cB));exact (Kd.aoY (gR 3 (.slice ep t132.length eo) (gR 2 (.int .i64 t131) (gR 1 (.slice eN t128.length eK) (gR 0 (.int .i64 t127) (tR aoX bI))))) (fun _ h_=>h_.1))) hb);replace ei:=k0 (Kd.apn (by (with_reducible repeat (first|apply Kd.dK|apply Kd.dD|apply Kd.cB));exact (Kd.aoY (gR 3 (.slice ep t132.length eo) (gR 2 (.int .i64 t131) (gR 1 (.slice eN t128.length eK) (gR 0 (.int .i64 t127) (tR ei bI))))) (fun _ h_=>h_.1))) hb);replace mM:=k0 (Kd.bq (Kd.F7 (Kd.F7 (Kd.O3 (by (with_reducible repeat (first|apply Kd.cM|apply Kd.cI|apply Kd.cr));exact (Kd.bq (gS 3 (.slice ep t132.length eo) (gS 2 (.int .i64 t131) (gS 1 (.slice eN t128.length eK) (gS 0 (.int .i64 t127) (tS mM bI))))) (fun _ h_=>h_.1))) hb) (Kd.nZ aD)) (Kd.nZ mA)) (fun _ h_=>h_.1));replace nU:=k0 (Kd.bq (Kd.F7 (Kd.F7 (Kd.O3 (by (with_reducible repeat (first|apply Kd.cM|apply Kd.cI|apply Kd.cr));exact (Kd.bq (gS 3 (.slice ep t132.length eo) (gS 2 (.int .i64 t131) (gS 1 (.slice eN t128.length eK) (gS 0 (.int .i64 t127) (tS nU bI))))) (fun _ h_=>h_.1))) hb) (Kd.nZ aD)) (Kd.nZ mA)) (fun _ h_=>h_.1));replace ao3:=k0 (cZ (g:=kR) (o:=sO t102 kD t103 apq 31) (by (with_reducible repeat (first|refine aoU ?_ _|refine aJ ?_|refine aoQ ?_ _));refine bW ?_ apT.z _;(with_reducible repeat (first|refine aoU ?_ _|refine aJ ?_|refine aoQ ?_ _));refine bW ?_ apT.z _;(with_reducible repeat (first|refine aoU ?_ _|refine aJ ?_|refine aoQ ?_ _));refine bW ?_ apT.z _;(with_reducible repeat (first|refine aoU ?_ _|refine aJ ?_|refine aoQ ?_ _));refine bW ?_ apT.z _;exact bk) hb);replace cj:=k0 (cZ (g:=k6) (o:=sO t119 api t120 gJ 31) (by (with_reducible repeat (first|refine aoU ?_ _|refine aJ ?_|refine aoQ ?_ _));refine bW ?_ uf.z _;(with_reducible repeat (first|refine aoU ?_ _|refine aJ ?_|refine aoQ ?_ _));refine bW ?_ uf.z _;(with_reducible repeat (first|refine aoU ?_ _|refine aJ ?_|refine aoQ ?_ _));refine bW ?_ uf.z _;(with_reducible repeat (first|refine aoU ?_ _|refine aJ ?_|refine aoQ ?_ _));refine bW ?_ uf.z _;exact bk) hb);replace bI:=k0 (cZ (g:=jD) (o:=.cells #[.int .i64 t127,.slice eN t128.length eK,.int .i64 t131,.slice ep t132.length eo] 33 (0,0)) (by (with_reducible repeat (first|refine aoU ?_ _|refine aJ ?_|refine aoQ ?_ _));refine bE (cs:=#[.int .i64 t127,.slice eN t128.length eK,.int .i64 t131,.slice none 0 0]) ?_ 3 _ rfl;(with_reducible repeat (first|refine aoU ?_ _|refine aJ ?_|refine aoQ ?_ _));refine bE (cs:=#[.int .i64 t127,.slice eN t128.length eK,.int .i64 0,.slice none 0 0]) ?_ 2 _ rfl;(with_reducible repeat (first|refine aoU ?_ _|refine aJ ?_|refine aoQ ?_ _));refine bE (cs:=#[.int .i64 t127,.slice none 0 0,.int .i64 0,.slice none 0 0]) ?_ 1 _ rfl;(with_reducible repeat (first|refine aoU ?_ _|refine aJ ?_|refine aoQ ?_ _));refine bE (cs:=#[.int .i64 0,.slice none 0 0,.int .i64 0,.slice none 0 0]) ?_ 0 _ rfl;exact bk) hb);replace HB:=k0 (aH bl hb);)|((with_reducible refine bp (N:=13) rfl ?_);refine bR 13 #[.int .i64 0,.slice none 0 0,.int .i64 0,.slice none 0 0] 33 ?_;intro i_ hg w40 aE hb;have aq:=k0 (Kd.apn (aR bJ.z) hb);have au:=k0 (Kd.apn (aR aoX.z) hb);have ax:=k0 (Kd.gI (Kd.ng (aV cL.z) i_ (Nat.le_of_eq hg.symm)) hb);have aA:=k0 (Kd.gI (Kd.ng (aV jI.z) i_ (Nat.le_of_eq hg.symm)) hb);have aG:=k0 (Kd.apn (aR ei.z) hb);have aM:=k0 (Kd.gB (aS mM.z) hb);have bu:=k0 (Kd.gB (aS nU.z) hb);have cE:=k0 (Kd.gB (aS qy.z) hb);have ao8:=k0 (Kd.gB (aS rT.z) hb);have cG:=kB ao3 hb;have dy:=kB cj hb;have eD:=kB bI hb;have eT:=k0 (aH bl hb);have fh:=k0 (aE);have gQ:=k0 ((by rw [hg];exact (aoS bl):w.heap.size≤i_));have nw:=k0 ((by rw [hg];exact (aoS bl):w.heap.size≤i_));have CA:=nL hg ao3;have Tm:=nG CA;have Mm:=nL hg cj;have Tn:=nG Mm;have Mn:=nL hg bI;have To:=nG Mn;clear bJ;clear aoX;clear cL;clear jI;clear ei;clear mM;clear nU;clear qy;clear rT;clear ao3;clear cj;clear bI;clear HB;have bJ:=aq;have aoX:=au;have cL:=ax;have jI:=aA;have ei:=aG;have mM:=aM;have nU:=bu;have qy:=cE;have rT:=ao8;have ao3:=cG;have cj:=dy;have bI:=eD;have HB:=eT;have cH:=fh;have agz:=gQ;have ags:=nw;have rX:=CA;have Du:=Tm;have qC:=Mm;have zE:=Tn;have qD:=Mn;have zF:=To;clear aq au ax aA aG aM bu cE ao8 cG dy eD eT fh gQ nw CA Tm Mm Tn Mn To;clear hb aE hg;have ab8:=Du.z;have acz:=rX.z;have ab9:=zE.z;have acA:=qC.z;have ab':=zF.z;have acB:=qD.z;have aiQ:=aQ cH;have aiR:=aoT cH;have aiS:=ao_ cH;have aiT:=ec cH;have ak0:=bF cH 0;have ak1:=bF cH 1;have ak2:=bF cH 2;have ak3:=bF cH 3;obtain ⟨fk,fe,Zr⟩:=Kd.apc qy.z;subst Zr;obtain ⟨ej,ee,aqD⟩:=Kd.apc rT.z;subst aqD))
     (try simp only [Act.put,zI,zZ,zS])
     go_cut [78] (fun v78 wc=>∃ (kq:Nat) (Iy:Bool),v78=.bool Iy∧aj (dL.j1 kq t106 t110 t113 t123 t135 Iy t102 t103 t119 t120 t127 t128 t131 t132=some r)∧aj (kq≤apz)∧aj (Kd.R (Kd.int .i64) 2 wc w.heap.size (fun k_=>some k_ ≠ (jF:Value).ownBlock∧some k_ ≠ ((.slice hU t123.length gK):Value).ownBlock) (.slice dc t106.length cW) t106)∧aj (Kd.R (Kd.int .i64) 2 wc w.heap.size (fun k_=>some k_ ≠ ((.slice dc t106.length cW):Value).ownBlock∧some k_ ≠ ((.slice hU t123.length gK):Value).ownBlock) jF t110)∧aj (Kd.R (Kd.int .i64) 2 wc w.heap.size (fun k_=>some k_ ≠ ((.slice dc t106.length cW):Value).ownBlock∧some k_ ≠ (jF:Value).ownBlock) (.slice hU t123.length gK) t123)∧aj (Kd.V (Kd.slice 2 (Kd.int .i64)) 28 wc w.heap.size (fun k_=>some k_ ≠ ((.slice dc t106.length cW):Value).ownBlock∧some k_ ≠ (jF:Value).ownBlock∧some k_ ≠ ((.slice hU t123.length gK):Value).ownBlock∧some k_ ≠ ((.slice eN t128.length eK):Value).ownBlock∧some k_ ≠ ((.slice ep t132.length eo):Value).ownBlock∧some k_ ≠ ((.slice fk t138.length fe):Value).ownBlock∧some k_ ≠ ((.slice ej t142.length ee):Value).ownBlock∧k_ ≠ kR∧k_ ≠ k6∧k_ ≠ jD∧k_ ≠ i_) (.slice kD t103.length apq) t103)∧aj (Kd.V (Kd.slice 2 (Kd.int .i64)) 28 wc w.heap.size (fun k_=>some k_ ≠ ((.slice dc t106.length cW):Value).ownBlock∧some k_ ≠ (jF:Value).ownBlock∧some k_ ≠ ((.slice hU t123.length gK):Value).ownBlock∧some k_ ≠ ((.slice eN t128.length eK):Value).ownBlock∧some k_ ≠ ((.slice ep t132.length eo):Value).ownBlock∧some k_ ≠ ((.slice fk t138.length fe):Value).ownBlock∧some k_ ≠ ((.slice ej t142.length ee):Value).ownBlock∧k_ ≠ kR∧k_ ≠ k6∧k_ ≠ jD∧k_ ≠ i_) (.slice api t120.length gJ) t120)∧aj (Kd.S (Kd.slice 2 (Kd.int .i64)) 28 wc w.heap.size (fun k_=>some k_ ≠ ((.slice dc t106.length cW):Value).ownBlock∧some k_ ≠ (jF:Value).ownBlock∧some k_ ≠ ((.slice hU t123.length gK):Value).ownBlock∧some k_ ≠ ((.slice ep t132.length eo):Value).ownBlock∧some k_ ≠ ((.slice fk t138.length fe):Value).ownBlock∧some k_ ≠ ((.slice ej t142.length ee):Value).ownBlock) (.slice eN t128.length eK) t128)∧aj (Kd.S (Kd.slice 2 (Kd.int .i64)) 28 wc w.heap.size (fun k_=>some k_ ≠ ((.slice dc t106.length cW):Value).ownBlock∧some k_ ≠ (jF:Value).ownBlock∧some k_ ≠ ((.slice hU t123.length gK):Value).ownBlock∧some k_ ≠ ((.slice eN t128.length eK):Value).ownBlock∧some k_ ≠ ((.slice fk t138.length fe):Value).ownBlock∧some k_ ≠ ((.slice ej t142.length ee):Value).ownBlock) (.slice ep t132.length eo) t132)∧aj (Kd.S (Kd.slice 2 (Kd.int .i64)) 28 wc w.heap.size (fun k_=>some k_ ≠ ((.slice dc t106.length cW):Value).ownBlock∧some k_ ≠ (jF:Value).ownBlock∧some k_ ≠ ((.slice hU t123.length gK):Value).ownBlock∧some k_ ≠ ((.slice eN t128.length eK):Value).ownBlock∧some k_ ≠ ((.slice ep t132.length eo):Value).ownBlock∧some k_ ≠ ((.slice ej t142.length ee):Value).ownBlock) (.slice fk t138.length fe) t138)∧aj (Kd.S (Kd.slice 2 (Kd.int .i64)) 28 wc w.heap.size (fun k_=>some k_ ≠ ((.slice dc t106.length cW):Value).ownBlock∧some k_ ≠ (jF:Value).ownBlock∧some k_ ≠ ((.slice hU t123.length gK):Value).ownBlock∧some k_ ≠ ((.slice eN t128.length eK):Value).ownBlock∧some k_ ≠ ((.slice ep t132.length eo):Value).ownBlock∧some k_ ≠ ((.slice fk t138.length fe):Value).ownBlock) (.slice ej t142.length ee) t142)∧aj (wc.heap[kR]?=some (sO t102 kD t103 apq 31))∧aj (wc.heap[k6]?=some (sO t119 api t120 gJ 31))∧aj (wc.heap[jD]?=some (.cells #[.int .i64 t127,(.slice eN t128.length eK),.int .i64 t131,(.slice ep t132.length eo)] 33 (0,0)))∧aj (wc.heap[i_]?=some (.cells #[.int .i64 t137,(.slice fk t138.length fe),.int .i64 t141,(.slice ej t142.length ee)] 33 (0,0)))∧aj (Below w.heap.size w wc))
     case first =>
      have H:=I8.z
      clear I8
      by_cases c47:t135=t145
      case neg =>
       rw [if_neg c47] at H
       have xd:(t135 == t145)=false:=beq_eq_false_iff_ne.mpr c47
       have XZ:(t135 != t145)=true:=bne_iff_ne.mpr c47
       (first|rw [xd]|(simp only [cm,cO];rw [xd])|skip)
       have H':=k0 H
       clear H
       go_wp2
       go_meet
       case rel=>exact ⟨_,(true),rs,H',⟨by have:=zu.out;first|omega|exact Nat.le_refl _⟩,⟨aR (Kd.aoY (gR 3 (.slice ej t142.length ee) (gR 2 (.int .i64 t141) (gR 1 (.slice fk t138.length fe) (gR 0 (.int .i64 t137) (tR bJ cH))))) (fun _ hk=>⟨hk.1.1,hk.1.2⟩))⟩,⟨aR (Kd.aoY (gR 3 (.slice ej t142.length ee) (gR 2 (.int .i64 t141) (gR 1 (.slice fk t138.length fe) (gR 0 (.int .i64 t137) (tR aoX cH))))) (fun _ hk=>⟨hk.1.1,hk.1.2⟩))⟩,⟨aR (Kd.aoY (gR 3 (.slice ej t142.length ee) (gR 2 (.int .i64 t141) (gR 1 (.slice fk t138.length fe) (gR 0 (.int .i64 t137) (tR ei cH))))) (fun _ hk=>⟨hk.1.1.2,hk.1.2⟩))⟩,⟨aV (Kd.bP (Kd.ape (p:=⟨i_,3,none⟩) (Kd.ape (p:=⟨i_,2,none⟩) (Kd.ape (p:=⟨i_,1,none⟩) (Kd.ape (p:=⟨i_,0,none⟩) (Kd.bP cL.z (fun k_ hk=>(⟨hk,hk.2⟩:_∧k_ ≠ i_))) (fun _ hk=>hk.2) (.int .i64 t137)) (fun _ hk=>hk.2) (.slice fk t138.length fe)) (fun _ hk=>hk.2) (.int .i64 t141)) (fun _ hk=>hk.2) (.slice ej t142.length ee)) (fun _ hk=>⟨hk.1.1.1.1.1.1.1.1.1.1,⟨hk.1.1.1.1.1.1.1.1.1.2.1,⟨hk.1.1.1.1.1.1.1.1.2,⟨hk.1.1.1.1.1.1.2,⟨hk.1.1.1.1.1.2,⟨hk.1.1.1.2,⟨hk.1.1.2,⟨hk.1.1.1.1.1.1.1.1.1.2.2,⟨hk.1.1.1.1.1.1.1.2,⟨hk.1.1.1.1.2,hk.1.2⟩⟩⟩⟩⟩⟩⟩⟩⟩⟩))⟩,⟨aV (Kd.bP (Kd.ape (p:=⟨i_,3,none⟩) (Kd.ape (p:=⟨i_,2,none⟩) (Kd.ape (p:=⟨i_,1,none⟩) (Kd.ape (p:=⟨i_,0,none⟩) (Kd.bP jI.z (fun k_ hk=>(⟨hk,hk.2⟩:_∧k_ ≠ i_))) (fun _ hk=>hk.2) (.int .i64 t137)) (fun _ hk=>hk.2) (.slice fk t138.length fe)) (fun _ hk=>hk.2) (.int .i64 t141)) (fun _ hk=>hk.2) (.slice ej t142.length ee)) (fun _ hk=>⟨hk.1.1.1.1.1.1.1.1.2.1,⟨hk.1.1.1.1.1.1.1.1.2.2.1,⟨hk.1.1.1.1.1.1.1.1.1,⟨hk.1.1.1.1.1.1.2,⟨hk.1.1.1.1.1.2,⟨hk.1.1.1.2,⟨hk.1.1.2,⟨hk.1.1.1.1.1.1.1.1.2.2.2,⟨hk.1.1.1.1.1.1.1.2,⟨hk.1.1.1.1.2,hk.1.2⟩⟩⟩⟩⟩⟩⟩⟩⟩⟩))⟩,⟨aS (Kd.bq (gS 3 (.slice ej t142.length ee) (gS 2 (.int .i64 t141) (gS 1 (.slice fk t138.length fe) (gS 0 (.int .i64 t137) (tS mM cH))))) (fun _ hk=>⟨hk.1.1.1.1.1.2,⟨hk.1.1.1.1.2,⟨hk.1.1.1.2,⟨hk.1.1.1.1.1.1,⟨hk.1.1.2,hk.1.2⟩⟩⟩⟩⟩))⟩,⟨aS (Kd.bq (gS 3 (.slice ej t142.length ee) (gS 2 (.int .i64 t141) (gS 1 (.slice fk t138.length fe) (gS 0 (.int .i64 t137) (tS nU cH))))) (fun _ hk=>⟨hk.1.1.1.1.1.2,⟨hk.1.1.1.1.2,⟨hk.1.1.1.2,⟨hk.1.1.1.1.1.1,⟨hk.1.1.2,hk.1.2⟩⟩⟩⟩⟩))⟩,⟨aS (Kd.bq (gS 3 (.slice ej t142.length ee) (gS 2 (.int .i64 t141) (gS 1 (.slice fk t138.length fe) (gS 0 (.int .i64 t137) (tS qy cH))))) (fun _ hk=>⟨hk.1.1.1.1.1.2,⟨hk.1.1.1.1.2,⟨hk.1.1.1.2,⟨hk.1.1.2,⟨hk.1.2,hk.1.1.1.1.1.1⟩⟩⟩⟩⟩))⟩,⟨aS (Kd.bq (gS 3 (.slice ej t142.length ee) (gS 2 (.int .i64 t141) (gS 1 (.slice fk t138.length fe) (gS 0 (.int .i64 t137) (tS rT cH))))) (fun _ hk=>⟨hk.1.1.1.1.1.2,⟨hk.1.1.1.1.2,⟨hk.1.1.1.2,⟨hk.1.1.2,⟨hk.1.2,hk.1.1.1.1.1.1⟩⟩⟩⟩⟩))⟩,⟨by (with_reducible repeat (first|refine aoU ?_ _|refine aJ ?_|refine aoQ ?_ _));refine bW ?_ rX.z _;(with_reducible repeat (first|refine aoU ?_ _|refine aJ ?_|refine aoQ ?_ _));refine bW ?_ rX.z _;(with_reducible repeat (first|refine aoU ?_ _|refine aJ ?_|refine aoQ ?_ _));refine bW ?_ rX.z _;(with_reducible repeat (first|refine aoU ?_ _|refine aJ ?_|refine aoQ ?_ _));refine bW ?_ rX.z _;exact bk⟩,⟨by (with_reducible repeat (first|refine aoU ?_ _|refine aJ ?_|refine aoQ ?_ _));refine bW ?_ qC.z _;(with_reducible repeat (first|refine aoU ?_ _|refine aJ ?_|refine aoQ ?_ _));refine bW ?_ qC.z _;(with_reducible repeat (first|refine aoU ?_ _|refine aJ ?_|refine aoQ ?_ _));refine bW ?_ qC.z _;(with_reducible repeat (first|refine aoU ?_ _|refine aJ ?_|refine aoQ ?_ _));refine bW ?_ qC.z _;exact bk⟩,⟨by (with_reducible repeat (first|refine aoU ?_ _|refine aJ ?_|refine aoQ ?_ _));refine bW ?_ qD.z _;(with_reducible repeat (first|refine aoU ?_ _|refine aJ ?_|refine aoQ ?_ _));refine bW ?_ qD.z _;(with_reducible repeat (first|refine aoU ?_ _|refine aJ ?_|refine aoQ ?_ _));refine bW ?_ qD.z _;(with_reducible repeat (first|refine aoU ?_ _|refine aJ ?_|refine aoQ ?_ _));refine bW ?_ qD.z _;exact bk⟩,⟨by (with_reducible repeat (first|refine aoU ?_ _|refine aJ ?_|refine aoQ ?_ _));refine bE (cs:=#[.int .i64 t137,.slice fk t138.length fe,.int .i64 t141,.slice none 0 0]) ?_ 3 _ rfl;(with_reducible repeat (first|refine aoU ?_ _|refine aJ ?_|refine aoQ ?_ _));refine bE (cs:=#[.int .i64 t137,.slice fk t138.length fe,.int .i64 0,.slice none 0 0]) ?_ 2 _ rfl;(with_reducible repeat (first|refine aoU ?_ _|refine aJ ?_|refine aoQ ?_ _));refine bE (cs:=#[.int .i64 t137,.slice none 0 0,.int .i64 0,.slice none 0 0]) ?_ 1 _ rfl;(with_reducible repeat (first|refine aoU ?_ _|refine aJ ?_|refine aoQ ?_ _));refine bE (cs:=#[.int .i64 0,.slice none 0 0,.int .i64 0,.slice none 0 0]) ?_ 0 _ rfl;exact bk⟩,⟨bl⟩⟩
      rw [if_pos c47] at H
      have xd:(t135 == t145)=true:=beq_iff_eq.mpr c47
      have XZ:(t135 != t145)=false:=bne_eq_false_iff_eq.mpr c47
      clear c47
      (first|rw [xd]|(simp only [cm,cO];rw [xd])|skip)
      replace H:=Option.bind_eq_some_iff.mp H
      obtain ⟨t147,NP,H⟩:=H
      replace H:(dL.j1 apz t106 t110 t113 t123 t135 (!t147) t102 t103 t119 t120 t127 t128 t131 t132)=some r:=H
      have UN:=k0 NP
      clear NP
      have H':=k0 H
      clear H
      have acd:=vK.z
      have acD:=apT.z
      have ace:=zD.z
      have acE:=uf.z
      have acf:=qD.z
      have acF:=zF.z
      have aaW:=aQ bI
      have aaX:=aoT bI
      have aiY:=ao_ bI
      have aiZ:=ec bI
      have abI:=bF bI 0
      have abJ:=bF bI 1
      have ak8:=bF bI 2
      have ak9:=bF bI 3
      have acg:=Du.z
      have acG:=rX.z
      have ach:=zE.z
      have acH:=qC.z
      have Rg:=aQ cH
      have Rh:=aoT cH
      have ai2:=ao_ cH
      have ai3:=ec cH
      have RB:=bF cH 0
      have RC:=bF cH 1
      have ala:=bF cH 2
      have alb:=bF cH 3
      go_wp2_with (first|(go_at_call 58;(with_reducible refine (sQ.calls apz t127 _ _ t128 t131 _ _ t132 t137 _ _ t138 t141 _ _ t142 t147 _ ?aoN ?aoP ?bA ?bH ?apC ?aqc ?vk ?xB UN.z).mono ?_);(case aoN=>refine (Kd.cQ (e:=28) (base:=w.heap.size) (ok:=fun k_=>(((((some k_ ≠ (.slice ep t132.length eo:Value).ownBlock∧some k_ ≠ (.slice dc t106.length cW:Value).ownBlock)∧some k_ ≠ (jF:Value).ownBlock)∧some k_ ≠ (.slice hU t123.length gK:Value).ownBlock)∧some k_ ≠ (.slice fk t138.length fe:Value).ownBlock)∧some k_ ≠ (.slice ej t142.length ee:Value).ownBlock)) (n:=t128.length) (c:=eK) ?_).2.2;exact (by (with_reducible repeat (first|apply Kd.cM|apply Kd.cI|apply Kd.cr));exact (Kd.bq (gS 3 (.slice ej t142.length ee) (gS 2 (.int .i64 t141) (gS 1 (.slice fk t138.length fe) (gS 0 (.int .i64 t137) (tS mM cH))))) (fun _ h_=>h_.1))));(case aoP=>exact (Kd.cQ mM.z).2.1);(case bA=>refine (Kd.cQ (e:=28) (base:=w.heap.size) (ok:=fun k_=>(((((some k_ ≠ (.slice eN t128.length eK:Value).ownBlock∧some k_ ≠ (.slice dc t106.length cW:Value).ownBlock)∧some k_ ≠ (jF:Value).ownBlock)∧some k_ ≠ (.slice hU t123.length gK:Value).ownBlock)∧some k_ ≠ (.slice fk t138.length fe:Value).ownBlock)∧some k_ ≠ (.slice ej t142.length ee:Value).ownBlock)) (n:=t132.length) (c:=eo) ?_).2.2;exact (by (with_reducible repeat (first|apply Kd.cM|apply Kd.cI|apply Kd.cr));exact (Kd.bq (gS 3 (.slice ej t142.length ee) (gS 2 (.int .i64 t141) (gS 1 (.slice fk t138.length fe) (gS 0 (.int .i64 t137) (tS nU cH))))) (fun _ h_=>h_.1))));(case bH=>exact (Kd.cQ nU.z).2.1);(case apC=>refine (Kd.cQ (e:=28) (base:=w.heap.size) (ok:=fun k_=>(((((some k_ ≠ (.slice ej t142.length ee:Value).ownBlock∧some k_ ≠ (.slice dc t106.length cW:Value).ownBlock)∧some k_ ≠ (jF:Value).ownBlock)∧some k_ ≠ (.slice hU t123.length gK:Value).ownBlock)∧some k_ ≠ (.slice eN t128.length eK:Value).ownBlock)∧some k_ ≠ (.slice ep t132.length eo:Value).ownBlock)) (n:=t138.length) (c:=fe) ?_).2.2;exact (by (with_reducible repeat (first|apply Kd.cM|apply Kd.cI|apply Kd.cr));exact (Kd.bq (gS 3 (.slice ej t142.length ee) (gS 2 (.int .i64 t141) (gS 1 (.slice fk t138.length fe) (gS 0 (.int .i64 t137) (tS qy cH))))) (fun _ h_=>h_.1))));(case aqc=>exact (Kd.cQ qy.z).2.1);(case vk=>refine (Kd.cQ (e:=28) (base:=w.heap.size) (ok:=fun k_=>(((((some k_ ≠ (.slice fk t138.length fe:Value).ownBlock∧some k_ ≠ (.slice dc t106.length cW:Value).ownBlock)∧some k_ ≠ (jF:Value).ownBlock)∧some k_ ≠ (.slice hU t123.length gK:Value).ownBlock)∧some k_ ≠ (.slice eN t128.length eK:Value).ownBlock)∧some k_ ≠ (.slice ep t132.length eo:Value).ownBlock)) (n:=t142.length) (c:=ee) ?_).2.2;exact (by (with_reducible repeat (first|apply Kd.cM|apply Kd.cI|apply Kd.cr));exact (Kd.bq (gS 3 (.slice ej t142.length ee) (gS 2 (.int .i64 t141) (gS 1 (.slice fk t138.length fe) (gS 0 (.int .i64 t137) (tS rT cH))))) (fun _ h_=>h_.1))));(case xB=>exact (Kd.cQ rT.z).2.1);rintro e Ug ⟨rfl,hb⟩;replace bJ:=k0 (Kd.apn (by (with_reducible repeat (first|apply Kd.dK|apply Kd.dD|apply Kd.cB));exact (Kd.aoY (gR 3 (.slice ej t142.length ee) (gR 2 (.int .i64 t141) (gR 1 (.slice fk t138.length fe) (gR 0 (.int .i64 t137) (tR bJ cH))))) (fun _ h_=>h_.1))) hb);replace aoX:=k0 (Kd.apn (by (with_reducible repeat (first|apply Kd.dK|apply Kd.dD|apply Kd.cB));exact (Kd.aoY (gR 3 (.slice ej t142.length ee) (gR 2 (.int .i64 t141) (gR 1 (.slice fk t138.length fe) (gR 0 (.int .i64 t137) (tR aoX cH))))) (fun _ h_=>h_.1))) hb);replace cL:=k0 (Kd.gI (by (with_reducible repeat (first|apply Kd.nc|apply Kd.mN|apply Kd.kE));exact (Kd.bP (Kd.ape (p:=⟨i_,3,none⟩) (Kd.ape (p:=⟨i_,2,none⟩) (Kd.ape (p:=⟨i_,1,none⟩) (Kd.ape (p:=⟨i_,0,none⟩) (Kd.bP cL.z (fun k_ hk=>(⟨hk,hk.2⟩:_∧k_ ≠ i_))) (fun _ hk=>hk.2) (.int .i64 t137)) (fun _ hk=>hk.2) (.slice fk t138.length fe)) (fun _ hk=>hk.2) (.int .i64 t141)) (fun _ hk=>hk.2) (.slice ej t142.length ee)) (fun _ h_=>h_.1))) hb);replace jI:=k0 (Kd.gI (by (with_reducible repeat (first|apply Kd.nc|apply Kd.mN|apply Kd.kE));exact (Kd.bP (Kd.ape (p:=⟨i_,3,none⟩) (Kd.ape (p:=⟨i_,2,none⟩) (Kd.ape (p:=⟨i_,1,none⟩) (Kd.ape (p:=⟨i_,0,none⟩) (Kd.bP jI.z (fun k_ hk=>(⟨hk,hk.2⟩:_∧k_ ≠ i_))) (fun _ hk=>hk.2) (.int .i64 t137)) (fun _ hk=>hk.2) (.slice fk t138.length fe)) (fun _ hk=>hk.2) (.int .i64 t141)) (fun _ hk=>hk.2) (.slice ej t142.length ee)) (fun _ h_=>h_.1))) hb);replace ei:=k0 (Kd.apn (by (with_reducible repeat (first|apply Kd.dK|apply Kd.dD|apply Kd.cB));exact (Kd.aoY (gR 3 (.slice ej t142.length ee) (gR 2 (.int .i64 t141) (gR 1 (.slice fk t138.length fe) (gR 0 (.int .i64 t137) (tR ei cH))))) (fun _ h_=>h_.1))) hb);replace mM:=k0 (Kd.gB (by (with_reducible repeat (first|apply Kd.cM|apply Kd.cI|apply Kd.cr));exact (Kd.bq (gS 3 (.slice ej t142.length ee) (gS 2 (.int .i64 t141) (gS 1 (.slice fk t138.length fe) (gS 0 (.int .i64 t137) (tS mM cH))))) (fun _ h_=>h_.1))) hb);replace nU:=k0 (Kd.gB (by (with_reducible repeat (first|apply Kd.cM|apply Kd.cI|apply Kd.cr));exact (Kd.bq (gS 3 (.slice ej t142.length ee) (gS 2 (.int .i64 t141) (gS 1 (.slice fk t138.length fe) (gS 0 (.int .i64 t137) (tS nU cH))))) (fun _ h_=>h_.1))) hb);replace qy:=k0 (Kd.gB (by (with_reducible repeat (first|apply Kd.cM|apply Kd.cI|apply Kd.cr));exact (Kd.bq (gS 3 (.slice ej t142.length ee) (gS 2 (.int .i64 t141) (gS 1 (.slice fk t138.length fe) (gS 0 (.int .i64 t137) (tS qy cH))))) (fun _ h_=>h_.1))) hb);replace rT:=k0 (Kd.gB (by (with_reducible repeat (first|apply Kd.cM|apply Kd.cI|apply Kd.cr));exact (Kd.bq (gS 3 (.slice ej t142.length ee) (gS 2 (.int .i64 t141) (gS 1 (.slice fk t138.length fe) (gS 0 (.int .i64 t137) (tS rT cH))))) (fun _ h_=>h_.1))) hb);replace ao3:=k0 (cZ (g:=kR) (o:=sO t102 kD t103 apq 31) (by (with_reducible repeat (first|refine aoU ?_ _|refine aJ ?_|refine aoQ ?_ _));refine bW ?_ rX.z _;(with_reducible repeat (first|refine aoU ?_ _|refine aJ ?_|refine aoQ ?_ _));refine bW ?_ rX.z _;(with_reducible repeat (first|refine aoU ?_ _|refine aJ ?_|refine aoQ ?_ _));refine bW ?_ rX.z _;(with_reducible repeat (first|refine aoU ?_ _|refine aJ ?_|refine aoQ ?_ _));refine bW ?_ rX.z _;exact bk) hb);replace cj:=k0 (cZ (g:=k6) (o:=sO t119 api t120 gJ 31) (by (with_reducible repeat (first|refine aoU ?_ _|refine aJ ?_|refine aoQ ?_ _));refine bW ?_ qC.z _;(with_reducible repeat (first|refine aoU ?_ _|refine aJ ?_|refine aoQ ?_ _));refine bW ?_ qC.z _;(with_reducible repeat (first|refine aoU ?_ _|refine aJ ?_|refine aoQ ?_ _));refine bW ?_ qC.z _;(with_reducible repeat (first|refine aoU ?_ _|refine aJ ?_|refine aoQ ?_ _));refine bW ?_ qC.z _;exact bk) hb);replace bI:=k0 (cZ (g:=jD) (o:=.cells #[.int .i64 t127,.slice eN t128.length eK,.int .i64 t131,.slice ep t132.length eo] 33 (0,0)) (by (with_reducible repeat (first|refine aoU ?_ _|refine aJ ?_|refine aoQ ?_ _));refine bW ?_ qD.z _;(with_reducible repeat (first|refine aoU ?_ _|refine aJ ?_|refine aoQ ?_ _));refine bW ?_ qD.z _;(with_reducible repeat (first|refine aoU ?_ _|refine aJ ?_|refine aoQ ?_ _));refine bW ?_ qD.z _;(with_reducible repeat (first|refine aoU ?_ _|refine aJ ?_|refine aoQ ?_ _));refine bW ?_ qD.z _;exact bk) hb);replace cH:=k0 (cZ (g:=i_) (o:=.cells #[.int .i64 t137,.slice fk t138.length fe,.int .i64 t141,.slice ej t142.length ee] 33 (0,0)) (by (with_reducible repeat (first|refine aoU ?_ _|refine aJ ?_|refine aoQ ?_ _));refine bE (cs:=#[.int .i64 t137,.slice fk t138.length fe,.int .i64 t141,.slice none 0 0]) ?_ 3 _ rfl;(with_reducible repeat (first|refine aoU ?_ _|refine aJ ?_|refine aoQ ?_ _));refine bE (cs:=#[.int .i64 t137,.slice fk t138.length fe,.int .i64 0,.slice none 0 0]) ?_ 2 _ rfl;(with_reducible repeat (first|refine aoU ?_ _|refine aJ ?_|refine aoQ ?_ _));refine bE (cs:=#[.int .i64 t137,.slice none 0 0,.int .i64 0,.slice none 0 0]) ?_ 1 _ rfl;(with_reducible repeat (first|refine aoU ?_ _|refine aJ ?_|refine aoQ ?_ _));refine bE (cs:=#[.int .i64 0,.slice none 0 0,.int .i64 0,.slice none 0 0]) ?_ 0 _ rfl;exact bk) hb);replace HB:=k0 (aH bl hb);))
      go_meet
      case rel=>exact ⟨_,(!t147),rs,H',⟨by have:=zu.out;first|omega|exact Nat.le_refl _⟩,⟨aR (bJ.z)⟩,⟨aR (aoX.z)⟩,⟨aR (Kd.aoY ei.z (fun _ hk=>⟨hk.1.2,hk.2⟩))⟩,⟨aV (Kd.bP cL.z (fun _ hk=>⟨hk.1.1.1.1.1.1.1.1.1,⟨hk.1.1.1.1.1.1.1.1.2.1,⟨hk.1.1.1.1.1.1.1.2,⟨hk.1.1.1.1.1.2,⟨hk.1.1.1.1.2,⟨hk.1.1.2,⟨hk.1.2,⟨hk.1.1.1.1.1.1.1.1.2.2,⟨hk.1.1.1.1.1.1.2,⟨hk.1.1.1.2,hk.2⟩⟩⟩⟩⟩⟩⟩⟩⟩⟩))⟩,⟨aV (Kd.bP jI.z (fun _ hk=>⟨hk.1.1.1.1.1.1.1.2.1,⟨hk.1.1.1.1.1.1.1.2.2.1,⟨hk.1.1.1.1.1.1.1.1,⟨hk.1.1.1.1.1.2,⟨hk.1.1.1.1.2,⟨hk.1.1.2,⟨hk.1.2,⟨hk.1.1.1.1.1.1.1.2.2.2,⟨hk.1.1.1.1.1.1.2,⟨hk.1.1.1.2,hk.2⟩⟩⟩⟩⟩⟩⟩⟩⟩⟩))⟩,⟨aS (Kd.bq mM.z (fun _ hk=>⟨hk.1.1.1.1.2,⟨hk.1.1.1.2,⟨hk.1.1.2,⟨hk.1.1.1.1.1,⟨hk.1.2,hk.2⟩⟩⟩⟩⟩))⟩,⟨aS (Kd.bq nU.z (fun _ hk=>⟨hk.1.1.1.1.2,⟨hk.1.1.1.2,⟨hk.1.1.2,⟨hk.1.1.1.1.1,⟨hk.1.2,hk.2⟩⟩⟩⟩⟩))⟩,⟨aS (Kd.bq qy.z (fun _ hk=>⟨hk.1.1.1.1.2,⟨hk.1.1.1.2,⟨hk.1.1.2,⟨hk.1.2,⟨hk.2,hk.1.1.1.1.1⟩⟩⟩⟩⟩))⟩,⟨aS (Kd.bq rT.z (fun _ hk=>⟨hk.1.1.1.1.2,⟨hk.1.1.1.2,⟨hk.1.1.2,⟨hk.1.2,⟨hk.2,hk.1.1.1.1.1⟩⟩⟩⟩⟩))⟩,⟨bk⟩,⟨bk⟩,⟨bk⟩,⟨bk⟩,⟨bl⟩⟩
     case rest =>
      clear I8
      obtain ⟨kq,Iy,rfl,HA,Dh,bJ,aoX,dw,cL,dO,dP,dQ,eF,eG,ao3,cj,bI,cH,HB⟩:=hcut
      cases kq with
      | zero=>exact absurd HA.z (by simp [dL.j1])
      | succ kS =>
       have H:=HA.z
       clear HA
       simp only [dL.j1] at H
       by_cases c57:Iy=true
       case neg =>
        replace c57:=Bool.eq_false_iff.mpr c57
        subst c57
        have H1:(if t135=0 then ((l9.f kS t127 t128 t131 t132).bind fun zN=>((mL.f kS t119 t120 t123).bind fun yg=>(if yg.2=0 then (if zN.2=0 then ((iC.f kS zN.1 yg.1).bind fun t156=>(if t156=true then (dL.j2 kS t106 t110 t113 t102 t103) else (some false))) else (if zN.2=3 then (dL.j2 kS t106 t110 t113 t102 t103) else (some false))) else (some false)))) else (dL.j2 kS t106 t110 t113 t102 t103))=some r:=by rw [if_neg (show ¬ (false=true) by decide)] at H;exact H
        clear H
        have H:=H1
        clear H1
        have zn:=k0 H
        clear H
        go_upto_if 80 with (fail)
        go_cut [] (fun wc=>∃ (kq:Nat),aj (dL.j2 kq t106 t110 t113 t102 t103=some r)∧aj (kq≤kS)∧aj (Kd.R (Kd.int .i64) 2 wc w.heap.size (fun k_=>some k_ ≠ (jF:Value).ownBlock) (.slice dc t106.length cW) t106)∧aj (Kd.R (Kd.int .i64) 2 wc w.heap.size (fun k_=>some k_ ≠ ((.slice dc t106.length cW):Value).ownBlock) jF t110)∧aj (Kd.V (Kd.slice 2 (Kd.int .i64)) 28 wc w.heap.size (fun k_=>some k_ ≠ ((.slice dc t106.length cW):Value).ownBlock∧some k_ ≠ (jF:Value).ownBlock∧some k_ ≠ ((.slice eN t128.length eK):Value).ownBlock∧some k_ ≠ ((.slice ep t132.length eo):Value).ownBlock∧some k_ ≠ ((.slice fk t138.length fe):Value).ownBlock∧some k_ ≠ ((.slice ej t142.length ee):Value).ownBlock∧k_ ≠ kR∧k_ ≠ k6∧k_ ≠ jD∧k_ ≠ i_) (.slice kD t103.length apq) t103)∧aj (Kd.V (Kd.slice 2 (Kd.int .i64)) 28 wc w.heap.size (fun k_=>some k_ ≠ ((.slice dc t106.length cW):Value).ownBlock∧some k_ ≠ (jF:Value).ownBlock∧some k_ ≠ ((.slice eN t128.length eK):Value).ownBlock∧some k_ ≠ ((.slice ep t132.length eo):Value).ownBlock∧some k_ ≠ ((.slice fk t138.length fe):Value).ownBlock∧some k_ ≠ ((.slice ej t142.length ee):Value).ownBlock∧k_ ≠ kR∧k_ ≠ k6∧k_ ≠ jD∧k_ ≠ i_) (.slice api t120.length gJ) t120)∧aj (Kd.S (Kd.slice 2 (Kd.int .i64)) 28 wc w.heap.size (fun k_=>some k_ ≠ ((.slice dc t106.length cW):Value).ownBlock∧some k_ ≠ (jF:Value).ownBlock∧some k_ ≠ ((.slice ep t132.length eo):Value).ownBlock∧some k_ ≠ ((.slice fk t138.length fe):Value).ownBlock∧some k_ ≠ ((.slice ej t142.length ee):Value).ownBlock) (.slice eN t128.length eK) t128)∧aj (Kd.S (Kd.slice 2 (Kd.int .i64)) 28 wc w.heap.size (fun k_=>some k_ ≠ ((.slice dc t106.length cW):Value).ownBlock∧some k_ ≠ (jF:Value).ownBlock∧some k_ ≠ ((.slice eN t128.length eK):Value).ownBlock∧some k_ ≠ ((.slice fk t138.length fe):Value).ownBlock∧some k_ ≠ ((.slice ej t142.length ee):Value).ownBlock) (.slice ep t132.length eo) t132)∧aj (Kd.S (Kd.slice 2 (Kd.int .i64)) 28 wc w.heap.size (fun k_=>some k_ ≠ ((.slice dc t106.length cW):Value).ownBlock∧some k_ ≠ (jF:Value).ownBlock∧some k_ ≠ ((.slice eN t128.length eK):Value).ownBlock∧some k_ ≠ ((.slice ep t132.length eo):Value).ownBlock∧some k_ ≠ ((.slice ej t142.length ee):Value).ownBlock) (.slice fk t138.length fe) t138)∧aj (Kd.S (Kd.slice 2 (Kd.int .i64)) 28 wc w.heap.size (fun k_=>some k_ ≠ ((.slice dc t106.length cW):Value).ownBlock∧some k_ ≠ (jF:Value).ownBlock∧some k_ ≠ ((.slice eN t128.length eK):Value).ownBlock∧some k_ ≠ ((.slice ep t132.length eo):Value).ownBlock∧some k_ ≠ ((.slice fk t138.length fe):Value).ownBlock) (.slice ej t142.length ee) t142)∧aj (wc.heap[kR]?=some (sO t102 kD t103 apq 31))∧aj (wc.heap[k6]?=some (sO t119 api t120 gJ 31))∧aj (wc.heap[jD]?=some (.cells #[.int .i64 t127,(.slice eN t128.length eK),.int .i64 t131,(.slice ep t132.length eo)] 33 (0,0)))∧aj (wc.heap[i_]?=some (.cells #[.int .i64 t137,(.slice fk t138.length fe),.int .i64 t141,(.slice ej t142.length ee)] 33 (0,0)))∧aj (Below w.heap.size w wc))
        case first =>
         have H:=zn.z
         clear zn
         by_cases c59:t135=0
         case neg =>
          rw [if_neg c59] at H
          have uu:(t135 == 0)=false:=beq_eq_false_iff_ne.mpr c59
          have JX:(t135 != 0)=true:=bne_iff_ne.mpr c59
          (first|rw [uu]|(simp only [cm,cO];rw [uu])|skip)
          have H':=k0 H
          clear H
          go_wp2
          go_meet
          case rel=>exact ⟨_,H',⟨by have:=zu.out;have:=Dh.out;first|omega|exact Nat.le_refl _⟩,⟨aR (Kd.aoY bJ.z (fun _ hk=>hk.1))⟩,⟨aR (Kd.aoY aoX.z (fun _ hk=>hk.1))⟩,⟨aV (Kd.bP cL.z (fun _ hk=>⟨hk.1,⟨hk.2.1,⟨hk.2.2.2.1,⟨hk.2.2.2.2.1,⟨hk.2.2.2.2.2.1,⟨hk.2.2.2.2.2.2.1,⟨hk.2.2.2.2.2.2.2.1,⟨hk.2.2.2.2.2.2.2.2.1,⟨hk.2.2.2.2.2.2.2.2.2.1,hk.2.2.2.2.2.2.2.2.2.2⟩⟩⟩⟩⟩⟩⟩⟩⟩))⟩,⟨aV (Kd.bP dO.z (fun _ hk=>⟨hk.1,⟨hk.2.1,⟨hk.2.2.2.1,⟨hk.2.2.2.2.1,⟨hk.2.2.2.2.2.1,⟨hk.2.2.2.2.2.2.1,⟨hk.2.2.2.2.2.2.2.1,⟨hk.2.2.2.2.2.2.2.2.1,⟨hk.2.2.2.2.2.2.2.2.2.1,hk.2.2.2.2.2.2.2.2.2.2⟩⟩⟩⟩⟩⟩⟩⟩⟩))⟩,⟨aS (Kd.bq dP.z (fun _ hk=>⟨hk.1,⟨hk.2.1,⟨hk.2.2.2.1,⟨hk.2.2.2.2.1,hk.2.2.2.2.2⟩⟩⟩⟩))⟩,⟨aS (Kd.bq dQ.z (fun _ hk=>⟨hk.1,⟨hk.2.1,⟨hk.2.2.2.1,⟨hk.2.2.2.2.1,hk.2.2.2.2.2⟩⟩⟩⟩))⟩,⟨aS (Kd.bq eF.z (fun _ hk=>⟨hk.1,⟨hk.2.1,⟨hk.2.2.2.1,⟨hk.2.2.2.2.1,hk.2.2.2.2.2⟩⟩⟩⟩))⟩,⟨aS (Kd.bq eG.z (fun _ hk=>⟨hk.1,⟨hk.2.1,⟨hk.2.2.2.1,⟨hk.2.2.2.2.1,hk.2.2.2.2.2⟩⟩⟩⟩))⟩,⟨bk⟩,⟨bk⟩,⟨bk⟩,⟨bk⟩,⟨bl⟩⟩
         rw [if_pos c59] at H
         have uu:(t135 == 0)=true:=beq_iff_eq.mpr c59
         have JX:(t135 != 0)=false:=bne_eq_false_iff_eq.mpr c59
         clear c59
         (first|rw [uu]|(simp only [cm,cO];rw [uu])|skip)
         replace H:=Option.bind_eq_some_iff.mp H
         obtain ⟨⟨t148,t151⟩,C3,H⟩:=H
         replace H:((mL.f kS t119 t120 t123).bind fun yg=>(if yg.2=0 then (if t151=0 then ((iC.f kS t148 yg.1).bind fun t156=>(if t156=true then (dL.j2 kS t106 t110 t113 t102 t103) else (some false))) else (if t151=3 then (dL.j2 kS t106 t110 t113 t102 t103) else (some false))) else (some false)))=some r:=H
         have kX:=k0 C3
         clear C3
         replace H:=Option.bind_eq_some_iff.mp H
         obtain ⟨⟨t152,t155⟩,xX,H⟩:=H
         replace H:(if t155=0 then (if t151=0 then ((iC.f kS t148 t152).bind fun t156=>(if t156=true then (dL.j2 kS t106 t110 t113 t102 t103) else (some false))) else (if t151=3 then (dL.j2 kS t106 t110 t113 t102 t103) else (some false))) else (some false))=some r:=H
         have sM:=k0 xX
         clear xX
         by_cases c62:t155=0
         case neg =>
          rw [if_neg c62] at H
          have JY:(t155 == 0)=false:=beq_eq_false_iff_ne.mpr c62
          have X5:(t155 != 0)=true:=bne_iff_ne.mpr c62
          obtain rfl:=Option.some.inj H
          have amr:=vK.z
          have am_:=apT.z
          have ams:=zD.z
          have ana:=uf.z
          have amt:=qD.z
          have anb:=zF.z
          have ah0:=aQ bI
          have ah1:=aoT bI
          have ah2:=ao_ bI
          have ah3:=ec bI
          have aj_:=bF bI 0
          have aka:=bF bI 1
          have akb:=bF bI 2
          have akc:=bF bI 3
          go_wp2_with (first|((with_reducible refine bg (f:=17) rfl ?_);refine gC (some 83) Try.func17 #[.agg #[.int .i64 t127,.slice eN t128.length eK,.int .i64 t131,.slice ep t132.length eo]] ?_;(with_reducible refine (l9.calls kS t127 _ _ t128 t131 _ _ t132 t148 t151 _ ?aoN ?aoP ?bA ?bH kX.z).mono ?_);(case aoN=>exact aC ((Kd.cQ dP.z).2.2));(case aoP=>exact (Kd.cQ dP.z).2.1);(case bA=>exact aC ((Kd.cQ dQ.z).2.2));(case bH=>exact (Kd.cQ dQ.z).2.1);rintro e aoD ⟨Fo,rfl,aD,hb⟩;refine ⟨_,rfl,?_⟩;have aq:=k0 (Kd.ao9 (aR bJ.z) (Kd.aU aD) hb);have au:=k0 (Kd.ao9 (aR aoX.z) (Kd.aU aD) hb);have ax:=k0 (Kd.ao9 (aR dw.z) (Kd.aU aD) hb);have aA:=k0 (Kd.dV (aV cL.z) (Kd.aU aD) hb);have aG:=k0 (Kd.dV (aV dO.z) (Kd.aU aD) hb);have aM:=k0 (Kd.cC (aS dP.z) (Kd.aU aD) hb);have bu:=k0 (Kd.cC (aS dQ.z) (Kd.aU aD) hb);have cE:=k0 (Kd.cC (aS eF.z) (Kd.aU aD) hb);have ao8:=k0 (Kd.cC (aS eG.z) (Kd.aU aD) hb);have cG:=k0 (Kd.cU (Kd.cT (Kd.cT (Kd.cT aD (Kd.bT (aR bJ.z))) (Kd.bT (aR aoX.z))) (Kd.bT (aR dw.z))) (aoS bl));have dy:=kB ao3 hb;have eD:=kB cj hb;have eT:=kB bI hb;have fh:=kB cH hb;have gQ:=k0 (aH bl hb);clear bJ;clear aoX;clear dw;clear cL;clear dO;clear dP;clear dQ;clear eF;clear eG;clear ao3;clear cj;clear bI;clear cH;clear HB;have bJ:=aq;have aoX:=au;have dw:=ax;have cL:=aA;have dO:=aG;have dP:=aM;have dQ:=bu;have eF:=cE;have eG:=ao8;have jy:=cG;have ao3:=dy;have cj:=eD;have bI:=eT;have cH:=fh;have HB:=gQ;clear aq au ax aA aG aM bu cE ao8 cG dy eD eT fh gQ;have amw:=wZ.z;have anf:=sY.z;have ab3:=qC.z;have acs:=zE.z;have aav:=aQ cj;have aaw:=aoT cj;have abg:=bF cj 0;have abh:=bF cj 1)|((with_reducible refine bg (f:=53) rfl ?_);refine gC (some 89) Try.func53 #[.agg #[.int .i64 t119,.slice api t120.length gJ],.slice hU t123.length gK] ?_;(with_reducible refine (mL.calls kS t119 _ _ t120 _ _ t123 t152 t155 _ ?aoN ?aoP ?bA ?bH sM.z).mono ?_);(case aoN=>exact aC ((Kd.dm dO.z).2.2));(case aoP=>exact (Kd.dm dO.z).2.1);(case bA=>exact aC ((Kd.cx dw.z).2.2));(case bH=>exact (Kd.cx dw.z).2.1);rintro e aoE ⟨Ik,rfl,aD,hb⟩;refine ⟨_,rfl,?_⟩;have aq:=k0 (Kd.ao9 (aR bJ.z) (Kd.aU aD) hb);have au:=k0 (Kd.ao9 (aR aoX.z) (Kd.aU aD) hb);have ax:=k0 (Kd.ao9 (aR dw.z) (Kd.aU aD) hb);have aA:=k0 (Kd.dV (aV cL.z) (Kd.aU aD) hb);have aG:=k0 (Kd.dV (aV dO.z) (Kd.aU aD) hb);have aM:=k0 (Kd.cC (aS dP.z) (Kd.aU aD) hb);have bu:=k0 (Kd.cC (aS dQ.z) (Kd.aU aD) hb);have cE:=k0 (Kd.cC (aS eF.z) (Kd.aU aD) hb);have ao8:=k0 (Kd.cC (aS eG.z) (Kd.aU aD) hb);have cG:=k0 (Kd.ao9 (aR jy.z) (Kd.aU aD) hb);have dy:=k0 (Kd.cU (Kd.cT (Kd.cT (Kd.cT (Kd.cT aD (Kd.bT (aR bJ.z))) (Kd.bT (aR aoX.z))) (Kd.bT (aR dw.z))) (Kd.bT (aR jy.z))) (aoS bl));have eD:=kB ao3 hb;have eT:=kB cj hb;have fh:=kB bI hb;have gQ:=kB cH hb;have nw:=k0 (aH bl hb);clear bJ;clear aoX;clear dw;clear cL;clear dO;clear dP;clear dQ;clear eF;clear eG;clear jy;clear ao3;clear cj;clear bI;clear cH;clear HB;have bJ:=aq;have aoX:=au;have dw:=ax;have cL:=aA;have dO:=aG;have dP:=aM;have dQ:=bu;have eF:=cE;have eG:=ao8;have jy:=cG;have vJ:=dy;have ao3:=eD;have cj:=eT;have bI:=fh;have cH:=gQ;have HB:=nw;clear aq au ax aA aG aM bu cE ao8 cG dy eD eT fh gQ nw;))
          go_ret
          exact ⟨eR,bl⟩
         rw [if_pos c62] at H
         have JY:(t155 == 0)=true:=beq_iff_eq.mpr c62
         have X5:(t155 != 0)=false:=bne_eq_false_iff_eq.mpr c62
         clear c62
         by_cases c63:t151=0
         case neg =>
          rw [if_neg c63] at H
          have PC:(t151 == 0)=false:=beq_eq_false_iff_ne.mpr c63
          have PD:(t151 != 0)=true:=bne_iff_ne.mpr c63
          by_cases c88:t151=3
          case neg =>
           rw [if_neg c88] at H
           have X8:(t151 == 3)=false:=beq_eq_false_iff_ne.mpr c88
           have X9:(t151 != 3)=true:=bne_iff_ne.mpr c88
           obtain rfl:=Option.some.inj H
           have am4:=vK.z
           have anO:=apT.z
           have am5:=zD.z
           have anP:=uf.z
           have amo:=qD.z
           have am7:=zF.z
           have aap:=aQ bI
           have aaq:=aoT bI
           have ahS:=ao_ bI
           have ahT:=ec bI
           have aba:=bF bI 0
           have abb:=bF bI 1
           have aj3:=bF bI 2
           have aj4:=bF bI 3
           go_wp2_with (first|((with_reducible refine bg (f:=17) rfl ?_);refine gC (some 83) Try.func17 #[.agg #[.int .i64 t127,.slice eN t128.length eK,.int .i64 t131,.slice ep t132.length eo]] ?_;(with_reducible refine (l9.calls kS t127 _ _ t128 t131 _ _ t132 t148 t151 _ ?aoN ?aoP ?bA ?bH kX.z).mono ?_);(case aoN=>exact aC ((Kd.cQ dP.z).2.2));(case aoP=>exact (Kd.cQ dP.z).2.1);(case bA=>exact aC ((Kd.cQ dQ.z).2.2));(case bH=>exact (Kd.cQ dQ.z).2.1);rintro e aoy ⟨Fo,rfl,aD,hb⟩;refine ⟨_,rfl,?_⟩;have aq:=k0 (Kd.ao9 (aR bJ.z) (Kd.aU aD) hb);have au:=k0 (Kd.ao9 (aR aoX.z) (Kd.aU aD) hb);have ax:=k0 (Kd.ao9 (aR dw.z) (Kd.aU aD) hb);have aA:=k0 (Kd.dV (aV cL.z) (Kd.aU aD) hb);have aG:=k0 (Kd.dV (aV dO.z) (Kd.aU aD) hb);have aM:=k0 (Kd.cC (aS dP.z) (Kd.aU aD) hb);have bu:=k0 (Kd.cC (aS dQ.z) (Kd.aU aD) hb);have cE:=k0 (Kd.cC (aS eF.z) (Kd.aU aD) hb);have ao8:=k0 (Kd.cC (aS eG.z) (Kd.aU aD) hb);have cG:=k0 (Kd.cU (Kd.cT (Kd.cT (Kd.cT aD (Kd.bT (aR bJ.z))) (Kd.bT (aR aoX.z))) (Kd.bT (aR dw.z))) (aoS bl));have dy:=kB ao3 hb;have eD:=kB cj hb;have eT:=kB bI hb;have fh:=kB cH hb;have gQ:=k0 (aH bl hb);clear bJ;clear aoX;clear dw;clear cL;clear dO;clear dP;clear dQ;clear eF;clear eG;clear ao3;clear cj;clear bI;clear cH;clear HB;have bJ:=aq;have aoX:=au;have dw:=ax;have cL:=aA;have dO:=aG;have dP:=aM;have dQ:=bu;have eF:=cE;have eG:=ao8;have jy:=cG;have ao3:=dy;have cj:=eD;have bI:=eT;have cH:=fh;have HB:=gQ;clear aq au ax aA aG aM bu cE ao8 cG dy eD eT fh gQ;have ab1:=wZ.z;have acq:=sY.z;have amq:=qC.z;have am9:=zE.z;have ahY:=aQ cj;have ahZ:=aoT cj;have aj9:=bF cj 0;have aj':=bF cj 1)|((with_reducible refine bg (f:=53) rfl ?_);refine gC (some 89) Try.func53 #[.agg #[.int .i64 t119,.slice api t120.length gJ],.slice hU t123.length gK] ?_;(with_reducible refine (mL.calls kS t119 _ _ t120 _ _ t123 t152 t155 _ ?aoN ?aoP ?bA ?bH sM.z).mono ?_);(case aoN=>exact aC ((Kd.dm dO.z).2.2));(case aoP=>exact (Kd.dm dO.z).2.1);(case bA=>exact aC ((Kd.cx dw.z).2.2));(case bH=>exact (Kd.cx dw.z).2.1);rintro e aoz ⟨Ik,rfl,aD,hb⟩;refine ⟨_,rfl,?_⟩;have aq:=k0 (Kd.ao9 (aR bJ.z) (Kd.aU aD) hb);have au:=k0 (Kd.ao9 (aR aoX.z) (Kd.aU aD) hb);have ax:=k0 (Kd.ao9 (aR dw.z) (Kd.aU aD) hb);have aA:=k0 (Kd.dV (aV cL.z) (Kd.aU aD) hb);have aG:=k0 (Kd.dV (aV dO.z) (Kd.aU aD) hb);have aM:=k0 (Kd.cC (aS dP.z) (Kd.aU aD) hb);have bu:=k0 (Kd.cC (aS dQ.z) (Kd.aU aD) hb);have cE:=k0 (Kd.cC (aS eF.z) (Kd.aU aD) hb);have ao8:=k0 (Kd.cC (aS eG.z) (Kd.aU aD) hb);have cG:=k0 (Kd.ao9 (aR jy.z) (Kd.aU aD) hb);have dy:=k0 (Kd.cU (Kd.cT (Kd.cT (Kd.cT (Kd.cT aD (Kd.bT (aR bJ.z))) (Kd.bT (aR aoX.z))) (Kd.bT (aR dw.z))) (Kd.bT (aR jy.z))) (aoS bl));have eD:=kB ao3 hb;have eT:=kB cj hb;have fh:=kB bI hb;have gQ:=kB cH hb;have nw:=k0 (aH bl hb);clear bJ;clear aoX;clear dw;clear cL;clear dO;clear dP;clear dQ;clear eF;clear eG;clear jy;clear ao3;clear cj;clear bI;clear cH;clear HB;have bJ:=aq;have aoX:=au;have dw:=ax;have cL:=aA;have dO:=aG;have dP:=aM;have dQ:=bu;have eF:=cE;have eG:=ao8;have jy:=cG;have vJ:=dy;have ao3:=eD;have cj:=eT;have bI:=fh;have cH:=gQ;have HB:=nw;clear aq au ax aA aG aM bu cE ao8 cG dy eD eT fh gQ nw;))
           go_ret
           exact ⟨eR,bl⟩
          rw [if_pos c88] at H
          have X8:(t151 == 3)=true:=beq_iff_eq.mpr c88
          have X9:(t151 != 3)=false:=bne_eq_false_iff_eq.mpr c88
          clear c88
          have H':=k0 H
          clear H
          have amZ:=vK.z
          have anJ:=apT.z
          have am0:=zD.z
          have anK:=uf.z
          have acn:=qD.z
          have acM:=zF.z
          have ajH:=aQ bI
          have ajI:=aoT bI
          have ajJ:=ao_ bI
          have ajK:=ec bI
          have alT:=bF bI 0
          have alU:=bF bI 1
          have alV:=bF bI 2
          have alW:=bF bI 3
          go_wp2_with (first|((with_reducible refine bg (f:=17) rfl ?_);refine gC (some 83) Try.func17 #[.agg #[.int .i64 t127,.slice eN t128.length eK,.int .i64 t131,.slice ep t132.length eo]] ?_;(with_reducible refine (l9.calls kS t127 _ _ t128 t131 _ _ t132 t148 t151 _ ?aoN ?aoP ?bA ?bH kX.z).mono ?_);(case aoN=>exact aC ((Kd.cQ dP.z).2.2));(case aoP=>exact (Kd.cQ dP.z).2.1);(case bA=>exact aC ((Kd.cQ dQ.z).2.2));(case bH=>exact (Kd.cQ dQ.z).2.1);rintro e w93 ⟨Fo,rfl,aD,hb⟩;refine ⟨_,rfl,?_⟩;have aq:=k0 (Kd.ao9 (aR bJ.z) (Kd.aU aD) hb);have au:=k0 (Kd.ao9 (aR aoX.z) (Kd.aU aD) hb);have ax:=k0 (Kd.ao9 (aR dw.z) (Kd.aU aD) hb);have aA:=k0 (Kd.dV (aV cL.z) (Kd.aU aD) hb);have aG:=k0 (Kd.dV (aV dO.z) (Kd.aU aD) hb);have aM:=k0 (Kd.cC (aS dP.z) (Kd.aU aD) hb);have bu:=k0 (Kd.cC (aS dQ.z) (Kd.aU aD) hb);have cE:=k0 (Kd.cC (aS eF.z) (Kd.aU aD) hb);have ao8:=k0 (Kd.cC (aS eG.z) (Kd.aU aD) hb);have cG:=k0 (Kd.cU (Kd.cT (Kd.cT (Kd.cT aD (Kd.bT (aR bJ.z))) (Kd.bT (aR aoX.z))) (Kd.bT (aR dw.z))) (aoS bl));have dy:=kB ao3 hb;have eD:=kB cj hb;have eT:=kB bI hb;have fh:=kB cH hb;have gQ:=k0 (aH bl hb);clear bJ;clear aoX;clear dw;clear cL;clear dO;clear dP;clear dQ;clear eF;clear eG;clear ao3;clear cj;clear bI;clear cH;clear HB;have bJ:=aq;have aoX:=au;have dw:=ax;have cL:=aA;have dO:=aG;have dP:=aM;have dQ:=bu;have eF:=cE;have eG:=ao8;have jy:=cG;have ao3:=dy;have cj:=eD;have bI:=eT;have cH:=fh;have HB:=gQ;clear aq au ax aA aG aM bu cE ao8 cG dy eD eT fh gQ;have aco:=wZ.z;have acN:=sY.z;have am3:=qC.z;have anN:=zE.z;have ajP:=aQ cj;have ajQ:=aoT cj;have al1:=bF cj 0;have al2:=bF cj 1)|((with_reducible refine bg (f:=53) rfl ?_);refine gC (some 89) Try.func53 #[.agg #[.int .i64 t119,.slice api t120.length gJ],.slice hU t123.length gK] ?_;(with_reducible refine (mL.calls kS t119 _ _ t120 _ _ t123 t152 t155 _ ?aoN ?aoP ?bA ?bH sM.z).mono ?_);(case aoN=>exact aC ((Kd.dm dO.z).2.2));(case aoP=>exact (Kd.dm dO.z).2.1);(case bA=>exact aC ((Kd.cx dw.z).2.2));(case bH=>exact (Kd.cx dw.z).2.1);rintro e w97 ⟨Ik,rfl,aD,hb⟩;refine ⟨_,rfl,?_⟩;have aq:=k0 (Kd.ao9 (aR bJ.z) (Kd.aU aD) hb);have au:=k0 (Kd.ao9 (aR aoX.z) (Kd.aU aD) hb);have ax:=k0 (Kd.ao9 (aR dw.z) (Kd.aU aD) hb);have aA:=k0 (Kd.dV (aV cL.z) (Kd.aU aD) hb);have aG:=k0 (Kd.dV (aV dO.z) (Kd.aU aD) hb);have aM:=k0 (Kd.cC (aS dP.z) (Kd.aU aD) hb);have bu:=k0 (Kd.cC (aS dQ.z) (Kd.aU aD) hb);have cE:=k0 (Kd.cC (aS eF.z) (Kd.aU aD) hb);have ao8:=k0 (Kd.cC (aS eG.z) (Kd.aU aD) hb);have cG:=k0 (Kd.ao9 (aR jy.z) (Kd.aU aD) hb);have dy:=k0 (Kd.cU (Kd.cT (Kd.cT (Kd.cT (Kd.cT aD (Kd.bT (aR bJ.z))) (Kd.bT (aR aoX.z))) (Kd.bT (aR dw.z))) (Kd.bT (aR jy.z))) (aoS bl));have eD:=kB ao3 hb;have eT:=kB cj hb;have fh:=kB bI hb;have gQ:=kB cH hb;have nw:=k0 (aH bl hb);clear bJ;clear aoX;clear dw;clear cL;clear dO;clear dP;clear dQ;clear eF;clear eG;clear jy;clear ao3;clear cj;clear bI;clear cH;clear HB;have bJ:=aq;have aoX:=au;have dw:=ax;have cL:=aA;have dO:=aG;have dP:=aM;have dQ:=bu;have eF:=cE;have eG:=ao8;have jy:=cG;have vJ:=dy;have ao3:=eD;have cj:=eT;have bI:=fh;have cH:=gQ;have HB:=nw;clear aq au ax aA aG aM bu cE ao8 cG dy eD eT fh gQ nw;))
          go_meet
          case rel=>exact ⟨_,H',⟨by have:=zu.out;have:=Dh.out;first|omega|exact Nat.le_refl _⟩,⟨aR (Kd.aoY bJ.z (fun _ hk=>hk.1.1.1))⟩,⟨aR (Kd.aoY aoX.z (fun _ hk=>hk.1.1.1))⟩,⟨aV (Kd.bP cL.z (fun _ hk=>⟨hk.1.1.1,⟨hk.1.1.2.1,⟨hk.1.1.2.2.2.1,⟨hk.1.1.2.2.2.2.1,⟨hk.1.1.2.2.2.2.2.1,⟨hk.1.1.2.2.2.2.2.2.1,⟨hk.1.1.2.2.2.2.2.2.2.1,⟨hk.1.1.2.2.2.2.2.2.2.2.1,⟨hk.1.1.2.2.2.2.2.2.2.2.2.1,hk.1.1.2.2.2.2.2.2.2.2.2.2⟩⟩⟩⟩⟩⟩⟩⟩⟩))⟩,⟨aV (Kd.bP dO.z (fun _ hk=>⟨hk.1.1.1,⟨hk.1.1.2.1,⟨hk.1.1.2.2.2.1,⟨hk.1.1.2.2.2.2.1,⟨hk.1.1.2.2.2.2.2.1,⟨hk.1.1.2.2.2.2.2.2.1,⟨hk.1.1.2.2.2.2.2.2.2.1,⟨hk.1.1.2.2.2.2.2.2.2.2.1,⟨hk.1.1.2.2.2.2.2.2.2.2.2.1,hk.1.1.2.2.2.2.2.2.2.2.2.2⟩⟩⟩⟩⟩⟩⟩⟩⟩))⟩,⟨aS (Kd.bq dP.z (fun _ hk=>⟨hk.1.1.1,⟨hk.1.1.2.1,⟨hk.1.1.2.2.2.1,⟨hk.1.1.2.2.2.2.1,hk.1.1.2.2.2.2.2⟩⟩⟩⟩))⟩,⟨aS (Kd.bq dQ.z (fun _ hk=>⟨hk.1.1.1,⟨hk.1.1.2.1,⟨hk.1.1.2.2.2.1,⟨hk.1.1.2.2.2.2.1,hk.1.1.2.2.2.2.2⟩⟩⟩⟩))⟩,⟨aS (Kd.bq eF.z (fun _ hk=>⟨hk.1.1.1,⟨hk.1.1.2.1,⟨hk.1.1.2.2.2.1,⟨hk.1.1.2.2.2.2.1,hk.1.1.2.2.2.2.2⟩⟩⟩⟩))⟩,⟨aS (Kd.bq eG.z (fun _ hk=>⟨hk.1.1.1,⟨hk.1.1.2.1,⟨hk.1.1.2.2.2.1,⟨hk.1.1.2.2.2.2.1,hk.1.1.2.2.2.2.2⟩⟩⟩⟩))⟩,⟨bk⟩,⟨bk⟩,⟨bk⟩,⟨bk⟩,⟨bl⟩⟩
         rw [if_pos c63] at H
         have PC:(t151 == 0)=true:=beq_iff_eq.mpr c63
         have PD:(t151 != 0)=false:=bne_eq_false_iff_eq.mpr c63
         clear c63
         replace H:=Option.bind_eq_some_iff.mp H
         obtain ⟨t156,NU,H⟩:=H
         replace H:(if t156=true then (dL.j2 kS t106 t110 t113 t102 t103) else (some false))=some r:=H
         have NT:=k0 NU
         clear NU
         by_cases c65:t156=true
         case neg =>
          replace c65:=Bool.eq_false_iff.mpr c65
          subst c65
          have H1:(some false)=some r:=by rw [if_neg (show ¬ (false=true) by decide)] at H;exact H
          clear H
          have H:=H1
          clear H1
          obtain rfl:=Option.some.inj H
          have amU:=vK.z
          have anE:=apT.z
          have amV:=zD.z
          have anF:=uf.z
          have amW:=qD.z
          have anG:=zF.z
          have ajr:=aQ bI
          have ajs:=aoT bI
          have ajt:=ao_ bI
          have aju:=ec bI
          have alD:=bF bI 0
          have alE:=bF bI 1
          have alF:=bF bI 2
          have alG:=bF bI 3
          go_wp2_with (first|((with_reducible refine bg (f:=17) rfl ?_);refine gC (some 83) Try.func17 #[.agg #[.int .i64 t127,.slice eN t128.length eK,.int .i64 t131,.slice ep t132.length eo]] ?_;(with_reducible refine (l9.calls kS t127 _ _ t128 t131 _ _ t132 t148 t151 _ ?aoN ?aoP ?bA ?bH kX.z).mono ?_);(case aoN=>exact aC ((Kd.cQ dP.z).2.2));(case aoP=>exact (Kd.cQ dP.z).2.1);(case bA=>exact aC ((Kd.cQ dQ.z).2.2));(case bH=>exact (Kd.cQ dQ.z).2.1);rintro e w81 ⟨Fo,rfl,aD,hb⟩;refine ⟨_,rfl,?_⟩;have aq:=k0 (Kd.ao9 (aR bJ.z) (Kd.aU aD) hb);have au:=k0 (Kd.ao9 (aR aoX.z) (Kd.aU aD) hb);have ax:=k0 (Kd.ao9 (aR dw.z) (Kd.aU aD) hb);have aA:=k0 (Kd.dV (aV cL.z) (Kd.aU aD) hb);have aG:=k0 (Kd.dV (aV dO.z) (Kd.aU aD) hb);have aM:=k0 (Kd.cC (aS dP.z) (Kd.aU aD) hb);have bu:=k0 (Kd.cC (aS dQ.z) (Kd.aU aD) hb);have cE:=k0 (Kd.cC (aS eF.z) (Kd.aU aD) hb);have ao8:=k0 (Kd.cC (aS eG.z) (Kd.aU aD) hb);have cG:=k0 (Kd.cU (Kd.cT (Kd.cT (Kd.cT aD (Kd.bT (aR bJ.z))) (Kd.bT (aR aoX.z))) (Kd.bT (aR dw.z))) (aoS bl));have dy:=kB ao3 hb;have eD:=kB cj hb;have eT:=kB bI hb;have fh:=kB cH hb;have gQ:=k0 (aH bl hb);clear bJ;clear aoX;clear dw;clear cL;clear dO;clear dP;clear dQ;clear eF;clear eG;clear ao3;clear cj;clear bI;clear cH;clear HB;have bJ:=aq;have aoX:=au;have dw:=ax;have cL:=aA;have dO:=aG;have dP:=aM;have dQ:=bu;have eF:=cE;have eG:=ao8;have jy:=cG;have ao3:=dy;have cj:=eD;have bI:=eT;have cH:=fh;have HB:=gQ;clear aq au ax aA aG aM bu cE ao8 cG dy eD eT fh gQ;have ack:=wZ.z;have acK:=sY.z;have acm:=qC.z;have acL:=zE.z;have ajx:=aQ cj;have ajy:=aoT cj;have alJ:=bF cj 0;have alK:=bF cj 1)|((with_reducible refine bg (f:=53) rfl ?_);refine gC (some 89) Try.func53 #[.agg #[.int .i64 t119,.slice api t120.length gJ],.slice hU t123.length gK] ?_;(with_reducible refine (mL.calls kS t119 _ _ t120 _ _ t123 t152 t155 _ ?aoN ?aoP ?bA ?bH sM.z).mono ?_);(case aoN=>exact aC ((Kd.dm dO.z).2.2));(case aoP=>exact (Kd.dm dO.z).2.1);(case bA=>exact aC ((Kd.cx dw.z).2.2));(case bH=>exact (Kd.cx dw.z).2.1);rintro e w85 ⟨Ik,rfl,aD,hb⟩;refine ⟨_,rfl,?_⟩;have aq:=k0 (Kd.ao9 (aR bJ.z) (Kd.aU aD) hb);have au:=k0 (Kd.ao9 (aR aoX.z) (Kd.aU aD) hb);have ax:=k0 (Kd.ao9 (aR dw.z) (Kd.aU aD) hb);have aA:=k0 (Kd.dV (aV cL.z) (Kd.aU aD) hb);have aG:=k0 (Kd.dV (aV dO.z) (Kd.aU aD) hb);have aM:=k0 (Kd.cC (aS dP.z) (Kd.aU aD) hb);have bu:=k0 (Kd.cC (aS dQ.z) (Kd.aU aD) hb);have cE:=k0 (Kd.cC (aS eF.z) (Kd.aU aD) hb);have ao8:=k0 (Kd.cC (aS eG.z) (Kd.aU aD) hb);have cG:=k0 (Kd.ao9 (aR jy.z) (Kd.aU aD) hb);have dy:=k0 (Kd.cU (Kd.cT (Kd.cT (Kd.cT (Kd.cT aD (Kd.bT (aR bJ.z))) (Kd.bT (aR aoX.z))) (Kd.bT (aR dw.z))) (Kd.bT (aR jy.z))) (aoS bl));have eD:=kB ao3 hb;have eT:=kB cj hb;have fh:=kB bI hb;have gQ:=kB cH hb;have nw:=k0 (aH bl hb);clear bJ;clear aoX;clear dw;clear cL;clear dO;clear dP;clear dQ;clear eF;clear eG;clear jy;clear ao3;clear cj;clear bI;clear cH;clear HB;have bJ:=aq;have aoX:=au;have dw:=ax;have cL:=aA;have dO:=aG;have dP:=aM;have dQ:=bu;have eF:=cE;have eG:=ao8;have jy:=cG;have vJ:=dy;have ao3:=eD;have cj:=eT;have bI:=fh;have cH:=gQ;have HB:=nw;clear aq au ax aA aG aM bu cE ao8 cG dy eD eT fh gQ nw;obtain ⟨agk,ahN,ZH⟩:=Kd.dM jy.z;subst ZH;obtain ⟨IX,J5,Ke⟩:=Kd.dM vJ.z;subst Ke)|(go_at_call 44;(with_reducible refine (iC.calls kS _ _ t148 _ _ t152 false _ ?aoN ?aoP ?bA ?bH NT.z).mono ?_);(case aoN=>exact aC ((Kd.cx jy.z).2.2));(case aoP=>exact (Kd.cx jy.z).2.1);(case bA=>exact aC ((Kd.cx vJ.z).2.2));(case bH=>exact (Kd.cx vJ.z).2.1);rintro e w' ⟨rfl,⟨nd,rfl⟩⟩))
          go_ret
          exact ⟨eR,bl⟩
         subst c65
         have H1:(dL.j2 kS t106 t110 t113 t102 t103)=some r:=by rw [if_pos rfl] at H;exact H
         clear H
         have H:=H1
         clear H1
         have H':=k0 H
         clear H
         have amO:=vK.z
         have anx:=apT.z
         have amP:=zD.z
         have anz:=uf.z
         have aci:=qD.z
         have acI:=zF.z
         have aja:=aQ bI
         have ajb:=aoT bI
         have ajc:=ao_ bI
         have ajd:=ec bI
         have alk:=bF bI 0
         have alm:=bF bI 1
         have aln:=bF bI 2
         have alo:=bF bI 3
         go_wp2_with (first|((with_reducible refine bg (f:=17) rfl ?_);refine gC (some 83) Try.func17 #[.agg #[.int .i64 t127,.slice eN t128.length eK,.int .i64 t131,.slice ep t132.length eo]] ?_;(with_reducible refine (l9.calls kS t127 _ _ t128 t131 _ _ t132 t148 t151 _ ?aoN ?aoP ?bA ?bH kX.z).mono ?_);(case aoN=>exact aC ((Kd.cQ dP.z).2.2));(case aoP=>exact (Kd.cQ dP.z).2.1);(case bA=>exact aC ((Kd.cQ dQ.z).2.2));(case bH=>exact (Kd.cQ dQ.z).2.1);rintro e w70 ⟨Fo,rfl,aD,hb⟩;refine ⟨_,rfl,?_⟩;have aq:=k0 (Kd.ao9 (aR bJ.z) (Kd.aU aD) hb);have au:=k0 (Kd.ao9 (aR aoX.z) (Kd.aU aD) hb);have ax:=k0 (Kd.ao9 (aR dw.z) (Kd.aU aD) hb);have aA:=k0 (Kd.dV (aV cL.z) (Kd.aU aD) hb);have aG:=k0 (Kd.dV (aV dO.z) (Kd.aU aD) hb);have aM:=k0 (Kd.cC (aS dP.z) (Kd.aU aD) hb);have bu:=k0 (Kd.cC (aS dQ.z) (Kd.aU aD) hb);have cE:=k0 (Kd.cC (aS eF.z) (Kd.aU aD) hb);have ao8:=k0 (Kd.cC (aS eG.z) (Kd.aU aD) hb);have cG:=k0 (Kd.cU (Kd.cT (Kd.cT (Kd.cT aD (Kd.bT (aR bJ.z))) (Kd.bT (aR aoX.z))) (Kd.bT (aR dw.z))) (aoS bl));have dy:=kB ao3 hb;have eD:=kB cj hb;have eT:=kB bI hb;have fh:=kB cH hb;have gQ:=k0 (aH bl hb);clear bJ;clear aoX;clear dw;clear cL;clear dO;clear dP;clear dQ;clear eF;clear eG;clear ao3;clear cj;clear bI;clear cH;clear HB;have bJ:=aq;have aoX:=au;have dw:=ax;have cL:=aA;have dO:=aG;have dP:=aM;have dQ:=bu;have eF:=cE;have eG:=ao8;have jy:=cG;have ao3:=dy;have cj:=eD;have bI:=eT;have cH:=fh;have HB:=gQ;clear aq au ax aA aG aM bu cE ao8 cG dy eD eT fh gQ;have acj:=wZ.z;have acJ:=sY.z;have amS:=qC.z;have anC:=zE.z;have aji:=aQ cj;have ajj:=aoT cj;have alu:=bF cj 0;have alv:=bF cj 1)|((with_reducible refine bg (f:=53) rfl ?_);refine gC (some 89) Try.func53 #[.agg #[.int .i64 t119,.slice api t120.length gJ],.slice hU t123.length gK] ?_;(with_reducible refine (mL.calls kS t119 _ _ t120 _ _ t123 t152 t155 _ ?aoN ?aoP ?bA ?bH sM.z).mono ?_);(case aoN=>exact aC ((Kd.dm dO.z).2.2));(case aoP=>exact (Kd.dm dO.z).2.1);(case bA=>exact aC ((Kd.cx dw.z).2.2));(case bH=>exact (Kd.cx dw.z).2.1);rintro e w74 ⟨Ik,rfl,aD,hb⟩;refine ⟨_,rfl,?_⟩;have aq:=k0 (Kd.ao9 (aR bJ.z) (Kd.aU aD) hb);have au:=k0 (Kd.ao9 (aR aoX.z) (Kd.aU aD) hb);have ax:=k0 (Kd.ao9 (aR dw.z) (Kd.aU aD) hb);have aA:=k0 (Kd.dV (aV cL.z) (Kd.aU aD) hb);have aG:=k0 (Kd.dV (aV dO.z) (Kd.aU aD) hb);have aM:=k0 (Kd.cC (aS dP.z) (Kd.aU aD) hb);have bu:=k0 (Kd.cC (aS dQ.z) (Kd.aU aD) hb);have cE:=k0 (Kd.cC (aS eF.z) (Kd.aU aD) hb);have ao8:=k0 (Kd.cC (aS eG.z) (Kd.aU aD) hb);have cG:=k0 (Kd.ao9 (aR jy.z) (Kd.aU aD) hb);have dy:=k0 (Kd.cU (Kd.cT (Kd.cT (Kd.cT (Kd.cT aD (Kd.bT (aR bJ.z))) (Kd.bT (aR aoX.z))) (Kd.bT (aR dw.z))) (Kd.bT (aR jy.z))) (aoS bl));have eD:=kB ao3 hb;have eT:=kB cj hb;have fh:=kB bI hb;have gQ:=kB cH hb;have nw:=k0 (aH bl hb);clear bJ;clear aoX;clear dw;clear cL;clear dO;clear dP;clear dQ;clear eF;clear eG;clear jy;clear ao3;clear cj;clear bI;clear cH;clear HB;have bJ:=aq;have aoX:=au;have dw:=ax;have cL:=aA;have dO:=aG;have dP:=aM;have dQ:=bu;have eF:=cE;have eG:=ao8;have jy:=cG;have vJ:=dy;have ao3:=eD;have cj:=eT;have bI:=fh;have cH:=gQ;have HB:=nw;clear aq au ax aA aG aM bu cE ao8 cG dy eD eT fh gQ nw;obtain ⟨vF,aqd,z7⟩:=Kd.dM jy.z;subst z7;obtain ⟨agj,ahM,ZF⟩:=Kd.dM vJ.z;subst ZF)|(go_at_call 44;(with_reducible refine (iC.calls kS _ _ t148 _ _ t152 true _ ?aoN ?aoP ?bA ?bH NT.z).mono ?_);(case aoN=>exact aC ((Kd.cx jy.z).2.2));(case aoP=>exact (Kd.cx jy.z).2.1);(case bA=>exact aC ((Kd.cx vJ.z).2.2));(case bH=>exact (Kd.cx vJ.z).2.1);rintro e w' ⟨rfl,⟨nd,rfl⟩⟩))
         go_meet
         case rel=>exact ⟨_,H',⟨by have:=zu.out;have:=Dh.out;first|omega|exact Nat.le_refl _⟩,⟨aR (Kd.aoY bJ.z (fun _ hk=>hk.1.1.1))⟩,⟨aR (Kd.aoY aoX.z (fun _ hk=>hk.1.1.1))⟩,⟨aV (Kd.bP cL.z (fun _ hk=>⟨hk.1.1.1,⟨hk.1.1.2.1,⟨hk.1.1.2.2.2.1,⟨hk.1.1.2.2.2.2.1,⟨hk.1.1.2.2.2.2.2.1,⟨hk.1.1.2.2.2.2.2.2.1,⟨hk.1.1.2.2.2.2.2.2.2.1,⟨hk.1.1.2.2.2.2.2.2.2.2.1,⟨hk.1.1.2.2.2.2.2.2.2.2.2.1,hk.1.1.2.2.2.2.2.2.2.2.2.2⟩⟩⟩⟩⟩⟩⟩⟩⟩))⟩,⟨aV (Kd.bP dO.z (fun _ hk=>⟨hk.1.1.1,⟨hk.1.1.2.1,⟨hk.1.1.2.2.2.1,⟨hk.1.1.2.2.2.2.1,⟨hk.1.1.2.2.2.2.2.1,⟨hk.1.1.2.2.2.2.2.2.1,⟨hk.1.1.2.2.2.2.2.2.2.1,⟨hk.1.1.2.2.2.2.2.2.2.2.1,⟨hk.1.1.2.2.2.2.2.2.2.2.2.1,hk.1.1.2.2.2.2.2.2.2.2.2.2⟩⟩⟩⟩⟩⟩⟩⟩⟩))⟩,⟨aS (Kd.bq dP.z (fun _ hk=>⟨hk.1.1.1,⟨hk.1.1.2.1,⟨hk.1.1.2.2.2.1,⟨hk.1.1.2.2.2.2.1,hk.1.1.2.2.2.2.2⟩⟩⟩⟩))⟩,⟨aS (Kd.bq dQ.z (fun _ hk=>⟨hk.1.1.1,⟨hk.1.1.2.1,⟨hk.1.1.2.2.2.1,⟨hk.1.1.2.2.2.2.1,hk.1.1.2.2.2.2.2⟩⟩⟩⟩))⟩,⟨aS (Kd.bq eF.z (fun _ hk=>⟨hk.1.1.1,⟨hk.1.1.2.1,⟨hk.1.1.2.2.2.1,⟨hk.1.1.2.2.2.2.1,hk.1.1.2.2.2.2.2⟩⟩⟩⟩))⟩,⟨aS (Kd.bq eG.z (fun _ hk=>⟨hk.1.1.1,⟨hk.1.1.2.1,⟨hk.1.1.2.2.2.1,⟨hk.1.1.2.2.2.2.1,hk.1.1.2.2.2.2.2⟩⟩⟩⟩))⟩,⟨bk⟩,⟨bk⟩,⟨bk⟩,⟨bk⟩,⟨bl⟩⟩
        case rest =>
         clear zn
         obtain ⟨kq,HA,Jc,bJ,aoX,cL,dO,dP,dQ,eF,eG,ao3,cj,bI,cH,HB⟩:=hcut
         cases kq with
         | zero=>exact absurd HA.z (by simp [dL.j2])
         | succ qj =>
          have H:=HA.z
          clear HA
          simp only [dL.j2] at H
          by_cases c116:t113=0
          case neg =>
           rw [if_neg c116] at H
           have XH:(t113 == 0)=false:=beq_eq_false_iff_ne.mpr c116
           have XI:(t113 != 0)=true:=bne_iff_ne.mpr c116
           obtain rfl:=Option.some.inj H
           obtain ⟨aga,ahE,Zm⟩:=Kd.dM aoX.z
           subst Zm
           go_wp2
           go_ret
           exact ⟨eR,bl⟩
          rw [if_pos c116] at H
          have XH:(t113 == 0)=true:=beq_iff_eq.mpr c116
          have XI:(t113 != 0)=false:=bne_eq_false_iff_eq.mpr c116
          clear c116
          obtain ⟨UA,L7⟩:∃ y_:List Int,y_=(([]:List Int)):=⟨_,rfl⟩
          replace H:(dL.l0 qj t106 UA 0 t102 t103)=some r:=rH L7 H
          have OS:=k0 L7
          clear L7
          have H':=k0 H
          clear H
          go_wp2_with (first|((with_reducible refine bp (N:=117) rfl ?_);refine Kd.jr (Kd.int .i64) _ 2 ?hg (N:=117) ?hd (xs:=([]:List Int)) (inner:=[]) (ok:=fun _=>True) (b_:=fun _=>True) ?hr ?hp (fun _ hk=>hk) trivial (Below.refl _ _) (Nat.le_refl _) (by simp) ?_;(case hd=>rfl);(case hg=>rfl);(case hr=>first|(go_simp;done)|(go_simp;rfl));(case hp=>exact (bh.none _ _));intro aoj aoF sr hb cJ cK;clear cJ cK;(first|rw [← OS.z] at sr|(simp only [Int.reduceToNat] at sr;rw [← OS.z] at sr));have aq:=k0 (Kd.ao9 (aR bJ.z) (Kd.aU sr) hb);have au:=k0 (Kd.ao9 (aR aoX.z) (Kd.aU sr) hb);have ax:=k0 (Kd.dV (aV cL.z) (Kd.aU sr) hb);have aA:=k0 (Kd.dV (aV dO.z) (Kd.aU sr) hb);have aG:=k0 (Kd.cC (aS dP.z) (Kd.aU sr) hb);have aM:=k0 (Kd.cC (aS dQ.z) (Kd.aU sr) hb);have bu:=k0 (Kd.cC (aS eF.z) (Kd.aU sr) hb);have cE:=k0 (Kd.cC (aS eG.z) (Kd.aU sr) hb);have ao8:=k0 (Kd.cU (Kd.cT (Kd.cT sr (Kd.bT (aR bJ.z))) (Kd.bT (aR aoX.z))) (aoS bl));have cG:=kB ao3 hb;have dy:=kB cj hb;have eD:=kB bI hb;have eT:=kB cH hb;have fh:=k0 (aH bl hb);clear bJ;clear aoX;clear cL;clear dO;clear dP;clear dQ;clear eF;clear eG;clear ao3;clear cj;clear bI;clear cH;clear HB;have bJ:=aq;have aoX:=au;have cL:=ax;have dO:=aA;have dP:=aG;have dQ:=aM;have eF:=bu;have eG:=cE;have VP:=ao8;have ao3:=cG;have cj:=dy;have bI:=eD;have cH:=eT;have HB:=fh;clear aq au ax aA aG aM bu cE ao8 cG dy eD eT fh;clear hb sr))
          go_loopg [19,20] qj (fun kq wE v20 w'=>∃ (vu:List Int) (aqK:Int),v20=.int .i64 aqK∧aj (dL.l0 kq t106 vu aqK t102 t103=some r)∧aj (kq≤qj)∧aj (Kd.R (Kd.int .i64) 2 w' w.heap.size (fun k_=>some k_ ≠ (wE:Value).ownBlock) (.slice dc t106.length cW) t106)∧aj (Kd.R (Kd.int .i64) 2 w' w.heap.size (fun k_=>some k_ ≠ ((.slice dc t106.length cW):Value).ownBlock) wE vu)∧aj (Kd.V (Kd.slice 2 (Kd.int .i64)) 28 w' w.heap.size (fun k_=>some k_ ≠ ((.slice dc t106.length cW):Value).ownBlock∧some k_ ≠ (wE:Value).ownBlock∧some k_ ≠ ((.slice eN t128.length eK):Value).ownBlock∧some k_ ≠ ((.slice ep t132.length eo):Value).ownBlock∧some k_ ≠ ((.slice fk t138.length fe):Value).ownBlock∧some k_ ≠ ((.slice ej t142.length ee):Value).ownBlock∧k_ ≠ kR∧k_ ≠ k6∧k_ ≠ jD∧k_ ≠ i_) (.slice kD t103.length apq) t103)∧aj (Kd.V (Kd.slice 2 (Kd.int .i64)) 28 w' w.heap.size (fun k_=>some k_ ≠ ((.slice dc t106.length cW):Value).ownBlock∧some k_ ≠ (wE:Value).ownBlock∧some k_ ≠ ((.slice eN t128.length eK):Value).ownBlock∧some k_ ≠ ((.slice ep t132.length eo):Value).ownBlock∧some k_ ≠ ((.slice fk t138.length fe):Value).ownBlock∧some k_ ≠ ((.slice ej t142.length ee):Value).ownBlock∧k_ ≠ kR∧k_ ≠ k6∧k_ ≠ jD∧k_ ≠ i_) (.slice api t120.length gJ) t120)∧aj (Kd.S (Kd.slice 2 (Kd.int .i64)) 28 w' w.heap.size (fun k_=>some k_ ≠ ((.slice dc t106.length cW):Value).ownBlock∧some k_ ≠ (wE:Value).ownBlock∧some k_ ≠ ((.slice ep t132.length eo):Value).ownBlock∧some k_ ≠ ((.slice fk t138.length fe):Value).ownBlock∧some k_ ≠ ((.slice ej t142.length ee):Value).ownBlock) (.slice eN t128.length eK) t128)∧aj (Kd.S (Kd.slice 2 (Kd.int .i64)) 28 w' w.heap.size (fun k_=>some k_ ≠ ((.slice dc t106.length cW):Value).ownBlock∧some k_ ≠ (wE:Value).ownBlock∧some k_ ≠ ((.slice eN t128.length eK):Value).ownBlock∧some k_ ≠ ((.slice fk t138.length fe):Value).ownBlock∧some k_ ≠ ((.slice ej t142.length ee):Value).ownBlock) (.slice ep t132.length eo) t132)∧aj (Kd.S (Kd.slice 2 (Kd.int .i64)) 28 w' w.heap.size (fun k_=>some k_ ≠ ((.slice dc t106.length cW):Value).ownBlock∧some k_ ≠ (wE:Value).ownBlock∧some k_ ≠ ((.slice eN t128.length eK):Value).ownBlock∧some k_ ≠ ((.slice ep t132.length eo):Value).ownBlock∧some k_ ≠ ((.slice ej t142.length ee):Value).ownBlock) (.slice fk t138.length fe) t138)∧aj (Kd.S (Kd.slice 2 (Kd.int .i64)) 28 w' w.heap.size (fun k_=>some k_ ≠ ((.slice dc t106.length cW):Value).ownBlock∧some k_ ≠ (wE:Value).ownBlock∧some k_ ≠ ((.slice eN t128.length eK):Value).ownBlock∧some k_ ≠ ((.slice ep t132.length eo):Value).ownBlock∧some k_ ≠ ((.slice fk t138.length fe):Value).ownBlock) (.slice ej t142.length ee) t142)∧aj (w'.heap[kR]?=some (sO t102 kD t103 apq 31))∧aj (w'.heap[k6]?=some (sO t119 api t120 gJ 31))∧aj (w'.heap[jD]?=some (.cells #[.int .i64 t127,(.slice eN t128.length eK),.int .i64 t131,(.slice ep t132.length eo)] 33 (0,0)))∧aj (w'.heap[i_]?=some (.cells #[.int .i64 t137,(.slice fk t138.length fe),.int .i64 t141,(.slice ej t142.length ee)] 33 (0,0)))∧aj (Below w.heap.size w w'))
          case atStart=>exact ⟨(UA),(0),rs,H',⟨Nat.le_refl _⟩,⟨aR (Kd.aoY bJ.z (fun _ hk=>hk.2))⟩,⟨aR (Kd.aoY VP.z (fun _ hk=>hk.1.2))⟩,⟨aV (Kd.bP cL.z (fun _ hk=>⟨hk.1.1,⟨hk.2,⟨hk.1.2.2.1,⟨hk.1.2.2.2.1,⟨hk.1.2.2.2.2.1,⟨hk.1.2.2.2.2.2.1,⟨hk.1.2.2.2.2.2.2.1,⟨hk.1.2.2.2.2.2.2.2.1,⟨hk.1.2.2.2.2.2.2.2.2.1,hk.1.2.2.2.2.2.2.2.2.2⟩⟩⟩⟩⟩⟩⟩⟩⟩))⟩,⟨aV (Kd.bP dO.z (fun _ hk=>⟨hk.1.1,⟨hk.2,⟨hk.1.2.2.1,⟨hk.1.2.2.2.1,⟨hk.1.2.2.2.2.1,⟨hk.1.2.2.2.2.2.1,⟨hk.1.2.2.2.2.2.2.1,⟨hk.1.2.2.2.2.2.2.2.1,⟨hk.1.2.2.2.2.2.2.2.2.1,hk.1.2.2.2.2.2.2.2.2.2⟩⟩⟩⟩⟩⟩⟩⟩⟩))⟩,⟨aS (Kd.bq dP.z (fun _ hk=>⟨hk.1.1,⟨hk.2,⟨hk.1.2.2.1,⟨hk.1.2.2.2.1,hk.1.2.2.2.2⟩⟩⟩⟩))⟩,⟨aS (Kd.bq dQ.z (fun _ hk=>⟨hk.1.1,⟨hk.2,⟨hk.1.2.2.1,⟨hk.1.2.2.2.1,hk.1.2.2.2.2⟩⟩⟩⟩))⟩,⟨aS (Kd.bq eF.z (fun _ hk=>⟨hk.1.1,⟨hk.2,⟨hk.1.2.2.1,⟨hk.1.2.2.2.1,hk.1.2.2.2.2⟩⟩⟩⟩))⟩,⟨aS (Kd.bq eG.z (fun _ hk=>⟨hk.1.1,⟨hk.2,⟨hk.1.2.2.1,⟨hk.1.2.2.2.1,hk.1.2.2.2.2⟩⟩⟩⟩))⟩,⟨bk⟩,⟨bk⟩,⟨bk⟩,⟨bk⟩,⟨bl⟩⟩
          case round =>
           clear H'
           obtain ⟨vu,aqK,rfl,HA,oG,bJ,iD,cL,dO,dP,dQ,eF,eG,ao3,cj,bI,cH,HB⟩:=hrel
           cases gk with
           | zero=>exact absurd HA.z (by simp [dL.l0])
           | succ k4 =>
            have H:=HA.z
            clear HA
            simp only [dL.l0] at H
            by_cases c119:aqK < (t106.length:Int)
            case neg =>
             rw [if_neg c119] at H
             have XJ:decide (aqK < (t106.length:Int))=false:=decide_eq_false c119
             clear c119
             replace H:=Option.bind_eq_some_iff.mp H
             obtain ⟨⟨t163,t166⟩,Nz,H⟩:=H
             replace H:((wQ.f k4 t102 t103).bind fun DP=>(if t166=0 then (if DP.2=0 then ((iC.f k4 t163 DP.1).bind fun t171=>(some t171)) else (some false)) else (some false)))=some r:=H
             have II:=k0 Nz
             clear Nz
             replace H:=Option.bind_eq_some_iff.mp H
             obtain ⟨⟨t167,t170⟩,NA,H⟩:=H
             replace H:(if t166=0 then (if t170=0 then ((iC.f k4 t163 t167).bind fun t171=>(some t171)) else (some false)) else (some false))=some r:=H
             have IJ:=k0 NA
             clear NA
             by_cases c124:t166=0
             case neg =>
              rw [if_neg c124] at H
              have XK:(t166 == 0)=false:=beq_eq_false_iff_ne.mpr c124
              have XL:(t166 != 0)=true:=bne_iff_ne.mpr c124
              obtain rfl:=Option.some.inj H
              have amE:=sY.z
              have ann:=wZ.z
              have amF:=apT.z
              have ano:=vK.z
              have amG:=rX.z
              have anp:=Du.z
              have aic:=aQ ao3
              have aid:=aoT ao3
              have akn:=bF ao3 0
              have ako:=bF ao3 1
              obtain ⟨US,Yp,Zl⟩:=Kd.dM iD.z
              subst Zl
              go_wp2_with (first|((with_reducible refine bg (f:=53) rfl ?_);refine gC (some 130) Try.func53 #[.agg #[.int .i64 t102,.slice kD t103.length apq],.slice US vu.length Yp] ?_;(with_reducible refine (mL.calls k4 t102 _ _ t103 _ _ vu t163 t166 _ ?aoN ?aoP ?bA ?bH II.z).mono ?_);(case aoN=>exact aC ((Kd.dm cL.z).2.2));(case aoP=>exact (Kd.dm cL.z).2.1);(case bA=>exact aC ((Kd.cx iD.z).2.2));(case bH=>exact (Kd.cx iD.z).2.1);rintro e aoL ⟨v164,rfl,aD,hb⟩;refine ⟨_,rfl,?_⟩;have aq:=k0 (Kd.ao9 (aR bJ.z) (Kd.aU aD) hb);have au:=k0 (Kd.ao9 (aR iD.z) (Kd.aU aD) hb);have ax:=k0 (Kd.dV (aV cL.z) (Kd.aU aD) hb);have aA:=k0 (Kd.dV (aV dO.z) (Kd.aU aD) hb);have aG:=k0 (Kd.cC (aS dP.z) (Kd.aU aD) hb);have aM:=k0 (Kd.cC (aS dQ.z) (Kd.aU aD) hb);have bu:=k0 (Kd.cC (aS eF.z) (Kd.aU aD) hb);have cE:=k0 (Kd.cC (aS eG.z) (Kd.aU aD) hb);have ao8:=k0 (Kd.cU (Kd.cT (Kd.cT aD (Kd.bT (aR bJ.z))) (Kd.bT (aR iD.z))) (aoS bl));have cG:=kB ao3 hb;have dy:=kB cj hb;have eD:=kB bI hb;have eT:=kB cH hb;have fh:=k0 (aH bl hb);clear bJ;clear iD;clear cL;clear dO;clear dP;clear dQ;clear eF;clear eG;clear ao3;clear cj;clear bI;clear cH;clear HB;have bJ:=aq;have iD:=au;have cL:=ax;have dO:=aA;have dP:=aG;have dQ:=aM;have eF:=bu;have eG:=cE;have pg:=ao8;have ao3:=cG;have cj:=dy;have bI:=eD;have cH:=eT;have HB:=fh;clear aq au ax aA aG aM bu cE ao8 cG dy eD eT fh;have aie:=aQ ao3;have aif:=aoT ao3;have akp:=bF ao3 0;have akq:=bF ao3 1)|((with_reducible refine bg (f:=59) rfl ?_);refine gC (some 135) Try.func59 #[.agg #[.int .i64 t102,.slice kD t103.length apq]] ?_;(with_reducible refine (wQ.calls k4 t102 _ _ t103 t167 t170 _ ?aoN ?aoP IJ.z).mono ?_);(case aoN=>exact aC ((Kd.dm cL.z).2.2));(case aoP=>exact (Kd.dm cL.z).2.1);rintro e aoM ⟨v168,rfl,aD,hb⟩;refine ⟨_,rfl,?_⟩;have aq:=k0 (Kd.ao9 (aR bJ.z) (Kd.aU aD) hb);have au:=k0 (Kd.ao9 (aR iD.z) (Kd.aU aD) hb);have ax:=k0 (Kd.dV (aV cL.z) (Kd.aU aD) hb);have aA:=k0 (Kd.dV (aV dO.z) (Kd.aU aD) hb);have aG:=k0 (Kd.cC (aS dP.z) (Kd.aU aD) hb);have aM:=k0 (Kd.cC (aS dQ.z) (Kd.aU aD) hb);have bu:=k0 (Kd.cC (aS eF.z) (Kd.aU aD) hb);have cE:=k0 (Kd.cC (aS eG.z) (Kd.aU aD) hb);have ao8:=k0 (Kd.ao9 (aR pg.z) (Kd.aU aD) hb);have cG:=k0 (Kd.cU (Kd.cT (Kd.cT (Kd.cT aD (Kd.bT (aR bJ.z))) (Kd.bT (aR iD.z))) (Kd.bT (aR pg.z))) (aoS bl));have dy:=kB ao3 hb;have eD:=kB cj hb;have eT:=kB bI hb;have fh:=kB cH hb;have gQ:=k0 (aH bl hb);clear bJ;clear iD;clear cL;clear dO;clear dP;clear dQ;clear eF;clear eG;clear pg;clear ao3;clear cj;clear bI;clear cH;clear HB;have bJ:=aq;have iD:=au;have cL:=ax;have dO:=aA;have dP:=aG;have dQ:=aM;have eF:=bu;have eG:=cE;have pg:=ao8;have Dk:=cG;have ao3:=dy;have cj:=eD;have bI:=eT;have cH:=fh;have HB:=gQ;clear aq au ax aA aG aM bu cE ao8 cG dy eD eT fh gQ;))
              go_ret
              exact ⟨eR,bl⟩
             rw [if_pos c124] at H
             have XK:(t166 == 0)=true:=beq_iff_eq.mpr c124
             have XL:(t166 != 0)=false:=bne_eq_false_iff_eq.mpr c124
             clear c124
             by_cases c125:t170=0
             case neg =>
              rw [if_neg c125] at H
              have XM:(t170 == 0)=false:=beq_eq_false_iff_ne.mpr c125
              have XN:(t170 != 0)=true:=bne_iff_ne.mpr c125
              obtain rfl:=Option.some.inj H
              have amB:=sY.z
              have ank:=wZ.z
              have amC:=apT.z
              have anl:=vK.z
              have amD:=rX.z
              have anm:=Du.z
              have ah':=aQ ao3
              have ah_:=aoT ao3
              have akj:=bF ao3 0
              have akk:=bF ao3 1
              obtain ⟨UR,Yo,Zk⟩:=Kd.dM iD.z
              subst Zk
              go_wp2_with (first|((with_reducible refine bg (f:=53) rfl ?_);refine gC (some 130) Try.func53 #[.agg #[.int .i64 t102,.slice kD t103.length apq],.slice UR vu.length Yo] ?_;(with_reducible refine (mL.calls k4 t102 _ _ t103 _ _ vu t163 t166 _ ?aoN ?aoP ?bA ?bH II.z).mono ?_);(case aoN=>exact aC ((Kd.dm cL.z).2.2));(case aoP=>exact (Kd.dm cL.z).2.1);(case bA=>exact aC ((Kd.cx iD.z).2.2));(case bH=>exact (Kd.cx iD.z).2.1);rintro e aoJ ⟨v164,rfl,aD,hb⟩;refine ⟨_,rfl,?_⟩;have aq:=k0 (Kd.ao9 (aR bJ.z) (Kd.aU aD) hb);have au:=k0 (Kd.ao9 (aR iD.z) (Kd.aU aD) hb);have ax:=k0 (Kd.dV (aV cL.z) (Kd.aU aD) hb);have aA:=k0 (Kd.dV (aV dO.z) (Kd.aU aD) hb);have aG:=k0 (Kd.cC (aS dP.z) (Kd.aU aD) hb);have aM:=k0 (Kd.cC (aS dQ.z) (Kd.aU aD) hb);have bu:=k0 (Kd.cC (aS eF.z) (Kd.aU aD) hb);have cE:=k0 (Kd.cC (aS eG.z) (Kd.aU aD) hb);have ao8:=k0 (Kd.cU (Kd.cT (Kd.cT aD (Kd.bT (aR bJ.z))) (Kd.bT (aR iD.z))) (aoS bl));have cG:=kB ao3 hb;have dy:=kB cj hb;have eD:=kB bI hb;have eT:=kB cH hb;have fh:=k0 (aH bl hb);clear bJ;clear iD;clear cL;clear dO;clear dP;clear dQ;clear eF;clear eG;clear ao3;clear cj;clear bI;clear cH;clear HB;have bJ:=aq;have iD:=au;have cL:=ax;have dO:=aA;have dP:=aG;have dQ:=aM;have eF:=bu;have eG:=cE;have pg:=ao8;have ao3:=cG;have cj:=dy;have bI:=eD;have cH:=eT;have HB:=fh;clear aq au ax aA aG aM bu cE ao8 cG dy eD eT fh;have aia:=aQ ao3;have aib:=aoT ao3;have akl:=bF ao3 0;have akm:=bF ao3 1)|((with_reducible refine bg (f:=59) rfl ?_);refine gC (some 135) Try.func59 #[.agg #[.int .i64 t102,.slice kD t103.length apq]] ?_;(with_reducible refine (wQ.calls k4 t102 _ _ t103 t167 t170 _ ?aoN ?aoP IJ.z).mono ?_);(case aoN=>exact aC ((Kd.dm cL.z).2.2));(case aoP=>exact (Kd.dm cL.z).2.1);rintro e aoK ⟨v168,rfl,aD,hb⟩;refine ⟨_,rfl,?_⟩;have aq:=k0 (Kd.ao9 (aR bJ.z) (Kd.aU aD) hb);have au:=k0 (Kd.ao9 (aR iD.z) (Kd.aU aD) hb);have ax:=k0 (Kd.dV (aV cL.z) (Kd.aU aD) hb);have aA:=k0 (Kd.dV (aV dO.z) (Kd.aU aD) hb);have aG:=k0 (Kd.cC (aS dP.z) (Kd.aU aD) hb);have aM:=k0 (Kd.cC (aS dQ.z) (Kd.aU aD) hb);have bu:=k0 (Kd.cC (aS eF.z) (Kd.aU aD) hb);have cE:=k0 (Kd.cC (aS eG.z) (Kd.aU aD) hb);have ao8:=k0 (Kd.ao9 (aR pg.z) (Kd.aU aD) hb);have cG:=k0 (Kd.cU (Kd.cT (Kd.cT (Kd.cT aD (Kd.bT (aR bJ.z))) (Kd.bT (aR iD.z))) (Kd.bT (aR pg.z))) (aoS bl));have dy:=kB ao3 hb;have eD:=kB cj hb;have eT:=kB bI hb;have fh:=kB cH hb;have gQ:=k0 (aH bl hb);clear bJ;clear iD;clear cL;clear dO;clear dP;clear dQ;clear eF;clear eG;clear pg;clear ao3;clear cj;clear bI;clear cH;clear HB;have bJ:=aq;have iD:=au;have cL:=ax;have dO:=aA;have dP:=aG;have dQ:=aM;have eF:=bu;have eG:=cE;have pg:=ao8;have Dk:=cG;have ao3:=dy;have cj:=eD;have bI:=eT;have cH:=fh;have HB:=gQ;clear aq au ax aA aG aM bu cE ao8 cG dy eD eT fh gQ;))
              go_ret
              exact ⟨eR,bl⟩
             rw [if_pos c125] at H
             have XM:(t170 == 0)=true:=beq_iff_eq.mpr c125
             have XN:(t170 != 0)=false:=bne_eq_false_iff_eq.mpr c125
             clear c125
             replace H:=Option.bind_eq_some_iff.mp H
             obtain ⟨t171,NB,H⟩:=H
             replace H:(some t171)=some r:=H
             have UH:=k0 NB
             clear NB
             obtain rfl:=Option.some.inj H
             have amx:=sY.z
             have ang:=wZ.z
             have amy:=apT.z
             have anh:=vK.z
             have amz:=rX.z
             have ani:=Du.z
             have ah6:=aQ ao3
             have ah7:=aoT ao3
             have akf:=bF ao3 0
             have akg:=bF ao3 1
             obtain ⟨UQ,Yn,Zh⟩:=Kd.dM iD.z
             subst Zh
             go_wp2_with (first|((with_reducible refine bg (f:=53) rfl ?_);refine gC (some 130) Try.func53 #[.agg #[.int .i64 t102,.slice kD t103.length apq],.slice UQ vu.length Yn] ?_;(with_reducible refine (mL.calls k4 t102 _ _ t103 _ _ vu t163 t166 _ ?aoN ?aoP ?bA ?bH II.z).mono ?_);(case aoN=>exact aC ((Kd.dm cL.z).2.2));(case aoP=>exact (Kd.dm cL.z).2.1);(case bA=>exact aC ((Kd.cx iD.z).2.2));(case bH=>exact (Kd.cx iD.z).2.1);rintro e aoH ⟨v164,rfl,aD,hb⟩;refine ⟨_,rfl,?_⟩;have aq:=k0 (Kd.ao9 (aR bJ.z) (Kd.aU aD) hb);have au:=k0 (Kd.ao9 (aR iD.z) (Kd.aU aD) hb);have ax:=k0 (Kd.dV (aV cL.z) (Kd.aU aD) hb);have aA:=k0 (Kd.dV (aV dO.z) (Kd.aU aD) hb);have aG:=k0 (Kd.cC (aS dP.z) (Kd.aU aD) hb);have aM:=k0 (Kd.cC (aS dQ.z) (Kd.aU aD) hb);have bu:=k0 (Kd.cC (aS eF.z) (Kd.aU aD) hb);have cE:=k0 (Kd.cC (aS eG.z) (Kd.aU aD) hb);have ao8:=k0 (Kd.cU (Kd.cT (Kd.cT aD (Kd.bT (aR bJ.z))) (Kd.bT (aR iD.z))) (aoS bl));have cG:=kB ao3 hb;have dy:=kB cj hb;have eD:=kB bI hb;have eT:=kB cH hb;have fh:=k0 (aH bl hb);clear bJ;clear iD;clear cL;clear dO;clear dP;clear dQ;clear eF;clear eG;clear ao3;clear cj;clear bI;clear cH;clear HB;have bJ:=aq;have iD:=au;have cL:=ax;have dO:=aA;have dP:=aG;have dQ:=aM;have eF:=bu;have eG:=cE;have pg:=ao8;have ao3:=cG;have cj:=dy;have bI:=eD;have cH:=eT;have HB:=fh;clear aq au ax aA aG aM bu cE ao8 cG dy eD eT fh;have ah8:=aQ ao3;have ah9:=aoT ao3;have akh:=bF ao3 0;have aki:=bF ao3 1)|((with_reducible refine bg (f:=59) rfl ?_);refine gC (some 135) Try.func59 #[.agg #[.int .i64 t102,.slice kD t103.length apq]] ?_;(with_reducible refine (wQ.calls k4 t102 _ _ t103 t167 t170 _ ?aoN ?aoP IJ.z).mono ?_);(case aoN=>exact aC ((Kd.dm cL.z).2.2));(case aoP=>exact (Kd.dm cL.z).2.1);rintro e aoI ⟨v168,rfl,aD,hb⟩;refine ⟨_,rfl,?_⟩;have aq:=k0 (Kd.ao9 (aR bJ.z) (Kd.aU aD) hb);have au:=k0 (Kd.ao9 (aR iD.z) (Kd.aU aD) hb);have ax:=k0 (Kd.dV (aV cL.z) (Kd.aU aD) hb);have aA:=k0 (Kd.dV (aV dO.z) (Kd.aU aD) hb);have aG:=k0 (Kd.cC (aS dP.z) (Kd.aU aD) hb);have aM:=k0 (Kd.cC (aS dQ.z) (Kd.aU aD) hb);have bu:=k0 (Kd.cC (aS eF.z) (Kd.aU aD) hb);have cE:=k0 (Kd.cC (aS eG.z) (Kd.aU aD) hb);have ao8:=k0 (Kd.ao9 (aR pg.z) (Kd.aU aD) hb);have cG:=k0 (Kd.cU (Kd.cT (Kd.cT (Kd.cT aD (Kd.bT (aR bJ.z))) (Kd.bT (aR iD.z))) (Kd.bT (aR pg.z))) (aoS bl));have dy:=kB ao3 hb;have eD:=kB cj hb;have eT:=kB bI hb;have fh:=kB cH hb;have gQ:=k0 (aH bl hb);clear bJ;clear iD;clear cL;clear dO;clear dP;clear dQ;clear eF;clear eG;clear pg;clear ao3;clear cj;clear bI;clear cH;clear HB;have bJ:=aq;have iD:=au;have cL:=ax;have dO:=aA;have dP:=aG;have dQ:=aM;have eF:=bu;have eG:=cE;have pg:=ao8;have Dk:=cG;have ao3:=dy;have cj:=eD;have bI:=eT;have cH:=fh;have HB:=gQ;clear aq au ax aA aG aM bu cE ao8 cG dy eD eT fh gQ;obtain ⟨af',ahC,Zi⟩:=Kd.dM pg.z;subst Zi;obtain ⟨af_,ahD,Zj⟩:=Kd.dM Dk.z;subst Zj)|(go_at_call 44;(with_reducible refine (iC.calls k4 _ _ t163 _ _ t167 t171 _ ?aoN ?aoP ?bA ?bH UH.z).mono ?_);(case aoN=>exact aC ((Kd.cx pg.z).2.2));(case aoP=>exact (Kd.cx pg.z).2.1);(case bA=>exact aC ((Kd.cx Dk.z).2.2));(case bH=>exact (Kd.cx Dk.z).2.1);rintro e w' ⟨rfl,⟨nd,rfl⟩⟩))
             go_ret
             exact ⟨eR,bl⟩
            rw [if_pos c119] at H
            have XJ:=decide_eq_true c119
            clear c119
            replace H:=iS H;obtain ⟨c120,H⟩:=H
            have V8:=k0 c120
            clear c120
            obtain ⟨UB,L8⟩:∃ y_:List Int,y_=(vu ++ [1]):=⟨_,rfl⟩
            replace H:(dL.l0 k4 t106 UB (wrap64 (aqK+1)) t102 t103)=some r:=rH L8 H
            have WH:=k0 L8
            clear L8
            have H':=k0 H
            clear H
            go_wp2_with (first|((with_reducible refine kQ (b:=.append) (xs:=#[.tmp 124,.tmp 125]) rfl ?_);at_builtin;refine Kd.p9 (Kd.int .i64) (w0:=w) w.heap.size rfl (.tmp 124) (.tmp 125) 28 2 (.int .i64 0) 8 rfl Try.underlying28 mR rfl (by decide) (by omega) u19 vu 1 [.int .i64 1] (fun k_=>some k_ ≠ (.slice dc t106.length cW:Value).ownBlock) (fun _=>False) rfl rfl ?aP (fun _ hk=>hk.elim) ?aF ?aO ?aB ?aS ?aL ?_;(case aP=>exact rfl);(case aB=>exact bl);(case aF=>exact (fun k_ hk=>Kd.fresh' (Kd.bT (aR bJ.z)) k_ hk));(case aO=>exact (aR iD.z));(case aS=>exact (aoS bl));(case aL=>have:=V8.out;omega);intro aok aoG ho hb hg ao1;rw [← WH.z] at ho;have aq:=k0 (Kd.ap5 (ok:=(fun _=>True)) (by (with_reducible repeat (first|apply Kd.dK|apply Kd.dD|apply Kd.cB));exact Kd.aoY bJ.z (fun _ hk=>⟨trivial,hk⟩)) hg ao1);have au:=k0 (Kd.DJ (ok:=(fun k_=>some k_ ≠ (.slice dc t106.length cW:Value).ownBlock∧some k_ ≠ (.slice eN t128.length eK:Value).ownBlock∧some k_ ≠ (.slice ep t132.length eo:Value).ownBlock∧some k_ ≠ (.slice fk t138.length fe:Value).ownBlock∧some k_ ≠ (.slice ej t142.length ee:Value).ownBlock∧k_ ≠ kR∧k_ ≠ k6∧k_ ≠ jD∧k_ ≠ i_)) (by (with_reducible repeat (first|apply Kd.nc|apply Kd.mN|apply Kd.kE));exact Kd.bP cL.z (fun _ hk=>⟨⟨hk.1,⟨hk.2.2.1,⟨hk.2.2.2.1,⟨hk.2.2.2.2.1,⟨hk.2.2.2.2.2.1,⟨hk.2.2.2.2.2.2.1,⟨hk.2.2.2.2.2.2.2.1,⟨hk.2.2.2.2.2.2.2.2.1,hk.2.2.2.2.2.2.2.2.2⟩⟩⟩⟩⟩⟩⟩⟩,hk.2.1⟩)) hg ao1);have ax:=k0 (Kd.DJ (ok:=(fun k_=>some k_ ≠ (.slice dc t106.length cW:Value).ownBlock∧some k_ ≠ (.slice eN t128.length eK:Value).ownBlock∧some k_ ≠ (.slice ep t132.length eo:Value).ownBlock∧some k_ ≠ (.slice fk t138.length fe:Value).ownBlock∧some k_ ≠ (.slice ej t142.length ee:Value).ownBlock∧k_ ≠ kR∧k_ ≠ k6∧k_ ≠ jD∧k_ ≠ i_)) (by (with_reducible repeat (first|apply Kd.nc|apply Kd.mN|apply Kd.kE));exact Kd.bP dO.z (fun _ hk=>⟨⟨hk.1,⟨hk.2.2.1,⟨hk.2.2.2.1,⟨hk.2.2.2.2.1,⟨hk.2.2.2.2.2.1,⟨hk.2.2.2.2.2.2.1,⟨hk.2.2.2.2.2.2.2.1,⟨hk.2.2.2.2.2.2.2.2.1,hk.2.2.2.2.2.2.2.2.2⟩⟩⟩⟩⟩⟩⟩⟩,hk.2.1⟩)) hg ao1);have aA:=k0 (Kd.apW (ok:=(fun k_=>some k_ ≠ (.slice dc t106.length cW:Value).ownBlock∧some k_ ≠ (.slice ep t132.length eo:Value).ownBlock∧some k_ ≠ (.slice fk t138.length fe:Value).ownBlock∧some k_ ≠ (.slice ej t142.length ee:Value).ownBlock)) (by (with_reducible repeat (first|apply Kd.cM|apply Kd.cI|apply Kd.cr));exact Kd.bq dP.z (fun _ hk=>⟨⟨hk.1,⟨hk.2.2.1,⟨hk.2.2.2.1,hk.2.2.2.2⟩⟩⟩,hk.2.1⟩)) hg ao1);have aG:=k0 (Kd.apW (ok:=(fun k_=>some k_ ≠ (.slice dc t106.length cW:Value).ownBlock∧some k_ ≠ (.slice eN t128.length eK:Value).ownBlock∧some k_ ≠ (.slice fk t138.length fe:Value).ownBlock∧some k_ ≠ (.slice ej t142.length ee:Value).ownBlock)) (by (with_reducible repeat (first|apply Kd.cM|apply Kd.cI|apply Kd.cr));exact Kd.bq dQ.z (fun _ hk=>⟨⟨hk.1,⟨hk.2.2.1,⟨hk.2.2.2.1,hk.2.2.2.2⟩⟩⟩,hk.2.1⟩)) hg ao1);have aM:=k0 (Kd.apW (ok:=(fun k_=>some k_ ≠ (.slice dc t106.length cW:Value).ownBlock∧some k_ ≠ (.slice eN t128.length eK:Value).ownBlock∧some k_ ≠ (.slice ep t132.length eo:Value).ownBlock∧some k_ ≠ (.slice ej t142.length ee:Value).ownBlock)) (by (with_reducible repeat (first|apply Kd.cM|apply Kd.cI|apply Kd.cr));exact Kd.bq eF.z (fun _ hk=>⟨⟨hk.1,⟨hk.2.2.1,⟨hk.2.2.2.1,hk.2.2.2.2⟩⟩⟩,hk.2.1⟩)) hg ao1);have bu:=k0 (Kd.apW (ok:=(fun k_=>some k_ ≠ (.slice dc t106.length cW:Value).ownBlock∧some k_ ≠ (.slice eN t128.length eK:Value).ownBlock∧some k_ ≠ (.slice ep t132.length eo:Value).ownBlock∧some k_ ≠ (.slice fk t138.length fe:Value).ownBlock)) (by (with_reducible repeat (first|apply Kd.cM|apply Kd.cI|apply Kd.cr));exact Kd.bq eG.z (fun _ hk=>⟨⟨hk.1,⟨hk.2.2.1,⟨hk.2.2.2.1,hk.2.2.2.2⟩⟩⟩,hk.2.1⟩)) hg ao1);have cE:=k0 (fl (aB ao3.z) hg (Kd.kr iD.z ao3.z (by decide)));have ao8:=k0 (fl (aB cj.z) hg (Kd.kr iD.z cj.z (by decide)));have cG:=k0 (fl (aB bI.z) hg (Kd.kr iD.z bI.z (by decide)));have dy:=k0 (fl (aB cH.z) hg (Kd.kr iD.z cH.z (by decide)));have eD:=k0 (hb);have eT:=k0 (ho);clear bJ;clear cL;clear dO;clear dP;clear dQ;clear eF;clear eG;clear ao3;clear cj;clear bI;clear cH;clear HB;clear iD;have bJ:=aq;have cL:=au;have dO:=ax;have dP:=aA;have dQ:=aG;have eF:=aM;have eG:=bu;have ao3:=cE;have cj:=ao8;have bI:=cG;have cH:=dy;have HB:=eD;have VQ:=eT;clear aq au ax aA aG aM bu cE ao8 cG dy eD eT;clear ho hb hg ao1))
            go_roundg k4
            case measure=>have:=zu.out;have:=Dh.out;have:=Jc.out;have:=oG.z;omega
            case rel=>exact ⟨(UB),(wrap64 (aqK+1)),rs,H',⟨by have:=zu.out;have:=Dh.out;have:=Jc.out;have:=oG.z;omega⟩,⟨aR (Kd.aoY bJ.z (fun _ hk=>hk.2))⟩,⟨aR (VQ.z)⟩,⟨aV (Kd.bP cL.z (fun _ hk=>⟨hk.1.1,⟨hk.2,⟨hk.1.2.1,⟨hk.1.2.2.1,⟨hk.1.2.2.2.1,⟨hk.1.2.2.2.2.1,⟨hk.1.2.2.2.2.2.1,⟨hk.1.2.2.2.2.2.2.1,⟨hk.1.2.2.2.2.2.2.2.1,hk.1.2.2.2.2.2.2.2.2⟩⟩⟩⟩⟩⟩⟩⟩⟩))⟩,⟨aV (Kd.bP dO.z (fun _ hk=>⟨hk.1.1,⟨hk.2,⟨hk.1.2.1,⟨hk.1.2.2.1,⟨hk.1.2.2.2.1,⟨hk.1.2.2.2.2.1,⟨hk.1.2.2.2.2.2.1,⟨hk.1.2.2.2.2.2.2.1,⟨hk.1.2.2.2.2.2.2.2.1,hk.1.2.2.2.2.2.2.2.2⟩⟩⟩⟩⟩⟩⟩⟩⟩))⟩,⟨aS (Kd.bq dP.z (fun _ hk=>⟨hk.1.1,⟨hk.2,⟨hk.1.2.1,⟨hk.1.2.2.1,hk.1.2.2.2⟩⟩⟩⟩))⟩,⟨aS (Kd.bq dQ.z (fun _ hk=>⟨hk.1.1,⟨hk.2,⟨hk.1.2.1,⟨hk.1.2.2.1,hk.1.2.2.2⟩⟩⟩⟩))⟩,⟨aS (Kd.bq eF.z (fun _ hk=>⟨hk.1.1,⟨hk.2,⟨hk.1.2.1,⟨hk.1.2.2.1,hk.1.2.2.2⟩⟩⟩⟩))⟩,⟨aS (Kd.bq eG.z (fun _ hk=>⟨hk.1.1,⟨hk.2,⟨hk.1.2.1,⟨hk.1.2.2.1,hk.1.2.2.2⟩⟩⟩⟩))⟩,⟨bk⟩,⟨bk⟩,⟨bk⟩,⟨bk⟩,⟨bl⟩⟩
       subst c57
       have H1:(some false)=some r:=by rw [if_pos rfl] at H;exact H
       clear H
       have H:=H1
       clear H1
       obtain rfl:=Option.some.inj H
       go_wp2
       go_ret
       exact ⟨eR,bl⟩
    subst c20
    have H1:(some false)=some r:=by rw [if_pos rfl] at H;exact H
    clear H
    have H:=H1
    clear H1
    obtain rfl:=Option.some.inj H
    go_wp2
    go_ret
    exact ⟨eR,bl⟩
 subst c3
 have H1:(some true)=some r:=by rw [if_pos rfl] at H;exact H
 clear H
 have H:=H1
 clear H1
 obtain rfl:=Option.some.inj H
 go_enter Try.func11,Try.ntmps11
 go_wp2_with (first|((with_reducible refine bg (f:=40) rfl ?_);refine gC (some 26) Try.func40 #[.slice A0 l0.length c0] ?_;(with_reducible refine (zk.calls _ _ l0 true _ ?aoN ?aoP A2.z).mono ?_);(case aoN=>exact aC ek.z);(case aoP=>exact jx.z);rintro e w' ⟨rfl,⟨nd,rfl⟩⟩;refine ⟨_,rfl,?_⟩))
 go_ret
 exact ⟨eR,bl⟩
/-- THE ONE PURE STATEMENT of F11: yours. -/
def dL.Pure:Prop:=∀ (l0:List Int),l0.length≤maxLen→l0.length * 1≤140737488351232→(∀ x ∈ l0,(Lit.int .u8 x).wf=true)→∃ k,dL.f k l0=some true
theorem nil (W:World) (k:IntKind):ag0 W k none ([]:List Int).length []:=⟨rfl,by simp,fun h=>absurd h (Nat.lt_irrefl 0)⟩
theorem ofRow {k : IntKind} {w : World} {a : Option Addr} {len cap : Nat} {zs : List Int} (h : (a = none ∧ len = 0 ∧ cap = 0 ∧ zs = []) ∨ ∃ x, a = some x ∧ len ≤ cap ∧ cap ≤ maxLen ∧ zs.length = cap ∧ (∀ i, i < zs.length → w.cell? (x.add i) = some (.int k (zs.getD i 0))) ∧ ∀ n ∈ zs, (Lit.int k n).wf = true) :
  ∃ l:List Int,len=l.length∧ag0 w k a l.length l∧l.length≤maxLen∧∀ x ∈ l,(Lit.int k x).wf=true:=by
 rcases h with ⟨rfl,rfl,rfl,rfl⟩|⟨x,rfl,hl,hm,hz,hc,hw⟩
 ·exact ⟨[],rfl,nil _ _,Nat.zero_le _,fun x hx=>by simp at hx⟩
 ·have e : (zs.take len).length = len := by simp; omega
  have hm':len≤maxLen:=Nat.le_trans hl hm
  refine ⟨zs.take len,e.symm,⟨rfl,by rw [e];simpa [maxLen] using hm',fun _=>⟨x,rfl,fun j hj=>?_⟩⟩,by rw [e];exact hm',fun y hy=>hw y (List.mem_of_mem_take hy)⟩
  rw [e] at hj
  rw [hc j (by omega)]
  simp [List.getD,List.getElem?_take,hj]
theorem ofRowC {k : IntKind} {w : World} {a : Option Addr} {len cap : Nat} {zs : List Int} (h : (a = none ∧ len = 0 ∧ cap = 0 ∧ zs = []) ∨ ∃ x, a = some x ∧ len ≤ cap ∧ cap ≤ maxLen ∧ zs.length = cap ∧ (∀ i, i < zs.length → w.cell? (x.add i) = some (.int k (zs.getD i 0))) ∧ ∀ n ∈ zs, (Lit.int k n).wf = true) :
  ∃ l:List Int,len=l.length∧ag0 w k a l.length l∧l.length≤maxLen∧(∀ x ∈ l,(Lit.int k x).wf=true)∧l.length≤cap:=by
 have hl:len≤cap:=by
  rcases h with ⟨_,rfl,rfl,_⟩|⟨_,_,h,_⟩
  ·exact Nat.le_refl _
  ·exact h
 obtain ⟨l,e,h1,h2,h3⟩:=ofRow h
 exact ⟨l,e,h1,h2,h3,e ▸ hl⟩
theorem dL.walk (P : dL.Pure) (a0 : Option Addr) (Mk PG : Nat) (z0 : List Int) (w : World) (w0 : (a0 = none ∧ Mk = 0 ∧ PG = 0 ∧ z0 = []) ∨ ∃ x, a0 = some x ∧ Mk ≤ PG ∧ PG ≤ maxLen ∧ z0.length = PG ∧ (∀ i, i < z0.length → w.cell? (x.add i) = some (.int .u8 (z0.getD i 0))) ∧ ∀ n ∈ z0, (Lit.int .u8 n).wf = true) (y0 : Mk * 1 ≤ 140737488351232) :
  Calls Try.prog 11 #[.slice a0 Mk PG] w fun e w'=>e=.returned (.bool true)∧Below w.heap.size w w':=by
 obtain ⟨l0,rfl,cY,hm0,hw0,hc0⟩:=ofRowC w0
 obtain ⟨k,h⟩:=P l0 hm0 y0 hw0
 refine (dL.calls k _ _ l0 true w (Kd.N7 (d:=(0:Int)) (h1:=fun _=>rfl) cY) hc0 h).mono ?_
 rintro e w' ⟨rfl,hd⟩
 exact ⟨rfl,hd⟩
end Go.Proofs.Ytoebojnhchocaaa.E
/- Set with little white space, by a program. -/
