/- Go's calls come to what the Lean functions say. Condition of each: that the Lean function answers. -/
import Derived.Test.YtapnggjaeehpdaaBx0
import Derived.Test.YtapnggjaeehpdaaBx1
import Derived.Test.YtapnggjaeehpdaaBx3
import Derived.Test.YtapnggjaeehpdaaBx6
import Derived.Test.YtapnggjaeehpdaaBx8
import Derived.Test.YtapnggjaeehpdaaBx13
import Derived.Test.YtapnggjaeehpdaaBx15
namespace Go.Proofs.Ytapnggjaeehpdaa.B
open Go.RowKit Go.Proofs.bz.dI Go.Proofs.bz.iY Go.Proofs.bz.jn
attribute [local go_sem] max2_int min2_int max_two min_two max_three min_three max_four min_four
set_option linter.unusedVariables false
set_option linter.unusedSimpArgs false
set_option maxHeartbeats 8000000
set_option maxRecDepth 100000
/-! ### F88: function 88 -/
mutual
def eG.l0 : Nat → List (List Int) → List (List Int) → List (List Int) → Int → Option ((List (List Int)))
 | 0,_,_,_,_=>none
 | k+1,x0,x1,x5,x6=>if x6 < (x0.length:Int) then (if 0≤(x1.length:Int) then (if ((x1.length:Int):Int).toNat≤35184372088832 then (eG.l1 k x0 x1 x5 x6 (List.replicate ((x1.length:Int):Int).toNat 0) 0) else (none)) else (none)) else (some x5)
def eG.l1 : Nat → List (List Int) → List (List Int) → List (List Int) → Int → List Int → Int → Option ((List (List Int)))
 | 0,_,_,_,_,_,_=>none
 | k+1,x0,x1,x5,x6,x7,x8=>if x8 < (x1.length:Int) then (if 0≤x6 then (if x6 < (x0.length:Int) then (if 0≤x8 then (if x8 < ((ai x0 x6).length:Int) then (if (rd (ai x0 x6) x8)=0 then (eG.l1 k x0 x1 x5 x6 x7 (wrap64 (x8+1))) else (eG.l2 k x0 x1 x5 x6 x7 x8 0)) else (none)) else (none)) else (none)) else (none)) else (if x5.length < 5864062014805 then (eG.l0 k x0 x1 (x5 ++ [x7]) (wrap64 (x6+1))) else (none))
def eG.l2 : Nat → List (List Int) → List (List Int) → List (List Int) → Int → List Int → Int → Int → Option ((List (List Int)))
 | 0,_,_,_,_,_,_,_=>none
 | k+1,x0,x1,x5,x6,x7,x8,x9=>if x9 < (x1.length:Int) then (if 0≤x9 then (if x9 < (x7.length:Int) then (if 0≤x6 then (if x6 < (x0.length:Int) then (if 0≤x8 then (if x8 < ((ai x0 x6).length:Int) then (if x8 < (x1.length:Int) then (if x9 < ((ai x1 x8).length:Int) then (eG.l2 k x0 x1 x5 x6 (x7.set (x9:Int).toNat (wrap64 ((rd x7 x9)+(wrap64 ((rd (ai x0 x6) x8) * (rd (ai x1 x8) x9)))))) x8 (wrap64 (x9+1))) else (none)) else (none)) else (none)) else (none)) else (none)) else (none)) else (none)) else (none)) else (eG.l1 k x0 x1 x5 x6 x7 (wrap64 (x8+1)))
end
def eG.f (k:Nat) (l0:List (List Int)) (l1:List (List Int)):Option ((List (List Int))):=eG.l0 k l0 l1 (([]:List (List Int))) 0
def eG.F1:Bool × List (List Nat × List Nat):=(true,[([],[]),([],[]),([],[]),([],[]),([2,3],[2,3]),([4],[4]),([],[]),([],[]),([6,7],[6,7]),([8],[8]),([],[]),([9,10],[9,10]),([11],[11]),([],[]),([],[]),([13,14],[13,14]),([15],[15]),([],[]),([16,17],[16,17]),([18],[18]),([12,19],[12,19]),([5,20],[5,20]),([0,1,0,1,2,3,4,5,6,7,8,9,10,11,12,13,14,15,16,17,18,19,20,21],[0,1]),([22,21,0,1,2,3,4,5,6,7,8,9,10,11,12,13,14,15,16,17,18,19,20,21],[21,22])])
def eG.L7:List Nat:=[0,0,0,0,12,28,0,0,192,448,0,1984,4032,0,0,24576,57344,0,253952,516096,1048512,2097148,4194303,8388607]
theorem eG.Ll:eB .any (opsOf Try.f88 13)=eG.F1:=by kernel_rfl
theorem eG.JI:ie eG.F1.2 eG.L7=true:=by kernel_rfl
theorem eG.calls (k : Nat) (A0 : Option Addr) (c0 : Nat) (l0 : List (List Int)) (A1 : Option Addr) (c1 : Nat) (l1 : List (List Int)) (r : List (List Int)) (w : World) (bX : Kd.C (Kd.slice 2 (Kd.int .i64)) w A0 l0.length l0) (hc0 : l0.length ≤ c0) (gl : Kd.C (Kd.slice 2 (Kd.int .i64)) w A1 l1.length l1) (iQ : l1.length ≤ c1) (h : eG.f k l0 l1 = some r) :
  Calls Try.prog 88 #[.slice A0 l0.length c0,.slice A1 l1.length c1] w fun e w'=>∃ ati:Value,e=.returned (ati)∧Kd.S (Kd.slice 2 (Kd.int .i64)) 29 w' w.heap.size (fun _=>True) ati r∧Below w.heap.size w w':=by
 have dh:=k0 bX
 have gG:=k0 hc0
 clear bX hc0
 have iM:=k0 gl
 have yE:=k0 iQ
 clear gl iQ
 have HB:=k0 (Below.refl w.heap.size w)
 unfold eG.f at h
 have H:=h
 clear h
 obtain ⟨atN,gH⟩:=nY (([]:List (List Int)):List (List Int))
 replace H:(eG.l0 k l0 l1 atN 0)=some r:=rH gH.z H
 have H':=k0 H
 clear H
 go_enter Try.func88,Try.ntmps88
 go_wp2_with (first|(refine aX (N:=10) rfl ?_;refine Kd.Eb (Kd.slice 2 (Kd.int .i64)) _ 29 ?hg (N:=10) ?hd (xs:=([]:List (List Int))) (inner:=[]) (ok:=fun _=>True) (cm:=fun _=>True) ?hr ?hp (fun _ hk=>hk) trivial (Below.refl _ _) (Nat.le_refl _) (by simp) ?_;(case hd=>rfl);(case hg=>rfl);(case hr=>first|(go_simp;done)|(go_simp;rfl));(case hp=>exact (aJ.none _ _));intro nO w3 fM hb bR atf;clear bR atf;(first|rw [← gH.z] at fM|(simp only [Int.reduceToNat] at fM;rw [← gH.z] at fM));have eV:=k0 (Kd.jD fM (as8 bl));replace HB:=bW hb;clear hb fM))
 go_loopg [5,6] k (fun kq v5 v6 w'=>∃ (aD:List (List Int)) (as1:Int),v6=.int .i64 as1∧af (eG.l0 kq l0 l1 aD as1=some r)∧af (kq≤k)∧af (Kd.S (Kd.slice 2 (Kd.int .i64)) 29 w' w.heap.size (fun _=>True) v5 aD)∧af (Below w.heap.size w w'))
 case atStart=>exact ⟨(atN),(0),rs,H',⟨Nat.le_refl _⟩,⟨aS (eV.z)⟩,⟨bl⟩⟩
 case round =>
  clear H'
  obtain ⟨aD,as1,rfl,HA,as3,aq,HB⟩:=hrel
  cases gk with
  | zero=>exact absurd HA.z (by simp [eG.l0])
  | succ k1 =>
   have H:=HA.z
   clear HA
   simp only [eG.l0] at H
   replace H:=iC H;obtain ⟨gJ,H⟩|⟨gJ,H⟩:=H
   case inl =>
    obtain rfl:=Option.some.inj H
    go_wp2
    go_ret
    exact ⟨_,eR,aS aq.z,bl⟩
   replace H:=iS H;obtain ⟨c6,H⟩:=H
   have iP:=eq_true c6
   have mY:=decide_eq_true c6
   clear c6
   replace H:=iS H;obtain ⟨c7,H⟩:=H
   have pn:=eq_true c7
   have au5:=decide_eq_true c7
   clear c7
   obtain ⟨mA,mW⟩:=nY (List.replicate ((l1.length:Int):Int).toNat 0:List Int)
   replace H:(eG.l1 k1 l0 l1 aD as1 mA 0)=some r:=rH mW.z H
   have H':=k0 H
   clear H
   go_wp2_with (first|(refine aX (N:=19) rfl ?_;refine Kd.Jw (Kd.int .i64) _ 2 rfl (N:=19) rfl 29 _ _ rfl (l1.length:Int) rfl rfl Try.underlying29 (.int .i64 0) 8 ju rfl (by decide) (by omega) 0 (ok:=fun _=>True) (cm:=fun _=>True) rfl (fun _ hk=>hk) trivial oD (Nat.le_trans (Nat.mul_le_mul_right _ (oD:(l1.length:Int).toNat≤35184372088832)) (by omega)) (Below.refl _ _) (Nat.le_refl _) ?_;intro qV w8 kj hb bR atf;clear bR atf;(first|rw [← mW.z] at kj|(simp only [Int.reduceToNat] at kj;rw [← mW.z] at kj));replace aq:=kg aq (Kd.bh kj) hb;have dG:=k0 (Kd.cg kj (as8 bl));replace HB:=bW hb;clear hb kj))
   go_loopg [8] k1 (fun kq v8 w'=>∃ (iI:List Int) (cJ:Int),v8=.int .i64 cJ∧af (eG.l1 kq l0 l1 aD as1 iI cJ=some r)∧af (kq≤k1)∧af (Kd.S (Kd.slice 2 (Kd.int .i64)) 29 w' w.heap.size (fun k_=>some k_ ≠ (qV:Value).ownBlock) u5 aD)∧af (Kd.R (Kd.int .i64) 2 w' w.heap.size (fun _=>True) qV iI)∧af (Below w.heap.size w w'))
   case atStart=>exact ⟨(mA),(0),rs,H',⟨Nat.le_refl _⟩,⟨aS (Kd.bQ aq.z (fun _ hk=>hk.2))⟩,⟨aR (dG.z)⟩,⟨bl⟩⟩
   case round =>
    clear H'
    obtain ⟨iI,cJ,rfl,HA,bw,aq,bG,HB⟩:=hrel
    cases gk with
    | zero=>exact absurd HA.z (by simp [eG.l1])
    | succ k2 =>
     have H:=HA.z
     clear HA
     simp only [eG.l1] at H
     replace H:=iC H;obtain ⟨iw,H⟩|⟨iw,H⟩:=H
     case inl =>
      replace H:=iS H;obtain ⟨c29,H⟩:=H
      have Nh:=k0 c29
      clear c29
      obtain ⟨jl,lV⟩:=nY (aD ++ [iI]:List (List Int))
      replace H:(eG.l0 k2 l0 l1 jl (wrap64 (as1+1)))=some r:=rH lV.z H
      have H':=k0 H
      clear H
      obtain ⟨xI,pz,rfl⟩:=Kd.b9 bG.z
      go_wp2_with (first|((with_reducible refine ji (b:=.append) (xs:=#[.tmp 63,.tmp 65]) rfl ?_);at_builtin;refine Kd.uv (Kd.slice 2 (Kd.int .i64)) (w0:=w) w.heap.size rfl (.tmp 63) (.tmp 65) 24 29 (.slice none 0 0) 24 rfl Try.underlying24 sB rfl (by decide) (by omega) u5 aD iI [.slice xI iI.length pz] (fun _=>True) (fun k_=>some k_=(.slice xI iI.length pz:Value).ownBlock) rfl rfl ?aP (fun k_ aU=>((Kd.aH (ok':=fun k_=>((fun _=>True)) k_∧some k_ ≠ (u5:Value).ownBlock) (Kd.iZ (bG.z) (Kd.atC aq.z) (by decide)) (fun k_ hk=>⟨trivial,hk.2⟩))).1 k_ aU.symm) ?aF ?aO ?aB ?aS ?aL ?_;(case aP=>exact Kd.ke (Kd.aH (Kd.om rfl (Kd.aH (ok':=fun k_=>((fun _=>True)) k_∧some k_ ≠ (u5:Value).ownBlock) (Kd.iZ (bG.z) (Kd.atC aq.z) (by decide)) (fun k_ hk=>⟨trivial,hk.2⟩))) (fun _ h_=>h_)));(case aB=>exact bl);(case aF=>exact (fun _ _=>trivial));(case aO=>exact (aS (Kd.bQ aq.z (fun k_ hk=>⟨trivial,fun e_=>hk e_⟩))));(case aS=>exact (as8 bl));(case aL=>have:=Nh.out;omega);intro xk Bp ho hb hg a_;rw [← lV.z] at ho;replace HB:=k0 hb;have fj:=k0 ho;clear aq bG;clear ho hb hg a_))
      go_roundg k2
      case measure=>have:=as3.z;have:=bw.z;omega
      case rel=>exact ⟨(jl),(wrap64 (as1+1)),rs,H',⟨by have:=as3.z;have:=bw.z;omega⟩,⟨aS (fj.z)⟩,⟨bl⟩⟩
     replace H:=iS H;obtain ⟨c11,H⟩:=H
     have kW:=decide_eq_true c11
     clear c11
     replace H:=iS H;obtain ⟨c12,H⟩:=H
     have pg:=decide_eq_true c12
     clear c12
     replace H:=iS H;obtain ⟨c13,H⟩:=H
     have qF:=decide_eq_true c13
     clear c13
     replace H:=iS H;obtain ⟨c14,H⟩:=H
     have ov:=decide_eq_true c14
     clear c14
     replace H:=iE H;obtain ⟨c15,qG,Em,H⟩|⟨qG,Em,H⟩:=H
     case inl =>
      have H':=k0 H
      clear H
      obtain ⟨pO,pQ⟩:=iN as1 (l0.length:Int)
      obtain ⟨F2,Fm,Gb,e110,tF,wu,auQ⟩:=b8 dh.z as1 pO pQ
      cases e110
      replace tF:=hbc HB tF
      have xO:=k0 auQ
      have Mf:=k0 wu
      clear auQ wu
      replace pO:=eT pO
      replace pQ:=eT pQ
      obtain ⟨oM,oO⟩:=iN cJ ((ai l0 as1).length:Int)
      obtain ⟨F3,e111,sA⟩:=Kd.bK xO.z cJ oM oO
      cases e111
      replace sA:=hbc HB sA
      replace oM:=eT oM
      replace oO:=eT oO
      go_wp2
      go_loopg [9] k2 (fun kq v9 w'=>∃ (gP:List Int) (lp:Int),v9=.int .i64 lp∧af (eG.l2 kq l0 l1 aD as1 gP cJ lp=some r)∧af (kq≤k2)∧af (Kd.S (Kd.slice 2 (Kd.int .i64)) 29 w' w.heap.size (fun k_=>some k_ ≠ (qV:Value).ownBlock) u5 aD)∧af (Kd.R (Kd.int .i64) 2 w' w.heap.size (fun _=>True) qV gP)∧af (Below w.heap.size w w'))
      case atStart=>exact ⟨(iI),(0),rs,H',⟨Nat.le_refl _⟩,⟨aS (aq.z)⟩,⟨aR (bG.z)⟩,⟨bl⟩⟩
      case round =>
       clear H'
       obtain ⟨gP,lp,rfl,HA,cS,aq,bG,HB⟩:=hrel
       cases gk with
       | zero=>exact absurd HA.z (by simp [eG.l2])
       | succ k3 =>
        have H:=HA.z
        clear HA
        simp only [eG.l2] at H
        replace H:=iC H;obtain ⟨auo,H⟩|⟨auo,H⟩:=H
        case inl =>
         have H':=k0 H
         clear H
         go_wp2
         go_roundg k3
         case measure=>have:=as3.z;have:=bw.z;have:=cS.z;omega
         case rel=>exact ⟨(gP),(wrap64 (cJ+1)),rs,H',⟨by have:=as3.z;have:=bw.z;have:=cS.z;omega⟩,⟨aS (aq.z)⟩,⟨aR (bG.z)⟩,⟨bl⟩⟩
        replace H:=iS H;obtain ⟨c17,H⟩:=H
        have Ap:=decide_eq_true c17
        clear c17
        replace H:=iS H;obtain ⟨c18,H⟩:=H
        have au2:=decide_eq_true c18
        clear c18
        replace H:=iS H;obtain ⟨c19,H⟩:=H
        have auB:=decide_eq_true c19
        clear c19
        replace H:=iS H;obtain ⟨c20,H⟩:=H
        have au3:=decide_eq_true c20
        clear c20
        replace H:=iS H;obtain ⟨c21,H⟩:=H
        have ow:=decide_eq_true c21
        clear c21
        replace H:=iS H;obtain ⟨c22,H⟩:=H
        have Cd:=decide_eq_true c22
        clear c22
        replace H:=iS H;obtain ⟨c23,H⟩:=H
        have yZ:=decide_eq_true c23
        clear c23
        replace H:=iS H;obtain ⟨c24,H⟩:=H
        have Aq:=decide_eq_true c24
        clear c24
        obtain ⟨Z6,Tm⟩:=nY (gP.set (lp:Int).toNat (wrap64 ((rd gP lp)+(wrap64 ((rd (ai l0 as1) cJ) * (rd (ai l1 cJ) lp))))):List Int)
        replace H:(eG.l2 k3 l0 l1 aD as1 Z6 cJ (wrap64 (lp+1)))=some r:=rH Tm.z H
        have H':=k0 H
        clear H
        try go_wp2
        replace aq:=k0 (Kd.dK aq.z);replace bG:=k0 (Kd.di bG.z);replace HB:=k0 (eZ HB.z)
        obtain ⟨al',aoO,Vc⟩:=Kd.b9 bG.z
        (first|subst Vc|(injection Vc with atu jq fc;have jr:=atu.symm;have js:=fc.symm;clear atu jq fc;subst jr;subst js))
        obtain ⟨avl,Be⟩:=iN lp (gP.length:Int)
        obtain ⟨T7,e112,EP⟩:=Kd.bK (Kd.bD bG.z).2.2 lp avl Be
        cases e112
        replace avl:=eT avl
        replace Be:=eT Be
        obtain ⟨avm,Bf⟩:=iN as1 (l0.length:Int)
        obtain ⟨NC,aad,avR,e113,y_,Hl,G8⟩:=b8 dh.z as1 avm Bf
        have ahm:=y_
        obtain rfl:F2=NC:=(by injection e113)
        replace y_:=hbc HB y_
        have D0:=k0 G8
        have aa7:=k0 Hl
        clear G8 Hl
        replace avm:=eT avm
        replace Bf:=eT Bf
        obtain ⟨uV,uY⟩:=iN cJ ((ai l0 as1).length:Int)
        obtain ⟨jS,e114,uL⟩:=Kd.bK D0.z cJ uV uY
        have ahn:=uL
        cases e114
        replace uL:=hbc HB uL
        replace uV:=eT uV
        replace uY:=eT uY
        obtain ⟨wZ,auW⟩:=iN cJ (l1.length:Int)
        obtain ⟨avu,alL,adJ,e115,yd,XA,Xi⟩:=b8 iM.z cJ wZ auW
        have aho:=yd
        cases e115
        replace yd:=hbc HB yd
        have avS:=k0 Xi
        have amL:=k0 XA
        clear Xi XA
        replace wZ:=eT wZ
        replace auW:=eT auW
        obtain ⟨qh,qi⟩:=iN lp ((ai l1 cJ).length:Int)
        obtain ⟨Ec,e116,tG⟩:=Kd.bK avS.z lp qh qi
        have ahp:=tG
        cases e116
        replace tG:=hbc HB tG
        replace qh:=eT qh
        replace qi:=eT qi
        have Qu:0≤(lp:Int):=oD
        have QV:(lp:Int) < ((gP.length:Int):Int):=oD
        obtain ⟨OQ,ae1,Vb,VL,afO,aov,Sw⟩:=Kd.aun bG.z (by omega)
        (first|cases Vb|(injection Vb with atd atk dM;(first|subst atd|(injection atd with atd;subst atd));subst dM;clear atk))
        have aml:=k0 VL
        have aaQ:=k0 Sw
        clear VL afO Sw
        (first|simp only [add_plain] at EP|skip)
        obtain ⟨ahz,agW⟩:=Kd.nA 0 bG.z (lp:Int) Qu QV
        replace Qu:=eT Qu
        replace QV:=eT QV
        have MB:=Kd.Jy bG.z (lp:Int) (wrap64 ((rd gP lp)+(wrap64 ((rd (ai l0 as1) cJ) * (rd (ai l1 cJ) lp)))))
        rw [← Tm.z] at MB
        have SU:=k0 MB
        clear MB
        refine atG (n:=24) (S:=fun w'=>w'.cell? ⟨OQ,(lp).toNat,none⟩=some (.int .i64 (rd gP lp))∧w'.cell? (F2.add (as1).toNat)=some (.slice (some jS) (ai l0 as1).length avR)∧w'.cell? (jS.add (cJ).toNat)=some (.int .i64 (rd (ai l0 as1) cJ))∧w'.cell? (avu.add (cJ).toNat)=some (.slice (some Ec) (ai l1 cJ).length adJ)∧w'.cell? (Ec.add (lp).toNat)=some (.int .i64 (rd (ai l1 cJ) lp))) (ds:=[23]) (ba 24 0) (by kernel_rfl) rfl rfl ⟨EP,(hbc HB ahm),(hbc HB ahn),(hbc HB aho),(hbc HB ahp)⟩ (fun hHeld=>?_);refine jX eG.Ll eG.JI (fun aj bP=>?_)
        generalize wr.drew=Ff at aq bG HB aaQ SU D0 avS agW EP y_ uL yd tG ahz hHeld ⊢
        refine pu 0 (some 40) (ba 24 1) aj (h:=?_)
        refine pu 1 (some 41) (ba 24 3) aj (h:=?_)
        refine pu 2 (some 42) (ba 24 7) aj (h:=?_)
        refine pu 3 (some 43) (ba 24 15) aj (h:=?_)
        refine pu 4 (some 44) (ba 24 31) aj (h:=?_)
        refine pu 6 (some 46) (ba 24 95) aj (h:=?_)
        refine pu 7 (some 47) (ba 24 223) aj (h:=?_)
        refine pu 8 (some 48) (ba 24 479) aj (h:=?_)
        refine pu 10 (some 50) (ba 24 1503) aj (h:=?_)
        refine pu 13 (some 53) (ba 24 9695) aj (h:=?_)
        refine pu 14 (some 54) (ba 24 26079) aj (h:=?_)
        refine pu 15 (some 55) (ba 24 58847) aj (h:=?_)
        refine pu 17 (some 57) (ba 24 189919) aj (h:=?_)
        refine pV 5 (some 45) (ba 24 189951) aj bP hHeld (h:=?_)
        refine pV 9 (some 49) (ba 24 190463) aj bP hHeld (h:=?_)
        refine pu 11 (some 51) (ba 24 192511) aj (h:=?_)
        refine pV 12 (some 52) (ba 24 196607) aj bP hHeld (h:=?_)
        refine pV 16 (some 56) (ba 24 262143) aj bP hHeld (h:=?_)
        refine pu 18 (some 58) (ba 24 524287) aj (h:=?_)
        refine pV 19 (some 59) (ba 24 1048575) aj bP hHeld (h:=?_)
        refine pu 20 (some 60) (ba 24 2097151) aj (h:=?_)
        refine pu 21 (some 61) (ba 24 4194303) aj (h:=?_)
        refine pu 22 (some 62) (ba 24 8388607) aj (h:=?_)
        refine oK (i:=23) (N:=none) (ba 24 16777215) rfl rfl (atq aj.out (by kernel_rfl)) (by decide) (fun K hK=>?_)
        refine lf (w1:=?_) (by rfl) rfl ?_ ?_
        rotate_left;· go_simp;rfl
        refine hK.out _ _ ?_
        clear hK K
        refine gY (jU aj.out (by kernel_rfl)) ?_
        try go_wp2
        go_roundg k3
        case measure=>have:=as3.z;have:=bw.z;have:=cS.z;omega
        case rel=>exact ⟨(Z6),(wrap64 (lp+1)),rs,H',⟨by have:=as3.z;have:=bw.z;have:=cS.z;omega⟩,⟨aS (Kd.bQ (Kd.lW (p:=⟨OQ,(lp:Int).toNat,none⟩) (Kd.bQ aq.z (fun k_ hk=>(⟨hk,fun e_=>hk (by rw [e_];rfl)⟩:_∧k_ ≠ OQ))) (fun _ hk=>hk.2) (.int .i64 (wrap64 ((rd gP lp)+(wrap64 ((rd (ai l0 as1) cJ) * (rd (ai l1 cJ) lp))))))) (fun _ hk=>hk.1))⟩,⟨aR (SU.out)⟩,⟨aL HB.z⟩⟩
     have H':=k0 H
     clear H
     obtain ⟨pO,pQ⟩:=iN as1 (l0.length:Int)
     obtain ⟨F2,Fm,Gb,e110,tF,wu,auQ⟩:=b8 dh.z as1 pO pQ
     cases e110
     replace tF:=hbc HB tF
     have xO:=k0 auQ
     have Mf:=k0 wu
     clear auQ wu
     replace pO:=eT pO
     replace pQ:=eT pQ
     obtain ⟨oM,oO⟩:=iN cJ ((ai l0 as1).length:Int)
     obtain ⟨F3,e111,sA⟩:=Kd.bK xO.z cJ oM oO
     cases e111
     replace sA:=hbc HB sA
     replace oM:=eT oM
     replace oO:=eT oO
     go_wp2
     go_roundg k2
     case measure=>have:=as3.z;have:=bw.z;omega
     case rel=>exact ⟨(iI),(wrap64 (cJ+1)),rs,H',⟨by have:=as3.z;have:=bw.z;omega⟩,⟨aS (aq.z)⟩,⟨aR (bG.z)⟩,⟨bl⟩⟩
/-! ### F37: function 37 -/
mutual
def cR.j0 : Nat → Int → List Int → Int → Int → Bool → Int → List (List Int) → Option (List Int × Int)
 | 0,_,_,_,_,_,_,_=>none
 | k+1,x0,x2,x3,eS,IG,cn,cF=>if IG=true then (cR.j1 k x0 x2 x3 2 cn cF) else (cR.j1 k x0 x2 x3 eS cn cF)
def cR.j1 : Nat → Int → List Int → Int → Int → Int → List (List Int) → Option (List Int × Int)
 | 0,_,_,_,_,_,_=>none
 | k+1,x0,x2,x3,eS,cn,cF=>if eS=0 then ((gF.f k cn cF x2).bind fun t104=>(cR.l0 k t104 x0 x3 (([]:List Int)) t104)) else (some (([]:List Int),eS))
def cR.l0 : Nat → List (List Int) → Int → Int → List Int → List (List Int) → Option (List Int × Int)
 | 0,_,_,_,_,_=>none
 | k+1,xr,x0,x3,bA,b6=>if x3 > 0 then (cR.l1 k xr x0 x3 bA b6 0 0) else (some (bA,0))
def cR.l1 : Nat → List (List Int) → Int → Int → List Int → List (List Int) → Int → Int → Option (List Int × Int)
 | 0,_,_,_,_,_,_,_=>none
 | k+1,xr,x0,x3,bA,b6,nR,fu=>if fu < (b6.length:Int) then (if 0≤fu then (if fu < ((ai b6 fu).length:Int) then (if x0=0 then (none) else (cR.l1 k xr x0 x3 bA b6 (Int.tmod (wrap64 (nR+(rd (ai b6 fu) fu))) x0) (wrap64 (fu+1)))) else (none)) else (none)) else (if bA.length < 17592186044416 then ((eG.f k b6 xr).bind fun t115=>(cR.l2 k xr x0 x3 (bA ++ [nR]) t115 0)) else (none))
def cR.l2 : Nat → List (List Int) → Int → Int → List Int → List (List Int) → Int → Option (List Int × Int)
 | 0,_,_,_,_,_,_=>none
 | k+1,xr,x0,x3,bA,atj,dQ=>if dQ < (atj.length:Int) then (if 0≤dQ then (cR.l3 k xr x0 x3 bA atj dQ 0) else (none)) else (cR.l0 k xr x0 (wrap64 (x3 - 1)) bA atj)
def cR.l3 : Nat → List (List Int) → Int → Int → List Int → List (List Int) → Int → Int → Option (List Int × Int)
 | 0,_,_,_,_,_,_,_=>none
 | k+1,xr,x0,x3,bA,atj,dQ,sJ=>if sJ < ((ai atj dQ).length:Int) then (if 0≤sJ then (if x0=0 then (none) else (cR.l3 k xr x0 x3 bA (atj.set (dQ:Int).toNat ((ai atj dQ).set (sJ:Int).toNat (Int.tmod (rd (ai atj dQ) sJ) x0))) dQ (wrap64 (sJ+1)))) else (none)) else (cR.l2 k xr x0 x3 bA atj (wrap64 (dQ+1)))
end
def cR.f (k:Nat) (a0:Int) (aE:Int) (az:List (List Int)) (l2:List Int) (a3:Int):Option (List Int × Int):=(mU.f k a0 aE az l2).bind fun t102=>(if t102=0 then ((eY.f a3 1 20).bind fun t103=>(cR.j0 k a0 l2 a3 t102 (!t103) aE az)) else (cR.j0 k a0 l2 a3 t102 false aE az))
theorem cR.calls (k : Nat) (a0 : Int) (aE : Int) (atb : Option Addr) (atc : Nat) (az : List (List Int)) (A2 : Option Addr) (c2 : Nat) (l2 : List Int) (a3 : Int) (r1 : List Int) (r2 : Int) (w : World) (iB : Kd.C (Kd.slice 2 (Kd.int .i64)) w atb az.length az) (iz : az.length ≤ atc) (atQ : Kd.C (Kd.int .i64) w A2 l2.length l2) (at4 : l2.length ≤ c2) (h : cR.f k a0 aE az l2 a3 = some (r1, r2)) :
  Calls Try.prog 37 #[.int .i64 a0,.agg #[.int .i64 aE,.slice atb az.length atc],.slice A2 l2.length c2,.int .i64 a3] w fun e w'=>∃ ati:Value,e=.returned (.tuple #[ati,.int .i64 r2])∧Kd.R (Kd.int .i64) 2 w' w.heap.size (fun _=>True) ati r1∧Below w.heap.size w w':=by
 have gV:=Try.underlying26
 have ep:=k0 iB
 have eo:=k0 iz
 clear iB iz
 have iX:=k0 atQ
 have atO:=k0 at4
 clear atQ at4
 have HB:=k0 (Below.refl w.heap.size w)
 unfold cR.f at h
 have H:=h
 clear h
 replace H:=bS H;obtain ⟨t102,A5,H⟩:=H
 have BR:=k0 H
 clear H
 go_enter Try.func37,Try.ntmps37
 go_upto_region 2 with (first|(refine aX (N:=5) rfl ?_;refine dL 5 #[.int .i64 aE,.slice atb az.length atc] 26 bl ?_;intro ay w7 aa bn HB;have cG:=bn;obtain ⟨_,_,_,_⟩:=as9 aa)|(refine aT (f:=81) rfl ?_;refine gC (some 23) Try.func81 #[.int .i64 a0,.agg #[.int .i64 aE,.slice atb az.length atc],.slice A2 l2.length c2] ?_;(with_reducible refine (mU.calls k a0 aE _ _ az _ _ l2 t102 _ ?av ?ax ?bM ?bT A5.z).mono ?_);(case av=>exact aC (Kd.bL ep.z HB.z));(case ax=>exact eo.z);(case bM=>exact aC (Kd.bL iX.z HB.z));(case bT=>exact atO.z);rintro e w9 ⟨rfl,hb⟩;refine ⟨_,rfl,?_⟩;replace aa:=kB aa hb;replace HB:=bW hb))
 (try simp only [Act.put,zI,zZ,zS])
 go_cut [30] (fun v30 wc=>∃ (kq:Nat) (LK:Bool),v30=.bool LK∧af (cR.j0 kq a0 l2 a3 t102 LK aE az=some (r1,r2))∧af (kq≤k)∧af (wc.heap[ay]?=some (sO aE atb az atc 26))∧af (Below w.heap.size w wc))
 case first =>
  have H:=BR.z
  clear BR
  replace H:=iE H;obtain ⟨c10,iw,Al,H⟩|⟨iw,Al,H⟩:=H
  case inl =>
   (first|rw [iw]|(simp only [bp,bH];rw [iw])|skip)
   have H':=k0 H
   clear H
   go_wp2
   go_meet
   case rel=>exact ⟨_,(false),rs,H',⟨oL⟩,⟨bk⟩,⟨bl⟩⟩
  (first|rw [iw]|(simp only [bp,bH];rw [iw])|skip)
  replace H:=bS H;obtain ⟨t103,xE,H⟩:=H
  have H':=k0 H
  clear H
  go_wp2_with (first|(go_at_call 61;(with_reducible refine (eY.calls a3 1 20 t103 _ xE.z).mono ?_);rintro e w' ⟨rfl,⟨nd,rfl⟩⟩))
  go_meet
  case rel=>exact ⟨_,(!t103),rs,H',⟨oL⟩,⟨bk⟩,⟨bl⟩⟩
 case rest =>
  clear BR
  obtain ⟨kq,LK,rfl,HA,q9,aa,HB⟩:=hcut
  cases kq with
  | zero=>exact absurd HA.z (by simp [cR.j0])
  | succ PW =>
   have H:=HA.z
   clear HA
   simp only [cR.j0] at H
   have Mg:=k0 H
   clear H
   go_upto_if 30 with (fail)
   go_cut [10] (fun v10 wc=>∃ (kq:Nat) (RS:Int),v10=.int .i64 RS∧af (cR.j1 kq a0 l2 a3 RS aE az=some (r1,r2))∧af (kq≤PW)∧af (wc.heap[ay]?=some (sO aE atb az atc 26))∧af (Below w.heap.size w wc))
   case first =>
    have H:=Mg.z
    clear Mg
    cases LK
    case false =>
     replace H:=iF H
     have H':=k0 H
     clear H
     go_wp2
     go_meet
     case rel=>exact ⟨_,(t102),rs,H',⟨by have:=q9.out;first|omega|exact Nat.le_refl _⟩,⟨bk⟩,⟨bl⟩⟩
    replace H:=iT H
    have H':=k0 H
    clear H
    go_wp2
    go_meet
    case rel=>exact ⟨_,(2),rs,H',⟨by have:=q9.out;first|omega|exact Nat.le_refl _⟩,⟨bk⟩,⟨bl⟩⟩
   case rest =>
    clear Mg
    obtain ⟨kq,RS,rfl,HA,avc,aa,HB⟩:=hcut
    cases kq with
    | zero=>exact absurd HA.z (by simp [cR.j1])
    | succ KK =>
     have H:=HA.z
     clear HA
     simp only [cR.j1] at H
     replace H:=iE H;obtain ⟨c14,ov,El,H⟩|⟨ov,El,H⟩:=H
     case inl =>
      obtain ⟨rfl,rfl⟩:=mT H
      go_wp2
      go_ret2
      exact ⟨_,eR,by first|exact Kd.rZ _ _ _ _ _|exact Kd.xR _ _ _ _ _|exact Kd.xX _ _ _ _ _|exact Kd.xV _ _ _ _ _|exact Kd.xW _ _ _ _ _,bl⟩
     replace H:=bS H;obtain ⟨t104,Dp,H⟩:=H
     obtain ⟨jl,lV⟩:=nY (([]:List Int):List Int)
     replace H:(cR.l0 KK t104 a0 a3 jl t104)=some (r1,r2):=rH lV.z H
     have H':=k0 H
     clear H
     obtain ⟨_,_,_,_⟩:=as9 aa
     go_wp2_with (first|(refine aT (f:=83) rfl ?_;refine gC (some 36) Try.func83 #[.agg #[.int .i64 aE,.slice atb az.length atc],.slice A2 l2.length c2] ?_;(with_reducible refine (gF.calls KK aE _ _ az _ _ l2 t104 _ ?av ?ax ?bM ?bT Dp.z).mono ?_);(case av=>exact aC (Kd.bL ep.z HB.z));(case ax=>exact eo.z);(case bM=>exact aC (Kd.bL iX.z HB.z));(case bT=>exact atO.z);rintro e yq ⟨qV,rfl,as2,hb⟩;refine ⟨_,rfl,?_⟩;have fC:=k0 (Kd.jD as2 (as8 bl));have fD:=kB aa hb;have gN:=bW hb;clear aa;clear HB;have dG:=fC;have atn:=k0 dG.z;have aa:=fD;have HB:=gN;clear fC fD gN)|(refine aX (N:=37) rfl ?_;refine jM 2 (N:=37) (xs:=([]:List Int)) (inner:=[]) (aJ.none _ _) ?_;intro xk Fc CK hb bR atf;clear bR atf;(first|rw [← lV.z] at CK|(simp only [Int.reduceToNat] at CK;rw [← lV.z] at CK));have fC:=kg dG (Kd.bh CK) hb;have fD:=k0 (Kd.cg CK (as8 bl));have gN:=kB aa hb;have jb:=bW hb;have mm:=kg atn (Kd.bh CK) hb;clear atn;have atn:=mm;clear mm;clear dG;clear aa;clear HB;have dG:=fC;have fj:=fD;have aa:=gN;have HB:=jb;clear fC fD gN jb;clear hb CK))
     obtain ⟨ud,uC,rfl⟩:=Kd.er atn.z
     go_loopg [3,12,13] KK (fun kq v3 sD tQ w'=>∃ (yz:Int) (b7:List Int) (dP:List (List Int)),v3=.int .i64 yz∧af (cR.l0 kq t104 a0 yz b7 dP=some (r1,r2))∧af (kq≤KK)∧af (Kd.R (Kd.int .i64) 2 w' w.heap.size (fun _=>True) sD b7)∧af (Kd.S (Kd.slice 2 (Kd.int .i64)) 29 w' w.heap.size (fun k_=>some k_ ≠ (sD:Value).ownBlock) tQ dP)∧af (w'.heap[ay]?=some (sO aE atb az atc 26))∧af (Kd.S (Kd.slice 2 (Kd.int .i64)) 29 w' w.heap.size (fun k_=>some k_ ≠ (sD:Value).ownBlock) (.slice ud t104.length uC) t104)∧af (Below w.heap.size w w'))
     case atStart=>exact ⟨(a3),(jl),(t104),rs,H',⟨Nat.le_refl _⟩,⟨aR (fj.z)⟩,⟨aS (Kd.bQ dG.z (fun _ hk=>hk.2))⟩,⟨bk⟩,⟨aS (Kd.bQ atn.z (fun _ hk=>hk.2))⟩,⟨bl⟩⟩
     case round =>
      clear H'
      obtain ⟨yz,b7,dP,rfl,HA,cS,cK,dH,aa,atn,HB⟩:=hrel
      cases gk with
      | zero=>exact absurd HA.z (by simp [cR.l0])
      | succ k3 =>
       have H:=HA.z
       clear HA
       simp only [cR.l0] at H
       replace H:=iC H;obtain ⟨au3,H⟩|⟨au3,H⟩:=H
       case inl =>
        obtain ⟨rfl,rfl⟩:=mT H
        go_wp2
        go_ret2
        exact ⟨_,eR,aR cK.z,bl⟩
       have H':=k0 H
       clear H
       go_wp2
       go_loopg [14,15] k3 (fun kq Ro Rp w'=>∃ (Dh:Int) (tT:Int),Ro=.int .i64 Dh∧Rp=.int .i64 tT∧af (cR.l1 kq t104 a0 yz b7 dP Dh tT=some (r1,r2))∧af (kq≤k3)∧af (Kd.R (Kd.int .i64) 2 w' w.heap.size (fun _=>True) u12 b7)∧af (Kd.S (Kd.slice 2 (Kd.int .i64)) 29 w' w.heap.size (fun k_=>some k_ ≠ (u12:Value).ownBlock) u13 dP)∧af (w'.heap[ay]?=some (sO aE atb az atc 26))∧af (Kd.S (Kd.slice 2 (Kd.int .i64)) 29 w' w.heap.size (fun k_=>some k_ ≠ (u12:Value).ownBlock) (.slice ud t104.length uC) t104)∧af (Below w.heap.size w w'))
       case atStart=>exact ⟨(0),(0),rs,rs,H',⟨Nat.le_refl _⟩,⟨aR (cK.z)⟩,⟨aS (dH.z)⟩,⟨bk⟩,⟨aS (atn.z)⟩,⟨bl⟩⟩
       case round =>
        clear H'
        obtain ⟨Dh,tT,rfl,rfl,HA,aty,cK,dH,aa,atn,HB⟩:=hrel
        cases gk with
        | zero=>exact absurd HA.z (by simp [cR.l1])
        | succ k4 =>
         have H:=HA.z
         clear HA
         simp only [cR.l1] at H
         replace H:=iC H;obtain ⟨ow,H⟩|⟨ow,H⟩:=H
         case inl =>
          replace H:=iS H;obtain ⟨c26,H⟩:=H
          have Ng:=k0 c26
          clear c26
          obtain ⟨vq,vL⟩:=nY (b7 ++ [Dh]:List Int)
          replace H:((eG.f k4 dP t104).bind fun t115=>(cR.l2 k4 t104 a0 yz vq t115 0))=some (r1,r2):=rH vL.z H
          replace H:=bS H;obtain ⟨t115,BA,H⟩:=H
          have H':=k0 H
          clear H
          obtain ⟨xH,uA,rfl⟩:=Kd.er dH.z
          go_wp2_with (first|((with_reducible refine ji (b:=.append) (xs:=#[.tmp 60,.tmp 62]) rfl ?_);at_builtin;refine Kd.oh (Kd.int .i64) (w0:=w) w.heap.size rfl (.tmp 60) (.tmp 62) 29 2 (.int .i64 0) 8 rfl Try.underlying29 ju rfl (by decide) (by omega) u12 b7 Dh [.int .i64 Dh] (fun _=>True) (fun _=>False) rfl rfl ?aP (fun _ hk=>hk.elim) ?aF ?aO ?aB ?aS ?aL ?_;(case aP=>exact rfl);(case aB=>exact bl);(case aF=>exact (fun _ _=>trivial));(case aO=>exact (aR cK.z));(case aS=>exact (as8 bl));(case aL=>have:=Ng.out;omega);intro xm Iy ho hb hg a_;rw [← vL.z] at ho;have fC:=k0 (Kd.uu (ok:=(fun _=>True)) (aS (Kd.bQ dH.z (fun _ hk=>⟨trivial,hk⟩))) hg a_);have fD:=k0 (fL (aB aa.z) hg (Kd.jh cK.z aa.z (by decide)));have gN:=k0 hb;have jb:=k0 ho;have mm:=k0 (Kd.uu (ok:=(fun _=>True)) (aS (Kd.bQ atn.z (fun _ hk=>⟨trivial,hk⟩))) hg a_);clear atn;have atn:=mm;clear mm;clear dH;clear aa;clear HB;clear cK;have dH:=fC;have aa:=fD;have HB:=gN;have ug:=jb;clear fC fD gN jb;clear ho hb hg a_)|(refine aT (f:=88) rfl ?_;refine gC (some 66) Try.func88 #[.slice xH dP.length uA,.slice ud t104.length uC] ?_;(with_reducible refine (eG.calls k4 _ _ dP _ _ t104 t115 _ ?av ?ax ?bM ?bT BA.z).mono ?_);(case av=>exact aC ((Kd.as4 dH.z).2.2));(case ax=>exact (Kd.as4 dH.z).2.1);(case bM=>exact aC ((Kd.as4 atn.z).2.2));(case bT=>exact (Kd.as4 atn.z).2.1);rintro e Bp ⟨E_,rfl,as2,hb⟩;refine ⟨_,rfl,?_⟩;have fC:=kg dH (Kd.Ad as2) hb;have fD:=eI ug hb;have mm:=k0 (Kd.TP (aS atn.z) hb);obtain ⟨NS,GQ,gN,Ia⟩:∃ NS:Nat,w.heap.size≤NS∧af (Kd.S (Kd.slice 2 (Kd.int .i64)) 29 Bp NS (fun k_=>some k_ ≠ (xm:Value).ownBlock) E_ t115)∧af (Kd.S (Kd.slice 2 (Kd.int .i64)) 29 Bp w.heap.size (fun k_=>k_ < NS∧some k_ ≠ (xm:Value).ownBlock) (.slice ud t104.length uC) t104):=⟨_,(as8 bl),⟨Kd.bQ (Kd.uw (Kd.uw as2 (Kd.yS (aS dH.z))) (Kd.bV (aR ug.z))) (fun _ hk=>hk.2)⟩,⟨Kd.bQ mm.out (fun _ hk=>⟨hk.2,hk.1.2⟩)⟩⟩;clear atn mm;have atn:=Ia;clear Ia;have jb:=kB aa hb;have kn:=bW hb;clear dH;clear ug;clear aa;clear HB;have dH:=fC;have ug:=fD;have sU:=gN;have aa:=jb;have HB:=kn;clear fC fD gN jb kn))
          go_loopg [17] k4 (fun kq C9 w'=>∃ (zF:List Int) (bU:List (List Int)) (gO:Int),C9=.int .i64 gO∧af (cR.l2 kq t104 a0 yz zF bU gO=some (r1,r2))∧af (kq≤k4)∧af (Kd.R (Kd.int .i64) 2 w' w.heap.size (fun _=>True) xm zF)∧af (Kd.S (Kd.slice 2 (Kd.int .i64)) 29 w' NS (fun k_=>some k_ ≠ (xm:Value).ownBlock) E_ bU)∧af (w'.heap[ay]?=some (sO aE atb az atc 26))∧af (Kd.S (Kd.slice 2 (Kd.int .i64)) 29 w' w.heap.size (fun k_=>k_ < NS∧some k_ ≠ (xm:Value).ownBlock) (.slice ud t104.length uC) t104)∧af (Below w.heap.size w w'))
          case atStart=>exact ⟨(vq),(t115),(0),rs,H',⟨Nat.le_refl _⟩,⟨aR (ug.z)⟩,⟨aS (sU.z)⟩,⟨bk⟩,⟨aS (atn.z)⟩,⟨bl⟩⟩
          case round =>
           clear H'
           obtain ⟨zF,bU,gO,rfl,HA,iu,cK,fX,aa,atn,HB⟩:=hrel
           cases gk with
           | zero=>exact absurd HA.z (by simp [cR.l2])
           | succ k5 =>
            have H:=HA.z
            clear HA
            simp only [cR.l2] at H
            replace H:=iC H;obtain ⟨JP,H⟩|⟨JP,H⟩:=H
            case inl =>
             have H':=k0 H
             clear H
             obtain ⟨L4,Ol,rfl⟩:=Kd.er fX.z
             go_wp2
             first|go_roundg k5|((try (have e_:=DD.out;injection e_ with eu kE atp;subst eu atp));go_roundg k5)
             case measure=>have:=q9.out;have:=avc.out;have:=cS.z;have:=aty.z;have:=iu.z;omega
             case rel=>exact ⟨(wrap64 (yz - 1)),(zF),(bU),rs,H',⟨by have:=q9.out;have:=avc.out;have:=cS.z;have:=aty.z;have:=iu.z;omega⟩,⟨aR (cK.z)⟩,⟨aS (Kd.jD fX.z GQ)⟩,⟨bk⟩,⟨aS (Kd.bQ atn.z (fun _ hk=>hk.2))⟩,⟨bl⟩⟩
            replace H:=iS H;obtain ⟨c32,H⟩:=H
            have Ch:=decide_eq_true c32
            clear c32
            have H':=k0 H
            clear H
            obtain ⟨aal,JX,rfl⟩:=Kd.er fX.z
            obtain ⟨auv,qj⟩:=iN gO (bU.length:Int)
            obtain ⟨xY,LW,NT,e118,auS,Ho,G9⟩:=b8 (Kd.as4 fX.z).2.2 gO auv qj
            cases e118
            obtain ⟨aeL,O9,OZ,GX⟩:=Kd.att fX.z [] gO auv (by first|exact qj|exact oD|(have e_:=(Kd.as4 fX.z).1;omega))
            obtain ⟨ak3,rfl,Cu⟩:=OZ
            have auR:=GX 0 _ rfl
            rw [Nat.add_zero,show ((Kd.slice 2 (Kd.int .i64))).sz=1 from rfl,Nat.mul_one] at auR
            replace auR:=Option.some.inj (auR.symm.trans auS)
            rw [auR] at Cu
            have SH:=k0 (show Kd.R (Kd.int .i64) 2 _ _ _ _ (ai bU gO) from Cu)
            clear auR Cu
            have z9:=k0 auS
            clear GX O9
            have S3:=k0 G9
            have aa9:=k0 Ho
            clear G9 Ho
            replace auv:=eT auv
            replace qj:=eT qj
            go_wp2
            generalize W8:(.slice LW (ai bU gO).length NT:Value)=ak'
            have DD:=k0 W8
            clear W8
            go_loopg [19] k5 (fun kq Rq w'=>∃ (lN:List (List Int)) (pU:Int),Rq=.int .i64 pU∧af (cR.l3 kq t104 a0 yz zF lN gO pU=some (r1,r2))∧af (kq≤k5)∧af (cx w' (.slice (some xY) bU.length JX) gO ak')∧af (Kd.R (Kd.int .i64) 2 w' w.heap.size (fun _=>True) xm zF)∧af (Kd.S (Kd.slice 2 (Kd.int .i64)) 29 w' NS (fun k_=>some k_ ≠ (xm:Value).ownBlock) (.slice (some xY) bU.length JX) lN)∧af (w'.heap[ay]?=some (sO aE atb az atc 26))∧af (Kd.S (Kd.slice 2 (Kd.int .i64)) 29 w' w.heap.size (fun k_=>k_ < NS∧some k_ ≠ (xm:Value).ownBlock) (.slice ud t104.length uC) t104)∧af (Below w.heap.size w w'))
            case atStart=>exact ⟨(bU),(0),rs,H',⟨Nat.le_refl _⟩,⟨by (with_reducible repeat (first|apply cx.alloc|apply cx.drewN|apply cx.drew));first|exact ⟨_,_,_,rfl,(by first|exact of_eq_true auv|exact eW o5.out|omega),(by first|exact of_eq_true qj|exact ct o5.out|(have h_:=of_eq_true qj;omega)|(have h_:=ct o5.out;omega)),z9.z⟩|(rw [← DD.out];exact ⟨_,_,_,rfl,(by first|exact of_eq_true auv|exact eW o5.out|omega),(by first|exact of_eq_true qj|exact ct o5.out|(have h_:=of_eq_true qj;omega)|(have h_:=ct o5.out;omega)),z9.z⟩)⟩,⟨aR (cK.z)⟩,⟨aS (fX.z)⟩,⟨bk⟩,⟨aS (atn.z)⟩,⟨bl⟩⟩
            case round =>
             clear H'
             obtain ⟨lN,pU,rfl,HA,qv,o5,cK,fX,aa,atn,HB⟩:=hrel
             have sq:=(Kd.as4 fX.z).1
             rw [sq] at fX
             (try simp only [sq])
             (try simp only [sq] at aa)
             (try simp only [sq] at cK)
             cases gk with
             | zero=>exact absurd HA.z (by simp [cR.l3])
             | succ k6 =>
              have H:=HA.z
              clear HA
              simp only [cR.l3] at H
              by_cases c34:pU < ((ai lN gO).length:Int)
              case neg =>
               rw [if_neg c34] at H
               have uy:=decide_eq_false c34
               (try simp only [sq] at uy)
               clear c34
               have H':=k0 H
               clear H
               have ahG:decide (0≤gO)=true:=decide_eq_true (eW o5.out)
               have ahM:decide (gO < (lN.length:Int))=true:=decide_eq_true (by have h_:=ct o5.out;have e_:=(Kd.as4 fX.z).1;omega)
               obtain ⟨qR,pR⟩:=iN gO (lN.length:Int)
               obtain ⟨avv,LX,JN,e119,wN,AL,AE⟩:=b8 (Kd.as4 fX.z).2.2 gO qR pR
               obtain rfl:xY=avv:=(by injection e119)
               obtain ⟨UA,G2,GN,Az⟩:=Kd.att fX.z [] gO qR (by first|exact pR|exact oD|(have e_:=(Kd.as4 fX.z).1;omega))
               obtain ⟨Zx,rfl,vZ⟩:=GN
               have p_:=Az 0 _ rfl
               rw [Nat.add_zero,show ((Kd.slice 2 (Kd.int .i64))).sz=1 from rfl,Nat.mul_one] at p_
               replace p_:=Option.some.inj (p_.symm.trans wN)
               rw [p_] at vZ
               have z3:=k0 (show Kd.R (Kd.int .i64) 2 _ _ _ _ (ai lN gO) from vZ)
               clear p_ vZ
               have auE:=k0 wN
               clear Az G2
               have FI:=k0 AE
               have So:=k0 AL
               clear AE AL
               replace qR:=eT qR
               replace pR:=eT pR
               obtain rfl:=qL o5.out auE.z
               go_wp2
               (try simp only [← sq])
               first|go_roundg k6|((try (have e_:=DD.out;injection e_ with eu kE atp;subst eu atp));go_roundg k6)
               case measure=>have:=q9.out;have:=avc.out;have:=cS.z;have:=aty.z;have:=iu.z;have:=qv.z;omega
               case rel=>exact ⟨(zF),(lN),(wrap64 (gO+1)),rs,H',⟨by have:=q9.out;have:=avc.out;have:=cS.z;have:=aty.z;have:=iu.z;have:=qv.z;omega⟩,⟨by (try simp only [sq]);(with_reducible repeat (first|apply Kd.kT|apply Kd.kU|apply Kd.di));exact cK.z⟩,⟨by (try simp only [sq]);(with_reducible repeat (first|apply Kd.gQ|apply Kd.atB|apply Kd.dK));exact fX.z⟩,⟨by (try simp only [sq]);exact bk⟩,⟨aS (atn.z)⟩,⟨bl⟩⟩
              rw [if_pos c34] at H
              have uy:=decide_eq_true c34
              (try simp only [sq] at uy)
              clear c34
              replace H:=iS H;obtain ⟨c35,H⟩:=H
              have N3:=decide_eq_true c35
              clear c35
              by_cases c36:a0=0
              case neg =>
               rw [if_neg c36] at H
               have Eo:=beq_eq_false_iff_ne.mpr c36
               have anE:=bne_iff_ne.mpr c36
               obtain ⟨qY,rW⟩:=nY ((ai lN gO).set (pU:Int).toNat (Int.tmod (rd (ai lN gO) pU) a0):List Int)
               replace H:(cR.l3 k6 t104 a0 yz zF (lN.set (gO:Int).toNat qY) gO (wrap64 (pU+1)))=some (r1,r2):=rH rW.z H
               obtain ⟨atH,rX⟩:=nY (lN.set (gO:Int).toNat qY:List (List Int))
               replace H:(cR.l3 k6 t104 a0 yz zF atH gO (wrap64 (pU+1)))=some (r1,r2):=rH rX.z H
               have H':=k0 H
               clear H
               have ahG:decide (0≤gO)=true:=decide_eq_true (eW o5.out)
               have ahM:decide (gO < (lN.length:Int))=true:=decide_eq_true (by have h_:=ct o5.out;have e_:=(Kd.as4 fX.z).1;omega)
               obtain ⟨qR,pR⟩:=iN gO (lN.length:Int)
               obtain ⟨avv,LX,JN,e119,wN,AL,AE⟩:=b8 (Kd.as4 fX.z).2.2 gO qR pR
               obtain rfl:xY=avv:=(by injection e119)
               obtain ⟨UA,G2,GN,Az⟩:=Kd.att fX.z [] gO qR (by first|exact pR|exact oD|(have e_:=(Kd.as4 fX.z).1;omega))
               obtain ⟨Zx,rfl,vZ⟩:=GN
               have p_:=Az 0 _ rfl
               rw [Nat.add_zero,show ((Kd.slice 2 (Kd.int .i64))).sz=1 from rfl,Nat.mul_one] at p_
               replace p_:=Option.some.inj (p_.symm.trans wN)
               rw [p_] at vZ
               have z3:=k0 (show Kd.R (Kd.int .i64) 2 _ _ _ _ (ai lN gO) from vZ)
               clear p_ vZ
               have auE:=k0 wN
               clear Az G2
               have FI:=k0 AE
               have So:=k0 AL
               clear AE AL
               replace qR:=eT qR
               replace pR:=eT pR
               obtain rfl:=qL o5.out auE.z
               obtain ⟨pP,nK⟩:=iN pU ((ai lN gO).length:Int)
               obtain ⟨B6,e120,CP⟩:=Kd.bK (by repeat (first|(with_reducible exact FI.z)|(with_reducible refine Kd.jO ?_ _)|(with_reducible refine Kd.jP ?_ _)|(with_reducible refine Kd.ij ?_)|exact FI.z)) pU pP nK
               cases e120
               replace pP:=eT pP
               replace nK:=eT nK
               have Qw:0≤(pU:Int):=oD
               have QX:(pU:Int) < (((ai lN gO).length:Int):Int):=oD
               obtain ⟨OS,avs,Gs,VN,afQ,aox,Sz⟩:=Kd.aun z3.z (by omega)
               (first|cases Gs|(injection Gs with atd atk dM;(first|subst atd|(injection atd with atd;subst atd));subst dM;clear atk))
               (first|simp only [add_plain] at CP|skip)
               have Sh:=k0 VN
               have amC:=k0 Sz
               clear VN afQ Sz
               (first|simp only [add_plain] at CP|skip)
               obtain ⟨arH,apx⟩:=Kd.nA 0 z3.z (pU:Int) Qw QX
               replace Qw:=eT Qw
               replace QX:=eT QX
               have ahd:(gO:Int) < (lN.length:Int):=(by have h_:(gO:Int) < ((lN.length:Int):Int):=oD;first|exact h_|(have e_:=(Kd.as4 fX.z).1;omega)|simpa only [List.length_set,List.length_set] using h_)
               obtain ⟨ajs,aoj,agG,af3,Wt,PC,V4⟩:=Kd.vP fX.z [] (gO:Int) oD (by first|exact ahd|(have e_:=(Kd.as4 fX.z).1;omega))
               obtain ⟨asF,rfl,GB⟩:=af3
               have Kw:=Wt 0 _ rfl
               rw [Nat.add_zero,show ((Kd.slice 2 (Kd.int .i64))).sz=1 from rfl,Nat.mul_one] at Kw
               replace Kw:=Option.some.inj (Kw.symm.trans auE.z)
               subst Kw
               clear Wt agG
               replace GB:=(show Kd.R (Kd.int .i64) 2 _ _ _ _ (ai lN gO) from GB)
               have DU:=Kd.s8 GB (pU:Int) (Int.tmod (rd (ai lN gO) pU) a0)
               go_wp2_with (first|((with_reducible refine Gv (t:=2) (p:=91) rfl ?_);refine Il (t:=2) (p:=91) (v:=?asP) (w1:=(wr.setCell ⟨OS,(pU:Int).toNat,none⟩ (.int .i64 (Int.tmod (rd (ai lN gO) pU) a0)))) ?hg ?ho ?hn ?hr ?_;(case ho=>rfl);(case hg=>rfl);(case hn=>rfl);(case hr=>first|(go_simp;done)|(go_simp;rfl));intro Db hw;have hg:wr.grownBy Db (some OS):=(by rw [hw];exact DU.2);have wQ:Kd.R (Kd.int .i64) 2 Db NS ajs (.slice (some ⟨OS,0,none⟩) (ai lN gO).length JN) qY:=(by rw [hw,rW.z];exact DU.1);have sx:Kd.S (Kd.slice 2 (Kd.int .i64)) 29 Db NS (fun k_=>some k_ ≠ (xm:Value).ownBlock) (.slice (some xY) lN.length JX) atH:=(by rw [rX.z];exact V4 hg (fun k_ e_=>by injection e_ with e_;subst e_;exact GB.1 _ rfl) (Kd.ke wQ));have wC:=Kd.aH wQ PC;clear DU V4;have fC:=k0 (Kd.acD (aR cK.z) rfl hg ((z3.z.1 _ rfl).1));have fD:=k0 sx;have gN:=k0 (fL (aB aa.z) hg (Kd.jh z3.z aa.z (by decide)));have jb:=k0 (tq hg auE.z (vV (PC _ (GB.1 _ rfl)).2));have kn:=k0 ((by rw [hw];exact o9 (HB.z) (Nat.le_trans GQ Sh.out):Below w.heap.size w Db));have aua:=k0 wC;have avi:=k0 ((Kd.bD wC).2.1);have mm:=k0 (Kd.acI (aS atn.z) hg (fun k_ hk e_=>by injection e_ with e_;have GL:=hk.1;have J8:=Sh.out;rw [e_] at GL;exact absurd GL (Nat.not_lt.mpr J8)));clear atn;have atn:=mm;clear mm;clear cK;clear fX;clear aa;clear auE;clear HB;clear z3;have cK:=fC;have fX:=fD;have aa:=gN;have auE:=jb;have HB:=kn;have am3:=aua;have amN:=avi;clear fC fD gN jb kn aua avi;clear hg hw sx wQ wC PC))
               (try simp only [← sq])
               first|go_roundg k6|((try (have e_:=DD.out;injection e_ with eu kE atp;subst eu atp));go_roundg k6)
               case measure=>have:=q9.out;have:=avc.out;have:=cS.z;have:=aty.z;have:=iu.z;have:=qv.z;omega
               case rel=>exact ⟨(atH),(wrap64 (pU+1)),rs,H',⟨by have:=q9.out;have:=avc.out;have:=cS.z;have:=aty.z;have:=iu.z;have:=qv.z;omega⟩,⟨by (with_reducible repeat (first|apply cx.alloc|apply cx.drewN|apply cx.drew));first|exact ⟨_,_,_,rfl,(by first|exact of_eq_true qR|exact eW o5.out|omega),(by first|exact of_eq_true pR|exact ct o5.out|(have h_:=of_eq_true pR;omega)|(have h_:=ct o5.out;omega)),auE.z⟩|(rw [← DD.out];exact ⟨_,_,_,rfl,(by first|exact of_eq_true qR|exact eW o5.out|omega),(by first|exact of_eq_true pR|exact ct o5.out|(have h_:=of_eq_true pR;omega)|(have h_:=ct o5.out;omega)),auE.z⟩)⟩,⟨by (try simp only [sq]);(with_reducible repeat (first|apply Kd.kT|apply Kd.kU|apply Kd.di));exact cK.z⟩,⟨by (try simp only [sq]);(with_reducible repeat (first|apply Kd.gQ|apply Kd.atB|apply Kd.dK));exact fX.z⟩,⟨by (try simp only [sq]);exact bk⟩,⟨aS (atn.z)⟩,⟨bl⟩⟩
              rw [if_pos c36] at H
              exact absurd H (by simp)
         replace H:=iS H;obtain ⟨c22,H⟩:=H
         have Cd:=decide_eq_true c22
         clear c22
         replace H:=iS H;obtain ⟨c23,H⟩:=H
         have yZ:=decide_eq_true c23
         clear c23
         by_cases c24:a0=0
         case neg =>
          rw [if_neg c24] at H
          have Aq:=beq_eq_false_iff_ne.mpr c24
          have NZ:=bne_iff_ne.mpr c24
          have H':=k0 H
          clear H
          obtain ⟨al9,ae1,rfl⟩:=Kd.er dH.z
          obtain ⟨pO,pQ⟩:=iN tT (dP.length:Int)
          obtain ⟨F2,Fm,Gb,e110,tF,wu,auQ⟩:=b8 (Kd.as4 dH.z).2.2 tT pO pQ
          cases e110
          obtain ⟨aeJ,O7,OX,GV⟩:=Kd.att dH.z [] tT pO (by first|exact pQ|exact oD|(have e_:=(Kd.as4 dH.z).1;omega))
          obtain ⟨ak1,rfl,Cs⟩:=OX
          have wG:=GV 0 _ rfl
          rw [Nat.add_zero,show ((Kd.slice 2 (Kd.int .i64))).sz=1 from rfl,Nat.mul_one] at wG
          replace wG:=Option.some.inj (wG.symm.trans tF)
          rw [wG] at Cs
          have FE:=k0 (show Kd.R (Kd.int .i64) 2 _ _ _ _ (ai dP tT) from Cs)
          clear wG Cs
          have M0:=k0 tF
          clear GV O7
          have xO:=k0 auQ
          have Mf:=k0 wu
          clear auQ wu
          replace pO:=eT pO
          replace pQ:=eT pQ
          obtain ⟨oM,oO⟩:=iN tT ((ai dP tT).length:Int)
          obtain ⟨F3,e111,sA⟩:=Kd.bK (by repeat (first|(with_reducible exact xO.z)|(with_reducible refine Kd.jO ?_ _)|(with_reducible refine Kd.jP ?_ _)|(with_reducible refine Kd.ij ?_)|exact xO.z)) tT oM oO
          cases e111
          replace oM:=eT oM
          replace oO:=eT oO
          go_wp2
          first|go_roundg k4|((try (have e_:=DD.out;injection e_ with eu kE atp;subst eu atp));go_roundg k4)
          case measure=>have:=q9.out;have:=avc.out;have:=cS.z;have:=aty.z;omega
          case rel=>exact ⟨(Int.tmod (wrap64 (Dh+(rd (ai dP tT) tT))) a0),(wrap64 (tT+1)),rs,rs,H',⟨by have:=q9.out;have:=avc.out;have:=cS.z;have:=aty.z;omega⟩,⟨aR (cK.z)⟩,⟨aS (dH.z)⟩,⟨bk⟩,⟨aS (atn.z)⟩,⟨bl⟩⟩
         rw [if_pos c24] at H
         exact absurd H (by simp)
/-! ### F89: function 89 -/
def BK.f (k:Nat) (l0:List Int):Option (Int × Int × (List (List Int)) × Int):=(je.f k l0).bind fun eN=>((yC.f eN.1 eN.2.1 eN.2.2).bind fun gi=>((zU.f k eN.1 gi.2.1 gi.2.2).bind fun lY=>((cw.f eN.1 lY.2.2.1 lY.2.2.2 (wrap64 ((mx gi.1 1)+1))).bind fun kV=>((gD.f eN.1 kV.2.1 kV.2.2 (([0,1,1,kV.1]:List Int))).bind fun ou=>(some (gi.1,lY.1,lY.2.1,ou.1))))))
theorem BK.calls (k : Nat) (A0 : Option Addr) (c0 : Nat) (l0 : List Int) (r1 : Int) (r2 : Int) (r3 : List (List Int)) (r4 : Int) (w : World) (bX : Kd.C (Kd.int .u8) w A0 l0.length l0) (hc0 : l0.length ≤ c0) (h : BK.f k l0 = some (r1, r2, r3, r4)) :
  Calls Try.prog 89 #[.slice A0 l0.length c0] w fun e w'=>∃ ql:Value,e=.returned (.tuple #[.int .i64 r1,.agg #[.int .i64 r2,ql],.int .i64 r4])∧Kd.V (Kd.slice 2 (Kd.int .i64)) 29 w' w.heap.size (fun k_=>(w.heap.size≤k_)) ql r3∧Below w.heap.size w w':=by
 have gV:=Try.underlying26
 have dh:=k0 bX
 have gG:=k0 hc0
 clear bX hc0
 have HB:=k0 (Below.refl w.heap.size w)
 unfold BK.f at h
 have H:=h
 clear h
 replace H:=bS H;obtain ⟨⟨t102,t103,t104⟩,A2,H⟩:=H
 dsimp only at H
 replace H:=bS H;obtain ⟨⟨t106,t107,t108⟩,A3,H⟩:=H
 dsimp only at H
 replace H:=bS H;obtain ⟨⟨t109,t110,t113,t114⟩,A4,H⟩:=H
 dsimp only at H
 obtain ⟨ER,y7⟩:∃ j_:Int,(mx t106 1)=j_:=⟨_,rfl⟩
 replace H:((cw.f t102 t113 t114 (wrap64 ((ER)+1))).bind fun kV=>((gD.f t102 kV.2.1 kV.2.2 (([0,1,1,kV.1]:List Int))).bind fun ou=>(some (t106,t109,t110,ou.1))))=some (r1,r2,r3,r4):=by first|(rw [y7] at H;exact H)|(simp only [y7] at H ⊢;exact H)
 (try rw [y7] at A2)
 (try rw [y7] at A3)
 (try rw [y7] at A4)
 (try (have aqj:1≤ER:=by (rw [← y7];unfold mx;(repeat' split)<;>omega)))
 (try (have aqk:0≤ER:=by omega))
 have aqi:(if t106 < 1 then 1 else t106)=ER:=y7
 replace H:=bS H;obtain ⟨⟨t115,t116,t117⟩,A6,H⟩:=H
 dsimp only at H
 obtain ⟨lq,og⟩:=nY (([0,1,1,t115]:List Int):List Int)
 replace H:((gD.f t102 t116 t117 lq).bind fun ou=>(some (t106,t109,t110,ou.1)))=some (r1,r2,r3,r4):=rH og.z H
 replace H:=bS H;obtain ⟨⟨t121,t122,t123⟩,A7,H⟩:=H
 dsimp only at H
 simp only [Option.some.injEq,Prod.mk.injEq] at H
 obtain ⟨rfl,rfl,rfl,rfl⟩:=H
 go_enter Try.func89,Try.ntmps89
 go_wp2_with (first|(refine aX (N:=3) rfl ?_;refine dL 3 #[.int .i64 0,.slice none 0 0] 26 bl ?_;intro ay w8 aa bn HB;have cG:=bn)|(refine aT (f:=47) rfl ?_;refine gC (some 8) Try.func47 #[.slice A0 l0.length c0] ?_;(with_reducible refine (je.calls k _ _ l0 t102 t103 t104 w _ ?av ?ax ?bM A2.z).mono ?_);(case av=>exact aL HB.z);(case ax=>exact dh.z);(case bM=>exact gG.z);rintro e w9 ⟨g105,rfl,hi,hb,hU⟩;refine ⟨_,rfl,?_⟩;replace HB:=k0 hb;have bJ:=k0 hi;have auG:=k0 (ag.avj hi (ck (aB aa.z) hU) (by decide));have qy:=k0 (Ne.symm (ag.avj hi (ck (aB aa.z) hU) (by decide)));replace aa:=kB aa hU)|(refine aT (f:=114) rfl ?_;refine gC (some 10) Try.func114 #[.pointer (some ⟨g105,0,none⟩)] ?_;(with_reducible refine (yC.calls g105 t102 t103 t104 t106 t107 t108 w _ ?av ?ax A3.z).mono ?_);(case av=>exact aA bJ.z);(case ax=>exact aG (ag.ge bJ.z) HB.z);rintro e pT ⟨rfl,hi,hb,hk⟩;refine ⟨_,rfl,?_⟩;replace aa:=kK hk aa qy;replace HB:=k0 hb;replace bJ:=k0 hi)|(refine aT (f:=48) rfl ?_;refine gC (some 13) Try.func48 #[.pointer (some ⟨g105,0,none⟩)] ?_;(with_reducible refine (zU.calls k g105 t102 t107 t108 t109 t110 t113 t114 w _ ?av ?ax A4.z).mono ?_);(case av=>exact aA bJ.z);(case ax=>exact aG (ag.ge bJ.z) HB.z);rintro e Bo ⟨zx,rfl,as2,hi,hb,hk⟩;refine ⟨_,rfl,?_⟩;have nw:=k0 (Kd.vR (Kd.bf (ok':=fun k_=>(w.heap.size≤k_)∧k_ ≠ ay∧k_ ≠ g105) as2 (fun k_ aU=>⟨(Nat.le_trans (as8 (aG (ag.ge bJ.z) HB.z)) aU),(Kd.qK (aB aa.z) k_ aU),(ag.fresh (aA bJ.z) k_ aU)⟩)) (as8 (aG (ag.ge bJ.z) HB.z)));replace aa:=kK hk aa qy;replace HB:=k0 hb;replace bJ:=k0 hi)|(refine aT (f:=49) rfl ?_;refine GK (some 19) rfl rfl Try.func49 (by kernel_rfl) rfl #[.pointer (some ⟨g105,0,none⟩),.int .i64 (wrap64 ((ER)+1))] rfl (by (try simp only [List.map_toArray,List.map_cons,List.map_nil]);first|done|(simp only [y7];rfl)|rfl|(simp only [List.length_drop,List.length_take];rfl)) ?_;(with_reducible refine (cw.calls g105 t102 t113 t114 (wrap64 ((ER)+1)) t115 t116 t117 w _ ?av ?ax A6.z).mono ?_);(case av=>exact aA bJ.z);(case ax=>exact aG (ag.ge bJ.z) HB.z);rintro e auL ⟨rfl,hi,hb,hk⟩;refine ⟨_,rfl,?_⟩;replace aa:=kK hk aa qy;replace nw:=k0 (Kd.bf (Kd.nC (Kd.bf (ok:=fun k_=>(((w.heap.size≤k_))∧(k_ ≠ ay∧k_ ≠ g105))) (aV nw.z) (fun k_ aU=>(⟨aU,aU.2.2⟩:_∧k_ ≠ g105))) hk (fun _ h=>h.2)) (fun _ h=>h.1));replace HB:=k0 hb;replace bJ:=k0 hi)|(refine aX (N:=20) rfl ?_;refine jM 2 (N:=20) (xs:=([0,1,1,t115]:List Int)) (inner:=[.int .i64 0,.int .i64 1,.int .i64 1,.int .i64 t115]) (aJ.one (show Kd.M (Kd.int .i64) _ _ _ 0 [.int .i64 0] from rfl) (aJ.one (show Kd.M (Kd.int .i64) _ _ _ 1 [.int .i64 1] from rfl) (aJ.one (show Kd.M (Kd.int .i64) _ _ _ 1 [.int .i64 1] from rfl) (aJ.one (show Kd.M (Kd.int .i64) _ _ _ t115 [.int .i64 t115] from rfl) (aJ.none _ _))))) ?_;intro tP rK EF hb bR atf;clear bR atf;(first|rw [← og.z] at EF|(simp only [Int.reduceToNat] at EF;rw [← og.z] at EF));replace nw:=fl nw (Kd.bh EF) hb;have lS:=k0 (Kd.cg (Kd.rY (M:=fun k_=>(w.heap.size≤k_)) EF (as8 (aG (ag.ge bJ.z) HB.z)) (fun k_ h_=>h_)) (as8 (aG (ag.ge bJ.z) HB.z)));replace aa:=kB aa hb;replace HB:=k0 (cu (aG (ag.ge bJ.z) HB.z) hb);replace bJ:=k0 (ag.below (aA bJ.z) hb);clear hb EF;obtain ⟨Ft,m_,rfl⟩:=Kd.b9 lS.z)|(refine aT (f:=51) rfl ?_;refine gC (some 21) Try.func51 #[.pointer (some ⟨g105,0,none⟩),.slice Ft lq.length m_] ?_;(with_reducible refine (gD.calls g105 t102 t116 t117 _ _ lq t121 t122 t123 w _ ?av ?ax ?bM ?bT ?iG A7.z).mono ?_);(case av=>exact aA bJ.z);(case ax=>exact aG (ag.ge bJ.z) HB.z);(case bM=>exact aC ((Kd.bD lS.z).2.2));(case bT=>exact (Kd.bD lS.z).2.1);(case iG=>exact yb (ag.lK bJ.z lS.z (by decide)));rintro e yp ⟨rfl,hi,hb,hk⟩;refine ⟨_,rfl,?_⟩;replace aa:=kK hk aa qy;replace nw:=k0 (Kd.bf (Kd.nC (Kd.bf (ok:=fun k_=>((((w.heap.size≤k_))∧(k_ ≠ ay∧k_ ≠ g105))∧some k_ ≠ (.slice Ft lq.length m_:Value).ownBlock)) (aV nw.z) (fun k_ aU=>(⟨aU,aU.1.2.2⟩:_∧k_ ≠ g105))) hk (fun _ h=>h.2)) (fun _ h=>h.1));replace lS:=k0 (Kd.aH (Kd.atM (ag.apart (show ag w _ g105 t102 t116 t117 from aA bJ.z) (aR lS.z) (by decide)) hk (fun _ h=>h.2)) (fun _ h=>h.1));replace HB:=k0 hb;replace bJ:=k0 hi;obtain ⟨_,_⟩:=nE qy;obtain ⟨_,_,_,_⟩:=as9 aa;obtain ⟨vt,uz,rfl⟩:=Kd.auA nw.z))
 refine bodyPost_ret (zu (rs:=[.tmp 2,.cell 3 26,.tmp 4]) rfl (by simp) (.tmp (.cell ay 26 #[.int .i64 t109,.slice vt t110.length uz] (0,0) _ rfl kZ Try.underlying26 rfl (by kernel_rfl) (.tmp .nil)))) rfl ?_
 exact ⟨_,by first|rfl|(simp [kG,kH]<;>rfl)|(simp only [← y7];first|rfl|(simp [kG,kH]<;>rfl))|(simp [*,kG,kH]<;>rfl),aV (Kd.bf (Kd.iO (p:=⟨ay,1,none⟩) (Kd.iO (p:=⟨ay,0,none⟩) (Kd.bf nw.z (fun k_ hk=>(⟨hk,hk.1.2.1⟩:_∧k_ ≠ ay))) (fun _ hk=>hk.2) (.int .i64 t109)) (fun _ hk=>hk.2) (.slice vt t110.length uz)) (fun _ hk=>hk.1.1.1)),aG (ag.ge bJ.z) HB.z⟩
/-! ### F38: function 38 -/
def DA.f (k:Nat) (l0:List Int):Option (Int × Int × (List (List Int)) × Int):=(BK.f k l0).bind fun eN=>(some (eN.1,eN.2.1,eN.2.2.1,eN.2.2.2))
theorem DA.calls (k : Nat) (A0 : Option Addr) (c0 : Nat) (l0 : List Int) (r1 : Int) (r2 : Int) (r3 : List (List Int)) (r4 : Int) (w : World) (bX : Kd.C (Kd.int .u8) w A0 l0.length l0) (hc0 : l0.length ≤ c0) (h : DA.f k l0 = some (r1, r2, r3, r4)) :
  Calls Try.prog 38 #[.slice A0 l0.length c0] w fun e w'=>∃ ql:Value,e=.returned (.tuple #[.int .i64 r1,.agg #[.int .i64 r2,ql],.int .i64 r4])∧Kd.V (Kd.slice 2 (Kd.int .i64)) 29 w' w.heap.size (fun k_=>(w.heap.size≤k_)) ql r3∧Below w.heap.size w w':=by
 have gV:=Try.underlying26
 have dh:=k0 bX
 have gG:=k0 hc0
 clear bX hc0
 have HB:=k0 (Below.refl w.heap.size w)
 unfold DA.f at h
 have H:=h
 clear h
 replace H:=bS H;obtain ⟨⟨t102,t103,t104,t107⟩,A2,H⟩:=H
 dsimp only at H
 simp only [Option.some.injEq,Prod.mk.injEq] at H
 obtain ⟨rfl,rfl,rfl,rfl⟩:=H
 go_enter Try.func38,Try.ntmps38
 go_wp2_with (first|(refine aX (N:=3) rfl ?_;refine dL 3 #[.int .i64 0,.slice none 0 0] 26 bl ?_;intro ay w3 aa bn HB;have cG:=bn)|(refine aT (f:=89) rfl ?_;refine gC (some 6) Try.func89 #[.slice A0 l0.length c0] ?_;(with_reducible refine (BK.calls k _ _ l0 t102 t103 t104 t107 _ ?av ?ax A2.z).mono ?_);(case av=>exact aC (Kd.bL dh.z HB.z));(case ax=>exact gG.z);rintro e w4 ⟨qV,rfl,as2,hb⟩;refine ⟨_,rfl,?_⟩;have dG:=k0 (Kd.vR (Kd.bf (ok':=fun k_=>(w.heap.size≤k_)∧k_ ≠ ay) as2 (fun k_ aU=>⟨(Nat.le_trans (as8 bl) aU),(Kd.qK (aB aa.z) k_ aU)⟩)) (as8 bl));replace aa:=kB aa hb;replace HB:=bW hb;obtain ⟨_,_,_,_⟩:=as9 aa;obtain ⟨Dx,Ex,rfl⟩:=Kd.auA dG.z))
 refine bodyPost_ret (zu (rs:=[.tmp 2,.cell 3 26,.tmp 4]) rfl (by simp) (.tmp (.cell ay 26 #[.int .i64 t103,.slice Dx t104.length Ex] (0,0) _ rfl kZ Try.underlying26 rfl (by kernel_rfl) (.tmp .nil)))) rfl ?_
 exact ⟨_,eR,aV (Kd.bf (Kd.iO (p:=⟨ay,1,none⟩) (Kd.iO (p:=⟨ay,0,none⟩) (Kd.bf dG.z (fun k_ hk=>(⟨hk,hk.2⟩:_∧k_ ≠ ay))) (fun _ hk=>hk.2) (.int .i64 t103)) (fun _ hk=>hk.2) (.slice Dx t104.length Ex)) (fun _ hk=>hk.1.1)),bl⟩
/-! ### F123: function 123 -/
def BC.f (k:Nat) (as0:Int) (ak:List (List Int)) (a1:Int) (a2:Int):Option Int :=
 (kQ.f k as0 ak).bind fun b=>if b=true then ((mC.f k a1).bind fun q0=>if q0=true then ((fU.f a2 0 (wrap64 (a1 - 1))).bind fun q1=>if q1=true then some 0 else some 2) else some 2) else some 1
theorem BC.calls {b1 : Nat} {b2 : Nat} (k : Nat) (as0 : Int) (bu : Option Addr) (bq : Nat) (ak : List (List Int)) (a1 : Int) (a2 : Int) (r : Int) (w : World) (dy : Kd.C (Kd.slice 2 (Kd.int .i64)) w bu ak.length ak) (ey : ak.length ≤ bq) (i_ : w.heap[b1]? = some (.cells #[.int .i64 a1] 2 (0, 0))) (hU : w.heap[b2]? = some (.cells #[.int .i64 a2] 2 (0, 0))) (h : BC.f k as0 ak a1 a2 = some r) :
  Calls Try.prog 62 #[.agg #[.int .i64 as0,.slice bu ak.length bq],.func (.func 123) #[] #[.pointer (some ⟨b1,0,none⟩),.pointer (some ⟨b2,0,none⟩)]] w fun e w'=>e=.returned (.int .i64 r)∧Below w.heap.size w w':=by
 have dh:=k0 dy
 clear dy
 have nW:=k0 i_
 have L8:=lX i_
 clear i_
 have iU:=k0 hU
 have L9:=lX hU
 clear hU
 unfold BC.f at h
 obtain ⟨b,hb,h⟩:=Option.bind_eq_some_iff.mp h
 have HG:=fun W (hw:Below w.heap.size w W)=>kQ.calls k as0 bu bq ak b W (Kd.bL dh.z hw) ey hb
 have BS:=k0 HG
 clear HG hb
 cases b
 case' true =>
  simp only [if_true] at h
  obtain ⟨q0,wE,h⟩:=Option.bind_eq_some_iff.mp h
  have sZ:=fun W (hw:Below w.heap.size w W)=>mC.calls k (a1) q0 W  wE
  have BV:=k0 sZ
  clear sZ wE
  cases q0
  case' true =>
   simp only [if_true] at h
   obtain ⟨q1,rG,h⟩:=Option.bind_eq_some_iff.mp h
   have vE:=fun W (hw:Below w.heap.size w W)=>fU.calls (a2) (0) ((wrap64 (a1 - 1))) q1 W  rG
   have BW:=k0 vE
   clear vE rG
   cases q1
   case' true =>
    simp only [if_true] at h
 all_goals
  simp only [Bool.false_eq_true,if_false,Option.some.injEq] at h
  subst h
  go_enter Try.func62,Try.ntmps62
  go_wp2_with (first|(go_at_call 66;refine (BS.out _ (by repeat (first|exact Below.refl _ _|apply eH|apply atz))).mono ?_;rintro e w1 ⟨rfl,i_⟩;have dw:=k0 (cu (by repeat (first|exact Below.refl _ _|apply eH|apply atz)) i_:Below w.heap.size w w1);clear i_;have Pg:w1.cell? ⟨b1,0,none⟩=some (.int .i64 a1):=(dY (ck nW.z dw.z) 0).trans rfl;have Pr:=fA (ck nW.z dw.z) 0;have Ph:w1.cell? ⟨b2,0,none⟩=some (.int .i64 a2):=(dY (ck iU.z dw.z) 0).trans rfl;have Pt:=fA (ck iU.z dw.z) 0)|(go_at_call 77;refine (BV.out _ (by repeat (first|exact dw.z|apply eH|apply atz))).mono ?_;rintro e w_ ⟨rfl,⟨CY,rfl⟩⟩)|(go_at_call 85;refine (BW.out _ (by repeat (first|exact dw.z|apply eH|apply atz))).mono ?_;rintro e w_ ⟨rfl,⟨CY,rfl⟩⟩)|go_in)
  go_ret
  exact ⟨rs,by repeat (first|exact dw.z|apply eH|apply atz|apply eZ)⟩
/-! ### F90: function 90 -/
def zX.f (k:Nat) (a0:Int) (aE:Int) (az:List (List Int)) (a2:Int):Option (Int):=(BC.f k aE az a0 a2).bind fun t104=>(some t104)
theorem zX.calls (k : Nat) (a0 : Int) (aE : Int) (atb : Option Addr) (atc : Nat) (az : List (List Int)) (a2 : Int) (r : Int) (w : World) (iB : Kd.C (Kd.slice 2 (Kd.int .i64)) w atb az.length az) (iz : az.length ≤ atc) (h : zX.f k a0 aE az a2 = some r) :
  Calls Try.prog 90 #[.int .i64 a0,.agg #[.int .i64 aE,.slice atb az.length atc],.int .i64 a2] w fun e w'=>e=.returned (.int .i64 r)∧Below w.heap.size w w':=by
 have gV:=Try.underlying26
 have ep:=k0 iB
 have eo:=k0 iz
 clear iB iz
 have HB:=k0 (Below.refl w.heap.size w)
 unfold zX.f at h
 have H:=h
 clear h
 replace H:=bS H;obtain ⟨t104,A4,H⟩:=H
 obtain rfl:=Option.some.inj H
 go_enter Try.func90,Try.ntmps90
 go_wp2_with (first|(refine aX (N:=3) rfl ?_;refine dL 3 #[.int .i64 a0] 2 bl ?_;intro ay w5 aa bn HB;have cG:=bn)|(refine aX (N:=4) rfl ?_;refine eJ 4 #[.int .i64 aE,.slice atb az.length atc] 26 ?_;intro cY hg w6 aY hb;have as5:=k0 aY;have j9:=gW hg (as8 bl);have q6:=j9;replace HB:=bW hb;have gh:=nL hg aa;have nx:=nG gh;replace aa:=kB aa hb;clear hb aY hg)|(refine aX (N:=5) rfl ?_;refine eJ 5 #[.int .i64 a2] 2 ?_;intro nc hg w7 aY hb;have cL:=k0 aY;have sP:=gW hg (as8 bl);have BN:=sP;replace HB:=bW hb;have auF:=nL hg aa;replace aa:=kB aa hb;have Ab:=nG auF;have ny:=nL hg as5;replace as5:=kB as5 hb;have yM:=nG ny;clear hb aY hg;obtain ⟨_,_⟩:=nE nx;obtain ⟨_,_⟩:=nE ny;obtain ⟨_,_,_,_⟩:=as9 as5)|(refine aT (f:=62) rfl ?_;refine gC (some 9) Try.func62 #[.agg #[.int .i64 aE,.slice atb az.length atc],.func (.func 123) #[] #[.pointer (some ⟨ay,0,none⟩),.pointer (some ⟨nc,0,none⟩)]] ?_;(with_reducible refine (BC.calls k aE _ _ az a0 a2 t104 _ ?av ?ax ?bM ?bT A4.z).mono ?_);(case av=>exact aC (Kd.bL ep.z HB.z));(case ax=>exact eo.z);(case bM=>exact by exact bk);(case bT=>exact by exact bk);rintro e Bo ⟨rfl,hb⟩;refine ⟨_,rfl,?_⟩;replace aa:=kB aa hb;replace as5:=kB as5 hb;replace cL:=kB cL hb;replace HB:=bW hb))
 go_ret
 exact ⟨eR,bl⟩
end Go.Proofs.Ytapnggjaeehpdaa.B
/- Set with little white space, by a program. -/
