/- The functions that one law reaches, each as a Lean function, and that Go's call comes to what it says. Condition of each: that the Lean function answers (is not none). -/
import Derived.Test.YtoebojnhchocaaaEx0
namespace Go.Proofs.Ytoebojnhchocaaa.E
open Go.RowKit Go.Proofs.bY.apf Go.Proofs.bY.ko Go.Proofs.bY.kN
attribute [local go_sem] max2_int min2_int max_two min_two max_three min_three max_four min_four   -- for this text's walks alone
set_option linter.unusedVariables false
set_option linter.unusedSimpArgs false
set_option maxHeartbeats 8000000
set_option maxRecDepth 100000
/-! ### F204: function 204 -/
def kZ.l0 : Nat → Int → List (List Int) → Int → Int → Option ((List (List Int)))
 | 0,_,_,_,_=>none
 | k+1,x0,x3,x5,x6=>if x6 < x5 then (if 0≤x0 then (if (x0:Int).toNat≤35184372088832 then (if x3.length < 5864062014805 then (kZ.l0 k x0 (x3 ++ [(List.replicate (x0:Int).toNat 0)]) x5 (wrap64 (x6+1))) else (none)) else (none)) else (none)) else (some x3)
def kZ.f (k:Nat) (a0:Int):Option ((List (List Int))):=kZ.l0 k a0 (([]:List (List Int))) a0 0
theorem kZ.calls (k : Nat) (a0 : Int) (r : List (List Int)) (w : World) (h : kZ.f k a0 = some r) :
  Calls Try.prog 204 #[.int .i64 a0] w fun e w'=>∃ eE:Value,e=.returned (eE)∧Kd.S (Kd.slice 2 (Kd.int .i64)) 28 w' w.heap.size (fun _=>True) eE r∧Below w.heap.size w w':=by
 have HB:=k0 (Below.refl w.heap.size w)
 have H:(kZ.l0 k a0 (([]:List (List Int))) a0 0)=some r:=h
 clear h
 obtain ⟨iJ,j7⟩:∃ y_:List (List Int),y_=(([]:List (List Int))):=⟨_,rfl⟩
 replace H:(kZ.l0 k a0 iJ a0 0)=some r:=rH j7 H
 have jX:=k0 j7
 clear j7
 have H':=k0 H
 clear H
 go_enter Try.func204,Try.ntmps204
 go_wp2_with (first|((with_reducible refine bp (N:=4) rfl ?_);refine Kd.DH (Kd.slice 2 (Kd.int .i64)) _ 28 ?hg (N:=4) ?hd (xs:=([]:List (List Int))) (inner:=[]) (ok:=fun _=>True) (b_:=fun _=>True) ?hr ?hp (fun _ hk=>hk) trivial (Below.refl _ _) (Nat.le_refl _) (by simp) ?_;(case hd=>rfl);(case hg=>rfl);(case hr=>first|(go_simp;done)|(go_simp;rfl));(case hp=>exact (bh.none _ _));intro o5 w2 uJ hb cJ cK;clear cJ cK;(first|rw [← jX.z] at uJ|(simp only [Int.reduceToNat] at uJ;rw [← jX.z] at uJ));have eJ:=k0 (Kd.ig uJ (aoS bl));replace HB:=k0 (aH bl hb);clear hb uJ))
 go_loopg [3,6] k (fun kq v3 v6 w'=>∃ (cn:List (List Int)) (gY:Int),v6=.int .i64 gY∧aj (kZ.l0 kq a0 cn a0 gY=some r)∧aj (kq≤k)∧aj (Kd.S (Kd.slice 2 (Kd.int .i64)) 28 w' w.heap.size (fun _=>True) v3 cn)∧aj (Below w.heap.size w w'))
 case atStart=>exact ⟨(iJ),(0),rs,H',⟨Nat.le_refl _⟩,⟨aS (eJ.z)⟩,⟨bl⟩⟩
 case round =>
  clear H'
  obtain ⟨cn,gY,rfl,HA,bx,bC,HB⟩:=hrel
  cases gk with
  | zero=>exact absurd HA.z (by simp [kZ.l0])
  | succ k1 =>
   have H:=HA.z
   clear HA
   simp only [kZ.l0] at H
   by_cases c4:gY < a0
   case neg =>
    rw [if_neg c4] at H
    have fX:decide (gY < a0)=false:=decide_eq_false c4
    clear c4
    obtain rfl:=Option.some.inj H
    go_wp2
    go_ret
    exact ⟨_,eR,by (with_reducible repeat (first|apply Kd.cM|apply Kd.cI|apply Kd.cr));exact bC.z,bl⟩
   rw [if_pos c4] at H
   have fX:=decide_eq_true c4
   clear c4
   replace H:=iS H;obtain ⟨c5,H⟩:=H
   have jt:=eq_true c5
   have ym:=decide_eq_true c5
   clear c5
   replace H:=iS H;obtain ⟨c6,H⟩:=H
   have kG:=eq_true c6
   have apZ:=decide_eq_true c6
   clear c6
   obtain ⟨sK,qV⟩:∃ y_:List Int,y_=(List.replicate (a0:Int).toNat 0):=⟨_,rfl⟩
   replace H:(if cn.length < 5864062014805 then (kZ.l0 k1 a0 (cn ++ [sK]) a0 (wrap64 (gY+1))) else (none))=some r:=rH qV H
   have aqj:=k0 qV
   clear qV
   replace H:=iS H;obtain ⟨c7,H⟩:=H
   have Wk:=k0 c7
   clear c7
   obtain ⟨gF,mB⟩:∃ y_:List (List Int),y_=(cn ++ [sK]):=⟨_,rfl⟩
   replace H:(kZ.l0 k1 a0 gF a0 (wrap64 (gY+1)))=some r:=rH mB H
   have ri:=k0 mB
   clear mB
   have H':=k0 H
   clear H
   go_wp2_with (first|((with_reducible refine bp (N:=10) rfl ?_);refine Kd.JG (Kd.int .i64) _ 2 rfl (N:=10) rfl 28 _ _ rfl a0 rfl rfl Try.underlying28 (.int .i64 0) 8 mR rfl (by decide) (by omega) 0 (ok:=fun _=>True) (b_:=fun _=>True) rfl (fun _ hk=>hk) trivial oD (Nat.le_trans (Nat.mul_le_mul_right _ (oD:a0.toNat≤35184372088832)) (by omega)) (Below.refl _ _) (Nat.le_refl _) ?_;intro v105 w8 Cm hb cJ cK;clear cJ cK;(first|rw [← aqj.z] at Cm|(simp only [Int.reduceToNat] at Cm;rw [← aqj.z] at Cm));replace bC:=k0 (Kd.cC (aS bC.z) (Kd.aU Cm) hb);have gp:=k0 (Kd.cU Cm (aoS bl));replace HB:=k0 (aH bl hb);clear hb Cm;obtain ⟨kD,apq,D4⟩:=Kd.dM gp.z;subst D4)|((with_reducible refine kQ (b:=.append) (xs:=#[.tmp 8,.tmp 11]) rfl ?_);at_builtin;refine Kd.uj (Kd.slice 2 (Kd.int .i64)) (w0:=w) w.heap.size rfl (.tmp 8) (.tmp 11) 22 28 (.slice none 0 0) 24 rfl Try.underlying22 qX rfl (by decide) (by omega) u3 cn sK [.slice kD sK.length apq] (fun _=>True) (fun k_=>some k_=(.slice kD sK.length apq:Value).ownBlock) rfl rfl ?aP (fun k_ bZ=>((Kd.aoY (ok':=fun k_=>((fun _=>True)) k_∧some k_ ≠ (u3:Value).ownBlock) (Kd.iU (gp.z) (Kd.iE bC.z) (by decide)) (fun k_ hk=>⟨trivial,hk.2⟩))).1 k_ bZ.symm) ?aF ?aO ?aB ?aS ?aL ?_;(case aP=>exact Kd.apB (Kd.aoY (Kd.mh rfl (Kd.aoY (ok':=fun k_=>((fun _=>True)) k_∧some k_ ≠ (u3:Value).ownBlock) (Kd.iU (gp.z) (Kd.iE bC.z) (by decide)) (fun k_ hk=>⟨trivial,hk.2⟩))) (fun _ h_=>h_)));(case aB=>exact bl);(case aF=>exact (fun _ _=>trivial));(case aO=>exact (by (with_reducible repeat (first|apply Kd.cM|apply Kd.cI|apply Kd.cr));exact Kd.bq bC.z (fun k_ hk=>⟨trivial,fun e_=>hk.2 e_⟩)));(case aS=>exact (aoS bl));(case aL=>have:=Wk.out;omega);intro vo mH ho hb hg ao1;rw [← ri.z] at ho;have aq:=k0 (hb);have au:=k0 (ho);clear HB;clear bC;clear gp;have HB:=aq;have eB:=au;clear aq au;clear ho hb hg ao1))
   go_roundg k1
   case measure=>have:=bx.z;omega
   case rel=>exact ⟨(gF),(wrap64 (gY+1)),rs,H',⟨by have:=bx.z;omega⟩,⟨aS (eB.z)⟩,⟨bl⟩⟩
/-! ### F205: function 205 -/
mutual
def apj.l0 : Nat → List (List Int) → List (List Int) → List (List Int) → Int → Int → Option ((List (List Int)))
 | 0,_,_,_,_,_=>none
 | k+1,x1,x5,lz,iA,jb=>if jb < iA then (if 0≤jb then (if jb < (lz.length:Int) then (apj.l1 k x1 x5 jb lz iA jb (av lz jb) ((av lz jb).length:Int) 0) else (none)) else (none)) else (some x5)
def apj.l1 : Nat → List (List Int) → List (List Int) → Int → List (List Int) → Int → Int → List Int → Int → Int → Option ((List (List Int)))
 | 0,_,_,_,_,_,_,_,_,_=>none
 | k+1,x1,x5,x6,lz,iA,jb,mV,xL,nR=>if nR < xL then (if 0≤nR then (if nR < (mV.length:Int) then (if (rd mV nR)=0 then (apj.l1 k x1 x5 x6 lz iA jb mV xL (wrap64 (nR+1))) else (if nR < (x1.length:Int) then (apj.l2 k x1 x5 x6 (rd mV nR) lz iA jb mV xL nR (av x1 nR) ((av x1 nR).length:Int) 0) else (none))) else (none)) else (none)) else (apj.l0 k x1 x5 lz iA (wrap64 (jb+1)))
def apj.l2 : Nat → List (List Int) → List (List Int) → Int → Int → List (List Int) → Int → Int → List Int → Int → Int → List Int → Int → Int → Option ((List (List Int)))
 | 0,_,_,_,_,_,_,_,_,_,_,_,_,_=>none
 | k+1,x1,x5,x6,x9,lz,iA,jb,mV,xL,nR,vv,Uu,za=>if za < Uu then (if 0≤za then (if za < (vv.length:Int) then (if 0≤x6 then (if x6 < (x5.length:Int) then (if za < ((av x5 x6).length:Int) then (apj.l2 k x1 (x5.set (x6:Int).toNat ((av x5 x6).set (za:Int).toNat (wrap64 ((rd (av x5 x6) za)+(wrap64 (x9 * (rd vv za))))))) x6 x9 lz iA jb mV xL nR vv Uu (wrap64 (za+1))) else (none)) else (none)) else (none)) else (none)) else (none)) else (apj.l1 k x1 x5 x6 lz iA jb mV xL (wrap64 (nR+1)))
end
def apj.f (k:Nat) (l0:List (List Int)) (l1:List (List Int)):Option ((List (List Int))):=(kZ.f k (l0.length:Int)).bind fun t101=>(apj.l0 k l1 t101 l0 (l0.length:Int) 0)
theorem apj.calls (k : Nat) (A0 : Option Addr) (c0 : Nat) (l0 : List (List Int)) (A1 : Option Addr) (c1 : Nat) (l1 : List (List Int)) (r : List (List Int)) (w : World) (cY : Kd.C (Kd.slice 2 (Kd.int .i64)) w A0 l0.length l0) (hc0 : l0.length ≤ c0) (fY : Kd.C (Kd.slice 2 (Kd.int .i64)) w A1 l1.length l1) (gi : l1.length ≤ c1) (h : apj.f k l0 l1 = some r) :
  Calls Try.prog 205 #[.slice A0 l0.length c0,.slice A1 l1.length c1] w fun e w'=>∃ eE:Value,e=.returned (eE)∧Kd.S (Kd.slice 2 (Kd.int .i64)) 28 w' w.heap.size (fun _=>True) eE r∧Below w.heap.size w w':=by
 have ek:=k0 cY
 have jx:=k0 hc0
 clear cY hc0
 have gq:=k0 fY
 have lD:=k0 gi
 clear fY gi
 have HB:=k0 (Below.refl w.heap.size w)
 have H:((kZ.f k (l0.length:Int)).bind fun t101=>(apj.l0 k l1 t101 l0 (l0.length:Int) 0))=some r:=h
 clear h
 replace H:=Option.bind_eq_some_iff.mp H
 obtain ⟨t101,fJ,H⟩:=H
 replace H:(apj.l0 k l1 t101 l0 (l0.length:Int) 0)=some r:=H
 have A3:=k0 fJ
 clear fJ
 have H':=k0 H
 clear H
 go_enter Try.func205,Try.ntmps205
 go_wp2_with (first|((with_reducible refine bg (f:=204) rfl ?_);refine gC (some 14) Try.func204 #[.int .i64 (l0.length:Int)] ?_;(with_reducible refine (kZ.calls k (l0.length:Int) t101 _ A3.z).mono ?_);rintro e w4 ⟨o5,rfl,aD,hb⟩;refine ⟨_,rfl,?_⟩;have eJ:=k0 (Kd.ig aD (aoS bl));replace HB:=k0 (aH bl hb);))
 go_loopg [17] k (fun kq Nl w'=>∃ (aY:List (List Int)) (ck:Int),Nl=.int .i64 ck∧aj (apj.l0 kq l1 aY l0 (l0.length:Int) ck=some r)∧aj (kq≤k)∧aj (Kd.S (Kd.slice 2 (Kd.int .i64)) 28 w' w.heap.size (fun _=>True) o5 aY)∧aj (Below w.heap.size w w'))
 case atStart=>exact ⟨(t101),(0),rs,H',⟨Nat.le_refl _⟩,⟨aS (eJ.z)⟩,⟨bl⟩⟩
 case round =>
  clear H'
  obtain ⟨aY,ck,rfl,HA,bx,aoX,HB⟩:=hrel
  cases gk with
  | zero=>exact absurd HA.z (by simp [apj.l0])
  | succ k1 =>
   have H:=HA.z
   clear HA
   simp only [apj.l0] at H
   by_cases c5:ck < (l0.length:Int)
   case neg =>
    rw [if_neg c5] at H
    have jt:decide (ck < (l0.length:Int))=false:=decide_eq_false c5
    clear c5
    obtain rfl:=Option.some.inj H
    go_wp2
    go_ret
    exact ⟨_,eR,by (with_reducible repeat (first|apply Kd.cM|apply Kd.cI|apply Kd.cr));exact aoX.z,bl⟩
   rw [if_pos c5] at H
   have jt:=decide_eq_true c5
   clear c5
   replace H:=iS H;obtain ⟨c6,H⟩:=H
   have kG:=decide_eq_true c6
   clear c6
   replace H:=iS H;obtain ⟨c7,H⟩:=H
   have oO:=decide_eq_true c7
   clear c7
   have H':=k0 H
   clear H
   have dR:0≤(ck:Int):=oD
   have dS:ck < (l0.length:Int):=oD
   obtain ⟨jY,A_,Bz,e104,dY,pO,pN⟩:=fW ek.z ck dR dS
   cases e104
   replace dY:=hbc HB dY
   have rU:=k0 pN
   have Bj:=k0 pO
   clear pN pO
   replace dR:=eq_true dR
   replace dS:=eq_true dS
   go_wp2
   go_loopg [24] k1 (fun kq v24 w'=>∃ (ke:List (List Int)) (fH:Int),v24=.int .i64 fH∧aj (apj.l1 kq l1 ke ck l0 (l0.length:Int) ck (av l0 ck) ((av l0 ck).length:Int) fH=some r)∧aj (kq≤k1)∧aj (Kd.S (Kd.slice 2 (Kd.int .i64)) 28 w' w.heap.size (fun _=>True) o5 ke)∧aj (Below w.heap.size w w'))
   case atStart=>exact ⟨(aY),(0),rs,H',⟨Nat.le_refl _⟩,⟨aS (aoX.z)⟩,⟨bl⟩⟩
   case round =>
    clear H'
    obtain ⟨ke,fH,rfl,HA,cD,aoX,HB⟩:=hrel
    cases gk with
    | zero=>exact absurd HA.z (by simp [apj.l1])
    | succ k2 =>
     have H:=HA.z
     clear HA
     simp only [apj.l1] at H
     by_cases c8:fH < ((av l0 ck).length:Int)
     case neg =>
      rw [if_neg c8] at H
      have kH:decide (fH < ((av l0 ck).length:Int))=false:=decide_eq_false c8
      clear c8
      have H':=k0 H
      clear H
      go_wp2
      go_roundg k2
      case measure=>have:=bx.z;have:=cD.z;omega
      case rel=>exact ⟨(ke),(wrap64 (ck+1)),rs,H',⟨by have:=bx.z;have:=cD.z;omega⟩,⟨aS (aoX.z)⟩,⟨bl⟩⟩
     rw [if_pos c8] at H
     have kH:=decide_eq_true c8
     clear c8
     replace H:=iS H;obtain ⟨c9,H⟩:=H
     have ap8:=decide_eq_true c9
     clear c9
     replace H:=iS H;obtain ⟨c10,H⟩:=H
     have qI:=decide_eq_true c10
     clear c10
     by_cases c11:(rd (av l0 ck) fH)=0
     case neg =>
      rw [if_neg c11] at H
      have ku:((rd (av l0 ck) fH) == 0)=false:=beq_eq_false_iff_ne.mpr c11
      have yh:((rd (av l0 ck) fH) != 0)=true:=bne_iff_ne.mpr c11
      replace H:=iS H;obtain ⟨c12,H⟩:=H
      have qJ:=decide_eq_true c12
      clear c12
      have H':=k0 H
      clear H
      have gD:0≤(fH:Int):=oD
      have gl:fH < ((av l0 ck).length:Int):=oD
      obtain ⟨lg,e105,gj⟩:=Kd.cN rU.z fH gD gl
      cases e105
      replace gj:=hbc HB gj
      replace gD:=eq_true gD
      replace gl:=eq_true gl
      have apk:0≤(fH:Int):=oD
      have gL:fH < (l1.length:Int):=oD
      obtain ⟨pH,Ny,Pv,e106,gV,yK,yH⟩:=fW gq.z fH apk gL
      cases e106
      replace gV:=hbc HB gV
      have aqx:=k0 yH
      have Oe:=k0 yK
      clear yH yK
      replace apk:=eq_true apk
      replace gL:=eq_true gL
      go_wp2
      go_loopg [36] k2 (fun kq v36 w'=>∃ (gA:List (List Int)) (lA:Int),v36=.int .i64 lA∧aj (apj.l2 kq l1 gA ck (rd (av l0 ck) fH) l0 (l0.length:Int) ck (av l0 ck) ((av l0 ck).length:Int) fH (av l1 fH) ((av l1 fH).length:Int) lA=some r)∧aj (kq≤k2)∧aj (Kd.S (Kd.slice 2 (Kd.int .i64)) 28 w' w.heap.size (fun _=>True) o5 gA)∧aj (Below w.heap.size w w'))
      case atStart=>exact ⟨(ke),(0),rs,H',⟨Nat.le_refl _⟩,⟨aS (aoX.z)⟩,⟨bl⟩⟩
      case round =>
       clear H'
       obtain ⟨gA,lA,rfl,HA,iK,aoX,HB⟩:=hrel
       cases gk with
       | zero=>exact absurd HA.z (by simp [apj.l2])
       | succ k3 =>
        have H:=HA.z
        clear HA
        simp only [apj.l2] at H
        by_cases c13:lA < ((av l1 fH).length:Int)
        case neg =>
         rw [if_neg c13] at H
         have ru:decide (lA < ((av l1 fH).length:Int))=false:=decide_eq_false c13
         clear c13
         have H':=k0 H
         clear H
         go_wp2
         go_roundg k3
         case measure=>have:=bx.z;have:=cD.z;have:=iK.z;omega
         case rel=>exact ⟨(gA),(wrap64 (fH+1)),rs,H',⟨by have:=bx.z;have:=cD.z;have:=iK.z;omega⟩,⟨aS (aoX.z)⟩,⟨bl⟩⟩
        rw [if_pos c13] at H
        have ru:=decide_eq_true c13
        clear c13
        replace H:=iS H;obtain ⟨c14,H⟩:=H
        have pJ:=decide_eq_true c14
        clear c14
        replace H:=iS H;obtain ⟨c15,H⟩:=H
        have oN:=decide_eq_true c15
        clear c15
        replace H:=iS H;obtain ⟨c16,H⟩:=H
        have qK:=decide_eq_true c16
        clear c16
        replace H:=iS H;obtain ⟨c17,H⟩:=H
        have ur:=decide_eq_true c17
        clear c17
        replace H:=iS H;obtain ⟨c18,H⟩:=H
        have apY:=decide_eq_true c18
        clear c18
        obtain ⟨Nu,LO⟩:∃ y_:List Int,y_=((av gA ck).set (lA:Int).toNat (wrap64 ((rd (av gA ck) lA)+(wrap64 ((rd (av l0 ck) fH) * (rd (av l1 fH) lA)))))):=⟨_,rfl⟩
        replace H:(apj.l2 k3 l1 (gA.set (ck:Int).toNat Nu) ck (rd (av l0 ck) fH) l0 (l0.length:Int) ck (av l0 ck) ((av l0 ck).length:Int) fH (av l1 fH) ((av l1 fH).length:Int) (wrap64 (lA+1)))=some r:=rH LO H
        have Wv:=k0 LO
        clear LO
        obtain ⟨o_,oq⟩:∃ y_:List (List Int),y_=(gA.set (ck:Int).toNat Nu):=⟨_,rfl⟩
        replace H:(apj.l2 k3 l1 o_ ck (rd (av l0 ck) fH) l0 (l0.length:Int) ck (av l0 ck) ((av l0 ck).length:Int) fH (av l1 fH) ((av l1 fH).length:Int) (wrap64 (lA+1)))=some r:=rH oq H
        have vP:=k0 oq
        clear oq
        have H':=k0 H
        clear H
        have ji:0≤(lA:Int):=oD
        have jk:lA < ((av l1 fH).length:Int):=oD
        obtain ⟨ni,e107,iN⟩:=Kd.cN aqx.z lA ji jk
        cases e107
        replace iN:=hbc HB iN
        replace ji:=eq_true ji
        replace jk:=eq_true jk
        obtain ⟨C6,BH,xh⟩:=Kd.apc aoX.z
        subst xh
        have iw:0≤(ck:Int):=oD
        have iy:ck < (gA.length:Int):=oD
        obtain ⟨qG,af3,XB,e108,ij,RU,RM⟩:=fW (Kd.cQ aoX.z).2.2 ck iw iy
        cases e108
        obtain ⟨ahn,aaf,Z6,QW⟩:=Kd.vS aoX.z [] ck iw (by first|exact iy|exact oD|(have e_:=(Kd.cQ aoX.z).1;omega))
        obtain ⟨aom,rfl,Kk⟩:=Z6
        have EX:=QW 0 _ rfl
        rw [Nat.add_zero,show ((Kd.slice 2 (Kd.int .i64))).sz=1 from rfl,Nat.mul_one] at EX
        replace EX:=Option.some.inj (EX.symm.trans ij)
        rw [EX] at Kk
        have Jd:=k0 (show Kd.R (Kd.int .i64) 2 _ _ _ _ (av gA ck) from Kk)
        clear EX Kk
        have F0:=k0 ij
        clear QW aaf
        have Oy:=k0 RM
        have agB:=k0 RU
        clear RM RU
        replace iw:=eq_true iw
        replace iy:=eq_true iy
        have wB:0≤(lA:Int):=oD
        have tE:lA < ((av gA ck).length:Int):=oD
        obtain ⟨DM,e109,E3⟩:=Kd.cN (by repeat (first|(with_reducible exact Oy.z)|(with_reducible refine Kd.wL ?_ _)|(with_reducible refine Kd.zh ?_ _)|(with_reducible refine Kd.vG ?_)|exact Oy.z)) lA wB tE
        cases e109
        replace wB:=eq_true wB
        replace tE:=eq_true tE
        have AM:0≤(lA:Int):=oD
        have AR:(lA:Int) < (((av gA ck).length:Int):Int):=oD
        obtain ⟨Eg,ap9,qO,Ed,Kp,Yj,Df⟩:=Kd.aql Jd.z (by omega)
        (first|cases qO|(injection qO with er apw apv;(first|subst er|(injection er with er;subst er));subst apv;clear apw))
        (first|simp only [add_plain] at E3|skip)
        have N_:=k0 Ed
        have Ob:=k0 Df
        clear Ed Kp Df
        (first|simp only [add_plain] at E3|skip)
        obtain ⟨SH,Rm⟩:=Kd.vR 0 Jd.z (lA:Int) AM AR
        replace AM:=eq_true AM
        replace AR:=eq_true AR
        have ET:(ck:Int) < (gA.length:Int):=(by have h_:(ck:Int) < ((gA.length:Int):Int):=oD;first|exact h_|(have e_:=(Kd.cQ aoX.z).1;omega)|simpa only [List.length_set,List.length_set] using h_)
        obtain ⟨Mo,PI,Ep,El,yz,xu,yx⟩:=Kd.DF aoX.z [] (ck:Int) oD (by first|exact ET|(have e_:=(Kd.cQ aoX.z).1;omega))
        obtain ⟨Uc,rfl,pL⟩:=El
        have rJ:=yz 0 _ rfl
        rw [Nat.add_zero,show ((Kd.slice 2 (Kd.int .i64))).sz=1 from rfl,Nat.mul_one] at rJ
        replace rJ:=Option.some.inj (rJ.symm.trans F0.z)
        subst rJ
        clear yz Ep
        replace pL:=(show Kd.R (Kd.int .i64) 2 _ _ _ _ (av gA ck) from pL)
        have pn:=Kd.zH pL (lA:Int) (wrap64 ((rd (av gA ck) lA)+(wrap64 ((rd (av l0 ck) fH) * (rd (av l1 fH) lA)))))
        go_wp2_with (first|((with_reducible refine Gw (t:=2) (p:=52) rfl ?_);refine Ib (t:=2) (p:=52) (v:=?aou) (w1:=(wr.setCell ⟨Eg,(lA:Int).toNat,none⟩ (.int .i64 (wrap64 ((rd (av gA ck) lA)+(wrap64 ((rd (av l0 ck) fH) * (rd (av l1 fH) lA)))))))) ?hg ?ho ?hn ?hr ?_;(case ho=>rfl);(case hg=>rfl);(case hn=>rfl);(case hr=>first|(go_simp;done)|(go_simp;rfl));intro tM hw;have hg:wr.grownBy tM (some Eg):=(by rw [hw];exact pn.2);have AB:Kd.R (Kd.int .i64) 2 tM w.heap.size Mo (.slice (some ⟨Eg,0,none⟩) (av gA ck).length XB) Nu:=(by rw [hw,Wv.z];exact pn.1);have uL:Kd.S (Kd.slice 2 (Kd.int .i64)) 28 tM w.heap.size (fun _=>True) (.slice (some qG) gA.length BH) o_:=(by rw [vP.z];exact yx hg (fun k_ e_=>by injection e_ with e_;subst e_;exact pL.1 _ rfl) (Kd.apB AB));have Ai:=Kd.aoY AB xu;clear pn yx;have aq:=k0 (uL);have au:=k0 (zQ hg F0.z (DV (xu _ (pL.1 _ rfl)).2));have ax:=k0 ((by rw [hw];exact aoO (HB.z) N_.out:Below w.heap.size w tM));have aA:=k0 (Ai);have aG:=k0 ((Kd.cx Ai).2.1);clear aoX;clear F0;clear HB;clear Jd;have aoX:=aq;have F0:=au;have HB:=ax;have agL:=aA;have agD:=aG;clear aq au ax aA aG;clear hg hw uL AB Ai xu))
        go_roundg k3
        case measure=>have:=bx.z;have:=cD.z;have:=iK.z;omega
        case rel=>exact ⟨(o_),(wrap64 (lA+1)),rs,H',⟨by have:=bx.z;have:=cD.z;have:=iK.z;omega⟩,⟨aS (aoX.z)⟩,⟨bl⟩⟩
     rw [if_pos c11] at H
     have ku:((rd (av l0 ck) fH) == 0)=true:=beq_iff_eq.mpr c11
     have yh:((rd (av l0 ck) fH) != 0)=false:=bne_eq_false_iff_eq.mpr c11
     clear c11
     have H':=k0 H
     clear H
     have gD:0≤(fH:Int):=oD
     have gl:fH < ((av l0 ck).length:Int):=oD
     obtain ⟨lg,e105,gj⟩:=Kd.cN rU.z fH gD gl
     cases e105
     replace gj:=hbc HB gj
     replace gD:=eq_true gD
     replace gl:=eq_true gl
     go_wp2
     go_roundg k2
     case measure=>have:=bx.z;have:=cD.z;omega
     case rel=>exact ⟨(ke),(wrap64 (fH+1)),rs,H',⟨by have:=bx.z;have:=cD.z;omega⟩,⟨aS (aoX.z)⟩,⟨bl⟩⟩
/-! ### F206: function 206 -/
def oC.l0 : Nat → Int → List (List Int) → Int → Int → Option (Int)
 | 0,_,_,_,_=>none
 | k+1,x3,x6,x7,x8=>if x8 < x7 then (if 0≤x8 then (if x8 < (x6.length:Int) then (if x8 < ((av x6 x8).length:Int) then (oC.l0 k (wrap64 (x3+(rd (av x6 x8) x8))) x6 x7 (wrap64 (x8+1))) else (none)) else (none)) else (none)) else (some x3)
def oC.f (k:Nat) (l0:List (List Int)):Option (Int):=oC.l0 k 0 l0 (l0.length:Int) 0
theorem oC.calls (k : Nat) (A0 : Option Addr) (c0 : Nat) (l0 : List (List Int)) (r : Int) (w : World) (cY : Kd.C (Kd.slice 2 (Kd.int .i64)) w A0 l0.length l0) (hc0 : l0.length ≤ c0) (h : oC.f k l0 = some r) :
  Calls Try.prog 206 #[.slice A0 l0.length c0] w fun e w'=>e=.returned (.int .i64 r)∧iR w w':=by
 have ek:=k0 cY
 have jx:=k0 hc0
 clear cY hc0
 have H:(oC.l0 k 0 l0 (l0.length:Int) 0)=some r:=h
 clear h
 have H':=k0 H
 clear H
 go_enter Try.func206,Try.ntmps206
 go_wp2
 go_loopg [3,8] k (fun kq v3 v8 w'=>∃ (cn:Int) (bw:Int),v3=.int .i64 cn∧v8=.int .i64 bw∧aj (oC.l0 kq cn l0 (l0.length:Int) bw=some r)∧aj (kq≤k)∧iR w w')
 case atStart=>exact ⟨(0),(0),rs,rs,H',⟨Nat.le_refl _⟩,dW⟩
 case round =>
  clear H'
  obtain ⟨cn,bw,rfl,rfl,HA,bx,⟨m1,rfl⟩⟩:=hrel
  cases gk with
  | zero=>exact absurd HA.z (by simp [oC.l0])
  | succ k1 =>
   have H:=HA.z
   clear HA
   simp only [oC.l0] at H
   by_cases c2:bw < (l0.length:Int)
   case neg =>
    rw [if_neg c2] at H
    have xb:decide (bw < (l0.length:Int))=false:=decide_eq_false c2
    clear c2
    obtain rfl:=Option.some.inj H
    go_wp2
    go_ret
    exact ⟨rs,dW⟩
   rw [if_pos c2] at H
   have xb:=decide_eq_true c2
   clear c2
   replace H:=iS H;obtain ⟨c3,H⟩:=H
   have jd:=decide_eq_true c3
   clear c3
   replace H:=iS H;obtain ⟨c4,H⟩:=H
   have fX:=decide_eq_true c4
   clear c4
   replace H:=iS H;obtain ⟨c5,H⟩:=H
   have jt:=decide_eq_true c5
   clear c5
   have H':=k0 H
   clear H
   have apa:0≤(bw:Int):=oD
   have apb:bw < (l0.length:Int):=oD
   obtain ⟨mj,Nx,Pu,e101,lp,yJ,yG⟩:=fW ek.z bw apa apb
   cases e101
   have wX:=k0 yG
   have aqu:=k0 yJ
   clear yG yJ
   replace apa:=eq_true apa
   replace apb:=eq_true apb
   have dF:0≤(bw:Int):=oD
   have dG:bw < ((av l0 bw).length:Int):=oD
   obtain ⟨nh,e102,gO⟩:=Kd.cN wX.z bw dF dG
   cases e102
   replace dF:=eq_true dF
   replace dG:=eq_true dG
   go_wp2
   go_roundg k1
   case measure=>have:=bx.z;omega
   case rel=>exact ⟨(wrap64 (cn+(rd (av l0 bw) bw))),(wrap64 (bw+1)),rs,rs,H',⟨by have:=bx.z;omega⟩,dW⟩
end Go.Proofs.Ytoebojnhchocaaa.E
/- Set with little white space, by a program. -/
