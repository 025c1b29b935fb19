/- The functions that one law reaches, each as a Lean function, and that Go's call comes to what it says. Condition of each: that the Lean function answers (is not none). -/
import Derived.Test.YtapnggjaeehpdaaAx0
namespace Go.Proofs.Ytapnggjaeehpdaa.A
open Go.RowKit Go.Proofs.bB.dI Go.Proofs.bB.ark Go.Proofs.bB.jd
attribute [local go_sem] max2_int min2_int max_two min_two max_three min_three max_four min_four   -- for this text's walks alone
set_option linter.unusedVariables false
set_option linter.unusedSimpArgs false
set_option maxHeartbeats 8000000
set_option maxRecDepth 100000
/-! ### F58: function 58 -/
def kf.l0 : Nat → Int → List (List Int) → Int → Int → Option (Int)
 | 0,_,_,_,_=>none
 | k+1,x3,x6,x7,x8=>if x8 < x7 then (if 0≤x8 then (if x8 < (x6.length:Int) then (if x8 < ((ah x6 x8).length:Int) then (kf.l0 k (wrap64 (x3+(rd (ah x6 x8) x8))) x6 x7 (wrap64 (x8+1))) else (none)) else (none)) else (none)) else (some x3)
def kf.f (k:Nat) (l0:List (List Int)):Option (Int):=kf.l0 k 0 l0 (l0.length:Int) 0
theorem kf.calls (k : Nat) (A0 : Option Addr) (c0 : Nat) (l0 : List (List Int)) (r : Int) (w : World) (bZ : Kd.C (Kd.slice 2 (Kd.int .i64)) w A0 l0.length l0) (hc0 : l0.length ≤ c0) (h : kf.f k l0 = some r) :
  Calls Try.prog 58 #[.slice A0 l0.length c0] w fun e w'=>e=.returned (.int .i64 r)∧eX w w':=by
 have cP:=k0 bZ
 have fq:=k0 hc0
 clear bZ hc0
 unfold kf.f at h
 have H:=h
 clear h
 have H':=k0 H
 clear H
 go_enter Try.func58,Try.ntmps58
 go_wp2
 go_loopg [3,8] k (fun kq v3 v8 w'=>∃ (bp:Int) (bu:Int),v3=.int .i64 bp∧v8=.int .i64 bu∧ai (kf.l0 kq bp l0 (l0.length:Int) bu=some r)∧ai (kq≤k)∧eX w w')
 case atStart=>exact ⟨(0),(0),rs,rs,H',⟨Nat.le_refl _⟩,dW⟩
 case round =>
  clear H'
  obtain ⟨bp,bu,rfl,rfl,HA,aI,⟨m1,rfl⟩⟩:=hrel
  cases gk with
  | zero=>exact absurd HA.z (by simp [kf.l0])
  | succ k1 =>
   have H:=HA.z
   clear HA
   simp only [kf.l0] at H
   replace H:=iC H;obtain ⟨s_,H⟩|⟨s_,H⟩:=H
   case inl =>
    obtain rfl:=Option.some.inj H
    go_wp2
    go_ret
    exact ⟨rs,dW⟩
   replace H:=iS H;obtain ⟨c3,H⟩:=H
   have ia:=decide_eq_true c3
   clear c3
   replace H:=iS H;obtain ⟨c4,H⟩:=H
   have ej:=decide_eq_true c4
   clear c4
   replace H:=iS H;obtain ⟨c5,H⟩:=H
   have gD:=decide_eq_true c5
   clear c5
   have H':=k0 H
   clear H
   obtain ⟨dY,dZ⟩:=iN bu (l0.length:Int)
   obtain ⟨ny,O8,RR,e101,lQ,yp,yj⟩:=cD cP.z bu dY dZ
   cases e101
   have wB:=k0 yj
   have xC:=k0 yp
   clear yj yp
   replace dY:=eT dY
   replace dZ:=eT dZ
   obtain ⟨cT,cU⟩:=iN bu ((ah l0 bu).length:Int)
   obtain ⟨nZ,e102,fB⟩:=Kd.bM wB.z bu cT cU
   cases e102
   replace cT:=eT cT
   replace cU:=eT cU
   go_wp2
   go_roundg k1
   case measure=>have:=aI.z;omega
   case rel=>exact ⟨(wrap64 (bp+(rd (ah l0 bu) bu))),(wrap64 (bu+1)),rs,rs,H',⟨by have:=aI.z;omega⟩,dW⟩
/-! ### F122: function 122 -/
def kL.l0 : Nat → Int → List (List Int) → Int → Int → Option ((List (List Int)))
 | 0,_,_,_,_=>none
 | k+1,x0,x3,x5,x6=>if x6 < x5 then (if 0≤x0 then (if (x0:Int).toNat≤35184372088832 then (if x3.length < 5864062014805 then (kL.l0 k x0 (x3 ++ [(List.replicate (x0:Int).toNat 0)]) x5 (wrap64 (x6+1))) else (none)) else (none)) else (none)) else (some x3)
def kL.f (k:Nat) (a0:Int):Option ((List (List Int))):=kL.l0 k a0 (([]:List (List Int))) a0 0
theorem kL.calls (k : Nat) (a0 : Int) (r : List (List Int)) (w : World) (h : kL.f k a0 = some r) :
  Calls Try.prog 122 #[.int .i64 a0] w fun e w'=>∃ cR:Value,e=.returned (cR)∧Kd.S (Kd.slice 2 (Kd.int .i64)) 29 w' w.heap.size (fun _=>True) cR r∧Below w.heap.size w w':=by
 have HB:=k0 (Below.refl w.heap.size w)
 unfold kL.f at h
 have H:=h
 clear h
 obtain ⟨mq,kQ⟩:=nY (([]:List (List Int)):List (List Int))
 replace H:(kL.l0 k a0 mq a0 0)=some r:=rH kQ.z H
 have H':=k0 H
 clear H
 go_enter Try.func122,Try.ntmps122
 go_wp2_with (first|(refine aqI (N:=4) rfl ?_;refine Kd.zP (Kd.slice 2 (Kd.int .i64)) _ 29 ?hg (N:=4) ?hd (xs:=([]:List (List Int))) (inner:=[]) (ok:=fun _=>True) (bw:=fun _=>True) ?hr ?hp (fun _ hk=>hk) trivial (Below.refl _ _) (Nat.le_refl _) (by simp) ?_;(case hd=>rfl);(case hg=>rfl);(case hr=>first|(go_simp;done)|(go_simp;rfl));(case hp=>exact (aH.none _ _));intro tM w2 uS hb bH bI;clear bH bI;(first|rw [← kQ.z] at uS|(simp only [Int.reduceToNat] at uS;rw [← kQ.z] at uS));have mC:=k0 (Kd.fT uS (aqG bl));replace HB:=bW hb;clear hb uS))
 go_loopg [3,6] k (fun kq v3 v6 w'=>∃ (bp:List (List Int)) (fD:Int),v6=.int .i64 fD∧ai (kL.l0 kq a0 bp a0 fD=some r)∧ai (kq≤k)∧ai (Kd.S (Kd.slice 2 (Kd.int .i64)) 29 w' w.heap.size (fun _=>True) v3 bp)∧ai (Below w.heap.size w w'))
 case atStart=>exact ⟨(mq),(0),rs,H',⟨Nat.le_refl _⟩,⟨aS (mC.z)⟩,⟨bl⟩⟩
 case round =>
  clear H'
  obtain ⟨bp,fD,rfl,HA,aI,aqK,HB⟩:=hrel
  cases gk with
  | zero=>exact absurd HA.z (by simp [kL.l0])
  | succ k1 =>
   have H:=HA.z
   clear HA
   simp only [kL.l0] at H
   replace H:=iC H;obtain ⟨ej,H⟩|⟨ej,H⟩:=H
   case inl =>
    obtain rfl:=Option.some.inj H
    go_wp2
    go_ret
    exact ⟨_,eR,aS aqK.z,bl⟩
   replace H:=iS H;obtain ⟨c5,H⟩:=H
   have gD:=eq_true c5
   have arP:=decide_eq_true c5
   clear c5
   replace H:=iS H;obtain ⟨c6,H⟩:=H
   have fN:=eq_true c6
   have lJ:=decide_eq_true c6
   clear c6
   obtain ⟨kI,jW⟩:=nY (List.replicate (a0:Int).toNat 0:List Int)
   replace H:(if bp.length < 5864062014805 then (kL.l0 k1 a0 (bp ++ [kI]) a0 (wrap64 (fD+1))) else (none))=some r:=rH jW.z H
   replace H:=iS H;obtain ⟨c7,H⟩:=H
   have aah:=k0 c7
   clear c7
   obtain ⟨nP,wH⟩:=nY (bp ++ [kI]:List (List Int))
   replace H:(kL.l0 k1 a0 nP a0 (wrap64 (fD+1)))=some r:=rH wH.z H
   have H':=k0 H
   clear H
   go_wp2_with (first|(refine aqI (N:=10) rfl ?_;refine Kd.BI (Kd.int .i64) _ 2 rfl (N:=10) rfl 29 _ _ rfl a0 rfl rfl Try.underlying29 (.int .i64 0) 8 lS rfl (by decide) (by omega) 0 (ok:=fun _=>True) (bw:=fun _=>True) rfl (fun _ hk=>hk) trivial oD (Nat.le_trans (Nat.mul_le_mul_right _ (oD:a0.toNat≤35184372088832)) (by omega)) (Below.refl _ _) (Nat.le_refl _) ?_;intro wj w8 tq hb bH bI;clear bH bI;(first|rw [← jW.z] at tq|(simp only [Int.reduceToNat] at tq;rw [← jW.z] at tq));replace aqK:=iw aqK (Kd.cm tq) hb;have fF:=k0 (Kd.cA tq (aqG bl));replace HB:=bW hb;clear hb tq;obtain ⟨eJ,dg,rfl⟩:=Kd.cy fF.z)|((with_reducible refine ars (b:=.append) (xs:=#[.tmp 8,.tmp 11]) rfl ?_);at_builtin;refine Kd.asc (Kd.slice 2 (Kd.int .i64)) (w0:=w) w.heap.size rfl (.tmp 8) (.tmp 11) 24 29 (.slice none 0 0) 24 rfl Try.underlying24 o_ rfl (by decide) (by omega) u3 bp kI [.slice eJ kI.length dg] (fun _=>True) (fun k_=>some k_=(.slice eJ kI.length dg:Value).ownBlock) rfl rfl ?aP (fun k_ aqJ=>((Kd.aqM (ok':=fun k_=>((fun _=>True)) k_∧some k_ ≠ (u3:Value).ownBlock) (Kd.aq' (fF.z) (Kd.fH aqK.z) (by decide)) (fun k_ hk=>⟨trivial,hk.2⟩))).1 k_ aqJ.symm) ?aF ?aO ?aB ?aS ?aL ?_;(case aP=>exact Kd.lD (Kd.aqM (Kd.oV rfl (Kd.aqM (ok':=fun k_=>((fun _=>True)) k_∧some k_ ≠ (u3:Value).ownBlock) (Kd.aq' (fF.z) (Kd.fH aqK.z) (by decide)) (fun k_ hk=>⟨trivial,hk.2⟩))) (fun _ h_=>h_)));(case aB=>exact bl);(case aF=>exact (fun _ _=>trivial));(case aO=>exact (aS (Kd.b6 aqK.z (fun k_ hk=>⟨trivial,fun e_=>hk.2 e_⟩))));(case aS=>exact (aqG bl));(case aL=>have:=aah.out;omega);intro q3 jh ho hb hg bg;rw [← wH.z] at ho;replace HB:=k0 (hb);have bD:=k0 (ho);clear aqK fF;clear ho hb hg bg))
   go_roundg k1
   case measure=>have:=aI.z;omega
   case rel=>exact ⟨(nP),(wrap64 (fD+1)),rs,H',⟨by have:=aI.z;omega⟩,⟨aS (bD.z)⟩,⟨bl⟩⟩
/-! ### F87: function 87 -/
mutual
def fo.l0 : Nat → List (List Int) → List (List Int) → List (List Int) → Int → Int → Option ((List (List Int)))
 | 0,_,_,_,_,_=>none
 | k+1,x1,x5,b7,ey,arf=>if arf < ey then (if 0≤arf then (if arf < (b7.length:Int) then (fo.l1 k x1 x5 arf b7 ey arf (ah b7 arf) ((ah b7 arf).length:Int) 0) else (none)) else (none)) else (some x5)
def fo.l1 : Nat → List (List Int) → List (List Int) → Int → List (List Int) → Int → Int → List Int → Int → Int → Option ((List (List Int)))
 | 0,_,_,_,_,_,_,_,_,_=>none
 | k+1,x1,x5,x6,b7,ey,arf,ke,lB,sH=>if sH < lB then (if 0≤sH then (if sH < (ke.length:Int) then (if (rd ke sH)=0 then (fo.l1 k x1 x5 x6 b7 ey arf ke lB (wrap64 (sH+1))) else (if sH < (x1.length:Int) then (fo.l2 k x1 x5 x6 (rd ke sH) b7 ey arf ke lB sH (ah x1 sH) ((ah x1 sH).length:Int) 0) else (none))) else (none)) else (none)) else (fo.l0 k x1 x5 b7 ey (wrap64 (arf+1)))
def fo.l2 : Nat → List (List Int) → List (List Int) → Int → Int → List (List Int) → Int → Int → List Int → Int → Int → List Int → Int → Int → Option ((List (List Int)))
 | 0,_,_,_,_,_,_,_,_,_,_,_,_,_=>none
 | k+1,x1,x5,x6,x9,b7,ey,arf,ke,lB,sH,sI,Xq,zg=>if zg < Xq then (if 0≤zg then (if zg < (sI.length:Int) then (if 0≤x6 then (if x6 < (x5.length:Int) then (if zg < ((ah x5 x6).length:Int) then (fo.l2 k x1 (x5.set (x6:Int).toNat ((ah x5 x6).set (zg:Int).toNat (wrap64 ((rd (ah x5 x6) zg)+(wrap64 (x9 * (rd sI zg))))))) x6 x9 b7 ey arf ke lB sH sI Xq (wrap64 (zg+1))) else (none)) else (none)) else (none)) else (none)) else (none)) else (fo.l1 k x1 x5 x6 b7 ey arf ke lB (wrap64 (sH+1)))
end
def fo.f (k:Nat) (l0:List (List Int)) (l1:List (List Int)):Option ((List (List Int))):=(kL.f k (l0.length:Int)).bind fun t101=>(fo.l0 k l1 t101 l0 (l0.length:Int) 0)
theorem fo.calls (k : Nat) (A0 : Option Addr) (c0 : Nat) (l0 : List (List Int)) (A1 : Option Addr) (c1 : Nat) (l1 : List (List Int)) (r : List (List Int)) (w : World) (bZ : Kd.C (Kd.slice 2 (Kd.int .i64)) w A0 l0.length l0) (hc0 : l0.length ≤ c0) (arC : Kd.C (Kd.slice 2 (Kd.int .i64)) w A1 l1.length l1) (ql : l1.length ≤ c1) (h : fo.f k l0 l1 = some r) :
  Calls Try.prog 87 #[.slice A0 l0.length c0,.slice A1 l1.length c1] w fun e w'=>∃ cR:Value,e=.returned (cR)∧Kd.S (Kd.slice 2 (Kd.int .i64)) 29 w' w.heap.size (fun _=>True) cR r∧Below w.heap.size w w':=by
 have cP:=k0 bZ
 have fq:=k0 hc0
 clear bZ hc0
 have ue:=k0 arC
 have J6:=k0 ql
 clear arC ql
 have HB:=k0 (Below.refl w.heap.size w)
 unfold fo.f at h
 have H:=h
 clear h
 replace H:=bS H;obtain ⟨t101,A3,H⟩:=H
 have H':=k0 H
 clear H
 go_enter Try.func87,Try.ntmps87
 go_wp2_with (first|(refine aqz (f:=122) rfl ?_;refine gC (some 14) Try.func122 #[.int .i64 (l0.length:Int)] ?_;(with_reducible refine (kL.calls k (l0.length:Int) t101 _ A3.z).mono ?_);rintro e w4 ⟨tM,rfl,aD,hb⟩;refine ⟨_,rfl,?_⟩;have mC:=k0 (Kd.fT aD (aqG bl));replace HB:=bW hb))
 go_loopg [17] k (fun kq OJ w'=>∃ (bK:List (List Int)) (cG:Int),OJ=.int .i64 cG∧ai (fo.l0 kq l1 bK l0 (l0.length:Int) cG=some r)∧ai (kq≤k)∧ai (Kd.S (Kd.slice 2 (Kd.int .i64)) 29 w' w.heap.size (fun _=>True) tM bK)∧ai (Below w.heap.size w w'))
 case atStart=>exact ⟨(t101),(0),rs,H',⟨Nat.le_refl _⟩,⟨aS (mC.z)⟩,⟨bl⟩⟩
 case round =>
  clear H'
  obtain ⟨bK,cG,rfl,HA,aI,bf,HB⟩:=hrel
  cases gk with
  | zero=>exact absurd HA.z (by simp [fo.l0])
  | succ k1 =>
   have H:=HA.z
   clear HA
   simp only [fo.l0] at H
   replace H:=iC H;obtain ⟨gD,H⟩|⟨gD,H⟩:=H
   case inl =>
    obtain rfl:=Option.some.inj H
    go_wp2
    go_ret
    exact ⟨_,eR,aS bf.z,bl⟩
   replace H:=iS H;obtain ⟨c6,H⟩:=H
   have fN:=decide_eq_true c6
   clear c6
   replace H:=iS H;obtain ⟨c7,H⟩:=H
   have l8:=decide_eq_true c7
   clear c7
   have H':=k0 H
   clear H
   obtain ⟨dm,aqT⟩:=iN cG (l0.length:Int)
   obtain ⟨jw,JC,Ls,e104,dz,uL,uF⟩:=cD cP.z cG dm aqT
   cases e104
   replace dz:=hbc HB dz
   have xJ:=k0 uF
   have J7:=k0 uL
   clear uF uL
   replace dm:=eT dm
   replace aqT:=eT aqT
   go_wp2
   go_loopg [24] k1 (fun kq v24 w'=>∃ (sK:List (List Int)) (iM:Int),v24=.int .i64 iM∧ai (fo.l1 kq l1 sK cG l0 (l0.length:Int) cG (ah l0 cG) ((ah l0 cG).length:Int) iM=some r)∧ai (kq≤k1)∧ai (Kd.S (Kd.slice 2 (Kd.int .i64)) 29 w' w.heap.size (fun _=>True) tM sK)∧ai (Below w.heap.size w w'))
   case atStart=>exact ⟨(bK),(0),rs,H',⟨Nat.le_refl _⟩,⟨aS (bf.z)⟩,⟨bl⟩⟩
   case round =>
    clear H'
    obtain ⟨sK,iM,rfl,HA,aqL,bf,HB⟩:=hrel
    cases gk with
    | zero=>exact absurd HA.z (by simp [fo.l1])
    | succ k2 =>
     have H:=HA.z
     clear HA
     simp only [fo.l1] at H
     replace H:=iC H;obtain ⟨r7,H⟩|⟨r7,H⟩:=H
     case inl =>
      have H':=k0 H
      clear H
      go_wp2
      go_roundg k2
      case measure=>have:=aI.z;have:=aqL.z;omega
      case rel=>exact ⟨(sK),(wrap64 (cG+1)),rs,H',⟨by have:=aI.z;have:=aqL.z;omega⟩,⟨aS (bf.z)⟩,⟨bl⟩⟩
     replace H:=iS H;obtain ⟨c9,H⟩:=H
     have td:=decide_eq_true c9
     clear c9
     replace H:=iS H;obtain ⟨c10,H⟩:=H
     have vN:=decide_eq_true c10
     clear c10
     replace H:=iE H;obtain ⟨c11,jy,vO,H⟩|⟨jy,vO,H⟩:=H
     case inl =>
      replace H:=iS H;obtain ⟨c12,H⟩:=H
      have arN:=decide_eq_true c12
      clear c12
      have H':=k0 H
      clear H
      obtain ⟨fZ,f_⟩:=iN iM ((ah l0 cG).length:Int)
      obtain ⟨oY,e105,fJ⟩:=Kd.bM xJ.z iM fZ f_
      cases e105
      replace fJ:=hbc HB fJ
      replace fZ:=eT fZ
      replace f_:=eT f_
      obtain ⟨gQ,aq_⟩:=iN iM (l1.length:Int)
      obtain ⟨ar8,aj5,amb,e106,gV,UZ,UA⟩:=cD ue.z iM gQ aq_
      cases e106
      replace gV:=hbc HB gV
      have ZH:=k0 UA
      have ak_:=k0 UZ
      clear UA UZ
      replace gQ:=eT gQ
      replace aq_:=eT aq_
      go_wp2
      go_loopg [36] k2 (fun kq v36 w'=>∃ (eI:List (List Int)) (lW:Int),v36=.int .i64 lW∧ai (fo.l2 kq l1 eI cG (rd (ah l0 cG) iM) l0 (l0.length:Int) cG (ah l0 cG) ((ah l0 cG).length:Int) iM (ah l1 iM) ((ah l1 iM).length:Int) lW=some r)∧ai (kq≤k2)∧ai (Kd.S (Kd.slice 2 (Kd.int .i64)) 29 w' w.heap.size (fun _=>True) tM eI)∧ai (Below w.heap.size w w'))
      case atStart=>exact ⟨(sK),(0),rs,H',⟨Nat.le_refl _⟩,⟨aS (bf.z)⟩,⟨bl⟩⟩
      case round =>
       clear H'
       obtain ⟨eI,lW,rfl,HA,dR,bf,HB⟩:=hrel
       cases gk with
       | zero=>exact absurd HA.z (by simp [fo.l2])
       | succ k3 =>
        have H:=HA.z
        clear HA
        simp only [fo.l2] at H
        replace H:=iC H;obtain ⟨arT,H⟩|⟨arT,H⟩:=H
        case inl =>
         have H':=k0 H
         clear H
         go_wp2
         go_roundg k3
         case measure=>have:=aI.z;have:=aqL.z;have:=dR.z;omega
         case rel=>exact ⟨(eI),(wrap64 (iM+1)),rs,H',⟨by have:=aI.z;have:=aqL.z;have:=dR.z;omega⟩,⟨aS (bf.z)⟩,⟨bl⟩⟩
        replace H:=iS H;obtain ⟨c14,H⟩:=H
        have mH:=decide_eq_true c14
        clear c14
        replace H:=iS H;obtain ⟨c15,H⟩:=H
        have kU:=decide_eq_true c15
        clear c15
        replace H:=iS H;obtain ⟨c16,H⟩:=H
        have asK:=decide_eq_true c16
        clear c16
        replace H:=iS H;obtain ⟨c17,H⟩:=H
        have asL:=decide_eq_true c17
        clear c17
        replace H:=iS H;obtain ⟨c18,H⟩:=H
        have B0:=decide_eq_true c18
        clear c18
        obtain ⟨qy,qD⟩:=nY ((ah eI cG).set (lW:Int).toNat (wrap64 ((rd (ah eI cG) lW)+(wrap64 ((rd (ah l0 cG) iM) * (rd (ah l1 iM) lW))))):List Int)
        replace H:(fo.l2 k3 l1 (eI.set (cG:Int).toNat qy) cG (rd (ah l0 cG) iM) l0 (l0.length:Int) cG (ah l0 cG) ((ah l0 cG).length:Int) iM (ah l1 iM) ((ah l1 iM).length:Int) (wrap64 (lW+1)))=some r:=rH qD.z H
        obtain ⟨C0,BF⟩:=nY (eI.set (cG:Int).toNat qy:List (List Int))
        replace H:(fo.l2 k3 l1 C0 cG (rd (ah l0 cG) iM) l0 (l0.length:Int) cG (ah l0 cG) ((ah l0 cG).length:Int) iM (ah l1 iM) ((ah l1 iM).length:Int) (wrap64 (lW+1)))=some r:=rH BF.z H
        have H':=k0 H
        clear H
        obtain ⟨arI,lg⟩:=iN lW ((ah l1 iM).length:Int)
        obtain ⟨rB,e107,mP⟩:=Kd.bM ZH.z lW arI lg
        cases e107
        replace mP:=hbc HB mP
        replace arI:=eT arI
        replace lg:=eT lg
        obtain ⟨C2,asG,rfl⟩:=Kd.dL bf.z
        obtain ⟨arJ,j9⟩:=iN cG (eI.length:Int)
        obtain ⟨kn,O9,Lt,e108,oq,EP,EI⟩:=cD (Kd.a_ bf.z).2.2 cG arJ j9
        cases e108
        obtain ⟨Se,MH,Mu,yd⟩:=Kd.aq9 bf.z [] cG arJ (by first|exact j9|exact oD|(have e_:=(Kd.a_ bf.z).1;omega))
        obtain ⟨W5,rfl,si⟩:=Mu
        have uT:=yd 0 _ rfl
        rw [Nat.add_zero,show ((Kd.slice 2 (Kd.int .i64))).sz=1 from rfl,Nat.mul_one] at uT
        replace uT:=Option.some.inj (uT.symm.trans oq)
        rw [uT] at si
        have zD:=k0 (show Kd.R (Kd.int .i64) 2 _ _ _ _ (ah eI cG) from si)
        clear uT si
        have xL:=k0 oq
        clear yd MH
        have BA:=k0 EI
        have Zf:=k0 EP
        clear EI EP
        replace arJ:=eT arJ
        replace j9:=eT j9
        obtain ⟨vn,vp⟩:=iN lW ((ah eI cG).length:Int)
        obtain ⟨Lb,e109,yw⟩:=Kd.bM (by repeat (first|(with_reducible exact BA.z)|(with_reducible refine Kd.fP ?_ _)|(with_reducible refine Kd.fQ ?_ _)|(with_reducible refine Kd.fk ?_)|exact BA.z)) lW vn vp
        cases e109
        replace vn:=eT vn
        replace vp:=eT vp
        have AH:0≤(lW:Int):=oD
        have AU:(lW:Int) < (((ah eI cG).length:Int):Int):=oD
        obtain ⟨Mn,asF,SR,Ti,aeF,anf,PU⟩:=Kd.qG zD.z (by omega)
        (first|cases SR|(injection SR with bC eo ek;(first|subst bC|(injection bC with bC;subst bC));subst ek;clear eo))
        (first|simp only [add_plain] at yw|skip)
        have YQ:=k0 Ti
        have ak3:=k0 PU
        clear Ti aeF PU
        (first|simp only [add_plain] at yw|skip)
        obtain ⟨agd,afK⟩:=Kd.kR 0 zD.z (lW:Int) AH AU
        replace AH:=eT AH
        replace AU:=eT AU
        have M3:(cG:Int) < (eI.length:Int):=(by have h_:(cG:Int) < ((eI.length:Int):Int):=oD;first|exact h_|(have e_:=(Kd.a_ bf.z).1;omega)|simpa only [List.length_set,List.length_set] using h_)
        obtain ⟨Wi,adq,ML,Ms,EE,Cv,EA⟩:=Kd.zO bf.z [] (cG:Int) oD (by first|exact M3|(have e_:=(Kd.a_ bf.z).1;omega))
        obtain ⟨ajL,rfl,uC⟩:=Ms
        have wU:=EE 0 _ rfl
        rw [Nat.add_zero,show ((Kd.slice 2 (Kd.int .i64))).sz=1 from rfl,Nat.mul_one] at wU
        replace wU:=Option.some.inj (wU.symm.trans xL.z)
        subst wU
        clear EE ML
        replace uC:=(show Kd.R (Kd.int .i64) 2 _ _ _ _ (ah eI cG) from uC)
        have ry:=Kd.ar0 uC (lW:Int) (wrap64 ((rd (ah eI cG) lW)+(wrap64 ((rd (ah l0 cG) iM) * (rd (ah l1 iM) lW)))))
        go_wp2_with (first|((with_reducible refine qi (t:=2) (p:=52) rfl ?_);refine qq (t:=2) (p:=52) (v:=?ajN) (w1:=(wr.setCell ⟨Mn,(lW:Int).toNat,none⟩ (.int .i64 (wrap64 ((rd (ah eI cG) lW)+(wrap64 ((rd (ah l0 cG) iM) * (rd (ah l1 iM) lW)))))))) ?hg ?ho ?hn ?hr ?_;(case ho=>rfl);(case hg=>rfl);(case hn=>rfl);(case hr=>first|(go_simp;done)|(go_simp;rfl));intro nN hw;have hg:wr.grownBy nN (some Mn):=(by rw [hw];exact ry.2);have u_:Kd.R (Kd.int .i64) 2 nN w.heap.size Wi (.slice (some ⟨Mn,0,none⟩) (ah eI cG).length Lt) qy:=(by rw [hw,qD.z];exact ry.1);have gp:Kd.S (Kd.slice 2 (Kd.int .i64)) 29 nN w.heap.size (fun _=>True) (.slice (some kn) eI.length asG) C0:=(by rw [BF.z];exact EA hg (fun k_ e_=>by injection e_ with e_;subst e_;exact uC.1 _ rfl) (Kd.lD u_));have uQ:=Kd.aqM u_ Cv;clear ry EA;replace bf:=k0 (gp);replace xL:=k0 (r8 hg xL.z (z3 (Cv _ (uC.1 _ rfl)).2));replace HB:=k0 ((by rw [hw];exact lZ (HB.z) YQ.out:Below w.heap.size w nN));have alx:=k0 (uQ);have alb:=k0 ((Kd.aqP uQ).2.1);clear zD;clear hg hw gp u_ uQ Cv))
        go_roundg k3
        case measure=>have:=aI.z;have:=aqL.z;have:=dR.z;omega
        case rel=>exact ⟨(C0),(wrap64 (lW+1)),rs,H',⟨by have:=aI.z;have:=aqL.z;have:=dR.z;omega⟩,⟨aS (bf.z)⟩,⟨bl⟩⟩
     have H':=k0 H
     clear H
     obtain ⟨fZ,f_⟩:=iN iM ((ah l0 cG).length:Int)
     obtain ⟨oY,e105,fJ⟩:=Kd.bM xJ.z iM fZ f_
     cases e105
     replace fJ:=hbc HB fJ
     replace fZ:=eT fZ
     replace f_:=eT f_
     go_wp2
     go_roundg k2
     case measure=>have:=aI.z;have:=aqL.z;omega
     case rel=>exact ⟨(sK),(wrap64 (iM+1)),rs,H',⟨by have:=aI.z;have:=aqL.z;omega⟩,⟨aS (bf.z)⟩,⟨bl⟩⟩
/-! ### F117: function 117 -/
theorem So (w:World) (a:Option Addr) (n c:Nat):(binOp .eql 29 (.slice a n c) (.slice none 0 0)).run Try.prog w=.ok (.bool a.isNone) w:=Lib.run_eql_slice_nil w _ _ a n c 0 0 Try.underlying29
def vH.f (l0:List Int):Option (List Int):=if l0.length < 17592186044416 then some l0 else none
theorem vH.calls (A0 : Option Addr) (c0 : Nat) (l0 : List Int) (r : List Int) (w : World) (bZ : Kd.C (Kd.int .i64) w A0 l0.length l0) (hc0 : l0.length ≤ c0) (h : vH.f l0 = some r) :
  Calls Try.prog 117 #[.slice A0 l0.length c0] w fun e w'=>∃ cR:Value,e=.returned (cR)∧Kd.R (Kd.int .i64) 2 w' w.heap.size (fun _=>True) cR r∧Below w.heap.size w w':=by
 have cP:=k0 bZ
 have fq:=k0 hc0
 clear bZ hc0
 unfold vH.f at h
 by_cases c2:l0.length < 17592186044416
 case neg =>
  rw [if_neg c2] at h
  exact absurd h (by simp)
 rw [if_pos c2] at h
 obtain rfl:=Option.some.inj h
 clear h
 cases A0 with
 | none =>
  have hn:l0=[]:=by
   by_cases hz:l0.length=0
   case neg =>
    obtain ⟨ad,e,_⟩:=Kd.bM cP.z 0 (by omega) (by omega)
    cases e
   exact List.eq_nil_of_length_eq_zero hz
  subst hn
  have q_:=So
  go_enter Try.func117,Try.ntmps117
  go_wp2
  go_ret
  exact ⟨_,rfl,Kd.p6 _ _ _ _ _,Below.refl _ _⟩
 | some ad =>
  have HB:=k0 (Below.refl w.heap.size w)
  have KK:=k0 c2
  clear c2
  have q_:=So
  go_enter Try.func117,Try.ntmps117
  go_wp2_with (first|(refine aqI (N:=5) rfl ?_;refine Kd.gw (Kd.int .i64) _ 2 ?hg (N:=5) ?hd (xs:=([]:List Int)) (inner:=[]) (ok:=fun _=>True) (bw:=fun _=>True) ?hr ?hp (fun _ hk=>hk) trivial (Below.refl _ _) (Nat.le_refl _) (by simp) ?_;(case hd=>rfl);(case hg=>rfl);(case hr=>first|(go_simp;done)|(go_simp;rfl));(case hp=>exact (aH.none _ _));intro tM w3 mO hb bH bI;clear bH bI;have mC:=k0 (Kd.cA mO (aqG bl));replace HB:=bW hb;clear hb mO)|((with_reducible refine ars (b:=.append) (xs:=#[.tmp 5,.tmp 6]) rfl ?_);at_builtin;refine Kd.Q5 (Kd.int .i64) (w0:=w) w.heap.size rfl (.tmp 5) (.tmp 6) 29 2 (.int .i64 0) 8 rfl Try.underlying29 lS rfl (by decide) (by omega) tM ([]:List Int) l0 _ _ _ (fun _=>True) (fun _=>False) rfl rfl ?aO ?aR (fun _ _ h=>h) (fun _ h=>h.elim) ?aF ?aB ?aS ?aL ?_;(case aR=>repeat (first|exact (Kd.aqN cP.z HB.z)|(with_reducible refine Kd.fP ?_ _)|(with_reducible refine Kd.fQ ?_ _)|(with_reducible refine Kd.fk ?_)));(case aB=>exact bl);(case aF=>exact (fun _ _=>trivial));(case aO=>exact (aR mC.z));(case aS=>exact (aqG bl));(case aL=>have:=KK.out;simp;omega);intro wj w5 ho hb hg bg;rw [List.nil_append] at ho;replace HB:=k0 (hb);have fF:=k0 (ho);clear mC;clear ho hb hg bg))
  go_ret
  exact ⟨_,by first|rfl|(simp;done),aR fF.z,bl⟩
/-! ### F118: function 118 -/
def nS.l0 : Nat → List Int → Option (List Int)
 | 0,_=>none
 | k+1,x0=>if (x0.length:Int) > 0 then (if 0≤(wrap64 ((x0.length:Int) - 1)) then (if (wrap64 ((x0.length:Int) - 1)) < (x0.length:Int) then (if (rd x0 (wrap64 ((x0.length:Int) - 1)))=0 then (if (wrap64 ((x0.length:Int) - 1))≤(x0.length:Int) then (nS.l0 k (x0.take ((wrap64 ((x0.length:Int) - 1)):Int).toNat)) else (none)) else ((vH.f x0).bind fun t107=>(some t107))) else (none)) else (none)) else ((vH.f x0).bind fun t110=>(some t110))
def nS.f (k:Nat) (l0:List Int):Option (List Int):=nS.l0 k l0
theorem nS.calls (k : Nat) (K4 : Nat → Prop) (A0 : Option Addr) (c0 : Nat) (l0 : List Int) (r : List Int) (w : World) (hs0 : Kd.V (Kd.int .i64) 2 w w.heap.size (fun k_ => K4 k_) (.slice A0 l0.length c0) l0) (h : nS.f k l0 = some r) :
  Calls Try.prog 118 #[.slice A0 l0.length c0] w fun e w'=>∃ cR:Value,e=.returned (cR)∧Kd.R (Kd.int .i64) 2 w' w.heap.size (fun k_=>(w.heap.size≤k_)) cR r∧Below w.heap.size w w':=by
 have Zw:=k0 (show Kd.V (Kd.int .i64) 2 w w.heap.size (fun k_=>(K4 k_∨w.heap.size≤k_)) (.slice A0 l0.length c0) l0 from Kd.aZ hs0 (fun k_ hk=>.inl hk))
 have HB:=k0 (Below.refl w.heap.size w)
 unfold nS.f at h
 have H:=h
 clear h
 have H':=k0 H
 clear H
 go_enter Try.func118,Try.ntmps118
 go_wp2
 go_loopg [0] k (fun kq v0 w'=>∃ (arc:List Int),ai (nS.l0 kq arc=some r)∧ai (kq≤k)∧ai (Kd.V (Kd.int .i64) 2 w' w.heap.size (fun k_=>(K4 k_∨w.heap.size≤k_)) v0 arc)∧ai (Below w.heap.size w w'))
 case atStart=>exact ⟨(l0),H',⟨Nat.le_refl _⟩,⟨aV (Zw.z)⟩,⟨bl⟩⟩
 case round =>
  clear H'
  obtain ⟨arc,HA,aI,qB,HB⟩:=hrel
  cases gk with
  | zero=>exact absurd HA.z (by simp [nS.l0])
  | succ k1 =>
   have H:=HA.z
   clear HA
   simp only [nS.l0] at H
   by_cases c2:(arc.length:Int) > 0
   case neg =>
    rw [if_neg c2] at H
    have s_:=decide_eq_false c2
    have He:decide (0 < arc.length)=false:=decide_eq_false (by omega)
    clear c2
    replace H:=bS H;obtain ⟨t110,wq,H⟩:=H
    obtain rfl:=Option.some.inj H
    obtain ⟨JN,Hq,rfl⟩:=Kd.arO qB.z
    go_wp2_with (first|(refine aqz (f:=117) rfl ?_;refine gC (some 21) Try.func117 #[.slice JN arc.length Hq] ?_;(with_reducible refine (vH.calls _ _ arc t110 _ ?aq ?au wq.z).mono ?_);(case aq=>exact aC ((Kd.cI qB.z).2.2));(case au=>exact (Kd.cI qB.z).2.1);rintro e tN ⟨F0,rfl,aD,hb⟩;refine ⟨_,rfl,?_⟩;replace qB:=aqX qB (Kd.cm aD) hb;have oQ:=k0 (Kd.cA (Kd.BK (M:=fun k_=>(w.heap.size≤k_)) aD (aqG bl) (fun k_ h_=>h_)) (aqG bl));replace HB:=bW hb))
    go_ret
    exact ⟨_,eR,aR (Kd.aqM oQ.z (fun _ hk=>hk.1)),bl⟩
   rw [if_pos c2] at H
   have s_:=decide_eq_true c2
   have He:decide (0 < arc.length)=true:=decide_eq_true (by omega)
   clear c2
   obtain ⟨bz,arv⟩:∃ j_:Int,(wrap64 ((arc.length:Int) - 1))=j_:=⟨_,rfl⟩
   replace H:(if 0≤(bz) then (if (bz) < (arc.length:Int) then (if (rd arc (bz))=0 then (if (bz)≤(arc.length:Int) then (nS.l0 k1 (arc.take ((bz):Int).toNat)) else (none)) else ((vH.f arc).bind fun t107=>(some t107))) else (none)) else (none))=some r:=by first|(rw [arv] at H;exact H)|(simp only [arv] at H ⊢;exact H)
   have MV:(IntKind.i64.wrap ((arc.length:Int) - 1))=bz:=(bJ _).trans arv
   replace H:=iS H;obtain ⟨c4,H⟩:=H
   have ej:=decide_eq_true c4
   clear c4
   replace H:=iS H;obtain ⟨c5,H⟩:=H
   have gD:=decide_eq_true c5
   clear c5
   replace H:=iE H;obtain ⟨c6,fN,lJ,H⟩|⟨fN,lJ,H⟩:=H
   case inl =>
    replace H:=bS H;obtain ⟨t107,Bc,H⟩:=H
    obtain rfl:=Option.some.inj H
    obtain ⟨zk,asE,rfl⟩:=Kd.arO qB.z
    have dY:0≤((bz):Int):=oD
    have dZ:(bz) < (arc.length:Int):=oD
    obtain ⟨ny,e101,lQ⟩:=Kd.bM (Kd.cI qB.z).2.2 (bz) dY dZ
    cases e101
    replace dY:=eT dY
    replace dZ:=eT dZ
    go_wp2_with (first|(refine aqz (f:=117) rfl ?_;refine gC (some 21) Try.func117 #[.slice (some ny) arc.length asE] ?_;(with_reducible refine (vH.calls _ _ arc t107 _ ?aq ?au Bc.z).mono ?_);(case aq=>exact aC ((Kd.cI qB.z).2.2));(case au=>exact (Kd.cI qB.z).2.1);rintro e oC ⟨q3,rfl,aD,hb⟩;refine ⟨_,rfl,?_⟩;replace qB:=aqX qB (Kd.cm aD) hb;have bD:=k0 (Kd.cA (Kd.BK (M:=fun k_=>(w.heap.size≤k_)) aD (aqG bl) (fun k_ h_=>h_)) (aqG bl));replace HB:=bW hb))
    go_ret
    exact ⟨_,by first|rfl|(simp [ic,ie]<;>rfl)|(simp only [← arv];first|rfl|(simp [ic,ie]<;>rfl))|(simp [*,ic,ie]<;>rfl),aR (Kd.aqM bD.z (fun _ hk=>hk.1)),bl⟩
   have l8:=eq_true (oD:0≤(bz))
   replace H:=iS H;obtain ⟨c8,H⟩:=H
   have r7:=eq_true c8
   have wN:=decide_eq_true c8
   clear c8
   obtain ⟨gq,gv⟩:=nY (arc.take ((bz):Int).toNat:List Int)
   replace H:(nS.l0 k1 gq)=some r:=rH gv.z H
   have H':=k0 H
   clear H
   obtain ⟨sQ,qf,rfl⟩:=Kd.arO qB.z
   have dY:0≤((bz):Int):=oD
   have dZ:(bz) < (arc.length:Int):=oD
   obtain ⟨ny,e101,lQ⟩:=Kd.bM (Kd.cI qB.z).2.2 (bz) dY dZ
   cases e101
   replace dY:=eT dY
   replace dZ:=eT dZ
   have N1:((bz):Int)≤((arc.length:Int):Int):=oD
   obtain ⟨i010,EH,_,H6,_⟩:=info_parts lS
   have Vp:arc.length≤qf:=(Kd.cI qB.z).2.1
   have Ew:Kd.F (Kd.int .i64) _ _ (some ny) arc.length arc:=(Kd.GY (base:=w.heap.size) qB.z).2.2
   have atH:=adL (P:=Try.prog) 29 2 .i64 Try.underlying29 EH (some ny) arc.length qf (bz) oD N1 Vp
   have M5:=Kd.YN (m:=((bz):Int).toNat) Ew (by omega)
   have Ng:gq.length=((bz):Int).toNat:=(by rw [gv.z,List.length_take];omega)
   rw [← gv.z] at M5
   rw [← Ng] at atH
   have fF:=k0 (show Kd.V (Kd.int .i64) 2 _ w.heap.size _ (.slice (some ny) gq.length qf) gq from Kd.abp (by omega) M5)
   have PJ:=k0 (show gq.length≤qf from by omega)
   clear M5 Ew Vp EH H6
   have alX:=k0 Ng
   clear Ng
   replace N1:=eT N1
   go_wp2
   first|go_roundg k1|(simp only [← arv];go_roundg k1)
   case measure=>have:=aI.z;omega
   case rel=>exact ⟨(gq),(by first|exact H'|(rw [arv];exact H')),⟨by have:=aI.z;omega⟩,⟨aV (fF.z)⟩,⟨bl⟩⟩
end Go.Proofs.Ytapnggjaeehpdaa.A
/- Set with little white space, by a program. -/
