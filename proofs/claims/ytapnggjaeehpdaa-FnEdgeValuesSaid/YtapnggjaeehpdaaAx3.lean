/- The functions that one law reaches, each as a Lean function, and that Go's call comes to what it says. Condition of each: that the Lean function answers (is not none). -/
import Derived.Test.YtapnggjaeehpdaaAx0
import Derived.Test.YtapnggjaeehpdaaAx2
namespace Go.Proofs.Ytapnggjaeehpdaa.A
open Go.RowKit Go.Proofs.bB.dI Go.Proofs.bB.ark Go.Proofs.bB.jd
attribute [local go_sem] max2_int min2_int max_two min_two max_three min_three max_four min_four   -- for this text's walks alone
set_option linter.unusedVariables false
set_option linter.unusedSimpArgs false
set_option maxHeartbeats 8000000
set_option maxRecDepth 100000
/-! ### F68: function 68 -/
mutual
def dB.j0 : Nat → Bool → Int → List (List Int) → Option (Bool)
 | 0,_,_,_=>none
 | k+1,lV,dx,cF=>if lV=true then (some false) else (dB.l0 k 0 dx cF)
def dB.l0 : Nat → Int → Int → List (List Int) → Option (Bool)
 | 0,_,_,_=>none
 | k+1,x3,dx,cF=>if x3 < (cF.length:Int) then (if 0≤x3 then (if ((ah cF x3).length:Int)=2 then (if 0 < ((ah cF x3).length:Int) then ((aq4.f (rd (ah cF x3) 0) 0 (wrap64 (dx - 1))).bind fun t106=>(if t106=true then (if 1 < ((ah cF x3).length:Int) then ((aq4.f (rd (ah cF x3) 1) 0 (wrap64 (dx - 1))).bind fun t109=>(if t109=true then (dB.l0 k (wrap64 (x3+1)) dx cF) else (some false))) else (none)) else (some false))) else (none)) else (some false)) else (none)) else (some true)
end
def dB.f (k:Nat) (ag:Int) (af:List (List Int)):Option (Bool):=(aq4.f ag 1 8).bind fun t102=>(if t102=true then (dB.j0 k (decide ((af.length:Int) > 10)) ag af) else (dB.j0 k true ag af))
theorem dB.calls (k : Nat) (ag : Int) (az : Option Addr) (ay : Nat) (af : List (List Int)) (r : Bool) (w : World) (aqO : Kd.C (Kd.slice 2 (Kd.int .i64)) w az af.length af) (bG : af.length ≤ ay) (h : dB.f k ag af = some r) :
  Calls Try.prog 68 #[.agg #[.int .i64 ag,.slice az af.length ay]] w fun e w'=>e=.returned (.bool r)∧Below w.heap.size w w':=by
 have eE:=Try.underlying26
 have aW:=k0 aqO
 have bh:=k0 bG
 clear aqO bG
 have HB:=k0 (Below.refl w.heap.size w)
 unfold dB.f at h
 have H:=h
 clear h
 have xD:=k0 H
 clear H
 go_enter Try.func68,Try.ntmps68
 go_upto_region 1 with (first|(refine aqI (N:=1) rfl ?_;(try (refine lM (by rfl) ?_;dsimp only));refine cz 1 #[.int .i64 ag,.slice az af.length ay] 26 bl ?_;intro aA w3 aa aqF HB;have aqR:=aqF))
 (try simp only [Act.put,zI,zZ,zS])
 go_cut [13] (fun F2 wc=>∃ (kq:Nat) (tP:Bool),F2=.bool tP∧ai (dB.j0 kq tP ag af=some r)∧ai (kq≤k)∧ai (wc.heap[aA]?=some (sO ag az af ay 26))∧ai (Below w.heap.size w wc))
 case first =>
  have H:=xD.z
  clear xD
  replace H:=bS H;obtain ⟨t102,A4,H⟩:=H
  cases t102
  case false =>
   replace H:=iF H
   have H':=k0 H
   clear H
   obtain ⟨_,_,_,_⟩:=aqA aa
   go_wp2_with (first|(go_at_call 61;(with_reducible refine (aq4.calls ag 1 8 false _ A4.z).mono ?_);rintro e w' ⟨rfl,⟨nd,rfl⟩⟩;(try exact dN)))
   go_meet
   case rel=>exact ⟨_,(true),rs,H',⟨oL⟩,⟨bk⟩,⟨bl⟩⟩
  replace H:=iT H
  have H':=k0 H
  clear H
  obtain ⟨_,_,_,_⟩:=aqA aa
  go_wp2_with (first|(go_at_call 61;(with_reducible refine (aq4.calls ag 1 8 true _ A4.z).mono ?_);rintro e w' ⟨rfl,⟨nd,rfl⟩⟩;(try exact dN)))
  go_meet
  case rel=>exact ⟨_,(decide ((af.length:Int) > 10)),rs,H',⟨oL⟩,⟨bk⟩,⟨bl⟩⟩
 case rest =>
  clear xD
  obtain ⟨kq,tP,rfl,HA,De,aa,HB⟩:=hcut
  cases kq with
  | zero=>exact absurd HA.z (by simp [dB.j0])
  | succ FE =>
   have H:=HA.z
   clear HA
   simp only [dB.j0] at H
   cases tP
   case false =>
    replace H:=iF H
    have H':=k0 H
    clear H
    go_wp2
    go_loopg [3] FE (fun kq v3 w'=>∃ (cg:Int),v3=.int .i64 cg∧ai (dB.l0 kq cg ag af=some r)∧ai (kq≤FE)∧ai (w'.heap[aA]?=some (sO ag az af ay 26))∧ai (Below w.heap.size w w'))
    case atStart=>exact ⟨(0),rs,H',⟨Nat.le_refl _⟩,⟨bk⟩,⟨bl⟩⟩
    case round =>
     clear H'
     obtain ⟨cg,rfl,HA,aqL,aa,HB⟩:=hrel
     cases gk with
     | zero=>exact absurd HA.z (by simp [dB.l0])
     | succ k2 =>
      have H:=HA.z
      clear HA
      simp only [dB.l0] at H
      replace H:=iC H;obtain ⟨td,H⟩|⟨td,H⟩:=H
      case inl =>
       obtain rfl:=Option.some.inj H
       obtain ⟨_,_,_,_⟩:=aqA aa
       go_wp2
       go_ret
       exact ⟨eR,bl⟩
      replace H:=iS H;obtain ⟨c10,H⟩:=H
      have vN:=decide_eq_true c10
      clear c10
      replace H:=iE H;obtain ⟨c11,jy,vO,H⟩|⟨jy,vO,H⟩:=H
      case inl =>
       obtain rfl:=Option.some.inj H
       obtain ⟨_,_,_,_⟩:=aqA aa
       obtain ⟨di,dn⟩:=iN cg (af.length:Int)
       obtain ⟨jK,zj,zV,e103,dH,kX,kW⟩:=cD aW.z cg di dn
       cases e103
       replace dH:=hbc HB dH
       have sV:=k0 kW
       have zB:=k0 kX
       clear kW kX
       replace di:=eT di
       replace dn:=eT dn
       go_wp2
       repeat (go_quiet (fail);try go_wp2)
       go_ret
       exact ⟨eR,bl⟩
      replace H:=iS H;obtain ⟨c12,H⟩:=H
      have arN:=decide_eq_true c12
      have zW:decide (0 < (ah af cg).length)=true:=decide_eq_true (by omega)
      clear c12
      replace H:=bS H;obtain ⟨t106,oI,H⟩:=H
      cases t106
      case false =>
       replace H:=iF H
       obtain rfl:=Option.some.inj H
       obtain ⟨_,_,_,_⟩:=aqA aa
       obtain ⟨di,dn⟩:=iN cg (af.length:Int)
       obtain ⟨jK,zj,zV,e103,dH,kX,kW⟩:=cD aW.z cg di dn
       cases e103
       replace dH:=hbc HB dH
       have sV:=k0 kW
       have zB:=k0 kX
       clear kW kX
       replace di:=eT di
       replace dn:=eT dn
       obtain ⟨dm,aqT⟩:=iN cg (af.length:Int)
       obtain ⟨jw,JC,Ls,e104,dz,uL,uF⟩:=cD aW.z cg dm aqT
       obtain rfl:jK=jw:=(by injection e104)
       replace dz:=hbc HB dz
       have xJ:=k0 uF
       have J7:=k0 uL
       clear uF uL
       replace dm:=eT dm
       replace aqT:=eT aqT
       have bC:=Option.some.inj (dH.symm.trans dz)
       injection bC with bC eo ek
       subst bC
       subst ek
       clear eo
       have fZ:0≤(0:Int):=(by omega)
       have f_:0 < ((ah af cg).length:Int):=oD
       obtain ⟨oY,e105,fJ⟩:=Kd.bM xJ.z 0 fZ f_
       cases e105
       have CO:(0 < (ah af cg).length)=True:=eq_true (by omega)
       (try rw [show ((0:Int)).toNat=0 from rfl] at fJ)
       (try rw [Addr.add_zero'] at fJ)
       replace fJ:=hbc HB fJ
       replace fZ:=eT fZ
       replace f_:=eT f_
       go_wp2_with (first|(go_at_call 61;(with_reducible refine (aq4.calls (rd (ah af cg) 0) 0 (wrap64 (ag - 1)) false _ oI.z).mono ?_);rintro e w' ⟨rfl,⟨nd,rfl⟩⟩;(try exact dN)))
       repeat (go_quiet (first|(go_at_call 61;(with_reducible refine (aq4.calls (rd (ah af cg) 0) 0 (wrap64 (ag - 1)) false _ oI.z).mono ?_);rintro e w' ⟨rfl,⟨nd,rfl⟩⟩;(try exact dN)));try go_wp2_with (first|(go_at_call 61;(with_reducible refine (aq4.calls (rd (ah af cg) 0) 0 (wrap64 (ag - 1)) false _ oI.z).mono ?_);rintro e w' ⟨rfl,⟨nd,rfl⟩⟩;(try exact dN))))
       go_ret
       exact ⟨eR,bl⟩
      replace H:=iT H
      replace H:=iS H;obtain ⟨c15,H⟩:=H
      have kU:=decide_eq_true c15
      have zY:decide (1 < (ah af cg).length)=true:=decide_eq_true (by omega)
      clear c15
      replace H:=bS H;obtain ⟨t109,tT,H⟩:=H
      cases t109
      case false =>
       replace H:=iF H
       obtain rfl:=Option.some.inj H
       obtain ⟨_,_,_,_⟩:=aqA aa
       obtain ⟨di,dn⟩:=iN cg (af.length:Int)
       obtain ⟨jK,zj,zV,e103,dH,kX,kW⟩:=cD aW.z cg di dn
       cases e103
       replace dH:=hbc HB dH
       have sV:=k0 kW
       have zB:=k0 kX
       clear kW kX
       replace di:=eT di
       replace dn:=eT dn
       obtain ⟨dm,aqT⟩:=iN cg (af.length:Int)
       obtain ⟨jw,JC,Ls,e104,dz,uL,uF⟩:=cD aW.z cg dm aqT
       obtain rfl:jK=jw:=(by injection e104)
       replace dz:=hbc HB dz
       have xJ:=k0 uF
       have J7:=k0 uL
       clear uF uL
       replace dm:=eT dm
       replace aqT:=eT aqT
       have bC:=Option.some.inj (dH.symm.trans dz)
       injection bC with bC eo ek
       subst bC
       subst ek
       clear eo
       have fZ:0≤(0:Int):=(by omega)
       have f_:0 < ((ah af cg).length:Int):=oD
       obtain ⟨oY,e105,fJ⟩:=Kd.bM xJ.z 0 fZ f_
       cases e105
       have CO:(0 < (ah af cg).length)=True:=eq_true (by omega)
       (try rw [show ((0:Int)).toNat=0 from rfl] at fJ)
       (try rw [Addr.add_zero'] at fJ)
       replace fJ:=hbc HB fJ
       replace fZ:=eT fZ
       replace f_:=eT f_
       obtain ⟨arI,lg⟩:=iN cg (af.length:Int)
       obtain ⟨rB,C1,DN,e107,mP,uM,uG⟩:=cD aW.z cg arI lg
       obtain rfl:jK=rB:=(by injection e107)
       replace mP:=hbc HB mP
       have xK:=k0 uG
       have Gw:=k0 uM
       clear uG uM
       replace arI:=eT arI
       replace lg:=eT lg
       have bC:=Option.some.inj (dH.symm.trans mP)
       injection bC with bC eo ek
       subst bC
       subst ek
       clear eo
       have arJ:0≤(1:Int):=(by omega)
       have j9:1 < ((ah af cg).length:Int):=oD
       obtain ⟨kn,e108,oq⟩:=Kd.bM xK.z 1 arJ j9
       cases e108
       (try simp only [show (1:Int).toNat=1 from rfl,Nat.reduceMul,Nat.reduceEqDiff,Go.Addr.add,↓reduceIte] at oq)
       have aib:(1 < (ah af cg).length)=True:=eq_true (by omega)
       (try rw [show ((1:Int)).toNat=1 from rfl] at oq)
       replace oq:=hbc HB oq
       replace arJ:=eT arJ
       replace j9:=eT j9
       go_wp2_with (first|(go_at_call 61;(with_reducible refine (aq4.calls (rd (ah af cg) 0) 0 (wrap64 (ag - 1)) true _ oI.z).mono ?_);rintro e w' ⟨rfl,⟨nd,rfl⟩⟩;(try exact dN))|(go_at_call 61;(with_reducible refine (aq4.calls (rd (ah af cg) 1) 0 (wrap64 (ag - 1)) false _ tT.z).mono ?_);rintro e w' ⟨rfl,⟨nd,rfl⟩⟩;(try exact dN)))
       repeat (go_quiet (first|(go_at_call 61;(with_reducible refine (aq4.calls (rd (ah af cg) 0) 0 (wrap64 (ag - 1)) true _ oI.z).mono ?_);rintro e w' ⟨rfl,⟨nd,rfl⟩⟩;(try exact dN))|(go_at_call 61;(with_reducible refine (aq4.calls (rd (ah af cg) 1) 0 (wrap64 (ag - 1)) false _ tT.z).mono ?_);rintro e w' ⟨rfl,⟨nd,rfl⟩⟩;(try exact dN)));try go_wp2_with (first|(go_at_call 61;(with_reducible refine (aq4.calls (rd (ah af cg) 0) 0 (wrap64 (ag - 1)) true _ oI.z).mono ?_);rintro e w' ⟨rfl,⟨nd,rfl⟩⟩;(try exact dN))|(go_at_call 61;(with_reducible refine (aq4.calls (rd (ah af cg) 1) 0 (wrap64 (ag - 1)) false _ tT.z).mono ?_);rintro e w' ⟨rfl,⟨nd,rfl⟩⟩;(try exact dN))))
       go_ret
       exact ⟨eR,bl⟩
      replace H:=iT H
      have H':=k0 H
      clear H
      obtain ⟨_,_,_,_⟩:=aqA aa
      obtain ⟨di,dn⟩:=iN cg (af.length:Int)
      obtain ⟨jK,zj,zV,e103,dH,kX,kW⟩:=cD aW.z cg di dn
      cases e103
      replace dH:=hbc HB dH
      have sV:=k0 kW
      have zB:=k0 kX
      clear kW kX
      replace di:=eT di
      replace dn:=eT dn
      obtain ⟨dm,aqT⟩:=iN cg (af.length:Int)
      obtain ⟨jw,JC,Ls,e104,dz,uL,uF⟩:=cD aW.z cg dm aqT
      obtain rfl:jK=jw:=(by injection e104)
      replace dz:=hbc HB dz
      have xJ:=k0 uF
      have J7:=k0 uL
      clear uF uL
      replace dm:=eT dm
      replace aqT:=eT aqT
      have bC:=Option.some.inj (dH.symm.trans dz)
      injection bC with bC eo ek
      subst bC
      subst ek
      clear eo
      have fZ:0≤(0:Int):=(by omega)
      have f_:0 < ((ah af cg).length:Int):=oD
      obtain ⟨oY,e105,fJ⟩:=Kd.bM xJ.z 0 fZ f_
      cases e105
      have CO:(0 < (ah af cg).length)=True:=eq_true (by omega)
      (try rw [show ((0:Int)).toNat=0 from rfl] at fJ)
      (try rw [Addr.add_zero'] at fJ)
      replace fJ:=hbc HB fJ
      replace fZ:=eT fZ
      replace f_:=eT f_
      obtain ⟨arI,lg⟩:=iN cg (af.length:Int)
      obtain ⟨rB,C1,DN,e107,mP,uM,uG⟩:=cD aW.z cg arI lg
      obtain rfl:jK=rB:=(by injection e107)
      replace mP:=hbc HB mP
      have xK:=k0 uG
      have Gw:=k0 uM
      clear uG uM
      replace arI:=eT arI
      replace lg:=eT lg
      have bC:=Option.some.inj (dH.symm.trans mP)
      injection bC with bC eo ek
      subst bC
      subst ek
      clear eo
      have arJ:0≤(1:Int):=(by omega)
      have j9:1 < ((ah af cg).length:Int):=oD
      obtain ⟨kn,e108,oq⟩:=Kd.bM xK.z 1 arJ j9
      cases e108
      (try simp only [show (1:Int).toNat=1 from rfl,Nat.reduceMul,Nat.reduceEqDiff,Go.Addr.add,↓reduceIte] at oq)
      have aib:(1 < (ah af cg).length)=True:=eq_true (by omega)
      (try rw [show ((1:Int)).toNat=1 from rfl] at oq)
      replace oq:=hbc HB oq
      replace arJ:=eT arJ
      replace j9:=eT j9
      go_wp2_with (first|(go_at_call 61;(with_reducible refine (aq4.calls (rd (ah af cg) 0) 0 (wrap64 (ag - 1)) true _ oI.z).mono ?_);rintro e w' ⟨rfl,⟨nd,rfl⟩⟩;(try exact dN))|(go_at_call 61;(with_reducible refine (aq4.calls (rd (ah af cg) 1) 0 (wrap64 (ag - 1)) true _ tT.z).mono ?_);rintro e w' ⟨rfl,⟨nd,rfl⟩⟩;(try exact dN)))
      repeat (go_quiet (first|(go_at_call 61;(with_reducible refine (aq4.calls (rd (ah af cg) 0) 0 (wrap64 (ag - 1)) true _ oI.z).mono ?_);rintro e w' ⟨rfl,⟨nd,rfl⟩⟩;(try exact dN))|(go_at_call 61;(with_reducible refine (aq4.calls (rd (ah af cg) 1) 0 (wrap64 (ag - 1)) true _ tT.z).mono ?_);rintro e w' ⟨rfl,⟨nd,rfl⟩⟩;(try exact dN)));try go_wp2_with (first|(go_at_call 61;(with_reducible refine (aq4.calls (rd (ah af cg) 0) 0 (wrap64 (ag - 1)) true _ oI.z).mono ?_);rintro e w' ⟨rfl,⟨nd,rfl⟩⟩;(try exact dN))|(go_at_call 61;(with_reducible refine (aq4.calls (rd (ah af cg) 1) 0 (wrap64 (ag - 1)) true _ tT.z).mono ?_);rintro e w' ⟨rfl,⟨nd,rfl⟩⟩;(try exact dN))))
      go_roundg k2
      case measure=>have:=De.out;have:=aqL.z;omega
      case rel=>exact ⟨(wrap64 (cg+1)),rs,H',⟨by have:=De.out;have:=aqL.z;omega⟩,⟨bk⟩,⟨bl⟩⟩
   replace H:=iT H
   obtain rfl:=Option.some.inj H
   go_wp2
   go_ret
   exact ⟨eR,bl⟩
/-! ### F135: function 135 -/
def gJ.l0 : Nat → ByteArray → Int → List ByteArray → Int → Int → Option (List ByteArray)
 | 0,_,_,_,_,_=>none
 | k+1,x0,x1,x5,x6,x7=>if x7 < (x0.size:Int) then (if 0≤x7 then (if (bt x0 x7)=x1 then (if 0≤x6 then (if x6≤x7 then (if x7≤(x0.size:Int) then (if x5.length < 8796093022208 then (gJ.l0 k x0 x1 (x5 ++ [x0.extract (x6:Int).toNat (x7:Int).toNat]) (wrap64 (x7+1)) (wrap64 (x7+1))) else (none)) else (none)) else (none)) else (none)) else (gJ.l0 k x0 x1 x5 x6 (wrap64 (x7+1)))) else (none)) else (if 0≤x6 then (if x6≤(x0.size:Int) then (if x5.length < 8796093022208 then (some (x5 ++ [x0.extract (x6:Int).toNat x0.size])) else (none)) else (none)) else (none))
def gJ.f (k:Nat) (a0:ByteArray) (a1:Int):Option (List ByteArray):=gJ.l0 k a0 a1 (([]:List ByteArray)) 0 0
theorem gJ.calls (k : Nat) (a0 : ByteArray) (a1 : Int) (r : List ByteArray) (w : World) (h : gJ.f k a0 a1 = some r) :
  Calls Try.prog 135 #[.string a0,.int .u8 a1] w fun e w'=>∃ cR:Value,e=.returned (cR)∧Kd.R Kd.string 9 w' w.heap.size (fun _=>True) cR r∧Below w.heap.size w w':=by
 have HB:=k0 (Below.refl w.heap.size w)
 unfold gJ.f at h
 have H:=h
 clear h
 obtain ⟨mq,kQ⟩:=nY (([]:List ByteArray):List ByteArray)
 replace H:(gJ.l0 k a0 a1 mq 0 0)=some r:=rH kQ.z H
 have H':=k0 H
 clear H
 go_enter Try.func135,Try.ntmps135
 go_wp2_with (first|(refine aqI (N:=8) rfl ?_;refine Kd.gw Kd.string _ 9 ?hg (N:=8) ?hd (xs:=([]:List ByteArray)) (inner:=[]) (ok:=fun _=>True) (bw:=fun _=>True) ?hr ?hp (fun _ hk=>hk) trivial (Below.refl _ _) (Nat.le_refl _) (by simp) ?_;(case hd=>rfl);(case hg=>rfl);(case hr=>first|(go_simp;done)|(go_simp;rfl));(case hp=>exact (aH.none _ _));intro tM w3 mO hb bH bI;clear bH bI;(first|rw [← kQ.z] at mO|(simp only [Int.reduceToNat] at mO;rw [← kQ.z] at mO));have mC:=k0 (Kd.cA mO (aqG bl));replace HB:=bW hb;clear hb mO))
 go_loopg [5,6,7] k (fun kq v5 v6 v7 w'=>∃ (bK:List ByteArray) (fD:Int) (cQ:Int),v6=.int .i64 fD∧v7=.int .i64 cQ∧ai (gJ.l0 kq a0 a1 bK fD cQ=some r)∧ai (kq≤k)∧ai (Kd.R Kd.string 9 w' w.heap.size (fun _=>True) v5 bK)∧ai (Below w.heap.size w w'))
 case atStart=>exact ⟨(mq),(0),(0),rs,rs,H',⟨Nat.le_refl _⟩,⟨aR (mC.z)⟩,⟨bl⟩⟩
 case round =>
  clear H'
  obtain ⟨bK,fD,cQ,rfl,rfl,HA,aI,bf,HB⟩:=hrel
  cases gk with
  | zero=>exact absurd HA.z (by simp [gJ.l0])
  | succ k1 =>
   have H:=HA.z
   clear HA
   simp only [gJ.l0] at H
   replace H:=iC H;obtain ⟨gD,H⟩|⟨gD,H⟩:=H
   case inl =>
    replace H:=iS H;obtain ⟨c14,H⟩:=H
    have mH:=eq_true c14
    have DS:=decide_eq_true c14
    clear c14
    replace H:=iS H;obtain ⟨c15,H⟩:=H
    have kU:=eq_true c15
    have zY:=decide_eq_true c15
    clear c15
    replace H:=iS H;obtain ⟨c16,H⟩:=H
    have wE:=k0 c16
    clear c16
    obtain ⟨nP,wH⟩:=nY (bK ++ [a0.extract (fD:Int).toNat a0.size]:List ByteArray)
    replace H:(some nP)=some r:=rH wH.z H
    obtain rfl:=Option.some.inj H
    go_wp2_with (first|((with_reducible refine ars (b:=.append) (xs:=#[.tmp 29,.tmp 33]) rfl ?_);at_builtin;refine Kd.asb Kd.string (w0:=w) w.heap.size rfl (.tmp 29) (.tmp 33) 117 9 (.string ⟨#[]⟩) 16 rfl Try.underlying117 VK rfl (by decide) (by omega) u5 bK (a0.extract (fD:Int).toNat a0.size) [.string (a0.extract (fD:Int).toNat a0.size)] (fun _=>True) (fun _=>False) rfl rfl ?aP (fun _ hk=>hk.elim) ?aF ?aO ?aB ?aS ?aL ?_;(case aP=>exact rfl);(case aB=>exact bl);(case aF=>exact (fun _ _=>trivial));(case aO=>exact (aR bf.z));(case aS=>exact (aqG bl));(case aL=>have:=wE.out;omega);intro q3 y_ ho hb hg bg;rw [← wH.z] at ho;replace HB:=k0 (hb);have bD:=k0 (ho);clear bf;clear ho hb hg bg))
    go_ret
    exact ⟨_,eR,aR bD.z,bl⟩
   replace H:=iS H;obtain ⟨c6,H⟩:=H
   have fN:=decide_eq_true c6
   clear c6
   replace H:=iE H;obtain ⟨c8,r7,wN,H⟩|⟨r7,wN,H⟩:=H
   case inl =>
    have H':=k0 H
    clear H
    obtain ⟨p7,q7⟩:=iN cQ (a0.size:Int)
    have VH:=wL a0 cQ
    replace p7:=eT p7
    replace q7:=eT q7
    go_wp2
    go_roundg k1
    case measure=>have:=aI.z;omega
    case rel=>exact ⟨(bK),(fD),(wrap64 (cQ+1)),rs,rs,H',⟨by have:=aI.z;omega⟩,⟨aR (bf.z)⟩,⟨bl⟩⟩
   replace H:=iS H;obtain ⟨c9,H⟩:=H
   have td:=eq_true c9
   have Hg:=decide_eq_true c9
   clear c9
   replace H:=iS H;obtain ⟨c10,H⟩:=H
   have vN:=eq_true c10
   have RU:=decide_eq_true c10
   clear c10
   replace H:=iS H;obtain ⟨c11,H⟩:=H
   have jy:=eq_true c11
   have vO:=decide_eq_true c11
   clear c11
   replace H:=iS H;obtain ⟨c12,H⟩:=H
   have Z5:=k0 c12
   clear c12
   obtain ⟨kI,jW⟩:=nY (bK ++ [a0.extract (fD:Int).toNat (cQ:Int).toNat]:List ByteArray)
   replace H:(gJ.l0 k1 a0 a1 kI (wrap64 (cQ+1)) (wrap64 (cQ+1)))=some r:=rH jW.z H
   have H':=k0 H
   clear H
   obtain ⟨p7,q7⟩:=iN cQ (a0.size:Int)
   have VH:=wL a0 cQ
   replace p7:=eT p7
   replace q7:=eT q7
   go_wp2_with (first|((with_reducible refine ars (b:=.append) (xs:=#[.tmp 20,.tmp 25]) rfl ?_);at_builtin;refine Kd.asb Kd.string (w0:=w) w.heap.size rfl (.tmp 20) (.tmp 25) 117 9 (.string ⟨#[]⟩) 16 rfl Try.underlying117 VK rfl (by decide) (by omega) u5 bK (a0.extract (fD:Int).toNat (cQ:Int).toNat) [.string (a0.extract (fD:Int).toNat (cQ:Int).toNat)] (fun _=>True) (fun _=>False) rfl rfl ?aP (fun _ hk=>hk.elim) ?aF ?aO ?aB ?aS ?aL ?_;(case aP=>exact rfl);(case aB=>exact bl);(case aF=>exact (fun _ _=>trivial));(case aO=>exact (aR bf.z));(case aS=>exact (aqG bl));(case aL=>have:=Z5.out;omega);intro wj oC ho hb hg bg;rw [← jW.z] at ho;replace HB:=k0 (hb);have fF:=k0 (ho);clear bf;clear ho hb hg bg))
   go_roundg k1
   case measure=>have:=aI.z;omega
   case rel=>exact ⟨(kI),(wrap64 (cQ+1)),(wrap64 (cQ+1)),rs,rs,H',⟨by have:=aI.z;omega⟩,⟨aR (fF.z)⟩,⟨bl⟩⟩
/-! ### F136: function 136 -/
mutual
def fE.j0 : Nat → ByteArray → Bool → Option (Int)
 | 0,_,_=>none
 | k+1,x0,ke=>if ke=true then (some (-1)) else (fE.l0 k x0 0 0)
def fE.l0 : Nat → ByteArray → Int → Int → Option (Int)
 | 0,_,_,_=>none
 | k+1,x0,x3,x4=>if x4 < (x0.size:Int) then (if 0≤x4 then (if (bt x0 x4) < 48 then (some (-1)) else (if (bt x0 x4) > 57 then (some (-1)) else (fE.l0 k x0 (wrap64 ((wrap64 (x3 * 10))+(((bt x0 x4) - 48) % 256))) (wrap64 (x4+1))))) else (none)) else (some x3)
end
def fE.f (k:Nat) (a0:ByteArray):Option (Int):=if (a0.size:Int)=0 then (fE.j0 k a0 true) else (if (a0.size:Int) > 9 then (fE.j0 k a0 true) else (if (a0.size:Int) > 1 then (if 0 < (a0.size:Int) then (fE.j0 k a0 ((bt a0 0) == 48)) else (none)) else (fE.j0 k a0 false)))
theorem fE.calls (k : Nat) (a0 : ByteArray) (r : Int) (w : World) (h : fE.f k a0 = some r) :
  Calls Try.prog 136 #[.string a0] w fun e w'=>e=.returned (.int .i64 r)∧eX w w':=by
 unfold fE.f at h
 have H:=h
 clear h
 have xD:=k0 H
 clear H
 go_enter Try.func136,Try.ntmps136
 go_upto_region 1 with (fail)
 go_cut [22] (fun OL wc=>∃ (kq:Nat) (Jo:Bool),OL=.bool Jo∧ai (fE.j0 kq a0 Jo=some r)∧ai (kq≤k)∧eX w wc)
 case first =>
  have H:=xD.z
  clear xD
  replace H:=iE H;obtain ⟨c3,ia,qb,H⟩|⟨ia,qb,H⟩:=H
  case inl =>
   (first|rw [ia]|(simp only [bJ,ck];rw [ia])|skip)
   by_cases c4:(a0.size:Int) > 9
   case neg =>
    rw [if_neg c4] at H
    have ej:=decide_eq_false c4
    have qc:decide (9 < a0.size)=false:=decide_eq_false (by omega)
    clear c4
    by_cases c5:(a0.size:Int) > 1
    case neg =>
     rw [if_neg c5] at H
     have gD:=decide_eq_false c5
     have arP:decide (1 < a0.size)=false:=decide_eq_false (by omega)
     clear c5
     have H':=k0 H
     clear H
     go_wp2
     go_meet
     case rel=>exact ⟨_,(false),rs,H',⟨oL⟩,dW⟩
    rw [if_pos c5] at H
    have gD:=decide_eq_true c5
    have arP:decide (1 < a0.size)=true:=decide_eq_true (by omega)
    clear c5
    replace H:=iS H;obtain ⟨c6,H⟩:=H
    have fN:=decide_eq_true c6
    have lJ:decide (0 < a0.size)=true:=decide_eq_true (by omega)
    clear c6
    have H':=k0 H
    clear H
    have p7:0≤(0:Int):=(by omega)
    have q7:0 < a0.size:=(by have:(0:Int) < (a0.size:Int):=oD;omega)
    have VH:∀ h:0 < a0.size,((a0[0]'h).toNat:Int)=bt a0 0:=wL a0 0
    clear p7
    have qi7:(0 < (a0.size:Int))=True:=eq_true oD
    replace q7:=eT q7
    go_wp2
    go_meet
    case rel=>exact ⟨_,(((bt a0 0) == 48)),rs,H',⟨oL⟩,dW⟩
   rw [if_pos c4] at H
   have ej:=decide_eq_true c4
   have qc:decide (9 < a0.size)=true:=decide_eq_true (by omega)
   clear c4
   have H':=k0 H
   clear H
   go_wp2
   go_meet
   case rel=>exact ⟨_,(true),rs,H',⟨oL⟩,dW⟩
  (first|rw [ia]|(simp only [bJ,ck];rw [ia])|skip)
  have H':=k0 H
  clear H
  go_wp2
  go_meet
  case rel=>exact ⟨_,(true),rs,H',⟨oL⟩,dW⟩
 case rest =>
  clear xD
  obtain ⟨kq,Jo,rfl,HA,De,⟨mc1,rfl⟩⟩:=hcut
  cases kq with
  | zero=>exact absurd HA.z (by simp [fE.j0])
  | succ FE =>
   have H:=HA.z
   clear HA
   simp only [fE.j0] at H
   cases Jo
   case false =>
    replace H:=iF H
    have H':=k0 H
    clear H
    go_wp2
    go_loopg [3,4] FE (fun kq v3 v4 w'=>∃ (cg:Int) (eW:Int),v3=.int .i64 cg∧v4=.int .i64 eW∧ai (fE.l0 kq a0 cg eW=some r)∧ai (kq≤FE)∧eX w w')
    case atStart=>exact ⟨(0),(0),rs,rs,H',⟨Nat.le_refl _⟩,dW⟩
    case round =>
     clear H'
     obtain ⟨cg,eW,rfl,rfl,HA,aqL,⟨m2,rfl⟩⟩:=hrel
     cases gk with
     | zero=>exact absurd HA.z (by simp [fE.l0])
     | succ k2 =>
      have H:=HA.z
      clear HA
      simp only [fE.l0] at H
      replace H:=iC H;obtain ⟨td,H⟩|⟨td,H⟩:=H
      case inl =>
       obtain rfl:=Option.some.inj H
       go_wp2
       go_ret
       exact ⟨rs,dW⟩
      replace H:=iS H;obtain ⟨c10,H⟩:=H
      have vN:=decide_eq_true c10
      clear c10
      replace H:=iC H;obtain ⟨arN,H⟩|⟨arN,H⟩:=H
      case inl =>
       replace H:=iC H;obtain ⟨mH,H⟩|⟨mH,H⟩:=H
       case inl =>
        have H':=k0 H
        clear H
        obtain ⟨yH,yQ⟩:=iN eW (a0.size:Int)
        have VA:=wL a0 eW
        replace yH:=eT yH
        replace yQ:=eT yQ
        obtain ⟨FQ,FR⟩:=iN eW (a0.size:Int)
        have agb:=wL a0 eW
        replace FQ:=eT FQ
        replace FR:=eT FR
        obtain ⟨CM,CN⟩:=iN eW (a0.size:Int)
        have aoQ:=wL a0 eW
        replace CM:=eT CM
        replace CN:=eT CN
        go_wp2
        go_roundg k2
        case measure=>have:=De.out;have:=aqL.z;omega
        case rel=>exact ⟨(wrap64 ((wrap64 (cg * 10))+(((bt a0 eW) - 48) % 256))),(wrap64 (eW+1)),rs,rs,H',⟨by have:=De.out;have:=aqL.z;omega⟩,dW⟩
       obtain rfl:=Option.some.inj H
       obtain ⟨yH,yQ⟩:=iN eW (a0.size:Int)
       have VA:=wL a0 eW
       replace yH:=eT yH
       replace yQ:=eT yQ
       obtain ⟨FQ,FR⟩:=iN eW (a0.size:Int)
       have agb:=wL a0 eW
       replace FQ:=eT FQ
       replace FR:=eT FR
       go_wp2
       go_ret
       exact ⟨rs,dW⟩
      obtain rfl:=Option.some.inj H
      obtain ⟨yH,yQ⟩:=iN eW (a0.size:Int)
      have VA:=wL a0 eW
      replace yH:=eT yH
      replace yQ:=eT yQ
      go_wp2
      go_ret
      exact ⟨rs,dW⟩
   replace H:=iT H
   obtain rfl:=Option.some.inj H
   go_wp2
   go_ret
   exact ⟨rs,dW⟩
end Go.Proofs.Ytapnggjaeehpdaa.A
/- Set with little white space, by a program. -/
