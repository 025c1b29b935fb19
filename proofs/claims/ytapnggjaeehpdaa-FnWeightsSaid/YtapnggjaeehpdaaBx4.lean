/- Go's calls come to what the Lean functions say. Condition of each: that the Lean function answers. -/
import Derived.Test.YtapnggjaeehpdaaBx0
import Derived.Test.YtapnggjaeehpdaaBx3
namespace Go.Proofs.Ytapnggjaeehpdaa.B
open Go.RowKit Go.Proofs.bz.dI Go.Proofs.bz.iY Go.Proofs.bz.jn
attribute [local go_sem] max2_int min2_int max_two min_two max_three min_three max_four min_four
set_option linter.unusedVariables false
set_option linter.unusedSimpArgs false
set_option maxHeartbeats 8000000
set_option maxRecDepth 100000
/-! ### F68: function 68 -/
mutual
def dR.j0 : Nat → Bool → Int → List (List Int) → Option (Bool)
 | 0,_,_,_=>none
 | k+1,b6,cn,cF=>if b6=true then (some false) else (dR.l0 k 0 cn cF)
def dR.l0 : Nat → Int → Int → List (List Int) → Option (Bool)
 | 0,_,_,_=>none
 | k+1,x3,cn,cF=>if x3 < (cF.length:Int) then (if 0≤x3 then (if ((ai cF x3).length:Int)=2 then (if 0 < ((ai cF x3).length:Int) then ((eY.f (rd (ai cF x3) 0) 0 (wrap64 (cn - 1))).bind fun t106=>(if t106=true then (if 1 < ((ai cF x3).length:Int) then ((eY.f (rd (ai cF x3) 1) 0 (wrap64 (cn - 1))).bind fun t109=>(if t109=true then (dR.l0 k (wrap64 (x3+1)) cn cF) else (some false))) else (none)) else (some false))) else (none)) else (some false)) else (none)) else (some true)
end
def dR.f (k:Nat) (as0:Int) (ak:List (List Int)):Option (Bool):=(eY.f as0 1 8).bind fun t102=>(if t102=true then (dR.j0 k (decide ((ak.length:Int) > 10)) as0 ak) else (dR.j0 k true as0 ak))
theorem dR.calls (k : Nat) (as0 : Int) (bu : Option Addr) (bq : Nat) (ak : List (List Int)) (r : Bool) (w : World) (dy : Kd.C (Kd.slice 2 (Kd.int .i64)) w bu ak.length ak) (ey : ak.length ≤ bq) (h : dR.f k as0 ak = some r) :
  Calls Try.prog 68 #[.agg #[.int .i64 as0,.slice bu ak.length bq]] w fun e w'=>e=.returned (.bool r)∧Below w.heap.size w w':=by
 have gV:=Try.underlying26
 have dJ:=k0 dy
 have iK:=k0 ey
 clear dy ey
 have HB:=k0 (Below.refl w.heap.size w)
 unfold dR.f at h
 have H:=h
 clear h
 have atO:=k0 H
 clear H
 go_enter Try.func68,Try.ntmps68
 go_upto_region 1 with (first|(refine aX (N:=1) rfl ?_;(try (refine at2 (by rfl) ?_;dsimp only));refine dL 1 #[.int .i64 as0,.slice bu ak.length bq] 26 bl ?_;intro ay w3 aa bn HB;have cG:=bn))
 repeat (go_quiet (first|(refine aX (N:=1) rfl ?_;(try (refine at2 (by rfl) ?_;dsimp only));refine dL 1 #[.int .i64 as0,.slice bu ak.length bq] 26 bl ?_;intro ay w3 aa bn HB;have cG:=bn));go_upto_region 1 with (first|(refine aX (N:=1) rfl ?_;(try (refine at2 (by rfl) ?_;dsimp only));refine dL 1 #[.int .i64 as0,.slice bu ak.length bq] 26 bl ?_;intro ay w3 aa bn HB;have cG:=bn)))
 (try simp only [Act.put,zI,zZ,zS])
 go_cut [13] (fun tQ wc=>∃ (kq:Nat) (dV:Bool),tQ=.bool dV∧af (dR.j0 kq dV as0 ak=some r)∧af (kq≤k)∧af (wc.heap[ay]?=some (sO as0 bu ak bq 26))∧af (Below w.heap.size w wc))
 case first =>
  have H:=atO.z
  clear atO
  replace H:=bS H;obtain ⟨t102,A4,H⟩:=H
  cases t102
  case false =>
   replace H:=iF H
   have H':=k0 H
   clear H
   obtain ⟨_,_,_,_⟩:=as9 aa
   go_wp2_with (first|(go_at_call 61;(with_reducible refine (eY.calls as0 1 8 false _ A4.z).mono ?_);rintro e w' ⟨rfl,⟨nd,rfl⟩⟩;(try exact dN)))
   repeat (go_quiet (first|(go_at_call 61;(with_reducible refine (eY.calls as0 1 8 false _ A4.z).mono ?_);rintro e w' ⟨rfl,⟨nd,rfl⟩⟩;(try exact dN)));try go_wp2_with (first|(go_at_call 61;(with_reducible refine (eY.calls as0 1 8 false _ A4.z).mono ?_);rintro e w' ⟨rfl,⟨nd,rfl⟩⟩;(try exact dN))))
   go_meet
   case rel=>exact ⟨_,(true),rs,H',⟨oL⟩,⟨bk⟩,⟨bl⟩⟩
  replace H:=iT H
  have H':=k0 H
  clear H
  obtain ⟨_,_,_,_⟩:=as9 aa
  go_wp2_with (first|(go_at_call 61;(with_reducible refine (eY.calls as0 1 8 true _ A4.z).mono ?_);rintro e w' ⟨rfl,⟨nd,rfl⟩⟩;(try exact dN)))
  repeat (go_quiet (first|(go_at_call 61;(with_reducible refine (eY.calls as0 1 8 true _ A4.z).mono ?_);rintro e w' ⟨rfl,⟨nd,rfl⟩⟩;(try exact dN)));try go_wp2_with (first|(go_at_call 61;(with_reducible refine (eY.calls as0 1 8 true _ A4.z).mono ?_);rintro e w' ⟨rfl,⟨nd,rfl⟩⟩;(try exact dN))))
  go_meet
  case rel=>exact ⟨_,(decide ((ak.length:Int) > 10)),rs,H',⟨oL⟩,⟨bk⟩,⟨bl⟩⟩
 case rest =>
  clear atO
  obtain ⟨kq,dV,rfl,HA,FC,aa,HB⟩:=hcut
  cases kq with
  | zero=>exact absurd HA.z (by simp [dR.j0])
  | succ avM =>
   have H:=HA.z
   clear HA
   simp only [dR.j0] at H
   cases dV
   case false =>
    replace H:=iF H
    have H':=k0 H
    clear H
    go_wp2
    repeat (go_quiet (fail);try go_wp2)
    go_loopg [3] avM (fun kq v3 w'=>∃ (bZ:Int),v3=.int .i64 bZ∧af (dR.l0 kq bZ as0 ak=some r)∧af (kq≤avM)∧af (w'.heap[ay]?=some (sO as0 bu ak bq 26))∧af (Below w.heap.size w w'))
    case atStart=>exact ⟨(0),rs,H',⟨Nat.le_refl _⟩,⟨bk⟩,⟨bl⟩⟩
    case round =>
     clear H'
     obtain ⟨bZ,rfl,HA,bw,aa,HB⟩:=hrel
     cases gk with
     | zero=>exact absurd HA.z (by simp [dR.l0])
     | succ k2 =>
      have H:=HA.z
      clear HA
      simp only [dR.l0] at H
      replace H:=iC H;obtain ⟨au6,H⟩|⟨au6,H⟩:=H
      case inl =>
       obtain rfl:=Option.some.inj H
       obtain ⟨_,_,_,_⟩:=as9 aa
       go_wp2
       repeat (go_quiet (fail);try go_wp2)
       go_ret
       exact ⟨eR,bl⟩
      replace H:=iS H;obtain ⟨c10,H⟩:=H
      have iw:=decide_eq_true c10
      clear c10
      replace H:=iE H;obtain ⟨c11,kW,Am,H⟩|⟨kW,Am,H⟩:=H
      case inl =>
       obtain rfl:=Option.some.inj H
       obtain ⟨_,_,_,_⟩:=as9 aa
       obtain ⟨d_,ec⟩:=iN bZ (ak.length:Int)
       obtain ⟨lB,Bz,Cc,e103,eE,auc,aub⟩:=b8 dJ.z bZ d_ ec
       cases e103
       replace eE:=hbc HB eE
       have uh:=k0 aub
       have BP:=k0 auc
       clear aub auc
       replace d_:=eT d_
       replace ec:=eT ec
       go_wp2
       repeat (go_quiet (fail);try go_wp2)
       go_ret
       exact ⟨eR,bl⟩
      replace H:=iS H;obtain ⟨c12,H⟩:=H
      have pg:=decide_eq_true c12
      have Ek:decide (0 < (ai ak bZ).length)=true:=decide_eq_true (by omega)
      clear c12
      replace H:=bS H;obtain ⟨t106,qZ,H⟩:=H
      cases t106
      case false =>
       replace H:=iF H
       obtain rfl:=Option.some.inj H
       obtain ⟨_,_,_,_⟩:=as9 aa
       obtain ⟨d_,ec⟩:=iN bZ (ak.length:Int)
       obtain ⟨lB,Bz,Cc,e103,eE,auc,aub⟩:=b8 dJ.z bZ d_ ec
       cases e103
       replace eE:=hbc HB eE
       have uh:=k0 aub
       have BP:=k0 auc
       clear aub auc
       replace d_:=eT d_
       replace ec:=eT ec
       obtain ⟨cC,cD⟩:=iN bZ (ak.length:Int)
       obtain ⟨jE,IW,JL,e104,cM,sj,r_⟩:=b8 dJ.z bZ cC cD
       obtain rfl:lB=jE:=(by injection e104)
       replace cM:=hbc HB cM
       have xN:=k0 r_
       have I9:=k0 sj
       clear r_ sj
       replace cC:=eT cC
       replace cD:=eT cD
       have atd:=Option.some.inj (eE.symm.trans cM)
       injection atd with atd atk dM
       subst atd
       subst dM
       clear atk
       have dm:0≤(0:Int):=(by omega)
       have c_:0 < ((ai ak bZ).length:Int):=oD
       obtain ⟨jo,e105,dO⟩:=Kd.bK xN.z 0 dm c_
       cases e105
       have E5:(0 < (ai ak bZ).length)=True:=eq_true (by omega)
       (try rw [show ((0:Int)).toNat=0 from rfl] at dO)
       (try rw [Addr.add_zero'] at dO)
       replace dO:=hbc HB dO
       replace dm:=eT dm
       replace c_:=eT c_
       go_wp2_with (first|(go_at_call 61;(with_reducible refine (eY.calls (rd (ai ak bZ) 0) 0 (wrap64 (as0 - 1)) false _ qZ.z).mono ?_);rintro e w' ⟨rfl,⟨nd,rfl⟩⟩;(try exact dN)))
       repeat (go_quiet (first|(go_at_call 61;(with_reducible refine (eY.calls (rd (ai ak bZ) 0) 0 (wrap64 (as0 - 1)) false _ qZ.z).mono ?_);rintro e w' ⟨rfl,⟨nd,rfl⟩⟩;(try exact dN)));try go_wp2_with (first|(go_at_call 61;(with_reducible refine (eY.calls (rd (ai ak bZ) 0) 0 (wrap64 (as0 - 1)) false _ qZ.z).mono ?_);rintro e w' ⟨rfl,⟨nd,rfl⟩⟩;(try exact dN))))
       go_ret
       exact ⟨eR,bl⟩
      replace H:=iT H
      replace H:=iS H;obtain ⟨c15,H⟩:=H
      have qG:=decide_eq_true c15
      have Em:decide (1 < (ai ak bZ).length)=true:=decide_eq_true (by omega)
      clear c15
      replace H:=bS H;obtain ⟨t109,xF,H⟩:=H
      cases t109
      case false =>
       replace H:=iF H
       obtain rfl:=Option.some.inj H
       obtain ⟨_,_,_,_⟩:=as9 aa
       obtain ⟨d_,ec⟩:=iN bZ (ak.length:Int)
       obtain ⟨lB,Bz,Cc,e103,eE,auc,aub⟩:=b8 dJ.z bZ d_ ec
       cases e103
       replace eE:=hbc HB eE
       have uh:=k0 aub
       have BP:=k0 auc
       clear aub auc
       replace d_:=eT d_
       replace ec:=eT ec
       obtain ⟨cC,cD⟩:=iN bZ (ak.length:Int)
       obtain ⟨jE,IW,JL,e104,cM,sj,r_⟩:=b8 dJ.z bZ cC cD
       obtain rfl:lB=jE:=(by injection e104)
       replace cM:=hbc HB cM
       have xN:=k0 r_
       have I9:=k0 sj
       clear r_ sj
       replace cC:=eT cC
       replace cD:=eT cD
       have atd:=Option.some.inj (eE.symm.trans cM)
       injection atd with atd atk dM
       subst atd
       subst dM
       clear atk
       have dm:0≤(0:Int):=(by omega)
       have c_:0 < ((ai ak bZ).length:Int):=oD
       obtain ⟨jo,e105,dO⟩:=Kd.bK xN.z 0 dm c_
       cases e105
       have E5:(0 < (ai ak bZ).length)=True:=eq_true (by omega)
       (try rw [show ((0:Int)).toNat=0 from rfl] at dO)
       (try rw [Addr.add_zero'] at dO)
       replace dO:=hbc HB dO
       replace dm:=eT dm
       replace c_:=eT c_
       obtain ⟨jv,jw⟩:=iN bZ (ak.length:Int)
       obtain ⟨qA,Fl,Ga,e107,jt,wq,wj⟩:=b8 dJ.z bZ jv jw
       obtain rfl:lB=qA:=(by injection e107)
       replace jt:=hbc HB jt
       have z7:=k0 wj
       have Ja:=k0 wq
       clear wj wq
       replace jv:=eT jv
       replace jw:=eT jw
       have atd:=Option.some.inj (eE.symm.trans jt)
       injection atd with atd atk dM
       subst atd
       subst dM
       clear atk
       have ia:0≤(1:Int):=(by omega)
       have ic:1 < ((ai ak bZ).length:Int):=oD
       obtain ⟨ux,e108,jH⟩:=Kd.bK z7.z 1 ia ic
       cases e108
       (try simp only [show (1:Int).toNat=1 from rfl,Nat.reduceMul,Nat.reduceEqDiff,Go.Addr.add,↓reduceIte] at jH)
       have ajQ:(1 < (ai ak bZ).length)=True:=eq_true (by omega)
       (try rw [show ((1:Int)).toNat=1 from rfl] at jH)
       replace jH:=hbc HB jH
       replace ia:=eT ia
       replace ic:=eT ic
       go_wp2_with (first|(go_at_call 61;(with_reducible refine (eY.calls (rd (ai ak bZ) 0) 0 (wrap64 (as0 - 1)) true _ qZ.z).mono ?_);rintro e w' ⟨rfl,⟨nd,rfl⟩⟩;(try exact dN))|(go_at_call 61;(with_reducible refine (eY.calls (rd (ai ak bZ) 1) 0 (wrap64 (as0 - 1)) false _ xF.z).mono ?_);rintro e w' ⟨rfl,⟨nd,rfl⟩⟩;(try exact dN)))
       repeat (go_quiet (first|(go_at_call 61;(with_reducible refine (eY.calls (rd (ai ak bZ) 0) 0 (wrap64 (as0 - 1)) true _ qZ.z).mono ?_);rintro e w' ⟨rfl,⟨nd,rfl⟩⟩;(try exact dN))|(go_at_call 61;(with_reducible refine (eY.calls (rd (ai ak bZ) 1) 0 (wrap64 (as0 - 1)) false _ xF.z).mono ?_);rintro e w' ⟨rfl,⟨nd,rfl⟩⟩;(try exact dN)));try go_wp2_with (first|(go_at_call 61;(with_reducible refine (eY.calls (rd (ai ak bZ) 0) 0 (wrap64 (as0 - 1)) true _ qZ.z).mono ?_);rintro e w' ⟨rfl,⟨nd,rfl⟩⟩;(try exact dN))|(go_at_call 61;(with_reducible refine (eY.calls (rd (ai ak bZ) 1) 0 (wrap64 (as0 - 1)) false _ xF.z).mono ?_);rintro e w' ⟨rfl,⟨nd,rfl⟩⟩;(try exact dN))))
       go_ret
       exact ⟨eR,bl⟩
      replace H:=iT H
      have H':=k0 H
      clear H
      obtain ⟨_,_,_,_⟩:=as9 aa
      obtain ⟨d_,ec⟩:=iN bZ (ak.length:Int)
      obtain ⟨lB,Bz,Cc,e103,eE,auc,aub⟩:=b8 dJ.z bZ d_ ec
      cases e103
      replace eE:=hbc HB eE
      have uh:=k0 aub
      have BP:=k0 auc
      clear aub auc
      replace d_:=eT d_
      replace ec:=eT ec
      obtain ⟨cC,cD⟩:=iN bZ (ak.length:Int)
      obtain ⟨jE,IW,JL,e104,cM,sj,r_⟩:=b8 dJ.z bZ cC cD
      obtain rfl:lB=jE:=(by injection e104)
      replace cM:=hbc HB cM
      have xN:=k0 r_
      have I9:=k0 sj
      clear r_ sj
      replace cC:=eT cC
      replace cD:=eT cD
      have atd:=Option.some.inj (eE.symm.trans cM)
      injection atd with atd atk dM
      subst atd
      subst dM
      clear atk
      have dm:0≤(0:Int):=(by omega)
      have c_:0 < ((ai ak bZ).length:Int):=oD
      obtain ⟨jo,e105,dO⟩:=Kd.bK xN.z 0 dm c_
      cases e105
      have E5:(0 < (ai ak bZ).length)=True:=eq_true (by omega)
      (try rw [show ((0:Int)).toNat=0 from rfl] at dO)
      (try rw [Addr.add_zero'] at dO)
      replace dO:=hbc HB dO
      replace dm:=eT dm
      replace c_:=eT c_
      obtain ⟨jv,jw⟩:=iN bZ (ak.length:Int)
      obtain ⟨qA,Fl,Ga,e107,jt,wq,wj⟩:=b8 dJ.z bZ jv jw
      obtain rfl:lB=qA:=(by injection e107)
      replace jt:=hbc HB jt
      have z7:=k0 wj
      have Ja:=k0 wq
      clear wj wq
      replace jv:=eT jv
      replace jw:=eT jw
      have atd:=Option.some.inj (eE.symm.trans jt)
      injection atd with atd atk dM
      subst atd
      subst dM
      clear atk
      have ia:0≤(1:Int):=(by omega)
      have ic:1 < ((ai ak bZ).length:Int):=oD
      obtain ⟨ux,e108,jH⟩:=Kd.bK z7.z 1 ia ic
      cases e108
      (try simp only [show (1:Int).toNat=1 from rfl,Nat.reduceMul,Nat.reduceEqDiff,Go.Addr.add,↓reduceIte] at jH)
      have ajQ:(1 < (ai ak bZ).length)=True:=eq_true (by omega)
      (try rw [show ((1:Int)).toNat=1 from rfl] at jH)
      replace jH:=hbc HB jH
      replace ia:=eT ia
      replace ic:=eT ic
      go_wp2_with (first|(go_at_call 61;(with_reducible refine (eY.calls (rd (ai ak bZ) 0) 0 (wrap64 (as0 - 1)) true _ qZ.z).mono ?_);rintro e w' ⟨rfl,⟨nd,rfl⟩⟩;(try exact dN))|(go_at_call 61;(with_reducible refine (eY.calls (rd (ai ak bZ) 1) 0 (wrap64 (as0 - 1)) true _ xF.z).mono ?_);rintro e w' ⟨rfl,⟨nd,rfl⟩⟩;(try exact dN)))
      repeat (go_quiet (first|(go_at_call 61;(with_reducible refine (eY.calls (rd (ai ak bZ) 0) 0 (wrap64 (as0 - 1)) true _ qZ.z).mono ?_);rintro e w' ⟨rfl,⟨nd,rfl⟩⟩;(try exact dN))|(go_at_call 61;(with_reducible refine (eY.calls (rd (ai ak bZ) 1) 0 (wrap64 (as0 - 1)) true _ xF.z).mono ?_);rintro e w' ⟨rfl,⟨nd,rfl⟩⟩;(try exact dN)));try go_wp2_with (first|(go_at_call 61;(with_reducible refine (eY.calls (rd (ai ak bZ) 0) 0 (wrap64 (as0 - 1)) true _ qZ.z).mono ?_);rintro e w' ⟨rfl,⟨nd,rfl⟩⟩;(try exact dN))|(go_at_call 61;(with_reducible refine (eY.calls (rd (ai ak bZ) 1) 0 (wrap64 (as0 - 1)) true _ xF.z).mono ?_);rintro e w' ⟨rfl,⟨nd,rfl⟩⟩;(try exact dN))))
      go_roundg k2
      case measure=>have:=FC.out;have:=bw.z;omega
      case rel=>exact ⟨(wrap64 (bZ+1)),rs,H',⟨by have:=FC.out;have:=bw.z;omega⟩,⟨bk⟩,⟨bl⟩⟩
   replace H:=iT H
   obtain rfl:=Option.some.inj H
   go_wp2
   repeat (go_quiet (fail);try go_wp2)
   go_ret
   exact ⟨eR,bl⟩
/-! ### F135: function 135 -/
def iq.l0 : Nat → ByteArray → Int → List ByteArray → Int → Int → Option (List ByteArray)
 | 0,_,_,_,_,_=>none
 | k+1,x0,x1,x5,x6,x7=>if x7 < (x0.size:Int) then (if 0≤x7 then (if (bt x0 x7)=x1 then (if 0≤x6 then (if x6≤x7 then (if x7≤(x0.size:Int) then (if x5.length < 8796093022208 then (iq.l0 k x0 x1 (x5 ++ [x0.extract (x6:Int).toNat (x7:Int).toNat]) (wrap64 (x7+1)) (wrap64 (x7+1))) else (none)) else (none)) else (none)) else (none)) else (iq.l0 k x0 x1 x5 x6 (wrap64 (x7+1)))) else (none)) else (if 0≤x6 then (if x6≤(x0.size:Int) then (if x5.length < 8796093022208 then (some (x5 ++ [x0.extract (x6:Int).toNat x0.size])) else (none)) else (none)) else (none))
def iq.f (k:Nat) (a0:ByteArray) (a1:Int):Option (List ByteArray):=iq.l0 k a0 a1 (([]:List ByteArray)) 0 0
theorem iq.calls (k : Nat) (a0 : ByteArray) (a1 : Int) (r : List ByteArray) (w : World) (h : iq.f k a0 a1 = some r) :
  Calls Try.prog 135 #[.string a0,.int .u8 a1] w fun e w'=>∃ ati:Value,e=.returned (ati)∧Kd.R Kd.string 9 w' w.heap.size (fun _=>True) ati r∧Below w.heap.size w w':=by
 have HB:=k0 (Below.refl w.heap.size w)
 unfold iq.f at h
 have H:=h
 clear h
 obtain ⟨atN,gH⟩:=nY (([]:List ByteArray):List ByteArray)
 replace H:(iq.l0 k a0 a1 atN 0 0)=some r:=rH gH.z H
 have H':=k0 H
 clear H
 go_enter Try.func135,Try.ntmps135
 go_wp2_with (first|(refine aX (N:=8) rfl ?_;refine Kd.B1 Kd.string _ 9 ?hg (N:=8) ?hd (xs:=([]:List ByteArray)) (inner:=[]) (ok:=fun _=>True) (cm:=fun _=>True) ?hr ?hp (fun _ hk=>hk) trivial (Below.refl _ _) (Nat.le_refl _) (by simp) ?_;(case hd=>rfl);(case hg=>rfl);(case hr=>first|(go_simp;done)|(go_simp;rfl));(case hp=>exact (aJ.none _ _));intro nO w3 fM hb bR atf;clear bR atf;(first|rw [← gH.z] at fM|(simp only [Int.reduceToNat] at fM;rw [← gH.z] at fM));have eV:=k0 (Kd.cg fM (as8 bl));replace HB:=bW hb;clear hb fM))
 go_loopg [5,6,7] k (fun kq v5 v6 v7 w'=>∃ (aD:List ByteArray) (as1:Int) (ef:Int),v6=.int .i64 as1∧v7=.int .i64 ef∧af (iq.l0 kq a0 a1 aD as1 ef=some r)∧af (kq≤k)∧af (Kd.R Kd.string 9 w' w.heap.size (fun _=>True) v5 aD)∧af (Below w.heap.size w w'))
 case atStart=>exact ⟨(atN),(0),(0),rs,rs,H',⟨Nat.le_refl _⟩,⟨aR (eV.z)⟩,⟨bl⟩⟩
 case round =>
  clear H'
  obtain ⟨aD,as1,ef,rfl,rfl,HA,as3,aq,HB⟩:=hrel
  cases gk with
  | zero=>exact absurd HA.z (by simp [iq.l0])
  | succ k1 =>
   have H:=HA.z
   clear HA
   simp only [iq.l0] at H
   replace H:=iC H;obtain ⟨gJ,H⟩|⟨gJ,H⟩:=H
   case inl =>
    replace H:=iS H;obtain ⟨c14,H⟩:=H
    have ov:=eq_true c14
    have El:=decide_eq_true c14
    clear c14
    replace H:=iS H;obtain ⟨c15,H⟩:=H
    have qG:=eq_true c15
    have Em:=decide_eq_true c15
    clear c15
    replace H:=iS H;obtain ⟨c16,H⟩:=H
    have FL:=k0 c16
    clear c16
    obtain ⟨jl,lV⟩:=nY (aD ++ [a0.extract (as1:Int).toNat a0.size]:List ByteArray)
    replace H:(some jl)=some r:=rH lV.z H
    obtain rfl:=Option.some.inj H
    go_wp2_with (first|((with_reducible refine ji (b:=.append) (xs:=#[.tmp 29,.tmp 33]) rfl ?_);at_builtin;refine Kd.oh Kd.string (w0:=w) w.heap.size rfl (.tmp 29) (.tmp 33) 117 9 (.string ⟨#[]⟩) 16 rfl Try.underlying117 Yf rfl (by decide) (by omega) u5 aD (a0.extract (as1:Int).toNat a0.size) [.string (a0.extract (as1:Int).toNat a0.size)] (fun _=>True) (fun _=>False) rfl rfl ?aP (fun _ hk=>hk.elim) ?aF ?aO ?aB ?aS ?aL ?_;(case aP=>exact rfl);(case aB=>exact bl);(case aF=>exact (fun _ _=>trivial));(case aO=>exact (aR aq.z));(case aS=>exact (as8 bl));(case aL=>have:=FL.out;omega);intro xk yq ho hb hg a_;rw [← lV.z] at ho;replace HB:=k0 hb;have fj:=k0 ho;clear aq;clear ho hb hg a_))
    go_ret
    exact ⟨_,eR,aR fj.z,bl⟩
   replace H:=iS H;obtain ⟨c6,H⟩:=H
   have iP:=decide_eq_true c6
   clear c6
   replace H:=iE H;obtain ⟨c8,kX,tj,H⟩|⟨kX,tj,H⟩:=H
   case inl =>
    have H':=k0 H
    clear H
    obtain ⟨p7,q7⟩:=iN ef (a0.size:Int)
    have Ya:=yY a0 ef
    replace p7:=eT p7
    replace q7:=eT q7
    go_wp2
    go_roundg k1
    case measure=>have:=as3.z;omega
    case rel=>exact ⟨(aD),(as1),(wrap64 (ef+1)),rs,rs,H',⟨by have:=as3.z;omega⟩,⟨aR (aq.z)⟩,⟨bl⟩⟩
   replace H:=iS H;obtain ⟨c9,H⟩:=H
   have au6:=eq_true c9
   have Ob:=decide_eq_true c9
   clear c9
   replace H:=iS H;obtain ⟨c10,H⟩:=H
   have iw:=eq_true c10
   have Al:=decide_eq_true c10
   clear c10
   replace H:=iS H;obtain ⟨c11,H⟩:=H
   have kW:=eq_true c11
   have Am:=decide_eq_true c11
   clear c11
   replace H:=iS H;obtain ⟨c12,H⟩:=H
   have Nc:=k0 c12
   clear c12
   obtain ⟨mA,mW⟩:=nY (aD ++ [a0.extract (as1:Int).toNat (ef:Int).toNat]:List ByteArray)
   replace H:(iq.l0 k1 a0 a1 mA (wrap64 (ef+1)) (wrap64 (ef+1)))=some r:=rH mW.z H
   have H':=k0 H
   clear H
   obtain ⟨p7,q7⟩:=iN ef (a0.size:Int)
   have Ya:=yY a0 ef
   replace p7:=eT p7
   replace q7:=eT q7
   go_wp2_with (first|((with_reducible refine ji (b:=.append) (xs:=#[.tmp 20,.tmp 25]) rfl ?_);at_builtin;refine Kd.oh Kd.string (w0:=w) w.heap.size rfl (.tmp 20) (.tmp 25) 117 9 (.string ⟨#[]⟩) 16 rfl Try.underlying117 Yf rfl (by decide) (by omega) u5 aD (a0.extract (as1:Int).toNat (ef:Int).toNat) [.string (a0.extract (as1:Int).toNat (ef:Int).toNat)] (fun _=>True) (fun _=>False) rfl rfl ?aP (fun _ hk=>hk.elim) ?aF ?aO ?aB ?aS ?aL ?_;(case aP=>exact rfl);(case aB=>exact bl);(case aF=>exact (fun _ _=>trivial));(case aO=>exact (aR aq.z));(case aS=>exact (as8 bl));(case aL=>have:=Nc.out;omega);intro qV rK ho hb hg a_;rw [← mW.z] at ho;replace HB:=k0 hb;have dG:=k0 ho;clear aq;clear ho hb hg a_))
   go_roundg k1
   case measure=>have:=as3.z;omega
   case rel=>exact ⟨(mA),(wrap64 (ef+1)),(wrap64 (ef+1)),rs,rs,H',⟨by have:=as3.z;omega⟩,⟨aR (dG.z)⟩,⟨bl⟩⟩
/-! ### F136: function 136 -/
mutual
def gb.j0 : Nat → ByteArray → Bool → Option (Int)
 | 0,_,_=>none
 | k+1,x0,atl=>if atl=true then (some (-1)) else (gb.l0 k x0 0 0)
def gb.l0 : Nat → ByteArray → Int → Int → Option (Int)
 | 0,_,_,_=>none
 | k+1,x0,x3,x4=>if x4 < (x0.size:Int) then (if 0≤x4 then (if (bt x0 x4) < 48 then (some (-1)) else (if (bt x0 x4) > 57 then (some (-1)) else (gb.l0 k x0 (wrap64 ((wrap64 (x3 * 10))+(((bt x0 x4) - 48) % 256))) (wrap64 (x4+1))))) else (none)) else (some x3)
end
def gb.f (k:Nat) (a0:ByteArray):Option (Int):=if (a0.size:Int)=0 then (gb.j0 k a0 true) else (if (a0.size:Int) > 9 then (gb.j0 k a0 true) else (if (a0.size:Int) > 1 then (if 0 < (a0.size:Int) then (gb.j0 k a0 ((bt a0 0) == 48)) else (none)) else (gb.j0 k a0 false)))
theorem gb.calls (k : Nat) (a0 : ByteArray) (r : Int) (w : World) (h : gb.f k a0 = some r) :
  Calls Try.prog 136 #[.string a0] w fun e w'=>e=.returned (.int .i64 r)∧iV w w':=by
 unfold gb.f at h
 have H:=h
 clear h
 have atO:=k0 H
 clear H
 go_enter Try.func136,Try.ntmps136
 go_upto_region 1 with (fail)
 go_cut [22] (fun Ir wc=>∃ (kq:Nat) (rQ:Bool),Ir=.bool rQ∧af (gb.j0 kq a0 rQ=some r)∧af (kq≤k)∧iV w wc)
 case first =>
  have H:=atO.z
  clear atO
  replace H:=iE H;obtain ⟨c3,lC,vU,H⟩|⟨lC,vU,H⟩:=H
  case inl =>
   (first|rw [lC]|(simp only [bp,bH];rw [lC])|skip)
   by_cases c4:(a0.size:Int) > 9
   case neg =>
    rw [if_neg c4] at H
    have gI:=decide_eq_false c4
    have au4:decide (9 < a0.size)=false:=decide_eq_false (by omega)
    clear c4
    by_cases c5:(a0.size:Int) > 1
    case neg =>
     rw [if_neg c5] at H
     have gJ:=decide_eq_false c5
     have rA:decide (1 < a0.size)=false:=decide_eq_false (by omega)
     clear c5
     have H':=k0 H
     clear H
     go_wp2
     go_meet
     case rel=>exact ⟨_,(false),rs,H',⟨oL⟩,dW⟩
    rw [if_pos c5] at H
    have gJ:=decide_eq_true c5
    have rA:decide (1 < a0.size)=true:=decide_eq_true (by omega)
    clear c5
    replace H:=iS H;obtain ⟨c6,H⟩:=H
    have iP:=decide_eq_true c6
    have mY:decide (0 < a0.size)=true:=decide_eq_true (by omega)
    clear c6
    have H':=k0 H
    clear H
    have p7:0≤(0:Int):=(by omega)
    have q7:0 < a0.size:=(by have:(0:Int) < (a0.size:Int):=oD;omega)
    have Ya:∀ h:0 < a0.size,((a0[0]'h).toNat:Int)=bt a0 0:=yY a0 0
    clear p7
    have qi7:(0 < (a0.size:Int))=True:=eq_true oD
    replace q7:=eT q7
    go_wp2
    go_meet
    case rel=>exact ⟨_,(((bt a0 0) == 48)),rs,H',⟨oL⟩,dW⟩
   rw [if_pos c4] at H
   have gI:=decide_eq_true c4
   have au4:decide (9 < a0.size)=true:=decide_eq_true (by omega)
   clear c4
   have H':=k0 H
   clear H
   go_wp2
   go_meet
   case rel=>exact ⟨_,(true),rs,H',⟨oL⟩,dW⟩
  (first|rw [lC]|(simp only [bp,bH];rw [lC])|skip)
  have H':=k0 H
  clear H
  go_wp2
  go_meet
  case rel=>exact ⟨_,(true),rs,H',⟨oL⟩,dW⟩
 case rest =>
  clear atO
  obtain ⟨kq,rQ,rfl,HA,FC,⟨mc1,rfl⟩⟩:=hcut
  cases kq with
  | zero=>exact absurd HA.z (by simp [gb.j0])
  | succ avM =>
   have H:=HA.z
   clear HA
   simp only [gb.j0] at H
   cases rQ
   case false =>
    replace H:=iF H
    have H':=k0 H
    clear H
    go_wp2
    go_loopg [3,4] avM (fun kq v3 v4 w'=>∃ (bZ:Int) (fQ:Int),v3=.int .i64 bZ∧v4=.int .i64 fQ∧af (gb.l0 kq a0 bZ fQ=some r)∧af (kq≤avM)∧iV w w')
    case atStart=>exact ⟨(0),(0),rs,rs,H',⟨Nat.le_refl _⟩,dW⟩
    case round =>
     clear H'
     obtain ⟨bZ,fQ,rfl,rfl,HA,bw,⟨m2,rfl⟩⟩:=hrel
     cases gk with
     | zero=>exact absurd HA.z (by simp [gb.l0])
     | succ k2 =>
      have H:=HA.z
      clear HA
      simp only [gb.l0] at H
      replace H:=iC H;obtain ⟨au6,H⟩|⟨au6,H⟩:=H
      case inl =>
       obtain rfl:=Option.some.inj H
       go_wp2
       go_ret
       exact ⟨rs,dW⟩
      replace H:=iS H;obtain ⟨c10,H⟩:=H
      have iw:=decide_eq_true c10
      clear c10
      replace H:=iC H;obtain ⟨pg,H⟩|⟨pg,H⟩:=H
      case inl =>
       replace H:=iC H;obtain ⟨ov,H⟩|⟨ov,H⟩:=H
       case inl =>
        have H':=k0 H
        clear H
        obtain ⟨avk,Bd⟩:=iN fQ (a0.size:Int)
        have X3:=yY a0 fQ
        replace avk:=eT avk
        replace Bd:=eT Bd
        obtain ⟨zl,zo⟩:=iN fQ (a0.size:Int)
        have ahu:=yY a0 fQ
        replace zl:=eT zl
        replace zo:=eT zo
        obtain ⟨E3,E4⟩:=iN fQ (a0.size:Int)
        have arD:=yY a0 fQ
        replace E3:=eT E3
        replace E4:=eT E4
        go_wp2
        go_roundg k2
        case measure=>have:=FC.out;have:=bw.z;omega
        case rel=>exact ⟨(wrap64 ((wrap64 (bZ * 10))+(((bt a0 fQ) - 48) % 256))),(wrap64 (fQ+1)),rs,rs,H',⟨by have:=FC.out;have:=bw.z;omega⟩,dW⟩
       obtain rfl:=Option.some.inj H
       obtain ⟨avk,Bd⟩:=iN fQ (a0.size:Int)
       have X3:=yY a0 fQ
       replace avk:=eT avk
       replace Bd:=eT Bd
       obtain ⟨zl,zo⟩:=iN fQ (a0.size:Int)
       have ahu:=yY a0 fQ
       replace zl:=eT zl
       replace zo:=eT zo
       go_wp2
       go_ret
       exact ⟨rs,dW⟩
      obtain rfl:=Option.some.inj H
      obtain ⟨avk,Bd⟩:=iN fQ (a0.size:Int)
      have X3:=yY a0 fQ
      replace avk:=eT avk
      replace Bd:=eT Bd
      go_wp2
      go_ret
      exact ⟨rs,dW⟩
   replace H:=iT H
   obtain rfl:=Option.some.inj H
   go_wp2
   go_ret
   exact ⟨rs,dW⟩
end Go.Proofs.Ytapnggjaeehpdaa.B
/- Set with little white space, by a program. -/
