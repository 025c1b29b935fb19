/- The functions that one law reaches, each as a Lean function, and that Go's call comes to what it says. Condition of each: that the Lean function answers (is not none). -/
import Derived.Test.YtoebojnhchocaaaGx0
import Derived.Test.YtoebojnhchocaaaGx7
namespace Go.Proofs.Ytoebojnhchocaaa.G
open Go.RowKit Go.Proofs.cx.fq Go.Proofs.cx.jX Go.Proofs.cx.lu
attribute [local go_sem] max2_int min2_int max_two min_two max_three min_three max_four min_four   -- for this text's walks alone
set_option linter.unusedVariables false
set_option linter.unusedSimpArgs false
set_option maxHeartbeats 8000000
set_option maxRecDepth 100000
/-! ### F114: function 114 -/
mutual
def dD.l0 : Nat → List Int → List Int → List (List Int) → List Int → Int → Int → Option (List Int)
 | 0,_,_,_,_,_,_=>none
 | k+1,x1,x5,x6,kz,mE,oq=>if oq < mE then (if 0≤oq then (if oq < (kz.length:Int) then (if 0≤(wrap64 (oq+1)) then (if (wrap64 (oq+1))≤(x1.length:Int) then (dD.l1 k x1 x5 x6 (rd kz oq) kz mE oq (x1.take ((wrap64 (oq+1)):Int).toNat) ((x1.take ((wrap64 (oq+1)):Int).toNat).length:Int) 0) else (none)) else (none)) else (none)) else (none)) else (some x5)
def dD.l1 : Nat → List Int → List Int → List (List Int) → Int → List Int → Int → Int → List Int → Int → Int → Option (List Int)
 | 0,_,_,_,_,_,_,_,_,_,_=>none
 | k+1,x1,x5,x6,x8,kz,mE,oq,D4,aqe,zj=>if zj < aqe then (if 0≤zj then (if zj < (D4.length:Int) then (if 0≤x8 then (if x8 < (x6.length:Int) then (if 0≤(rd D4 zj) then (if (rd D4 zj) < ((ai x6 x8).length:Int) then (if x5.length < 17592186044416 then (dD.l1 k x1 (x5 ++ [rd (ai x6 x8) (rd D4 zj)]) x6 x8 kz mE oq D4 aqe (wrap64 (zj+1))) else (none)) else (none)) else (none)) else (none)) else (none)) else (none)) else (none)) else (dD.l0 k x1 x5 x6 kz mE (wrap64 (oq+1)))
end
def dD.f (k:Nat) (au:Int) (ah:List (List Int)) (l1:List Int):Option (List Int):=(ee.f k au ah).bind fun t105=>(dD.l0 k l1 (([au]:List Int)) t105 l1 (l1.length:Int) 0)
theorem dD.cC : ∀ k, (∀ y0 y1 y2 y3 y4 y5, ag (dD.l0 k y0 y1 y2 y3 y4 y5) (dD.l0 (k + 1) y0 y1 y2 y3 y4 y5)) ∧ (∀ y0 y1 y2 y3 y4 y5 y6 y7 y8 y9, ag (dD.l1 k y0 y1 y2 y3 y4 y5 y6 y7 y8 y9) (dD.l1 (k + 1) y0 y1 y2 y3 y4 y5 y6 y7 y8 y9))
 | 0=>⟨fun _ _ _ _ _ _ r h=>by simp [dD.l0] at h,fun _ _ _ _ _ _ _ _ _ _ r h=>by simp [dD.l1] at h⟩
 | k+1=>by
  obtain ⟨a_,ih1⟩:=dD.cC k
  refine ⟨?_, ?_⟩ <;> intros <;> (first | unfold dD.l0 | unfold dD.l1) <;> repeat' first
   | (with_reducible first|exact a_ _ _ _ _ _ _|exact ih1 _ _ _ _ _ _ _ _ _ _|exact ee.mono _ _ _|exact ag.refl _|exact ag.none _|refine ag.ite ?_ ?_|refine ag.bind ?_ (fun _=>?_))
   | exact a_ _ _ _ _ _ _|exact ih1 _ _ _ _ _ _ _ _ _ _|exact ee.mono _ _ _|exact ag.none _|refine ag.ite ?_ ?_|refine ag.bind ?_ (fun _=>?_)
theorem dD.mono:∀ a0 a1 a2 k,ag (dD.f k a0 a1 a2) (dD.f (k+1) a0 a1 a2):=by
 intro a0 a1 a2 k
 obtain ⟨a_,ih1⟩:=dD.cC k
 unfold dD.f
 repeat' first
  | (with_reducible first|exact a_ _ _ _ _ _ _|exact ih1 _ _ _ _ _ _ _ _ _ _|exact ee.mono _ _ _|exact ag.refl _|exact ag.none _|refine ag.ite ?_ ?_|refine ag.bind ?_ (fun _=>?_))
  | exact a_ _ _ _ _ _ _|exact ih1 _ _ _ _ _ _ _ _ _ _|exact ee.mono _ _ _|exact ag.none _|refine ag.ite ?_ ?_|refine ag.bind ?_ (fun _=>?_)
def dD.T1:Bool × List (List Nat × List Nat):=(true,[([],[]),([0],[0]),([1],[1]),([],[]),([3],[3]),([2,4,0,1,2],[2]),([4,5,0,1,2,3,4,5],[4])])
def dD.B1:List Nat:=[0,1,3,0,8,31,63]
theorem dD.aeX:fh .any (opsOf Try.f114 1)=dD.T1:=by kernel_rfl
theorem dD.Xj:kN dD.T1.2 dD.B1=true:=by kernel_rfl
theorem dD.calls (k : Nat) (au : Int) (bJ : Option Addr) (bI : Nat) (ah : List (List Int)) (A1 : Option Addr) (c1 : Nat) (l1 : List Int) (r : List Int) (w : World) (eS : Kd.C (Kd.slice 2 (Kd.int .i64)) w bJ ah.length ah) (eY : ah.length ≤ bI) (jK : Kd.C (Kd.int .i64) w A1 l1.length l1) (jJ : l1.length ≤ c1) (h : dD.f k au ah l1 = some r) :
  Calls Try.prog 114 #[.agg #[.int .i64 au,.slice bJ ah.length bI],.slice A1 l1.length c1] w fun e w'=>∃ dw:Value,e=.returned (dw)∧Kd.R (Kd.int .i64) 2 w' w.heap.size (fun _=>True) dw r∧Below w.heap.size w w':=by
 have jS:=Try.underlying31
 have dP:=k0 eS
 have f_:=k0 eY
 clear eS eY
 have iQ:=k0 jK
 have td:=k0 jJ
 clear jK jJ
 have HB:=k0 (Below.refl w.heap.size w)
 have H:((ee.f k au ah).bind fun t105=>(dD.l0 k l1 (([au]:List Int)) t105 l1 (l1.length:Int) 0))=some r:=h
 clear h
 obtain ⟨kA,mV⟩:∃ y_:List Int,y_=(([au]:List Int)):=⟨_,rfl⟩
 replace H:((ee.f k au ah).bind fun t105=>(dD.l0 k l1 kA t105 l1 (l1.length:Int) 0))=some r:=rH mV H
 have aoI:=k0 mV
 clear mV
 replace H:=Option.bind_eq_some_iff.mp H
 obtain ⟨t105,fS,H⟩:=H
 replace H:(dD.l0 k l1 kA t105 l1 (l1.length:Int) 0)=some r:=H
 have A3:=k0 fS
 clear fS
 have H':=k0 H
 clear H
 go_enter Try.func114,Try.ntmps114
 try go_wp2_with (first|((with_reducible refine bN (N:=2) rfl ?_);refine cE 2 #[.int .i64 au,.slice bJ ah.length bI] 31 ?_;intro aW hg w4 aG hb;have aa:=k0 (aG);have cu:=gW hg (anG bl);have anQ:=cu;replace HB:=k0 (anH bl hb);clear hb aG hg))
 replace aa:=k0 (aH aa.z);replace HB:=k0 (anS HB.z)
 refine oO (n:=7) (S:=fun w'=>True) (ds:=[]) (ba 7 0) (by kernel_rfl) rfl rfl trivial (fun hHeld=>?_);refine qt dD.aeX dD.Xj (fun anM eE=>?_)
 generalize w4.drew=w5 at aa HB hHeld ⊢
 refine pu 0 (some 11) (ba 7 1) anM (h:=?_)
 refine acR [1,2,3,4,5,6] (fun WS b a w'=>∃ (iF:Value) (jm:Value) (qp:Value) (qq:Value),a=lW WS b [(1,12,.int .i64 au),(2,13,iF),(3,14,.agg #[.int .i64 au,.slice bJ ah.length bI]),(4,15,jm),(5,5,qp),(6,6,qq)]∧(w'.heap[aW]?=some (sO au bJ ah bI 31))∧(Below w.heap.size w w')∧(b 2=true→Kd.R (Kd.int .i64) 2 w' w.heap.size (fun _=>True) iF kA)∧(b 4=true→Kd.S (Kd.slice 2 (Kd.int .i64)) 28 w' w.heap.size (fun k_=>b 2=true→some k_ ≠ (iF:Value).ownBlock) jm t105)∧(b 5=true→(qp:Value)=iF)∧(b 6=true→(qq:Value)=jm)) anM.out eE.z (by kernel_rfl) (by kernel_rfl) ?_ ?_ ?_
 ·exact ⟨.bool false,.bool false,.bool false,.bool false,by simp only [lW,Bool.false_eq_true,if_false],aa.z,HB.z,fun h_=>absurd h_ (by decide),fun h_=>absurd h_ (by decide),fun h_=>absurd h_ (by decide),fun h_=>absurd h_ (by decide)⟩
 ·skip
  clear aa HB
  refine apC ?_ ?_
  ·rintro b a w' ⟨iF, jm, qp, qq, ha, nw, aoz, oz, aoG, vP, xk⟩ sr pF hoff
   refine ⟨_,rfl,fun K hK=>?_⟩
   have e11:a.tmps[11]?=some (.pointer (some ⟨aW,0,none⟩)):=by rw [ha];exact (DM rfl).trans rfl
   replace ha:=k0 ha
   have aa:=k0 nw
   have HB:=k0 aoz
   have aak:w'.cell? ⟨aW,0,none⟩=some (.int .i64 au):=(eX aa.z 0).trans rfl
   have aal:w'.cell? ⟨aW,1,none⟩=some (.slice bJ ah.length bI):=(eX aa.z 1).trans rfl
   refine ao2 (w1:=w') (v:=.int .i64 au) (by rfl) rfl ?_ ?_
   ·go_simp;(try simp only [dX]);try rfl
   refine hK.out _ _ ⟨iF,jm,qp,qq,(by rw [ha.out];exact apx 0 sr rfl rfl rfl),nw,aoz,fun jg=>absurd ((hoff 2 (by kernel_rfl)).symm.trans jg) (by decide),aoG,fun jg=>absurd ((hoff 5 (by kernel_rfl)).symm.trans jg) (by decide),fun jg=>absurd ((hoff 6 (by kernel_rfl)).symm.trans jg) (by decide)⟩
  refine apC ?_ ?_
  ·rintro b a w' ⟨iF, jm, qp, qq, ha, nw, aoz, oz, aoG, vP, xk⟩ sr pF hoff
   refine ⟨_,rfl,fun K hK=>?_⟩
   have e12:a.tmps[12]?=some (.int .i64 au):=by rw [ha];exact DN (e:=(1,12,.int .i64 au)) 0 rfl rfl (pF 1 (by kernel_rfl)) rfl
   replace ha:=k0 ha
   have aa:=k0 nw
   have HB:=k0 aoz
   refine Kd.N6 (Kd.int .i64) _ 2 ?hg (N:=13) ?hd (xs:=([au]:List Int)) (inner:=[.int .i64 au]) (ok:=fun _=>True) (anX:=fun _=>True) ?hr ?hp (fun _ hk=>hk) trivial (Below.refl _ _) (Nat.le_refl _) (by simp) ?_;(case hd=>rfl);(case hg=>rfl);(case hr=>first|(go_simp;done)|(go_simp;rfl));(case hp=>exact (bu.one (show Kd.M (Kd.int .i64) _ _ _ au [.int .i64 au] from rfl) (bu.none _ _)))
   intro iF w6 mz hb c_ dc
   clear c_ dc
   (first|rw [← aoI.z] at mz|(simp only [Int.reduceToNat] at mz;rw [← aoI.z] at mz))
   have av:=k0 (Kd.cH mz (anG bl))
   have ax:=kB aa hb
   have ay:=k0 (anH bl hb)
   have afy:=fun (jg:b 4=true)=>(show Kd.S (Kd.slice 2 (Kd.int .i64)) 28 w6 w.heap.size (fun k_=>some k_ ≠ (iF:Value).ownBlock) jm t105 from by first|exact Kd.anW (Kd.an6 (by (with_reducible repeat (first|apply Kd.di|apply Kd.dm|apply Kd.cS));exact (aoG jg)) (Kd.aU mz) hb) (fun _ h_=>h_.2)|exact (Kd.an6 (by (with_reducible repeat (first|apply Kd.di|apply Kd.dm|apply Kd.cS));exact (aoG jg)) (Kd.aU mz) hb)|exact Kd.anW (Kd.an6 (by (with_reducible repeat (first|apply Kd.di|apply Kd.dm|apply Kd.cS));exact (aoG jg)) (Kd.aU mz) hb) (fun _ h_=>by first|trivial|exact h_|exact h_.1))
   clear aa
   clear HB
   have eP:=av
   have aa:=ax
   have HB:=ay
   clear av ax ay
   clear hb mz
   refine hK.out _ _ ⟨iF,jm,qp,qq,(by rw [ha.out];exact apx 1 sr rfl rfl rfl),bk,bl,fun _=>(aR eP.z),(fun jg=>Kd.anW (afy jg) (fun _ h_ _=>h_)),fun jg=>absurd ((hoff 5 (by kernel_rfl)).symm.trans jg) (by decide),fun jg=>absurd ((hoff 6 (by kernel_rfl)).symm.trans jg) (by decide)⟩
  refine apC ?_ ?_
  ·rintro b a w' ⟨iF, jm, qp, qq, ha, nw, aoz, oz, aoG, vP, xk⟩ sr pF hoff
   refine ⟨_,rfl,fun K hK=>?_⟩
   have e2:a.tmps[2]?=some (.pointer (some ⟨aW,0,none⟩)):=by rw [ha];exact (DM rfl).trans rfl
   replace ha:=k0 ha
   have aa:=k0 nw
   have HB:=k0 aoz
   have aak:w'.cell? ⟨aW,0,none⟩=some (.int .i64 au):=(eX aa.z 0).trans rfl
   have aal:w'.cell? ⟨aW,1,none⟩=some (.slice bJ ah.length bI):=(eX aa.z 1).trans rfl
   refine ao2 (w1:=w') (v:=.agg #[.int .i64 au,.slice bJ ah.length bI]) (by rfl) rfl ?_ ?_
   ·go_simp;(try simp only [dX]);try rfl
   refine hK.out _ _ ⟨iF,jm,qp,qq,(by rw [ha.out];exact apx 2 sr rfl rfl rfl),nw,aoz,oz,fun jg=>absurd ((hoff 4 (by kernel_rfl)).symm.trans jg) (by decide),fun jg=>absurd ((hoff 5 (by kernel_rfl)).symm.trans jg) (by decide),fun jg=>absurd ((hoff 6 (by kernel_rfl)).symm.trans jg) (by decide)⟩
  refine apC ?_ ?_
  ·rintro b a w' ⟨iF, jm, qp, qq, ha, nw, aoz, oz, aoG, vP, xk⟩ sr pF hoff
   refine ⟨_,rfl,fun K hK=>?_⟩
   have e14:a.tmps[14]?=some (.agg #[.int .i64 au,.slice bJ ah.length bI]):=by rw [ha];exact DN (e:=(3,14,.agg #[.int .i64 au,.slice bJ ah.length bI])) 2 rfl rfl (pF 3 (by kernel_rfl)) rfl
   replace ha:=k0 ha
   have aa:=k0 nw
   have HB:=k0 aoz
   refine uE Try.func153 (by kernel_rfl) rfl #[.agg #[.int .i64 au,.slice bJ ah.length bI]] (by rfl) rfl rfl (by first|(simp only [List.map_toArray,List.map_cons,List.map_nil,Act.eval,Array.getD_eq_getD_getElem?,Option.getD_some,e14];done)|(simp only [List.map_toArray,List.map_cons,List.map_nil,Act.eval,Array.getD_eq_getD_getElem?,Option.getD_some,e14];rfl)) ?_
   with_reducible refine (ee.calls k au _ _ ah t105 _ ?aA ?anD A3.z).mono ?_
   (case aA=>exact aC (Kd.dU dP.z HB.z))
   (case anD=>exact f_.z)
   rintro e w6 ⟨jm,rfl,aq,hb⟩
   refine ⟨_,rfl,?_⟩
   have av:=k0 (Kd.gD aq (anG bl))
   have ax:=kB aa hb
   have ay:=k0 (anH bl hb)
   have afw:Kd.S (Kd.slice 2 (Kd.int .i64)) 28 w6 w.heap.size (fun k_=>b 2=true→some k_ ≠ (iF:Value).ownBlock) jm t105:=by
    by_cases E_:b 2=true
    case neg =>
     exact Kd.anW (Kd.gD aq (anG bl)) (fun _ _ h_=>absurd h_ E_)
    exact Kd.anW (Kd.gD (Kd.jy aq (Kd.bK (oz E_))) (anG bl)) (fun _ h_ _=>h_.2)
   have afx:=fun (jg:b 2=true)=>(show Kd.R (Kd.int .i64) 2 w6 w.heap.size (fun _=>True) iF kA from by first|exact (Kd.dg (by (with_reducible repeat (first|apply Kd.b_|apply Kd.bZ|apply Kd.bP));exact (oz jg)) hb)|exact Kd.aT (Kd.dg (by (with_reducible repeat (first|apply Kd.b_|apply Kd.bZ|apply Kd.bP));exact (oz jg)) hb) (fun _ h_=>by first|trivial|exact h_|exact h_.1))
   clear aa
   clear HB
   have jv:=av
   have aa:=ax
   have HB:=ay
   clear av ax ay
   refine hK.out _ _ ⟨iF,jm,qp,qq,(by rw [ha.out];exact apx 3 sr rfl rfl rfl),bk,bl,afx,fun _=>afw,fun jg=>absurd ((hoff 5 (by kernel_rfl)).symm.trans jg) (by decide),fun jg=>absurd ((hoff 6 (by kernel_rfl)).symm.trans jg) (by decide)⟩
  refine apC ?_ ?_
  ·rintro b a w' ⟨iF, jm, qp, qq, ha, nw, aoz, oz, aoG, vP, xk⟩ sr pF hoff
   refine ⟨_,rfl,fun K hK=>?_⟩
   have e13:a.tmps[13]?=some (iF):=by rw [ha];exact DN (e:=(2,13,iF)) 1 rfl rfl (pF 2 (by kernel_rfl)) rfl
   replace ha:=k0 ha
   have aa:=k0 nw
   have HB:=k0 aoz
   have eP:=k0 (oz (pF 2 (by kernel_rfl)))
   have jv:=k0 (aoG (pF 4 (by kernel_rfl)))
   refine ao2 (w1:=w') (v:=iF) (by rfl) rfl ?_ ?_
   ·go_simp;(try simp only [dX]);try rfl
   refine hK.out _ _ ⟨iF,jm,(iF),qq,(by rw [ha.out];exact apx 4 sr rfl rfl rfl),nw,aoz,oz,aoG,fun _=>rfl,fun jg=>absurd ((hoff 6 (by kernel_rfl)).symm.trans jg) (by decide)⟩
  refine apC ?_ ?_
  ·rintro b a w' ⟨iF, jm, qp, qq, ha, nw, aoz, oz, aoG, vP, xk⟩ sr pF hoff
   refine ⟨_,rfl,fun K hK=>?_⟩
   have e15:a.tmps[15]?=some (jm):=by rw [ha];exact DN (e:=(4,15,jm)) 3 rfl rfl (pF 4 (by kernel_rfl)) rfl
   replace ha:=k0 ha
   have aa:=k0 nw
   have HB:=k0 aoz
   have eP:=k0 (oz (pF 2 (by kernel_rfl)))
   have jv:=k0 (aoG (pF 4 (by kernel_rfl)))
   refine ao2 (w1:=w') (v:=jm) (by rfl) rfl ?_ ?_
   ·go_simp;(try simp only [dX]);try rfl
   refine hK.out _ _ ⟨iF,jm,qp,(jm),(by rw [ha.out];exact apx 5 sr rfl rfl rfl),nw,aoz,oz,aoG,vP,fun _=>rfl⟩
  exact aeV
 rintro b a w9 hall ⟨iF,jm,qp,qq,ha,nw,aoz,oz,aoG,vP,xk⟩
 clear aa HB
 have PM:=hall 1 (by kernel_rfl)
 have Fb:=hall 2 (by kernel_rfl)
 have PN:=hall 3 (by kernel_rfl)
 have Jr:=hall 4 (by kernel_rfl)
 have Js:=hall 5 (by kernel_rfl)
 have Jt:=hall 6 (by kernel_rfl)
 subst ha
 obtain rfl:=(vP Js).symm
 obtain rfl:=(xk Jt).symm
 simp only [lW,PM,Fb,PN,Jr,Js,Jt,if_true,Act.put,zI,zZ,zS]
 have aa:=k0 nw
 clear nw
 have HB:=k0 aoz
 clear aoz
 have eP:=k0 (oz Fb)
 clear oz
 have jv:=k0 (Kd.anW (aoG Jr) (fun _ h_=>h_ Fb))
 clear aoG
 clear hall PM Fb PN Jr Js Jt
 try go_wp2
 go_loopg [5,18] k (fun kq v5 LO w'=>∃ (bR:List Int) (jG:Int),LO=.int .i64 jG∧ak (dD.l0 kq l1 bR t105 l1 (l1.length:Int) jG=some r)∧ak (kq≤k)∧ak (Kd.R (Kd.int .i64) 2 w' w.heap.size (fun _=>True) v5 bR)∧ak (Kd.S (Kd.slice 2 (Kd.int .i64)) 28 w' w.heap.size (fun k_=>some k_ ≠ (v5:Value).ownBlock) jm t105)∧ak (w'.heap[aW]?=some (sO au bJ ah bI 31))∧ak (Below w.heap.size w w'))
 case atStart=>exact ⟨(kA),(0),rs,H',⟨Nat.le_refl _⟩,⟨aR (eP.z)⟩,⟨aS (jv.z)⟩,⟨bk⟩,⟨bl⟩⟩
 case round =>
  clear H'
  obtain ⟨bR,jG,rfl,HA,bH,bY,cG,aa,HB⟩:=hrel
  cases gk with
  | zero=>exact absurd HA.z (by simp [dD.l0])
  | succ k1 =>
   have H:=HA.z
   clear HA
   simp only [dD.l0] at H
   by_cases c10:jG < (l1.length:Int)
   case neg =>
    rw [if_neg c10] at H
    have r9:decide (jG < (l1.length:Int))=false:=decide_eq_false c10
    clear c10
    obtain rfl:=Option.some.inj H
    go_wp2
    go_ret
    exact ⟨_,eR,by (with_reducible repeat (first|apply Kd.b_|apply Kd.bZ|apply Kd.bP));exact bY.z,bl⟩
   rw [if_pos c10] at H
   have r9:=decide_eq_true c10
   clear c10
   replace H:=iS H;obtain ⟨c11,H⟩:=H
   have lS:=decide_eq_true c11
   clear c11
   replace H:=iS H;obtain ⟨c12,H⟩:=H
   have p6:=decide_eq_true c12
   clear c12
   obtain ⟨kI,tI⟩:∃ j_:Int,(wrap64 (jG+1))=j_:=⟨_,rfl⟩
   replace H:(if 0≤(kI) then (if (kI)≤(l1.length:Int) then (dD.l1 k1 l1 bR t105 (rd l1 jG) l1 (l1.length:Int) jG (l1.take ((kI):Int).toNat) ((l1.take ((kI):Int).toNat).length:Int) 0) else (none)) else (none))=some r:=by first|(rw [tI] at H;exact H)|(simp only [tI] at H ⊢;exact H)
   have akK:(IntKind.i64.wrap (jG+1))=kI:=(dX _).trans tI
   replace H:=iS H;obtain ⟨c14,H⟩:=H
   have qC:=eq_true c14
   have B7:=decide_eq_true c14
   clear c14
   replace H:=iS H;obtain ⟨c15,H⟩:=H
   have lD:=eq_true c15
   have xF:=decide_eq_true c15
   clear c15
   have H':=k0 H
   clear H
   have kJ:0≤(jG:Int):=oD
   have kK:jG < (l1.length:Int):=oD
   obtain ⟨uo,e108,ku⟩:=Kd.cm iQ.z jG kJ kK
   cases e108
   replace ku:=hbc HB ku
   replace kJ:=eq_true kJ
   replace kK:=eq_true kK
   obtain ⟨i016,Q0,_,Sa,_⟩:=info_parts aoj
   obtain ⟨ahX,hA16,PI⟩:=Lb (P:=Try.prog) (Value.int .i64) 0 28 2 .i64 Try.underlying28 Q0 Sa (some uo) c1 l1 (kI) oD oD td.z
   have Vz:=k0 (Kd.El (h1:=fun _=>rfl) (hA16 _ (Kd.DR iQ.z)))
   have agk:=k0 PI;have MT:ak (((l1.take ((kI):Int).toNat).length:Int)=max (wrap64 (jG+1)) 0):=⟨by have h1_:=of_decide_eq_true B7;have E_:=of_decide_eq_true xF;rw [List.length_take,tI];omega⟩
   clear hA16 PI Q0 Sa
   go_wp2
   go_loopg [5,28] k1 (fun kq v5 v28 w'=>∃ (gI:List Int) (lN:Int),v28=.int .i64 lN∧ak (dD.l1 kq l1 gI t105 (rd l1 jG) l1 (l1.length:Int) jG (l1.take ((kI):Int).toNat) ((l1.take ((kI):Int).toNat).length:Int) lN=some r)∧ak (kq≤k1)∧ak (Kd.R (Kd.int .i64) 2 w' w.heap.size (fun _=>True) v5 gI)∧ak (Kd.S (Kd.slice 2 (Kd.int .i64)) 28 w' w.heap.size (fun k_=>some k_ ≠ (v5:Value).ownBlock) jm t105)∧ak (w'.heap[aW]?=some (sO au bJ ah bI 31))∧ak (Below w.heap.size w w'))
   case atStart=>exact ⟨(bR),(0),rs,H',⟨Nat.le_refl _⟩,⟨aR (bY.z)⟩,⟨aS (cG.z)⟩,⟨bk⟩,⟨bl⟩⟩
   case round =>
    clear H'
    obtain ⟨gI,lN,rfl,HA,eo,bY,cG,aa,HB⟩:=hrel
    cases gk with
    | zero=>exact absurd HA.z (by simp [dD.l1])
    | succ k2 =>
     have H:=HA.z
     clear HA
     simp only [dD.l1] at H
     by_cases c17:lN < ((l1.take ((kI):Int).toNat).length:Int)
     case neg =>
      rw [if_neg c17] at H
      have uw:decide (lN < ((l1.take ((kI):Int).toNat).length:Int))=false:=decide_eq_false c17;have Iy:decide (lN < max (wrap64 (jG+1)) 0)=false:=(by rw [← MT.out];exact uw);have Ix:decide (lN < max kI 0)=false:=(by have h_:=Iy;rw [tI] at h_;exact h_)
      clear c17
      have H':=k0 H
      clear H
      go_wp2
      first|go_roundg k2|(simp only [← tI];go_roundg k2)
      case measure=>have:=bH.z;have:=eo.z;omega
      case rel=>exact ⟨(gI),(wrap64 (jG+1)),rs,(by first|exact H'|(rw [tI];exact H')),⟨by have:=bH.z;have:=eo.z;omega⟩,⟨aR (bY.z)⟩,⟨aS (cG.z)⟩,⟨bk⟩,⟨bl⟩⟩
     rw [if_pos c17] at H
     have uw:decide (lN < ((l1.take ((kI):Int).toNat).length:Int))=true:=decide_eq_true c17;have Iy:decide (lN < max (wrap64 (jG+1)) 0)=true:=(by rw [← MT.out];exact uw);have Ix:decide (lN < max kI 0)=true:=(by have h_:=Iy;rw [tI] at h_;exact h_)
     clear c17
     replace H:=iS H;obtain ⟨c18,H⟩:=H
     have Af:=decide_eq_true c18
     clear c18
     replace H:=iS H;obtain ⟨c19,H⟩:=H
     have ux:=decide_eq_true c19
     clear c19
     replace H:=iS H;obtain ⟨c20,H⟩:=H
     have XR:=decide_eq_true c20
     clear c20
     replace H:=iS H;obtain ⟨c21,H⟩:=H
     have Ag:=decide_eq_true c21
     clear c21
     replace H:=iS H;obtain ⟨c22,H⟩:=H
     have EV:=decide_eq_true c22
     clear c22
     replace H:=iS H;obtain ⟨c23,H⟩:=H
     have Ah:=decide_eq_true c23
     clear c23
     replace H:=iS H;obtain ⟨c24,H⟩:=H
     have VU:=k0 c24
     clear c24
     obtain ⟨T_,Km⟩:∃ y_:List Int,y_=(gI ++ [rd (ai t105 (rd l1 jG)) (rd (l1.take ((kI):Int).toNat) lN)]):=⟨_,rfl⟩
     replace H:(dD.l1 k2 l1 T_ t105 (rd l1 jG) l1 (l1.length:Int) jG (l1.take ((kI):Int).toNat) ((l1.take ((kI):Int).toNat).length:Int) (wrap64 (lN+1)))=some r:=rH Km H
     have Wd:=k0 Km
     clear Km
     have H':=k0 H
     clear H
     have aoA:0≤(lN:Int):=oD
     have nH:lN < ((l1.take ((kI):Int).toNat).length:Int):=oD
     obtain ⟨mN,e110,uP⟩:=Kd.cm Vz.z lN aoA nH
     obtain rfl:uo=mN:=(by injection e110)
     replace uP:=hbc HB uP
     replace aoA:=eq_true aoA
     replace nH:=eq_true nH;have am1:=eq_true (of_decide_eq_true Ix);have am2:(max kI 0≤lN)=False:=eq_false (by have h_:=of_decide_eq_true Ix;omega)
     obtain ⟨afV,YD,Zq⟩:=Kd.eH cG.z
     subst Zq
     have oL:0≤((rd l1 jG):Int):=oD
     have oM:(rd l1 jG) < (t105.length:Int):=oD
     obtain ⟨Ac,afC,agK,e111,oH,Rk,Q7⟩:=fu (Kd.anY cG.z).2.2 (rd l1 jG) oL oM
     cases e111
     obtain ⟨ahe,aap,aag,P1⟩:=Kd.o4 cG.z [] (rd l1 jG) oL (by first|exact oM|exact oD|(have e_:=(Kd.anY cG.z).1;omega))
     obtain ⟨ann,rfl,Jc⟩:=aag
     have Ds:=P1 0 _ rfl
     rw [Nat.add_zero,show ((Kd.slice 2 (Kd.int .i64))).sz=1 from rfl,Nat.mul_one] at Ds
     replace Ds:=Option.some.inj (Ds.symm.trans oH)
     rw [Ds] at Jc
     have Hl:=k0 (show Kd.R (Kd.int .i64) 2 _ _ _ _ (ai t105 (rd l1 jG)) from Jc)
     clear Ds Jc
     clear P1 aap
     have NF:=k0 Q7
     have agm:=k0 Rk
     clear Q7 Rk
     replace oL:=eq_true oL
     replace oM:=eq_true oM
     have yI:0≤((rd (l1.take ((kI):Int).toNat) lN):Int):=oD
     have yR:(rd (l1.take ((kI):Int).toNat) lN) < ((ai t105 (rd l1 jG)).length:Int):=oD
     obtain ⟨BU,e112,Dw⟩:=Kd.cm (by repeat (first|(with_reducible exact NF.z)|(with_reducible refine Kd.hJ ?_ _)|(with_reducible refine Kd.aoc ?_ _)|(with_reducible refine Kd.gO ?_)|exact NF.z)) (rd (l1.take ((kI):Int).toNat) lN) yI yR
     cases e112
     replace yI:=eq_true yI
     replace yR:=eq_true yR
     go_wp2_with (first|((with_reducible refine aoi (b:=.append) (xs:=#[.tmp 32,.tmp 40]) rfl ?_);at_builtin;refine Kd.qB (Kd.int .i64) (w0:=w) w.heap.size rfl (.tmp 32) (.tmp 40) 28 2 (.int .i64 0) 8 rfl Try.underlying28 aoj rfl (by decide) (by omega) u5 gI (rd (ai t105 (rd l1 jG)) (rd (l1.take ((kI):Int).toNat) lN)) [.int .i64 (rd (ai t105 (rd l1 jG)) (rd (l1.take ((kI):Int).toNat) lN))] (fun _=>True) (fun _=>False) rfl rfl ?aP (fun _ hk=>hk.elim) ?aF ?aO ?aB ?aS ?aL ?_;(case aP=>exact rfl);(case aB=>exact bl);(case aF=>exact (fun _ _=>trivial));(case aO=>exact (aR bY.z));(case aS=>exact (anG bl));(case aL=>have:=VU.out;omega);intro TA zg ho hb hg bz;rw [← Wd.z] at ho;have av:=k0 (Kd.vT (ok:=(fun _=>True)) (by (with_reducible repeat (first|apply Kd.di|apply Kd.dm|apply Kd.cS));exact Kd.anW cG.z (fun _ hk=>⟨trivial,hk⟩)) hg bz);have ax:=k0 (gh (aB aa.z) hg (Kd.iM bY.z aa.z (by decide)));have ay:=k0 (Kd.lz (ok:=(fun k_=>some k_ ≠ (.slice (some Ac) t105.length YD:Value).ownBlock)) (by (with_reducible repeat (first|apply Kd.b_|apply Kd.bZ|apply Kd.bP));exact Kd.aT Hl.z (fun _ hk=>⟨hk.2,hk.1⟩)) hg bz);have anC:=k0 (hb);have aD:=k0 (ho);clear cG;clear aa;clear Hl;clear HB;clear bY;have cG:=av;have aa:=ax;have Hl:=ay;have HB:=anC;have nk:=aD;clear av ax ay anC aD;clear ho hb hg bz))
     first|go_roundg k2|(simp only [← tI];go_roundg k2)
     case measure=>have:=bH.z;have:=eo.z;omega
     case rel=>exact ⟨(T_),(wrap64 (lN+1)),rs,(by first|exact H'|(rw [tI];exact H')),⟨by have:=bH.z;have:=eo.z;omega⟩,⟨aR (nk.z)⟩,⟨aS (Kd.anW cG.z (fun _ hk=>hk.2))⟩,⟨bk⟩,⟨bl⟩⟩
/-! ### F115: function 115 -/
def gP.l0 : Nat → List Int → Int → Int → Option (List Int)
 | 0,_,_,_=>none
 | k+1,x3,x7,x8=>if x8 < x7 then (if x3.length < 17592186044416 then (gP.l0 k (x3 ++ [x8]) x7 (wrap64 (x8+1))) else (none)) else (some x3)
def gP.f (k:Nat) (au:Int) (ah:List (List Int)):Option (List Int):=gP.l0 k (([]:List Int)) au 0
theorem gP.cC : ∀ k, (∀ y0 y1 y2, ag (gP.l0 k y0 y1 y2) (gP.l0 (k + 1) y0 y1 y2))
 | 0=>fun _ _ _ r h=>by simp [gP.l0] at h
 | k+1=>by
  have a_:=gP.cC k
  ·intro y0 y1 y2
   unfold gP.l0
   repeat' first
    | (with_reducible first|exact a_ _ _ _|exact ag.refl _|exact ag.none _|refine ag.ite ?_ ?_|refine ag.bind ?_ (fun _=>?_))
    | exact a_ _ _ _|exact ag.none _|refine ag.ite ?_ ?_|refine ag.bind ?_ (fun _=>?_)
theorem gP.mono:∀ a0 a1 k,ag (gP.f k a0 a1) (gP.f (k+1) a0 a1):=by
 intro a0 a1 k
 have a_:=gP.cC k
 unfold gP.f
 repeat' first
  | (with_reducible first|exact a_ _ _ _|exact ag.refl _|exact ag.none _|refine ag.ite ?_ ?_|refine ag.bind ?_ (fun _=>?_))
  | exact a_ _ _ _|exact ag.none _|refine ag.ite ?_ ?_|refine ag.bind ?_ (fun _=>?_)
theorem gP.calls (k : Nat) (au : Int) (bJ : Option Addr) (bI : Nat) (ah : List (List Int)) (r : List Int) (w : World) (eS : Kd.C (Kd.slice 2 (Kd.int .i64)) w bJ ah.length ah) (eY : ah.length ≤ bI) (h : gP.f k au ah = some r) :
  Calls Try.prog 115 #[.agg #[.int .i64 au,.slice bJ ah.length bI]] w fun e w'=>∃ dw:Value,e=.returned (dw)∧Kd.R (Kd.int .i64) 2 w' w.heap.size (fun _=>True) dw r∧Below w.heap.size w w':=by
 have jS:=Try.underlying31
 have dP:=k0 eS
 have f_:=k0 eY
 clear eS eY
 have HB:=k0 (Below.refl w.heap.size w)
 have H:(gP.l0 k (([]:List Int)) au 0)=some r:=h
 clear h
 obtain ⟨kA,mV⟩:∃ y_:List Int,y_=(([]:List Int)):=⟨_,rfl⟩
 replace H:(gP.l0 k kA au 0)=some r:=rH mV H
 have aoI:=k0 mV
 clear mV
 have H':=k0 H
 clear H
 go_enter Try.func115,Try.ntmps115
 go_wp2_with (first|((with_reducible refine bN (N:=1) rfl ?_);refine cE 1 #[.int .i64 au,.slice bJ ah.length bI] 31 ?_;intro aW hg w2 aG hb;have aa:=k0 (aG);have cu:=gW hg (anG bl);have anQ:=cu;replace HB:=k0 (anH bl hb);clear hb aG hg)|((with_reducible refine bN (N:=5) rfl ?_);refine Kd.jd (Kd.int .i64) _ 2 ?hg (N:=5) ?hd (xs:=([]:List Int)) (inner:=[]) (ok:=fun _=>True) (anX:=fun _=>True) ?hr ?hp (fun _ hk=>hk) trivial (Below.refl _ _) (Nat.le_refl _) (by simp) ?_;(case hd=>rfl);(case hg=>rfl);(case hr=>first|(go_simp;done)|(go_simp;rfl));(case hp=>exact (bu.none _ _));intro iF w3 gG hb c_ dc;clear c_ dc;(first|rw [← aoI.z] at gG|(simp only [Int.reduceToNat] at gG;rw [← aoI.z] at gG));have eP:=k0 (Kd.cH gG (anG bl));replace aa:=kB aa hb;replace HB:=k0 (anH bl hb);clear hb gG;have uG:=aX aa;have uH:=aY aa;have uI:=bF aa 0;have uJ:=bF aa 1))
 go_loopg [3,8] k (fun kq v3 v8 w'=>∃ (anO:List Int) (ct:Int),v8=.int .i64 ct∧ak (gP.l0 kq anO au ct=some r)∧ak (kq≤k)∧ak (Kd.R (Kd.int .i64) 2 w' w.heap.size (fun _=>True) v3 anO)∧ak (w'.heap[aW]?=some (sO au bJ ah bI 31))∧ak (Below w.heap.size w w'))
 case atStart=>exact ⟨(kA),(0),rs,H',⟨Nat.le_refl _⟩,⟨aR (eP.z)⟩,⟨bk⟩,⟨bl⟩⟩
 case round =>
  clear H'
  obtain ⟨anO,ct,rfl,HA,bH,bh,aa,HB⟩:=hrel
  cases gk with
  | zero=>exact absurd HA.z (by simp [gP.l0])
  | succ k1 =>
   have H:=HA.z
   clear HA
   simp only [gP.l0] at H
   by_cases c6:ct < au
   case neg =>
    rw [if_neg c6] at H
    have iD:decide (ct < au)=false:=decide_eq_false c6
    clear c6
    obtain rfl:=Option.some.inj H
    go_wp2
    go_ret
    exact ⟨_,eR,by (with_reducible repeat (first|apply Kd.b_|apply Kd.bZ|apply Kd.bP));exact bh.z,bl⟩
   rw [if_pos c6] at H
   have iD:=decide_eq_true c6
   clear c6
   replace H:=iS H;obtain ⟨c7,H⟩:=H
   have ap1:=k0 c7
   clear c7
   obtain ⟨wV,yh⟩:∃ y_:List Int,y_=(anO ++ [ct]):=⟨_,rfl⟩
   replace H:(gP.l0 k1 wV au (wrap64 (ct+1)))=some r:=rH yh H
   have EE:=k0 yh
   clear yh
   have H':=k0 H
   clear H
   go_wp2_with (first|((with_reducible refine aoi (b:=.append) (xs:=#[.tmp 11,.tmp 13]) rfl ?_);at_builtin;refine Kd.qB (Kd.int .i64) (w0:=w) w.heap.size rfl (.tmp 11) (.tmp 13) 28 2 (.int .i64 0) 8 rfl Try.underlying28 aoj rfl (by decide) (by omega) u3 anO ct [.int .i64 ct] (fun _=>True) (fun _=>False) rfl rfl ?aP (fun _ hk=>hk.elim) ?aF ?aO ?aB ?aS ?aL ?_;(case aP=>exact rfl);(case aB=>exact bl);(case aF=>exact (fun _ _=>trivial));(case aO=>exact (aR bh.z));(case aS=>exact (anG bl));(case aL=>have:=ap1.out;omega);intro jm w8 ho hb hg bz;rw [← EE.z] at ho;have av:=k0 (gh (aB aa.z) hg (Kd.iM bh.z aa.z (by decide)));have ax:=k0 (hb);have ay:=k0 (ho);clear aa;clear HB;clear bh;have aa:=av;have HB:=ax;have jv:=ay;clear av ax ay;clear ho hb hg bz))
   go_roundg k1
   case measure=>have:=bH.z;omega
   case rel=>exact ⟨(wV),(wrap64 (ct+1)),rs,H',⟨by have:=bH.z;omega⟩,⟨aR (jv.z)⟩,⟨bk⟩,⟨bl⟩⟩
/-! ### F234: function 234 -/
def aoy.f (a0:Int):Option (Bool):=some (a0 != a0)
theorem aoy.calls (a0 : Int) (r : Bool) (w : World) (h : aoy.f a0 = some r) :
  Calls Try.prog 234 #[.int .i64 a0] w fun e w'=>e=.returned (.bool r)∧aod w w':=by
 have H:(some (a0 != a0))=some r:=h
 clear h
 obtain rfl:=Option.some.inj H
 go_enter Try.func234,Try.ntmps234
 go_wp2
 go_ret
 exact ⟨rs,dW⟩
/-! ### F199: function 199 -/
def ao9.f (a0:Int) (a1:Int):Option (Int):=(aoy.f a0).bind fun t101=>((aoy.f a1).bind fun t102=>(if t101=true then (if t102=true then (some 0) else (some (-1))) else (if t102=true then (some 1) else (if a0 < a1 then (some (-1)) else (if a0 > a1 then (some 1) else (some 0))))))
theorem ao9.calls (a0 : Int) (a1 : Int) (r : Int) (w : World) (h : ao9.f a0 a1 = some r) :
  Calls Try.prog 199 #[.int .i64 a0,.int .i64 a1] w fun e w'=>e=.returned (.int .i64 r)∧aod w w':=by
 have H:((aoy.f a0).bind fun t101=>((aoy.f a1).bind fun t102=>(if t101=true then (if t102=true then (some 0) else (some (-1))) else (if t102=true then (some 1) else (if a0 < a1 then (some (-1)) else (if a0 > a1 then (some 1) else (some 0)))))))=some r:=h
 clear h
 replace H:=Option.bind_eq_some_iff.mp H
 obtain ⟨t101,fS,H⟩:=H
 replace H:((aoy.f a1).bind fun t102=>(if t101=true then (if t102=true then (some 0) else (some (-1))) else (if t102=true then (some 1) else (if a0 < a1 then (some (-1)) else (if a0 > a1 then (some 1) else (some 0))))))=some r:=H
 have A3:=k0 fS
 clear fS
 replace H:=Option.bind_eq_some_iff.mp H
 obtain ⟨t102,jt,H⟩:=H
 replace H:(if t101=true then (if t102=true then (some 0) else (some (-1))) else (if t102=true then (some 1) else (if a0 < a1 then (some (-1)) else (if a0 > a1 then (some 1) else (some 0)))))=some r:=H
 have A4:=k0 jt
 clear jt
 by_cases c5:t101=true
 case neg =>
  replace c5:=Bool.eq_false_iff.mpr c5
  subst c5
  have H1:(if t102=true then (some 1) else (if a0 < a1 then (some (-1)) else (if a0 > a1 then (some 1) else (some 0))))=some r:=by rw [if_neg (show ¬ (false=true) by decide)] at H;exact H
  clear H
  have H:=H1
  clear H1
  by_cases c7:t102=true
  case neg =>
   replace c7:=Bool.eq_false_iff.mpr c7
   subst c7
   have H1:(if a0 < a1 then (some (-1)) else (if a0 > a1 then (some 1) else (some 0)))=some r:=by rw [if_neg (show ¬ (false=true) by decide)] at H;exact H
   clear H
   have H:=H1
   clear H1
   by_cases c8:a0 < a1
   case neg =>
    rw [if_neg c8] at H
    have p8:decide (a0 < a1)=false:=decide_eq_false c8
    clear c8
    by_cases c9:a0 > a1
    case neg =>
     rw [if_neg c9] at H
     have nY:decide (a1 < a0)=false:=decide_eq_false c9
     clear c9
     obtain rfl:=Option.some.inj H
     go_enter Try.func199,Try.ntmps199
     go_wp2_with (first|((with_reducible refine bS (f:=234) rfl ?_);refine gC (some 8) Try.func234 #[.int .i64 a0] ?_;(with_reducible refine (aoy.calls a0 false _ A3.z).mono ?_);rintro e w' ⟨rfl,⟨nd,rfl⟩⟩;refine ⟨_,rfl,?_⟩)|((with_reducible refine bS (f:=234) rfl ?_);refine gC (some 10) Try.func234 #[.int .i64 a1] ?_;(with_reducible refine (aoy.calls a1 false _ A4.z).mono ?_);rintro e w' ⟨rfl,⟨nd,rfl⟩⟩;refine ⟨_,rfl,?_⟩))
     go_ret
     exact ⟨rs,dW⟩
    rw [if_pos c9] at H
    have nY:=decide_eq_true c9
    clear c9
    obtain rfl:=Option.some.inj H
    go_enter Try.func199,Try.ntmps199
    go_wp2_with (first|((with_reducible refine bS (f:=234) rfl ?_);refine gC (some 8) Try.func234 #[.int .i64 a0] ?_;(with_reducible refine (aoy.calls a0 false _ A3.z).mono ?_);rintro e w' ⟨rfl,⟨nd,rfl⟩⟩;refine ⟨_,rfl,?_⟩)|((with_reducible refine bS (f:=234) rfl ?_);refine gC (some 10) Try.func234 #[.int .i64 a1] ?_;(with_reducible refine (aoy.calls a1 false _ A4.z).mono ?_);rintro e w' ⟨rfl,⟨nd,rfl⟩⟩;refine ⟨_,rfl,?_⟩))
    go_ret
    exact ⟨rs,dW⟩
   rw [if_pos c8] at H
   have p8:=decide_eq_true c8
   clear c8
   obtain rfl:=Option.some.inj H
   go_enter Try.func199,Try.ntmps199
   go_wp2_with (first|((with_reducible refine bS (f:=234) rfl ?_);refine gC (some 8) Try.func234 #[.int .i64 a0] ?_;(with_reducible refine (aoy.calls a0 false _ A3.z).mono ?_);rintro e w' ⟨rfl,⟨nd,rfl⟩⟩;refine ⟨_,rfl,?_⟩)|((with_reducible refine bS (f:=234) rfl ?_);refine gC (some 10) Try.func234 #[.int .i64 a1] ?_;(with_reducible refine (aoy.calls a1 false _ A4.z).mono ?_);rintro e w' ⟨rfl,⟨nd,rfl⟩⟩;refine ⟨_,rfl,?_⟩))
   go_ret
   exact ⟨rs,dW⟩
  subst c7
  have H1:(some 1)=some r:=by rw [if_pos rfl] at H;exact H
  clear H
  have H:=H1
  clear H1
  obtain rfl:=Option.some.inj H
  go_enter Try.func199,Try.ntmps199
  go_wp2_with (first|((with_reducible refine bS (f:=234) rfl ?_);refine gC (some 8) Try.func234 #[.int .i64 a0] ?_;(with_reducible refine (aoy.calls a0 false _ A3.z).mono ?_);rintro e w' ⟨rfl,⟨nd,rfl⟩⟩;refine ⟨_,rfl,?_⟩)|((with_reducible refine bS (f:=234) rfl ?_);refine gC (some 10) Try.func234 #[.int .i64 a1] ?_;(with_reducible refine (aoy.calls a1 true _ A4.z).mono ?_);rintro e w' ⟨rfl,⟨nd,rfl⟩⟩;refine ⟨_,rfl,?_⟩))
  go_ret
  exact ⟨rs,dW⟩
 subst c5
 have H1:(if t102=true then (some 0) else (some (-1)))=some r:=by rw [if_pos rfl] at H;exact H
 clear H
 have H:=H1
 clear H1
 by_cases c6:t102=true
 case neg =>
  replace c6:=Bool.eq_false_iff.mpr c6
  subst c6
  have H1:(some (-1))=some r:=by rw [if_neg (show ¬ (false=true) by decide)] at H;exact H
  clear H
  have H:=H1
  clear H1
  obtain rfl:=Option.some.inj H
  go_enter Try.func199,Try.ntmps199
  go_wp2_with (first|((with_reducible refine bS (f:=234) rfl ?_);refine gC (some 8) Try.func234 #[.int .i64 a0] ?_;(with_reducible refine (aoy.calls a0 true _ A3.z).mono ?_);rintro e w' ⟨rfl,⟨nd,rfl⟩⟩;refine ⟨_,rfl,?_⟩)|((with_reducible refine bS (f:=234) rfl ?_);refine gC (some 10) Try.func234 #[.int .i64 a1] ?_;(with_reducible refine (aoy.calls a1 false _ A4.z).mono ?_);rintro e w' ⟨rfl,⟨nd,rfl⟩⟩;refine ⟨_,rfl,?_⟩))
  go_ret
  exact ⟨rs,dW⟩
 subst c6
 have H1:(some 0)=some r:=by rw [if_pos rfl] at H;exact H
 clear H
 have H:=H1
 clear H1
 obtain rfl:=Option.some.inj H
 go_enter Try.func199,Try.ntmps199
 go_wp2_with (first|((with_reducible refine bS (f:=234) rfl ?_);refine gC (some 8) Try.func234 #[.int .i64 a0] ?_;(with_reducible refine (aoy.calls a0 true _ A3.z).mono ?_);rintro e w' ⟨rfl,⟨nd,rfl⟩⟩;refine ⟨_,rfl,?_⟩)|((with_reducible refine bS (f:=234) rfl ?_);refine gC (some 10) Try.func234 #[.int .i64 a1] ?_;(with_reducible refine (aoy.calls a1 true _ A4.z).mono ?_);rintro e w' ⟨rfl,⟨nd,rfl⟩⟩;refine ⟨_,rfl,?_⟩))
 go_ret
 exact ⟨rs,dW⟩
/-! ### F117: function 117 -/
def ja.l0 : Nat → List Int → List Int → List Int → Int → Int → Option (Int)
 | 0,_,_,_,_,_=>none
 | k+1,x0,x1,x9,fP,gM=>if gM < fP then (if 0≤gM then (if gM < (x9.length:Int) then (if gM ≥ (x1.length:Int) then (some 1) else (if gM < (x1.length:Int) then ((ao9.f (rd x9 gM) (rd x1 gM)).bind fun t103=>(if t103=0 then (ja.l0 k x0 x1 x9 fP (wrap64 (gM+1))) else (some t103))) else (none))) else (none)) else (none)) else (if (x0.length:Int) < (x1.length:Int) then (some (-1)) else (some 0))
def ja.f (k:Nat) (l0:List Int) (l1:List Int):Option (Int):=ja.l0 k l0 l1 l0 (l0.length:Int) 0
theorem ja.cC : ∀ k, (∀ y0 y1 y2 y3 y4, ag (ja.l0 k y0 y1 y2 y3 y4) (ja.l0 (k + 1) y0 y1 y2 y3 y4))
 | 0=>fun _ _ _ _ _ r h=>by simp [ja.l0] at h
 | k+1=>by
  have a_:=ja.cC k
  ·intro y0 y1 y2 y3 y4
   unfold ja.l0
   repeat' first
    | (with_reducible first|exact a_ _ _ _ _ _|exact ag.refl _|exact ag.none _|refine ag.ite ?_ ?_|refine ag.bind ?_ (fun _=>?_))
    | exact a_ _ _ _ _ _|exact ag.none _|refine ag.ite ?_ ?_|refine ag.bind ?_ (fun _=>?_)
theorem ja.mono:∀ a0 a1 k,ag (ja.f k a0 a1) (ja.f (k+1) a0 a1):=by
 intro a0 a1 k
 have a_:=ja.cC k
 unfold ja.f
 repeat' first
  | (with_reducible first|exact a_ _ _ _ _ _|exact ag.refl _|exact ag.none _|refine ag.ite ?_ ?_|refine ag.bind ?_ (fun _=>?_))
  | exact a_ _ _ _ _ _|exact ag.none _|refine ag.ite ?_ ?_|refine ag.bind ?_ (fun _=>?_)
theorem ja.calls (k : Nat) (A0 : Option Addr) (c0 : Nat) (l0 : List Int) (A1 : Option Addr) (c1 : Nat) (l1 : List Int) (r : Int) (w : World) (cL : Kd.C (Kd.int .i64) w A0 l0.length l0) (hc0 : l0.length ≤ c0) (jK : Kd.C (Kd.int .i64) w A1 l1.length l1) (jJ : l1.length ≤ c1) (h : ja.f k l0 l1 = some r) :
  Calls Try.prog 117 #[.slice A0 l0.length c0,.slice A1 l1.length c1] w fun e w'=>e=.returned (.int .i64 r)∧aod w w':=by
 have dh:=k0 cL
 have fI:=k0 hc0
 clear cL hc0
 have iQ:=k0 jK
 have td:=k0 jJ
 clear jK jJ
 have H:(ja.l0 k l0 l1 l0 (l0.length:Int) 0)=some r:=h
 clear h
 have H':=k0 H
 clear H
 go_enter Try.func117,Try.ntmps117
 go_wp2
 go_loopg [11] k (fun kq v11 w'=>∃ (iY:Int),v11=.int .i64 iY∧ak (ja.l0 kq l0 l1 l0 (l0.length:Int) iY=some r)∧ak (kq≤k)∧aod w w')
 case atStart=>exact ⟨(0),rs,H',⟨Nat.le_refl _⟩,dW⟩
 case round =>
  clear H'
  obtain ⟨iY,rfl,HA,bH,⟨m1,rfl⟩⟩:=hrel
  cases gk with
  | zero=>exact absurd HA.z (by simp [ja.l0])
  | succ k1 =>
   have H:=HA.z
   clear HA
   simp only [ja.l0] at H
   by_cases c3:iY < (l0.length:Int)
   case neg =>
    rw [if_neg c3] at H
    have jZ:decide (iY < (l0.length:Int))=false:=decide_eq_false c3
    clear c3
    by_cases c10:(l0.length:Int) < (l1.length:Int)
    case neg =>
     rw [if_neg c10] at H
     have r9:decide ((l0.length:Int) < (l1.length:Int))=false:=decide_eq_false c10
     have apK:decide (l0.length < l1.length)=false:=decide_eq_false (fun h=>c10 (Int.ofNat_lt.mpr h))
     clear c10
     obtain rfl:=Option.some.inj H
     go_wp2
     go_ret
     exact ⟨rs,dW⟩
    rw [if_pos c10] at H
    have r9:=decide_eq_true c10
    have apK:decide (l0.length < l1.length)=true:=decide_eq_true (Int.ofNat_lt.mp c10)
    clear c10
    obtain rfl:=Option.some.inj H
    go_wp2
    go_ret
    exact ⟨rs,dW⟩
   rw [if_pos c3] at H
   have jZ:=decide_eq_true c3
   clear c3
   replace H:=iS H;obtain ⟨c4,H⟩:=H
   have gT:=decide_eq_true c4
   clear c4
   replace H:=iS H;obtain ⟨c5,H⟩:=H
   have aoo:=decide_eq_true c5
   clear c5
   by_cases c6:iY ≥ (l1.length:Int)
   case neg =>
    rw [if_neg c6] at H
    have iD:decide ((l1.length:Int)≤iY)=false:=decide_eq_false c6
    clear c6
    replace H:=iS H;obtain ⟨c7,H⟩:=H
    have o7:=decide_eq_true c7
    clear c7
    replace H:=Option.bind_eq_some_iff.mp H
    obtain ⟨t103,Bl,H⟩:=H
    replace H:(if t103=0 then (ja.l0 k1 l0 l1 l0 (l0.length:Int) (wrap64 (iY+1))) else (some t103))=some r:=H
    have A8:=k0 Bl
    clear Bl
    by_cases c9:t103=0
    case neg =>
     rw [if_neg c9] at H
     have nY:(t103 == 0)=false:=beq_eq_false_iff_ne.mpr c9
     have EY:(t103 != 0)=true:=bne_iff_ne.mpr c9
     obtain rfl:=Option.some.inj H
     have ep:0≤(iY:Int):=oD
     have er:iY < (l0.length:Int):=oD
     obtain ⟨lA,e101,kF⟩:=Kd.cm dh.z iY ep er
     cases e101
     replace ep:=eq_true ep
     replace er:=eq_true er
     have eI:0≤(iY:Int):=oD
     have eK:iY < (l1.length:Int):=oD
     obtain ⟨nV,e102,jD⟩:=Kd.cm iQ.z iY eI eK
     cases e102
     replace eI:=eq_true eI
     replace eK:=eq_true eK
     go_wp2_with (first|((with_reducible refine bS (f:=199) rfl ?_);refine gC (some 26) Try.func199 #[.int .i64 (rd l0 iY),.int .i64 (rd l1 iY)] ?_;(with_reducible refine (ao9.calls (rd l0 iY) (rd l1 iY) t103 _ A8.z).mono ?_);rintro e w' ⟨rfl,⟨nd,rfl⟩⟩;refine ⟨_,rfl,?_⟩))
     go_ret
     exact ⟨rs,dW⟩
    rw [if_pos c9] at H
    have nY:(t103 == 0)=true:=beq_iff_eq.mpr c9
    have EY:(t103 != 0)=false:=bne_eq_false_iff_eq.mpr c9
    clear c9
    have H':=k0 H
    clear H
    have ep:0≤(iY:Int):=oD
    have er:iY < (l0.length:Int):=oD
    obtain ⟨lA,e101,kF⟩:=Kd.cm dh.z iY ep er
    cases e101
    replace ep:=eq_true ep
    replace er:=eq_true er
    have eI:0≤(iY:Int):=oD
    have eK:iY < (l1.length:Int):=oD
    obtain ⟨nV,e102,jD⟩:=Kd.cm iQ.z iY eI eK
    cases e102
    replace eI:=eq_true eI
    replace eK:=eq_true eK
    go_wp2_with (first|((with_reducible refine bS (f:=199) rfl ?_);refine gC (some 26) Try.func199 #[.int .i64 (rd l0 iY),.int .i64 (rd l1 iY)] ?_;(with_reducible refine (ao9.calls (rd l0 iY) (rd l1 iY) t103 _ A8.z).mono ?_);rintro e w' ⟨rfl,⟨nd,rfl⟩⟩;refine ⟨_,rfl,?_⟩))
    go_roundg k1
    case measure=>have:=bH.z;omega
    case rel=>exact ⟨(wrap64 (iY+1)),rs,H',⟨by have:=bH.z;omega⟩,dW⟩
   rw [if_pos c6] at H
   have iD:=decide_eq_true c6
   clear c6
   obtain rfl:=Option.some.inj H
   have ep:0≤(iY:Int):=oD
   have er:iY < (l0.length:Int):=oD
   obtain ⟨lA,e101,kF⟩:=Kd.cm dh.z iY ep er
   cases e101
   replace ep:=eq_true ep
   replace er:=eq_true er
   go_wp2
   go_ret
   exact ⟨rs,dW⟩
end Go.Proofs.Ytoebojnhchocaaa.G
/- Set with little white space, by a program. -/
