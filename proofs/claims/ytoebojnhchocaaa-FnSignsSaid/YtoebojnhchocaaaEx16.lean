/- The functions that one law reaches, each as a Lean function, and that Go's call comes to what it says. Condition of each: that the Lean function answers (is not none). -/
import Derived.Test.YtoebojnhchocaaaEx0
import Derived.Test.YtoebojnhchocaaaEx8
import Derived.Test.YtoebojnhchocaaaEx12
import Derived.Test.YtoebojnhchocaaaEx13
import Derived.Test.YtoebojnhchocaaaEx15
namespace Go.Proofs.Ytoebojnhchocaaa.E
open Go.RowKit Go.Proofs.bY.apf Go.Proofs.bY.ko Go.Proofs.bY.kN
attribute [local go_sem] max2_int min2_int max_two min_two max_three min_three max_four min_four   -- for this text's walks alone
set_option linter.unusedVariables false
set_option linter.unusedSimpArgs false
set_option maxHeartbeats 8000000
set_option maxRecDepth 100000
/-! ### F133: function 133 -/
mutual
def ia.l0 : Nat → List Int → List (List Int) → Int → Int → Option ((List (List Int)))
 | 0,_,_,_,_=>none
 | k+1,x1,x5,oz,jP=>if jP < oz then (if 0≤jP then (if jP < (x5.length:Int) then (ia.l1 k x1 x5 oz jP ((av x5 jP).length:Int) 0) else (none)) else (none)) else (some x5)
def ia.l1 : Nat → List Int → List (List Int) → Int → Int → Int → Int → Option ((List (List Int)))
 | 0,_,_,_,_,_,_=>none
 | k+1,x1,x5,oz,jP,k9,qt=>if qt < k9 then (if 0≤qt then (if qt < ((av x5 jP).length:Int) then (if 0≤(wrap64 (Int.tdiv qt 2)) then (if (wrap64 (Int.tdiv qt 2)) < (x1.length:Int) then (ia.l1 k x1 (x5.set (jP:Int).toNat ((av x5 jP).set (qt:Int).toNat (wrap64 ((rd (av x5 jP) qt) * (rd x1 (wrap64 (Int.tdiv qt 2))))))) oz jP k9 (wrap64 (qt+1))) else (none)) else (none)) else (none)) else (none)) else (ia.l0 k x1 x5 oz (wrap64 (jP+1)))
end
def ia.f (k:Nat) (ah:Int) (af:List (List Int)) (l1:List Int):Option ((List (List Int))):=(gZ.f k ah af).bind fun t102=>(ia.l0 k l1 t102 (t102.length:Int) 0)
def ia.T8:Bool × List (List Nat × List Nat):=(true,[([],[]),([],[]),([0,1],[0,1]),([2],[2]),([],[]),([],[]),([5],[5]),([4,6],[4,6]),([7],[7]),([3,8],[3,8]),([0,1,0,1,2,3,4,5,6,7,8,9],[0,1]),([10,9,0,1,2,3,4,5,6,7,8,9],[9,10])])
def ia.B8:List Nat:=[0,0,3,7,0,0,32,112,240,511,1023,2047]
theorem ia.Nf:iP .any (opsOf Try.f133 8)=ia.T8:=by kernel_rfl
theorem ia.JQ:nA ia.T8.2 ia.B8=true:=by kernel_rfl
theorem ia.calls (k : Nat) (ah : Int) (aT : Option Addr) (aoW : Nat) (af : List (List Int)) (A1 : Option Addr) (c1 : Nat) (l1 : List Int) (r : List (List Int)) (w : World) (cR : Kd.C (Kd.slice 2 (Kd.int .i64)) w aT af.length af) (cX : af.length ≤ aoW) (fY : Kd.C (Kd.int .i64) w A1 l1.length l1) (gi : l1.length ≤ c1) (h : ia.f k ah af l1 = some r) :
  Calls Try.prog 133 #[.agg #[.int .i64 ah,.slice aT af.length aoW],.slice A1 l1.length c1] w fun e w'=>∃ eE:Value,e=.returned (eE)∧Kd.S (Kd.slice 2 (Kd.int .i64)) 28 w' w.heap.size (fun _=>True) eE r∧Below w.heap.size w w':=by
 have iX:=Try.underlying31
 have ao6:=k0 cR
 have cV:=k0 cX
 clear cR cX
 have gq:=k0 fY
 have lD:=k0 gi
 clear fY gi
 have HB:=k0 (Below.refl w.heap.size w)
 have H:((gZ.f k ah af).bind fun t102=>(ia.l0 k l1 t102 (t102.length:Int) 0))=some r:=h
 clear h
 replace H:=Option.bind_eq_some_iff.mp H
 obtain ⟨t102,fJ,H⟩:=H
 replace H:(ia.l0 k l1 t102 (t102.length:Int) 0)=some r:=H
 have A3:=k0 fJ
 clear fJ
 have H':=k0 H
 clear H
 go_enter Try.func133,Try.ntmps133
 go_wp2_with (first|((with_reducible refine bp (N:=2) rfl ?_);refine bR 2 #[.int .i64 ah,.slice aT af.length aoW] 31 ?_;intro aoV hg w4 aE hb;have aa:=k0 (aE);have bB:=gW hg (aoS bl);have aX:=bB;replace HB:=k0 (aH bl hb);clear hb aE hg;have GJ:=aQ aa;have GK:=aoT aa;have GV:=bF aa 0;have GW:=bF aa 1)|((with_reducible refine bg (f:=170) rfl ?_);refine gC (some 10) Try.func170 #[.agg #[.int .i64 ah,.slice aT af.length aoW]] ?_;(with_reducible refine (gZ.calls k ah _ _ af t102 _ ?aoN ?aoP A3.z).mono ?_);(case aoN=>exact aC (Kd.ao4 ao6.z HB.z));(case aoP=>exact cV.z);rintro e w6 ⟨CK,rfl,aD,hb⟩;refine ⟨_,rfl,?_⟩;have hJ:=k0 (Kd.ig aD (aoS bl));replace aa:=kB aa hb;replace HB:=k0 (aH bl hb);obtain ⟨IW,DZ,Kb⟩:=Kd.apc hJ.z;subst Kb))
 go_loopg [13] k (fun kq xC w'=>∃ (aY:List (List Int)) (c_:Int),xC=.int .i64 c_∧aj (ia.l0 kq l1 aY (t102.length:Int) c_=some r)∧aj (kq≤k)∧aj (Kd.S (Kd.slice 2 (Kd.int .i64)) 28 w' w.heap.size (fun _=>True) (.slice IW t102.length DZ) aY)∧aj (w'.heap[aoV]?=some (sO ah aT af aoW 31))∧aj (Below w.heap.size w w'))
 case atStart=>exact ⟨(t102),(0),rs,H',⟨Nat.le_refl _⟩,⟨aS (hJ.z)⟩,⟨bk⟩,⟨bl⟩⟩
 case round =>
  clear H'
  obtain ⟨aY,c_,rfl,HA,bx,aoX,aa,HB⟩:=hrel
  have pP:=(Kd.cQ aoX.z).1
  rw [pP] at aoX
  (try simp only [pP])
  (try simp only [pP] at aa)
  cases gk with
  | zero=>exact absurd HA.z (by simp [ia.l0])
  | succ k1 =>
   have H:=HA.z
   clear HA
   simp only [ia.l0] at H
   by_cases c8:c_ < (t102.length:Int)
   case neg =>
    rw [if_neg c8] at H
    have kH:decide (c_ < (t102.length:Int))=false:=decide_eq_false c8
    (try simp only [pP] at kH)
    clear c8
    obtain rfl:=Option.some.inj H
    go_wp2
    go_ret
    exact ⟨_,eR,by (with_reducible repeat (first|apply Kd.cM|apply Kd.cI|apply Kd.cr));exact aoX.z,bl⟩
   rw [if_pos c8] at H
   have kH:=decide_eq_true c8
   (try simp only [pP] at kH)
   clear c8
   replace H:=iS H;obtain ⟨c9,H⟩:=H
   have ap8:=decide_eq_true c9
   clear c9
   replace H:=iS H;obtain ⟨c10,H⟩:=H
   have qI:=decide_eq_true c10
   (try simp only [pP] at qI)
   clear c10
   have H':=k0 H
   clear H
   have gD:0≤(c_:Int):=oD
   have gl:c_ < (aY.length:Int):=oD
   obtain ⟨lg,UE,XA,e105,gj,RT,RL⟩:=fW (Kd.cQ aoX.z).2.2 c_ gD gl
   cases e105
   obtain ⟨ahm,aae,Z5,QV⟩:=Kd.vS aoX.z [] c_ gD (by first|exact gl|exact oD|(have e_:=(Kd.cQ aoX.z).1;omega))
   obtain ⟨aol,rfl,Kj⟩:=Z5
   have EW:=QV 0 _ rfl
   rw [Nat.add_zero,show ((Kd.slice 2 (Kd.int .i64))).sz=1 from rfl,Nat.mul_one] at EW
   replace EW:=Option.some.inj (EW.symm.trans gj)
   rw [EW] at Kj
   have agJ:=k0 (show Kd.R (Kd.int .i64) 2 _ _ _ _ (av aY c_) from Kj)
   clear EW Kj
   have OA:=k0 gj
   clear QV aae
   have agP:=k0 RL
   have agA:=k0 RT
   clear RL RT
   replace gD:=eq_true gD
   replace gl:=eq_true gl
   go_wp2
   generalize RH:(.slice UE (av aY c_).length XA:Value)=afO
   have FP:=k0 RH
   clear RH
   go_loopg [19] k1 (fun kq wE w'=>∃ (ke:List (List Int)) (lR:Int),wE=.int .i64 lR∧aj (ia.l1 kq l1 ke (t102.length:Int) c_ ((av aY c_).length:Int) lR=some r)∧aj (kq≤k1)∧aj (pz w' (.slice (some lg) aY.length DZ) c_ afO)∧aj (Kd.S (Kd.slice 2 (Kd.int .i64)) 28 w' w.heap.size (fun _=>True) (.slice (some lg) aY.length DZ) ke)∧aj (w'.heap[aoV]?=some (sO ah aT af aoW 31))∧aj (Below w.heap.size w w'))
   case atStart=>exact ⟨(aY),(0),rs,H',⟨Nat.le_refl _⟩,⟨by (with_reducible repeat (first|apply pz.alloc|apply pz.drewN|apply pz.drew));first|exact ⟨_,_,_,rfl,(by first|exact of_eq_true gD|exact s_ apH.out|omega),(by first|exact of_eq_true gl|exact nK apH.out|(have h_:=of_eq_true gl;omega)|(have h_:=nK apH.out;omega)),OA.z⟩|(rw [← FP.out];exact ⟨_,_,_,rfl,(by first|exact of_eq_true gD|exact s_ apH.out|omega),(by first|exact of_eq_true gl|exact nK apH.out|(have h_:=of_eq_true gl;omega)|(have h_:=nK apH.out;omega)),OA.z⟩)⟩,⟨by (try simp only [pP]);(with_reducible repeat (first|apply Kd.cM|apply Kd.cI|apply Kd.cr));exact aoX.z⟩,⟨by (try simp only [pP]);exact bk⟩,⟨bl⟩⟩
   case round =>
    clear H'
    obtain ⟨ke,lR,rfl,HA,cD,apH,aoX,aa,HB⟩:=hrel
    have sk:=(Kd.cQ aoX.z).1
    rw [sk] at aoX
    (try simp only [sk])
    (try simp only [sk] at aa)
    cases gk with
    | zero=>exact absurd HA.z (by simp [ia.l1])
    | succ k2 =>
     have H:=HA.z
     clear HA
     simp only [ia.l1] at H
     by_cases c11:lR < ((av aY c_).length:Int)
     case neg =>
      rw [if_neg c11] at H
      have ku:decide (lR < ((av aY c_).length:Int))=false:=decide_eq_false c11
      (try simp only [pP,sk] at ku)
      clear c11
      have H':=k0 H
      clear H
      have ac5:decide (0≤c_)=true:=decide_eq_true (s_ apH.out)
      have ac7:decide (c_ < (ke.length:Int))=true:=decide_eq_true (by have h_:=nK apH.out;have e_:=(Kd.cQ aoX.z).1;omega)
      have apk:0≤(c_:Int):=oD
      have gL:c_ < (ke.length:Int):=oD
      obtain ⟨pH,Ny,Pv,e106,gV,yK,yH⟩:=fW (Kd.cQ aoX.z).2.2 c_ apk gL
      obtain rfl:lg=pH:=(by injection e106)
      obtain ⟨Yc,KD,Kv,En⟩:=Kd.vS aoX.z [] c_ apk (by first|exact gL|exact oD|(have e_:=(Kd.cQ aoX.z).1;omega))
      obtain ⟨afK,rfl,z_⟩:=Kv
      have uM:=En 0 _ rfl
      rw [Nat.add_zero,show ((Kd.slice 2 (Kd.int .i64))).sz=1 from rfl,Nat.mul_one] at uM
      replace uM:=Option.some.inj (uM.symm.trans gV)
      rw [uM] at z_
      have zv:=k0 (show Kd.R (Kd.int .i64) 2 _ _ _ _ (av ke c_) from z_)
      clear uM z_
      have x_:=k0 gV
      clear En KD
      have aqx:=k0 yH
      have Oe:=k0 yK
      clear yH yK
      replace apk:=eq_true apk
      replace gL:=eq_true gL
      obtain rfl:=GL apH.out x_.z
      go_wp2
      (try simp only [← pP,← sk])
      first|go_roundg k2|(simp only [← Ad];go_roundg k2)|((try (have e_:=FP.out;injection e_ with zU J8 zV;subst zU zV));go_roundg k2)
      case measure=>have:=bx.z;have:=cD.z;omega
      case rel=>exact ⟨(ke),(wrap64 (c_+1)),rs,(by first|exact H'|(rw [Ad];exact H')),⟨by have:=bx.z;have:=cD.z;omega⟩,⟨by (try simp only [pP]);(try simp only [sk]);(with_reducible repeat (first|apply Kd.cM|apply Kd.cI|apply Kd.cr));exact aoX.z⟩,⟨by (try simp only [pP]);(try simp only [sk]);exact bk⟩,⟨bl⟩⟩
     rw [if_pos c11] at H
     have ku:=decide_eq_true c11
     (try simp only [pP,sk] at ku)
     clear c11
     replace H:=iS H;obtain ⟨c12,H⟩:=H
     have qJ:=decide_eq_true c12
     clear c12
     replace H:=iS H;obtain ⟨c13,H⟩:=H
     have ru:=decide_eq_true c13
     (try simp only [pP,sk] at ru)
     clear c13
     obtain ⟨uT,Ad⟩:∃ j_:Int,(wrap64 (Int.tdiv lR 2))=j_:=⟨_,rfl⟩
     replace H:(if 0≤(uT) then (if (uT) < (l1.length:Int) then (ia.l1 k2 l1 (ke.set (c_:Int).toNat ((av ke c_).set (lR:Int).toNat (wrap64 ((rd (av ke c_) lR) * (rd l1 (uT)))))) (t102.length:Int) c_ ((av aY c_).length:Int) (wrap64 (lR+1))) else (none)) else (none))=some r:=by first|(rw [Ad] at H;exact H)|(simp only [Ad] at H ⊢;exact H)
     have al6:(IntKind.i64.wrap (Int.tdiv lR 2))=uT:=(cm _).trans Ad
     replace H:=iS H;obtain ⟨c15,H⟩:=H
     have oN:=decide_eq_true c15
     clear c15
     replace H:=iS H;obtain ⟨c16,H⟩:=H
     have qK:=decide_eq_true c16
     (try simp only [pP,sk] at qK)
     clear c16
     obtain ⟨mW,om⟩:∃ y_:List Int,y_=((av ke c_).set (lR:Int).toNat (wrap64 ((rd (av ke c_) lR) * (rd l1 (uT))))):=⟨_,rfl⟩
     replace H:(ia.l1 k2 l1 (ke.set (c_:Int).toNat mW) (t102.length:Int) c_ ((av aY c_).length:Int) (wrap64 (lR+1)))=some r:=rH om H
     have sZ:=k0 om
     clear om
     obtain ⟨qu,oo⟩:∃ y_:List (List Int),y_=(ke.set (c_:Int).toNat mW):=⟨_,rfl⟩
     replace H:(ia.l1 k2 l1 qu (t102.length:Int) c_ ((av aY c_).length:Int) (wrap64 (lR+1)))=some r:=rH oo H
     have vO:=k0 oo
     clear oo
     have H':=k0 H
     clear H
     have ac5:decide (0≤c_)=true:=decide_eq_true (s_ apH.out)
     have ac7:decide (c_ < (ke.length:Int))=true:=decide_eq_true (by have h_:=nK apH.out;have e_:=(Kd.cQ aoX.z).1;omega)
     have apk:0≤(c_:Int):=oD
     have gL:c_ < (ke.length:Int):=oD
     obtain ⟨pH,Ny,Pv,e106,gV,yK,yH⟩:=fW (Kd.cQ aoX.z).2.2 c_ apk gL
     obtain rfl:lg=pH:=(by injection e106)
     obtain ⟨Yc,KD,Kv,En⟩:=Kd.vS aoX.z [] c_ apk (by first|exact gL|exact oD|(have e_:=(Kd.cQ aoX.z).1;omega))
     obtain ⟨afK,rfl,z_⟩:=Kv
     have uM:=En 0 _ rfl
     rw [Nat.add_zero,show ((Kd.slice 2 (Kd.int .i64))).sz=1 from rfl,Nat.mul_one] at uM
     replace uM:=Option.some.inj (uM.symm.trans gV)
     rw [uM] at z_
     have zv:=k0 (show Kd.R (Kd.int .i64) 2 _ _ _ _ (av ke c_) from z_)
     clear uM z_
     have x_:=k0 gV
     clear En KD
     have aqx:=k0 yH
     have Oe:=k0 yK
     clear yH yK
     replace apk:=eq_true apk
     replace gL:=eq_true gL
     obtain rfl:=GL apH.out x_.z
     try go_wp2
     replace aoX:=k0 (Kd.cr aoX.z);replace zv:=k0 (Kd.cB zv.z);replace aa:=k0 (aJ aa.z);replace aqx:=k0 (Kd.vG aqx.z);replace x_:=k0 ((show (wr.drew).cell? _=some _ from x_.z));replace HB:=k0 (aZ HB.z)
     have ji:0≤(lR:Int):=oD
     have jk:lR < ((av ke c_).length:Int):=oD
     obtain ⟨ni,e107,iN⟩:=Kd.cN (by repeat (first|(with_reducible exact aqx.z)|(with_reducible refine Kd.wL ?_ _)|(with_reducible refine Kd.zh ?_ _)|(with_reducible refine Kd.vG ?_)|exact aqx.z)) lR ji jk
     cases e107
     replace ji:=eq_true ji
     replace jk:=eq_true jk
     have iw:0≤((uT):Int):=oD
     have iy:(uT) < (l1.length:Int):=oD
     obtain ⟨qG,e108,ij⟩:=Kd.cN gq.z (uT) iw iy
     have sw:=ij
     cases e108
     replace ij:=hbc HB ij
     replace iw:=eq_true iw
     replace iy:=eq_true iy
     have MA:0≤(lR:Int):=oD
     have MV:(lR:Int) < (((av ke c_).length:Int):Int):=oD
     obtain ⟨ZY,aqB,BM,QD,ZR,ahv,Of⟩:=Kd.aql zv.z (by omega)
     (first|cases BM|(injection BM with er apw apv;(first|subst er|(injection er with er;subst er));subst apv;clear apw))
     (first|simp only [add_plain] at iN|skip)
     have agl:=k0 QD
     have Vy:=k0 Of
     clear QD ZR Of
     (first|simp only [add_plain] at iN|skip)
     obtain ⟨ac2,aa7⟩:=Kd.vR 0 zv.z (lR:Int) MA MV
     replace MA:=eq_true MA
     replace MV:=eq_true MV
     have acQ:(c_:Int) < (ke.length:Int):=(by have h_:(c_:Int) < ((ke.length:Int):Int):=oD;first|exact h_|(have e_:=(Kd.cQ aoX.z).1;omega)|simpa only [List.length_set,List.length_set] using h_)
     obtain ⟨an9,ahs,aak,Z2,Q1,Sq,QS⟩:=Kd.DF aoX.z [] (c_:Int) oD (by first|exact acQ|(have e_:=(Kd.cQ aoX.z).1;omega))
     obtain ⟨aor,rfl,Ee⟩:=Z2
     have Hq:=Q1 0 _ rfl
     rw [Nat.add_zero,show ((Kd.slice 2 (Kd.int .i64))).sz=1 from rfl,Nat.mul_one] at Hq
     replace Hq:=Option.some.inj (Hq.symm.trans x_.z)
     subst Hq
     clear Q1 aak
     replace Ee:=(show Kd.R (Kd.int .i64) 2 _ _ _ _ (av ke c_) from Ee)
     have Bp:=Kd.zH Ee (lR:Int) (wrap64 ((rd (av ke c_) lR) * (rd l1 (uT))))
     have Jq:=k0 (zQ Bp.2 x_.z (DV (Sq _ (Ee.1 _ rfl)).2))
     rw [← sZ.z] at Bp
     have agO:=k0 Bp.1
     have Jm:=QS Bp.2 (fun k_ e_=>by injection e_ with e_;subst e_;exact Ee.1 _ rfl) (x':=mW) (Kd.apB Bp.1)
     rw [← vO.z] at Jm
     have Ow:=k0 Jm
     clear Bp Jm QS Sq
     refine apA (n:=12) (S:=fun w'=>w'.cell? ⟨ZY,(lR).toNat,none⟩=some (.int .i64 (rd (av ke c_) lR))∧w'.cell? (qG.add ((uT)).toNat)=some (.int .i64 (rd l1 (uT)))) (ds:=[11]) (ba 12 0) (by kernel_rfl) rfl rfl ⟨iN,(hbc HB sw)⟩ (fun hHeld=>?_);refine nB ia.Nf ia.JQ (fun az dA=>?_)
     generalize wr.drew=CL at aoX zv aa aqx x_ HB Vy Ow Jq aa7 iN ij ac2 hHeld ⊢
     refine pu 0 (some 22) (ba 12 1) az (h:=?_)
     refine pu 1 (some 23) (ba 12 3) az (h:=?_)
     refine pu 2 (some 24) (ba 12 7) az (h:=?_)
     refine pu 4 (some 26) (ba 12 23) az (h:=?_)
     refine pu 5 (some 27) (ba 12 55) az (h:=?_)
     refine pu 6 (some 28) (ba 12 119) az (h:=?_)
     refine pu 7 (some 29) (ba 12 247) az (h:=?_)
     refine ta 3 (some 25) (ba 12 255) az dA hHeld (hy:=Or.inl ⟨by rfl,by rintro w' ⟨s0,s1⟩;go_simp;with_reducible rfl⟩) (h:=?_)
     refine ta 8 (some 30) (ba 12 511) az dA hHeld (hy:=Or.inl ⟨by rfl,by rintro w' ⟨s0,s1⟩;go_simp;with_reducible rfl⟩) (h:=?_)
     refine pu 9 (some 31) (ba 12 1023) az (h:=?_)
     refine pu 10 (some 32) (ba 12 2047) az (h:=?_)
     refine uW (i:=11) (N:=none) (ba 12 4095) rfl rfl (hO az.out (by kernel_rfl)) (by decide) (fun K hK=>?_)
     refine tG (w1:=?_) (by rfl) rfl ?_ ?_
     rotate_left;· go_simp;rfl
     refine hK.out _ _ ?_
     clear hK K
     refine lY (nj az.out (by kernel_rfl)) ?_
     try go_wp2
     (try simp only [← sk])
     first|go_roundg k2|(simp only [← Ad];go_roundg k2)|((try (have e_:=FP.out;injection e_ with zU J8 zV;subst zU zV));go_roundg k2)
     case measure=>have:=bx.z;have:=cD.z;omega
     case rel=>exact ⟨(qu),(wrap64 (lR+1)),rs,(by first|exact H'|(rw [Ad];exact H')),⟨by have:=bx.z;have:=cD.z;omega⟩,⟨by (with_reducible repeat (first|apply pz.alloc|apply pz.drewN|apply pz.drew));first|exact ⟨_,_,_,rfl,(by first|exact of_eq_true apk|exact s_ apH.out|omega),(by first|exact of_eq_true gL|exact nK apH.out|(have h_:=of_eq_true gL;omega)|(have h_:=nK apH.out;omega)),Jq.z⟩|(rw [← FP.out];exact ⟨_,_,_,rfl,(by first|exact of_eq_true apk|exact s_ apH.out|omega),(by first|exact of_eq_true gL|exact nK apH.out|(have h_:=of_eq_true gL;omega)|(have h_:=nK apH.out;omega)),Jq.z⟩)⟩,⟨by (try simp only [pP]);(try simp only [sk]);(with_reducible repeat (first|apply Kd.cM|apply Kd.cI|apply Kd.cr));exact Ow.out⟩,⟨by (try simp only [pP]);(try simp only [sk]);(with_reducible repeat (first|refine aoU ?_ _|refine aJ ?_|refine aoQ ?_ _));refine bW ?_ (by have h_:=Kd.kr zv.z aa.z (by decide);intro e_;exact h_ (by rw [e_];rfl)) _;exact bk⟩,⟨aL HB.z⟩⟩
/-! ### F53: function 53 -/
def mL.f (k:Nat) (ah:Int) (af:List (List Int)) (l1:List Int):Option (List Int × Int):=(aqi.f k ah af ah af l1).bind fun t103=>(if t103=0 then ((ia.f k ah af l1).bind fun t104=>((fO.f k t104).bind fun t107=>(some (t107,0)))) else (some (([]:List Int),t103)))
theorem mL.calls (k : Nat) (ah : Int) (aT : Option Addr) (aoW : Nat) (af : List (List Int)) (A1 : Option Addr) (c1 : Nat) (l1 : List Int) (r1 : List Int) (r2 : Int) (w : World) (cR : Kd.C (Kd.slice 2 (Kd.int .i64)) w aT af.length af) (cX : af.length ≤ aoW) (fY : Kd.C (Kd.int .i64) w A1 l1.length l1) (gi : l1.length ≤ c1) (h : mL.f k ah af l1 = some (r1, r2)) :
  Calls Try.prog 53 #[.agg #[.int .i64 ah,.slice aT af.length aoW],.slice A1 l1.length c1] w fun e w'=>∃ eE:Value,e=.returned (.tuple #[eE,.int .i64 r2])∧Kd.R (Kd.int .i64) 2 w' w.heap.size (fun _=>True) eE r1∧Below w.heap.size w w':=by
 have iX:=Try.underlying31
 have ao6:=k0 cR
 have cV:=k0 cX
 clear cR cX
 have gq:=k0 fY
 have lD:=k0 gi
 clear fY gi
 have HB:=k0 (Below.refl w.heap.size w)
 have H:((aqi.f k ah af ah af l1).bind fun t103=>(if t103=0 then ((ia.f k ah af l1).bind fun t104=>((fO.f k t104).bind fun t107=>(some (t107,0)))) else (some (([]:List Int),t103))))=some (r1,r2):=h
 clear h
 replace H:=Option.bind_eq_some_iff.mp H
 obtain ⟨t103,fJ,H⟩:=H
 replace H:(if t103=0 then ((ia.f k ah af l1).bind fun t104=>((fO.f k t104).bind fun t107=>(some (t107,0)))) else (some (([]:List Int),t103)))=some (r1,r2):=H
 have A3:=k0 fJ
 clear fJ
 by_cases c4:t103=0
 case neg =>
  rw [if_neg c4] at H
  have fX:(t103 == 0)=false:=beq_eq_false_iff_ne.mpr c4
  have qa:(t103 != 0)=true:=bne_iff_ne.mpr c4
  simp only [Option.some.injEq,Prod.mk.injEq] at H
  obtain ⟨rfl,rfl⟩:=H
  go_enter Try.func53,Try.ntmps53
  go_wp2_with (first|((with_reducible refine bp (N:=2) rfl ?_);refine bR 2 #[.int .i64 ah,.slice aT af.length aoW] 31 ?_;intro aoV hg xF aE hb;have aa:=k0 (aE);have bB:=gW hg (aoS bl);have aX:=bB;replace HB:=k0 (aH bl hb);clear hb aE hg)|((with_reducible refine bp (N:=3) rfl ?_);refine bR 3 #[.slice A1 l1.length c1] 28 ?_;intro ct hg CL aE hb;have ak:=k0 (aE);have fA:=gW hg (aoS bl);have fy:=fA;replace HB:=k0 (aH bl hb);have cP:=nL hg aa;have dJ:=nG cP;replace aa:=kB aa hb;clear hb aE hg;have R7:=cP.z;have Sj:=dJ.z;have GA:=aQ aa;have GB:=aoT aa;have GM:=bF aa 0;have GN:=bF aa 1)|((with_reducible refine bg (f:=125) rfl ?_);refine gC (some 9) Try.func125 #[.agg #[.int .i64 ah,.slice aT af.length aoW],.func (.func 130) #[] #[.pointer (some ⟨aoV,0,none⟩),.pointer (some ⟨ct,0,none⟩)]] ?_;(with_reducible refine (aqi.calls k ah _ _ af ah aT aoW af A1 c1 l1 t103 _ ?aoN ?aoP ?bA ?bH ?apC ?aqc ?vk ?xB A3.z).mono ?_);(case aoN=>exact aC (Kd.ao4 ao6.z HB.z));(case aoP=>exact cV.z);(case bA=>exact aC (Kd.ao4 ao6.z HB.z));(case bH=>exact cV.z);(case apC=>exact aC (Kd.ao4 gq.z HB.z));(case aqc=>exact lD.z);(case vk=>exact by exact bk);(case xB=>exact by exact bk);rintro e CN ⟨rfl,hb⟩;refine ⟨_,rfl,?_⟩;have aq:=kB aa hb;have au:=kB ak hb;have ax:=k0 (aH bl hb);clear aa;clear ak;clear HB;have aa:=aq;have ak:=au;have HB:=ax;clear aq au ax;))
  go_ret2
  exact ⟨_,eR,by first|exact Kd.kO _ _ _ _ _|exact Kd.lG _ _ _ _ _|exact Kd.apy _ _ _ _ _|exact Kd.lH _ _ _ _ _|exact Kd.lf _ _ _ _ _,bl⟩
 rw [if_pos c4] at H
 have fX:(t103 == 0)=true:=beq_iff_eq.mpr c4
 have qa:(t103 != 0)=false:=bne_eq_false_iff_eq.mpr c4
 clear c4
 replace H:=Option.bind_eq_some_iff.mp H
 obtain ⟨t104,kC,H⟩:=H
 replace H:((fO.f k t104).bind fun t107=>(some (t107,0)))=some (r1,r2):=H
 have A5:=k0 kC
 clear kC
 replace H:=Option.bind_eq_some_iff.mp H
 obtain ⟨t107,kX,H⟩:=H
 replace H:(some (t107,0))=some (r1,r2):=H
 have A6:=k0 kX
 clear kX
 simp only [Option.some.injEq,Prod.mk.injEq] at H
 obtain ⟨rfl,rfl⟩:=H
 go_enter Try.func53,Try.ntmps53
 go_wp2_with (first|((with_reducible refine bp (N:=2) rfl ?_);refine bR 2 #[.int .i64 ah,.slice aT af.length aoW] 31 ?_;intro aoV hg w7 aE hb;have aa:=k0 (aE);have bB:=gW hg (aoS bl);have aX:=bB;replace HB:=k0 (aH bl hb);clear hb aE hg)|((with_reducible refine bp (N:=3) rfl ?_);refine bR 3 #[.slice A1 l1.length c1] 28 ?_;intro ct hg w8 aE hb;have ak:=k0 (aE);have fA:=gW hg (aoS bl);have fy:=fA;replace HB:=k0 (aH bl hb);have cP:=nL hg aa;have dJ:=nG cP;replace aa:=kB aa hb;clear hb aE hg;have Cc:=cP.z;have Ce:=dJ.z;have uD:=aQ aa;have uE:=aoT aa;have uF:=bF aa 0;have uG:=bF aa 1)|((with_reducible refine bg (f:=125) rfl ?_);refine gC (some 9) Try.func125 #[.agg #[.int .i64 ah,.slice aT af.length aoW],.func (.func 130) #[] #[.pointer (some ⟨aoV,0,none⟩),.pointer (some ⟨ct,0,none⟩)]] ?_;(with_reducible refine (aqi.calls k ah _ _ af ah aT aoW af A1 c1 l1 t103 _ ?aoN ?aoP ?bA ?bH ?apC ?aqc ?vk ?xB A3.z).mono ?_);(case aoN=>exact aC (Kd.ao4 ao6.z HB.z));(case aoP=>exact cV.z);(case bA=>exact aC (Kd.ao4 ao6.z HB.z));(case bH=>exact cV.z);(case apC=>exact aC (Kd.ao4 gq.z HB.z));(case aqc=>exact lD.z);(case vk=>exact by exact bk);(case xB=>exact by exact bk);rintro e vp ⟨rfl,hb⟩;refine ⟨_,rfl,?_⟩;have aq:=kB aa hb;have au:=kB ak hb;have ax:=k0 (aH bl hb);clear aa;clear ak;clear HB;have aa:=aq;have ak:=au;have HB:=ax;clear aq au ax;have KH:=aQ aa;have KI:=aoT aa;have K3:=bF aa 0;have K4:=bF aa 1;have xm:=aQ ak;have xo:=bF ak 0)|((with_reducible refine bg (f:=133) rfl ?_);refine gC (some 15) Try.func133 #[.agg #[.int .i64 ah,.slice aT af.length aoW],.slice A1 l1.length c1] ?_;(with_reducible refine (ia.calls k ah _ _ af _ _ l1 t104 _ ?aoN ?aoP ?bA ?bH A5.z).mono ?_);(case aoN=>exact aC (Kd.ao4 ao6.z HB.z));(case aoP=>exact cV.z);(case bA=>exact aC (Kd.ao4 gq.z HB.z));(case bH=>exact lD.z);rintro e tL ⟨v105,rfl,aD,hb⟩;refine ⟨_,rfl,?_⟩;have aq:=k0 (Kd.ig (Kd.JI aD (aB ak.z)) (aoS bl));have au:=kB aa hb;have ax:=kB ak hb;have aA:=k0 (aH bl hb);clear aa;clear ak;clear HB;have gp:=aq;have aa:=au;have ak:=ax;have HB:=aA;clear aq au ax aA;obtain ⟨zf,zR,D5⟩:=Kd.apc gp.z;subst D5)|((with_reducible refine bg (f:=132) rfl ?_);refine gC (some 16) Try.func132 #[.slice zf t104.length zR] ?_;(with_reducible refine (fO.calls k _ _ t104 t107 _ ?aoN ?aoP A6.z).mono ?_);(case aoN=>exact aC ((Kd.cQ gp.z).2.2));(case aoP=>exact (Kd.cQ gp.z).2.1);rintro e xE ⟨vo,rfl,aD,hb⟩;refine ⟨_,rfl,?_⟩;have aq:=k0 (Kd.cC (aS gp.z) (Kd.aU aD) hb);have au:=k0 (Kd.cU aD (aoS bl));have ax:=kB aa hb;have aA:=kB ak hb;have aG:=k0 (aH bl hb);clear gp;clear aa;clear ak;clear HB;have gp:=aq;have eB:=au;have aa:=ax;have ak:=aA;have HB:=aG;clear aq au ax aA aG;))
 go_ret2
 exact ⟨_,eR,by (with_reducible repeat (first|apply Kd.dK|apply Kd.dD|apply Kd.cB));exact eB.z,bl⟩
/-! ### F207: function 207 -/
def mY.l0 : Nat → List Int → Int → Int → Int → List (List Int) → Option (Bool)
 | 0,_,_,_,_,_=>none
 | k+1,x1,x2,x7,fG,eH=>if x7 < (x1.length:Int) then (if 0≤x7 then ((jm.f (rd x1 x7) (wrap64 (-x2)) x2).bind fun t103=>(if t103=true then (mY.l0 k x1 x2 (wrap64 (x7+1)) fG eH) else (some false))) else (none)) else (some ((x1.length:Int) == (eH.length:Int)))
def mY.f (k:Nat) (ah:Int) (af:List (List Int)) (l1:List Int) (a2:Int):Option (Bool):=mY.l0 k l1 a2 0 ah af
theorem mY.calls (k : Nat) (ah : Int) (aT : Option Addr) (aoW : Nat) (af : List (List Int)) (A1 : Option Addr) (c1 : Nat) (l1 : List Int) (a2 : Int) (r : Bool) (w : World) (cR : Kd.C (Kd.slice 2 (Kd.int .i64)) w aT af.length af) (cX : af.length ≤ aoW) (fY : Kd.C (Kd.int .i64) w A1 l1.length l1) (gi : l1.length ≤ c1) (h : mY.f k ah af l1 a2 = some r) :
  Calls Try.prog 207 #[.agg #[.int .i64 ah,.slice aT af.length aoW],.slice A1 l1.length c1,.int .i64 a2] w fun e w'=>e=.returned (.bool r)∧Below w.heap.size w w':=by
 have iX:=Try.underlying31
 have ao6:=k0 cR
 have cV:=k0 cX
 clear cR cX
 have gq:=k0 fY
 have lD:=k0 gi
 clear fY gi
 have HB:=k0 (Below.refl w.heap.size w)
 have H:(mY.l0 k l1 a2 0 ah af)=some r:=h
 clear h
 have H':=k0 H
 clear H
 go_enter Try.func207,Try.ntmps207
 go_wp2_with (first|((with_reducible refine bp (N:=3) rfl ?_);refine bR 3 #[.int .i64 ah,.slice aT af.length aoW] 31 ?_;intro aoV hg w4 aE hb;have aa:=k0 (aE);have bB:=gW hg (aoS bl);have aX:=bB;replace HB:=k0 (aH bl hb);clear hb aE hg))
 go_loopg [7] k (fun kq v7 w'=>∃ (cy:Int),v7=.int .i64 cy∧aj (mY.l0 kq l1 a2 cy ah af=some r)∧aj (kq≤k)∧aj (w'.heap[aoV]?=some (sO ah aT af aoW 31))∧aj (Below w.heap.size w w'))
 case atStart=>exact ⟨(0),rs,H',⟨Nat.le_refl _⟩,⟨bk⟩,⟨bl⟩⟩
 case round =>
  clear H'
  obtain ⟨cy,rfl,HA,bx,aa,HB⟩:=hrel
  cases gk with
  | zero=>exact absurd HA.z (by simp [mY.l0])
  | succ k1 =>
   have H:=HA.z
   clear HA
   simp only [mY.l0] at H
   by_cases c5:cy < (l1.length:Int)
   case neg =>
    rw [if_neg c5] at H
    have jt:decide (cy < (l1.length:Int))=false:=decide_eq_false c5
    clear c5
    obtain rfl:=Option.some.inj H
    have v_:=aQ aa
    have we:=aoT aa
    have xp:=bF aa 0
    have wh:=bF aa 1
    go_wp2
    go_ret
    exact ⟨eR,bl⟩
   rw [if_pos c5] at H
   have jt:=decide_eq_true c5
   clear c5
   replace H:=iS H;obtain ⟨c6,H⟩:=H
   have kG:=decide_eq_true c6
   clear c6
   replace H:=Option.bind_eq_some_iff.mp H
   obtain ⟨t103,nE,H⟩:=H
   replace H:(if t103=true then (mY.l0 k1 l1 a2 (wrap64 (cy+1)) ah af) else (some false))=some r:=H
   have A7:=k0 nE
   clear nE
   by_cases c8:t103=true
   case neg =>
    replace c8:=Bool.eq_false_iff.mpr c8
    subst c8
    have H1:(some false)=some r:=by rw [if_neg (show ¬ (false=true) by decide)] at H;exact H
    clear H
    have H:=H1
    clear H1
    obtain rfl:=Option.some.inj H
    have dF:0≤(cy:Int):=oD
    have dG:cy < (l1.length:Int):=oD
    obtain ⟨nh,e102,gO⟩:=Kd.cN gq.z cy dF dG
    cases e102
    replace gO:=hbc HB gO
    replace dF:=eq_true dF
    replace dG:=eq_true dG
    go_wp2_with (first|((with_reducible refine bg (f:=172) rfl ?_);refine gC (some 21) Try.func172 #[.int .i64 (rd l1 cy),.int .i64 (wrap64 (-a2)),.int .i64 a2] ?_;(with_reducible refine (jm.calls (rd l1 cy) (wrap64 (-a2)) a2 false _ A7.z).mono ?_);rintro e w' ⟨rfl,⟨nd,rfl⟩⟩;refine ⟨_,rfl,?_⟩))
    go_ret
    exact ⟨eR,bl⟩
   subst c8
   have H1:(mY.l0 k1 l1 a2 (wrap64 (cy+1)) ah af)=some r:=by rw [if_pos rfl] at H;exact H
   clear H
   have H:=H1
   clear H1
   have H':=k0 H
   clear H
   have dF:0≤(cy:Int):=oD
   have dG:cy < (l1.length:Int):=oD
   obtain ⟨nh,e102,gO⟩:=Kd.cN gq.z cy dF dG
   cases e102
   replace gO:=hbc HB gO
   replace dF:=eq_true dF
   replace dG:=eq_true dG
   go_wp2_with (first|((with_reducible refine bg (f:=172) rfl ?_);refine gC (some 21) Try.func172 #[.int .i64 (rd l1 cy),.int .i64 (wrap64 (-a2)),.int .i64 a2] ?_;(with_reducible refine (jm.calls (rd l1 cy) (wrap64 (-a2)) a2 true _ A7.z).mono ?_);rintro e w' ⟨rfl,⟨nd,rfl⟩⟩;refine ⟨_,rfl,?_⟩))
   go_roundg k1
   case measure=>have:=bx.z;omega
   case rel=>exact ⟨(wrap64 (cy+1)),rs,H',⟨by have:=bx.z;omega⟩,⟨bk⟩,⟨bl⟩⟩
/-! ### F134: function 134 -/
def apx.l0 : Nat → List Int → Int → Option (Int)
 | 0,_,_=>none
 | k+1,x1,x5=>if x5 < (x1.length:Int) then (if 0≤x5 then (if (rd x1 x5)=0 then (some 2) else (apx.l0 k x1 (wrap64 (x5+1)))) else (none)) else (some 0)
def apx.f (k:Nat) (ah:Int) (af:List (List Int)) (l1:List Int):Option (Int):=(eO.f k ah af).bind fun t102=>(if t102=true then ((mY.f k ah af l1 1).bind fun t103=>(if t103=true then (apx.l0 k l1 0) else (some 2))) else (some 1))
theorem apx.calls (k : Nat) (ah : Int) (aT : Option Addr) (aoW : Nat) (af : List (List Int)) (A1 : Option Addr) (c1 : Nat) (l1 : List Int) (r : Int) (w : World) (cR : Kd.C (Kd.slice 2 (Kd.int .i64)) w aT af.length af) (cX : af.length ≤ aoW) (fY : Kd.C (Kd.int .i64) w A1 l1.length l1) (gi : l1.length ≤ c1) (h : apx.f k ah af l1 = some r) :
  Calls Try.prog 134 #[.agg #[.int .i64 ah,.slice aT af.length aoW],.slice A1 l1.length c1] w fun e w'=>e=.returned (.int .i64 r)∧Below w.heap.size w w':=by
 have iX:=Try.underlying31
 have ao6:=k0 cR
 have cV:=k0 cX
 clear cR cX
 have gq:=k0 fY
 have lD:=k0 gi
 clear fY gi
 have HB:=k0 (Below.refl w.heap.size w)
 have H:((eO.f k ah af).bind fun t102=>(if t102=true then ((mY.f k ah af l1 1).bind fun t103=>(if t103=true then (apx.l0 k l1 0) else (some 2))) else (some 1)))=some r:=h
 clear h
 replace H:=Option.bind_eq_some_iff.mp H
 obtain ⟨t102,fJ,H⟩:=H
 replace H:(if t102=true then ((mY.f k ah af l1 1).bind fun t103=>(if t103=true then (apx.l0 k l1 0) else (some 2))) else (some 1))=some r:=H
 have A3:=k0 fJ
 clear fJ
 by_cases c4:t102=true
 case neg =>
  replace c4:=Bool.eq_false_iff.mpr c4
  subst c4
  have H1:(some 1)=some r:=by rw [if_neg (show ¬ (false=true) by decide)] at H;exact H
  clear H
  have H:=H1
  clear H1
  obtain rfl:=Option.some.inj H
  go_enter Try.func134,Try.ntmps134
  go_wp2_with (first|((with_reducible refine bp (N:=2) rfl ?_);refine bR 2 #[.int .i64 ah,.slice aT af.length aoW] 31 ?_;intro aoV hg aqf aE hb;have aa:=k0 (aE);have bB:=gW hg (aoS bl);have aX:=bB;replace HB:=k0 (aH bl hb);clear hb aE hg;have GC:=aQ aa;have GD:=aoT aa;have GO:=bF aa 0;have GP:=bF aa 1)|((with_reducible refine bg (f:=100) rfl ?_);refine gC (some 8) Try.func100 #[.agg #[.int .i64 ah,.slice aT af.length aoW]] ?_;(with_reducible refine (eO.calls k ah _ _ af false _ ?aoN ?aoP A3.z).mono ?_);(case aoN=>exact aC (Kd.ao4 ao6.z HB.z));(case aoP=>exact cV.z);rintro e tM ⟨rfl,hb⟩;refine ⟨_,rfl,?_⟩;replace aa:=kB aa hb;replace HB:=k0 (aH bl hb);))
  go_ret
  exact ⟨eR,bl⟩
 subst c4
 have H1:((mY.f k ah af l1 1).bind fun t103=>(if t103=true then (apx.l0 k l1 0) else (some 2)))=some r:=by rw [if_pos rfl] at H;exact H
 clear H
 have H:=H1
 clear H1
 replace H:=Option.bind_eq_some_iff.mp H
 obtain ⟨t103,kC,H⟩:=H
 replace H:(if t103=true then (apx.l0 k l1 0) else (some 2))=some r:=H
 have A5:=k0 kC
 clear kC
 by_cases c6:t103=true
 case neg =>
  replace c6:=Bool.eq_false_iff.mpr c6
  subst c6
  have H1:(some 2)=some r:=by rw [if_neg (show ¬ (false=true) by decide)] at H;exact H
  clear H
  have H:=H1
  clear H1
  obtain rfl:=Option.some.inj H
  go_enter Try.func134,Try.ntmps134
  go_wp2_with (first|((with_reducible refine bp (N:=2) rfl ?_);refine bR 2 #[.int .i64 ah,.slice aT af.length aoW] 31 ?_;intro aoV hg qq aE hb;have aa:=k0 (aE);have bB:=gW hg (aoS bl);have aX:=bB;replace HB:=k0 (aH bl hb);clear hb aE hg;have BS:=aQ aa;have BU:=aoT aa;have B3:=bF aa 0;have aqP:=bF aa 1)|((with_reducible refine bg (f:=100) rfl ?_);refine gC (some 8) Try.func100 #[.agg #[.int .i64 ah,.slice aT af.length aoW]] ?_;(with_reducible refine (eO.calls k ah _ _ af true _ ?aoN ?aoP A3.z).mono ?_);(case aoN=>exact aC (Kd.ao4 ao6.z HB.z));(case aoP=>exact cV.z);rintro e xF ⟨rfl,hb⟩;refine ⟨_,rfl,?_⟩;replace aa:=kB aa hb;replace HB:=k0 (aH bl hb);have Er:=aQ aa;have Es:=aoT aa;have Ex:=bF aa 0;have Ey:=bF aa 1)|((with_reducible refine bg (f:=207) rfl ?_);refine gC (some 13) Try.func207 #[.agg #[.int .i64 ah,.slice aT af.length aoW],.slice A1 l1.length c1,.int .i64 1] ?_;(with_reducible refine (mY.calls k ah _ _ af _ _ l1 1 false _ ?aoN ?aoP ?bA ?bH A5.z).mono ?_);(case aoN=>exact aC (Kd.ao4 ao6.z HB.z));(case aoP=>exact cV.z);(case bA=>exact aC (Kd.ao4 gq.z HB.z));(case bH=>exact lD.z);rintro e CM ⟨rfl,hb⟩;refine ⟨_,rfl,?_⟩;replace aa:=kB aa hb;replace HB:=k0 (aH bl hb);))
  go_ret
  exact ⟨eR,bl⟩
 subst c6
 have H1:(apx.l0 k l1 0)=some r:=by rw [if_pos rfl] at H;exact H
 clear H
 have H:=H1
 clear H1
 have H':=k0 H
 clear H
 go_enter Try.func134,Try.ntmps134
 go_wp2_with (first|((with_reducible refine bp (N:=2) rfl ?_);refine bR 2 #[.int .i64 ah,.slice aT af.length aoW] 31 ?_;intro aoV hg w7 aE hb;have aa:=k0 (aE);have bB:=gW hg (aoS bl);have aX:=bB;replace HB:=k0 (aH bl hb);clear hb aE hg;have BX:=aQ aa;have BZ:=aoT aa;have B7:=bF aa 0;have aqR:=bF aa 1)|((with_reducible refine bg (f:=100) rfl ?_);refine gC (some 8) Try.func100 #[.agg #[.int .i64 ah,.slice aT af.length aoW]] ?_;(with_reducible refine (eO.calls k ah _ _ af true _ ?aoN ?aoP A3.z).mono ?_);(case aoN=>exact aC (Kd.ao4 ao6.z HB.z));(case aoP=>exact cV.z);rintro e w9 ⟨rfl,hb⟩;refine ⟨_,rfl,?_⟩;replace aa:=kB aa hb;replace HB:=k0 (aH bl hb);have uD:=aQ aa;have uE:=aoT aa;have uF:=bF aa 0;have uG:=bF aa 1)|((with_reducible refine bg (f:=207) rfl ?_);refine gC (some 13) Try.func207 #[.agg #[.int .i64 ah,.slice aT af.length aoW],.slice A1 l1.length c1,.int .i64 1] ?_;(with_reducible refine (mY.calls k ah _ _ af _ _ l1 1 true _ ?aoN ?aoP ?bA ?bH A5.z).mono ?_);(case aoN=>exact aC (Kd.ao4 ao6.z HB.z));(case aoP=>exact cV.z);(case bA=>exact aC (Kd.ao4 gq.z HB.z));(case bH=>exact lD.z);rintro e vp ⟨rfl,hb⟩;refine ⟨_,rfl,?_⟩;replace aa:=kB aa hb;replace HB:=k0 (aH bl hb);))
 go_loopg [5] k (fun kq v5 w'=>∃ (aY:Int),v5=.int .i64 aY∧aj (apx.l0 kq l1 aY=some r)∧aj (kq≤k)∧aj (w'.heap[aoV]?=some (sO ah aT af aoW 31))∧aj (Below w.heap.size w w'))
 case atStart=>exact ⟨(0),rs,H',⟨Nat.le_refl _⟩,⟨bk⟩,⟨bl⟩⟩
 case round =>
  clear H'
  obtain ⟨aY,rfl,HA,bx,aa,HB⟩:=hrel
  cases gk with
  | zero=>exact absurd HA.z (by simp [apx.l0])
  | succ k1 =>
   have H:=HA.z
   clear HA
   simp only [apx.l0] at H
   by_cases c12:aY < (l1.length:Int)
   case neg =>
    rw [if_neg c12] at H
    have qJ:decide (aY < (l1.length:Int))=false:=decide_eq_false c12
    clear c12
    obtain rfl:=Option.some.inj H
    go_wp2
    go_ret
    exact ⟨eR,bl⟩
   rw [if_pos c12] at H
   have qJ:=decide_eq_true c12
   clear c12
   replace H:=iS H;obtain ⟨c13,H⟩:=H
   have ru:=decide_eq_true c13
   clear c13
   by_cases c14:(rd l1 aY)=0
   case neg =>
    rw [if_neg c14] at H
    have pJ:((rd l1 aY) == 0)=false:=beq_eq_false_iff_ne.mpr c14
    have Gg:((rd l1 aY) != 0)=true:=bne_iff_ne.mpr c14
    have H':=k0 H
    clear H
    have dR:0≤(aY:Int):=oD
    have dS:aY < (l1.length:Int):=oD
    obtain ⟨jY,e104,dY⟩:=Kd.cN gq.z aY dR dS
    cases e104
    replace dY:=hbc HB dY
    replace dR:=eq_true dR
    replace dS:=eq_true dS
    go_wp2
    go_roundg k1
    case measure=>have:=bx.z;omega
    case rel=>exact ⟨(wrap64 (aY+1)),rs,H',⟨by have:=bx.z;omega⟩,⟨bk⟩,⟨bl⟩⟩
   rw [if_pos c14] at H
   have pJ:((rd l1 aY) == 0)=true:=beq_iff_eq.mpr c14
   have Gg:((rd l1 aY) != 0)=false:=bne_eq_false_iff_eq.mpr c14
   clear c14
   obtain rfl:=Option.some.inj H
   have dR:0≤(aY:Int):=oD
   have dS:aY < (l1.length:Int):=oD
   obtain ⟨jY,e104,dY⟩:=Kd.cN gq.z aY dR dS
   cases e104
   replace dY:=hbc HB dY
   replace dR:=eq_true dR
   replace dS:=eq_true dS
   go_wp2
   go_ret
   exact ⟨eR,bl⟩
end Go.Proofs.Ytoebojnhchocaaa.E
/- Set with little white space, by a program. -/
