/- The functions that one law reaches, each as a Lean function, and that Go's call comes to what it says. Condition of each: that the Lean function answers (is not none). -/
import Derived.Test.YtapnggjaeehpdaaAx0
import Derived.Test.YtapnggjaeehpdaaAx9
namespace Go.Proofs.Ytapnggjaeehpdaa.A
open Go.RowKit Go.Proofs.bB.dI Go.Proofs.bB.ark Go.Proofs.bB.jd
attribute [local go_sem] max2_int min2_int max_two min_two max_three min_three max_four min_four   -- for this text's walks alone
set_option linter.unusedVariables false
set_option linter.unusedSimpArgs false
set_option maxHeartbeats 8000000
set_option maxRecDepth 100000
/-! ### F70: function 70 -/
mutual
def gu.l0 : Nat → List (List Int) → Int → Int → Int → List (List Int) → Option ((List (List Int)))
 | 0,_,_,_,_,_=>none
 | k+1,x3,x4,x5,dx,cF=>if x5 < x4 then (if 0≤x4 then (if (x4:Int).toNat≤35184372088832 then (gu.l1 k x3 x4 x5 (List.replicate (x4:Int).toNat 0) 0 dx cF) else (none)) else (none)) else (some x3)
def gu.l1 : Nat → List (List Int) → Int → Int → List Int → Int → Int → List (List Int) → Option ((List (List Int)))
 | 0,_,_,_,_,_,_,_=>none
 | k+1,x3,x4,x5,x6,x7,dx,cF=>if x7 < x4 then ((tW.f dx cF x5 x7).bind fun t108=>(if t108=true then (if 0≤x7 then (if x7 < (x6.length:Int) then (gu.l1 k x3 x4 x5 (x6.set (x7:Int).toNat 1) (wrap64 (x7+1)) dx cF) else (none)) else (none)) else (gu.l1 k x3 x4 x5 x6 (wrap64 (x7+1)) dx cF))) else (if x3.length < 5864062014805 then (gu.l0 k (x3 ++ [x6]) x4 (wrap64 (x5+1)) dx cF) else (none))
end
def gu.f (k:Nat) (ag:Int) (af:List (List Int)):Option ((List (List Int))):=gu.l0 k (([]:List (List Int))) (wrap64 (2 * (af.length:Int))) 0 ag af
theorem gu.calls (k : Nat) (ag : Int) (az : Option Addr) (ay : Nat) (af : List (List Int)) (r : List (List Int)) (w : World) (aqO : Kd.C (Kd.slice 2 (Kd.int .i64)) w az af.length af) (bG : af.length ≤ ay) (h : gu.f k ag af = some r) :
  Calls Try.prog 70 #[.agg #[.int .i64 ag,.slice az af.length ay]] w fun e w'=>∃ cR:Value,e=.returned (cR)∧Kd.S (Kd.slice 2 (Kd.int .i64)) 29 w' w.heap.size (fun _=>True) cR r∧Below w.heap.size w w':=by
 have eE:=Try.underlying26
 have aW:=k0 aqO
 have bh:=k0 bG
 clear aqO bG
 have HB:=k0 (Below.refl w.heap.size w)
 unfold gu.f at h
 have H:=h
 clear h
 obtain ⟨gq,gv⟩:=nY (([]:List (List Int)):List (List Int))
 replace H:(gu.l0 k gq (wrap64 (2 * (af.length:Int))) 0 ag af)=some r:=rH gv.z H
 have H':=k0 H
 clear H
 go_enter Try.func70,Try.ntmps70
 try go_wp2_with (first|(refine aqI (N:=1) rfl ?_;refine cz 1 #[.int .i64 ag,.slice az af.length ay] 26 bl ?_;intro aA w2 aa aqF HB;have aqR:=aqF))
 replace aa:=k0 (cJ aa.z);replace HB:=k0 (aqW HB.z)
 refine gz (n:=7) (S:=fun w'=>w'.cell? ⟨aA,0,none⟩=some (.int .i64 ag)∧w'.cell? ⟨aA,1,none⟩=some (.slice az af.length ay)) (ds:=[]) (ba 7 0) (by kernel_rfl) rfl rfl ⟨cH aa,cE aa⟩ (fun hHeld=>?_)
 generalize w2.drew=w3 at aa HB hHeld ⊢
 refine qV (i:=1) (N:=some 9) (v:=?_) (a':=?_) (ba 7 2) rfl rfl (by kernel_rfl) (fun _ _ _ h=>h) (Or.inl ⟨by rfl,?_⟩) ?_ ?_
 rotate_left;· intro w';go_simp;with_reducible rfl
 rotate_left;· simp only [Act.put,zI,zZ,zS,bJ,ck];rfl
 refine y7 (i:=2) (N:=some 10) (v:=?_) (a':=?_) (ba 7 6) rfl rfl (by kernel_rfl) (fun _ _ _ h=>h) (Or.inl ⟨by rfl,?_⟩) hHeld ?_ ?_
 rotate_left;· rintro w' ⟨s0,s1⟩;go_simp;with_reducible rfl
 rotate_left;· simp only [Act.put,zI,zZ,zS,bJ,ck];rfl
 refine qV (i:=3) (N:=some 11) (v:=?_) (a':=?_) (ba 7 14) rfl rfl (by kernel_rfl) (fun _ _ _ h=>h) (Or.inl ⟨by rfl,?_⟩) ?_ ?_
 rotate_left;· intro w';go_simp;with_reducible rfl
 rotate_left;· simp only [Act.put,zI,zZ,zS,bJ,ck];rfl
 refine qV (i:=4) (N:=some 12) (v:=?_) (a':=?_) (ba 7 30) rfl rfl (by kernel_rfl) (fun _ _ _ h=>h) (Or.inl ⟨by rfl,?_⟩) ?_ ?_
 rotate_left;· intro w';go_simp;with_reducible rfl
 rotate_left;· simp only [Act.put,zI,zZ,zS,bJ,ck];rfl
 refine eG (i:=0) (N:=some 8) (ba 7 31) rfl rfl (by kernel_rfl) (by decide) (fun K hK=>?_)
 refine Kd.Rf (Kd.slice 2 (Kd.int .i64)) _ 29 ?hg (N:=8) ?hd (xs:=([]:List (List Int))) (inner:=[]) (ok:=fun _=>True) (bw:=fun _=>True) ?hr ?hp (fun _ hk=>hk) trivial (Below.refl _ _) (Nat.le_refl _) (by simp) ?_;(case hd=>rfl);(case hg=>rfl);(case hr=>first|(go_simp;done)|(go_simp;rfl));(case hp=>exact (aH.none _ _))
 intro ary w4 E0 hb bH bI
 clear bH bI
 (first|rw [← gv.z] at E0|(simp only [Int.reduceToNat] at E0;rw [← gv.z] at E0))
 have bU:=k0 (Kd.fT E0 (aqG bl));replace aa:=kB aa hb;replace HB:=bW hb
 clear hb E0
 refine hK.out _ _ ⟨cH aa,cE aa⟩ (fun hHeld=>?_)
 clear hK K
 refine eV (a':=?_) ?_ ?_
 rotate_left;· show Act.put _ (some 8) _=_;simp only [Act.put,zI,zZ,zS,bJ,ck];rfl
 refine qV (i:=5) (N:=some 3) (v:=?_) (a':=?_) (ba 7 63) rfl rfl (by kernel_rfl) (fun _ _ _ h=>h) (Or.inl ⟨by rfl,?_⟩) ?_ ?_
 rotate_left;· intro w';go_simp;with_reducible rfl
 rotate_left;· simp only [Act.put,zI,zZ,zS,bJ,ck];rfl
 refine qV (i:=6) (N:=some 4) (v:=?_) (a':=?_) (ba 7 127) rfl rfl (by kernel_rfl) (fun _ _ _ h=>h) (Or.inl ⟨by rfl,?_⟩) ?_ ?_
 rotate_left;· intro w';go_simp;with_reducible rfl
 rotate_left;· simp only [Act.put,zI,zZ,zS,bJ,ck];rfl
 refine gx (by kernel_rfl) ?_
 try go_wp2
 go_loopg [3,5] k (fun kq v3 v5 w'=>∃ (bp:List (List Int)) (bK:Int),v5=.int .i64 bK∧ai (gu.l0 kq bp (wrap64 (2 * (af.length:Int))) bK ag af=some r)∧ai (kq≤k)∧ai (Kd.S (Kd.slice 2 (Kd.int .i64)) 29 w' w.heap.size (fun _=>True) v3 bp)∧ai (w'.heap[aA]?=some (sO ag az af ay 26))∧ai (Below w.heap.size w w'))
 case atStart=>exact ⟨(gq),(0),rs,H',⟨Nat.le_refl _⟩,⟨aS (bU.z)⟩,⟨bk⟩,⟨bl⟩⟩
 case round =>
  clear H'
  obtain ⟨bp,bK,rfl,HA,aI,aqK,aa,HB⟩:=hrel
  cases gk with
  | zero=>exact absurd HA.z (by simp [gu.l0])
  | succ k1 =>
   have H:=HA.z
   clear HA
   simp only [gu.l0] at H
   replace H:=iC H;obtain ⟨fN,H⟩|⟨fN,H⟩:=H
   case inl =>
    obtain rfl:=Option.some.inj H
    go_wp2
    go_ret
    exact ⟨_,eR,aS aqK.z,bl⟩
   obtain ⟨tA,uK⟩:∃ j_:Int,(wrap64 (2 * (af.length:Int)))=j_:=⟨_,rfl⟩
   replace H:(if 0≤(tA) then (if ((tA):Int).toNat≤35184372088832 then (gu.l1 k1 bp (tA) bK (List.replicate ((tA):Int).toNat 0) 0 ag af) else (none)) else (none))=some r:=by first|(rw [uK] at H;exact H)|(simp only [uK] at H ⊢;exact H)
   (try rw [uK] at fN)
   have afW:(IntKind.i64.wrap (2 * (af.length:Int)))=tA:=(bJ _).trans uK
   replace H:=iS H;obtain ⟨c8,H⟩:=H
   have r7:=eq_true c8
   have wN:=decide_eq_true c8
   clear c8
   replace H:=iS H;obtain ⟨c9,H⟩:=H
   have td:=eq_true c9
   have Hg:=decide_eq_true c9
   clear c9
   obtain ⟨Ge,zJ⟩:=nY (List.replicate ((tA):Int).toNat 0:List Int)
   replace H:(gu.l1 k1 bp (tA) bK Ge 0 ag af)=some r:=rH zJ.z H
   have H':=k0 H
   clear H
   go_wp2_with (first|(refine aqI (N:=19) rfl ?_;(try simp only [uK,afW]);refine Kd.BI (Kd.int .i64) _ 2 rfl (N:=19) rfl 29 _ _ rfl (tA) rfl rfl Try.underlying29 (.int .i64 0) 8 lS rfl (by decide) (by omega) 0 (ok:=fun _=>True) (bw:=fun _=>True) rfl (fun _ hk=>hk) trivial oD (Nat.le_trans (Nat.mul_le_mul_right _ (oD:(tA).toNat≤35184372088832)) (by omega)) (Below.refl _ _) (Nat.le_refl _) ?_;intro CS jh oh hb bH bI;clear bH bI;(first|rw [← zJ.z] at oh|(simp only [Int.reduceToNat] at oh;rw [← zJ.z] at oh));replace aqK:=iw aqK (Kd.cm oh) hb;have oP:=k0 (Kd.cA oh (aqG bl));replace aa:=kB aa hb;replace HB:=bW hb;clear hb oh))
   go_loopg [7] k1 (fun kq v7 w'=>∃ (mY:List Int) (dQ:Int),v7=.int .i64 dQ∧ai (gu.l1 kq bp (tA) bK mY dQ ag af=some r)∧ai (kq≤k1)∧ai (Kd.S (Kd.slice 2 (Kd.int .i64)) 29 w' w.heap.size (fun k_=>some k_ ≠ (CS:Value).ownBlock) u3 bp)∧ai (Kd.R (Kd.int .i64) 2 w' w.heap.size (fun _=>True) CS mY)∧ai (w'.heap[aA]?=some (sO ag az af ay 26))∧ai (Below w.heap.size w w'))
   case atStart=>exact ⟨(Ge),(0),rs,H',⟨Nat.le_refl _⟩,⟨aS (Kd.b6 aqK.z (fun _ hk=>hk.2))⟩,⟨aR (oP.z)⟩,⟨bk⟩,⟨bl⟩⟩
   case round =>
    clear H'
    obtain ⟨mY,dQ,rfl,HA,aqL,aqK,cn,aa,HB⟩:=hrel
    cases gk with
    | zero=>exact absurd HA.z (by simp [gu.l1])
    | succ k2 =>
     have H:=HA.z
     clear HA
     simp only [gu.l1] at H
     replace H:=iC H;obtain ⟨arN,H⟩|⟨arN,H⟩:=H
     case inl =>
      replace H:=iS H;obtain ⟨c24,H⟩:=H
      have Z_:=k0 c24
      clear c24
      obtain ⟨qy,qD⟩:=nY (bp ++ [mY]:List (List Int))
      replace H:(gu.l0 k2 qy (tA) (wrap64 (bK+1)) ag af)=some r:=rH qD.z H
      have H':=k0 H
      clear H
      obtain ⟨JS,LU,rfl⟩:=Kd.cy cn.z
      go_wp2_with (first|((with_reducible refine ars (b:=.append) (xs:=#[.tmp 32,.tmp 34]) rfl ?_);at_builtin;refine Kd.asc (Kd.slice 2 (Kd.int .i64)) (w0:=w) w.heap.size rfl (.tmp 32) (.tmp 34) 24 29 (.slice none 0 0) 24 rfl Try.underlying24 o_ rfl (by decide) (by omega) u3 bp mY [.slice JS mY.length LU] (fun _=>True) (fun k_=>some k_=(.slice JS mY.length LU:Value).ownBlock) rfl rfl ?aP (fun k_ aqJ=>((Kd.aqM (ok':=fun k_=>((fun _=>True)) k_∧some k_ ≠ (u3:Value).ownBlock) (Kd.aq' (cn.z) (Kd.fH aqK.z) (by decide)) (fun k_ hk=>⟨trivial,hk.2⟩))).1 k_ aqJ.symm) ?aF ?aO ?aB ?aS ?aL ?_;(case aP=>exact Kd.lD (Kd.aqM (Kd.oV rfl (Kd.aqM (ok':=fun k_=>((fun _=>True)) k_∧some k_ ≠ (u3:Value).ownBlock) (Kd.aq' (cn.z) (Kd.fH aqK.z) (by decide)) (fun k_ hk=>⟨trivial,hk.2⟩))) (fun _ h_=>h_)));(case aB=>exact bl);(case aF=>exact (fun _ _=>trivial));(case aO=>exact (aS (Kd.b6 aqK.z (fun k_ hk=>⟨trivial,fun e_=>hk e_⟩))));(case aS=>exact (aqG bl));(case aL=>have:=Z_.out;omega);intro F0 Xa ho hb hg bg;rw [← qD.z] at ho;replace aa:=k0 (aq2 (aB aa.z) hg (Kd.arl aqK.z aa.z (by decide)));replace HB:=k0 (hb);have oQ:=k0 (ho);clear aqK cn;clear ho hb hg bg))
      first|go_roundg k2|(simp only [← uK];go_roundg k2)
      case measure=>have:=aI.z;have:=aqL.z;omega
      case rel=>exact ⟨(qy),(wrap64 (bK+1)),rs,(by first|exact H'|(rw [uK];exact H')),⟨by have:=aI.z;have:=aqL.z;omega⟩,⟨aS (oQ.z)⟩,⟨bk⟩,⟨bl⟩⟩
     replace H:=bS H;obtain ⟨t108,oI,H⟩:=H
     cases t108
     case false =>
      replace H:=iF H
      have H':=k0 H
      clear H
      obtain ⟨_,_,_,_⟩:=aqA aa
      go_wp2_with (first|(refine aqz (f:=74) rfl ?_;refine gC (some 28) Try.func74 #[.agg #[.int .i64 ag,.slice az af.length ay],.int .i64 bK,.int .i64 dQ] ?_;(with_reducible refine (tW.calls ag _ _ af bK dQ false _ ?aq ?au oI.z).mono ?_);(case aq=>exact aC (Kd.aqN aW.z HB.z));(case au=>exact bh.z);rintro e asy ⟨rfl,hb⟩;refine ⟨_,rfl,?_⟩;replace aqK:=iG aqK hb;replace cn:=eC cn hb;replace aa:=kB aa hb;replace HB:=bW hb))
      first|go_roundg k2|(simp only [← uK];go_roundg k2)
      case measure=>have:=aI.z;have:=aqL.z;omega
      case rel=>exact ⟨(mY),(wrap64 (dQ+1)),rs,(by first|exact H'|(rw [uK];exact H')),⟨by have:=aI.z;have:=aqL.z;omega⟩,⟨aS (aqK.z)⟩,⟨aR (cn.z)⟩,⟨bk⟩,⟨bl⟩⟩
     replace H:=iT H
     replace H:=iS H;obtain ⟨c15,H⟩:=H
     have kU:=decide_eq_true c15
     clear c15
     replace H:=iS H;obtain ⟨c16,H⟩:=H
     have asK:=decide_eq_true c16
     clear c16
     obtain ⟨qx,rY⟩:=nY (mY.set (dQ:Int).toNat 1:List Int)
     replace H:(gu.l1 k2 bp (tA) bK qx (wrap64 (dQ+1)) ag af)=some r:=rH rY.z H
     have H':=k0 H
     clear H
     obtain ⟨_,_,_,_⟩:=aqA aa
     go_wp2_with (first|(refine aqz (f:=74) rfl ?_;refine gC (some 28) Try.func74 #[.agg #[.int .i64 ag,.slice az af.length ay],.int .i64 bK,.int .i64 dQ] ?_;(with_reducible refine (tW.calls ag _ _ af bK dQ true _ ?aq ?au oI.z).mono ?_);(case aq=>exact aC (Kd.aqN aW.z HB.z));(case au=>exact bh.z);rintro e asR ⟨rfl,hb⟩;refine ⟨_,rfl,?_⟩;replace aqK:=iG aqK hb;replace cn:=eC cn hb;replace aa:=kB aa hb;replace HB:=bW hb;have NQ:0≤(dQ:Int):=oD;have N6:(dQ:Int) < ((mY.length:Int):Int):=oD;obtain ⟨Et,l9,SP,Tf,aeD,anc,PS⟩:=Kd.qG cn.z (by omega);(first|cases SP|(injection SP with bC eo ek;(first|subst bC|(injection bC with bC;subst bC));subst ek;clear eo));have YP:=k0 Tf;have ak2:=k0 PS;clear Tf aeD PS;obtain ⟨aoS,an2⟩:=Kd.kR 0 cn.z (dQ:Int) NQ N6;replace NQ:=eT NQ;replace N6:=eT N6;obtain ⟨aoZ,ao1⟩:=Kd.kR 0 cn.z (dQ:Int) oD oD;have Ko:=Kd.ar0 cn.z (dQ:Int) 1)|((with_reducible refine qi (t:=2) (p:=31) rfl ?_);refine qq (t:=2) (p:=31) (v:=?ap1) (w1:=(asR.setCell ⟨Et,(dQ:Int).toNat,none⟩ (.int .i64 1))) ?hg ?ho ?hn ?hr ?_;(case ho=>rfl);(case hg=>rfl);(case hn=>rfl);(case hr=>first|(go_simp;done)|(go_simp;rfl));intro vw hw;have hg:asR.grownBy vw (some Et):=(by rw [hw];exact Ko.2);have gp:Kd.R (Kd.int .i64) 2 vw w.heap.size (fun _=>True) (.slice (some ⟨Et,0,none⟩) mY.length l9) qx:=(by rw [hw,rY.z];exact Ko.1);clear Ko;replace aqK:=k0 (Kd.mF (v:=(.slice (some ⟨Et,0,none⟩) mY.length l9)) (v1:=(.slice (some ⟨Et,0,none⟩) mY.length l9)) (ok:=(fun _=>True)) (aS (Kd.b6 aqK.z (fun _ hk=>⟨trivial,hk⟩))) hg (.inl rfl));replace aa:=k0 (aq2 (aB aa.z) hg (Kd.aro cn.z aa.z (by decide)));replace cn:=k0 (gp);replace HB:=k0 ((by rw [hw];exact lZ (HB.z) YP.out:Below w.heap.size w vw));clear hg hw gp))
     first|go_roundg k2|(simp only [← uK];go_roundg k2)
     case measure=>have:=aI.z;have:=aqL.z;omega
     case rel=>exact ⟨(qx),(wrap64 (dQ+1)),rs,(by first|exact H'|(rw [uK];exact H')),⟨by have:=aI.z;have:=aqL.z;omega⟩,⟨aS (Kd.b6 aqK.z (fun _ hk=>hk.2))⟩,⟨aR (cn.z)⟩,⟨bk⟩,⟨bl⟩⟩
/-! ### F103: function 103 -/
def qz.f (a0:Int) (a1:Int):Option (Int):=if a0=0 then (none) else (some (Int.tmod (wrap64 ((Int.tmod a1 a0)+a0)) a0))
theorem qz.calls (a0 : Int) (a1 : Int) (r : Int) (w : World) (h : qz.f a0 a1 = some r) :
  Calls Try.prog 103 #[.int .i64 a0,.int .i64 a1] w fun e w'=>e=.returned (.int .i64 r)∧eX w w':=by
 unfold qz.f at h
 have H:=h
 clear h
 by_cases c3:a0=0
 case neg =>
  rw [if_neg c3] at H
  have ia:=beq_eq_false_iff_ne.mpr c3
  have qb:=bne_iff_ne.mpr c3
  obtain rfl:=Option.some.inj H
  go_enter Try.func103,Try.ntmps103
  go_wp2
  go_ret
  exact ⟨rs,dW⟩
 rw [if_pos c3] at H
 exact absurd H (by simp)
/-! ### F104: function 104 -/
def pN.l0 : Nat → Int → Int → Int → Option (Int)
 | 0,_,_,_=>none
 | k+1,x0,x1,x5=>if x5 < x0 then ((qz.f x0 x1).bind fun t101=>(if x0=0 then (none) else (if (Int.tmod (wrap64 (x5 * t101)) x0)=1 then (some x5) else (pN.l0 k x0 x1 (wrap64 (x5+1)))))) else (some 0)
def pN.f (k:Nat) (a0:Int) (a1:Int):Option (Int):=pN.l0 k a0 a1 1
theorem pN.calls (k : Nat) (a0 : Int) (a1 : Int) (r : Int) (w : World) (h : pN.f k a0 a1 = some r) :
  Calls Try.prog 104 #[.int .i64 a0,.int .i64 a1] w fun e w'=>e=.returned (.int .i64 r)∧eX w w':=by
 unfold pN.f at h
 have H:=h
 clear h
 have H':=k0 H
 clear H
 go_enter Try.func104,Try.ntmps104
 go_wp2
 go_loopg [5] k (fun kq v5 w'=>∃ (bK:Int),v5=.int .i64 bK∧ai (pN.l0 kq a0 a1 bK=some r)∧ai (kq≤k)∧eX w w')
 case atStart=>exact ⟨(1),rs,H',⟨Nat.le_refl _⟩,dW⟩
 case round =>
  clear H'
  obtain ⟨bK,rfl,HA,aI,⟨m1,rfl⟩⟩:=hrel
  cases gk with
  | zero=>exact absurd HA.z (by simp [pN.l0])
  | succ k1 =>
   have H:=HA.z
   clear HA
   simp only [pN.l0] at H
   replace H:=iC H;obtain ⟨ia,H⟩|⟨ia,H⟩:=H
   case inl =>
    obtain rfl:=Option.some.inj H
    go_wp2
    go_ret
    exact ⟨rs,dW⟩
   replace H:=bS H;obtain ⟨t101,A4,H⟩:=H
   by_cases c5:a0=0
   case neg =>
    rw [if_neg c5] at H
    have gD:=beq_eq_false_iff_ne.mpr c5
    have arP:=bne_iff_ne.mpr c5
    replace H:=iE H;obtain ⟨c6,fN,lJ,H⟩|⟨fN,lJ,H⟩:=H
    case inl =>
     have H':=k0 H
     clear H
     go_wp2_with (first|(refine aqz (f:=103) rfl ?_;refine gC (some 14) Try.func103 #[.int .i64 a0,.int .i64 a1] ?_;(with_reducible refine (qz.calls a0 a1 t101 _ A4.z).mono ?_);rintro e w' ⟨rfl,⟨nd,rfl⟩⟩;refine ⟨_,rfl,?_⟩))
     go_roundg k1
     case measure=>have:=aI.z;omega
     case rel=>exact ⟨(wrap64 (bK+1)),rs,H',⟨by have:=aI.z;omega⟩,dW⟩
    obtain rfl:=Option.some.inj H
    go_wp2_with (first|(refine aqz (f:=103) rfl ?_;refine gC (some 14) Try.func103 #[.int .i64 a0,.int .i64 a1] ?_;(with_reducible refine (qz.calls a0 a1 t101 _ A4.z).mono ?_);rintro e w' ⟨rfl,⟨nd,rfl⟩⟩;refine ⟨_,rfl,?_⟩))
    go_ret
    exact ⟨rs,dW⟩
   rw [if_pos c5] at H
   exact absurd H (by simp)
end Go.Proofs.Ytapnggjaeehpdaa.A
/- Set with little white space, by a program. -/
