/- The functions that one law reaches, each as a Lean function, and that Go's call comes to what it says. Condition of each: that the Lean function answers (is not none). -/
import Derived.Test.YtapnggjaeehpdaaAx0
import Derived.Test.YtapnggjaeehpdaaAx1
import Derived.Test.YtapnggjaeehpdaaAx2
import Derived.Test.YtapnggjaeehpdaaAx5
import Derived.Test.YtapnggjaeehpdaaAx6
import Derived.Test.YtapnggjaeehpdaaAx8
import Derived.Test.YtapnggjaeehpdaaAx9
import Derived.Test.YtapnggjaeehpdaaAx11
import Derived.Test.YtapnggjaeehpdaaAx14
namespace Go.Proofs.Ytapnggjaeehpdaa.A
open Go.RowKit Go.Proofs.bB.dI Go.Proofs.bB.ark Go.Proofs.bB.jd
attribute [local go_sem] max2_int min2_int max_two min_two max_three min_three max_four min_four   -- for this text's walks alone
set_option linter.unusedVariables false
set_option linter.unusedSimpArgs false
set_option maxHeartbeats 8000000
set_option maxRecDepth 100000
/-! ### F14: function 14 -/
mutual
def eY.j0 : Nat → Int → Int → Int → Int → Int → Bool → Int → List (List Int) → Option (Int × Int)
 | 0,_,_,_,_,_,_,_,_=>none
 | k+1,x1,x2,x3,x4,dJ,Ba,dx,cF=>if Ba=true then (eY.j1 k x1 x2 x3 x4 2 dx cF) else (eY.j1 k x1 x2 x3 x4 dJ dx cF)
def eY.j1 : Nat → Int → Int → Int → Int → Int → Int → List (List Int) → Option (Int × Int)
 | 0,_,_,_,_,_,_,_=>none
 | k+1,x1,x2,x3,x4,dJ,dx,cF=>if dJ=0 then ((aU.f k dx cF x1 x2).bind fun mG=>(if mG.2=0 then (some (0,5)) else (if 0≤x3 then (if x3 < (mG.1.length:Int) then (if 0≤x4 then (if x4 < ((ah mG.1 x3).length:Int) then (some (rd (ah mG.1 x3) x4,0)) else (none)) else (none)) else (none)) else (none)))) else (some (0,dJ))
end
def eY.f (k:Nat) (ag:Int) (af:List (List Int)) (a1:Int) (a2:Int) (a3:Int) (a4:Int):Option (Int × Int):=(iO.f k ag af a1 (([a2]:List Int))).bind fun t105=>(if t105=0 then ((aq4.f a3 0 (wrap64 ((wrap64 (2 * (af.length:Int))) - 1))).bind fun t106=>(if t106=true then ((aq4.f a4 0 (wrap64 ((wrap64 (2 * (af.length:Int))) - 1))).bind fun t107=>(eY.j0 k a1 a2 a3 a4 t105 (!t107) ag af)) else (eY.j0 k a1 a2 a3 a4 t105 true ag af))) else (eY.j0 k a1 a2 a3 a4 t105 false ag af))
def eY.T1:Bool × List (List Nat × List Nat):=(true,[([],[]),([],[]),([],[]),([2],[2]),([0,1,3],[0,1,3]),([],[]),([5],[5]),([6],[6]),([7],[7]),([4,4,0,1,2,3,4],[4]),([8,9,0,1,2,3,4,5,6,7,8,9],[8])])
def eY.B1:List Nat:=[0,0,0,4,15,0,32,96,224,31,1023]
theorem eY.Ov:eH .any (opsOf Try.f14 1)=eY.T1:=by kernel_rfl
theorem eY.Li:iL eY.T1.2 eY.B1=true:=by kernel_rfl
theorem eY.calls (k : Nat) (ag : Int) (az : Option Addr) (ay : Nat) (af : List (List Int)) (a1 : Int) (a2 : Int) (a3 : Int) (a4 : Int) (r1 : Int) (r2 : Int) (w : World) (aqO : Kd.C (Kd.slice 2 (Kd.int .i64)) w az af.length af) (bG : af.length ≤ ay) (h : eY.f k ag af a1 a2 a3 a4 = some (r1, r2)) :
  Calls Try.prog 14 #[.agg #[.int .i64 ag,.slice az af.length ay],.int .i64 a1,.int .i64 a2,.int .i64 a3,.int .i64 a4] w fun e w'=>e=.returned (.tuple #[.int .i64 r1,.int .i64 r2])∧Below w.heap.size w w':=by
 have eE:=Try.underlying26
 have aW:=k0 aqO
 have bh:=k0 bG
 clear aqO bG
 have HB:=k0 (Below.refl w.heap.size w)
 unfold eY.f at h
 have H:=h
 clear h
 obtain ⟨gq,gv⟩:=nY (([a2]:List Int):List Int)
 replace H:((iO.f k ag af a1 gq).bind fun t105=>(if t105=0 then ((aq4.f a3 0 (wrap64 ((wrap64 (2 * (af.length:Int))) - 1))).bind fun t106=>(if t106=true then ((aq4.f a4 0 (wrap64 ((wrap64 (2 * (af.length:Int))) - 1))).bind fun t107=>(eY.j0 k a1 a2 a3 a4 t105 (!t107) ag af)) else (eY.j0 k a1 a2 a3 a4 t105 true ag af))) else (eY.j0 k a1 a2 a3 a4 t105 false ag af)))=some (r1,r2):=rH gv.z H
 replace H:=bS H;obtain ⟨t105,A6,H⟩:=H
 have zC:=k0 H
 clear H
 go_enter Try.func14,Try.ntmps14
 try go_wp2_with (first|(refine aqI (N:=5) rfl ?_;refine cz 5 #[.int .i64 ag,.slice az af.length ay] 26 bl ?_;intro aA w8 aa aqF HB;have aqR:=aqF))
 replace aa:=k0 (cJ aa.z);replace HB:=k0 (aqW HB.z)
 refine gz (n:=11) (S:=fun w'=>w'.cell? ⟨aA,0,none⟩=some (.int .i64 ag)∧w'.cell? ⟨aA,1,none⟩=some (.slice az af.length ay)) (ds:=[]) (ba 11 0) (by kernel_rfl) rfl rfl ⟨cH aa,cE aa⟩ (fun hHeld=>?_);refine hJ eY.Ov eY.Li (fun ak bE=>?_)
 generalize w8.drew=w9 at aa HB hHeld ⊢
 refine pu 1 (some 17) (ba 11 2) ak (h:=?_)
 refine pu 2 (some 18) (ba 11 6) ak (h:=?_)
 refine pu 5 (some 21) (ba 11 38) ak (h:=?_)
 refine ta 0 (some 16) (ba 11 39) ak bE hHeld (hy:=Or.inl ⟨by rfl,by rintro w' ⟨s0,s1⟩;go_simp;with_reducible rfl⟩) (h:=?_)
 refine ta 6 (some 22) (ba 11 103) ak bE hHeld (hy:=Or.inl ⟨by rfl,by rintro w' ⟨s0,s1⟩;go_simp;with_reducible rfl⟩) (h:=?_)
 refine pu 7 (some 23) (ba 11 231) ak (h:=?_)
 refine pu 8 (some 24) (ba 11 487) ak (h:=?_)
 refine eG (i:=3) (N:=some 19) (ba 11 495) rfl rfl (dU ak.out (by kernel_rfl)) (by decide) (fun K hK=>?_)
 refine Kd.GU (Kd.int .i64) _ 2 ?hg (N:=19) ?hd (xs:=([a2]:List Int)) (inner:=[.int .i64 a2]) (ok:=fun _=>True) (bw:=fun _=>True) ?hr ?hp (fun _ hk=>hk) trivial (Below.refl _ _) (Nat.le_refl _) (by simp) ?_;(case hd=>rfl);(case hg=>rfl);(case hr=>first|(go_simp;done)|(go_simp;rfl));(case hp=>exact (aH.one (show Kd.M (Kd.int .i64) _ _ _ a2 [.int .i64 a2] from rfl) (aH.none _ _)))
 intro ary jh oh hb bH bI
 clear bH bI
 (first|rw [← gv.z] at oh|(simp only [Int.reduceToNat] at oh;rw [← gv.z] at oh))
 have bU:=k0 (Kd.cA oh (aqG bl));replace aa:=kB aa hb;replace HB:=bW hb
 clear hb oh
 obtain ⟨zk,asE,Ed⟩:=Kd.cy bU.z
 (first|subst Ed|(injection Ed with gh jY fU;have jZ:=gh.symm;have arq:=fU.symm;clear gh jY fU;subst jZ;subst arq))
 refine hK.out _ _ ⟨cH aa,cE aa⟩ (fun hHeld=>?_)
 clear hK K
 refine eV (a':=?_) ?_ ?_
 rotate_left;· show Act.put _ (some 19) _=_;simp only [Act.put,zI,zZ,zS,bJ,ck];rfl
 refine eG (i:=4) (N:=some 20) (ba 11 511) rfl rfl (dU ak.out (by kernel_rfl)) (by decide) (fun K hK=>?_)
 refine iy Try.func55 (by kernel_rfl) rfl #[.agg #[.int .i64 ag,.slice az af.length ay],.int .i64 a1,.slice zk gq.length asE] (by rfl) rfl rfl gm ?_
 with_reducible refine (iO.calls k ag _ _ af a1 _ _ gq t105 _ ?aq ?au ?cr ?dw A6.z).mono ?_
 (case aq=>exact aC (Kd.aqN aW.z HB.z))
 (case au=>exact bh.z)
 (case cr=>exact aC ((Kd.aqP bU.z).2.2))
 (case dw=>exact (Kd.aqP bU.z).2.1)
 rintro e oC ⟨rfl,hb⟩
 refine ⟨_,rfl,?_⟩
 replace bU:=eC bU hb;replace aa:=kB aa hb;replace HB:=bW hb
 refine hK.out _ _ ⟨cH aa,cE aa⟩ (fun hHeld=>?_)
 clear hK K
 refine eV (a':=?_) ?_ ?_
 rotate_left;· show Act.put _ (some 20) _=_;simp only [Act.put,zI,zZ,zS,bJ,ck];rfl
 refine pu 9 (some 12) (ba 11 1023) ak (h:=?_)
 refine pu 10 (some 13) (ba 11 2047) ak (h:=?_)
 refine gx (gZ ak.out (by kernel_rfl)) ?_
 go_upto_region 2 with (fail)
 go_cut [40] (fun v40 wc=>∃ (kq:Nat) (Jv:Bool),v40=.bool Jv∧ai (eY.j0 kq a1 a2 a3 a4 t105 Jv ag af=some (r1,r2))∧ai (kq≤k)∧ai (wc.heap[aA]?=some (sO ag az af ay 26))∧ai (Below w.heap.size w wc))
 case first =>
  have H:=zC.z
  clear zC
  replace H:=iE H;obtain ⟨c14,mH,DS,H⟩|⟨mH,DS,H⟩:=H
  case inl =>
   (first|rw [mH]|(simp only [bJ,ck];rw [mH])|skip)
   have H':=k0 H
   clear H
   go_wp2
   go_meet
   case rel=>exact ⟨_,(false),rs,H',⟨oL⟩,⟨bk⟩,⟨bl⟩⟩
  (first|rw [mH]|(simp only [bJ,ck];rw [mH])|skip)
  replace H:=bS H;obtain ⟨t106,Gk,H⟩:=H
  cases t106
  case false =>
   replace H:=iF H
   have H':=k0 H
   clear H
   go_wp2_with (first|(go_at_call 61;(with_reducible refine (aq4.calls a3 0 (wrap64 ((wrap64 (2 * (af.length:Int))) - 1)) false _ Gk.z).mono ?_);rintro e w' ⟨rfl,⟨nd,rfl⟩⟩))
   go_meet
   case rel=>exact ⟨_,(true),rs,H',⟨oL⟩,⟨bk⟩,⟨bl⟩⟩
  replace H:=iT H
  replace H:=bS H;obtain ⟨t107,Gm,H⟩:=H
  have H':=k0 H
  clear H
  go_wp2_with (first|(go_at_call 61;(with_reducible refine (aq4.calls a3 0 (wrap64 ((wrap64 (2 * (af.length:Int))) - 1)) true _ Gk.z).mono ?_);rintro e w' ⟨rfl,⟨nd,rfl⟩⟩)|(go_at_call 61;(with_reducible refine (aq4.calls a4 0 (wrap64 ((wrap64 (2 * (af.length:Int))) - 1)) t107 _ Gm.z).mono ?_);rintro e w' ⟨rfl,⟨nd,rfl⟩⟩))
  go_meet
  case rel=>exact ⟨_,(!t107),rs,H',⟨oL⟩,⟨bk⟩,⟨bl⟩⟩
 case rest =>
  clear zC
  obtain ⟨kq,Jv,rfl,HA,kM,aa,HB⟩:=hcut
  cases kq with
  | zero=>exact absurd HA.z (by simp [eY.j0])
  | succ Im =>
   have H:=HA.z
   clear HA
   simp only [eY.j0] at H
   have Ke:=k0 H
   clear H
   go_upto_if 40 with (fail)
   go_cut [12] (fun asx wc=>∃ (kq:Nat) (O0:Int),asx=.int .i64 O0∧ai (eY.j1 kq a1 a2 a3 a4 O0 ag af=some (r1,r2))∧ai (kq≤Im)∧ai (wc.heap[aA]?=some (sO ag az af ay 26))∧ai (Below w.heap.size w wc))
   case first =>
    have H:=Ke.z
    clear Ke
    cases Jv
    case false =>
     replace H:=iF H
     have H':=k0 H
     clear H
     go_wp2
     go_meet
     case rel=>exact ⟨_,(t105),rs,H',⟨by have:=kM.out;first|omega|exact Nat.le_refl _⟩,⟨bk⟩,⟨bl⟩⟩
    replace H:=iT H
    have H':=k0 H
    clear H
    go_wp2
    go_meet
    case rel=>exact ⟨_,(2),rs,H',⟨by have:=kM.out;first|omega|exact Nat.le_refl _⟩,⟨bk⟩,⟨bl⟩⟩
   case rest =>
    clear Ke
    obtain ⟨kq,O0,rfl,HA,alv,aa,HB⟩:=hcut
    cases kq with
    | zero=>exact absurd HA.z (by simp [eY.j1])
    | succ VP =>
     have H:=HA.z
     clear HA
     simp only [eY.j1] at H
     replace H:=iE H;obtain ⟨c20,vP,Lz,H⟩|⟨vP,Lz,H⟩:=H
     case inl =>
      simp only [Option.some.injEq,Prod.mk.injEq] at H
      obtain ⟨rfl,rfl⟩:=H
      go_wp2
      go_ret2
      exact ⟨eR,bl⟩
     replace H:=bS H;obtain ⟨⟨t108,t111⟩,Pb,H⟩:=H
     dsimp only at H
     replace H:=iE H;obtain ⟨c22,B2,acS,H⟩|⟨B2,acS,H⟩:=H
     case inl =>
      replace H:=iS H;obtain ⟨c25,H⟩:=H
      have asz:=decide_eq_true c25
      clear c25
      replace H:=iS H;obtain ⟨c26,H⟩:=H
      have as0:=decide_eq_true c26
      clear c26
      replace H:=iS H;obtain ⟨c27,H⟩:=H
      have acT:=decide_eq_true c27
      clear c27
      replace H:=iS H;obtain ⟨c28,H⟩:=H
      have G9:=decide_eq_true c28
      clear c28
      simp only [Option.some.injEq,Prod.mk.injEq] at H
      obtain ⟨rfl,rfl⟩:=H
      obtain ⟨_,_,_,_⟩:=aqA aa
      go_wp2_with (first|(refine aqz (f:=56) rfl ?_;refine gC (some 48) Try.func56 #[.agg #[.int .i64 ag,.slice az af.length ay],.int .i64 a1,.int .i64 a2] ?_;(with_reducible refine (aU.calls VP ag _ _ af a1 a2 t108 t111 _ ?aq ?au Pb.z).mono ?_);(case aq=>exact aC (Kd.aqN aW.z HB.z));(case au=>exact bh.z);rintro e CV ⟨ar1,rfl,aD,hb⟩;refine ⟨_,rfl,?_⟩;have kN:=k0 (Kd.fT aD (aqG bl));replace aa:=kB aa hb;replace HB:=bW hb;obtain ⟨zm,vR,rfl⟩:=Kd.dL kN.z;obtain ⟨iZ,iA⟩:=iN a3 (t108.length:Int);obtain ⟨ur,JD,BX,e112,tv,uN,uH⟩:=cD (Kd.a_ kN.z).2.2 a3 iZ iA;cases e112;obtain ⟨LM,Ae,Ab,uD⟩:=Kd.aq9 kN.z [] a3 iZ (by first|exact iA|exact oD|(have e_:=(Kd.a_ kN.z).1;omega));obtain ⟨OP,rfl,qM⟩:=Ab;have arD:=uD 0 _ rfl;rw [Nat.add_zero,show ((Kd.slice 2 (Kd.int .i64))).sz=1 from rfl,Nat.mul_one] at arD;replace arD:=Option.some.inj (arD.symm.trans tv);rw [arD] at qM;have nX:=k0 (show Kd.R (Kd.int .i64) 2 _ _ _ _ (ah t108 a3) from qM);clear arD qM;clear uD Ae;have uf:=k0 uH;have J8:=k0 uN;clear uH uN;replace iZ:=eT iZ;replace iA:=eT iA;obtain ⟨tF,tH⟩:=iN a4 ((ah t108 a3).length:Int);obtain ⟨BN,e113,Cw⟩:=Kd.bM (by repeat (first|(with_reducible exact uf.z)|(with_reducible refine Kd.fP ?_ _)|(with_reducible refine Kd.fQ ?_ _)|(with_reducible refine Kd.fk ?_)|exact uf.z)) a4 tF tH;cases e113;replace tF:=eT tF;replace tH:=eT tH))
      go_ret2
      exact ⟨eR,bl⟩
     simp only [Option.some.injEq,Prod.mk.injEq] at H
     obtain ⟨rfl,rfl⟩:=H
     obtain ⟨_,_,_,_⟩:=aqA aa
     go_wp2_with (first|(refine aqz (f:=56) rfl ?_;refine gC (some 48) Try.func56 #[.agg #[.int .i64 ag,.slice az af.length ay],.int .i64 a1,.int .i64 a2] ?_;(with_reducible refine (aU.calls VP ag _ _ af a1 a2 t108 t111 _ ?aq ?au Pb.z).mono ?_);(case aq=>exact aC (Kd.aqN aW.z HB.z));(case au=>exact bh.z);rintro e za ⟨ar1,rfl,aD,hb⟩;refine ⟨_,rfl,?_⟩;have kN:=k0 (Kd.fT aD (aqG bl));replace aa:=kB aa hb;replace HB:=bW hb))
     go_ret2
     exact ⟨eR,bl⟩
/-! ### F63: function 63 -/
theorem ahP (w:World) (A:Addr) (x:Int) (h:w.cell? (A.add 0)=some (.int .i64 x)):Kd.C (Kd.int .i64) w (some A) 1 [x] :=
 Kd.Gt (d:=(0:Int)) (h1:=fun _=>rfl) ⟨rfl,by omega,fun _=>⟨A,rfl,fun j hj=>by
  obtain rfl:j=0:=by omega
  exact h⟩⟩
def xA.f (k:Nat) (ag:Int) (af:List (List Int)) (fM:Int) (eP:List (List Int)) (a2:Int):Option Int :=
 (jq.f k ag af).bind fun b=>if b=true then ((pW.f fM eP [a2]).bind fun q0=>if q0=true then some 0 else some 2) else some 1
theorem xA.calls {b1 : Nat} {b2 : Nat} (k : Nat) (ag : Int) (az : Option Addr) (ay : Nat) (af : List (List Int)) (fM : Int) (jC : Option Addr) (jL : Nat) (eP : List (List Int)) (a2 : Int) (r : Int) (w : World) (aqO : Kd.C (Kd.slice 2 (Kd.int .i64)) w az af.length af) (bG : af.length ≤ ay) (Vo : Kd.C (Kd.slice 2 (Kd.int .i64)) w jC eP.length eP) (afb : eP.length ≤ jL) (fc : w.heap[b1]? = some (sO fM jC eP jL 26)) (eU : w.heap[b2]? = some (.cells #[.int .i64 a2] 2 (0, 0))) (h : xA.f k ag af fM eP a2 = some r) :
  Calls Try.prog 62 #[.agg #[.int .i64 ag,.slice az af.length ay],.func (.func 63) #[] #[.pointer (some ⟨b1,0,none⟩),.pointer (some ⟨b2,0,none⟩)]] w fun e w'=>e=.returned (.int .i64 r)∧Below w.heap.size w w':=by
 have cP:=k0 aqO
 clear aqO
 have ue:=k0 Vo
 clear Vo
 have arn:=k0 fc
 have Yw:=ar' fc
 clear fc
 have mZ:=k0 eU
 have Yx:=ar' eU
 clear eU
 unfold xA.f at h
 obtain ⟨b,hb,h⟩:=Option.bind_eq_some_iff.mp h
 have HG:=fun W (hw:Below w.heap.size w W)=>jq.calls k ag az ay af b W (Kd.aqN cP.z hw) bG hb
 have xE:=k0 HG
 clear HG hb
 cases b with
 | false =>
  simp only [Bool.false_eq_true,if_false,Option.some.injEq] at h
  subst h
  go_enter Try.func62,Try.ntmps62
  go_wp2_with (first|(go_at_call 66;refine (xE.out _ (by repeat (first|exact Below.refl _ _|apply eu|apply fh))).mono ?_;rintro e w1 ⟨rfl,fc⟩;have dO:=k0 (dc (by repeat (first|exact Below.refl _ _|apply eu|apply fh)) fc:Below w.heap.size w w1);clear fc;have Ch:w1.cell? ⟨b1,0,none⟩=some (.int .i64 fM):=(fI (cV arn.z dO.z) 0).trans rfl;have Cj:=gY (cV arn.z dO.z) 0;have Uf:w1.cell? ⟨b1,1,none⟩=some (.slice jC eP.length jL):=(fI (cV arn.z dO.z) 1).trans rfl;have Uq:=gY (cV arn.z dO.z) 1;have Ci:w1.cell? ⟨b2,0,none⟩=some (.int .i64 a2):=(fI (cV mZ.z dO.z) 0).trans rfl;have Ck:=gY (cV mZ.z dO.z) 0)|go_in)
  go_ret
  exact ⟨rs,by repeat (first|exact dO.z|apply eu|apply fh|apply aqW)⟩
 | true =>
  simp only [if_true] at h
  obtain ⟨q0,E2,h⟩:=Option.bind_eq_some_iff.mp h
  have Dj:=fun W B (hw:Below w.heap.size w W) (hx:W.cell? ((⟨B,0,none⟩:Addr).add 0)=some (.int .i64 a2))=>pW.calls fM jC jL eP (some ⟨B,0,none⟩) 1 [a2] q0 W (Kd.aqN ue.z hw) afb (ahP W ⟨B,0,none⟩ a2 hx) (by simp) E2
  have By:=k0 Dj
  clear Dj E2
  cases q0 with
  | false =>
   simp only [Bool.false_eq_true,if_false,Option.some.injEq] at h
   subst h
   go_enter Try.func62,Try.ntmps62
   go_wp2_with (first|(go_at_call 66;refine (xE.out _ (by repeat (first|exact Below.refl _ _|apply eu|apply fh))).mono ?_;rintro e w1 ⟨rfl,fc⟩;have dO:=k0 (dc (by repeat (first|exact Below.refl _ _|apply eu|apply fh)) fc:Below w.heap.size w w1);clear fc;have Ch:w1.cell? ⟨b1,0,none⟩=some (.int .i64 fM):=(fI (cV arn.z dO.z) 0).trans rfl;have Cj:=gY (cV arn.z dO.z) 0;have Uf:w1.cell? ⟨b1,1,none⟩=some (.slice jC eP.length jL):=(fI (cV arn.z dO.z) 1).trans rfl;have Uq:=gY (cV arn.z dO.z) 1;have Ci:w1.cell? ⟨b2,0,none⟩=some (.int .i64 a2):=(fI (cV mZ.z dO.z) 0).trans rfl;have Ck:=gY (cV mZ.z dO.z) 0)|(go_at_call 60;refine (By.out _ _ (by repeat (first|exact dO.z|apply eu|apply fh)) (by go_simp)).mono ?_;rintro e w2 ⟨rfl,jN⟩;have iP:=k0 (dc (by repeat (first|exact dO.z|apply eu|apply fh)) jN:Below w.heap.size w w2);clear jN;have afF:w2.cell? ⟨b1,0,none⟩=some (.int .i64 fM):=(fI (cV arn.z iP.z) 0).trans rfl;have afQ:=gY (cV arn.z iP.z) 0;have afG:w2.cell? ⟨b1,1,none⟩=some (.slice jC eP.length jL):=(fI (cV arn.z iP.z) 1).trans rfl;have afR:=gY (cV arn.z iP.z) 1;have afH:w2.cell? ⟨b2,0,none⟩=some (.int .i64 a2):=(fI (cV mZ.z iP.z) 0).trans rfl;have afS:=gY (cV mZ.z iP.z) 0)|go_in)
   go_ret
   exact ⟨rs,by repeat (first|exact iP.z|apply eu|apply fh|apply aqW)⟩
  | true =>
   simp only [if_true] at h
   simp only [Option.some.injEq] at h
   subst h
   go_enter Try.func62,Try.ntmps62
   go_wp2_with (first|(go_at_call 66;refine (xE.out _ (by repeat (first|exact Below.refl _ _|apply eu|apply fh))).mono ?_;rintro e w1 ⟨rfl,fc⟩;have dO:=k0 (dc (by repeat (first|exact Below.refl _ _|apply eu|apply fh)) fc:Below w.heap.size w w1);clear fc;have Ch:w1.cell? ⟨b1,0,none⟩=some (.int .i64 fM):=(fI (cV arn.z dO.z) 0).trans rfl;have Cj:=gY (cV arn.z dO.z) 0;have Uf:w1.cell? ⟨b1,1,none⟩=some (.slice jC eP.length jL):=(fI (cV arn.z dO.z) 1).trans rfl;have Uq:=gY (cV arn.z dO.z) 1;have Ci:w1.cell? ⟨b2,0,none⟩=some (.int .i64 a2):=(fI (cV mZ.z dO.z) 0).trans rfl;have Ck:=gY (cV mZ.z dO.z) 0)|(go_at_call 60;refine (By.out _ _ (by repeat (first|exact dO.z|apply eu|apply fh)) (by go_simp)).mono ?_;rintro e w2 ⟨rfl,jN⟩;have iP:=k0 (dc (by repeat (first|exact dO.z|apply eu|apply fh)) jN:Below w.heap.size w w2);clear jN;have afF:w2.cell? ⟨b1,0,none⟩=some (.int .i64 fM):=(fI (cV arn.z iP.z) 0).trans rfl;have afQ:=gY (cV arn.z iP.z) 0;have afG:w2.cell? ⟨b1,1,none⟩=some (.slice jC eP.length jL):=(fI (cV arn.z iP.z) 1).trans rfl;have afR:=gY (cV arn.z iP.z) 1;have afH:w2.cell? ⟨b2,0,none⟩=some (.int .i64 a2):=(fI (cV mZ.z iP.z) 0).trans rfl;have afS:=gY (cV mZ.z iP.z) 0)|go_in)
   go_ret
   exact ⟨rs,by repeat (first|exact iP.z|apply eu|apply fh|apply aqW)⟩
/-! ### F65: function 65 -/
def xB.f (ag:Int) (af:List (List Int)) (a1:Int) (a2:Int):Option (Bool):=(oM.f ag af a1).bind fun cN=>((oM.f ag af a2).bind fun Lp=>(if Lp.1=cN.2 then (some (a2 != (Go.bits .xor .i64 a1 1))) else (some false)))
theorem xB.calls (ag : Int) (az : Option Addr) (ay : Nat) (af : List (List Int)) (a1 : Int) (a2 : Int) (r : Bool) (w : World) (aqO : Kd.C (Kd.slice 2 (Kd.int .i64)) w az af.length af) (bG : af.length ≤ ay) (h : xB.f ag af a1 a2 = some r) :
  Calls Try.prog 65 #[.agg #[.int .i64 ag,.slice az af.length ay],.int .i64 a1,.int .i64 a2] w fun e w'=>e=.returned (.bool r)∧Below w.heap.size w w':=by
 have eE:=Try.underlying26
 have aW:=k0 aqO
 have bh:=k0 bG
 clear aqO bG
 have HB:=k0 (Below.refl w.heap.size w)
 unfold xB.f at h
 have H:=h
 clear h
 replace H:=bS H;obtain ⟨⟨t102,t103⟩,A4,H⟩:=H
 dsimp only at H
 replace H:=bS H;obtain ⟨⟨t104,t105⟩,A5,H⟩:=H
 dsimp only at H
 replace H:=iE H;obtain ⟨c6,fN,lJ,H⟩|⟨fN,lJ,H⟩:=H
 case inl =>
  obtain rfl:=Option.some.inj H
  go_enter Try.func65,Try.ntmps65
  go_wp2_with (first|(refine aqI (N:=3) rfl ?_;refine cz 3 #[.int .i64 ag,.slice az af.length ay] 26 bl ?_;intro aA oB aa aqF HB;have aqR:=aqF;obtain ⟨_,_,_,_⟩:=aqA aa)|(refine aqz (f:=111) rfl ?_;refine gC (some 14) Try.func111 #[.agg #[.int .i64 ag,.slice az af.length ay],.int .i64 a1] ?_;(with_reducible refine (oM.calls ag _ _ af a1 t102 t103 _ ?aq ?au A4.z).mono ?_);(case aq=>exact aC (Kd.aqN aW.z HB.z));(case au=>exact bh.z);rintro e vv ⟨rfl,hb⟩;refine ⟨_,rfl,?_⟩;replace aa:=kB aa hb;replace HB:=bW hb;obtain ⟨_,_,_,_⟩:=aqA aa)|(refine aqz (f:=111) rfl ?_;refine gC (some 20) Try.func111 #[.agg #[.int .i64 ag,.slice az af.length ay],.int .i64 a2] ?_;(with_reducible refine (oM.calls ag _ _ af a2 t104 t105 _ ?aq ?au A5.z).mono ?_);(case aq=>exact aC (Kd.aqN aW.z HB.z));(case au=>exact bh.z);rintro e tN ⟨rfl,hb⟩;refine ⟨_,rfl,?_⟩;replace aa:=kB aa hb;replace HB:=bW hb))
  go_ret
  exact ⟨eR,bl⟩
 obtain rfl:=Option.some.inj H
 go_enter Try.func65,Try.ntmps65
 go_wp2_with (first|(refine aqI (N:=3) rfl ?_;refine cz 3 #[.int .i64 ag,.slice az af.length ay] 26 bl ?_;intro aA w7 aa aqF HB;have aqR:=aqF;obtain ⟨_,_,_,_⟩:=aqA aa)|(refine aqz (f:=111) rfl ?_;refine gC (some 14) Try.func111 #[.agg #[.int .i64 ag,.slice az af.length ay],.int .i64 a1] ?_;(with_reducible refine (oM.calls ag _ _ af a1 t102 t103 _ ?aq ?au A4.z).mono ?_);(case aq=>exact aC (Kd.aqN aW.z HB.z));(case au=>exact bh.z);rintro e w9 ⟨rfl,hb⟩;refine ⟨_,rfl,?_⟩;replace aa:=kB aa hb;replace HB:=bW hb;obtain ⟨_,_,_,_⟩:=aqA aa)|(refine aqz (f:=111) rfl ?_;refine gC (some 20) Try.func111 #[.agg #[.int .i64 ag,.slice az af.length ay],.int .i64 a2] ?_;(with_reducible refine (oM.calls ag _ _ af a2 t104 t105 _ ?aq ?au A5.z).mono ?_);(case aq=>exact aC (Kd.aqN aW.z HB.z));(case au=>exact bh.z);rintro e y9 ⟨rfl,hb⟩;refine ⟨_,rfl,?_⟩;replace aa:=kB aa hb;replace HB:=bW hb))
 go_ret
 exact ⟨eR,bl⟩
/-! ### F15: function 15 -/
def jE.l0 : Nat → List Int → Int → Int → Int → List (List Int) → Int → Option (List Int × Int)
 | 0,_,_,_,_,_,_=>none
 | k+1,x7,tQ,ji,dx,cF,OY=>if ji < tQ then ((xB.f dx cF OY ji).bind fun t108=>(if t108=true then (if x7.length < 17592186044416 then (jE.l0 k (x7 ++ [ji]) tQ (wrap64 (ji+1)) dx cF OY) else (none)) else (jE.l0 k x7 tQ (wrap64 (ji+1)) dx cF OY))) else (some (x7,0))
def jE.f (k:Nat) (ag:Int) (af:List (List Int)) (a1:Int):Option (List Int × Int):=(xA.f k ag af ag af a1).bind fun t103=>(if t103=0 then ((oO.f ag af).bind fun t107=>(jE.l0 k (([]:List Int)) (wrap64 (2 * t107)) 0 ag af a1)) else (some (([]:List Int),t103)))
theorem jE.calls (k : Nat) (ag : Int) (az : Option Addr) (ay : Nat) (af : List (List Int)) (a1 : Int) (r1 : List Int) (r2 : Int) (w : World) (aqO : Kd.C (Kd.slice 2 (Kd.int .i64)) w az af.length af) (bG : af.length ≤ ay) (h : jE.f k ag af a1 = some (r1, r2)) :
  Calls Try.prog 15 #[.agg #[.int .i64 ag,.slice az af.length ay],.int .i64 a1] w fun e w'=>∃ cR:Value,e=.returned (.tuple #[cR,.int .i64 r2])∧Kd.R (Kd.int .i64) 2 w' w.heap.size (fun _=>True) cR r1∧Below w.heap.size w w':=by
 have eE:=Try.underlying26
 have aW:=k0 aqO
 have bh:=k0 bG
 clear aqO bG
 have HB:=k0 (Below.refl w.heap.size w)
 unfold jE.f at h
 have H:=h
 clear h
 replace H:=bS H;obtain ⟨t103,A3,H⟩:=H
 replace H:=iE H;obtain ⟨c4,ej,qc,H⟩|⟨ej,qc,H⟩:=H
 case inl =>
  simp only [Option.some.injEq,Prod.mk.injEq] at H
  obtain ⟨rfl,rfl⟩:=H
  go_enter Try.func15,Try.ntmps15
  go_wp2_with (first|(refine aqI (N:=2) rfl ?_;refine cz 2 #[.int .i64 ag,.slice az af.length ay] 26 bl ?_;intro aA as9 aa aqF HB;have aqR:=aqF)|(refine aqI (N:=3) rfl ?_;refine fu 3 #[.int .i64 a1] 2 ?_;intro dG hg zb bq hb;have bL:=k0 (bq);have ni:=gW hg (aqG bl);have vI:=ni;replace HB:=bW hb;have gL:=nL hg aa;have wG:=nG gL;replace aa:=kB aa hb;clear hb bq hg;obtain ⟨_,_⟩:=nE gL;obtain ⟨_,_,_,_⟩:=aqA aa)|(refine aqz (f:=62) rfl ?_;refine gC (some 11) Try.func62 #[.agg #[.int .i64 ag,.slice az af.length ay],.func (.func 63) #[] #[.pointer (some ⟨aA,0,none⟩),.pointer (some ⟨dG,0,none⟩)]] ?_;(with_reducible refine (xA.calls k ag _ _ af ag az ay af a1 t103 _ ?aq ?au ?cr ?dw ?pF ?On A3.z).mono ?_);(case aq=>exact aC (Kd.aqN aW.z HB.z));(case au=>exact bh.z);(case cr=>exact aC (Kd.aqN aW.z HB.z));(case dw=>exact bh.z);(case pF=>exact by exact bk);(case On=>exact by exact bk);rintro e as_ ⟨rfl,hb⟩;refine ⟨_,rfl,?_⟩;replace aa:=kB aa hb;replace bL:=kB bL hb;replace HB:=bW hb))
  go_ret2
  exact ⟨_,eR,by first|exact Kd.p6 _ _ _ _ _|exact Kd.sX _ _ _ _ _|exact Kd.s6 _ _ _ _ _|exact Kd.sZ _ _ _ _ _|exact Kd.ase _ _ _ _ _,bl⟩
 obtain ⟨kI,jW⟩:=nY (([]:List Int):List Int)
 replace H:((oO.f ag af).bind fun t107=>(jE.l0 k kI (wrap64 (2 * t107)) 0 ag af a1))=some (r1,r2):=rH jW.z H
 replace H:=bS H;obtain ⟨t107,A5,H⟩:=H
 have H':=k0 H
 clear H
 go_enter Try.func15,Try.ntmps15
 go_wp2_with (first|(refine aqI (N:=2) rfl ?_;refine cz 2 #[.int .i64 ag,.slice az af.length ay] 26 bl ?_;intro aA w6 aa aqF HB;have aqR:=aqF)|(refine aqI (N:=3) rfl ?_;refine fu 3 #[.int .i64 a1] 2 ?_;intro dG hg w7 bq hb;have bL:=k0 (bq);have ni:=gW hg (aqG bl);have vI:=ni;replace HB:=bW hb;have gL:=nL hg aa;have wG:=nG gL;replace aa:=kB aa hb;clear hb bq hg;obtain ⟨_,_⟩:=nE gL;obtain ⟨_,_,_,_⟩:=aqA aa)|(refine aqz (f:=62) rfl ?_;refine gC (some 11) Try.func62 #[.agg #[.int .i64 ag,.slice az af.length ay],.func (.func 63) #[] #[.pointer (some ⟨aA,0,none⟩),.pointer (some ⟨dG,0,none⟩)]] ?_;(with_reducible refine (xA.calls k ag _ _ af ag az ay af a1 t103 _ ?aq ?au ?cr ?dw ?pF ?On A3.z).mono ?_);(case aq=>exact aC (Kd.aqN aW.z HB.z));(case au=>exact bh.z);(case cr=>exact aC (Kd.aqN aW.z HB.z));(case dw=>exact bh.z);(case pF=>exact by exact bk);(case On=>exact by exact bk);rintro e jh ⟨rfl,hb⟩;refine ⟨_,rfl,?_⟩;replace aa:=kB aa hb;replace bL:=kB bL hb;replace HB:=bW hb)|(refine aqI (N:=15) rfl ?_;refine Kd.gw (Kd.int .i64) _ 2 ?hg (N:=15) ?hd (xs:=([]:List Int)) (inner:=[]) (ok:=fun _=>True) (bw:=fun _=>True) ?hr ?hp (fun _ hk=>hk) trivial (Below.refl _ _) (Nat.le_refl _) (by simp) ?_;(case hd=>rfl);(case hg=>rfl);(case hr=>first|(go_simp;done)|(go_simp;rfl));(case hp=>exact (aH.none _ _));intro wj y9 uR hb bH bI;clear bH bI;(first|rw [← jW.z] at uR|(simp only [Int.reduceToNat] at uR;rw [← jW.z] at uR));have fF:=k0 (Kd.cA (Kd.abe uR (aB bL.z)) (aqG bl));replace aa:=kB aa hb;replace bL:=kB bL hb;replace HB:=bW hb;clear hb uR;obtain ⟨_,_,_,_⟩:=aqA aa)|(refine aqz (f:=64) rfl ?_;refine gC (some 17) Try.func64 #[.agg #[.int .i64 ag,.slice az af.length ay]] ?_;(with_reducible refine (oO.calls ag _ _ af t107 _ ?aq ?au A5.z).mono ?_);(case aq=>exact aC (Kd.aqN aW.z HB.z));(case au=>exact bh.z);rintro e vv ⟨rfl,hb⟩;refine ⟨_,rfl,?_⟩;replace fF:=eC fF hb;replace aa:=kB aa hb;replace bL:=kB bL hb;replace HB:=bW hb))
 go_loopg [7,19] k (fun kq v7 OK w'=>∃ (cQ:List Int) (sF:Int),OK=.int .i64 sF∧ai (jE.l0 kq cQ (wrap64 (2 * t107)) sF ag af a1=some (r1,r2))∧ai (kq≤k)∧ai (Kd.R (Kd.int .i64) 2 w' w.heap.size (fun k_=>k_ ≠ dG) v7 cQ)∧ai (w'.heap[aA]?=some (sO ag az af ay 26))∧ai (w'.heap[dG]?=some (.cells #[.int .i64 a1] 2 (0,0)))∧ai (Below w.heap.size w w'))
 case atStart=>exact ⟨(kI),(0),rs,H',⟨Nat.le_refl _⟩,⟨aR (Kd.aqM fF.z (fun _ hk=>hk.2))⟩,⟨bk⟩,⟨bk⟩,⟨bl⟩⟩
 case round =>
  clear H'
  obtain ⟨cQ,sF,rfl,HA,aI,jc,aa,bL,HB⟩:=hrel
  cases gk with
  | zero=>exact absurd HA.z (by simp [jE.l0])
  | succ k1 =>
   have H:=HA.z
   clear HA
   simp only [jE.l0] at H
   replace H:=iC H;obtain ⟨kU,H⟩|⟨kU,H⟩:=H
   case inl =>
    simp only [Option.some.injEq,Prod.mk.injEq] at H
    obtain ⟨rfl,rfl⟩:=H
    go_wp2
    go_ret2
    exact ⟨_,eR,aR (Kd.aqM jc.z (fun _ hk=>trivial)),bl⟩
   replace H:=bS H;obtain ⟨t108,tT,H⟩:=H
   cases t108
   case false =>
    replace H:=iF H
    have H':=k0 H
    clear H
    obtain ⟨_,_⟩:=nE gL
    obtain ⟨_,_,_,_⟩:=aqA aa
    obtain ⟨_,_⟩:=qg bL
    go_wp2_with (first|(refine aqz (f:=65) rfl ?_;refine gC (some 25) Try.func65 #[.agg #[.int .i64 ag,.slice az af.length ay],.int .i64 a1,.int .i64 sF] ?_;(with_reducible refine (xB.calls ag _ _ af a1 sF false _ ?aq ?au tT.z).mono ?_);(case aq=>exact aC (Kd.aqN aW.z HB.z));(case au=>exact bh.z);rintro e rL ⟨rfl,hb⟩;refine ⟨_,rfl,?_⟩;replace jc:=eC jc hb;replace aa:=kB aa hb;replace bL:=kB bL hb;replace HB:=bW hb))
    go_roundg k1
    case measure=>have:=aI.z;omega
    case rel=>exact ⟨(cQ),(wrap64 (sF+1)),rs,H',⟨by have:=aI.z;omega⟩,⟨aR (jc.z)⟩,⟨bk⟩,⟨bk⟩,⟨bl⟩⟩
   replace H:=iT H
   replace H:=iS H;obtain ⟨c18,H⟩:=H
   have Z8:=k0 c18
   clear c18
   obtain ⟨qx,rY⟩:=nY (cQ ++ [sF]:List Int)
   replace H:(jE.l0 k1 qx (wrap64 (2 * t107)) (wrap64 (sF+1)) ag af a1)=some (r1,r2):=rH rY.z H
   have H':=k0 H
   clear H
   obtain ⟨_,_⟩:=nE gL
   obtain ⟨_,_,_,_⟩:=aqA aa
   obtain ⟨_,_⟩:=qg bL
   go_wp2_with (first|(refine aqz (f:=65) rfl ?_;refine gC (some 25) Try.func65 #[.agg #[.int .i64 ag,.slice az af.length ay],.int .i64 a1,.int .i64 sF] ?_;(with_reducible refine (xB.calls ag _ _ af a1 sF true _ ?aq ?au tT.z).mono ?_);(case aq=>exact aC (Kd.aqN aW.z HB.z));(case au=>exact bh.z);rintro e nN ⟨rfl,hb⟩;refine ⟨_,rfl,?_⟩;replace jc:=eC jc hb;replace aa:=kB aa hb;replace bL:=kB bL hb;replace HB:=bW hb)|((with_reducible refine ars (b:=.append) (xs:=#[.tmp 26,.tmp 28]) rfl ?_);at_builtin;refine Kd.asb (Kd.int .i64) (w0:=w) w.heap.size rfl (.tmp 26) (.tmp 28) 29 2 (.int .i64 0) 8 rfl Try.underlying29 lS rfl (by decide) (by omega) u7 cQ sF [.int .i64 sF] (fun k_=>k_ ≠ dG) (fun _=>False) rfl rfl ?aP (fun _ hk=>hk.elim) ?aF ?aO ?aB ?aS ?aL ?_;(case aP=>exact rfl);(case aB=>exact bl);(case aF=>exact (fun k_ hk=>Kd.ig (aB bL.z) k_ hk));(case aO=>exact (aR jc.z));(case aS=>exact (aqG bl));(case aL=>have:=Z8.out;omega);intro q4 asy ho hb hg bg;rw [← rY.z] at ho;replace aa:=k0 (aq2 (aB aa.z) hg (Kd.aro jc.z aa.z (by decide)));replace bL:=k0 (aq2 (aB bL.z) hg (Kd.aba jc.z (fun _ hk=>hk)));replace HB:=k0 (hb);have ua:=k0 (ho);clear jc;clear ho hb hg bg))
   go_roundg k1
   case measure=>have:=aI.z;omega
   case rel=>exact ⟨(qx),(wrap64 (sF+1)),rs,H',⟨by have:=aI.z;omega⟩,⟨aR (ua.z)⟩,⟨bk⟩,⟨bk⟩,⟨bl⟩⟩
/-! ### F16: function 16 -/
def Bk.f (k:Nat) (l0:List Int):Option (Int × (List (List Int))):=(aq5.f k l0).bind fun cN=>((ng.f k cN.1 cN.2.1 cN.2.2).bind fun dM=>(some (dM.1,dM.2.1)))
theorem Bk.calls (k : Nat) (A0 : Option Addr) (c0 : Nat) (l0 : List Int) (r1 : Int) (r2 : List (List Int)) (w : World) (bZ : Kd.C (Kd.int .u8) w A0 l0.length l0) (hc0 : l0.length ≤ c0) (h : Bk.f k l0 = some (r1, r2)) :
  Calls Try.prog 16 #[.slice A0 l0.length c0] w fun e w'=>∃ fK:Value,e=.returned (.agg #[.int .i64 r1,fK])∧Kd.V (Kd.slice 2 (Kd.int .i64)) 29 w' w.heap.size (fun k_=>(w.heap.size≤k_)) fK r2∧Below w.heap.size w w':=by
 have eE:=Try.underlying26
 have cP:=k0 bZ
 have fq:=k0 hc0
 clear bZ hc0
 have HB:=k0 (Below.refl w.heap.size w)
 unfold Bk.f at h
 have H:=h
 clear h
 replace H:=bS H;obtain ⟨⟨t102,t103,t104⟩,A2,H⟩:=H
 dsimp only at H
 replace H:=bS H;obtain ⟨⟨t106,t107,t110,t111⟩,A3,H⟩:=H
 dsimp only at H
 simp only [Option.some.injEq,Prod.mk.injEq] at H
 obtain ⟨rfl,rfl⟩:=H
 go_enter Try.func16,Try.ntmps16
 go_wp2_with (first|(refine aqI (N:=2) rfl ?_;refine cz 2 #[.int .i64 0,.slice none 0 0] 26 bl ?_;intro aA w4 aa aqF HB;have aqR:=aqF)|(refine aqz (f:=47) rfl ?_;refine gC (some 4) Try.func47 #[.slice A0 l0.length c0] ?_;(with_reducible refine (aq5.calls k _ _ l0 t102 t103 t104 w _ ?aq ?au ?cr A2.z).mono ?_);(case aq=>exact aL HB.z);(case au=>exact cP.z);(case cr=>exact fq.z);rintro e w5 ⟨g105,rfl,hi,hb,eU⟩;refine ⟨_,rfl,?_⟩;replace HB:=k0 (hb);have aM:=k0 (hi);have oU:=k0 (aj.qo hi (cV (aB aa.z) eU) (by decide));have hU:=k0 (Ne.symm (aj.qo hi (cV (aB aa.z) eU) (by decide)));replace aa:=kB aa eU)|(refine aqz (f:=48) rfl ?_;refine gC (some 5) Try.func48 #[.pointer (some ⟨g105,0,none⟩)] ?_;(with_reducible refine (ng.calls k g105 t102 t103 t104 t106 t107 t110 t111 w _ ?aq ?au A3.z).mono ?_);(case aq=>exact aqy aM.z);(case au=>exact aG (aj.ge aM.z) HB.z);rintro e w6 ⟨q3,rfl,aD,hi,hb,hk⟩;refine ⟨_,rfl,?_⟩;have bD:=k0 (Kd.p_ (Kd.aZ (ok':=fun k_=>(w.heap.size≤k_)∧k_ ≠ aA∧k_ ≠ g105) aD (fun k_ aqJ=>⟨(Nat.le_trans (aqG (aG (aj.ge aM.z) HB.z)) aqJ),(Kd.ig (aB aa.z) k_ aqJ),(aj.fresh (aqy aM.z) k_ aqJ)⟩)) (aqG (aG (aj.ge aM.z) HB.z)));replace aa:=kK hk aa hU;replace HB:=k0 (hb);replace aM:=k0 (hi);obtain ⟨_,_⟩:=nE hU;obtain ⟨_,_,_,_⟩:=aqA aa;obtain ⟨sQ,qf,rfl⟩:=Kd.arO bD.z))
 refine bodyPost_ret (results_cell_row rfl _ _ aA 26 #[.int .i64 t106,.slice sQ t107.length qf] (0,0) _ rfl kZ Try.underlying26 rfl (by kernel_rfl)) rfl ?_
 exact ⟨_,eR,aV (Kd.aZ (Kd.je (p:=⟨aA,1,none⟩) (Kd.je (p:=⟨aA,0,none⟩) (Kd.aZ bD.z (fun k_ hk=>(⟨hk,hk.2.1⟩:_∧k_ ≠ aA))) (fun _ hk=>hk.2) (.int .i64 t106)) (fun _ hk=>hk.2) (.slice sQ t107.length qf)) (fun _ hk=>hk.1.1)),aG (aj.ge aM.z) HB.z⟩
/-! ### F67: function 67 -/
def zw.f (l0:List Int) (a1:Int):Option (Int):=if a1 < (l0.length:Int) then (if 0≤a1 then (some (rd l0 a1)) else (none)) else (some 0)
theorem zw.calls (A0 : Option Addr) (c0 : Nat) (l0 : List Int) (a1 : Int) (r : Int) (w : World) (bZ : Kd.C (Kd.int .i64) w A0 l0.length l0) (hc0 : l0.length ≤ c0) (h : zw.f l0 a1 = some r) :
  Calls Try.prog 67 #[.slice A0 l0.length c0,.int .i64 a1] w fun e w'=>e=.returned (.int .i64 r)∧eX w w':=by
 have cP:=k0 bZ
 have fq:=k0 hc0
 clear bZ hc0
 unfold zw.f at h
 have H:=h
 clear h
 replace H:=iC H;obtain ⟨ia,H⟩|⟨ia,H⟩:=H
 case inl =>
  obtain rfl:=Option.some.inj H
  go_enter Try.func67,Try.ntmps67
  go_wp2
  go_ret
  exact ⟨rs,dW⟩
 replace H:=iS H;obtain ⟨c4,H⟩:=H
 have ej:=decide_eq_true c4
 clear c4
 obtain rfl:=Option.some.inj H
 obtain ⟨dY,dZ⟩:=iN a1 (l0.length:Int)
 obtain ⟨ny,e101,lQ⟩:=Kd.bM cP.z a1 dY dZ
 cases e101
 replace dY:=eT dY
 replace dZ:=eT dZ
 go_enter Try.func67,Try.ntmps67
 go_wp2
 go_ret
 exact ⟨rs,dW⟩
end Go.Proofs.Ytapnggjaeehpdaa.A
/- Set with little white space, by a program. -/
