/- The functions that one law reaches, each as a Lean function, and that Go's call comes to what it says. Condition of each: that the Lean function answers (is not none). -/
import Derived.Test.YtoebojnhchocaaaCx0
import Derived.Test.YtoebojnhchocaaaCx1
import Derived.Test.YtoebojnhchocaaaCx2
import Derived.Test.YtoebojnhchocaaaCx9
import Derived.Test.YtoebojnhchocaaaCx19
namespace Go.Proofs.Ytoebojnhchocaaa.C
open Go.RowKit Go.Proofs.bI.en Go.Proofs.bI.je Go.Proofs.bI.jC
attribute [local go_sem] max2_int min2_int max_two min_two max_three min_three max_four min_four   -- for this text's walks alone
set_option linter.unusedVariables false
set_option linter.unusedSimpArgs false
/-! ### F5: function 5 -/
def F5.j0 : Nat → List Int → List Int → List Int → List Int → Bool → Int → List (List Int) → Int → List (List Int) → Option (Bool)
 | 0,_,_,_,_,_,_,_,_,_=>none
 | k+1,x1,x2,fe,fK,x56,bR,bJ,aeX,aeY=>if x56=true then (some false) else ((jd.f k bR bJ).bind fun By=>((mP.f k aeX aeY By.1 By.2).bind fun t132=>(if t132=true then ((cv.f k x1).bind fun t133=>((dP.f k fe t133).bind fun t136=>(if t136=true then ((cv.f k x2).bind fun t137=>((dP.f k fK t137).bind fun t140=>(if t140=true then (some true) else (some false)))) else (some false)))) else (some false))))
def F5.f (k:Nat) (af:Int) (aa:List (List Int)) (l1:List Int) (l2:List Int):Option (Bool):=if (l1.length:Int) > 1048576 then (some true) else (if (l2.length:Int) > 1048576 then (some true) else ((oG.f k af aa 1048576).bind fun t102=>(if t102 < 0 then (some true) else ((jd.f k af aa).bind fun wF=>((cv.f k l1).bind fun t107=>((cv.f k l2).bind fun t110=>((l9.f k wF.1 wF.2 t107 t110).bind fun oc=>((jd.f k af aa).bind fun fk=>((cv.f k l1).bind fun t120=>((cv.f k l2).bind fun t123=>((iy.f k fk.1 fk.2 t120 t123).bind fun jm=>(if (jm.1 != oc.1)=true then (F5.j0 k l1 l2 t120 t123 true af aa fk.1 fk.2) else (F5.j0 k l1 l2 t120 t123 (jm.2 != oc.2) af aa fk.1 fk.2)))))))))))))
theorem F5.b8 : ∀ k, (∀ y0 y1 y2 y3 y4 y5 y6 y7 y8, aj (F5.j0 k y0 y1 y2 y3 y4 y5 y6 y7 y8) (F5.j0 (k + 1) y0 y1 y2 y3 y4 y5 y6 y7 y8))
 | 0=>fun _ _ _ _ _ _ _ _ _ r h=>by simp [F5.j0] at h
 | k+1=>by
  have akk:=F5.b8 k
  ·intro y0 y1 y2 y3 y4 y5 y6 y7 y8
   unfold F5.j0
   repeat' first
    | (with_reducible first|exact akk _ _ _ _ _ _ _ _ _|exact iy.mono _ _ _ _ _|exact mP.mono _ _ _ _ _|exact dP.mono _ _ _|exact oG.mono _ _ _ _|exact jd.mono _ _ _|exact cv.mono _ _|exact l9.mono _ _ _ _ _|exact aj.refl _|exact aj.none _|refine aj.ite ?_ ?_|refine aj.bind ?_ (fun _=>?_))
    | exact akk _ _ _ _ _ _ _ _ _|exact iy.mono _ _ _ _ _|exact mP.mono _ _ _ _ _|exact dP.mono _ _ _|exact oG.mono _ _ _ _|exact jd.mono _ _ _|exact cv.mono _ _|exact l9.mono _ _ _ _ _|exact aj.none _|refine aj.ite ?_ ?_|refine aj.bind ?_ (fun _=>?_)
theorem F5.mono:∀ a0 a1 a2 a3 k,aj (F5.f k a0 a1 a2 a3) (F5.f (k+1) a0 a1 a2 a3):=by
 intro a0 a1 a2 a3 k
 have akk:=F5.b8 k
 unfold F5.f
 repeat' first
  | (with_reducible first|exact akk _ _ _ _ _ _ _ _ _|exact iy.mono _ _ _ _ _|exact mP.mono _ _ _ _ _|exact dP.mono _ _ _|exact oG.mono _ _ _ _|exact jd.mono _ _ _|exact cv.mono _ _|exact l9.mono _ _ _ _ _|exact aj.refl _|exact aj.none _|refine aj.ite ?_ ?_|refine aj.bind ?_ (fun _=>?_))
  | exact akk _ _ _ _ _ _ _ _ _|exact iy.mono _ _ _ _ _|exact mP.mono _ _ _ _ _|exact dP.mono _ _ _|exact oG.mono _ _ _ _|exact jd.mono _ _ _|exact cv.mono _ _|exact l9.mono _ _ _ _ _|exact aj.none _|refine aj.ite ?_ ?_|refine aj.bind ?_ (fun _=>?_)
set_option maxHeartbeats 8000000 in
set_option maxRecDepth 100000 in
theorem F5.calls (k : Nat) (af : Int) (aq : Option Addr) (ak : Nat) (aa : List (List Int)) (A1 : Option Addr) (c1 : Nat) (l1 : List Int) (A2 : Option Addr) (c2 : Nat) (l2 : List Int) (r : Bool) (w : World) (akv : Kd.C (Kd.slice 2 (Kd.int .i64)) w aq aa.length aa) (akw : aa.length ≤ ak) (cQ : Kd.C (Kd.int .i64) w A1 l1.length l1) (ef : l1.length ≤ c1) (nj : Kd.C (Kd.int .i64) w A2 l2.length l2) (nc : l2.length ≤ c2) (h : F5.f k af aa l1 l2 = some r) :
  Calls Try.prog 5 #[.agg #[.int .i64 af,.slice aq aa.length ak],.slice A1 l1.length c1,.slice A2 l2.length c2] w fun e w'=>e=.returned (.bool r)∧Below w.heap.size w w':=by
 have QT:=Try.underlying24
 have j8:=Try.underlying31
 have bU:=k0 akv
 have cG:=k0 akw
 clear akv akw
 have ek:=k0 cQ
 have jZ:=k0 ef
 clear cQ ef
 have rq:=k0 nj
 have qE:=k0 nc
 clear nj nc
 have HB:=k0 (Below.refl w.heap.size w)
 have H:(if (l1.length:Int) > 1048576 then (some true) else (if (l2.length:Int) > 1048576 then (some true) else ((oG.f k af aa 1048576).bind fun t102=>(if t102 < 0 then (some true) else ((jd.f k af aa).bind fun wF=>((cv.f k l1).bind fun t107=>((cv.f k l2).bind fun t110=>((l9.f k wF.1 wF.2 t107 t110).bind fun oc=>((jd.f k af aa).bind fun fk=>((cv.f k l1).bind fun t120=>((cv.f k l2).bind fun t123=>((iy.f k fk.1 fk.2 t120 t123).bind fun jm=>(if (jm.1 != oc.1)=true then (F5.j0 k l1 l2 t120 t123 true af aa fk.1 fk.2) else (F5.j0 k l1 l2 t120 t123 (jm.2 != oc.2) af aa fk.1 fk.2))))))))))))))=some r:=h
 clear h
 by_cases c4:(l1.length:Int) > 1048576
 case neg =>
  rw [if_neg c4] at H
  have eA:decide (1048576 < (l1.length:Int))=false:=decide_eq_false c4
  have mB:decide (1048576 < l1.length)=false:=decide_eq_false (by omega)
  clear c4
  by_cases c6:(l2.length:Int) > 1048576
  case neg =>
   rw [if_neg c6] at H
   have akJ:decide (1048576 < (l2.length:Int))=false:=decide_eq_false c6
   have alP:decide (1048576 < l2.length)=false:=decide_eq_false (by omega)
   clear c6
   replace H:=Option.bind_eq_some_iff.mp H
   obtain ⟨t102,r3,H⟩:=H
   replace H:(if t102 < 0 then (some true) else ((jd.f k af aa).bind fun wF=>((cv.f k l1).bind fun t107=>((cv.f k l2).bind fun t110=>((l9.f k wF.1 wF.2 t107 t110).bind fun oc=>((jd.f k af aa).bind fun fk=>((cv.f k l1).bind fun t120=>((cv.f k l2).bind fun t123=>((iy.f k fk.1 fk.2 t120 t123).bind fun jm=>(if (jm.1 != oc.1)=true then (F5.j0 k l1 l2 t120 t123 true af aa fk.1 fk.2) else (F5.j0 k l1 l2 t120 t123 (jm.2 != oc.2) af aa fk.1 fk.2)))))))))))=some r:=H
   have A8:=k0 r3
   clear r3
   by_cases c9:t102 < 0
   case neg =>
    rw [if_neg c9] at H
    have k8:decide (t102 < 0)=false:=decide_eq_false c9
    clear c9
    replace H:=Option.bind_eq_some_iff.mp H
    obtain ⟨⟨t103,t104⟩,vY,H⟩:=H
    replace H:((cv.f k l1).bind fun t107=>((cv.f k l2).bind fun t110=>((l9.f k t103 t104 t107 t110).bind fun oc=>((jd.f k af aa).bind fun fk=>((cv.f k l1).bind fun t120=>((cv.f k l2).bind fun t123=>((iy.f k fk.1 fk.2 t120 t123).bind fun jm=>(if (jm.1 != oc.1)=true then (F5.j0 k l1 l2 t120 t123 true af aa fk.1 fk.2) else (F5.j0 k l1 l2 t120 t123 (jm.2 != oc.2) af aa fk.1 fk.2)))))))))=some r:=H
    have nB:=k0 vY
    clear vY
    replace H:=Option.bind_eq_some_iff.mp H
    obtain ⟨t107,Lv,H⟩:=H
    replace H:((cv.f k l2).bind fun t110=>((l9.f k t103 t104 t107 t110).bind fun oc=>((jd.f k af aa).bind fun fk=>((cv.f k l1).bind fun t120=>((cv.f k l2).bind fun t123=>((iy.f k fk.1 fk.2 t120 t123).bind fun jm=>(if (jm.1 != oc.1)=true then (F5.j0 k l1 l2 t120 t123 true af aa fk.1 fk.2) else (F5.j0 k l1 l2 t120 t123 (jm.2 != oc.2) af aa fk.1 fk.2))))))))=some r:=H
    have SX:=k0 Lv
    clear Lv
    replace H:=Option.bind_eq_some_iff.mp H
    obtain ⟨t110,Lw,H⟩:=H
    replace H:((l9.f k t103 t104 t107 t110).bind fun oc=>((jd.f k af aa).bind fun fk=>((cv.f k l1).bind fun t120=>((cv.f k l2).bind fun t123=>((iy.f k fk.1 fk.2 t120 t123).bind fun jm=>(if (jm.1 != oc.1)=true then (F5.j0 k l1 l2 t120 t123 true af aa fk.1 fk.2) else (F5.j0 k l1 l2 t120 t123 (jm.2 != oc.2) af aa fk.1 fk.2)))))))=some r:=H
    have SY:=k0 Lw
    clear Lw
    replace H:=Option.bind_eq_some_iff.mp H
    obtain ⟨⟨t113,t114⟩,pU,H⟩:=H
    replace H:((jd.f k af aa).bind fun fk=>((cv.f k l1).bind fun t120=>((cv.f k l2).bind fun t123=>((iy.f k fk.1 fk.2 t120 t123).bind fun jm=>(if (jm.1 != t113)=true then (F5.j0 k l1 l2 t120 t123 true af aa fk.1 fk.2) else (F5.j0 k l1 l2 t120 t123 (jm.2 != t114) af aa fk.1 fk.2))))))=some r:=H
    have oF:=k0 pU
    clear pU
    replace H:=Option.bind_eq_some_iff.mp H
    obtain ⟨⟨t115,t116⟩,vZ,H⟩:=H
    replace H:((cv.f k l1).bind fun t120=>((cv.f k l2).bind fun t123=>((iy.f k t115 t116 t120 t123).bind fun jm=>(if (jm.1 != t113)=true then (F5.j0 k l1 l2 t120 t123 true af aa t115 t116) else (F5.j0 k l1 l2 t120 t123 (jm.2 != t114) af aa t115 t116)))))=some r:=H
    have tN:=k0 vZ
    clear vZ
    replace H:=Option.bind_eq_some_iff.mp H
    obtain ⟨t120,Lx,H⟩:=H
    replace H:((cv.f k l2).bind fun t123=>((iy.f k t115 t116 t120 t123).bind fun jm=>(if (jm.1 != t113)=true then (F5.j0 k l1 l2 t120 t123 true af aa t115 t116) else (F5.j0 k l1 l2 t120 t123 (jm.2 != t114) af aa t115 t116))))=some r:=H
    have SZ:=k0 Lx
    clear Lx
    replace H:=Option.bind_eq_some_iff.mp H
    obtain ⟨t123,Ly,H⟩:=H
    replace H:((iy.f k t115 t116 t120 t123).bind fun jm=>(if (jm.1 != t113)=true then (F5.j0 k l1 l2 t120 t123 true af aa t115 t116) else (F5.j0 k l1 l2 t120 t123 (jm.2 != t114) af aa t115 t116)))=some r:=H
    have S0:=k0 Ly
    clear Ly
    replace H:=Option.bind_eq_some_iff.mp H
    obtain ⟨⟨t126,t127⟩,amb,H⟩:=H
    replace H:(if (t126 != t113)=true then (F5.j0 k l1 l2 t120 t123 true af aa t115 t116) else (F5.j0 k l1 l2 t120 t123 (t127 != t114) af aa t115 t116))=some r:=H
    have lM:=k0 amb
    clear amb
    have xO:=k0 H
    clear H
    go_enter Try.func5,Try.ntmps5
    go_upto_region 14 with (first|((with_reducible refine cj (N:=3) rfl ?_);refine dJ ?hg (N:=3) ?hd (cs:=#[.int .i64 af,.slice aq aa.length ak]) (t:=24) ?hr ?_;(case hd=>rfl);(case hg=>rfl);(case hr=>first|(go_simp;done)|(go_simp;rfl));intro ai hg Lj aK hb;have ag:=k0 (aK);have aks:=k0 ((by rw [hg];exact (aU bl):w.heap.size≤ai));have ej:=aks;replace HB:=k0 (aI bl hb);clear hb aK hg;have PB:Lj.cell? ⟨ai,0,none⟩=some (.int .i64 af):=(av ag.out 0).trans rfl;have PC:Lj.cell? ⟨ai,1,none⟩=some (.slice aq aa.length ak):=(av ag.out 1).trans rfl;have PX:=aH ag.out 0;have PY:=aH ag.out 1)|((with_reducible refine cZ (f:=23) rfl ?_);refine c_ (some 23) rfl rfl Try.func23 (by kernel_rfl) rfl #[.agg #[.int .i64 af,.slice aq aa.length ak],.int .i64 1048576] rfl gm ?_;(with_reducible refine (oG.calls k af _ _ aa 1048576 t102 _ ?akn ?aT A8.out).mono ?_);(case akn=>exact aC (Kd.bA bU.out HB.out));(case aT=>exact cG.out);rintro e DP ⟨rfl,hb⟩;refine ⟨_,rfl,?_⟩;replace ag:=k0 (akj (g:=ai) (o:=sO af aq aa ak 24) bk hb);replace HB:=k0 (aI bl hb);(try clear hb);have PD:DP.cell? ⟨ai,0,none⟩=some (.int .i64 af):=(av ag.out 0).trans rfl;have PE:DP.cell? ⟨ai,1,none⟩=some (.slice aq aa.length ak):=(av ag.out 1).trans rfl;have PZ:=aH ag.out 0;have P0:=aH ag.out 1)|((with_reducible refine cZ (f:=25) rfl ?_);refine c_ (some 28) rfl rfl Try.func25 (by kernel_rfl) rfl #[.agg #[.int .i64 af,.slice aq aa.length ak]] rfl gm ?_;(with_reducible refine (jd.calls k af _ _ aa t103 t104 _ ?akn ?aT nB.out).mono ?_);(case akn=>exact aC (Kd.bA bU.out HB.out));(case aT=>exact cG.out);rintro e uB ⟨v105,rfl,ake,hb⟩;refine ⟨_,rfl,?_⟩;have gz:=k0 (Kd.ak0 ake (aU bl));replace ag:=k0 (akj (g:=ai) (o:=sO af aq aa ak 24) bk hb);replace HB:=k0 (aI bl hb);(try clear hb);(try clear ake))|((with_reducible refine cZ (f:=26) rfl ?_);refine c_ (some 30) rfl rfl Try.func26 (by kernel_rfl) rfl #[.slice A1 l1.length c1] rfl gm ?_;(with_reducible refine (cv.calls k _ _ l1 t107 _ ?akn ?aT SX.out).mono ?_);(case akn=>exact aC (Kd.bA ek.out HB.out));(case aT=>exact jZ.out);rintro e AU ⟨aev,rfl,ake,hb⟩;refine ⟨_,rfl,?_⟩;replace gz:=k0 (Kd.g_ (aS gz.out) (Kd.bW ake) hb);have kO:=k0 (Kd.dL ake (aU bl));replace ag:=k0 (akj (g:=ai) (o:=sO af aq aa ak 24) bk hb);replace HB:=k0 (aI bl hb);(try clear hb);(try clear ake))|((with_reducible refine cZ (f:=26) rfl ?_);refine c_ (some 32) rfl rfl Try.func26 (by kernel_rfl) rfl #[.slice A2 l2.length c2] rfl gm ?_;(with_reducible refine (cv.calls k _ _ l2 t110 _ ?akn ?aT SY.out).mono ?_);(case akn=>exact aC (Kd.bA rq.out HB.out));(case aT=>exact qE.out);rintro e nw ⟨ajD,rfl,ake,hb⟩;refine ⟨_,rfl,?_⟩;replace gz:=k0 (Kd.g_ (aS gz.out) (Kd.bW ake) hb);have mR:=k0 (Kd.dL (Kd.dW ake (Kd.cE (aR kO.out))) (aU bl));replace kO:=k0 (Kd.dV (aR kO.out) (Kd.bW ake) hb);replace ag:=k0 (akj (g:=ai) (o:=sO af aq aa ak 24) bk hb);replace HB:=k0 (aI bl hb);(try clear hb);(try clear ake);obtain ⟨LZ,Ij,EO⟩:=Kd.oK gz.out;subst EO;obtain ⟨r5,om,BO⟩:=Kd.eK kO.out;subst BO;obtain ⟨L0,NQ,X0⟩:=Kd.eK mR.out;subst X0)|((with_reducible refine cZ (f:=30) rfl ?_);refine c_ (some 33) rfl rfl Try.func30 (by kernel_rfl) rfl #[.agg #[.int .i64 t103,.slice LZ t104.length Ij],.slice r5 t107.length om,.slice L0 t110.length NQ] rfl gm ?_;(with_reducible refine (l9.calls k t103 _ _ t104 (fun k_=>some k_=(.slice r5 t107.length om:Value).ownBlock) _ _ t107 (fun k_=>some k_=(.slice L0 t110.length NQ:Value).ownBlock) _ _ t110 t113 t114 _ ?akn ?aT ?cn ?cw oF.out).mono ?_);(case akn=>exact aC ((Kd.bY gz.out).2.2));(case aT=>exact (Kd.bY gz.out).2.1);(case cn=>exact Kd.Ek (Kd.si rfl (Kd.ji (Kd.lA (kO.out) (Kd.akQ gz.out) (by decide)) ag.out (by decide))));(case cw=>exact Kd.Ek (Kd.si rfl (Kd.ji (Kd.lA (mR.out) (Kd.akQ gz.out) (by decide)) ag.out (by decide))));rintro e uC ⟨rfl,hb⟩;refine ⟨_,rfl,?_⟩;replace gz:=k0 (Kd.akP (aS gz.out) hb);replace kO:=k0 (Kd.di (aR kO.out) hb);replace mR:=k0 (Kd.di (aR mR.out) hb);replace ag:=k0 (akj (g:=ai) (o:=sO af aq aa ak 24) bk hb);replace HB:=k0 (aI bl hb);(try clear hb);have aag:uC.cell? ⟨ai,0,none⟩=some (.int .i64 af):=(av ag.out 0).trans rfl;have aah:uC.cell? ⟨ai,1,none⟩=some (.slice aq aa.length ak):=(av ag.out 1).trans rfl;have aaN:=aH ag.out 0;have aaO:=aH ag.out 1)|((with_reducible refine cZ (f:=25) rfl ?_);refine c_ (some 37) rfl rfl Try.func25 (by kernel_rfl) rfl #[.agg #[.int .i64 af,.slice aq aa.length ak]] rfl gm ?_;(with_reducible refine (jd.calls k af _ _ aa t115 t116 _ ?akn ?aT tN.out).mono ?_);(case akn=>exact aC (Kd.bA bU.out HB.out));(case aT=>exact cG.out);rintro e Sy ⟨v117,rfl,ake,hb⟩;refine ⟨_,rfl,?_⟩;have gZ:=k0 (Kd.ak0 (Kd.lO (Kd.lO (Kd.lO ake (Kd.uU (aS gz.out))) (Kd.cE (aR kO.out))) (Kd.cE (aR mR.out))) (aU bl));replace gz:=k0 (Kd.g_ (aS gz.out) (Kd.xW ake) hb);replace kO:=k0 (Kd.di (aR kO.out) hb);replace mR:=k0 (Kd.di (aR mR.out) hb);replace ag:=k0 (akj (g:=ai) (o:=sO af aq aa ak 24) bk hb);replace HB:=k0 (aI bl hb);(try clear hb);(try clear ake))|((with_reducible refine cj (N:=10) rfl ?_);refine dJ ?hg (N:=10) ?hd (cs:=#[.int .i64 0,.slice none 0 0]) (t:=31) ?hr ?_;(case hd=>rfl);(case hg=>rfl);(case hr=>first|(go_simp;done)|(go_simp;rfl));intro fI hg ak' aK hb;replace gz:=k0 (Kd.akP (aS gz.out) hb);replace kO:=k0 (Kd.di (aR kO.out) hb);replace mR:=k0 (Kd.di (aR mR.out) hb);replace gZ:=k0 (Kd.akP (aS gZ.out) hb);have cx:=k0 (aK);have T2:=k0 ((by rw [hg];exact (aU bl):w.heap.size≤fI));have ae_:=T2;replace HB:=k0 (aI bl hb);have amB:=k0 ((by rw [hg];exact Nat.ne_of_lt (cJ (g:=ai) (o:=sO af aq aa ak 24) bk):ai ≠ fI));have UO:=k0 ((by rw [hg];exact Nat.ne_of_gt (cJ (g:=ai) (o:=sO af aq aa ak 24) bk):fI ≠ ai));replace ag:=k0 (akj (g:=ai) (o:=sO af aq aa ak 24) bk hb);clear hb aK hg;have ah':=UO.out;have aiK:=amB.out;have aai:ak'.cell? ⟨fI,0,none⟩=some (.int .i64 0):=(av cx.out 0).trans rfl;have aaj:ak'.cell? ⟨fI,1,none⟩=some (.slice none 0 0):=(av cx.out 1).trans rfl;have aaP:=aH cx.out 0;have aaQ:=aH cx.out 1;obtain ⟨ic,ir,X2⟩:=Kd.oK gZ.out;subst X2)|((with_reducible refine cZ (f:=26) rfl ?_);refine c_ (some 39) rfl rfl Try.func26 (by kernel_rfl) rfl #[.slice A1 l1.length c1] rfl gm ?_;(with_reducible refine (cv.calls k _ _ l1 t120 _ ?akn ?aT SZ.out).mono ?_);(case akn=>exact Kd.bA ek.out bl);(case aT=>exact jZ.out);rintro e w39 ⟨aey,rfl,ake,hb⟩;refine ⟨_,rfl,?_⟩;replace gz:=k0 (Kd.g_ (by (with_reducible repeat (first|apply Kd.gI|apply Kd.gJ|apply Kd.eT));exact (Kd.iK (Kd.tW (p:=⟨fI,1,none⟩) (Kd.tW (p:=⟨fI,0,none⟩) (Kd.zV gz.out cx.out (by decide)) (fun _ hk=>hk.2) (.int .i64 t115)) (fun _ hk=>hk.2) (.slice ic t116.length ir)) (fun _ h_=>h_.1))) (Kd.bW ake) hb);replace gZ:=k0 (Kd.g_ (by (with_reducible repeat (first|apply Kd.gI|apply Kd.gJ|apply Kd.eT));exact (Kd.iK (Kd.tW (p:=⟨fI,1,none⟩) (Kd.tW (p:=⟨fI,0,none⟩) (Kd.zV gZ.out cx.out (by decide)) (fun _ hk=>hk.2) (.int .i64 t115)) (fun _ hk=>hk.2) (.slice ic t116.length ir)) (fun _ h_=>h_.1))) (Kd.bW ake) hb);have pX:=k0 (Kd.dL (Kd.dW (Kd.dW ake (Kd.cE (by (with_reducible repeat (first|apply Kd.bN|apply Kd.bQ|apply Kd.bn));exact (Kd.bG (Kd.iJ (p:=⟨fI,1,none⟩) (Kd.iJ (p:=⟨fI,0,none⟩) (Kd.ji kO.out cx.out (by decide)) (fun _ hk=>hk.2) (.int .i64 t115)) (fun _ hk=>hk.2) (.slice ic t116.length ir)) (fun _ h_=>h_.1))))) (Kd.cE (by (with_reducible repeat (first|apply Kd.bN|apply Kd.bQ|apply Kd.bn));exact (Kd.bG (Kd.iJ (p:=⟨fI,1,none⟩) (Kd.iJ (p:=⟨fI,0,none⟩) (Kd.ji mR.out cx.out (by decide)) (fun _ hk=>hk.2) (.int .i64 t115)) (fun _ hk=>hk.2) (.slice ic t116.length ir)) (fun _ h_=>h_.1))))) (aU bl));replace kO:=k0 (Kd.dV (by (with_reducible repeat (first|apply Kd.bN|apply Kd.bQ|apply Kd.bn));exact (Kd.bG (Kd.iJ (p:=⟨fI,1,none⟩) (Kd.iJ (p:=⟨fI,0,none⟩) (Kd.ji kO.out cx.out (by decide)) (fun _ hk=>hk.2) (.int .i64 t115)) (fun _ hk=>hk.2) (.slice ic t116.length ir)) (fun _ h_=>h_.1))) (Kd.bW ake) hb);replace mR:=k0 (Kd.dV (by (with_reducible repeat (first|apply Kd.bN|apply Kd.bQ|apply Kd.bn));exact (Kd.bG (Kd.iJ (p:=⟨fI,1,none⟩) (Kd.iJ (p:=⟨fI,0,none⟩) (Kd.ji mR.out cx.out (by decide)) (fun _ hk=>hk.2) (.int .i64 t115)) (fun _ hk=>hk.2) (.slice ic t116.length ir)) (fun _ h_=>h_.1))) (Kd.bW ake) hb);replace ag:=k0 (akj (g:=ai) (o:=sO af aq aa ak 24) (by (with_reducible repeat (first|refine ee ?_ _|refine ct ?_|refine dX ?_ _));refine fX ?_ amB.out _;(with_reducible repeat (first|refine ee ?_ _|refine ct ?_|refine dX ?_ _));refine fX ?_ amB.out _;exact bk) hb);replace cx:=k0 (akj (g:=fI) (o:=sO t115 ic t116 ir 31) (by (with_reducible repeat (first|refine ee ?_ _|refine ct ?_|refine dX ?_ _));refine nG (cs:=#[.int .i64 t115,.slice none 0 0]) ?_ 1 _ rfl;(with_reducible repeat (first|refine ee ?_ _|refine ct ?_|refine dX ?_ _));refine nG (cs:=#[.int .i64 0,.slice none 0 0]) ?_ 0 _ rfl;exact bk) hb);replace HB:=k0 (aI bl hb);(try clear hb);(try clear ake))|((with_reducible refine cZ (f:=26) rfl ?_);refine c_ (some 41) rfl rfl Try.func26 (by kernel_rfl) rfl #[.slice A2 l2.length c2] rfl gm ?_;(with_reducible refine (cv.calls k _ _ l2 t123 _ ?akn ?aT S0.out).mono ?_);(case akn=>exact aC (Kd.bA rq.out HB.out));(case aT=>exact qE.out);rintro e Sz ⟨v124,rfl,ake,hb⟩;refine ⟨_,rfl,?_⟩;have akf:=k0 (Kd.g_ (aS gz.out) (Kd.bW ake) hb);have aD:=k0 (Kd.dV (aR kO.out) (Kd.bW ake) hb);have aJ:=k0 (Kd.dV (aR mR.out) (Kd.bW ake) hb);have aX:=k0 (Kd.g_ (aS gZ.out) (Kd.bW ake) hb);have a_:=k0 (Kd.dV (aR pX.out) (Kd.bW ake) hb);have akp:=k0 (Kd.dL (Kd.dW (Kd.dW (Kd.dW ake (Kd.cE (aR kO.out))) (Kd.cE (aR mR.out))) (Kd.cE (aR pX.out))) (aU bl));have bx:=k0 (akj (g:=ai) (o:=sO af aq aa ak 24) bk hb);have b9:=k0 (akj (g:=fI) (o:=sO t115 ic t116 ir 31) bk hb);have cL:=k0 (aI bl hb);clear gz;clear kO;clear mR;clear gZ;clear pX;clear ag;clear cx;clear HB;have gz:=akf;have kO:=aD;have mR:=aJ;have gZ:=aX;have pX:=a_;have uP:=akp;have ag:=bx;have cx:=b9;have HB:=cL;clear akf aD aJ aX a_ akp bx b9 cL;(try clear hb);(try clear ake);have Jw:Sz.cell? ⟨fI,0,none⟩=some (.int .i64 t115):=(av cx.out 0).trans rfl;have aak:Sz.cell? ⟨fI,1,none⟩=some (.slice ic t116.length ir):=(av cx.out 1).trans rfl;have JL:=aH cx.out 0;have aaR:=aH cx.out 1;obtain ⟨we,wL,X3⟩:=Kd.eK pX.out;subst X3;obtain ⟨xK,wM,EP⟩:=Kd.eK uP.out;subst EP)|((with_reducible refine cZ (f:=31) rfl ?_);refine c_ (some 46) rfl rfl Try.func31 (by kernel_rfl) rfl #[.agg #[.int .i64 t115,.slice ic t116.length ir],.slice we t120.length wL,.slice xK t123.length wM] rfl gm ?_;(with_reducible refine (iy.calls k t115 _ _ t116 (fun k_=>some k_=(.slice we t120.length wL:Value).ownBlock) _ _ t120 (fun k_=>some k_=(.slice xK t123.length wM:Value).ownBlock) _ _ t123 t126 t127 _ ?akn ?aT ?cn ?cw lM.out).mono ?_);(case akn=>exact aC ((Kd.bY gZ.out).2.2));(case aT=>exact (Kd.bY gZ.out).2.1);(case cn=>exact Kd.Ek (Kd.si rfl (Kd.ji (Kd.ji (Kd.lA (Kd.lA (pX.out) (Kd.akQ gz.out) (by decide)) (Kd.akQ gZ.out) (by decide)) ag.out (by decide)) cx.out (by decide))));(case cw=>exact Kd.Ek (Kd.si rfl (Kd.ji (Kd.ji (Kd.lA (Kd.lA (uP.out) (Kd.akQ gz.out) (by decide)) (Kd.akQ gZ.out) (by decide)) ag.out (by decide)) cx.out (by decide))));rintro e Lk ⟨rfl,hb⟩;refine ⟨_,rfl,?_⟩;have akf:=k0 (Kd.akP (aS gz.out) hb);have aD:=k0 (Kd.di (aR kO.out) hb);have aJ:=k0 (Kd.di (aR mR.out) hb);have aX:=k0 (Kd.akP (aS gZ.out) hb);have a_:=k0 (Kd.di (aR pX.out) hb);have akp:=k0 (Kd.di (aR uP.out) hb);have bx:=k0 (akj (g:=ai) (o:=sO af aq aa ak 24) bk hb);have b9:=k0 (akj (g:=fI) (o:=sO t115 ic t116 ir 31) bk hb);have cL:=k0 (aI bl hb);clear gz;clear kO;clear mR;clear gZ;clear pX;clear uP;clear ag;clear cx;clear HB;have gz:=akf;have kO:=aD;have mR:=aJ;have gZ:=aX;have pX:=a_;have uP:=akp;have ag:=bx;have cx:=b9;have HB:=cL;clear akf aD aJ aX a_ akp bx b9 cL;(try clear hb)))
    (try simp only [Act.put,zI,zZ,zS])
    go_cut [56] (fun v56 wc=>∃ (kq:Nat) (Gn:Bool),v56=.bool Gn∧au (F5.j0 kq l1 l2 t120 t123 Gn af aa t115 t116=some r)∧au (kq≤k)∧au (Kd.R (Kd.int .i64) 2 wc w.heap.size (fun k_=>some k_ ≠ ((.slice xK t123.length wM):Value).ownBlock) (.slice we t120.length wL) t120)∧au (Kd.R (Kd.int .i64) 2 wc w.heap.size (fun k_=>some k_ ≠ ((.slice we t120.length wL):Value).ownBlock) (.slice xK t123.length wM) t123)∧au (Kd.S (Kd.slice 2 (Kd.int .i64)) 28 wc w.heap.size (fun k_=>some k_ ≠ ((.slice we t120.length wL):Value).ownBlock∧some k_ ≠ ((.slice xK t123.length wM):Value).ownBlock) (.slice ic t116.length ir) t116)∧au (wc.heap[ai]?=some (sO af aq aa ak 24))∧au (wc.heap[fI]?=some (sO t115 ic t116 ir 31))∧au (Below w.heap.size w wc))
    case first =>
     have H:=xO.out
     clear xO
     by_cases c45:(t126 != t113)=true
     case neg =>
      rw [if_neg c45] at H
      have alN:(t126 != t113)=false:=by simpa using c45
      (try (have NC:decide (t126=t113)=true:=by simpa using c45))
      (try (have ND:(t126 == t113)=true:=by simpa using c45))
      clear c45
      (first|rw [alN]|(simp only [akx,cu];rw [alN])|skip)
      have H':=k0 H
      clear H
      go_wp2
      go_meet
      case rel=>exact ⟨_,((t127 != t114)),rs,H',⟨by first|omega|exact Nat.le_refl _⟩,⟨aR (Kd.bG pX.out (fun _ hk=>hk.2))⟩,⟨aR (Kd.bG uP.out (fun _ hk=>hk.2))⟩,⟨aS (Kd.iK gZ.out (fun _ hk=>⟨hk.1.2,hk.2⟩))⟩,⟨bk⟩,⟨bk⟩,⟨bl⟩⟩
     rw [if_pos c45] at H
     have alN:(t126 != t113)=true:=c45
     (try (have NC:decide (t126=t113)=false:=by simpa using c45))
     (try (have ND:(t126 == t113)=false:=by simpa using c45))
     (try (have afV:¬ (t126=t113):=by simpa using c45))
     clear c45
     (first|rw [alN]|(simp only [akx,cu];rw [alN])|skip)
     have H':=k0 H
     clear H
     go_wp2
     go_meet
     case rel=>exact ⟨_,(true),rs,H',⟨by first|omega|exact Nat.le_refl _⟩,⟨aR (Kd.bG pX.out (fun _ hk=>hk.2))⟩,⟨aR (Kd.bG uP.out (fun _ hk=>hk.2))⟩,⟨aS (Kd.iK gZ.out (fun _ hk=>⟨hk.1.2,hk.2⟩))⟩,⟨bk⟩,⟨bk⟩,⟨bl⟩⟩
    case rest =>
     clear xO
     (try clear c4);(try clear eA);(try clear mB);(try clear c6);(try clear akJ);(try clear alP);(try clear c9);(try clear k8);(try clear c45);(try clear alN);(try clear NC);(try clear ND);(try clear vv);(try clear vw);(try clear PB);(try clear PC);(try clear PD);(try clear PE);(try clear aag);(try clear aah);(try clear aai);(try clear aaj);(try clear Jw);(try clear aak);(try clear vC);(try clear vD);(try clear PX);(try clear PY);(try clear PZ);(try clear P0);(try clear aaN);(try clear aaO);(try clear aaP);(try clear aaQ);(try clear JL);(try clear aaR)
     obtain ⟨kq,Gn,rfl,HA,uN,dz,bV,dI,ag,cx,HB⟩:=hcut
     cases kq with
     | zero=>exact absurd HA.out (by simp [F5.j0])
     | succ eD =>
      have H:=HA.out
      clear HA
      simp only [F5.j0] at H
      by_cases c46:Gn=true
      case neg =>
       replace c46:=Bool.eq_false_iff.mpr c46
       subst c46
       have H1:((jd.f eD af aa).bind fun By=>((mP.f eD t115 t116 By.1 By.2).bind fun t132=>(if t132=true then ((cv.f eD l1).bind fun t133=>((dP.f eD t120 t133).bind fun t136=>(if t136=true then ((cv.f eD l2).bind fun t137=>((dP.f eD t123 t137).bind fun t140=>(if t140=true then (some true) else (some false)))) else (some false)))) else (some false))))=some r:=by rw [if_neg (show ¬ (false=true) by decide)] at H;exact H
       clear H
       have H:=H1
       clear H1
       replace H:=Option.bind_eq_some_iff.mp H
       obtain ⟨⟨t128,t129⟩,LH,H⟩:=H
       replace H:((mP.f eD t115 t116 t128 t129).bind fun t132=>(if t132=true then ((cv.f eD l1).bind fun t133=>((dP.f eD t120 t133).bind fun t136=>(if t136=true then ((cv.f eD l2).bind fun t137=>((dP.f eD t123 t137).bind fun t140=>(if t140=true then (some true) else (some false)))) else (some false)))) else (some false)))=some r:=H
       have D0:=k0 LH
       clear LH
       replace H:=Option.bind_eq_some_iff.mp H
       obtain ⟨t132,amc,H⟩:=H
       replace H:(if t132=true then ((cv.f eD l1).bind fun t133=>((dP.f eD t120 t133).bind fun t136=>(if t136=true then ((cv.f eD l2).bind fun t137=>((dP.f eD t123 t137).bind fun t140=>(if t140=true then (some true) else (some false)))) else (some false)))) else (some false))=some r:=H
       have xI:=k0 amc
       clear amc
       by_cases c49:t132=true
       case neg =>
        replace c49:=Bool.eq_false_iff.mpr c49
        subst c49
        have H1:(some false)=some r:=by rw [if_neg (show ¬ (false=true) by decide)] at H;exact H
        clear H
        have H:=H1
        clear H1
        obtain rfl:=Option.some.inj H
        try go_wp2
        replace dz:=k0 (Kd.bn dz.out);replace bV:=k0 (Kd.bn bV.out);replace dI:=k0 (Kd.eT dI.out);replace ag:=k0 (ct ag.out);replace cx:=k0 (ct cx.out);replace HB:=k0 (cP HB.out)
        refine lJ (n:=5) (S:=fun w'=>w'.cell? ⟨fI,0,none⟩=some (.int .i64 t115)∧w'.cell? ⟨fI,1,none⟩=some (.slice ic t116.length ir)∧w'.cell? ⟨ai,0,none⟩=some (.int .i64 af)∧w'.cell? ⟨ai,1,none⟩=some (.slice aq aa.length ak)) (ds:=[]) #[false,false,false,false,false] (by kernel_rfl) rfl rfl ⟨(av cx.out 0).trans rfl,(av cx.out 1).trans rfl,(av ag.out 0).trans rfl,(av ag.out 1).trans rfl⟩ (fun hHeld=>?_)
        generalize wc.drew=w78 at dz bV dI ag cx HB hHeld ⊢
        refine l5 (i:=0) (N:=some 57) (v:=?_) (a':=?_) #[true,false,false,false,false] rfl rfl (by kernel_rfl) (fun _ _ _ h=>h) (Or.inl ⟨by rfl,?_⟩) hHeld ?_ ?_
        rotate_left;· rintro w' ⟨s0,s1,s2,s3⟩;go_simp;with_reducible rfl
        rotate_left;· simp only [Act.put,zI,zZ,zS,akx,cu];rfl
        refine l5 (i:=1) (N:=some 58) (v:=?_) (a':=?_) #[true,true,false,false,false] rfl rfl (by kernel_rfl) (fun _ _ _ h=>h) (Or.inl ⟨by rfl,?_⟩) hHeld ?_ ?_
        rotate_left;· rintro w' ⟨s0,s1,s2,s3⟩;go_simp;with_reducible rfl
        rotate_left;· simp only [Act.put,zI,zZ,zS,akx,cu];rfl
        refine lY (i:=2) (N:=some 59) #[true,true,true,false,false] rfl rfl (by kernel_rfl) (by decide) (fun K hK=>?_)
        refine lD Try.func25 (by kernel_rfl) rfl #[.agg #[.int .i64 af,.slice aq aa.length ak]] (by rfl) rfl rfl gm ?_
        with_reducible refine (jd.calls eD af _ _ aa t128 t129 _ ?akn ?aT D0.out).mono ?_
        (case akn=>exact aC (Kd.bA bU.out HB.out))
        (case aT=>exact cG.out)
        rintro e w79 ⟨v130,rfl,ake,hb⟩
        refine ⟨_,rfl,?_⟩
        have akf:=k0 (Kd.di (aR dz.out) hb)
        have aD:=k0 (Kd.di (aR bV.out) hb)
        have aJ:=k0 (Kd.g_ (aS dI.out) (Kd.xW ake) hb)
        have aX:=k0 (Kd.ak0 (Kd.lO (Kd.lO (Kd.lO ake (Kd.cE (aR dz.out))) (Kd.cE (aR bV.out))) (Kd.uU (aS dI.out))) (aU bl))
        have a_:=k0 (akj (g:=ai) (o:=sO af aq aa ak 24) bk hb)
        have akp:=k0 (akj (g:=fI) (o:=sO t115 ic t116 ir 31) bk hb)
        have bx:=k0 (aI bl hb)
        clear dz
        clear bV
        clear dI
        clear ag
        clear cx
        clear HB
        have dz:=akf
        have bV:=aD
        have dI:=aJ
        have eR:=aX
        have ag:=a_
        have cx:=akp
        have HB:=bx
        clear akf aD aJ aX a_ akp bx
        (try clear hb);(try clear ake)
        obtain ⟨Th,Xt,N8⟩:=Kd.oK eR.out
        (first|subst N8|(injection N8 with akL k9 gU;have akW:=akL.symm;have akX:=gU.symm;clear akL k9 gU;subst akW;subst akX))
        refine hK.out _ _ ⟨(av cx.out 0).trans rfl,(av cx.out 1).trans rfl,(av ag.out 0).trans rfl,(av ag.out 1).trans rfl⟩ (fun hHeld=>?_)
        clear hK K
        refine aky (a':=?_) ?_ ?_
        rotate_left;· show Act.put _ (some 59) _=_;simp only [Act.put,zI,zZ,zS,akx,cu];rfl
        refine lY (i:=3) (N:=some 60) #[true,true,true,true,false] rfl rfl (by kernel_rfl) (by decide) (fun K hK=>?_)
        refine lD Try.func28 (by kernel_rfl) rfl #[.agg #[.int .i64 t115,.slice ic t116.length ir],.agg #[.int .i64 t128,.slice Th t129.length Xt]] (by rfl) rfl rfl gm ?_
        with_reducible refine (mP.calls eD t115 _ _ t116 t128 _ _ t129 false _ ?akn ?aT ?cn ?cw xI.out).mono ?_
        (case akn=>exact aC ((Kd.bY dI.out).2.2))
        (case aT=>exact (Kd.bY dI.out).2.1)
        (case cn=>exact aC ((Kd.bY eR.out).2.2))
        (case cw=>exact (Kd.bY eR.out).2.1)
        rintro e w81 ⟨rfl,hb⟩
        refine ⟨_,rfl,?_⟩
        have akf:=k0 (Kd.di (aR dz.out) hb)
        have aD:=k0 (Kd.di (aR bV.out) hb)
        have aJ:=k0 (Kd.akP (aS dI.out) hb)
        have aX:=k0 (Kd.akP (aS eR.out) hb)
        have a_:=k0 (akj (g:=ai) (o:=sO af aq aa ak 24) bk hb)
        have akp:=k0 (akj (g:=fI) (o:=sO t115 ic t116 ir 31) bk hb)
        have bx:=k0 (aI bl hb)
        clear dz
        clear bV
        clear dI
        clear eR
        clear ag
        clear cx
        clear HB
        have dz:=akf
        have bV:=aD
        have dI:=aJ
        have eR:=aX
        have ag:=a_
        have cx:=akp
        have HB:=bx
        clear akf aD aJ aX a_ akp bx
        (try clear hb)
        refine hK.out _ _ ⟨(av cx.out 0).trans rfl,(av cx.out 1).trans rfl,(av ag.out 0).trans rfl,(av ag.out 1).trans rfl⟩ (fun hHeld=>?_)
        clear hK K
        refine aky (a':=?_) ?_ ?_
        rotate_left;· show Act.put _ (some 60) _=_;simp only [Act.put,zI,zZ,zS,akx,cu];rfl
        refine lZ (i:=4) (N:=some 61) (v:=?_) (a':=?_) #[true,true,true,true,true] rfl rfl (by kernel_rfl) (fun _ _ _ h=>h) (Or.inl ⟨by rfl,?_⟩) ?_ ?_
        rotate_left;· intro w';go_simp;with_reducible rfl
        rotate_left;· simp only [Act.put,zI,zZ,zS,akx,cu];rfl
        refine lC (by kernel_rfl) ?_
        try go_wp2
        go_ret
        exact ⟨by first|rfl|(simp [bq,bt]<;>rfl)|(simp [*,bq,bt]<;>rfl),bl⟩
       subst c49
       have H1:((cv.f eD l1).bind fun t133=>((dP.f eD t120 t133).bind fun t136=>(if t136=true then ((cv.f eD l2).bind fun t137=>((dP.f eD t123 t137).bind fun t140=>(if t140=true then (some true) else (some false)))) else (some false))))=some r:=by rw [if_pos rfl] at H;exact H
       clear H
       have H:=H1
       clear H1
       replace H:=Option.bind_eq_some_iff.mp H
       obtain ⟨t133,LK,H⟩:=H
       replace H:((dP.f eD t120 t133).bind fun t136=>(if t136=true then ((cv.f eD l2).bind fun t137=>((dP.f eD t123 t137).bind fun t140=>(if t140=true then (some true) else (some false)))) else (some false)))=some r:=H
       have alb:=k0 LK
       clear LK
       replace H:=Option.bind_eq_some_iff.mp H
       obtain ⟨t136,aly,H⟩:=H
       replace H:(if t136=true then ((cv.f eD l2).bind fun t137=>((dP.f eD t123 t137).bind fun t140=>(if t140=true then (some true) else (some false)))) else (some false))=some r:=H
       have xJ:=k0 aly
       clear aly
       by_cases c52:t136=true
       case neg =>
        replace c52:=Bool.eq_false_iff.mpr c52
        subst c52
        have H1:(some false)=some r:=by rw [if_neg (show ¬ (false=true) by decide)] at H;exact H
        clear H
        have H:=H1
        clear H1
        obtain rfl:=Option.some.inj H
        try go_wp2
        replace dz:=k0 (Kd.bn dz.out);replace bV:=k0 (Kd.bn bV.out);replace dI:=k0 (Kd.eT dI.out);replace ag:=k0 (ct ag.out);replace cx:=k0 (ct cx.out);replace HB:=k0 (cP HB.out)
        refine lJ (n:=5) (S:=fun w'=>w'.cell? ⟨fI,0,none⟩=some (.int .i64 t115)∧w'.cell? ⟨fI,1,none⟩=some (.slice ic t116.length ir)∧w'.cell? ⟨ai,0,none⟩=some (.int .i64 af)∧w'.cell? ⟨ai,1,none⟩=some (.slice aq aa.length ak)) (ds:=[]) #[false,false,false,false,false] (by kernel_rfl) rfl rfl ⟨(av cx.out 0).trans rfl,(av cx.out 1).trans rfl,(av ag.out 0).trans rfl,(av ag.out 1).trans rfl⟩ (fun hHeld=>?_)
        generalize wc.drew=w72 at dz bV dI ag cx HB hHeld ⊢
        refine l5 (i:=0) (N:=some 57) (v:=?_) (a':=?_) #[true,false,false,false,false] rfl rfl (by kernel_rfl) (fun _ _ _ h=>h) (Or.inl ⟨by rfl,?_⟩) hHeld ?_ ?_
        rotate_left;· rintro w' ⟨s0,s1,s2,s3⟩;go_simp;with_reducible rfl
        rotate_left;· simp only [Act.put,zI,zZ,zS,akx,cu];rfl
        refine l5 (i:=1) (N:=some 58) (v:=?_) (a':=?_) #[true,true,false,false,false] rfl rfl (by kernel_rfl) (fun _ _ _ h=>h) (Or.inl ⟨by rfl,?_⟩) hHeld ?_ ?_
        rotate_left;· rintro w' ⟨s0,s1,s2,s3⟩;go_simp;with_reducible rfl
        rotate_left;· simp only [Act.put,zI,zZ,zS,akx,cu];rfl
        refine lY (i:=2) (N:=some 59) #[true,true,true,false,false] rfl rfl (by kernel_rfl) (by decide) (fun K hK=>?_)
        refine lD Try.func25 (by kernel_rfl) rfl #[.agg #[.int .i64 af,.slice aq aa.length ak]] (by rfl) rfl rfl gm ?_
        with_reducible refine (jd.calls eD af _ _ aa t128 t129 _ ?akn ?aT D0.out).mono ?_
        (case akn=>exact aC (Kd.bA bU.out HB.out))
        (case aT=>exact cG.out)
        rintro e w73 ⟨v130,rfl,ake,hb⟩
        refine ⟨_,rfl,?_⟩
        have akf:=k0 (Kd.di (aR dz.out) hb)
        have aD:=k0 (Kd.di (aR bV.out) hb)
        have aJ:=k0 (Kd.g_ (aS dI.out) (Kd.xW ake) hb)
        have aX:=k0 (Kd.ak0 (Kd.lO (Kd.lO (Kd.lO ake (Kd.cE (aR dz.out))) (Kd.cE (aR bV.out))) (Kd.uU (aS dI.out))) (aU bl))
        have a_:=k0 (akj (g:=ai) (o:=sO af aq aa ak 24) bk hb)
        have akp:=k0 (akj (g:=fI) (o:=sO t115 ic t116 ir 31) bk hb)
        have bx:=k0 (aI bl hb)
        clear dz
        clear bV
        clear dI
        clear ag
        clear cx
        clear HB
        have dz:=akf
        have bV:=aD
        have dI:=aJ
        have eR:=aX
        have ag:=a_
        have cx:=akp
        have HB:=bx
        clear akf aD aJ aX a_ akp bx
        (try clear hb);(try clear ake)
        obtain ⟨Tf,Xq,N6⟩:=Kd.oK eR.out
        (first|subst N6|(injection N6 with akL k9 gU;have akW:=akL.symm;have akX:=gU.symm;clear akL k9 gU;subst akW;subst akX))
        refine hK.out _ _ ⟨(av cx.out 0).trans rfl,(av cx.out 1).trans rfl,(av ag.out 0).trans rfl,(av ag.out 1).trans rfl⟩ (fun hHeld=>?_)
        clear hK K
        refine aky (a':=?_) ?_ ?_
        rotate_left;· show Act.put _ (some 59) _=_;simp only [Act.put,zI,zZ,zS,akx,cu];rfl
        refine lY (i:=3) (N:=some 60) #[true,true,true,true,false] rfl rfl (by kernel_rfl) (by decide) (fun K hK=>?_)
        refine lD Try.func28 (by kernel_rfl) rfl #[.agg #[.int .i64 t115,.slice ic t116.length ir],.agg #[.int .i64 t128,.slice Tf t129.length Xq]] (by rfl) rfl rfl gm ?_
        with_reducible refine (mP.calls eD t115 _ _ t116 t128 _ _ t129 true _ ?akn ?aT ?cn ?cw xI.out).mono ?_
        (case akn=>exact aC ((Kd.bY dI.out).2.2))
        (case aT=>exact (Kd.bY dI.out).2.1)
        (case cn=>exact aC ((Kd.bY eR.out).2.2))
        (case cw=>exact (Kd.bY eR.out).2.1)
        rintro e w75 ⟨rfl,hb⟩
        refine ⟨_,rfl,?_⟩
        have akf:=k0 (Kd.di (aR dz.out) hb)
        have aD:=k0 (Kd.di (aR bV.out) hb)
        have aJ:=k0 (Kd.akP (aS dI.out) hb)
        have aX:=k0 (Kd.akP (aS eR.out) hb)
        have a_:=k0 (akj (g:=ai) (o:=sO af aq aa ak 24) bk hb)
        have akp:=k0 (akj (g:=fI) (o:=sO t115 ic t116 ir 31) bk hb)
        have bx:=k0 (aI bl hb)
        clear dz
        clear bV
        clear dI
        clear eR
        clear ag
        clear cx
        clear HB
        have dz:=akf
        have bV:=aD
        have dI:=aJ
        have eR:=aX
        have ag:=a_
        have cx:=akp
        have HB:=bx
        clear akf aD aJ aX a_ akp bx
        (try clear hb)
        refine hK.out _ _ ⟨(av cx.out 0).trans rfl,(av cx.out 1).trans rfl,(av ag.out 0).trans rfl,(av ag.out 1).trans rfl⟩ (fun hHeld=>?_)
        clear hK K
        refine aky (a':=?_) ?_ ?_
        rotate_left;· show Act.put _ (some 60) _=_;simp only [Act.put,zI,zZ,zS,akx,cu];rfl
        refine lZ (i:=4) (N:=some 61) (v:=?_) (a':=?_) #[true,true,true,true,true] rfl rfl (by kernel_rfl) (fun _ _ _ h=>h) (Or.inl ⟨by rfl,?_⟩) ?_ ?_
        rotate_left;· intro w';go_simp;with_reducible rfl
        rotate_left;· simp only [Act.put,zI,zZ,zS,akx,cu];rfl
        refine lC (by kernel_rfl) ?_
        try go_wp2_with (first|((with_reducible refine cZ (f:=26) rfl ?_);refine c_ (some 64) rfl rfl Try.func26 (by kernel_rfl) rfl #[.slice A1 l1.length c1] rfl gm ?_;(with_reducible refine (cv.calls eD _ _ l1 t133 _ ?akn ?aT alb.out).mono ?_);(case akn=>exact aC (Kd.bA ek.out HB.out));(case aT=>exact jZ.out);rintro e w76 ⟨Sn,rfl,ake,hb⟩;refine ⟨_,rfl,?_⟩;have akf:=k0 (Kd.dV (aR dz.out) (Kd.bW ake) hb);have aD:=k0 (Kd.dV (aR bV.out) (Kd.bW ake) hb);have aJ:=k0 (Kd.g_ (aS dI.out) (Kd.bW ake) hb);have aX:=k0 (Kd.g_ (aS eR.out) (Kd.bW ake) hb);have a_:=k0 (Kd.dL (Kd.dW (Kd.dW ake (Kd.cE (aR dz.out))) (Kd.cE (aR bV.out))) (aU bl));have akp:=k0 (akj (g:=ai) (o:=sO af aq aa ak 24) bk hb);have bx:=k0 (akj (g:=fI) (o:=sO t115 ic t116 ir 31) bk hb);have b9:=k0 (aI bl hb);clear dz;clear bV;clear dI;clear eR;clear ag;clear cx;clear HB;have dz:=akf;have bV:=aD;have dI:=aJ;have eR:=aX;have mS:=a_;have ag:=akp;have cx:=bx;have HB:=b9;clear akf aD aJ aX a_ akp bx b9;(try clear hb);(try clear ake);obtain ⟨Tg,Xr,Yd⟩:=Kd.eK mS.out;subst Yd)|((with_reducible refine cZ (f:=18) rfl ?_);refine c_ (some 65) rfl rfl Try.func18 (by kernel_rfl) rfl #[.slice we t120.length wL,.slice Tg t133.length Xr] rfl gm ?_;(with_reducible refine (dP.calls eD _ _ t120 _ _ t133 false _ ?akn ?aT ?cn ?cw xJ.out).mono ?_);(case akn=>exact aC ((Kd.bu dz.out).2.2));(case aT=>exact (Kd.bu dz.out).2.1);(case cn=>exact aC ((Kd.bu mS.out).2.2));(case cw=>exact (Kd.bu mS.out).2.1);rintro e w' ⟨rfl,⟨nd,rfl⟩⟩;refine ⟨_,rfl,?_⟩))
        go_ret
        exact ⟨by first|rfl|(simp [bq,bt]<;>rfl)|(simp [*,bq,bt]<;>rfl),bl⟩
       subst c52
       have H1:((cv.f eD l2).bind fun t137=>((dP.f eD t123 t137).bind fun t140=>(if t140=true then (some true) else (some false))))=some r:=by rw [if_pos rfl] at H;exact H
       clear H
       have H:=H1
       clear H1
       replace H:=Option.bind_eq_some_iff.mp H
       obtain ⟨t137,LN,H⟩:=H
       replace H:((dP.f eD t123 t137).bind fun t140=>(if t140=true then (some true) else (some false)))=some r:=H
       have LM:=k0 LN
       clear LN
       replace H:=Option.bind_eq_some_iff.mp H
       obtain ⟨t140,LP,H⟩:=H
       replace H:(if t140=true then (some true) else (some false))=some r:=H
       have LO:=k0 LP
       clear LP
       by_cases c55:t140=true
       case neg =>
        replace c55:=Bool.eq_false_iff.mpr c55
        subst c55
        have H1:(some false)=some r:=by rw [if_neg (show ¬ (false=true) by decide)] at H;exact H
        clear H
        have H:=H1
        clear H1
        obtain rfl:=Option.some.inj H
        try go_wp2
        replace dz:=k0 (Kd.bn dz.out);replace bV:=k0 (Kd.bn bV.out);replace dI:=k0 (Kd.eT dI.out);replace ag:=k0 (ct ag.out);replace cx:=k0 (ct cx.out);replace HB:=k0 (cP HB.out)
        refine lJ (n:=5) (S:=fun w'=>w'.cell? ⟨fI,0,none⟩=some (.int .i64 t115)∧w'.cell? ⟨fI,1,none⟩=some (.slice ic t116.length ir)∧w'.cell? ⟨ai,0,none⟩=some (.int .i64 af)∧w'.cell? ⟨ai,1,none⟩=some (.slice aq aa.length ak)) (ds:=[]) #[false,false,false,false,false] (by kernel_rfl) rfl rfl ⟨(av cx.out 0).trans rfl,(av cx.out 1).trans rfl,(av ag.out 0).trans rfl,(av ag.out 1).trans rfl⟩ (fun hHeld=>?_)
        generalize wc.drew=jH at dz bV dI ag cx HB hHeld ⊢
        refine l5 (i:=0) (N:=some 57) (v:=?_) (a':=?_) #[true,false,false,false,false] rfl rfl (by kernel_rfl) (fun _ _ _ h=>h) (Or.inl ⟨by rfl,?_⟩) hHeld ?_ ?_
        rotate_left;· rintro w' ⟨s0,s1,s2,s3⟩;go_simp;with_reducible rfl
        rotate_left;· simp only [Act.put,zI,zZ,zS,akx,cu];rfl
        refine l5 (i:=1) (N:=some 58) (v:=?_) (a':=?_) #[true,true,false,false,false] rfl rfl (by kernel_rfl) (fun _ _ _ h=>h) (Or.inl ⟨by rfl,?_⟩) hHeld ?_ ?_
        rotate_left;· rintro w' ⟨s0,s1,s2,s3⟩;go_simp;with_reducible rfl
        rotate_left;· simp only [Act.put,zI,zZ,zS,akx,cu];rfl
        refine lY (i:=2) (N:=some 59) #[true,true,true,false,false] rfl rfl (by kernel_rfl) (by decide) (fun K hK=>?_)
        refine lD Try.func25 (by kernel_rfl) rfl #[.agg #[.int .i64 af,.slice aq aa.length ak]] (by rfl) rfl rfl gm ?_
        with_reducible refine (jd.calls eD af _ _ aa t128 t129 _ ?akn ?aT D0.out).mono ?_
        (case akn=>exact aC (Kd.bA bU.out HB.out))
        (case aT=>exact cG.out)
        rintro e w65 ⟨v130,rfl,ake,hb⟩
        refine ⟨_,rfl,?_⟩
        have akf:=k0 (Kd.di (aR dz.out) hb)
        have aD:=k0 (Kd.di (aR bV.out) hb)
        have aJ:=k0 (Kd.g_ (aS dI.out) (Kd.xW ake) hb)
        have aX:=k0 (Kd.ak0 (Kd.lO (Kd.lO (Kd.lO ake (Kd.cE (aR dz.out))) (Kd.cE (aR bV.out))) (Kd.uU (aS dI.out))) (aU bl))
        have a_:=k0 (akj (g:=ai) (o:=sO af aq aa ak 24) bk hb)
        have akp:=k0 (akj (g:=fI) (o:=sO t115 ic t116 ir 31) bk hb)
        have bx:=k0 (aI bl hb)
        clear dz
        clear bV
        clear dI
        clear ag
        clear cx
        clear HB
        have dz:=akf
        have bV:=aD
        have dI:=aJ
        have eR:=aX
        have ag:=a_
        have cx:=akp
        have HB:=bx
        clear akf aD aJ aX a_ akp bx
        (try clear hb);(try clear ake)
        obtain ⟨Ta,Xl,N5⟩:=Kd.oK eR.out
        (first|subst N5|(injection N5 with akL k9 gU;have akW:=akL.symm;have akX:=gU.symm;clear akL k9 gU;subst akW;subst akX))
        refine hK.out _ _ ⟨(av cx.out 0).trans rfl,(av cx.out 1).trans rfl,(av ag.out 0).trans rfl,(av ag.out 1).trans rfl⟩ (fun hHeld=>?_)
        clear hK K
        refine aky (a':=?_) ?_ ?_
        rotate_left;· show Act.put _ (some 59) _=_;simp only [Act.put,zI,zZ,zS,akx,cu];rfl
        refine lY (i:=3) (N:=some 60) #[true,true,true,true,false] rfl rfl (by kernel_rfl) (by decide) (fun K hK=>?_)
        refine lD Try.func28 (by kernel_rfl) rfl #[.agg #[.int .i64 t115,.slice ic t116.length ir],.agg #[.int .i64 t128,.slice Ta t129.length Xl]] (by rfl) rfl rfl gm ?_
        with_reducible refine (mP.calls eD t115 _ _ t116 t128 _ _ t129 true _ ?akn ?aT ?cn ?cw xI.out).mono ?_
        (case akn=>exact aC ((Kd.bY dI.out).2.2))
        (case aT=>exact (Kd.bY dI.out).2.1)
        (case cn=>exact aC ((Kd.bY eR.out).2.2))
        (case cw=>exact (Kd.bY eR.out).2.1)
        rintro e w67 ⟨rfl,hb⟩
        refine ⟨_,rfl,?_⟩
        have akf:=k0 (Kd.di (aR dz.out) hb)
        have aD:=k0 (Kd.di (aR bV.out) hb)
        have aJ:=k0 (Kd.akP (aS dI.out) hb)
        have aX:=k0 (Kd.akP (aS eR.out) hb)
        have a_:=k0 (akj (g:=ai) (o:=sO af aq aa ak 24) bk hb)
        have akp:=k0 (akj (g:=fI) (o:=sO t115 ic t116 ir 31) bk hb)
        have bx:=k0 (aI bl hb)
        clear dz
        clear bV
        clear dI
        clear eR
        clear ag
        clear cx
        clear HB
        have dz:=akf
        have bV:=aD
        have dI:=aJ
        have eR:=aX
        have ag:=a_
        have cx:=akp
        have HB:=bx
        clear akf aD aJ aX a_ akp bx
        (try clear hb)
        refine hK.out _ _ ⟨(av cx.out 0).trans rfl,(av cx.out 1).trans rfl,(av ag.out 0).trans rfl,(av ag.out 1).trans rfl⟩ (fun hHeld=>?_)
        clear hK K
        refine aky (a':=?_) ?_ ?_
        rotate_left;· show Act.put _ (some 60) _=_;simp only [Act.put,zI,zZ,zS,akx,cu];rfl
        refine lZ (i:=4) (N:=some 61) (v:=?_) (a':=?_) #[true,true,true,true,true] rfl rfl (by kernel_rfl) (fun _ _ _ h=>h) (Or.inl ⟨by rfl,?_⟩) ?_ ?_
        rotate_left;· intro w';go_simp;with_reducible rfl
        rotate_left;· simp only [Act.put,zI,zZ,zS,akx,cu];rfl
        refine lC (by kernel_rfl) ?_
        try go_wp2_with (first|((with_reducible refine cZ (f:=26) rfl ?_);refine c_ (some 64) rfl rfl Try.func26 (by kernel_rfl) rfl #[.slice A1 l1.length c1] rfl gm ?_;(with_reducible refine (cv.calls eD _ _ l1 t133 _ ?akn ?aT alb.out).mono ?_);(case akn=>exact aC (Kd.bA ek.out HB.out));(case aT=>exact jZ.out);rintro e w68 ⟨Sn,rfl,ake,hb⟩;refine ⟨_,rfl,?_⟩;have akf:=k0 (Kd.dV (aR dz.out) (Kd.bW ake) hb);have aD:=k0 (Kd.dV (aR bV.out) (Kd.bW ake) hb);have aJ:=k0 (Kd.g_ (aS dI.out) (Kd.bW ake) hb);have aX:=k0 (Kd.g_ (aS eR.out) (Kd.bW ake) hb);have a_:=k0 (Kd.dL (Kd.dW (Kd.dW ake (Kd.cE (aR dz.out))) (Kd.cE (aR bV.out))) (aU bl));have akp:=k0 (akj (g:=ai) (o:=sO af aq aa ak 24) bk hb);have bx:=k0 (akj (g:=fI) (o:=sO t115 ic t116 ir 31) bk hb);have b9:=k0 (aI bl hb);clear dz;clear bV;clear dI;clear eR;clear ag;clear cx;clear HB;have dz:=akf;have bV:=aD;have dI:=aJ;have eR:=aX;have mS:=a_;have ag:=akp;have cx:=bx;have HB:=b9;clear akf aD aJ aX a_ akp bx b9;(try clear hb);(try clear ake);obtain ⟨Tb,Xm,X9⟩:=Kd.eK mS.out;subst X9)|((with_reducible refine cZ (f:=18) rfl ?_);refine c_ (some 65) rfl rfl Try.func18 (by kernel_rfl) rfl #[.slice we t120.length wL,.slice Tb t133.length Xm] rfl gm ?_;(with_reducible refine (dP.calls eD _ _ t120 _ _ t133 true _ ?akn ?aT ?cn ?cw xJ.out).mono ?_);(case akn=>exact aC ((Kd.bu dz.out).2.2));(case aT=>exact (Kd.bu dz.out).2.1);(case cn=>exact aC ((Kd.bu mS.out).2.2));(case cw=>exact (Kd.bu mS.out).2.1);rintro e w' ⟨rfl,⟨nd,rfl⟩⟩;refine ⟨_,rfl,?_⟩)|((with_reducible refine cZ (f:=26) rfl ?_);refine c_ (some 69) rfl rfl Try.func26 (by kernel_rfl) rfl #[.slice A2 l2.length c2] rfl gm ?_;(with_reducible refine (cv.calls eD _ _ l2 t137 _ ?akn ?aT LM.out).mono ?_);(case akn=>exact aC (Kd.bA rq.out bl));(case aT=>exact qE.out);rintro e w70 ⟨v138,rfl,ake,hb⟩;refine ⟨_,rfl,?_⟩;have akf:=k0 (Kd.dV (aR dz.out) (Kd.bW ake) hb);have aD:=k0 (Kd.dV (aR bV.out) (Kd.bW ake) hb);have aJ:=k0 (Kd.g_ (aS dI.out) (Kd.bW ake) hb);have aX:=k0 (Kd.g_ (aS eR.out) (Kd.bW ake) hb);have a_:=k0 (Kd.dV (aR mS.out) (Kd.bW ake) hb);have akp:=k0 (Kd.dL (Kd.dW (Kd.dW (Kd.dW ake (Kd.cE (aR dz.out))) (Kd.cE (aR bV.out))) (Kd.cE (aR mS.out))) (aU bl));have bx:=k0 (akj (g:=ai) (o:=sO af aq aa ak 24) bk hb);have b9:=k0 (akj (g:=fI) (o:=sO t115 ic t116 ir 31) bk hb);have cL:=k0 (aI bl hb);clear dz;clear bV;clear dI;clear eR;clear mS;clear ag;clear cx;clear HB;have dz:=akf;have bV:=aD;have dI:=aJ;have eR:=aX;have mS:=a_;have xP:=akp;have ag:=bx;have cx:=b9;have HB:=cL;clear akf aD aJ aX a_ akp bx b9 cL;(try clear hb);(try clear ake);obtain ⟨Td,Xo,Ya⟩:=Kd.eK xP.out;subst Ya)|((with_reducible refine cZ (f:=18) rfl ?_);refine c_ (some 70) rfl rfl Try.func18 (by kernel_rfl) rfl #[.slice xK t123.length wM,.slice Td t137.length Xo] rfl gm ?_;(with_reducible refine (dP.calls eD _ _ t123 _ _ t137 false _ ?akn ?aT ?cn ?cw LO.out).mono ?_);(case akn=>exact aC ((Kd.bu bV.out).2.2));(case aT=>exact (Kd.bu bV.out).2.1);(case cn=>exact aC ((Kd.bu xP.out).2.2));(case cw=>exact (Kd.bu xP.out).2.1);rintro e w' ⟨rfl,⟨nd,rfl⟩⟩;refine ⟨_,rfl,?_⟩))
        go_ret
        exact ⟨by first|rfl|(simp [bq,bt]<;>rfl)|(simp [*,bq,bt]<;>rfl),bl⟩
       subst c55
       have H1:(some true)=some r:=by rw [if_pos rfl] at H;exact H
       clear H
       have H:=H1
       clear H1
       obtain rfl:=Option.some.inj H
       try go_wp2
       replace dz:=k0 (Kd.bn dz.out);replace bV:=k0 (Kd.bn bV.out);replace dI:=k0 (Kd.eT dI.out);replace ag:=k0 (ct ag.out);replace cx:=k0 (ct cx.out);replace HB:=k0 (cP HB.out)
       refine lJ (n:=5) (S:=fun w'=>w'.cell? ⟨fI,0,none⟩=some (.int .i64 t115)∧w'.cell? ⟨fI,1,none⟩=some (.slice ic t116.length ir)∧w'.cell? ⟨ai,0,none⟩=some (.int .i64 af)∧w'.cell? ⟨ai,1,none⟩=some (.slice aq aa.length ak)) (ds:=[]) #[false,false,false,false,false] (by kernel_rfl) rfl rfl ⟨(av cx.out 0).trans rfl,(av cx.out 1).trans rfl,(av ag.out 0).trans rfl,(av ag.out 1).trans rfl⟩ (fun hHeld=>?_)
       generalize wc.drew=SA at dz bV dI ag cx HB hHeld ⊢
       refine l5 (i:=0) (N:=some 57) (v:=?_) (a':=?_) #[true,false,false,false,false] rfl rfl (by kernel_rfl) (fun _ _ _ h=>h) (Or.inl ⟨by rfl,?_⟩) hHeld ?_ ?_
       rotate_left;· rintro w' ⟨s0,s1,s2,s3⟩;go_simp;with_reducible rfl
       rotate_left;· simp only [Act.put,zI,zZ,zS,akx,cu];rfl
       refine l5 (i:=1) (N:=some 58) (v:=?_) (a':=?_) #[true,true,false,false,false] rfl rfl (by kernel_rfl) (fun _ _ _ h=>h) (Or.inl ⟨by rfl,?_⟩) hHeld ?_ ?_
       rotate_left;· rintro w' ⟨s0,s1,s2,s3⟩;go_simp;with_reducible rfl
       rotate_left;· simp only [Act.put,zI,zZ,zS,akx,cu];rfl
       refine lY (i:=2) (N:=some 59) #[true,true,true,false,false] rfl rfl (by kernel_rfl) (by decide) (fun K hK=>?_)
       refine lD Try.func25 (by kernel_rfl) rfl #[.agg #[.int .i64 af,.slice aq aa.length ak]] (by rfl) rfl rfl gm ?_
       with_reducible refine (jd.calls eD af _ _ aa t128 t129 _ ?akn ?aT D0.out).mono ?_
       (case akn=>exact aC (Kd.bA bU.out HB.out))
       (case aT=>exact cG.out)
       rintro e w57 ⟨v130,rfl,ake,hb⟩
       refine ⟨_,rfl,?_⟩
       have akf:=k0 (Kd.di (aR dz.out) hb)
       have aD:=k0 (Kd.di (aR bV.out) hb)
       have aJ:=k0 (Kd.g_ (aS dI.out) (Kd.xW ake) hb)
       have aX:=k0 (Kd.ak0 (Kd.lO (Kd.lO (Kd.lO ake (Kd.cE (aR dz.out))) (Kd.cE (aR bV.out))) (Kd.uU (aS dI.out))) (aU bl))
       have a_:=k0 (akj (g:=ai) (o:=sO af aq aa ak 24) bk hb)
       have akp:=k0 (akj (g:=fI) (o:=sO t115 ic t116 ir 31) bk hb)
       have bx:=k0 (aI bl hb)
       clear dz
       clear bV
       clear dI
       clear ag
       clear cx
       clear HB
       have dz:=akf
       have bV:=aD
       have dI:=aJ
       have eR:=aX
       have ag:=a_
       have cx:=akp
       have HB:=bx
       clear akf aD aJ aX a_ akp bx
       (try clear hb);(try clear ake)
       obtain ⟨uI,vn,ER⟩:=Kd.oK eR.out
       (first|subst ER|(injection ER with akL k9 gU;have akW:=akL.symm;have akX:=gU.symm;clear akL k9 gU;subst akW;subst akX))
       refine hK.out _ _ ⟨(av cx.out 0).trans rfl,(av cx.out 1).trans rfl,(av ag.out 0).trans rfl,(av ag.out 1).trans rfl⟩ (fun hHeld=>?_)
       clear hK K
       refine aky (a':=?_) ?_ ?_
       rotate_left;· show Act.put _ (some 59) _=_;simp only [Act.put,zI,zZ,zS,akx,cu];rfl
       refine lY (i:=3) (N:=some 60) #[true,true,true,true,false] rfl rfl (by kernel_rfl) (by decide) (fun K hK=>?_)
       refine lD Try.func28 (by kernel_rfl) rfl #[.agg #[.int .i64 t115,.slice ic t116.length ir],.agg #[.int .i64 t128,.slice uI t129.length vn]] (by rfl) rfl rfl gm ?_
       with_reducible refine (mP.calls eD t115 _ _ t116 t128 _ _ t129 true _ ?akn ?aT ?cn ?cw xI.out).mono ?_
       (case akn=>exact aC ((Kd.bY dI.out).2.2))
       (case aT=>exact (Kd.bY dI.out).2.1)
       (case cn=>exact aC ((Kd.bY eR.out).2.2))
       (case cw=>exact (Kd.bY eR.out).2.1)
       rintro e zu ⟨rfl,hb⟩
       refine ⟨_,rfl,?_⟩
       have akf:=k0 (Kd.di (aR dz.out) hb)
       have aD:=k0 (Kd.di (aR bV.out) hb)
       have aJ:=k0 (Kd.akP (aS dI.out) hb)
       have aX:=k0 (Kd.akP (aS eR.out) hb)
       have a_:=k0 (akj (g:=ai) (o:=sO af aq aa ak 24) bk hb)
       have akp:=k0 (akj (g:=fI) (o:=sO t115 ic t116 ir 31) bk hb)
       have bx:=k0 (aI bl hb)
       clear dz
       clear bV
       clear dI
       clear eR
       clear ag
       clear cx
       clear HB
       have dz:=akf
       have bV:=aD
       have dI:=aJ
       have eR:=aX
       have ag:=a_
       have cx:=akp
       have HB:=bx
       clear akf aD aJ aX a_ akp bx
       (try clear hb)
       refine hK.out _ _ ⟨(av cx.out 0).trans rfl,(av cx.out 1).trans rfl,(av ag.out 0).trans rfl,(av ag.out 1).trans rfl⟩ (fun hHeld=>?_)
       clear hK K
       refine aky (a':=?_) ?_ ?_
       rotate_left;· show Act.put _ (some 60) _=_;simp only [Act.put,zI,zZ,zS,akx,cu];rfl
       refine lZ (i:=4) (N:=some 61) (v:=?_) (a':=?_) #[true,true,true,true,true] rfl rfl (by kernel_rfl) (fun _ _ _ h=>h) (Or.inl ⟨by rfl,?_⟩) ?_ ?_
       rotate_left;· intro w';go_simp;with_reducible rfl
       rotate_left;· simp only [Act.put,zI,zZ,zS,akx,cu];rfl
       refine lC (by kernel_rfl) ?_
       try go_wp2_with (first|((with_reducible refine cZ (f:=26) rfl ?_);refine c_ (some 64) rfl rfl Try.func26 (by kernel_rfl) rfl #[.slice A1 l1.length c1] rfl gm ?_;(with_reducible refine (cv.calls eD _ _ l1 t133 _ ?akn ?aT alb.out).mono ?_);(case akn=>exact aC (Kd.bA ek.out HB.out));(case aT=>exact jZ.out);rintro e SB ⟨Sn,rfl,ake,hb⟩;refine ⟨_,rfl,?_⟩;have akf:=k0 (Kd.dV (aR dz.out) (Kd.bW ake) hb);have aD:=k0 (Kd.dV (aR bV.out) (Kd.bW ake) hb);have aJ:=k0 (Kd.g_ (aS dI.out) (Kd.bW ake) hb);have aX:=k0 (Kd.g_ (aS eR.out) (Kd.bW ake) hb);have a_:=k0 (Kd.dL (Kd.dW (Kd.dW ake (Kd.cE (aR dz.out))) (Kd.cE (aR bV.out))) (aU bl));have akp:=k0 (akj (g:=ai) (o:=sO af aq aa ak 24) bk hb);have bx:=k0 (akj (g:=fI) (o:=sO t115 ic t116 ir 31) bk hb);have b9:=k0 (aI bl hb);clear dz;clear bV;clear dI;clear eR;clear ag;clear cx;clear HB;have dz:=akf;have bV:=aD;have dI:=aJ;have eR:=aX;have mS:=a_;have ag:=akp;have cx:=bx;have HB:=b9;clear akf aD aJ aX a_ akp bx b9;(try clear hb);(try clear ake);obtain ⟨Gv,Ik,ES⟩:=Kd.eK mS.out;subst ES)|((with_reducible refine cZ (f:=18) rfl ?_);refine c_ (some 65) rfl rfl Try.func18 (by kernel_rfl) rfl #[.slice we t120.length wL,.slice Gv t133.length Ik] rfl gm ?_;(with_reducible refine (dP.calls eD _ _ t120 _ _ t133 true _ ?akn ?aT ?cn ?cw xJ.out).mono ?_);(case akn=>exact aC ((Kd.bu dz.out).2.2));(case aT=>exact (Kd.bu dz.out).2.1);(case cn=>exact aC ((Kd.bu mS.out).2.2));(case cw=>exact (Kd.bu mS.out).2.1);rintro e w' ⟨rfl,⟨nd,rfl⟩⟩;refine ⟨_,rfl,?_⟩)|((with_reducible refine cZ (f:=26) rfl ?_);refine c_ (some 69) rfl rfl Try.func26 (by kernel_rfl) rfl #[.slice A2 l2.length c2] rfl gm ?_;(with_reducible refine (cv.calls eD _ _ l2 t137 _ ?akn ?aT LM.out).mono ?_);(case akn=>exact aC (Kd.bA rq.out bl));(case aT=>exact qE.out);rintro e w62 ⟨v138,rfl,ake,hb⟩;refine ⟨_,rfl,?_⟩;have akf:=k0 (Kd.dV (aR dz.out) (Kd.bW ake) hb);have aD:=k0 (Kd.dV (aR bV.out) (Kd.bW ake) hb);have aJ:=k0 (Kd.g_ (aS dI.out) (Kd.bW ake) hb);have aX:=k0 (Kd.g_ (aS eR.out) (Kd.bW ake) hb);have a_:=k0 (Kd.dV (aR mS.out) (Kd.bW ake) hb);have akp:=k0 (Kd.dL (Kd.dW (Kd.dW (Kd.dW ake (Kd.cE (aR dz.out))) (Kd.cE (aR bV.out))) (Kd.cE (aR mS.out))) (aU bl));have bx:=k0 (akj (g:=ai) (o:=sO af aq aa ak 24) bk hb);have b9:=k0 (akj (g:=fI) (o:=sO t115 ic t116 ir 31) bk hb);have cL:=k0 (aI bl hb);clear dz;clear bV;clear dI;clear eR;clear mS;clear ag;clear cx;clear HB;have dz:=akf;have bV:=aD;have dI:=aJ;have eR:=aX;have mS:=a_;have xP:=akp;have ag:=bx;have cx:=b9;have HB:=cL;clear akf aD aJ aX a_ akp bx b9 cL;(try clear hb);(try clear ake);obtain ⟨S_,Xk,X7⟩:=Kd.eK xP.out;subst X7)|((with_reducible refine cZ (f:=18) rfl ?_);refine c_ (some 70) rfl rfl Try.func18 (by kernel_rfl) rfl #[.slice xK t123.length wM,.slice S_ t137.length Xk] rfl gm ?_;(with_reducible refine (dP.calls eD _ _ t123 _ _ t137 true _ ?akn ?aT ?cn ?cw LO.out).mono ?_);(case akn=>exact aC ((Kd.bu bV.out).2.2));(case aT=>exact (Kd.bu bV.out).2.1);(case cn=>exact aC ((Kd.bu xP.out).2.2));(case cw=>exact (Kd.bu xP.out).2.1);rintro e w' ⟨rfl,⟨nd,rfl⟩⟩;refine ⟨_,rfl,?_⟩))
       go_ret
       exact ⟨by first|rfl|(simp [bq,bt]<;>rfl)|(simp [*,bq,bt]<;>rfl),bl⟩
      subst c46
      have H1:(some false)=some r:=by rw [if_pos rfl] at H;exact H
      clear H
      have H:=H1
      clear H1
      obtain rfl:=Option.some.inj H
      go_wp2
      go_ret
      exact ⟨by first|rfl|(simp [bq,bt]<;>rfl)|(simp [*,bq,bt]<;>rfl),bl⟩
   rw [if_pos c9] at H
   have k8:=decide_eq_true c9
   clear c9
   obtain rfl:=Option.some.inj H
   go_enter Try.func5,Try.ntmps5
   go_wp2_with (first|((with_reducible refine cj (N:=3) rfl ?_);refine dJ ?hg (N:=3) ?hd (cs:=#[.int .i64 af,.slice aq aa.length ak]) (t:=24) ?hr ?_;(case hd=>rfl);(case hg=>rfl);(case hr=>first|(go_simp;done)|(go_simp;rfl));intro ai hg fF aK hb;have ag:=k0 (aK);have aks:=k0 ((by rw [hg];exact (aU bl):w.heap.size≤ai));have ej:=aks;replace HB:=k0 (aI bl hb);clear hb aK hg;have vv:fF.cell? ⟨ai,0,none⟩=some (.int .i64 af):=(av ag.out 0).trans rfl;have vw:fF.cell? ⟨ai,1,none⟩=some (.slice aq aa.length ak):=(av ag.out 1).trans rfl;have vC:=aH ag.out 0;have vD:=aH ag.out 1)|((with_reducible refine cZ (f:=23) rfl ?_);refine c_ (some 23) rfl rfl Try.func23 (by kernel_rfl) rfl #[.agg #[.int .i64 af,.slice aq aa.length ak],.int .i64 1048576] rfl gm ?_;(with_reducible refine (oG.calls k af _ _ aa 1048576 t102 _ ?akn ?aT A8.out).mono ?_);(case akn=>exact aC (Kd.bA bU.out HB.out));(case aT=>exact cG.out);rintro e jb ⟨rfl,hb⟩;refine ⟨_,rfl,?_⟩;replace ag:=k0 (akj (g:=ai) (o:=sO af aq aa ak 24) bk hb);replace HB:=k0 (aI bl hb);(try clear hb)))
   go_ret
   exact ⟨by first|rfl|(simp [bq,bt]<;>rfl)|(simp [*,bq,bt]<;>rfl),bl⟩
  rw [if_pos c6] at H
  have akJ:=decide_eq_true c6
  have alP:decide (1048576 < l2.length)=true:=decide_eq_true (by omega)
  clear c6
  obtain rfl:=Option.some.inj H
  go_enter Try.func5,Try.ntmps5
  go_wp2_with (first|((with_reducible refine cj (N:=3) rfl ?_);refine dJ ?hg (N:=3) ?hd (cs:=#[.int .i64 af,.slice aq aa.length ak]) (t:=24) ?hr ?_;(case hd=>rfl);(case hg=>rfl);(case hr=>first|(go_simp;done)|(go_simp;rfl));intro ai hg w7 aK hb;have ag:=k0 (aK);have aks:=k0 ((by rw [hg];exact (aU bl):w.heap.size≤ai));have ej:=aks;replace HB:=k0 (aI bl hb);clear hb aK hg))
  go_ret
  exact ⟨by first|rfl|(simp [bq,bt]<;>rfl)|(simp [*,bq,bt]<;>rfl),bl⟩
 rw [if_pos c4] at H
 have eA:=decide_eq_true c4
 have mB:decide (1048576 < l1.length)=true:=decide_eq_true (by omega)
 clear c4
 obtain rfl:=Option.some.inj H
 go_enter Try.func5,Try.ntmps5
 go_wp2_with (first|((with_reducible refine cj (N:=3) rfl ?_);refine dJ ?hg (N:=3) ?hd (cs:=#[.int .i64 af,.slice aq aa.length ak]) (t:=24) ?hr ?_;(case hd=>rfl);(case hg=>rfl);(case hr=>first|(go_simp;done)|(go_simp;rfl));intro ai hg w5 aK hb;have ag:=k0 (aK);have aks:=k0 ((by rw [hg];exact (aU bl):w.heap.size≤ai));have ej:=aks;replace HB:=k0 (aI bl hb);clear hb aK hg))
 go_ret
 exact ⟨by first|rfl|(simp [bq,bt]<;>rfl)|(simp [*,bq,bt]<;>rfl),bl⟩
end Go.Proofs.Ytoebojnhchocaaa.C
/- Set with little white space, by a program. -/
