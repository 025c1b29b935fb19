/- The functions that one law reaches, each as a Lean function, and that Go's call comes to what it says. Condition of each: that the Lean function answers (is not none). -/
import Derived.Test.YtoebojnhchocaaaDx0
import Derived.Test.YtoebojnhchocaaaDx15
namespace Go.Proofs.Ytoebojnhchocaaa.D
open Go.RowKit Go.Proofs.bR.eC Go.Proofs.bR.je Go.Proofs.bR.jO
attribute [local go_sem] max2_int min2_int max_two min_two max_three min_three max_four min_four   -- for this text's walks alone
set_option linter.unusedVariables false
set_option linter.unusedSimpArgs false
/-! ### F184: function 184 -/
mutual
def cG.l0 : Nat → List Int → Int → Int → Int → List (List Int) → Option (List Int)
 | 0,_,_,_,_,_=>none
 | k+1,x5,ED,pY,bF,bE=>if pY < ED then (cG.l1 k x5 ED pY bE (bE.length:Int) 0 bF bE) else (some x5)
def cG.l1 : Nat → List Int → Int → Int → List (List Int) → Int → Int → Int → List (List Int) → Option (List Int)
 | 0,_,_,_,_,_,_,_,_=>none
 | k+1,x5,ED,pY,nU,pZ,jX,bF,bE=>if jX < pZ then (if 0≤jX then (if jX < (nU.length:Int) then (if 0 < ((ah nU jX).length:Int) then (if 0≤(rd (ah nU jX) 0) then (if (rd (ah nU jX) 0) < (x5.length:Int) then (if 1 < ((ah nU jX).length:Int) then (if 0≤(rd (ah nU jX) 1) then (if (rd (ah nU jX) 1) < (x5.length:Int) then ((some (x5.set ((rd (ah nU jX) 0):Int).toNat (mn (rd x5 (rd (ah nU jX) 0)) (wrap64 ((rd x5 (rd (ah nU jX) 1))+1))):List Int)).bind fun dU=>(cG.l1 k (dU.set ((rd (ah nU jX) 1):Int).toNat (mn (rd dU (rd (ah nU jX) 1)) (wrap64 ((rd dU (rd (ah nU jX) 0))+1)))) ED pY nU pZ (wrap64 (jX+1)) bF bE)) else (none)) else (none)) else (none)) else (none)) else (none)) else (none)) else (none)) else (none)) else (cG.l0 k x5 ED (wrap64 (pY+1)) bF bE)
end
def cG.f (k:Nat) (af:Int) (aa:List (List Int)) (a1:Int):Option (List Int):=(wD.f (([af]:List Int)) af).bind fun t105=>(if 0≤a1 then (if a1 < (t105.length:Int) then (cG.l0 k (t105.set (a1:Int).toNat 0) af 0 af aa) else (none)) else (none))
theorem cG.bU : ∀ k, (∀ y0 y1 y2 y3 y4, aj (cG.l0 k y0 y1 y2 y3 y4) (cG.l0 (k + 1) y0 y1 y2 y3 y4)) ∧ (∀ y0 y1 y2 y3 y4 y5 y6 y7, aj (cG.l1 k y0 y1 y2 y3 y4 y5 y6 y7) (cG.l1 (k + 1) y0 y1 y2 y3 y4 y5 y6 y7))
 | 0=>⟨fun _ _ _ _ _ r h=>by simp [cG.l0] at h,fun _ _ _ _ _ _ _ _ r h=>by simp [cG.l1] at h⟩
 | k+1=>by
  obtain ⟨alg,ih1⟩:=cG.bU k
  refine ⟨?_, ?_⟩ <;> intros <;> (first | unfold cG.l0 | unfold cG.l1) <;> repeat' first
   | (with_reducible first|exact alg _ _ _ _ _|exact ih1 _ _ _ _ _ _ _ _|exact aj.refl _|exact aj.none _|refine aj.ite ?_ ?_|refine aj.bind ?_ (fun _=>?_))
   | exact alg _ _ _ _ _|exact ih1 _ _ _ _ _ _ _ _|exact aj.none _|refine aj.ite ?_ ?_|refine aj.bind ?_ (fun _=>?_)
theorem cG.mono:∀ a0 a1 a2 k,aj (cG.f k a0 a1 a2) (cG.f (k+1) a0 a1 a2):=by
 intro a0 a1 a2 k
 obtain ⟨alg,ih1⟩:=cG.bU k
 unfold cG.f
 repeat' first
  | (with_reducible first|exact alg _ _ _ _ _|exact ih1 _ _ _ _ _ _ _ _|exact aj.refl _|exact aj.none _|refine aj.ite ?_ ?_|refine aj.bind ?_ (fun _=>?_))
  | exact alg _ _ _ _ _|exact ih1 _ _ _ _ _ _ _ _|exact aj.none _|refine aj.ite ?_ ?_|refine aj.bind ?_ (fun _=>?_)
def cG.T8:Bool × List (List Nat × List Nat):=(true,[([],[]),([],[]),([1],[1]),([2],[2]),([],[]),([],[]),([5],[5]),([6],[6]),([4,7],[4,7]),([8],[8]),([],[]),([],[]),([11],[11]),([12],[12]),([10,13],[10,13]),([14],[14]),([15],[15]),([9,16],[9,16]),([0,3,0,1,2,3,4,5,6,7,8,9,10,11,12,13,14,15,16,17],[0,3]),([18,17,0,1,2,3,4,5,6,7,8,9,10,11,12,13,14,15,16,17],[17,18])])
def cG.B8:List Nat:=[0,0,2,6,0,0,32,96,240,496,0,0,2048,6144,15360,31744,64512,131056,262143,524287]
theorem cG.Ex:gv .any (opsOf Try.f184 8)=cG.T8:=by kernel_rfl
theorem cG.Ch:mN cG.T8.2 cG.B8=true:=by kernel_rfl
def cG.T9:Bool × List (List Nat × List Nat):=(true,[([],[]),([],[]),([1],[1]),([2],[2]),([],[]),([],[]),([5],[5]),([6],[6]),([4,7],[4,7]),([8],[8]),([],[]),([],[]),([11],[11]),([12],[12]),([10,13],[10,13]),([14],[14]),([15],[15]),([9,16],[9,16]),([0,3,0,1,2,3,4,5,6,7,8,9,10,11,12,13,14,15,16,17],[0,3]),([18,17,0,1,2,3,4,5,6,7,8,9,10,11,12,13,14,15,16,17],[17,18])])
def cG.B9:List Nat:=[0,0,2,6,0,0,32,96,240,496,0,0,2048,6144,15360,31744,64512,131056,262143,524287]
theorem cG.Mb:gv .any (opsOf Try.f184 9)=cG.T9:=by kernel_rfl
theorem cG.I_:mN cG.T9.2 cG.B9=true:=by kernel_rfl
set_option maxHeartbeats 8000000 in
set_option maxRecDepth 100000 in
theorem cG.calls (k : Nat) (af : Int) (aq : Option Addr) (ak : Nat) (aa : List (List Int)) (a1 : Int) (r : List Int) (w : World) (aly : Kd.C (Kd.slice 2 (Kd.int .i64)) w aq aa.length aa) (ck : aa.length ≤ ak) (h : cG.f k af aa a1 = some r) :
  Calls Try.prog 184 #[.agg #[.int .i64 af,.slice aq aa.length ak],.int .i64 a1] w fun e w'=>∃ dH:Value,e=.returned (dH)∧Kd.R (Kd.int .i64) 2 w' w.heap.size (fun _=>True) dH r∧Below w.heap.size w w':=by
 have j9:=Try.underlying31
 have bZ:=k0 aly
 have cD:=k0 ck
 clear aly ck
 have HB:=k0 (Below.refl w.heap.size w)
 have H:((wD.f (([af]:List Int)) af).bind fun t105=>(if 0≤a1 then (if a1 < (t105.length:Int) then (cG.l0 k (t105.set (a1:Int).toNat 0) af 0 af aa) else (none)) else (none)))=some r:=h
 clear h
 obtain ⟨alD,eM⟩:∃ y_:List Int,y_=(([af]:List Int)):=⟨_,rfl⟩
 replace H:((wD.f alD af).bind fun t105=>(if 0≤a1 then (if a1 < (t105.length:Int) then (cG.l0 k (t105.set (a1:Int).toNat 0) af 0 af aa) else (none)) else (none)))=some r:=by first|(rw [eM];with_reducible exact H)|(have ax:=(Option.bind_some _ _).symm.trans H;rw [eM];with_reducible exact ax)|(have ax:=(Option.bind_some _ _).symm.trans H;with_reducible exact ax)|with_reducible exact H|(rw [eM];exact H)|exact H
 have gz:=k0 eM
 clear eM
 replace H:=Option.bind_eq_some_iff.mp H
 obtain ⟨t105,mj,H⟩:=H
 replace H:(if 0≤a1 then (if a1 < (t105.length:Int) then (cG.l0 k (t105.set (a1:Int).toNat 0) af 0 af aa) else (none)) else (none))=some r:=H
 have A3:=k0 mj
 clear mj
 replace H:=iS H;obtain ⟨c4,H⟩:=H
 have eD:=decide_eq_true c4
 clear c4
 replace H:=iS H;obtain ⟨c5,H⟩:=H
 have alS:=decide_eq_true c5
 clear c5
 obtain ⟨mQ,alM⟩:∃ y_:List Int,y_=(t105.set (a1:Int).toNat 0):=⟨_,rfl⟩
 replace H:(cG.l0 k mQ af 0 af aa)=some r:=by first|(rw [alM];with_reducible exact H)|(have ax:=(Option.bind_some _ _).symm.trans H;rw [alM];with_reducible exact ax)|(have ax:=(Option.bind_some _ _).symm.trans H;with_reducible exact ax)|with_reducible exact H|(rw [alM];exact H)|exact H
 have sA:=k0 alM
 clear alM
 have H':=k0 H
 clear H
 go_enter Try.func184,Try.ntmps184
 go_wp2_with (first|((with_reducible refine cj (N:=2) rfl ?_);refine dK ?hg (N:=2) ?hd (cs:=#[.int .i64 af,.slice aq aa.length ak]) (t:=31) ?hr ?_;(case hd=>rfl);(case hg=>rfl);(case hr=>first|(go_simp;done)|(go_simp;rfl));intro ai hg w7 aJ hb;have ag:=k0 (aJ);have b8:=k0 ((by rw [hg];exact (alk bl):w.heap.size≤ai));have eB:=b8;replace HB:=k0 (aI bl hb);clear hb aJ hg;have vK:w7.cell? ⟨ai,0,none⟩=some (.int .i64 af):=(av ag.out 0).trans rfl;have vL:w7.cell? ⟨ai,1,none⟩=some (.slice aq aa.length ak):=(av ag.out 1).trans rfl;have vN:=aD ag.out 0;have vO:=aD ag.out 1)|((with_reducible refine cj (N:=10) rfl ?_);refine Kd.al2 (Kd.int .i64) _ 2 ?hg (N:=10) ?hd (xs:=([af]:List Int)) (inner:=[.int .i64 af]) (ok:=fun _=>True) (b9:=fun _=>True) ?hr ?hp (fun _ hk=>hk) trivial (Below.refl _ _) (Nat.le_refl _) (by simp) ?_;(case hd=>rfl);(case hg=>rfl);(case hr=>first|(go_simp;done)|(go_simp;rfl));(case hp=>exact (bW.one (show Kd.M (Kd.int .i64) _ _ _ af [.int .i64 af] from rfl) (bW.none _ _)));intro dn w9 Dn hb dF dG;clear dF dG;(first|rw [← gz.out] at Dn|(simp only [Int.reduceToNat] at Dn;rw [← gz.out] at Dn));have bq:=k0 (Kd.dI Dn (alk bl));replace ag:=k0 (alm (g:=ai) (o:=sO af aq aa ak 31) bk hb);replace HB:=k0 (aI bl hb);clear hb Dn;have AX:w9.cell? ⟨ai,0,none⟩=some (.int .i64 af):=(av ag.out 0).trans rfl;have AY:w9.cell? ⟨ai,1,none⟩=some (.slice aq aa.length ak):=(av ag.out 1).trans rfl;have anc:=aD ag.out 0;have ane:=aD ag.out 1;obtain ⟨ko,g_,yC⟩:=Kd.eF bq.out;subst yC)|((with_reducible refine dx (f:=226) rfl ?_);refine dy (some 13) rfl rfl Try.func226 (by kernel_rfl) rfl #[.slice ko alD.length g_,.int .i64 af] rfl gm ?_;(with_reducible refine (wD.calls _ _ alD af t105 _ ?aT ?aU A3.out).mono ?_);(case aT=>exact aC ((Kd.bx bq.out).2.2));(case aU=>exact (Kd.bx bq.out).2.1);rintro e pq ⟨fY,rfl,aM,hb⟩;refine ⟨_,rfl,?_⟩;have cO:=k0 (Kd.dI (Kd.ep aM (Kd.cH (aR bq.out))) (alk bl));replace bq:=k0 (Kd.alB (aR bq.out) (Kd.cn aM) hb);replace ag:=k0 (alm (g:=ai) (o:=sO af aq aa ak 31) bk hb);replace HB:=k0 (aI bl hb);(try clear hb);(try clear aM);have p6:0≤(a1:Int):=oD;have q6:(a1:Int) < ((t105.length:Int):Int):=oD;obtain ⟨mF,AH,Pc,PL,ZE,cl6,Nt⟩:=Kd.lp cO.out (by omega);(first|cases Pc|(injection Pc with bh dm di;(first|subst bh|(injection bh with bh;subst bh));subst di;clear dm));have HH:=k0 PL;have GG6:=k0 Nt;clear PL ZE Nt;obtain ⟨R1,ah9⟩:=Kd.jB 0 cO.out (a1:Int) p6 q6;replace p6:=eq_true p6;replace q6:=eq_true q6;have n_:=k0 (Kd.alq (ok':=(fun k_=>some k_ ≠ (.slice ko alD.length g_:Value).ownBlock)) cO.out (fun k_ hk=>hk.2));clear cO;have cO:=n_;clear n_;obtain ⟨akd,akg⟩:=Kd.jB 0 cO.out (a1:Int) oD oD;have Ib:=Kd.kW cO.out (a1:Int) 0)|((with_reducible refine lF (t:=2) (p:=16) rfl ?_);refine lJ (t:=2) (p:=16) (v:=?ak5) (w1:=(pq.setCell ⟨mF,(a1:Int).toNat,none⟩ (.int .i64 0))) ?hg ?ho ?hn ?hr ?_;(case ho=>rfl);(case hg=>rfl);(case hn=>rfl);(case hr=>first|(go_simp;done)|(go_simp;rfl));intro EB hw;have hg:pq.grownBy EB (some mF):=(by rw [hw];exact Ib.2);have ec:Kd.R (Kd.int .i64) 2 EB w.heap.size (fun k_=>some k_ ≠ (.slice ko alD.length g_:Value).ownBlock) (.slice (some ⟨mF,0,none⟩) t105.length AH) mQ:=(by rw [hw,sA.out];exact Ib.1);clear Ib;replace ag:=k0 (iQ (g:=ai) (o:=sO af aq aa ak 31) bk hg (Kd.gY cO.out ag.out (by decide)));replace bq:=k0 (Kd.mz (v:=(.slice (some ⟨mF,0,none⟩) t105.length AH)) (v1:=(.slice (some ⟨mF,0,none⟩) t105.length AH)) (ok:=(fun _=>True)) (aR bq.out) hg (.inl rfl));replace cO:=k0 (ec);replace HB:=k0 ((by rw [hw];exact dJ (HB.out) HH.out:Below w.heap.size w EB));clear hg hw ec;have AZ:EB.cell? ⟨ai,0,none⟩=some (.int .i64 af):=(av ag.out 0).trans rfl;have am9:EB.cell? ⟨ai,1,none⟩=some (.slice aq aa.length ak):=(av ag.out 1).trans rfl;have anf:=aD ag.out 0;have ang:=aD ag.out 1))
 go_loopg [19] k (fun kq v19 w'=>∃ (ali:List Int) (cu:Int),v19=.int .i64 cu∧au (cG.l0 kq ali af cu af aa=some r)∧au (kq≤k)∧au (Kd.R (Kd.int .i64) 2 w' w.heap.size (fun _=>True) (.slice (some ⟨mF,0,none⟩) t105.length AH) ali)∧au (w'.heap[ai]?=some (sO af aq aa ak 31))∧au (Below w.heap.size w w'))
 case atStart=>exact ⟨(mQ),(0),rs,H',⟨Nat.le_refl _⟩,⟨aR (Kd.alq cO.out (fun _ hk=>trivial))⟩,⟨bk⟩,⟨bl⟩⟩
 case round =>
  clear H'
  (try clear c4);(try clear eD);(try clear c5);(try clear alS);(try clear p6);(try clear q6);(try clear AX);(try clear AY);(try clear AZ);(try clear am9);(try clear vK);(try clear vL);(try clear anc);(try clear ane);(try clear anf);(try clear ang);(try clear vN);(try clear vO);(try clear R1);(try clear p6);(try clear q6)
  obtain ⟨ali,cu,rfl,HA,alj,bQ,ag,HB⟩:=hrel
  have m_:=(Kd.bx bQ.out).1
  rw [m_] at bQ
  (try simp only [m_])
  (try simp only [m_] at ag)
  cases gk with
  | zero=>exact absurd HA.out (by simp [cG.l0])
  | succ k1 =>
   have H:=HA.out
   clear HA
   simp only [cG.l0] at H
   by_cases c17:cu < af
   case neg =>
    rw [if_neg c17] at H
    have oW:decide (cu < af)=false:=decide_eq_false c17
    clear c17
    obtain rfl:=Option.some.inj H
    go_wp2
    go_ret
    exact ⟨_,by first|rfl|(simp [bz,bA]<;>rfl)|(simp [*,bz,bA]<;>rfl),by (with_reducible repeat (first|apply Kd.bH|apply Kd.bL|apply Kd.bn));exact bQ.out,bl⟩
   rw [if_pos c17] at H
   have oW:=decide_eq_true c17
   clear c17
   have H':=k0 H
   clear H
   have yN:wr.cell? ⟨ai,0,none⟩=some (.int .i64 af):=(av ag.out 0).trans rfl
   have yO:wr.cell? ⟨ai,1,none⟩=some (.slice aq aa.length ak):=(av ag.out 1).trans rfl
   have yR:=aD ag.out 0
   have yS:=aD ag.out 1
   go_wp2
   go_loopg [24] k1 (fun kq v24 w'=>∃ (alo:List Int) (bM:Int),v24=.int .i64 bM∧au (cG.l1 kq alo af cu aa (aa.length:Int) bM af aa=some r)∧au (kq≤k1)∧au (Kd.R (Kd.int .i64) 2 w' w.heap.size (fun _=>True) (.slice (some ⟨mF,0,none⟩) ali.length AH) alo)∧au (w'.heap[ai]?=some (sO af aq aa ak 31))∧au (Below w.heap.size w w'))
   case atStart=>exact ⟨(ali),(0),rs,H',⟨Nat.le_refl _⟩,⟨by (try simp only [m_]);(with_reducible repeat (first|apply Kd.bH|apply Kd.bL|apply Kd.bn));exact bQ.out⟩,⟨by (try simp only [m_]);exact bk⟩,⟨bl⟩⟩
   case round =>
    clear H'
    (try clear c4);(try clear eD);(try clear c5);(try clear alS);(try clear p6);(try clear q6);(try clear c17);(try clear oW);(try clear AX);(try clear AY);(try clear AZ);(try clear am9);(try clear yN);(try clear yO);(try clear vK);(try clear vL);(try clear anc);(try clear ane);(try clear anf);(try clear ang);(try clear yR);(try clear yS);(try clear vN);(try clear vO);(try clear R1);(try clear p6);(try clear q6)
    obtain ⟨alo,bM,rfl,HA,bB,bQ,ag,HB⟩:=hrel
    have alF:=(Kd.bx bQ.out).1
    rw [alF] at bQ
    (try simp only [alF])
    (try simp only [alF] at ag)
    cases gk with
    | zero=>exact absurd HA.out (by simp [cG.l1])
    | succ k2 =>
     have H:=HA.out
     clear HA
     simp only [cG.l1] at H
     by_cases c19:bM < (aa.length:Int)
     case neg =>
      rw [if_neg c19] at H
      have lC:decide (bM < (aa.length:Int))=false:=decide_eq_false c19
      (try simp only [m_,alF] at lC)
      clear c19
      have H':=k0 H
      clear H
      go_wp2
      (try simp only [← m_,← alF])
      first|go_roundg k2|(simp only [← l9];go_roundg k2)|(simp only [← amU];go_roundg k2)
      case measure=>have:=alj.out;have:=bB.out;omega
      case rel=>exact ⟨(alo),(wrap64 (cu+1)),rs,(by first|exact H'|(rw [l9];exact H')|(rw [amU];exact H')),⟨by have:=alj.out;have:=bB.out;omega⟩,⟨by (try simp only [m_]);(try simp only [alF]);(with_reducible repeat (first|apply Kd.bH|apply Kd.bL|apply Kd.bn));exact bQ.out⟩,⟨by (try simp only [m_]);(try simp only [alF]);exact bk⟩,⟨bl⟩⟩
     rw [if_pos c19] at H
     have lC:=decide_eq_true c19
     (try simp only [m_,alF] at lC)
     clear c19
     replace H:=iS H;obtain ⟨c20,H⟩:=H
     have og:=decide_eq_true c20
     clear c20
     replace H:=iS H;obtain ⟨c21,H⟩:=H
     have uq:=decide_eq_true c21
     (try simp only [m_,alF] at uq)
     clear c21
     replace H:=iS H;obtain ⟨c22,H⟩:=H
     have al9:=decide_eq_true c22
     (try simp only [m_,alF] at al9)
     have XA:decide (0 < (ah aa bM).length)=true:=decide_eq_true (by omega)
     (try simp only [m_,alF] at XA)
     clear c22
     replace H:=iS H;obtain ⟨c23,H⟩:=H
     have rO:=decide_eq_true c23
     clear c23
     replace H:=iS H;obtain ⟨c24,H⟩:=H
     have ur:=decide_eq_true c24
     (try simp only [m_,alF] at ur)
     clear c24
     replace H:=iS H;obtain ⟨c25,H⟩:=H
     have sF:=decide_eq_true c25
     (try simp only [m_,alF] at sF)
     have XC:decide (1 < (ah aa bM).length)=true:=decide_eq_true (by omega)
     (try simp only [m_,alF] at XC)
     clear c25
     replace H:=iS H;obtain ⟨c26,H⟩:=H
     have vA:=decide_eq_true c26
     clear c26
     replace H:=iS H;obtain ⟨c27,H⟩:=H
     have rP:=decide_eq_true c27
     (try simp only [m_,alF] at rP)
     clear c27
     obtain ⟨ng,l9⟩:∃ j_:Int,(mn (rd alo (rd (ah aa bM) 0)) (wrap64 ((rd alo (rd (ah aa bM) 1))+1)))=j_:=⟨_,rfl⟩
     replace H:((some (alo.set ((rd (ah aa bM) 0):Int).toNat (ng):List Int)).bind fun dU=>(cG.l1 k2 (dU.set ((rd (ah aa bM) 1):Int).toNat (mn (rd dU (rd (ah aa bM) 1)) (wrap64 ((rd dU (rd (ah aa bM) 0))+1)))) af cu aa (aa.length:Int) (wrap64 (bM+1)) af aa))=some r:=by first|(rw [l9] at H;exact H)|(simp only [l9] at H ⊢;exact H)
     have abA:(if (wrap64 ((rd alo (rd (ah aa bM) 1))+1)) < (rd alo (rd (ah aa bM) 0)) then (wrap64 ((rd alo (rd (ah aa bM) 1))+1)) else (rd alo (rd (ah aa bM) 0)))=ng:=l9
     obtain ⟨dU,gh⟩:∃ y_:List Int,y_=(alo.set ((rd (ah aa bM) 0):Int).toNat (ng)):=⟨_,rfl⟩
     replace H:(cG.l1 k2 (dU.set ((rd (ah aa bM) 1):Int).toNat (mn (rd dU (rd (ah aa bM) 1)) (wrap64 ((rd dU (rd (ah aa bM) 0))+1)))) af cu aa (aa.length:Int) (wrap64 (bM+1)) af aa)=some r:=by first|(rw [gh];with_reducible exact H)|(have ax:=(Option.bind_some _ _).symm.trans H;rw [gh];with_reducible exact ax)|(have ax:=(Option.bind_some _ _).symm.trans H;with_reducible exact ax)|with_reducible exact H|(rw [gh];exact H)|exact H
     have mT:=k0 gh
     clear gh
     obtain ⟨Gp,amU⟩:∃ j_:Int,(mn (rd dU (rd (ah aa bM) 1)) (wrap64 ((rd dU (rd (ah aa bM) 0))+1)))=j_:=⟨_,rfl⟩
     replace H:(cG.l1 k2 (dU.set ((rd (ah aa bM) 1):Int).toNat (Gp)) af cu aa (aa.length:Int) (wrap64 (bM+1)) af aa)=some r:=by first|(rw [amU] at H;exact H)|(simp only [amU] at H ⊢;exact H)
     have aiK:(if (wrap64 ((rd dU (rd (ah aa bM) 0))+1)) < (rd dU (rd (ah aa bM) 1)) then (wrap64 ((rd dU (rd (ah aa bM) 0))+1)) else (rd dU (rd (ah aa bM) 1)))=Gp:=amU
     obtain ⟨anx,tF⟩:∃ y_:List Int,y_=(dU.set ((rd (ah aa bM) 1):Int).toNat (Gp)):=⟨_,rfl⟩
     replace H:(cG.l1 k2 anx af cu aa (aa.length:Int) (wrap64 (bM+1)) af aa)=some r:=by first|(rw [tF];with_reducible exact H)|(have ax:=(Option.bind_some _ _).symm.trans H;rw [tF];with_reducible exact ax)|(have ax:=(Option.bind_some _ _).symm.trans H;with_reducible exact ax)|with_reducible exact H|(rw [tF];exact H)|exact H
     have IW:=k0 tF
     clear tF
     have H':=k0 H
     clear H
     have eH:0≤(bM:Int):=oD
     have ez:bM < (aa.length:Int):=oD
     obtain ⟨lZ,Ho,Fu,e109,gM,td,amn⟩:=cX bZ.out bM eH ez
     cases e109
     replace gM:=hbc HB gM
     have nZ:=k0 amn
     have HQ:=k0 td
     clear amn td
     replace eH:=eq_true eH
     replace ez:=eq_true ez
     try go_wp2
     replace bQ:=k0 (Kd.bn bQ.out);replace ag:=k0 (cw ag.out);replace HB:=k0 (cP HB.out)
     have jr:0≤(0:Int):=(by omega)
     have js:0 < ((ah aa bM).length:Int):=oD
     obtain ⟨lz,e110,kL⟩:=Kd.bJ nZ.out 0 jr js
     have Bi:=kL
     (try rw [show ((0:Int)).toNat=0 from rfl] at Bi)
     (try rw [show 0 * 1=0 from rfl] at Bi)
     (try rw [Addr.add_zero'] at Bi)
     cases e110
     have aee:(0 < (ah aa bM).length)=True:=eq_true (by omega)
     (try rw [show ((0:Int)).toNat=0 from rfl] at kL)
     (try rw [Addr.add_zero'] at kL)
     replace kL:=hbc HB kL
     replace jr:=eq_true jr
     replace js:=eq_true js
     have gj:0≤(0:Int):=(by omega)
     have alG:0 < ((ah aa bM).length:Int):=oD
     obtain ⟨mW,e111,gN⟩:=Kd.bJ nZ.out 0 gj alG
     have Gd:=gN
     (try rw [show ((0:Int)).toNat=0 from rfl] at Gd)
     (try rw [show 0 * 1=0 from rfl] at Gd)
     (try rw [Addr.add_zero'] at Gd)
     obtain rfl:lz=mW:=(by injection e111)
     have akq:(0 < (ah aa bM).length)=True:=eq_true (by omega)
     (try rw [show ((0:Int)).toNat=0 from rfl] at gN)
     (try rw [Addr.add_zero'] at gN)
     replace gN:=hbc HB gN
     replace gj:=eq_true gj
     replace alG:=eq_true alG
     have al3:0≤((rd (ah aa bM) 0):Int):=oD
     have oF:(rd (ah aa bM) 0) < (alo.length:Int):=oD
     obtain ⟨yl,e112,lS⟩:=Kd.bJ (Kd.bx bQ.out).2.2 (rd (ah aa bM) 0) al3 oF
     obtain rfl:(⟨mF,0,none⟩:Addr)=yl:=(by injection e112)
     (first|simp only [add_plain] at lS|simp only [l6] at lS|simp only [Addr.add,Nat.zero_add] at lS|skip)
     replace al3:=eq_true al3
     replace oF:=eq_true oF
     have nO:0≤(1:Int):=(by omega)
     have nP:1 < ((ah aa bM).length:Int):=oD
     obtain ⟨ym,e113,nc⟩:=Kd.bJ nZ.out 1 nO nP
     have Ge:=nc
     (try rw [show ((1:Int)).toNat=1 from rfl] at Ge)
     (try rw [show 1 * 1=1 from rfl] at Ge)
     (try simp only [Nat.reduceMul,Nat.reduceEqDiff,Go.Addr.add,↓reduceIte] at Ge)
     obtain rfl:lz=ym:=(by injection e113)
     (try simp only [show (1:Int).toNat=1 from rfl,Nat.reduceMul,Nat.reduceEqDiff,Go.Addr.add,↓reduceIte] at nc)
     have akr:(1 < (ah aa bM).length)=True:=eq_true (by omega)
     (try rw [show ((1:Int)).toNat=1 from rfl] at nc)
     replace nc:=hbc HB nc
     replace nO:=eq_true nO
     replace nP:=eq_true nP
     have iy:0≤((rd (ah aa bM) 1):Int):=oD
     have iz:(rd (ah aa bM) 1) < (alo.length:Int):=oD
     obtain ⟨l5,e114,iU⟩:=Kd.bJ (Kd.bx bQ.out).2.2 (rd (ah aa bM) 1) iy iz
     obtain rfl:(⟨mF,0,none⟩:Addr)=l5:=(by injection e114)
     (first|simp only [add_plain] at iU|simp only [l6] at iU|simp only [Addr.add,Nat.zero_add] at iU|skip)
     replace iy:=eq_true iy
     replace iz:=eq_true iz
     have zw:0≤((rd (ah aa bM) 0):Int):=oD
     have oG:((rd (ah aa bM) 0):Int) < ((alo.length:Int):Int):=oD
     obtain ⟨RY,QM⟩:=Kd.jB 0 bQ.out ((rd (ah aa bM) 0):Int) zw oG
     replace zw:=eq_true zw
     replace oG:=eq_true oG
     have Ii:=Kd.Ag bQ.out ((rd (ah aa bM) 0):Int) ng
     rw [← mT.out] at Ii
     have Ip:=k0 Ii
     clear Ii
     refine lU (n:=20) (S:=fun w'=>w'.cell? lz=some (.int .i64 (rd (ah aa bM) 0))∧w'.cell? lz=some (.int .i64 (rd (ah aa bM) 0))∧w'.cell? ⟨mF,((rd (ah aa bM) 0)).toNat,none⟩=some (.int .i64 (rd alo (rd (ah aa bM) 0)))∧w'.cell? ⟨lz.block,lz.off+1,none⟩=some (.int .i64 (rd (ah aa bM) 1))∧w'.cell? ⟨mF,((rd (ah aa bM) 1)).toNat,none⟩=some (.int .i64 (rd alo (rd (ah aa bM) 1)))) (ds:=[19]) (ba 20 0) (by kernel_rfl) rfl rfl ⟨(hbc HB Bi),(hbc HB Gd),lS,(hbc HB Ge),iU⟩ (fun hHeld=>?_);refine pW cG.Ex cG.Ch (fun ay cZ=>?_)
     generalize wr.drew=uR at bQ ag HB Ip QM kL gN lS nc iU RY hHeld ⊢
     refine pu 0 (some 28) (ba 20 1) ay (h:=?_)
     refine pu 1 (some 29) (ba 20 3) ay (h:=?_)
     refine pu 2 (some 30) (ba 20 7) ay (h:=?_)
     refine pu 4 (some 32) (ba 20 23) ay (h:=?_)
     refine pu 5 (some 33) (ba 20 55) ay (h:=?_)
     refine pu 6 (some 34) (ba 20 119) ay (h:=?_)
     refine pu 10 (some 38) (ba 20 1143) ay (h:=?_)
     refine pu 11 (some 39) (ba 20 3191) ay (h:=?_)
     refine pu 12 (some 40) (ba 20 7287) ay (h:=?_)
     refine ta 3 (some 31) (ba 20 7295) ay cZ hHeld (hy:=Or.inl ⟨by rfl,by rintro w' ⟨s0,s1,s2,s3,s4⟩;go_simp;with_reducible rfl⟩) (h:=?_)
     refine ta 7 (some 35) (ba 20 7423) ay cZ hHeld (hy:=Or.inl ⟨by rfl,by rintro w' ⟨s0,s1,s2,s3,s4⟩;go_simp;with_reducible rfl⟩) (h:=?_)
     refine pu 8 (some 36) (ba 20 7679) ay (h:=?_)
     refine ta 9 (some 37) (ba 20 8191) ay cZ hHeld (hy:=Or.inl ⟨by rfl,by rintro w' ⟨s0,s1,s2,s3,s4⟩;go_simp;with_reducible rfl⟩) (h:=?_)
     refine ta 13 (some 41) (ba 20 16383) ay cZ hHeld (hy:=Or.inl ⟨by rfl,by rintro w' ⟨s0,s1,s2,s3,s4⟩;go_simp;with_reducible rfl⟩) (h:=?_)
     refine pu 14 (some 42) (ba 20 32767) ay (h:=?_)
     refine ta 15 (some 43) (ba 20 65535) ay cZ hHeld (hy:=Or.inl ⟨by rfl,by rintro w' ⟨s0,s1,s2,s3,s4⟩;go_simp;with_reducible rfl⟩) (h:=?_)
     refine pu 16 (some 44) (ba 20 131071) ay (h:=?_)
     refine pu 17 (some 45) (ba 20 262143) ay (h:=?_)
     refine pu 18 (some 46) (ba 20 524287) ay (h:=?_)
     refine qE (i:=19) (N:=none) (ba 20 1048575) rfl rfl (kg ay.out (by kernel_rfl)) (by decide) (fun K hK=>?_)
     refine pV (w1:=?_) (by rfl) rfl ?_ ?_
     rotate_left;· go_simp;rfl
     refine hK.out _ _ ?_
     clear hK K
     refine lQ (pN ay.out (by kernel_rfl)) ?_
     try go_wp2
     have aE:au (Kd.R (Kd.int .i64) 2 (uR.setCell ⟨mF,((rd (ah aa bM) 0):Int).toNat,none⟩ (.int .i64 ng)) w.heap.size (fun _=>True) (.slice (some ⟨mF,0,none⟩) alo.length AH) dU):=⟨aR (Ip.out)⟩
     have aH:au ((uR.setCell ⟨mF,((rd (ah aa bM) 0):Int).toNat,none⟩ (.int .i64 ng)).heap[ai]?=some (sO af (some lZ) aa ak 31)):=⟨by (with_reducible repeat (first|refine eg ?_ _|refine cw ?_|refine dV ?_ _));refine fW ?_ (by have h_:=Kd.gY bQ.out ag.out (by decide);intro e_;exact h_ (by rw [e_];rfl)) _;exact bk⟩
     have aK:au (Below w.heap.size w (uR.setCell ⟨mF,((rd (ah aa bM) 0):Int).toNat,none⟩ (.int .i64 ng))):=⟨by repeat (first|(with_reducible first|exact HB.out|apply dh|apply ek|apply cP|refine dJ ?_ HH.out|refine dJ ?_ eB.out)|exact HB.out)⟩
     (try clear bQ)
     (try clear ag)
     (try clear HB)
     generalize (uR.setCell ⟨mF,((rd (ah aa bM) 0):Int).toNat,none⟩ (.int .i64 ng))=TC at aE aH aK ⊢
     have bQ:=aE
     have ag:=aH
     have HB:=aK
     clear aE aH aK
     replace bQ:=k0 (Kd.bn bQ.out);replace ag:=k0 (cw ag.out);replace HB:=k0 (cP HB.out)
     have xO:0≤(1:Int):=(by omega)
     have xR:1 < ((ah aa bM).length:Int):=oD
     obtain ⟨I4,e116,tC⟩:=Kd.bJ nZ.out 1 xO xR
     have Gf:=tC
     (try rw [show ((1:Int)).toNat=1 from rfl] at Gf)
     (try rw [show 1 * 1=1 from rfl] at Gf)
     (try simp only [Nat.reduceMul,Nat.reduceEqDiff,Go.Addr.add,↓reduceIte] at Gf)
     obtain rfl:lz=I4:=(by injection e116)
     (try simp only [show (1:Int).toNat=1 from rfl,Nat.reduceMul,Nat.reduceEqDiff,Go.Addr.add,↓reduceIte] at tC)
     have aks:(1 < (ah aa bM).length)=True:=eq_true (by omega)
     (try rw [show ((1:Int)).toNat=1 from rfl] at tC)
     replace tC:=hbc HB tC
     replace xO:=eq_true xO
     replace xR:=eq_true xR
     have nj:0≤(1:Int):=(by omega)
     have nr:1 < ((ah aa bM).length:Int):=oD
     obtain ⟨yo,e117,l_⟩:=Kd.bJ nZ.out 1 nj nr
     have Bj:=l_
     (try rw [show ((1:Int)).toNat=1 from rfl] at Bj)
     (try rw [show 1 * 1=1 from rfl] at Bj)
     (try simp only [Nat.reduceMul,Nat.reduceEqDiff,Go.Addr.add,↓reduceIte] at Bj)
     obtain rfl:lz=yo:=(by injection e117)
     (try simp only [show (1:Int).toNat=1 from rfl,Nat.reduceMul,Nat.reduceEqDiff,Go.Addr.add,↓reduceIte] at l_)
     have akt:(1 < (ah aa bM).length)=True:=eq_true (by omega)
     (try rw [show ((1:Int)).toNat=1 from rfl] at l_)
     replace l_:=hbc HB l_
     replace nj:=eq_true nj
     replace nr:=eq_true nr
     have nk:0≤((rd (ah aa bM) 1):Int):=oD
     have nt:(rd (ah aa bM) 1) < (dU.length:Int):=(by have h_:((rd (ah aa bM) 1):Int) < ((alo.length:Int):Int):=oD;first|(have e_:=(Kd.bx bQ.out).1;omega)|simpa only [mT.out,List.length_set] using h_)
     have akw:(((rd (ah aa bM) 1):Int) < ((alo.length:Int):Int))=True:=eq_true oD
     obtain ⟨Al,e118,mJ⟩:=Kd.bJ (Kd.bx bQ.out).2.2 (rd (ah aa bM) 1) nk nt
     obtain rfl:(⟨mF,0,none⟩:Addr)=Al:=(by injection e118)
     (first|simp only [add_plain] at mJ|simp only [l6] at mJ|simp only [Addr.add,Nat.zero_add] at mJ|skip)
     replace nk:=eq_true nk
     replace nt:=eq_true nt
     have Lx:0≤(0:Int):=(by omega)
     have LO:0 < ((ah aa bM).length:Int):=oD
     obtain ⟨WJ,e119,Bl⟩:=Kd.bJ nZ.out 0 Lx LO
     have Gg:=Bl
     (try rw [show ((0:Int)).toNat=0 from rfl] at Gg)
     (try rw [show 0 * 1=0 from rfl] at Gg)
     (try rw [Addr.add_zero'] at Gg)
     obtain rfl:lz=WJ:=(by injection e119)
     have aku:(0 < (ah aa bM).length)=True:=eq_true (by omega)
     (try rw [show ((0:Int)).toNat=0 from rfl] at Bl)
     (try rw [Addr.add_zero'] at Bl)
     replace Bl:=hbc HB Bl
     replace Lx:=eq_true Lx
     replace LO:=eq_true LO
     have xP:0≤((rd (ah aa bM) 0):Int):=oD
     have xS:(rd (ah aa bM) 0) < (dU.length:Int):=(by have h_:((rd (ah aa bM) 0):Int) < ((alo.length:Int):Int):=oD;first|(have e_:=(Kd.bx bQ.out).1;omega)|simpa only [mT.out,List.length_set] using h_)
     have akx:(((rd (ah aa bM) 0):Int) < ((alo.length:Int):Int))=True:=eq_true oD
     obtain ⟨I5,e120,uG⟩:=Kd.bJ (Kd.bx bQ.out).2.2 (rd (ah aa bM) 0) xP xS
     obtain rfl:(⟨mF,0,none⟩:Addr)=I5:=(by injection e120)
     (first|simp only [add_plain] at uG|simp only [l6] at uG|simp only [Addr.add,Nat.zero_add] at uG|skip)
     replace xP:=eq_true xP
     replace xS:=eq_true xS
     have LJ:0≤((rd (ah aa bM) 1):Int):=oD
     have LZ:((rd (ah aa bM) 1):Int) < ((alo.length:Int):Int):=oD
     obtain ⟨acd,aa8⟩:=Kd.jB 0 bQ.out ((rd (ah aa bM) 1):Int) LJ LZ
     replace LJ:=eq_true LJ
     replace LZ:=eq_true LZ
     have Ij:=Kd.Ag bQ.out ((rd (ah aa bM) 1):Int) Gp
     rw [← IW.out] at Ij
     have NI:=k0 Ij
     clear Ij
     refine lU (n:=20) (S:=fun w'=>w'.cell? ⟨lz.block,lz.off+1,none⟩=some (.int .i64 (rd (ah aa bM) 1))∧w'.cell? ⟨lz.block,lz.off+1,none⟩=some (.int .i64 (rd (ah aa bM) 1))∧w'.cell? ⟨mF,((rd (ah aa bM) 1)).toNat,none⟩=some (.int .i64 (rd dU (rd (ah aa bM) 1)))∧w'.cell? lz=some (.int .i64 (rd (ah aa bM) 0))∧w'.cell? ⟨mF,((rd (ah aa bM) 0)).toNat,none⟩=some (.int .i64 (rd dU (rd (ah aa bM) 0)))) (ds:=[19]) (ba 20 0) (by kernel_rfl) rfl rfl ⟨(hbc HB Gf),(hbc HB Bj),mJ,(hbc HB Gg),uG⟩ (fun hHeld=>?_);refine pW cG.Mb cG.I_ (fun ay cZ=>?_)
     generalize TC.drew=tV at bQ ag HB Ip NI aa8 tC l_ mJ Bl uG acd hHeld ⊢
     refine pu 0 (some 47) (ba 20 1) ay (h:=?_)
     refine pu 1 (some 48) (ba 20 3) ay (h:=?_)
     refine pu 2 (some 49) (ba 20 7) ay (h:=?_)
     refine pu 4 (some 51) (ba 20 23) ay (h:=?_)
     refine pu 5 (some 52) (ba 20 55) ay (h:=?_)
     refine pu 6 (some 53) (ba 20 119) ay (h:=?_)
     refine pu 10 (some 57) (ba 20 1143) ay (h:=?_)
     refine pu 11 (some 58) (ba 20 3191) ay (h:=?_)
     refine pu 12 (some 59) (ba 20 7287) ay (h:=?_)
     refine ta 3 (some 50) (ba 20 7295) ay cZ hHeld (hy:=Or.inl ⟨by rfl,by rintro w' ⟨s0,s1,s2,s3,s4⟩;go_simp;with_reducible rfl⟩) (h:=?_)
     refine ta 7 (some 54) (ba 20 7423) ay cZ hHeld (hy:=Or.inl ⟨by rfl,by rintro w' ⟨s0,s1,s2,s3,s4⟩;go_simp;with_reducible rfl⟩) (h:=?_)
     refine pu 8 (some 55) (ba 20 7679) ay (h:=?_)
     refine ta 9 (some 56) (ba 20 8191) ay cZ hHeld (hy:=Or.inl ⟨by rfl,by rintro w' ⟨s0,s1,s2,s3,s4⟩;go_simp;with_reducible rfl⟩) (h:=?_)
     refine ta 13 (some 60) (ba 20 16383) ay cZ hHeld (hy:=Or.inl ⟨by rfl,by rintro w' ⟨s0,s1,s2,s3,s4⟩;go_simp;with_reducible rfl⟩) (h:=?_)
     refine pu 14 (some 61) (ba 20 32767) ay (h:=?_)
     refine ta 15 (some 62) (ba 20 65535) ay cZ hHeld (hy:=Or.inl ⟨by rfl,by rintro w' ⟨s0,s1,s2,s3,s4⟩;go_simp;with_reducible rfl⟩) (h:=?_)
     refine pu 16 (some 63) (ba 20 131071) ay (h:=?_)
     refine pu 17 (some 64) (ba 20 262143) ay (h:=?_)
     refine pu 18 (some 65) (ba 20 524287) ay (h:=?_)
     refine qE (i:=19) (N:=none) (ba 20 1048575) rfl rfl (kg ay.out (by kernel_rfl)) (by decide) (fun K hK=>?_)
     refine pV (w1:=?_) (by rfl) rfl ?_ ?_
     rotate_left;· go_simp;rfl
     refine hK.out _ _ ?_
     clear hK K
     refine lQ (pN ay.out (by kernel_rfl)) ?_
     try go_wp2
     (try simp only [← alF])
     first|go_roundg k2|(simp only [← l9];go_roundg k2)|(simp only [← amU];go_roundg k2)
     case measure=>have:=alj.out;have:=bB.out;omega
     case rel=>exact ⟨(anx),(wrap64 (bM+1)),rs,(by first|exact H'|(rw [l9];exact H')|(rw [amU];exact H')),⟨by have:=alj.out;have:=bB.out;omega⟩,⟨by (try simp only [m_]);(try simp only [alF]);(with_reducible repeat (first|apply Kd.bH|apply Kd.bL|apply Kd.bn));exact NI.out⟩,⟨by (try simp only [m_]);(try simp only [alF]);(with_reducible repeat (first|refine eg ?_ _|refine cw ?_|refine dV ?_ _));refine fW ?_ (by have h_:=Kd.gY bQ.out ag.out (by decide);intro e_;exact h_ (by rw [e_];rfl)) _;exact bk⟩,⟨by repeat (first|(with_reducible first|exact HB.out|apply dh|apply ek|apply cP|refine dJ ?_ HH.out|refine dJ ?_ eB.out)|exact HB.out)⟩⟩
end Go.Proofs.Ytoebojnhchocaaa.D
/- Set with little white space, by a program. -/
