/- The functions that one law reaches, each as a Lean function, and that Go's call comes to what it says. Condition of each: that the Lean function answers (is not none). -/
import Derived.Test.YtoebojnhchocaaaCx0
import Derived.Test.YtoebojnhchocaaaCx15
namespace Go.Proofs.Ytoebojnhchocaaa.C
open Go.RowKit Go.Proofs.bI.en Go.Proofs.bI.je Go.Proofs.bI.jC
attribute [local go_sem] max2_int min2_int max_two min_two max_three min_three max_four min_four   -- for this text's walks alone
set_option linter.unusedVariables false
set_option linter.unusedSimpArgs false
/-! ### F184: function 184 -/
mutual
def cI.l0 : Nat → List Int → Int → Int → Int → List (List Int) → Option (List Int)
 | 0,_,_,_,_,_=>none
 | k+1,x5,DQ,pS,bR,bJ=>if pS < DQ then (cI.l1 k x5 DQ pS bJ (bJ.length:Int) 0 bR bJ) else (some x5)
def cI.l1 : Nat → List Int → Int → Int → List (List Int) → Int → Int → Int → List (List Int) → Option (List Int)
 | 0,_,_,_,_,_,_,_,_=>none
 | k+1,x5,DQ,pS,nT,pT,kJ,bR,bJ=>if kJ < pT then (if 0≤kJ then (if kJ < (nT.length:Int) then (if 0 < ((ah nT kJ).length:Int) then (if 0≤(rd (ah nT kJ) 0) then (if (rd (ah nT kJ) 0) < (x5.length:Int) then (if 1 < ((ah nT kJ).length:Int) then (if 0≤(rd (ah nT kJ) 1) then (if (rd (ah nT kJ) 1) < (x5.length:Int) then ((some (x5.set ((rd (ah nT kJ) 0):Int).toNat (mn (rd x5 (rd (ah nT kJ) 0)) (wrap64 ((rd x5 (rd (ah nT kJ) 1))+1))):List Int)).bind fun dU=>(cI.l1 k (dU.set ((rd (ah nT kJ) 1):Int).toNat (mn (rd dU (rd (ah nT kJ) 1)) (wrap64 ((rd dU (rd (ah nT kJ) 0))+1)))) DQ pS nT pT (wrap64 (kJ+1)) bR bJ)) else (none)) else (none)) else (none)) else (none)) else (none)) else (none)) else (none)) else (none)) else (cI.l0 k x5 DQ (wrap64 (pS+1)) bR bJ)
end
def cI.f (k:Nat) (af:Int) (aa:List (List Int)) (a1:Int):Option (List Int):=(wh.f (([af]:List Int)) af).bind fun t105=>(if 0≤a1 then (if a1 < (t105.length:Int) then (cI.l0 k (t105.set (a1:Int).toNat 0) af 0 af aa) else (none)) else (none))
theorem cI.b8 : ∀ k, (∀ y0 y1 y2 y3 y4, aj (cI.l0 k y0 y1 y2 y3 y4) (cI.l0 (k + 1) y0 y1 y2 y3 y4)) ∧ (∀ y0 y1 y2 y3 y4 y5 y6 y7, aj (cI.l1 k y0 y1 y2 y3 y4 y5 y6 y7) (cI.l1 (k + 1) y0 y1 y2 y3 y4 y5 y6 y7))
 | 0=>⟨fun _ _ _ _ _ r h=>by simp [cI.l0] at h,fun _ _ _ _ _ _ _ _ r h=>by simp [cI.l1] at h⟩
 | k+1=>by
  obtain ⟨akk,ih1⟩:=cI.b8 k
  refine ⟨?_, ?_⟩ <;> intros <;> (first | unfold cI.l0 | unfold cI.l1) <;> repeat' first
   | (with_reducible first|exact akk _ _ _ _ _|exact ih1 _ _ _ _ _ _ _ _|exact aj.refl _|exact aj.none _|refine aj.ite ?_ ?_|refine aj.bind ?_ (fun _=>?_))
   | exact akk _ _ _ _ _|exact ih1 _ _ _ _ _ _ _ _|exact aj.none _|refine aj.ite ?_ ?_|refine aj.bind ?_ (fun _=>?_)
theorem cI.mono:∀ a0 a1 a2 k,aj (cI.f k a0 a1 a2) (cI.f (k+1) a0 a1 a2):=by
 intro a0 a1 a2 k
 obtain ⟨akk,ih1⟩:=cI.b8 k
 unfold cI.f
 repeat' first
  | (with_reducible first|exact akk _ _ _ _ _|exact ih1 _ _ _ _ _ _ _ _|exact aj.refl _|exact aj.none _|refine aj.ite ?_ ?_|refine aj.bind ?_ (fun _=>?_))
  | exact akk _ _ _ _ _|exact ih1 _ _ _ _ _ _ _ _|exact aj.none _|refine aj.ite ?_ ?_|refine aj.bind ?_ (fun _=>?_)
def cI.T8:Bool × List (List Nat × List Nat):=(true,[([],[]),([],[]),([1],[1]),([2],[2]),([],[]),([],[]),([5],[5]),([6],[6]),([4,7],[4,7]),([8],[8]),([],[]),([],[]),([11],[11]),([12],[12]),([10,13],[10,13]),([14],[14]),([15],[15]),([9,16],[9,16]),([0,3,0,1,2,3,4,5,6,7,8,9,10,11,12,13,14,15,16,17],[0,3]),([18,17,0,1,2,3,4,5,6,7,8,9,10,11,12,13,14,15,16,17],[17,18])])
def cI.B8:List Nat:=[0,0,2,6,0,0,32,96,240,496,0,0,2048,6144,15360,31744,64512,131056,262143,524287]
theorem cI.DJ:gF .any (opsOf Try.f184 8)=cI.T8:=by kernel_rfl
theorem cI.Bv:akZ cI.T8.2 cI.B8=true:=by kernel_rfl
def cI.T9:Bool × List (List Nat × List Nat):=(true,[([],[]),([],[]),([1],[1]),([2],[2]),([],[]),([],[]),([5],[5]),([6],[6]),([4,7],[4,7]),([8],[8]),([],[]),([],[]),([11],[11]),([12],[12]),([10,13],[10,13]),([14],[14]),([15],[15]),([9,16],[9,16]),([0,3,0,1,2,3,4,5,6,7,8,9,10,11,12,13,14,15,16,17],[0,3]),([18,17,0,1,2,3,4,5,6,7,8,9,10,11,12,13,14,15,16,17],[17,18])])
def cI.B9:List Nat:=[0,0,2,6,0,0,32,96,240,496,0,0,2048,6144,15360,31744,64512,131056,262143,524287]
theorem cI.K_:gF .any (opsOf Try.f184 9)=cI.T9:=by kernel_rfl
theorem cI.amP:akZ cI.T9.2 cI.B9=true:=by kernel_rfl
set_option maxHeartbeats 8000000 in
set_option maxRecDepth 100000 in
theorem cI.calls (k : Nat) (af : Int) (aq : Option Addr) (ak : Nat) (aa : List (List Int)) (a1 : Int) (r : List Int) (w : World) (akv : Kd.C (Kd.slice 2 (Kd.int .i64)) w aq aa.length aa) (akw : aa.length ≤ ak) (h : cI.f k af aa a1 = some r) :
  Calls Try.prog 184 #[.agg #[.int .i64 af,.slice aq aa.length ak],.int .i64 a1] w fun e w'=>∃ dK:Value,e=.returned (dK)∧Kd.R (Kd.int .i64) 2 w' w.heap.size (fun _=>True) dK r∧Below w.heap.size w w':=by
 have j8:=Try.underlying31
 have bU:=k0 akv
 have cG:=k0 akw
 clear akv akw
 have HB:=k0 (Below.refl w.heap.size w)
 have H:((wh.f (([af]:List Int)) af).bind fun t105=>(if 0≤a1 then (if a1 < (t105.length:Int) then (cI.l0 k (t105.set (a1:Int).toNat 0) af 0 af aa) else (none)) else (none)))=some r:=h
 clear h
 obtain ⟨eW,eL⟩:∃ y_:List Int,y_=(([af]:List Int)):=⟨_,rfl⟩
 replace H:((wh.f eW af).bind fun t105=>(if 0≤a1 then (if a1 < (t105.length:Int) then (cI.l0 k (t105.set (a1:Int).toNat 0) af 0 af aa) else (none)) else (none)))=some r:=by first|(rw [eL];with_reducible exact H)|(have ay:=(Option.bind_some _ _).symm.trans H;rw [eL];with_reducible exact ay)|(have ay:=(Option.bind_some _ _).symm.trans H;with_reducible exact ay)|with_reducible exact H|(rw [eL];exact H)|exact H
 have gA:=k0 eL
 clear eL
 replace H:=Option.bind_eq_some_iff.mp H
 obtain ⟨t105,pV,H⟩:=H
 replace H:(if 0≤a1 then (if a1 < (t105.length:Int) then (cI.l0 k (t105.set (a1:Int).toNat 0) af 0 af aa) else (none)) else (none))=some r:=H
 have A3:=k0 pV
 clear pV
 replace H:=iS H;obtain ⟨c4,H⟩:=H
 have eA:=decide_eq_true c4
 clear c4
 replace H:=iS H;obtain ⟨c5,H⟩:=H
 have iW:=decide_eq_true c5
 clear c5
 obtain ⟨mO,akO⟩:∃ y_:List Int,y_=(t105.set (a1:Int).toNat 0):=⟨_,rfl⟩
 replace H:(cI.l0 k mO af 0 af aa)=some r:=by first|(rw [akO];with_reducible exact H)|(have ay:=(Option.bind_some _ _).symm.trans H;rw [akO];with_reducible exact ay)|(have ay:=(Option.bind_some _ _).symm.trans H;with_reducible exact ay)|with_reducible exact H|(rw [akO];exact H)|exact H
 have alf:=k0 akO
 clear akO
 have H':=k0 H
 clear H
 go_enter Try.func184,Try.ntmps184
 go_wp2_with (first|((with_reducible refine cj (N:=2) rfl ?_);refine dJ ?hg (N:=2) ?hd (cs:=#[.int .i64 af,.slice aq aa.length ak]) (t:=31) ?hr ?_;(case hd=>rfl);(case hg=>rfl);(case hr=>first|(go_simp;done)|(go_simp;rfl));intro ai hg w7 aK hb;have ag:=k0 (aK);have aks:=k0 ((by rw [hg];exact (aU bl):w.heap.size≤ai));have ej:=aks;replace HB:=k0 (aI bl hb);clear hb aK hg;have yz:w7.cell? ⟨ai,0,none⟩=some (.int .i64 af):=(av ag.out 0).trans rfl;have yA:w7.cell? ⟨ai,1,none⟩=some (.slice aq aa.length ak):=(av ag.out 1).trans rfl;have yE:=aH ag.out 0;have yF:=aH ag.out 1)|((with_reducible refine cj (N:=10) rfl ?_);refine Kd.o8 (Kd.int .i64) _ 2 ?hg (N:=10) ?hd (xs:=([af]:List Int)) (inner:=[.int .i64 af]) (ok:=fun _=>True) (cA:=fun _=>True) ?hr ?hp (fun _ hk=>hk) trivial (Below.refl _ _) (Nat.le_refl _) (by simp) ?_;(case hd=>rfl);(case hg=>rfl);(case hr=>first|(go_simp;done)|(go_simp;rfl));(case hp=>exact (bS.one (show Kd.M (Kd.int .i64) _ _ _ af [.int .i64 af] from rfl) (bS.none _ _)));intro dx w9 CB hb eB eC;clear eB eC;(first|rw [← gA.out] at CB|(simp only [Int.reduceToNat] at CB;rw [← gA.out] at CB));have bh:=k0 (Kd.dL CB (aU bl));replace ag:=k0 (akj (g:=ai) (o:=sO af aq aa ak 31) bk hb);replace HB:=k0 (aI bl hb);clear hb CB;have vv:w9.cell? ⟨ai,0,none⟩=some (.int .i64 af):=(av ag.out 0).trans rfl;have vw:w9.cell? ⟨ai,1,none⟩=some (.slice aq aa.length ak):=(av ag.out 1).trans rfl;have vC:=aH ag.out 0;have vD:=aH ag.out 1;obtain ⟨ke,akK,yc⟩:=Kd.eK bh.out;subst yc)|((with_reducible refine cZ (f:=226) rfl ?_);refine c_ (some 13) rfl rfl Try.func226 (by kernel_rfl) rfl #[.slice ke eW.length akK,.int .i64 af] rfl gm ?_;(with_reducible refine (wh.calls _ _ eW af t105 _ ?akn ?aT A3.out).mono ?_);(case akn=>exact aC ((Kd.bu bh.out).2.2));(case aT=>exact (Kd.bu bh.out).2.1);rintro e oY ⟨fY,rfl,ake,hb⟩;refine ⟨_,rfl,?_⟩;have cN:=k0 (Kd.dL (Kd.dW ake (Kd.cE (aR bh.out))) (aU bl));replace bh:=k0 (Kd.dV (aR bh.out) (Kd.bW ake) hb);replace ag:=k0 (akj (g:=ai) (o:=sO af aq aa ak 31) bk hb);replace HB:=k0 (aI bl hb);(try clear hb);(try clear ake);have p6:0≤(a1:Int):=oD;have q6:(a1:Int) < ((t105.length:Int):Int):=oD;obtain ⟨mD,Ag,N4,Oy,YV,cl6,Mt⟩:=Kd.akT cN.out (by omega);(first|cases N4|(injection N4 with bf dn dm;(first|subst bf|(injection bf with bf;subst bf));subst dm;clear dn));have GG:=k0 Oy;have GG6:=k0 Mt;clear Oy YV Mt;obtain ⟨Q3,ahg⟩:=Kd.jD 0 cN.out (a1:Int) p6 q6;replace p6:=eq_true p6;replace q6:=eq_true q6;have n_:=k0 (Kd.bG (ok':=(fun k_=>some k_ ≠ (.slice ke eW.length akK:Value).ownBlock)) cN.out (fun k_ hk=>hk.2));clear cN;have cN:=n_;clear n_;obtain ⟨ajh,ajk⟩:=Kd.jD 0 cN.out (a1:Int) oD oD;have G1:=Kd.kP cN.out (a1:Int) 0)|((with_reducible refine lf (t:=2) (p:=16) rfl ?_);refine lq (t:=2) (p:=16) (v:=?aj6) (w1:=(oY.setCell ⟨mD,(a1:Int).toNat,none⟩ (.int .i64 0))) ?hg ?ho ?hn ?hr ?_;(case ho=>rfl);(case hg=>rfl);(case hn=>rfl);(case hr=>first|(go_simp;done)|(go_simp;rfl));intro vV hw;have hg:oY.grownBy vV (some mD):=(by rw [hw];exact G1.2);have dZ:Kd.R (Kd.int .i64) 2 vV w.heap.size (fun k_=>some k_ ≠ (.slice ke eW.length akK:Value).ownBlock) (.slice (some ⟨mD,0,none⟩) t105.length Ag) mO:=(by rw [hw,alf.out];exact G1.1);clear G1;replace ag:=k0 (jl (g:=ai) (o:=sO af aq aa ak 31) bk hg (Kd.iD cN.out ag.out (by decide)));replace bh:=k0 (Kd.o7 (v:=(.slice (some ⟨mD,0,none⟩) t105.length Ag)) (v1:=(.slice (some ⟨mD,0,none⟩) t105.length Ag)) (ok:=(fun _=>True)) (aR bh.out) hg (.inl rfl));replace cN:=k0 (dZ);replace HB:=k0 ((by rw [hw];exact dM (HB.out) GG.out:Below w.heap.size w vV));clear hg hw dZ;have yw:vV.cell? ⟨ai,0,none⟩=some (.int .i64 af):=(av ag.out 0).trans rfl;have yx:vV.cell? ⟨ai,1,none⟩=some (.slice aq aa.length ak):=(av ag.out 1).trans rfl;have yB:=aH ag.out 0;have yC:=aH ag.out 1))
 go_loopg [19] k (fun kq v19 w'=>∃ (aM:List Int) (cr:Int),v19=.int .i64 cr∧au (cI.l0 kq aM af cr af aa=some r)∧au (kq≤k)∧au (Kd.R (Kd.int .i64) 2 w' w.heap.size (fun _=>True) (.slice (some ⟨mD,0,none⟩) t105.length Ag) aM)∧au (w'.heap[ai]?=some (sO af aq aa ak 31))∧au (Below w.heap.size w w'))
 case atStart=>exact ⟨(mO),(0),rs,H',⟨Nat.le_refl _⟩,⟨aR (Kd.bG cN.out (fun _ hk=>trivial))⟩,⟨bk⟩,⟨bl⟩⟩
 case round =>
  clear H'
  (try clear c4);(try clear eA);(try clear c5);(try clear iW);(try clear p6);(try clear q6);(try clear vv);(try clear vw);(try clear yw);(try clear yx);(try clear yz);(try clear yA);(try clear vC);(try clear vD);(try clear yB);(try clear yC);(try clear yE);(try clear yF);(try clear Q3);(try clear p6);(try clear q6)
  obtain ⟨aM,cr,rfl,HA,akl,bM,ag,HB⟩:=hrel
  have ni:=(Kd.bu bM.out).1
  rw [ni] at bM
  (try simp only [ni])
  (try simp only [ni] at ag)
  cases gk with
  | zero=>exact absurd HA.out (by simp [cI.l0])
  | succ k1 =>
   have H:=HA.out
   clear HA
   simp only [cI.l0] at H
   by_cases c17:cr < af
   case neg =>
    rw [if_neg c17] at H
    have oN:decide (cr < af)=false:=decide_eq_false c17
    clear c17
    obtain rfl:=Option.some.inj H
    go_wp2
    go_ret
    exact ⟨_,by first|rfl|(simp [bq,bt]<;>rfl)|(simp [*,bq,bt]<;>rfl),by (with_reducible repeat (first|apply Kd.bN|apply Kd.bQ|apply Kd.bn));exact bM.out,bl⟩
   rw [if_pos c17] at H
   have oN:=decide_eq_true c17
   clear c17
   have H':=k0 H
   clear H
   have Ch:wr.cell? ⟨ai,0,none⟩=some (.int .i64 af):=(av ag.out 0).trans rfl
   have Ci:wr.cell? ⟨ai,1,none⟩=some (.slice aq aa.length ak):=(av ag.out 1).trans rfl
   have Co:=aH ag.out 0
   have Cq:=aH ag.out 1
   go_wp2
   go_loopg [24] k1 (fun kq v24 w'=>∃ (ako:List Int) (bC:Int),v24=.int .i64 bC∧au (cI.l1 kq ako af cr aa (aa.length:Int) bC af aa=some r)∧au (kq≤k1)∧au (Kd.R (Kd.int .i64) 2 w' w.heap.size (fun _=>True) (.slice (some ⟨mD,0,none⟩) aM.length Ag) ako)∧au (w'.heap[ai]?=some (sO af aq aa ak 31))∧au (Below w.heap.size w w'))
   case atStart=>exact ⟨(aM),(0),rs,H',⟨Nat.le_refl _⟩,⟨by (try simp only [ni]);(with_reducible repeat (first|apply Kd.bN|apply Kd.bQ|apply Kd.bn));exact bM.out⟩,⟨by (try simp only [ni]);exact bk⟩,⟨bl⟩⟩
   case round =>
    clear H'
    (try clear c4);(try clear eA);(try clear c5);(try clear iW);(try clear p6);(try clear q6);(try clear c17);(try clear oN);(try clear vv);(try clear vw);(try clear yw);(try clear yx);(try clear Ch);(try clear Ci);(try clear yz);(try clear yA);(try clear vC);(try clear vD);(try clear yB);(try clear yC);(try clear Co);(try clear Cq);(try clear yE);(try clear yF);(try clear Q3);(try clear p6);(try clear q6)
    obtain ⟨ako,bC,rfl,HA,bz,bM,ag,HB⟩:=hrel
    have f_:=(Kd.bu bM.out).1
    rw [f_] at bM
    (try simp only [f_])
    (try simp only [f_] at ag)
    cases gk with
    | zero=>exact absurd HA.out (by simp [cI.l1])
    | succ k2 =>
     have H:=HA.out
     clear HA
     simp only [cI.l1] at H
     by_cases c19:bC < (aa.length:Int)
     case neg =>
      rw [if_neg c19] at H
      have mA:decide (bC < (aa.length:Int))=false:=decide_eq_false c19
      (try simp only [ni,f_] at mA)
      clear c19
      have H':=k0 H
      clear H
      go_wp2
      (try simp only [← ni,← f_])
      first|go_roundg k2|(simp only [← lW];go_roundg k2)|(simp only [← yI];go_roundg k2)
      case measure=>have:=akl.out;have:=bz.out;omega
      case rel=>exact ⟨(ako),(wrap64 (cr+1)),rs,(by first|exact H'|(rw [lW];exact H')|(rw [yI];exact H')),⟨by have:=akl.out;have:=bz.out;omega⟩,⟨by (try simp only [ni]);(try simp only [f_]);(with_reducible repeat (first|apply Kd.bN|apply Kd.bQ|apply Kd.bn));exact bM.out⟩,⟨by (try simp only [ni]);(try simp only [f_]);exact bk⟩,⟨bl⟩⟩
     rw [if_pos c19] at H
     have mA:=decide_eq_true c19
     (try simp only [ni,f_] at mA)
     clear c19
     replace H:=iS H;obtain ⟨c20,H⟩:=H
     have og:=decide_eq_true c20
     clear c20
     replace H:=iS H;obtain ⟨c21,H⟩:=H
     have tZ:=decide_eq_true c21
     (try simp only [ni,f_] at tZ)
     clear c21
     replace H:=iS H;obtain ⟨c22,H⟩:=H
     have qO:=decide_eq_true c22
     (try simp only [ni,f_] at qO)
     have Wv:decide (0 < (ah aa bC).length)=true:=decide_eq_true (by omega)
     (try simp only [ni,f_] at Wv)
     clear c22
     replace H:=iS H;obtain ⟨c23,H⟩:=H
     have rI:=decide_eq_true c23
     clear c23
     replace H:=iS H;obtain ⟨c24,H⟩:=H
     have t_:=decide_eq_true c24
     (try simp only [ni,f_] at t_)
     clear c24
     replace H:=iS H;obtain ⟨c25,H⟩:=H
     have alv:=decide_eq_true c25
     (try simp only [ni,f_] at alv)
     have Wx:decide (1 < (ah aa bC).length)=true:=decide_eq_true (by omega)
     (try simp only [ni,f_] at Wx)
     clear c25
     replace H:=iS H;obtain ⟨c26,H⟩:=H
     have wG:=decide_eq_true c26
     clear c26
     replace H:=iS H;obtain ⟨c27,H⟩:=H
     have sr:=decide_eq_true c27
     (try simp only [ni,f_] at sr)
     clear c27
     obtain ⟨nt,lW⟩:∃ j_:Int,(mn (rd ako (rd (ah aa bC) 0)) (wrap64 ((rd ako (rd (ah aa bC) 1))+1)))=j_:=⟨_,rfl⟩
     replace H:((some (ako.set ((rd (ah aa bC) 0):Int).toNat (nt):List Int)).bind fun dU=>(cI.l1 k2 (dU.set ((rd (ah aa bC) 1):Int).toNat (mn (rd dU (rd (ah aa bC) 1)) (wrap64 ((rd dU (rd (ah aa bC) 0))+1)))) af cr aa (aa.length:Int) (wrap64 (bC+1)) af aa))=some r:=by first|(rw [lW] at H;exact H)|(simp only [lW] at H ⊢;exact H)
     have aa6:(if (wrap64 ((rd ako (rd (ah aa bC) 1))+1)) < (rd ako (rd (ah aa bC) 0)) then (wrap64 ((rd ako (rd (ah aa bC) 1))+1)) else (rd ako (rd (ah aa bC) 0)))=nt:=lW
     obtain ⟨dU,gf⟩:∃ y_:List Int,y_=(ako.set ((rd (ah aa bC) 0):Int).toNat (nt)):=⟨_,rfl⟩
     replace H:(cI.l1 k2 (dU.set ((rd (ah aa bC) 1):Int).toNat (mn (rd dU (rd (ah aa bC) 1)) (wrap64 ((rd dU (rd (ah aa bC) 0))+1)))) af cr aa (aa.length:Int) (wrap64 (bC+1)) af aa)=some r:=by first|(rw [gf];with_reducible exact H)|(have ay:=(Option.bind_some _ _).symm.trans H;rw [gf];with_reducible exact ay)|(have ay:=(Option.bind_some _ _).symm.trans H;with_reducible exact ay)|with_reducible exact H|(rw [gf];exact H)|exact H
     have mV:=k0 gf
     clear gf
     obtain ⟨FD,yI⟩:∃ j_:Int,(mn (rd dU (rd (ah aa bC) 1)) (wrap64 ((rd dU (rd (ah aa bC) 0))+1)))=j_:=⟨_,rfl⟩
     replace H:(cI.l1 k2 (dU.set ((rd (ah aa bC) 1):Int).toNat (FD)) af cr aa (aa.length:Int) (wrap64 (bC+1)) af aa)=some r:=by first|(rw [yI] at H;exact H)|(simp only [yI] at H ⊢;exact H)
     have ahJ:(if (wrap64 ((rd dU (rd (ah aa bC) 0))+1)) < (rd dU (rd (ah aa bC) 1)) then (wrap64 ((rd dU (rd (ah aa bC) 0))+1)) else (rd dU (rd (ah aa bC) 1)))=FD:=yI
     obtain ⟨DV,th⟩:∃ y_:List Int,y_=(dU.set ((rd (ah aa bC) 1):Int).toNat (FD)):=⟨_,rfl⟩
     replace H:(cI.l1 k2 DV af cr aa (aa.length:Int) (wrap64 (bC+1)) af aa)=some r:=by first|(rw [th];with_reducible exact H)|(have ay:=(Option.bind_some _ _).symm.trans H;rw [th];with_reducible exact ay)|(have ay:=(Option.bind_some _ _).symm.trans H;with_reducible exact ay)|with_reducible exact H|(rw [th];exact H)|exact H
     have amG:=k0 th
     clear th
     have H':=k0 H
     clear H
     have eG:0≤(bC:Int):=oD
     have ew:bC < (aa.length:Int):=oD
     obtain ⟨lQ,Gt,EA,e109,akF,sY,sR⟩:=cW bU.out bC eG ew
     cases e109
     replace akF:=hbc HB akF
     have nY:=k0 sR
     have GP:=k0 sY
     clear sR sY
     replace eG:=eq_true eG
     replace ew:=eq_true ew
     try go_wp2
     replace bM:=k0 (Kd.bn bM.out);replace ag:=k0 (ct ag.out);replace HB:=k0 (cP HB.out)
     have jw:0≤(0:Int):=(by omega)
     have jx:0 < ((ah aa bC).length:Int):=oD
     obtain ⟨akV,e110,kD⟩:=Kd.bH nY.out 0 jw jx
     have AE:=kD
     (try rw [show ((0:Int)).toNat=0 from rfl] at AE)
     (try rw [show 0 * 1=0 from rfl] at AE)
     (try rw [Addr.add_zero'] at AE)
     cases e110
     have adx:(0 < (ah aa bC).length)=True:=eq_true (by omega)
     (try rw [show ((0:Int)).toNat=0 from rfl] at kD)
     (try rw [Addr.add_zero'] at kD)
     replace kD:=hbc HB kD
     replace jw:=eq_true jw
     replace jx:=eq_true jx
     have gi:0≤(0:Int):=(by omega)
     have gl:0 < ((ah aa bC).length:Int):=oD
     obtain ⟨mX,e111,gM⟩:=Kd.bH nY.out 0 gi gl
     have Fq:=gM
     (try rw [show ((0:Int)).toNat=0 from rfl] at Fq)
     (try rw [show 0 * 1=0 from rfl] at Fq)
     (try rw [Addr.add_zero'] at Fq)
     obtain rfl:akV=mX:=(by injection e111)
     have ajv:(0 < (ah aa bC).length)=True:=eq_true (by omega)
     (try rw [show ((0:Int)).toNat=0 from rfl] at gM)
     (try rw [Addr.add_zero'] at gM)
     replace gM:=hbc HB gM
     replace gi:=eq_true gi
     replace gl:=eq_true gl
     have oy:0≤((rd (ah aa bC) 0):Int):=oD
     have oz:(rd (ah aa bC) 0) < (ako.length:Int):=oD
     obtain ⟨xY,e112,lG⟩:=Kd.bH (Kd.bu bM.out).2.2 (rd (ah aa bC) 0) oy oz
     obtain rfl:(⟨mD,0,none⟩:Addr)=xY:=(by injection e112)
     (first|simp only [add_plain] at lG|simp only [lS] at lG|simp only [Addr.add,Nat.zero_add] at lG|skip)
     replace oy:=eq_true oy
     replace oz:=eq_true oz
     have nN:0≤(1:Int):=(by omega)
     have nO:1 < ((ah aa bC).length:Int):=oD
     obtain ⟨xZ,e113,nk⟩:=Kd.bH nY.out 1 nN nO
     have Fs:=nk
     (try rw [show ((1:Int)).toNat=1 from rfl] at Fs)
     (try rw [show 1 * 1=1 from rfl] at Fs)
     (try simp only [Nat.reduceMul,Nat.reduceEqDiff,Go.Addr.add,↓reduceIte] at Fs)
     obtain rfl:akV=xZ:=(by injection e113)
     (try simp only [show (1:Int).toNat=1 from rfl,Nat.reduceMul,Nat.reduceEqDiff,Go.Addr.add,↓reduceIte] at nk)
     have ajw:(1 < (ah aa bC).length)=True:=eq_true (by omega)
     (try rw [show ((1:Int)).toNat=1 from rfl] at nk)
     replace nk:=hbc HB nk
     replace nN:=eq_true nN
     replace nO:=eq_true nO
     have iF:0≤((rd (ah aa bC) 1):Int):=oD
     have iG:(rd (ah aa bC) 1) < (ako.length:Int):=oD
     obtain ⟨lR,e114,iZ⟩:=Kd.bH (Kd.bu bM.out).2.2 (rd (ah aa bC) 1) iF iG
     obtain rfl:(⟨mD,0,none⟩:Addr)=lR:=(by injection e114)
     (first|simp only [add_plain] at iZ|simp only [lS] at iZ|simp only [Addr.add,Nat.zero_add] at iZ|skip)
     replace iF:=eq_true iF
     replace iG:=eq_true iG
     have zi:0≤((rd (ah aa bC) 0):Int):=oD
     have oA:((rd (ah aa bC) 0):Int) < ((ako.length:Int):Int):=oD
     obtain ⟨Q1,PJ⟩:=Kd.jD 0 bM.out ((rd (ah aa bC) 0):Int) zi oA
     replace zi:=eq_true zi
     replace oA:=eq_true oA
     have G6:=Kd.al2 bM.out ((rd (ah aa bC) 0):Int) nt
     rw [← mV.out] at G6
     have Hf:=k0 G6
     clear G6
     refine lJ (n:=20) (S:=fun w'=>w'.cell? akV=some (.int .i64 (rd (ah aa bC) 0))∧w'.cell? akV=some (.int .i64 (rd (ah aa bC) 0))∧w'.cell? ⟨mD,((rd (ah aa bC) 0)).toNat,none⟩=some (.int .i64 (rd ako (rd (ah aa bC) 0)))∧w'.cell? ⟨akV.block,akV.off+1,none⟩=some (.int .i64 (rd (ah aa bC) 1))∧w'.cell? ⟨mD,((rd (ah aa bC) 1)).toNat,none⟩=some (.int .i64 (rd ako (rd (ah aa bC) 1)))) (ds:=[19]) (ba 20 0) (by kernel_rfl) rfl rfl ⟨(hbc HB AE),(hbc HB Fq),lG,(hbc HB Fs),iZ⟩ (fun hHeld=>?_);refine qu cI.DJ cI.Bv (fun aA dh=>?_)
     generalize wr.drew=uC at bM ag HB Hf PJ kD gM lG nk iZ Q1 hHeld ⊢
     refine pu 0 (some 28) (ba 20 1) aA (h:=?_)
     refine pu 1 (some 29) (ba 20 3) aA (h:=?_)
     refine pu 2 (some 30) (ba 20 7) aA (h:=?_)
     refine pu 4 (some 32) (ba 20 23) aA (h:=?_)
     refine pu 5 (some 33) (ba 20 55) aA (h:=?_)
     refine pu 6 (some 34) (ba 20 119) aA (h:=?_)
     refine pu 10 (some 38) (ba 20 1143) aA (h:=?_)
     refine pu 11 (some 39) (ba 20 3191) aA (h:=?_)
     refine pu 12 (some 40) (ba 20 7287) aA (h:=?_)
     refine ta 3 (some 31) (ba 20 7295) aA dh hHeld (hy:=Or.inl ⟨by rfl,by rintro w' ⟨s0,s1,s2,s3,s4⟩;go_simp;with_reducible rfl⟩) (h:=?_)
     refine ta 7 (some 35) (ba 20 7423) aA dh hHeld (hy:=Or.inl ⟨by rfl,by rintro w' ⟨s0,s1,s2,s3,s4⟩;go_simp;with_reducible rfl⟩) (h:=?_)
     refine pu 8 (some 36) (ba 20 7679) aA (h:=?_)
     refine ta 9 (some 37) (ba 20 8191) aA dh hHeld (hy:=Or.inl ⟨by rfl,by rintro w' ⟨s0,s1,s2,s3,s4⟩;go_simp;with_reducible rfl⟩) (h:=?_)
     refine ta 13 (some 41) (ba 20 16383) aA dh hHeld (hy:=Or.inl ⟨by rfl,by rintro w' ⟨s0,s1,s2,s3,s4⟩;go_simp;with_reducible rfl⟩) (h:=?_)
     refine pu 14 (some 42) (ba 20 32767) aA (h:=?_)
     refine ta 15 (some 43) (ba 20 65535) aA dh hHeld (hy:=Or.inl ⟨by rfl,by rintro w' ⟨s0,s1,s2,s3,s4⟩;go_simp;with_reducible rfl⟩) (h:=?_)
     refine pu 16 (some 44) (ba 20 131071) aA (h:=?_)
     refine pu 17 (some 45) (ba 20 262143) aA (h:=?_)
     refine pu 18 (some 46) (ba 20 524287) aA (h:=?_)
     refine rU (i:=19) (N:=none) (ba 20 1048575) rfl rfl (kF aA.out (by kernel_rfl)) (by decide) (fun K hK=>?_)
     refine pP (w1:=?_) (by rfl) rfl ?_ ?_
     rotate_left;· go_simp;rfl
     refine hK.out _ _ ?_
     clear hK K
     refine lC (p_ aA.out (by kernel_rfl)) ?_
     try go_wp2
     have akf:au (Kd.R (Kd.int .i64) 2 (uC.setCell ⟨mD,((rd (ah aa bC) 0):Int).toNat,none⟩ (.int .i64 nt)) w.heap.size (fun _=>True) (.slice (some ⟨mD,0,none⟩) ako.length Ag) dU):=⟨aR (Hf.out)⟩
     have aD:au ((uC.setCell ⟨mD,((rd (ah aa bC) 0):Int).toNat,none⟩ (.int .i64 nt)).heap[ai]?=some (sO af (some lQ) aa ak 31)):=⟨by (with_reducible repeat (first|refine ee ?_ _|refine ct ?_|refine dX ?_ _));refine fX ?_ (by have h_:=Kd.iD bM.out ag.out (by decide);intro e_;exact h_ (by rw [e_];rfl)) _;exact bk⟩
     have aJ:au (Below w.heap.size w (uC.setCell ⟨mD,((rd (ah aa bC) 0):Int).toNat,none⟩ (.int .i64 nt))):=⟨by repeat (first|(with_reducible first|exact HB.out|apply dA|apply akz|apply cP|refine dM ?_ GG.out|refine dM ?_ ej.out)|exact HB.out)⟩
     (try clear bM)
     (try clear ag)
     (try clear HB)
     generalize (uC.setCell ⟨mD,((rd (ah aa bC) 0):Int).toNat,none⟩ (.int .i64 nt))=Sy at akf aD aJ ⊢
     have bM:=akf
     have ag:=aD
     have HB:=aJ
     clear akf aD aJ
     replace bM:=k0 (Kd.bn bM.out);replace ag:=k0 (ct ag.out);replace HB:=k0 (cP HB.out)
     have xw:0≤(1:Int):=(by omega)
     have xy:1 < ((ah aa bC).length:Int):=oD
     obtain ⟨amL,e116,alp⟩:=Kd.bH nY.out 1 xw xy
     have Ft:=alp
     (try rw [show ((1:Int)).toNat=1 from rfl] at Ft)
     (try rw [show 1 * 1=1 from rfl] at Ft)
     (try simp only [Nat.reduceMul,Nat.reduceEqDiff,Go.Addr.add,↓reduceIte] at Ft)
     obtain rfl:akV=amL:=(by injection e116)
     (try simp only [show (1:Int).toNat=1 from rfl,Nat.reduceMul,Nat.reduceEqDiff,Go.Addr.add,↓reduceIte] at alp)
     have ajx:(1 < (ah aa bC).length)=True:=eq_true (by omega)
     (try rw [show ((1:Int)).toNat=1 from rfl] at alp)
     replace alp:=hbc HB alp
     replace xw:=eq_true xw
     replace xy:=eq_true xy
     have pJ:0≤(1:Int):=(by omega)
     have pM:1 < ((ah aa bC).length:Int):=oD
     obtain ⟨Bq,e117,mI⟩:=Kd.bH nY.out 1 pJ pM
     have al8:=mI
     (try rw [show ((1:Int)).toNat=1 from rfl] at al8)
     (try rw [show 1 * 1=1 from rfl] at al8)
     (try simp only [Nat.reduceMul,Nat.reduceEqDiff,Go.Addr.add,↓reduceIte] at al8)
     obtain rfl:akV=Bq:=(by injection e117)
     (try simp only [show (1:Int).toNat=1 from rfl,Nat.reduceMul,Nat.reduceEqDiff,Go.Addr.add,↓reduceIte] at mI)
     have ajy:(1 < (ah aa bC).length)=True:=eq_true (by omega)
     (try rw [show ((1:Int)).toNat=1 from rfl] at mI)
     replace mI:=hbc HB mI
     replace pJ:=eq_true pJ
     replace pM:=eq_true pM
     have pK:0≤((rd (ah aa bC) 1):Int):=oD
     have pN:(rd (ah aa bC) 1) < (dU.length:Int):=(by have h_:((rd (ah aa bC) 1):Int) < ((ako.length:Int):Int):=oD;first|(have e_:=(Kd.bu bM.out).1;omega)|simpa only [mV.out,List.length_set] using h_)
     have ajB:(((rd (ah aa bC) 1):Int) < ((ako.length:Int):Int))=True:=eq_true oD
     obtain ⟨Et,e118,nr⟩:=Kd.bH (Kd.bu bM.out).2.2 (rd (ah aa bC) 1) pK pN
     obtain rfl:(⟨mD,0,none⟩:Addr)=Et:=(by injection e118)
     (first|simp only [add_plain] at nr|simp only [lS] at nr|simp only [Addr.add,Nat.zero_add] at nr|skip)
     replace pK:=eq_true pK
     replace pN:=eq_true pN
     have Kv:0≤(0:Int):=(by omega)
     have KM:0 < ((ah aa bC).length:Int):=oD
     obtain ⟨VF,e119,AH⟩:=Kd.bH nY.out 0 Kv KM
     have Fu:=AH
     (try rw [show ((0:Int)).toNat=0 from rfl] at Fu)
     (try rw [show 0 * 1=0 from rfl] at Fu)
     (try rw [Addr.add_zero'] at Fu)
     obtain rfl:akV=VF:=(by injection e119)
     have ajz:(0 < (ah aa bC).length)=True:=eq_true (by omega)
     (try rw [show ((0:Int)).toNat=0 from rfl] at AH)
     (try rw [Addr.add_zero'] at AH)
     replace AH:=hbc HB AH
     replace Kv:=eq_true Kv
     replace KM:=eq_true KM
     have xx:0≤((rd (ah aa bC) 0):Int):=oD
     have xz:(rd (ah aa bC) 0) < (dU.length:Int):=(by have h_:((rd (ah aa bC) 0):Int) < ((ako.length:Int):Int):=oD;first|(have e_:=(Kd.bu bM.out).1;omega)|simpa only [mV.out,List.length_set] using h_)
     have ajC:(((rd (ah aa bC) 0):Int) < ((ako.length:Int):Int))=True:=eq_true oD
     obtain ⟨amM,e120,ur⟩:=Kd.bH (Kd.bu bM.out).2.2 (rd (ah aa bC) 0) xx xz
     obtain rfl:(⟨mD,0,none⟩:Addr)=amM:=(by injection e120)
     (first|simp only [add_plain] at ur|simp only [lS] at ur|simp only [Addr.add,Nat.zero_add] at ur|skip)
     replace xx:=eq_true xx
     replace xz:=eq_true xz
     have KH:0≤((rd (ah aa bC) 1):Int):=oD
     have KX:((rd (ah aa bC) 1):Int) < ((ako.length:Int):Int):=oD
     obtain ⟨abD,aaD⟩:=Kd.jD 0 bM.out ((rd (ah aa bC) 1):Int) KH KX
     replace KH:=eq_true KH
     replace KX:=eq_true KX
     have G7:=Kd.al2 bM.out ((rd (ah aa bC) 1):Int) FD
     rw [← amG.out] at G7
     have MG:=k0 G7
     clear G7
     refine lJ (n:=20) (S:=fun w'=>w'.cell? ⟨akV.block,akV.off+1,none⟩=some (.int .i64 (rd (ah aa bC) 1))∧w'.cell? ⟨akV.block,akV.off+1,none⟩=some (.int .i64 (rd (ah aa bC) 1))∧w'.cell? ⟨mD,((rd (ah aa bC) 1)).toNat,none⟩=some (.int .i64 (rd dU (rd (ah aa bC) 1)))∧w'.cell? akV=some (.int .i64 (rd (ah aa bC) 0))∧w'.cell? ⟨mD,((rd (ah aa bC) 0)).toNat,none⟩=some (.int .i64 (rd dU (rd (ah aa bC) 0)))) (ds:=[19]) (ba 20 0) (by kernel_rfl) rfl rfl ⟨(hbc HB Ft),(hbc HB al8),nr,(hbc HB Fu),ur⟩ (fun hHeld=>?_);refine qu cI.K_ cI.amP (fun aA dh=>?_)
     generalize Sy.drew=ak' at bM ag HB Hf MG aaD alp mI nr AH ur abD hHeld ⊢
     refine pu 0 (some 47) (ba 20 1) aA (h:=?_)
     refine pu 1 (some 48) (ba 20 3) aA (h:=?_)
     refine pu 2 (some 49) (ba 20 7) aA (h:=?_)
     refine pu 4 (some 51) (ba 20 23) aA (h:=?_)
     refine pu 5 (some 52) (ba 20 55) aA (h:=?_)
     refine pu 6 (some 53) (ba 20 119) aA (h:=?_)
     refine pu 10 (some 57) (ba 20 1143) aA (h:=?_)
     refine pu 11 (some 58) (ba 20 3191) aA (h:=?_)
     refine pu 12 (some 59) (ba 20 7287) aA (h:=?_)
     refine ta 3 (some 50) (ba 20 7295) aA dh hHeld (hy:=Or.inl ⟨by rfl,by rintro w' ⟨s0,s1,s2,s3,s4⟩;go_simp;with_reducible rfl⟩) (h:=?_)
     refine ta 7 (some 54) (ba 20 7423) aA dh hHeld (hy:=Or.inl ⟨by rfl,by rintro w' ⟨s0,s1,s2,s3,s4⟩;go_simp;with_reducible rfl⟩) (h:=?_)
     refine pu 8 (some 55) (ba 20 7679) aA (h:=?_)
     refine ta 9 (some 56) (ba 20 8191) aA dh hHeld (hy:=Or.inl ⟨by rfl,by rintro w' ⟨s0,s1,s2,s3,s4⟩;go_simp;with_reducible rfl⟩) (h:=?_)
     refine ta 13 (some 60) (ba 20 16383) aA dh hHeld (hy:=Or.inl ⟨by rfl,by rintro w' ⟨s0,s1,s2,s3,s4⟩;go_simp;with_reducible rfl⟩) (h:=?_)
     refine pu 14 (some 61) (ba 20 32767) aA (h:=?_)
     refine ta 15 (some 62) (ba 20 65535) aA dh hHeld (hy:=Or.inl ⟨by rfl,by rintro w' ⟨s0,s1,s2,s3,s4⟩;go_simp;with_reducible rfl⟩) (h:=?_)
     refine pu 16 (some 63) (ba 20 131071) aA (h:=?_)
     refine pu 17 (some 64) (ba 20 262143) aA (h:=?_)
     refine pu 18 (some 65) (ba 20 524287) aA (h:=?_)
     refine rU (i:=19) (N:=none) (ba 20 1048575) rfl rfl (kF aA.out (by kernel_rfl)) (by decide) (fun K hK=>?_)
     refine pP (w1:=?_) (by rfl) rfl ?_ ?_
     rotate_left;· go_simp;rfl
     refine hK.out _ _ ?_
     clear hK K
     refine lC (p_ aA.out (by kernel_rfl)) ?_
     try go_wp2
     (try simp only [← f_])
     first|go_roundg k2|(simp only [← lW];go_roundg k2)|(simp only [← yI];go_roundg k2)
     case measure=>have:=akl.out;have:=bz.out;omega
     case rel=>exact ⟨(DV),(wrap64 (bC+1)),rs,(by first|exact H'|(rw [lW];exact H')|(rw [yI];exact H')),⟨by have:=akl.out;have:=bz.out;omega⟩,⟨by (try simp only [ni]);(try simp only [f_]);(with_reducible repeat (first|apply Kd.bN|apply Kd.bQ|apply Kd.bn));exact MG.out⟩,⟨by (try simp only [ni]);(try simp only [f_]);(with_reducible repeat (first|refine ee ?_ _|refine ct ?_|refine dX ?_ _));refine fX ?_ (by have h_:=Kd.iD bM.out ag.out (by decide);intro e_;exact h_ (by rw [e_];rfl)) _;exact bk⟩,⟨by repeat (first|(with_reducible first|exact HB.out|apply dA|apply akz|apply cP|refine dM ?_ GG.out|refine dM ?_ ej.out)|exact HB.out)⟩⟩
end Go.Proofs.Ytoebojnhchocaaa.C
/- Set with little white space, by a program. -/
