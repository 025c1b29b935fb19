/- The functions that one law reaches, each as a Lean function, and that Go's call comes to what it says. Condition of each: that the Lean function answers (is not none). -/
import Derived.Test.YtoebojnhchocaaaDx0
import Derived.Test.YtoebojnhchocaaaDx11
namespace Go.Proofs.Ytoebojnhchocaaa.D
open Go.RowKit Go.Proofs.bR.eC Go.Proofs.bR.je Go.Proofs.bR.jO
attribute [local go_sem] max2_int min2_int max_two min_two max_three min_three max_four min_four   -- for this text's walks alone
set_option linter.unusedVariables false
set_option linter.unusedSimpArgs false
/-! ### F195: function 195 -/
mutual
def cz.l0 : Nat → List (List Int) → List (List Int) → Int → Int → Option ((List (List Int)))
 | 0,_,_,_,_=>none
 | k+1,x3,eO,fP,gO=>if gO < fP then (if 0≤gO then (if gO < (eO.length:Int) then (if 0 < ((ah eO gO).length:Int) then (if 1 < ((ah eO gO).length:Int) then (if (rd (ah eO gO) 0)=(rd (ah eO gO) 1) then (cz.l0 k x3 eO fP (wrap64 (gO+1))) else (cz.l1 k x3 (ah eO gO) eO fP gO ((ah eO gO).length:Int) 0)) else (none)) else (none)) else (none)) else (none)) else (some x3)
def cz.l1 : Nat → List (List Int) → List Int → List (List Int) → Int → Int → Int → Int → Option ((List (List Int)))
 | 0,_,_,_,_,_,_,_=>none
 | k+1,x3,x5,eO,fP,gO,nV,fQ=>if fQ < nV then (if 0≤fQ then (if fQ < (x5.length:Int) then (if 0≤(rd x5 fQ) then (if (rd x5 fQ) < (x3.length:Int) then (if (rd x5 fQ) < ((ah x3 (rd x5 fQ)).length:Int) then ((some (x3.set ((rd x5 fQ):Int).toNat ((ah x3 (rd x5 fQ)).set ((rd x5 fQ):Int).toNat (wrap64 ((rd (ah x3 (rd x5 fQ)) (rd x5 fQ))+1))):List (List Int))).bind fun alO=>(if 0≤(wrap64 (1 - fQ)) then (if (wrap64 (1 - fQ)) < (x5.length:Int) then (if 0≤(rd x5 (wrap64 (1 - fQ))) then (if (rd x5 (wrap64 (1 - fQ))) < ((ah alO (rd x5 fQ)).length:Int) then (cz.l1 k (alO.set ((rd x5 fQ):Int).toNat ((ah alO (rd x5 fQ)).set ((rd x5 (wrap64 (1 - fQ))):Int).toNat (wrap64 ((rd (ah alO (rd x5 fQ)) (rd x5 (wrap64 (1 - fQ)))) - 1)))) x5 eO fP gO nV (wrap64 (fQ+1))) else (none)) else (none)) else (none)) else (none))) else (none)) else (none)) else (none)) else (none)) else (none)) else (cz.l0 k x3 eO fP (wrap64 (gO+1)))
end
def cz.f (k:Nat) (af:Int) (aa:List (List Int)):Option ((List (List Int))):=(ia.f k af).bind fun t102=>(cz.l0 k t102 aa (aa.length:Int) 0)
theorem cz.bU : ∀ k, (∀ y0 y1 y2 y3, aj (cz.l0 k y0 y1 y2 y3) (cz.l0 (k + 1) y0 y1 y2 y3)) ∧ (∀ y0 y1 y2 y3 y4 y5 y6, aj (cz.l1 k y0 y1 y2 y3 y4 y5 y6) (cz.l1 (k + 1) y0 y1 y2 y3 y4 y5 y6))
 | 0=>⟨fun _ _ _ _ r h=>by simp [cz.l0] at h,fun _ _ _ _ _ _ _ r h=>by simp [cz.l1] at h⟩
 | k+1=>by
  obtain ⟨alg,ih1⟩:=cz.bU k
  refine ⟨?_, ?_⟩ <;> intros <;> (first | unfold cz.l0 | unfold cz.l1) <;> repeat' first
   | (with_reducible first|exact alg _ _ _ _|exact ih1 _ _ _ _ _ _ _|exact ia.mono _ _|exact aj.refl _|exact aj.none _|refine aj.ite ?_ ?_|refine aj.bind ?_ (fun _=>?_))
   | exact alg _ _ _ _|exact ih1 _ _ _ _ _ _ _|exact ia.mono _ _|exact aj.none _|refine aj.ite ?_ ?_|refine aj.bind ?_ (fun _=>?_)
theorem cz.mono:∀ a0 a1 k,aj (cz.f k a0 a1) (cz.f (k+1) a0 a1):=by
 intro a0 a1 k
 obtain ⟨alg,ih1⟩:=cz.bU k
 unfold cz.f
 repeat' first
  | (with_reducible first|exact alg _ _ _ _|exact ih1 _ _ _ _ _ _ _|exact ia.mono _ _|exact aj.refl _|exact aj.none _|refine aj.ite ?_ ?_|refine aj.bind ?_ (fun _=>?_))
  | exact alg _ _ _ _|exact ih1 _ _ _ _ _ _ _|exact ia.mono _ _|exact aj.none _|refine aj.ite ?_ ?_|refine aj.bind ?_ (fun _=>?_)
def cz.T9:Bool × List (List Nat × List Nat):=(true,[([],[]),([],[]),([],[]),([1,2],[1,2]),([3],[3]),([0,4],[0,4]),([5],[5]),([],[]),([],[]),([7,8],[7,8]),([9],[9]),([6,10],[6,10]),([11],[11]),([12],[12]),([6,10,0,1,2,3,4,5,6,7,8,9,10,11,12,13],[6,10]),([14,13,0,1,2,3,4,5,6,7,8,9,10,11,12,13],[13,14])])
def cz.B9:List Nat:=[0,0,0,6,14,31,63,0,0,384,896,2047,4095,8191,16383,32767]
theorem cz.Mb:gv .any (opsOf Try.f195 9)=cz.T9:=by kernel_rfl
theorem cz.I_:mN cz.T9.2 cz.B9=true:=by kernel_rfl
def cz.Cb:Bool × List (List Nat × List Nat):=(true,[([],[]),([],[]),([],[]),([1,2],[1,2]),([3],[3]),([0,4],[0,4]),([5],[5]),([],[]),([],[]),([8],[8]),([7,9],[7,9]),([10],[10]),([6,11],[6,11]),([12],[12]),([13],[13]),([6,11,0,1,2,3,4,5,6,7,8,9,10,11,12,13,14],[6,11]),([15,14,0,1,2,3,4,5,6,7,8,9,10,11,12,13,14],[14,15])])
def cz.Hz:List Nat:=[0,0,0,6,14,31,63,0,0,256,896,1920,4095,8191,16383,32767,65535]
theorem cz.Ma:gv .any (opsOf Try.f195 10)=cz.Cb:=by kernel_rfl
theorem cz.I9:mN cz.Cb.2 cz.Hz=true:=by kernel_rfl
set_option maxHeartbeats 8000000 in
set_option maxRecDepth 100000 in
theorem cz.calls (k : Nat) (af : Int) (aq : Option Addr) (ak : Nat) (aa : List (List Int)) (r : List (List Int)) (w : World) (aly : Kd.C (Kd.slice 2 (Kd.int .i64)) w aq aa.length aa) (ck : aa.length ≤ ak) (h : cz.f k af aa = some r) :
  Calls Try.prog 195 #[.agg #[.int .i64 af,.slice aq aa.length ak]] w fun e w'=>∃ dH:Value,e=.returned (dH)∧Kd.S (Kd.slice 2 (Kd.int .i64)) 28 w' w.heap.size (fun _=>True) dH r∧Below w.heap.size w w':=by
 have j9:=Try.underlying31
 have bZ:=k0 aly
 have cD:=k0 ck
 clear aly ck
 have HB:=k0 (Below.refl w.heap.size w)
 have H:((ia.f k af).bind fun t102=>(cz.l0 k t102 aa (aa.length:Int) 0))=some r:=h
 clear h
 replace H:=Option.bind_eq_some_iff.mp H
 obtain ⟨t102,lW,H⟩:=H
 replace H:(cz.l0 k t102 aa (aa.length:Int) 0)=some r:=H
 have A2:=k0 lW
 clear lW
 have H':=k0 H
 clear H
 go_enter Try.func195,Try.ntmps195
 go_wp2_with (first|((with_reducible refine cj (N:=1) rfl ?_);refine dK ?hg (N:=1) ?hd (cs:=#[.int .i64 af,.slice aq aa.length ak]) (t:=31) ?hr ?_;(case hd=>rfl);(case hg=>rfl);(case hr=>first|(go_simp;done)|(go_simp;rfl));intro ai hg w3 aJ hb;have ag:=k0 (aJ);have b8:=k0 ((by rw [hg];exact (alk bl):w.heap.size≤ai));have eB:=b8;replace HB:=k0 (aI bl hb);clear hb aJ hg;have xm:w3.cell? ⟨ai,0,none⟩=some (.int .i64 af):=(av ag.out 0).trans rfl;have xo:w3.cell? ⟨ai,1,none⟩=some (.slice aq aa.length ak):=(av ag.out 1).trans rfl;have xw:=aD ag.out 0;have xx:=aD ag.out 1)|((with_reducible refine dx (f:=204) rfl ?_);refine dy (some 9) rfl rfl Try.func204 (by kernel_rfl) rfl #[.int .i64 af] rfl gm ?_;(with_reducible refine (ia.calls k af t102 _ A2.out).mono ?_);rintro e w5 ⟨dn,rfl,aM,hb⟩;refine ⟨_,rfl,?_⟩;have bq:=k0 (Kd.oR aM (alk bl));replace ag:=k0 (alm (g:=ai) (o:=sO af aq aa ak 31) bk hb);replace HB:=k0 (aI bl hb);(try clear hb);(try clear aM);have qp:w5.cell? ⟨ai,0,none⟩=some (.int .i64 af):=(av ag.out 0).trans rfl;have qq:w5.cell? ⟨ai,1,none⟩=some (.slice aq aa.length ak):=(av ag.out 1).trans rfl;have al8:=aD ag.out 0;have qt:=aD ag.out 1))
 go_loopg [13] k (fun kq zE w'=>∃ (bC:List (List Int)) (aW:Int),zE=.int .i64 aW∧au (cz.l0 kq bC aa (aa.length:Int) aW=some r)∧au (kq≤k)∧au (Kd.S (Kd.slice 2 (Kd.int .i64)) 28 w' w.heap.size (fun _=>True) dn bC)∧au (w'.heap[ai]?=some (sO af aq aa ak 31))∧au (Below w.heap.size w w'))
 case atStart=>exact ⟨(t102),(0),rs,H',⟨Nat.le_refl _⟩,⟨aS (bq.out)⟩,⟨bk⟩,⟨bl⟩⟩
 case round =>
  clear H'
  (try clear xm);(try clear xo);(try clear qp);(try clear qq);(try clear xw);(try clear xx);(try clear al8);(try clear qt)
  obtain ⟨bC,aW,rfl,HA,alj,ald,ag,HB⟩:=hrel
  cases gk with
  | zero=>exact absurd HA.out (by simp [cz.l0])
  | succ k1 =>
   have H:=HA.out
   clear HA
   simp only [cz.l0] at H
   by_cases c7:aW < (aa.length:Int)
   case neg =>
    rw [if_neg c7] at H
    have alJ:decide (aW < (aa.length:Int))=false:=decide_eq_false c7
    clear c7
    obtain rfl:=Option.some.inj H
    go_wp2
    go_ret
    exact ⟨_,by first|rfl|(simp [bz,bA]<;>rfl)|(simp [*,bz,bA]<;>rfl),by (with_reducible repeat (first|apply Kd.gK|apply Kd.alH|apply Kd.eW));exact ald.out,bl⟩
   rw [if_pos c7] at H
   have alJ:=decide_eq_true c7
   clear c7
   replace H:=iS H;obtain ⟨c8,H⟩:=H
   have jg:=decide_eq_true c8
   clear c8
   replace H:=iS H;obtain ⟨c9,H⟩:=H
   have mD:=decide_eq_true c9
   clear c9
   replace H:=iS H;obtain ⟨c10,H⟩:=H
   have lO:=decide_eq_true c10
   have vz:decide (0 < (ah aa aW).length)=true:=decide_eq_true (by omega)
   clear c10
   replace H:=iS H;obtain ⟨c11,H⟩:=H
   have i_:=decide_eq_true c11
   have oc:decide (1 < (ah aa aW).length)=true:=decide_eq_true (by omega)
   clear c11
   by_cases c12:(rd (ah aa aW) 0)=(rd (ah aa aW) 1)
   case neg =>
    rw [if_neg c12] at H
    have rN:((rd (ah aa aW) 0) == (rd (ah aa aW) 1))=false:=beq_eq_false_iff_ne.mpr c12
    have Av:((rd (ah aa aW) 0) != (rd (ah aa aW) 1))=true:=bne_iff_ne.mpr c12
    have H':=k0 H
    clear H
    have alz:0≤(aW:Int):=oD
    have cV:aW < (aa.length:Int):=oD
    obtain ⟨kG,BL,Ck,e105,dW,qw,qu⟩:=cX bZ.out aW alz cV
    cases e105
    replace dW:=hbc HB dW
    have p_:=k0 qu
    have EW:=k0 qw
    clear qu qw
    replace alz:=eq_true alz
    replace cV:=eq_true cV
    try go_wp2
    replace ald:=k0 (Kd.eW ald.out);replace ag:=k0 (cw ag.out);replace HB:=k0 (cP HB.out)
    have dM:0≤(0:Int):=(by omega)
    have dD:0 < ((ah aa aW).length:Int):=oD
    obtain ⟨gA,e106,dA⟩:=Kd.bJ p_.out 0 dM dD
    have tu:=dA
    (try rw [show ((0:Int)).toNat=0 from rfl] at tu)
    (try rw [show 0 * 1=0 from rfl] at tu)
    (try rw [Addr.add_zero'] at tu)
    cases e106
    have Bu:(0 < (ah aa aW).length)=True:=eq_true (by omega)
    (try rw [show ((0:Int)).toNat=0 from rfl] at dA)
    (try rw [Addr.add_zero'] at dA)
    replace dA:=hbc HB dA
    replace dM:=eq_true dM
    replace dD:=eq_true dD
    have gi:0≤(1:Int):=(by omega)
    have gl:1 < ((ah aa aW).length:Int):=oD
    obtain ⟨pH,e107,fN⟩:=Kd.bJ p_.out 1 gi gl
    have tv:=fN
    (try rw [show ((1:Int)).toNat=1 from rfl] at tv)
    (try rw [show 1 * 1=1 from rfl] at tv)
    (try simp only [Nat.reduceMul,Nat.reduceEqDiff,Go.Addr.add,↓reduceIte] at tv)
    obtain rfl:gA=pH:=(by injection e107)
    (try simp only [show (1:Int).toNat=1 from rfl,Nat.reduceMul,Nat.reduceEqDiff,Go.Addr.add,↓reduceIte] at fN)
    have aec:(1 < (ah aa aW).length)=True:=eq_true (by omega)
    (try rw [show ((1:Int)).toNat=1 from rfl] at fN)
    replace fN:=hbc HB fN
    replace gi:=eq_true gi
    replace gl:=eq_true gl
    refine lU (n:=7) (S:=fun w'=>w'.cell? gA=some (.int .i64 (rd (ah aa aW) 0))∧w'.cell? ⟨gA.block,gA.off+1,none⟩=some (.int .i64 (rd (ah aa aW) 1))) (ds:=[]) (ba 7 0) (by kernel_rfl) rfl rfl ⟨(hbc HB tu),(hbc HB tv)⟩ (fun hHeld=>?_)
    generalize wr.drew=Mi at ald ag HB dA fN hHeld ⊢
    refine mM (i:=0) (N:=some 17) (v:=?_) (a':=?_) (ba 7 1) rfl rfl (by kernel_rfl) (fun _ _ _ h=>h) (Or.inl ⟨by rfl,?_⟩) ?_ ?_
    rotate_left;· intro w';go_simp;with_reducible rfl
    rotate_left;· simp only [Act.put,zI,zZ,zS,cl,cv];rfl
    refine mM (i:=1) (N:=some 18) (v:=?_) (a':=?_) (ba 7 3) rfl rfl (by kernel_rfl) (fun _ _ _ h=>h) (Or.inl ⟨by rfl,?_⟩) ?_ ?_
    rotate_left;· intro w';go_simp;with_reducible rfl
    rotate_left;· simp only [Act.put,zI,zZ,zS,cl,cv];rfl
    refine mM (i:=3) (N:=some 20) (v:=?_) (a':=?_) (ba 7 11) rfl rfl (by kernel_rfl) (fun _ _ _ h=>h) (Or.inl ⟨by rfl,?_⟩) ?_ ?_
    rotate_left;· intro w';go_simp;with_reducible rfl
    rotate_left;· simp only [Act.put,zI,zZ,zS,cl,cv];rfl
    refine mM (i:=4) (N:=some 21) (v:=?_) (a':=?_) (ba 7 27) rfl rfl (by kernel_rfl) (fun _ _ _ h=>h) (Or.inl ⟨by rfl,?_⟩) ?_ ?_
    rotate_left;· intro w';go_simp;with_reducible rfl
    rotate_left;· simp only [Act.put,zI,zZ,zS,cl,cv];rfl
    refine nv (i:=2) (N:=some 19) (v:=?_) (a':=?_) (ba 7 31) rfl rfl (by kernel_rfl) (fun _ _ _ h=>h) (Or.inl ⟨by rfl,?_⟩) hHeld ?_ ?_
    rotate_left;· rintro w' ⟨s0,s1⟩;go_simp;with_reducible rfl
    rotate_left;· simp only [Act.put,zI,zZ,zS,cl,cv];rfl
    refine nv (i:=5) (N:=some 22) (v:=?_) (a':=?_) (ba 7 63) rfl rfl (by kernel_rfl) (fun _ _ _ h=>h) (Or.inl ⟨by rfl,?_⟩) hHeld ?_ ?_
    rotate_left;· rintro w' ⟨s0,s1⟩;go_simp;with_reducible rfl
    rotate_left;· simp only [Act.put,zI,zZ,zS,cl,cv];rfl
    refine mM (i:=6) (N:=some 23) (v:=?_) (a':=?_) (ba 7 127) rfl rfl (by kernel_rfl) (fun _ _ _ h=>h) (Or.inl ⟨by rfl,?_⟩) ?_ ?_
    rotate_left;· intro w';go_simp;with_reducible rfl
    rotate_left;· simp only [Act.put,zI,zZ,zS,cl,cv];rfl
    refine lQ (by kernel_rfl) ?_
    try go_wp2
    go_loopg [26] k1 (fun kq v26 w'=>∃ (ale:List (List Int)) (bN:Int),v26=.int .i64 bN∧au (cz.l1 kq ale (ah aa aW) aa (aa.length:Int) aW ((ah aa aW).length:Int) bN=some r)∧au (kq≤k1)∧au (Kd.S (Kd.slice 2 (Kd.int .i64)) 28 w' w.heap.size (fun _=>True) dn ale)∧au (w'.heap[ai]?=some (sO af (some kG) aa ak 31))∧au (Below w.heap.size w w'))
    case atStart=>exact ⟨(bC),(0),rs,H',⟨Nat.le_refl _⟩,⟨aS (ald.out)⟩,⟨bk⟩,⟨bl⟩⟩
    case round =>
     clear H'
     (try clear c7);(try clear alJ);(try clear c8);(try clear jg);(try clear c9);(try clear mD);(try clear c10);(try clear lO);(try clear vz);(try clear c11);(try clear i_);(try clear oc);(try clear c12);(try clear rN);(try clear Av);(try clear xm);(try clear xo);(try clear qp);(try clear qq);(try clear xw);(try clear xx);(try clear al8);(try clear qt);(try clear dW);(try clear dA);(try clear fN);(try clear alz);(try clear dM);(try clear gi);(try clear cV);(try clear dD);(try clear gl)
     obtain ⟨ale,bN,rfl,HA,bB,ald,ag,HB⟩:=hrel
     cases gk with
     | zero=>exact absurd HA.out (by simp [cz.l1])
     | succ k2 =>
      have H:=HA.out
      clear HA
      simp only [cz.l1] at H
      by_cases c15:bN < ((ah aa aW).length:Int)
      case neg =>
       rw [if_neg c15] at H
       have jD:decide (bN < ((ah aa aW).length:Int))=false:=decide_eq_false c15
       clear c15
       have H':=k0 H
       clear H
       go_wp2
       first|go_roundg k2|(simp only [← jG];go_roundg k2)
       case measure=>have:=alj.out;have:=bB.out;omega
       case rel=>exact ⟨(ale),(wrap64 (aW+1)),rs,(by first|exact H'|(rw [jG];exact H')),⟨by have:=alj.out;have:=bB.out;omega⟩,⟨aS (ald.out)⟩,⟨bk⟩,⟨bl⟩⟩
      rw [if_pos c15] at H
      have jD:=decide_eq_true c15
      clear c15
      replace H:=iS H;obtain ⟨c16,H⟩:=H
      have qY:=decide_eq_true c16
      clear c16
      replace H:=iS H;obtain ⟨c17,H⟩:=H
      have oW:=decide_eq_true c17
      clear c17
      replace H:=iS H;obtain ⟨c18,H⟩:=H
      have qZ:=decide_eq_true c18
      clear c18
      replace H:=iS H;obtain ⟨c19,H⟩:=H
      have lC:=decide_eq_true c19
      clear c19
      replace H:=iS H;obtain ⟨c20,H⟩:=H
      have og:=decide_eq_true c20
      clear c20
      obtain ⟨ny,tD⟩:∃ y_:List Int,y_=((ah ale (rd (ah aa aW) bN)).set ((rd (ah aa aW) bN):Int).toNat (wrap64 ((rd (ah ale (rd (ah aa aW) bN)) (rd (ah aa aW) bN))+1))):=⟨_,rfl⟩
      replace H:((some (ale.set ((rd (ah aa aW) bN):Int).toNat ny:List (List Int))).bind fun alO=>(if 0≤(wrap64 (1 - bN)) then (if (wrap64 (1 - bN)) < ((ah aa aW).length:Int) then (if 0≤(rd (ah aa aW) (wrap64 (1 - bN))) then (if (rd (ah aa aW) (wrap64 (1 - bN))) < ((ah alO (rd (ah aa aW) bN)).length:Int) then (cz.l1 k2 (alO.set ((rd (ah aa aW) bN):Int).toNat ((ah alO (rd (ah aa aW) bN)).set ((rd (ah aa aW) (wrap64 (1 - bN))):Int).toNat (wrap64 ((rd (ah alO (rd (ah aa aW) bN)) (rd (ah aa aW) (wrap64 (1 - bN)))) - 1)))) (ah aa aW) aa (aa.length:Int) aW ((ah aa aW).length:Int) (wrap64 (bN+1))) else (none)) else (none)) else (none)) else (none)))=some r:=by first|(rw [tD];with_reducible exact H)|(have ax:=(Option.bind_some _ _).symm.trans H;rw [tD];with_reducible exact ax)|(have ax:=(Option.bind_some _ _).symm.trans H;with_reducible exact ax)|with_reducible exact H|(rw [tD];exact H)|exact H
      have z_:=k0 tD
      clear tD
      obtain ⟨alO,tE⟩:∃ y_:List (List Int),y_=(ale.set ((rd (ah aa aW) bN):Int).toNat ny):=⟨_,rfl⟩
      replace H:(if 0≤(wrap64 (1 - bN)) then (if (wrap64 (1 - bN)) < ((ah aa aW).length:Int) then (if 0≤(rd (ah aa aW) (wrap64 (1 - bN))) then (if (rd (ah aa aW) (wrap64 (1 - bN))) < ((ah alO (rd (ah aa aW) bN)).length:Int) then (cz.l1 k2 (alO.set ((rd (ah aa aW) bN):Int).toNat ((ah alO (rd (ah aa aW) bN)).set ((rd (ah aa aW) (wrap64 (1 - bN))):Int).toNat (wrap64 ((rd (ah alO (rd (ah aa aW) bN)) (rd (ah aa aW) (wrap64 (1 - bN)))) - 1)))) (ah aa aW) aa (aa.length:Int) aW ((ah aa aW).length:Int) (wrap64 (bN+1))) else (none)) else (none)) else (none)) else (none))=some r:=by first|(rw [tE];with_reducible exact H)|(have ax:=(Option.bind_some _ _).symm.trans H;rw [tE];with_reducible exact ax)|(have ax:=(Option.bind_some _ _).symm.trans H;with_reducible exact ax)|with_reducible exact H|(rw [tE];exact H)|exact H
      have Aa:=k0 tE
      clear tE
      obtain ⟨iV,jG⟩:∃ j_:Int,(wrap64 (1 - bN))=j_:=⟨_,rfl⟩
      replace H:(if 0≤(iV) then (if (iV) < ((ah aa aW).length:Int) then (if 0≤(rd (ah aa aW) (iV)) then (if (rd (ah aa aW) (iV)) < ((ah alO (rd (ah aa aW) bN)).length:Int) then (cz.l1 k2 (alO.set ((rd (ah aa aW) bN):Int).toNat ((ah alO (rd (ah aa aW) bN)).set ((rd (ah aa aW) (iV)):Int).toNat (wrap64 ((rd (ah alO (rd (ah aa aW) bN)) (rd (ah aa aW) (iV))) - 1)))) (ah aa aW) aa (aa.length:Int) aW ((ah aa aW).length:Int) (wrap64 (bN+1))) else (none)) else (none)) else (none)) else (none))=some r:=by first|(rw [jG] at H;exact H)|(simp only [jG] at H ⊢;exact H)
      have aiF:(IntKind.i64.wrap (1 - bN))=iV:=(cl _).trans jG
      replace H:=iS H;obtain ⟨c23,H⟩:=H
      have rO:=decide_eq_true c23
      clear c23
      replace H:=iS H;obtain ⟨c24,H⟩:=H
      have ur:=decide_eq_true c24
      clear c24
      replace H:=iS H;obtain ⟨c25,H⟩:=H
      have sF:=decide_eq_true c25
      clear c25
      replace H:=iS H;obtain ⟨c26,H⟩:=H
      have vA:=decide_eq_true c26
      clear c26
      obtain ⟨wk,oB⟩:∃ y_:List Int,y_=((ah alO (rd (ah aa aW) bN)).set ((rd (ah aa aW) (iV)):Int).toNat (wrap64 ((rd (ah alO (rd (ah aa aW) bN)) (rd (ah aa aW) (iV))) - 1))):=⟨_,rfl⟩
      replace H:(cz.l1 k2 (alO.set ((rd (ah aa aW) bN):Int).toNat wk) (ah aa aW) aa (aa.length:Int) aW ((ah aa aW).length:Int) (wrap64 (bN+1)))=some r:=by first|(rw [oB];with_reducible exact H)|(have ax:=(Option.bind_some _ _).symm.trans H;rw [oB];with_reducible exact ax)|(have ax:=(Option.bind_some _ _).symm.trans H;with_reducible exact ax)|with_reducible exact H|(rw [oB];exact H)|exact H
      have anq:=k0 oB
      clear oB
      obtain ⟨anx,tF⟩:∃ y_:List (List Int),y_=(alO.set ((rd (ah aa aW) bN):Int).toNat wk):=⟨_,rfl⟩
      replace H:(cz.l1 k2 anx (ah aa aW) aa (aa.length:Int) aW ((ah aa aW).length:Int) (wrap64 (bN+1)))=some r:=by first|(rw [tF];with_reducible exact H)|(have ax:=(Option.bind_some _ _).symm.trans H;rw [tF];with_reducible exact ax)|(have ax:=(Option.bind_some _ _).symm.trans H;with_reducible exact ax)|with_reducible exact H|(rw [tF];exact H)|exact H
      have IW:=k0 tF
      clear tF
      have H':=k0 H
      clear H
      try go_wp2
      replace ald:=k0 (Kd.eW ald.out);replace ag:=k0 (cw ag.out);replace HB:=k0 (cP HB.out)
      have ef:0≤(bN:Int):=oD
      have dR:bN < ((ah aa aW).length:Int):=oD
      obtain ⟨lu,e108,fu⟩:=Kd.bJ p_.out bN ef dR
      have ab3:=fu
      obtain rfl:gA=lu:=(by injection e108)
      replace fu:=hbc HB fu
      replace ef:=eq_true ef
      replace dR:=eq_true dR
      obtain ⟨amC,rR,FD⟩:=Kd.pF ald.out
      (first|subst FD|(injection FD with alT om jQ;have oo:=alT.symm;have oq:=jQ.symm;clear alT om jQ;subst oo;subst oq))
      have eH:0≤((rd (ah aa aW) bN):Int):=oD
      have ez:(rd (ah aa aW) bN) < (ale.length:Int):=oD
      obtain ⟨lZ,Ho,Fu,e109,gM,td,amn⟩:=cX (Kd.alw ald.out).2.2 (rd (ah aa aW) bN) eH ez
      cases e109
      obtain ⟨OO,C3,CT,xh⟩:=Kd.mB ald.out [] (rd (ah aa aW) bN) eH (by first|exact ez|exact oD|(have e_:=(Kd.alw ald.out).1;omega))
      obtain ⟨Tr,rfl,amj⟩:=CT
      have oy:=xh 0 _ rfl
      rw [Nat.add_zero,show ((Kd.slice 2 (Kd.int .i64))).sz=1 from rfl,Nat.mul_one] at oy
      replace oy:=Option.some.inj (oy.symm.trans gM)
      rw [oy] at amj
      have amw:=k0 (show Kd.R (Kd.int .i64) 2 _ _ _ _ (ah ale (rd (ah aa aW) bN)) from amj)
      clear oy amj
      have rH:=k0 gM
      clear xh C3
      have nZ:=k0 amn
      have HQ:=k0 td
      clear amn td
      replace eH:=eq_true eH
      replace ez:=eq_true ez
      have jr:0≤(bN:Int):=oD
      have js:bN < ((ah aa aW).length:Int):=oD
      obtain ⟨lz,e110,kL⟩:=Kd.bJ p_.out bN jr js
      have Bi:=kL
      obtain rfl:gA=lz:=(by injection e110)
      replace kL:=hbc HB kL
      replace jr:=eq_true jr
      replace js:=eq_true js
      have gj:0≤((rd (ah aa aW) bN):Int):=oD
      have alG:(rd (ah aa aW) bN) < ((ah ale (rd (ah aa aW) bN)).length:Int):=oD
      obtain ⟨mW,e111,gN⟩:=Kd.bJ (by repeat (first|(with_reducible exact nZ.out)|(with_reducible refine Kd.kQ ?_ _)|(with_reducible refine Kd.alZ ?_ _)|(with_reducible refine Kd.jZ ?_)|exact nZ.out)) (rd (ah aa aW) bN) gj alG
      cases e111
      replace gj:=eq_true gj
      replace alG:=eq_true alG
      have tN:0≤((rd (ah aa aW) bN):Int):=oD
      have tQ:((rd (ah aa aW) bN):Int) < (((ah ale (rd (ah aa aW) bN)).length:Int):Int):=oD
      obtain ⟨sR,rQ,rT,amI,CN,OQ,wF⟩:=Kd.lp amw.out (by omega)
      (first|cases rT|(injection rT with bh dm di;(first|subst bh|(injection bh with bh;subst bh));subst di;clear dm))
      (first|simp only [add_plain] at gN|skip)
      have BS:=k0 amI
      have anJ:=k0 wF
      clear amI CN wF
      (first|simp only [add_plain] at gN|skip)
      obtain ⟨K3,KC⟩:=Kd.jB 0 amw.out ((rd (ah aa aW) bN):Int) tN tQ
      replace tN:=eq_true tN
      replace tQ:=eq_true tQ
      have abT:((rd (ah aa aW) bN):Int) < (ale.length:Int):=(by have h_:((rd (ah aa aW) bN):Int) < ((ale.length:Int):Int):=oD;first|exact h_|(have e_:=(Kd.alw ald.out).1;omega)|simpa only [List.length_set,List.length_set] using h_)
      obtain ⟨akm,ag3,aaw,Z0,Qz,RF,Qd⟩:=Kd.Ai ald.out [] ((rd (ah aa aW) bN):Int) oD (by first|exact abT|(have e_:=(Kd.alw ald.out).1;omega))
      obtain ⟨akZ,rfl,CK⟩:=Z0
      have Ga:=Qz 0 _ rfl
      rw [Nat.add_zero,show ((Kd.slice 2 (Kd.int .i64))).sz=1 from rfl,Nat.mul_one] at Ga
      replace Ga:=Option.some.inj (Ga.symm.trans rH.out)
      subst Ga
      clear Qz aaw
      replace CK:=(show Kd.R (Kd.int .i64) 2 _ _ _ _ (ah ale (rd (ah aa aW) bN)) from CK)
      have mS:=Kd.kW CK ((rd (ah aa aW) bN):Int) (wrap64 ((rd (ah ale (rd (ah aa aW) bN)) (rd (ah aa aW) bN))+1))
      have VD:=k0 (am6 mS.2 rH.out (am7 (RF _ (CK.1 _ rfl)).2))
      rw [← z_.out] at mS
      have agh:=k0 mS.1
      have Iz:=Qd mS.2 (fun k_ e_=>by injection e_ with e_;subst e_;exact CK.1 _ rfl) (x':=ny) (Kd.rJ mS.1)
      rw [← Aa.out] at Iz
      have Io:=k0 Iz
      clear mS Iz Qd RF
      refine lU (n:=16) (S:=fun w'=>w'.cell? (gA.add (bN).toNat)=some (.int .i64 (rd (ah aa aW) bN))∧w'.cell? (lZ.add ((rd (ah aa aW) bN)).toNat)=some (.slice (some ⟨sR,0,none⟩) (ah ale (rd (ah aa aW) bN)).length Fu)∧w'.cell? (gA.add (bN).toNat)=some (.int .i64 (rd (ah aa aW) bN))∧w'.cell? ⟨sR,((rd (ah aa aW) bN)).toNat,none⟩=some (.int .i64 (rd (ah ale (rd (ah aa aW) bN)) (rd (ah aa aW) bN)))) (ds:=[15]) (ba 16 0) (by kernel_rfl) rfl rfl ⟨(hbc HB ab3),gM,(hbc HB Bi),gN⟩ (fun hHeld=>?_);refine pW cz.Mb cz.I_ (fun ay cZ=>?_)
      generalize wr.drew=ju at ald ag HB anJ amw Io nZ rH VD KC fu gM kL gN K3 hHeld ⊢
      refine pu 0 (some 29) (ba 16 1) ay (h:=?_)
      refine pu 1 (some 30) (ba 16 3) ay (h:=?_)
      refine pu 2 (some 31) (ba 16 7) ay (h:=?_)
      refine pu 3 (some 32) (ba 16 15) ay (h:=?_)
      refine pu 7 (some 36) (ba 16 143) ay (h:=?_)
      refine pu 8 (some 37) (ba 16 399) ay (h:=?_)
      refine pu 9 (some 38) (ba 16 911) ay (h:=?_)
      refine ta 4 (some 33) (ba 16 927) ay cZ hHeld (hy:=Or.inl ⟨by rfl,by rintro w' ⟨s0,s1,s2,s3⟩;go_simp;with_reducible rfl⟩) (h:=?_)
      refine pu 5 (some 34) (ba 16 959) ay (h:=?_)
      refine ta 6 (some 35) (ba 16 1023) ay cZ hHeld (hy:=Or.inl ⟨by rfl,by rintro w' ⟨s0,s1,s2,s3⟩;go_simp;with_reducible rfl⟩) (h:=?_)
      refine ta 10 (some 39) (ba 16 2047) ay cZ hHeld (hy:=Or.inl ⟨by rfl,by rintro w' ⟨s0,s1,s2,s3⟩;go_simp;with_reducible rfl⟩) (h:=?_)
      refine pu 11 (some 40) (ba 16 4095) ay (h:=?_)
      refine ta 12 (some 41) (ba 16 8191) ay cZ hHeld (hy:=Or.inl ⟨by rfl,by rintro w' ⟨s0,s1,s2,s3⟩;go_simp;with_reducible rfl⟩) (h:=?_)
      refine pu 13 (some 42) (ba 16 16383) ay (h:=?_)
      refine pu 14 (some 43) (ba 16 32767) ay (h:=?_)
      refine qE (i:=15) (N:=none) (ba 16 65535) rfl rfl (kg ay.out (by kernel_rfl)) (by decide) (fun K hK=>?_)
      refine pV (w1:=?_) (by rfl) rfl ?_ ?_
      rotate_left;· go_simp;rfl
      refine hK.out _ _ ?_
      clear hK K
      refine lQ (pN ay.out (by kernel_rfl)) ?_
      try go_wp2
      have aE:au (Kd.S (Kd.slice 2 (Kd.int .i64)) 28 (ju.setCell ⟨sR,((rd (ah aa aW) bN):Int).toNat,none⟩ (.int .i64 (wrap64 ((rd (ah ale (rd (ah aa aW) bN)) (rd (ah aa aW) bN))+1)))) w.heap.size (fun _=>True) (.slice (some lZ) ale.length rR) alO):=⟨aS (Io.out)⟩
      have aH:au ((ju.setCell ⟨sR,((rd (ah aa aW) bN):Int).toNat,none⟩ (.int .i64 (wrap64 ((rd (ah ale (rd (ah aa aW) bN)) (rd (ah aa aW) bN))+1)))).heap[ai]?=some (sO af (some kG) aa ak 31)):=⟨by (with_reducible repeat (first|refine eg ?_ _|refine cw ?_|refine dV ?_ _));refine fW ?_ (by have h_:=Kd.gY amw.out ag.out (by decide);intro e_;exact h_ (by rw [e_];rfl)) _;exact bk⟩
      have aK:au (Below w.heap.size w (ju.setCell ⟨sR,((rd (ah aa aW) bN):Int).toNat,none⟩ (.int .i64 (wrap64 ((rd (ah ale (rd (ah aa aW) bN)) (rd (ah aa aW) bN))+1))))):=⟨by repeat (first|(with_reducible first|exact HB.out|apply dh|apply ek|apply cP|refine dJ ?_ BS.out|refine dJ ?_ eB.out)|exact HB.out)⟩
      (try clear ald)
      (try clear ag)
      (try clear HB)
      generalize (ju.setCell ⟨sR,((rd (ah aa aW) bN):Int).toNat,none⟩ (.int .i64 (wrap64 ((rd (ah ale (rd (ah aa aW) bN)) (rd (ah aa aW) bN))+1))))=uR at aE aH aK ⊢
      have ald:=aE
      have ag:=aH
      have HB:=aK
      clear aE aH aK
      replace ald:=k0 (Kd.eW ald.out);replace ag:=k0 (cw ag.out);replace HB:=k0 (cP HB.out)
      have Lw:0≤(bN:Int):=oD
      have LN:bN < ((ah aa aW).length:Int):=oD
      obtain ⟨WI,e115,Gh⟩:=Kd.bJ p_.out bN Lw LN
      have ab5:=Gh
      obtain rfl:gA=WI:=(by injection e115)
      replace Gh:=hbc HB Gh
      replace Lw:=eq_true Lw
      replace LN:=eq_true LN
      have xO:0≤((rd (ah aa aW) bN):Int):=oD
      have xR:(rd (ah aa aW) bN) < (alO.length:Int):=(by have h_:((rd (ah aa aW) bN):Int) < ((ale.length:Int):Int):=oD;first|(have e_:=(Kd.alw ald.out).1;omega)|simpa only [Aa.out,List.length_set] using h_)
      have akv:(((rd (ah aa aW) bN):Int) < ((ale.length:Int):Int))=True:=eq_true oD
      obtain ⟨I4,afI,Xt,e116,tC,Ro,Q8⟩:=cX (Kd.alw ald.out).2.2 (rd (ah aa aW) bN) xO xR
      obtain rfl:lZ=I4:=(by injection e116)
      obtain ⟨agR,aaj,Z6,Qn⟩:=Kd.mB ald.out [] (rd (ah aa aW) bN) xO (by first|exact xR|exact oD|(have e_:=(Kd.alw ald.out).1;omega))
      obtain ⟨akN,rfl,JN⟩:=Z6
      have DC:=Qn 0 _ rfl
      rw [Nat.add_zero,show ((Kd.slice 2 (Kd.int .i64))).sz=1 from rfl,Nat.mul_one] at DC
      replace DC:=Option.some.inj (DC.symm.trans tC)
      rw [DC] at JN
      have E3:=k0 (show Kd.R (Kd.int .i64) 2 _ _ _ _ (ah alO (rd (ah aa aW) bN)) from JN)
      clear DC JN
      have IC:=k0 tC
      clear Qn aaj
      have Iq:=k0 Q8
      have af3:=k0 Ro
      clear Q8 Ro
      replace xO:=eq_true xO
      replace xR:=eq_true xR
      have nj:0≤((iV):Int):=oD
      have nr:(iV) < ((ah aa aW).length:Int):=oD
      obtain ⟨yo,e117,l_⟩:=Kd.bJ p_.out (iV) nj nr
      have Bj:=l_
      obtain rfl:gA=yo:=(by injection e117)
      replace l_:=hbc HB l_
      replace nj:=eq_true nj
      replace nr:=eq_true nr
      have nk:0≤((rd (ah aa aW) (iV)):Int):=oD
      have nt:(rd (ah aa aW) (iV)) < ((ah alO (rd (ah aa aW) bN)).length:Int):=oD
      obtain ⟨Al,e118,mJ⟩:=Kd.bJ (by repeat (first|(with_reducible exact Iq.out)|(with_reducible refine Kd.kQ ?_ _)|(with_reducible refine Kd.alZ ?_ _)|(with_reducible refine Kd.jZ ?_)|exact Iq.out)) (rd (ah aa aW) (iV)) nk nt
      cases e118
      replace nk:=eq_true nk
      replace nt:=eq_true nt
      have LI:0≤((rd (ah aa aW) (iV)):Int):=oD
      have LY:((rd (ah aa aW) (iV)):Int) < (((ah alO (rd (ah aa aW) bN)).length:Int):Int):=oD
      obtain ⟨PR,ahh,O7,PE,Zy,aha,anZ⟩:=Kd.lp E3.out (by omega)
      (first|cases O7|(injection O7 with bh dm di;(first|subst bh|(injection bh with bh;subst bh));subst di;clear dm))
      (first|simp only [add_plain] at mJ|skip)
      have UN:=k0 PE
      have UW:=k0 anZ
      clear PE Zy anZ
      (first|simp only [add_plain] at mJ|skip)
      obtain ⟨ab_,aa7⟩:=Kd.jB 0 E3.out ((rd (ah aa aW) (iV)):Int) LI LY
      replace LI:=eq_true LI
      replace LY:=eq_true LY
      have abU:((rd (ah aa aW) bN):Int) < (alO.length:Int):=(by have h_:((rd (ah aa aW) bN):Int) < ((ale.length:Int):Int):=oD;first|exact h_|(have e_:=(Kd.alw ald.out).1;omega)|simpa only [Aa.out,List.length_set] using h_)
      obtain ⟨akn,ag4,aax,Z1,QA,RG,Qe⟩:=Kd.Ai ald.out [] ((rd (ah aa aW) bN):Int) oD (by first|exact abU|(have e_:=(Kd.alw ald.out).1;omega))
      obtain ⟨ak0,rfl,CL⟩:=Z1
      have Gb:=QA 0 _ rfl
      rw [Nat.add_zero,show ((Kd.slice 2 (Kd.int .i64))).sz=1 from rfl,Nat.mul_one] at Gb
      replace Gb:=Option.some.inj (Gb.symm.trans IC.out)
      subst Gb
      clear QA aax
      replace CL:=(show Kd.R (Kd.int .i64) 2 _ _ _ _ (ah alO (rd (ah aa aW) bN)) from CL)
      have al6:=Kd.kW CL ((rd (ah aa aW) (iV)):Int) (wrap64 ((rd (ah alO (rd (ah aa aW) bN)) (rd (ah aa aW) (iV))) - 1))
      have VE:=k0 (am6 al6.2 IC.out (am7 (RG _ (CL.1 _ rfl)).2))
      rw [← anq.out] at al6
      have agi:=k0 al6.1
      have IA:=Qe al6.2 (fun k_ e_=>by injection e_ with e_;subst e_;exact CL.1 _ rfl) (x':=wk) (Kd.rJ al6.1)
      rw [← IW.out] at IA
      have NH:=k0 IA
      clear al6 IA Qe RG
      refine lU (n:=17) (S:=fun w'=>w'.cell? (gA.add (bN).toNat)=some (.int .i64 (rd (ah aa aW) bN))∧w'.cell? (lZ.add ((rd (ah aa aW) bN)).toNat)=some (.slice (some ⟨PR,0,none⟩) (ah alO (rd (ah aa aW) bN)).length Xt)∧w'.cell? (gA.add ((iV)).toNat)=some (.int .i64 (rd (ah aa aW) (iV)))∧w'.cell? ⟨PR,((rd (ah aa aW) (iV))).toNat,none⟩=some (.int .i64 (rd (ah alO (rd (ah aa aW) bN)) (rd (ah aa aW) (iV))))) (ds:=[16]) (ba 17 0) (by kernel_rfl) rfl rfl ⟨(hbc HB ab5),tC,(hbc HB Bj),mJ⟩ (fun hHeld=>?_);refine pW cz.Ma cz.I9 (fun ay cZ=>?_)
      generalize uR.drew=w33 at ald ag HB UW E3 Io NH Iq IC VE aa7 Gh tC l_ mJ ab_ hHeld ⊢
      refine pu 0 (some 44) (ba 17 1) ay (h:=?_)
      refine pu 1 (some 45) (ba 17 3) ay (h:=?_)
      refine pu 2 (some 46) (ba 17 7) ay (h:=?_)
      refine pu 3 (some 47) (ba 17 15) ay (h:=?_)
      refine pu 7 (some 51) (ba 17 143) ay (h:=?_)
      refine pu 8 (some 52) (ba 17 399) ay (h:=?_)
      refine pu 9 (some 53) (ba 17 911) ay (h:=?_)
      refine pu 10 (some 54) (ba 17 1935) ay (h:=?_)
      refine ta 4 (some 48) (ba 17 1951) ay cZ hHeld (hy:=Or.inl ⟨by rfl,by rintro w' ⟨s0,s1,s2,s3⟩;go_simp;with_reducible rfl⟩) (h:=?_)
      refine pu 5 (some 49) (ba 17 1983) ay (h:=?_)
      refine ta 6 (some 50) (ba 17 2047) ay cZ hHeld (hy:=Or.inl ⟨by rfl,by rintro w' ⟨s0,s1,s2,s3⟩;go_simp;with_reducible rfl⟩) (h:=?_)
      refine ta 11 (some 55) (ba 17 4095) ay cZ hHeld (hy:=Or.inl ⟨by rfl,by rintro w' ⟨s0,s1,s2,s3⟩;go_simp;with_reducible rfl⟩) (h:=?_)
      refine pu 12 (some 56) (ba 17 8191) ay (h:=?_)
      refine ta 13 (some 57) (ba 17 16383) ay cZ hHeld (hy:=Or.inl ⟨by rfl,by rintro w' ⟨s0,s1,s2,s3⟩;go_simp;with_reducible rfl⟩) (h:=?_)
      refine pu 14 (some 58) (ba 17 32767) ay (h:=?_)
      refine pu 15 (some 59) (ba 17 65535) ay (h:=?_)
      refine qE (i:=16) (N:=none) (ba 17 131071) rfl rfl (kg ay.out (by kernel_rfl)) (by decide) (fun K hK=>?_)
      refine pV (w1:=?_) (by rfl) rfl ?_ ?_
      rotate_left;· go_simp;rfl
      refine hK.out _ _ ?_
      clear hK K
      refine lQ (pN ay.out (by kernel_rfl)) ?_
      try go_wp2
      first|go_roundg k2|(simp only [← jG];go_roundg k2)
      case measure=>have:=alj.out;have:=bB.out;omega
      case rel=>exact ⟨(anx),(wrap64 (bN+1)),rs,(by first|exact H'|(rw [jG];exact H')),⟨by have:=alj.out;have:=bB.out;omega⟩,⟨aS (NH.out)⟩,⟨by (with_reducible repeat (first|refine eg ?_ _|refine cw ?_|refine dV ?_ _));refine fW ?_ (by have h_:=Kd.gY E3.out ag.out (by decide);intro e_;exact h_ (by rw [e_];rfl)) _;exact bk⟩,⟨by repeat (first|(with_reducible first|exact HB.out|apply dh|apply ek|apply cP|refine dJ ?_ UN.out|refine dJ ?_ eB.out)|exact HB.out)⟩⟩
   rw [if_pos c12] at H
   have rN:((rd (ah aa aW) 0) == (rd (ah aa aW) 1))=true:=beq_iff_eq.mpr c12
   have Av:((rd (ah aa aW) 0) != (rd (ah aa aW) 1))=false:=bne_eq_false_iff_eq.mpr c12
   clear c12
   have H':=k0 H
   clear H
   have alz:0≤(aW:Int):=oD
   have cV:aW < (aa.length:Int):=oD
   obtain ⟨kG,BL,Ck,e105,dW,qw,qu⟩:=cX bZ.out aW alz cV
   cases e105
   replace dW:=hbc HB dW
   have p_:=k0 qu
   have EW:=k0 qw
   clear qu qw
   replace alz:=eq_true alz
   replace cV:=eq_true cV
   try go_wp2
   replace ald:=k0 (Kd.eW ald.out);replace ag:=k0 (cw ag.out);replace HB:=k0 (cP HB.out)
   have dM:0≤(0:Int):=(by omega)
   have dD:0 < ((ah aa aW).length:Int):=oD
   obtain ⟨gA,e106,dA⟩:=Kd.bJ p_.out 0 dM dD
   have tu:=dA
   (try rw [show ((0:Int)).toNat=0 from rfl] at tu)
   (try rw [show 0 * 1=0 from rfl] at tu)
   (try rw [Addr.add_zero'] at tu)
   cases e106
   have Bu:(0 < (ah aa aW).length)=True:=eq_true (by omega)
   (try rw [show ((0:Int)).toNat=0 from rfl] at dA)
   (try rw [Addr.add_zero'] at dA)
   replace dA:=hbc HB dA
   replace dM:=eq_true dM
   replace dD:=eq_true dD
   have gi:0≤(1:Int):=(by omega)
   have gl:1 < ((ah aa aW).length:Int):=oD
   obtain ⟨pH,e107,fN⟩:=Kd.bJ p_.out 1 gi gl
   have tv:=fN
   (try rw [show ((1:Int)).toNat=1 from rfl] at tv)
   (try rw [show 1 * 1=1 from rfl] at tv)
   (try simp only [Nat.reduceMul,Nat.reduceEqDiff,Go.Addr.add,↓reduceIte] at tv)
   obtain rfl:gA=pH:=(by injection e107)
   (try simp only [show (1:Int).toNat=1 from rfl,Nat.reduceMul,Nat.reduceEqDiff,Go.Addr.add,↓reduceIte] at fN)
   have aec:(1 < (ah aa aW).length)=True:=eq_true (by omega)
   (try rw [show ((1:Int)).toNat=1 from rfl] at fN)
   replace fN:=hbc HB fN
   replace gi:=eq_true gi
   replace gl:=eq_true gl
   refine lU (n:=7) (S:=fun w'=>w'.cell? gA=some (.int .i64 (rd (ah aa aW) 0))∧w'.cell? ⟨gA.block,gA.off+1,none⟩=some (.int .i64 (rd (ah aa aW) 1))) (ds:=[]) (ba 7 0) (by kernel_rfl) rfl rfl ⟨(hbc HB tu),(hbc HB tv)⟩ (fun hHeld=>?_)
   generalize wr.drew=pq at ald ag HB dA fN hHeld ⊢
   refine mM (i:=0) (N:=some 17) (v:=?_) (a':=?_) (ba 7 1) rfl rfl (by kernel_rfl) (fun _ _ _ h=>h) (Or.inl ⟨by rfl,?_⟩) ?_ ?_
   rotate_left;· intro w';go_simp;with_reducible rfl
   rotate_left;· simp only [Act.put,zI,zZ,zS,cl,cv];rfl
   refine mM (i:=1) (N:=some 18) (v:=?_) (a':=?_) (ba 7 3) rfl rfl (by kernel_rfl) (fun _ _ _ h=>h) (Or.inl ⟨by rfl,?_⟩) ?_ ?_
   rotate_left;· intro w';go_simp;with_reducible rfl
   rotate_left;· simp only [Act.put,zI,zZ,zS,cl,cv];rfl
   refine mM (i:=3) (N:=some 20) (v:=?_) (a':=?_) (ba 7 11) rfl rfl (by kernel_rfl) (fun _ _ _ h=>h) (Or.inl ⟨by rfl,?_⟩) ?_ ?_
   rotate_left;· intro w';go_simp;with_reducible rfl
   rotate_left;· simp only [Act.put,zI,zZ,zS,cl,cv];rfl
   refine mM (i:=4) (N:=some 21) (v:=?_) (a':=?_) (ba 7 27) rfl rfl (by kernel_rfl) (fun _ _ _ h=>h) (Or.inl ⟨by rfl,?_⟩) ?_ ?_
   rotate_left;· intro w';go_simp;with_reducible rfl
   rotate_left;· simp only [Act.put,zI,zZ,zS,cl,cv];rfl
   refine nv (i:=2) (N:=some 19) (v:=?_) (a':=?_) (ba 7 31) rfl rfl (by kernel_rfl) (fun _ _ _ h=>h) (Or.inl ⟨by rfl,?_⟩) hHeld ?_ ?_
   rotate_left;· rintro w' ⟨s0,s1⟩;go_simp;with_reducible rfl
   rotate_left;· simp only [Act.put,zI,zZ,zS,cl,cv];rfl
   refine nv (i:=5) (N:=some 22) (v:=?_) (a':=?_) (ba 7 63) rfl rfl (by kernel_rfl) (fun _ _ _ h=>h) (Or.inl ⟨by rfl,?_⟩) hHeld ?_ ?_
   rotate_left;· rintro w' ⟨s0,s1⟩;go_simp;with_reducible rfl
   rotate_left;· simp only [Act.put,zI,zZ,zS,cl,cv];rfl
   refine mM (i:=6) (N:=some 23) (v:=?_) (a':=?_) (ba 7 127) rfl rfl (by kernel_rfl) (fun _ _ _ h=>h) (Or.inl ⟨by rfl,?_⟩) ?_ ?_
   rotate_left;· intro w';go_simp;with_reducible rfl
   rotate_left;· simp only [Act.put,zI,zZ,zS,cl,cv];rfl
   refine lQ (by kernel_rfl) ?_
   try go_wp2
   first|go_roundg k1|(simp only [← jG];go_roundg k1)
   case measure=>have:=alj.out;omega
   case rel=>exact ⟨(bC),(wrap64 (aW+1)),rs,(by first|exact H'|(rw [jG];exact H')),⟨by have:=alj.out;omega⟩,⟨aS (ald.out)⟩,⟨bk⟩,⟨bl⟩⟩
end Go.Proofs.Ytoebojnhchocaaa.D
/- Set with little white space, by a program. -/
