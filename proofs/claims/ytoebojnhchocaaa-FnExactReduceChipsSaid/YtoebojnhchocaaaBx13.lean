/- The functions that one law reaches, each as a Lean function, and that Go's call comes to what it says. Condition of each: that the Lean function answers (is not none). -/
import Derived.Test.YtoebojnhchocaaaBx0
import Derived.Test.YtoebojnhchocaaaBx12
namespace Go.Proofs.Ytoebojnhchocaaa.B
open Go.RowKit Go.Proofs.bC.eg Go.Proofs.bC.iZ Go.Proofs.bC.jr
attribute [local go_sem] max2_int min2_int max_two min_two max_three min_three max_four min_four   -- for this text's walks alone
set_option linter.unusedVariables false
set_option linter.unusedSimpArgs false
/-! ### F195: function 195 -/
mutual
def cD.l0 : Nat → List (List Int) → List (List Int) → Int → Int → Option ((List (List Int)))
 | 0,_,_,_,_=>none
 | k+1,x3,fF,gN,jm=>if jm < gN then (if 0≤jm then (if jm < (fF.length:Int) then (if 0 < ((ag fF jm).length:Int) then (if 1 < ((ag fF jm).length:Int) then (if (rd (ag fF jm) 0)=(rd (ag fF jm) 1) then (cD.l0 k x3 fF gN (wrap64 (jm+1))) else (cD.l1 k x3 (ag fF jm) fF gN jm ((ag fF jm).length:Int) 0)) else (none)) else (none)) else (none)) else (none)) else (some x3)
def cD.l1 : Nat → List (List Int) → List Int → List (List Int) → Int → Int → Int → Int → Option ((List (List Int)))
 | 0,_,_,_,_,_,_,_=>none
 | k+1,x3,x5,fF,gN,jm,nZ,f_=>if f_ < nZ then (if 0≤f_ then (if f_ < (x5.length:Int) then (if 0≤(rd x5 f_) then (if (rd x5 f_) < (x3.length:Int) then (if (rd x5 f_) < ((ag x3 (rd x5 f_)).length:Int) then ((some (x3.set ((rd x5 f_):Int).toNat ((ag x3 (rd x5 f_)).set ((rd x5 f_):Int).toNat (wrap64 ((rd (ag x3 (rd x5 f_)) (rd x5 f_))+1))):List (List Int))).bind fun iT=>(if 0≤(wrap64 (1 - f_)) then (if (wrap64 (1 - f_)) < (x5.length:Int) then (if 0≤(rd x5 (wrap64 (1 - f_))) then (if (rd x5 (wrap64 (1 - f_))) < ((ag iT (rd x5 f_)).length:Int) then (cD.l1 k (iT.set ((rd x5 f_):Int).toNat ((ag iT (rd x5 f_)).set ((rd x5 (wrap64 (1 - f_))):Int).toNat (wrap64 ((rd (ag iT (rd x5 f_)) (rd x5 (wrap64 (1 - f_)))) - 1)))) x5 fF gN jm nZ (wrap64 (f_+1))) else (none)) else (none)) else (none)) else (none))) else (none)) else (none)) else (none)) else (none)) else (none)) else (cD.l0 k x3 fF gN (wrap64 (jm+1)))
end
def cD.f (k:Nat) (af:Int) (aa:List (List Int)):Option ((List (List Int))):=(iw.f k af).bind fun t102=>(cD.l0 k t102 aa (aa.length:Int) 0)
theorem cD.cj : ∀ k, (∀ y0 y1 y2 y3, aj (cD.l0 k y0 y1 y2 y3) (cD.l0 (k + 1) y0 y1 y2 y3)) ∧ (∀ y0 y1 y2 y3 y4 y5 y6, aj (cD.l1 k y0 y1 y2 y3 y4 y5 y6) (cD.l1 (k + 1) y0 y1 y2 y3 y4 y5 y6))
 | 0=>⟨fun _ _ _ _ r h=>by simp [cD.l0] at h,fun _ _ _ _ _ _ _ r h=>by simp [cD.l1] at h⟩
 | k+1=>by
  obtain ⟨ali,ih1⟩:=cD.cj k
  refine ⟨?_, ?_⟩ <;> intros <;> (first | unfold cD.l0 | unfold cD.l1) <;> repeat' first
   | (with_reducible first|exact ali _ _ _ _|exact ih1 _ _ _ _ _ _ _|exact iw.mono _ _|exact aj.refl _|exact aj.none _|refine aj.ite ?_ ?_|refine aj.bind ?_ (fun _=>?_))
   | exact ali _ _ _ _|exact ih1 _ _ _ _ _ _ _|exact iw.mono _ _|exact aj.none _|refine aj.ite ?_ ?_|refine aj.bind ?_ (fun _=>?_)
theorem cD.mono:∀ a0 a1 k,aj (cD.f k a0 a1) (cD.f (k+1) a0 a1):=by
 intro a0 a1 k
 obtain ⟨ali,ih1⟩:=cD.cj k
 unfold cD.f
 repeat' first
  | (with_reducible first|exact ali _ _ _ _|exact ih1 _ _ _ _ _ _ _|exact iw.mono _ _|exact aj.refl _|exact aj.none _|refine aj.ite ?_ ?_|refine aj.bind ?_ (fun _=>?_))
  | exact ali _ _ _ _|exact ih1 _ _ _ _ _ _ _|exact iw.mono _ _|exact aj.none _|refine aj.ite ?_ ?_|refine aj.bind ?_ (fun _=>?_)
def cD.T9:Bool × List (List Nat × List Nat):=(true,[([],[]),([],[]),([],[]),([1,2],[1,2]),([3],[3]),([0,4],[0,4]),([5],[5]),([],[]),([],[]),([7,8],[7,8]),([9],[9]),([6,10],[6,10]),([11],[11]),([12],[12]),([6,10,0,1,2,3,4,5,6,7,8,9,10,11,12,13],[6,10]),([14,13,0,1,2,3,4,5,6,7,8,9,10,11,12,13],[13,14])])
def cD.B9:List Nat:=[0,0,0,6,14,31,63,0,0,384,896,2047,4095,8191,16383,32767]
theorem cD.L8:gY .any (opsOf Try.f195 9)=cD.T9:=by kernel_rfl
theorem cD.I9:nV cD.T9.2 cD.B9=true:=by kernel_rfl
def cD.ant:Bool × List (List Nat × List Nat):=(true,[([],[]),([],[]),([],[]),([1,2],[1,2]),([3],[3]),([0,4],[0,4]),([5],[5]),([],[]),([],[]),([8],[8]),([7,9],[7,9]),([10],[10]),([6,11],[6,11]),([12],[12]),([13],[13]),([6,11,0,1,2,3,4,5,6,7,8,9,10,11,12,13,14],[6,11]),([15,14,0,1,2,3,4,5,6,7,8,9,10,11,12,13,14],[14,15])])
def cD.Hl:List Nat:=[0,0,0,6,14,31,63,0,0,256,896,1920,4095,8191,16383,32767,65535]
theorem cD.L7:gY .any (opsOf Try.f195 10)=cD.ant:=by kernel_rfl
theorem cD.I8:nV cD.ant.2 cD.Hl=true:=by kernel_rfl
set_option maxHeartbeats 8000000 in
set_option maxRecDepth 100000 in
theorem cD.calls (k : Nat) (af : Int) (au : Option Addr) (aq : Nat) (aa : List (List Int)) (r : List (List Int)) (w : World) (cl : Kd.C (Kd.slice 2 (Kd.int .i64)) w au aa.length aa) (cn : aa.length ≤ aq) (h : cD.f k af aa = some r) :
  Calls Try.prog 195 #[.agg #[.int .i64 af,.slice au aa.length aq]] w fun e w'=>∃ cF:Value,e=.returned (cF)∧Kd.S (Kd.slice 2 (Kd.int .i64)) 28 w' w.heap.size (fun _=>True) cF r∧Below w.heap.size w w':=by
 have kF:=Try.underlying31
 have alx:=k0 cl
 have di:=k0 cn
 clear cl cn
 have HB:=k0 (Below.refl w.heap.size w)
 have H:((iw.f k af).bind fun t102=>(cD.l0 k t102 aa (aa.length:Int) 0))=some r:=h
 clear h
 replace H:=Option.bind_eq_some_iff.mp H
 obtain ⟨t102,mH,H⟩:=H
 replace H:(cD.l0 k t102 aa (aa.length:Int) 0)=some r:=H
 have A2:=k0 mH
 clear mH
 have H':=k0 H
 clear H
 go_enter Try.func195,Try.ntmps195
 go_wp2_with (first|((with_reducible refine cy (N:=1) rfl ?_);refine ec ?hg (N:=1) ?hd (cs:=#[.int .i64 af,.slice au aa.length aq]) (t:=31) ?hr ?_;(case hd=>rfl);(case hg=>rfl);(case hr=>first|(go_simp;done)|(go_simp;rfl));intro ai hg w3 aJ hb;have ah:=k0 (aJ);have cr:=k0 ((by rw [hg];exact (aU bl):w.heap.size≤ai));have eL:=cr;replace HB:=k0 (aG bl hb);clear hb aJ hg;have xQ:w3.cell? ⟨ai,0,none⟩=some (.int .i64 af):=(av ah.out 0).trans rfl;have xR:w3.cell? ⟨ai,1,none⟩=some (.slice au aa.length aq):=(av ah.out 1).trans rfl;have xW:=ale ah.out 0;have xX:=ale ah.out 1)|((with_reducible refine fo (f:=204) rfl ?_);refine fq (some 9) rfl rfl Try.func204 (by kernel_rfl) rfl #[.int .i64 af] rfl gm ?_;(with_reducible refine (iw.calls k af t102 _ A2.out).mono ?_);rintro e w5 ⟨dw,rfl,aY,hb⟩;refine ⟨_,rfl,?_⟩;have a_:=k0 (Kd.pU aY (aU bl));replace ah:=k0 (alg (g:=ai) (o:=sO af au aa aq 31) bk hb);replace HB:=k0 (aG bl hb);(try clear hb);(try clear aY);have amE:w5.cell? ⟨ai,0,none⟩=some (.int .i64 af):=(av ah.out 0).trans rfl;have wu:w5.cell? ⟨ai,1,none⟩=some (.slice au aa.length aq):=(av ah.out 1).trans rfl;have wE:=ale ah.out 0;have wF:=ale ah.out 1))
 go_loopg [13] k (fun kq Ej w'=>∃ (bE:List (List Int)) (aT:Int),Ej=.int .i64 aT∧ak (cD.l0 kq bE aa (aa.length:Int) aT=some r)∧ak (kq≤k)∧ak (Kd.S (Kd.slice 2 (Kd.int .i64)) 28 w' w.heap.size (fun _=>True) dw bE)∧ak (w'.heap[ai]?=some (sO af au aa aq 31))∧ak (Below w.heap.size w w'))
 case atStart=>exact ⟨(t102),(0),rs,H',⟨Nat.le_refl _⟩,⟨aS (a_.out)⟩,⟨bk⟩,⟨bl⟩⟩
 case round =>
  clear H'
  (try clear xQ);(try clear xR);(try clear amE);(try clear wu);(try clear xW);(try clear xX);(try clear wE);(try clear wF)
  obtain ⟨bE,aT,rfl,HA,aM,az,ah,HB⟩:=hrel
  cases gk with
  | zero=>exact absurd HA.out (by simp [cD.l0])
  | succ k1 =>
   have H:=HA.out
   clear HA
   simp only [cD.l0] at H
   by_cases c7:aT < (aa.length:Int)
   case neg =>
    rw [if_neg c7] at H
    have iz:decide (aT < (aa.length:Int))=false:=decide_eq_false c7
    clear c7
    obtain rfl:=Option.some.inj H
    go_wp2
    go_ret
    exact ⟨_,by first|rfl|(simp [bA,bB]<;>rfl)|(simp [*,bA,bB]<;>rfl),by (with_reducible repeat (first|apply Kd.alN|apply Kd.ig|apply Kd.fI));exact az.out,bl⟩
   rw [if_pos c7] at H
   have iz:=decide_eq_true c7
   clear c7
   replace H:=iS H;obtain ⟨c8,H⟩:=H
   have jw:=decide_eq_true c8
   clear c8
   replace H:=iS H;obtain ⟨c9,H⟩:=H
   have mg:=decide_eq_true c9
   clear c9
   replace H:=iS H;obtain ⟨c10,H⟩:=H
   have lA:=decide_eq_true c10
   have vQ:decide (0 < (ag aa aT).length)=true:=decide_eq_true (by omega)
   clear c10
   replace H:=iS H;obtain ⟨c11,H⟩:=H
   have l_:=decide_eq_true c11
   have amo:decide (1 < (ag aa aT).length)=true:=decide_eq_true (by omega)
   clear c11
   by_cases c12:(rd (ag aa aT) 0)=(rd (ag aa aT) 1)
   case neg =>
    rw [if_neg c12] at H
    have r7:((rd (ag aa aT) 0) == (rd (ag aa aT) 1))=false:=beq_eq_false_iff_ne.mpr c12
    have AM:((rd (ag aa aT) 0) != (rd (ag aa aT) 1))=true:=bne_iff_ne.mpr c12
    have H':=k0 H
    clear H
    have dg:0≤(aT:Int):=oD
    have cX:aT < (aa.length:Int):=oD
    obtain ⟨kz,anp,Ci,e105,dX,qH,qE⟩:=cZ alx.out aT dg cX
    cases e105
    replace dX:=hbc HB dX
    have qq:=k0 qE
    have anB:=k0 qH
    clear qE qH
    replace dg:=eq_true dg
    replace cX:=eq_true cX
    try go_wp2
    replace az:=k0 (Kd.fI az.out);replace ah:=k0 (bJ ah.out);replace HB:=k0 (bH HB.out)
    have dK:0≤(0:Int):=(by omega)
    have dH:0 < ((ag aa aT).length:Int):=oD
    obtain ⟨alH,e106,dD⟩:=Kd.bS qq.out 0 dK dH
    have tZ:=dD
    (try rw [show ((0:Int)).toNat=0 from rfl] at tZ)
    (try rw [show 0 * 1=0 from rfl] at tZ)
    (try rw [Addr.add_zero'] at tZ)
    cases e106
    have Bv:(0 < (ag aa aT).length)=True:=eq_true (by omega)
    (try rw [show ((0:Int)).toNat=0 from rfl] at dD)
    (try rw [Addr.add_zero'] at dD)
    replace dD:=hbc HB dD
    replace dK:=eq_true dK
    replace dH:=eq_true dH
    have gv:0≤(1:Int):=(by omega)
    have gx:1 < ((ag aa aT).length:Int):=oD
    obtain ⟨pV,e107,fX⟩:=Kd.bS qq.out 1 gv gx
    have t_:=fX
    (try rw [show ((1:Int)).toNat=1 from rfl] at t_)
    (try rw [show 1 * 1=1 from rfl] at t_)
    (try simp only [Nat.reduceMul,Nat.reduceEqDiff,Go.Addr.add,↓reduceIte] at t_)
    obtain rfl:alH=pV:=(by injection e107)
    (try simp only [show (1:Int).toNat=1 from rfl,Nat.reduceMul,Nat.reduceEqDiff,Go.Addr.add,↓reduceIte] at fX)
    have ad8:(1 < (ag aa aT).length)=True:=eq_true (by omega)
    (try rw [show ((1:Int)).toNat=1 from rfl] at fX)
    replace fX:=hbc HB fX
    replace gv:=eq_true gv
    replace gx:=eq_true gx
    refine nT (n:=7) (S:=fun w'=>w'.cell? alH=some (.int .i64 (rd (ag aa aT) 0))∧w'.cell? ⟨alH.block,alH.off+1,none⟩=some (.int .i64 (rd (ag aa aT) 1))) (ds:=[]) (ba 7 0) (by kernel_rfl) rfl rfl ⟨(hbc HB tZ),(hbc HB t_)⟩ (fun hHeld=>?_)
    generalize wr.drew=z7 at az ah HB dD fX hHeld ⊢
    refine nQ (i:=0) (N:=some 17) (v:=?_) (a':=?_) (ba 7 1) rfl rfl (by kernel_rfl) (fun _ _ _ h=>h) (Or.inl ⟨by rfl,?_⟩) ?_ ?_
    rotate_left;· intro w';go_simp;with_reducible rfl
    rotate_left;· simp only [Act.put,zI,zZ,zS,cQ,dr];rfl
    refine nQ (i:=1) (N:=some 18) (v:=?_) (a':=?_) (ba 7 3) rfl rfl (by kernel_rfl) (fun _ _ _ h=>h) (Or.inl ⟨by rfl,?_⟩) ?_ ?_
    rotate_left;· intro w';go_simp;with_reducible rfl
    rotate_left;· simp only [Act.put,zI,zZ,zS,cQ,dr];rfl
    refine nQ (i:=3) (N:=some 20) (v:=?_) (a':=?_) (ba 7 11) rfl rfl (by kernel_rfl) (fun _ _ _ h=>h) (Or.inl ⟨by rfl,?_⟩) ?_ ?_
    rotate_left;· intro w';go_simp;with_reducible rfl
    rotate_left;· simp only [Act.put,zI,zZ,zS,cQ,dr];rfl
    refine nQ (i:=4) (N:=some 21) (v:=?_) (a':=?_) (ba 7 27) rfl rfl (by kernel_rfl) (fun _ _ _ h=>h) (Or.inl ⟨by rfl,?_⟩) ?_ ?_
    rotate_left;· intro w';go_simp;with_reducible rfl
    rotate_left;· simp only [Act.put,zI,zZ,zS,cQ,dr];rfl
    refine qb (i:=2) (N:=some 19) (v:=?_) (a':=?_) (ba 7 31) rfl rfl (by kernel_rfl) (fun _ _ _ h=>h) (Or.inl ⟨by rfl,?_⟩) hHeld ?_ ?_
    rotate_left;· rintro w' ⟨s0,s1⟩;go_simp;with_reducible rfl
    rotate_left;· simp only [Act.put,zI,zZ,zS,cQ,dr];rfl
    refine qb (i:=5) (N:=some 22) (v:=?_) (a':=?_) (ba 7 63) rfl rfl (by kernel_rfl) (fun _ _ _ h=>h) (Or.inl ⟨by rfl,?_⟩) hHeld ?_ ?_
    rotate_left;· rintro w' ⟨s0,s1⟩;go_simp;with_reducible rfl
    rotate_left;· simp only [Act.put,zI,zZ,zS,cQ,dr];rfl
    refine nQ (i:=6) (N:=some 23) (v:=?_) (a':=?_) (ba 7 127) rfl rfl (by kernel_rfl) (fun _ _ _ h=>h) (Or.inl ⟨by rfl,?_⟩) ?_ ?_
    rotate_left;· intro w';go_simp;with_reducible rfl
    rotate_left;· simp only [Act.put,zI,zZ,zS,cQ,dr];rfl
    refine nH (by kernel_rfl) ?_
    try go_wp2
    go_loopg [26] k1 (fun kq v26 w'=>∃ (ald:List (List Int)) (bK:Int),v26=.int .i64 bK∧ak (cD.l1 kq ald (ag aa aT) aa (aa.length:Int) aT ((ag aa aT).length:Int) bK=some r)∧ak (kq≤k1)∧ak (Kd.S (Kd.slice 2 (Kd.int .i64)) 28 w' w.heap.size (fun _=>True) dw ald)∧ak (w'.heap[ai]?=some (sO af (some kz) aa aq 31))∧ak (Below w.heap.size w w'))
    case atStart=>exact ⟨(bE),(0),rs,H',⟨Nat.le_refl _⟩,⟨aS (az.out)⟩,⟨bk⟩,⟨bl⟩⟩
    case round =>
     clear H'
     (try clear c7);(try clear iz);(try clear c8);(try clear jw);(try clear c9);(try clear mg);(try clear c10);(try clear lA);(try clear vQ);(try clear c11);(try clear l_);(try clear amo);(try clear c12);(try clear r7);(try clear AM);(try clear xQ);(try clear xR);(try clear amE);(try clear wu);(try clear xW);(try clear xX);(try clear wE);(try clear wF);(try clear dX);(try clear dD);(try clear fX);(try clear dg);(try clear dK);(try clear gv);(try clear cX);(try clear dH);(try clear gx)
     obtain ⟨ald,bK,rfl,HA,bp,az,ah,HB⟩:=hrel
     cases gk with
     | zero=>exact absurd HA.out (by simp [cD.l1])
     | succ k2 =>
      have H:=HA.out
      clear HA
      simp only [cD.l1] at H
      by_cases c15:bK < ((ag aa aT).length:Int)
      case neg =>
       rw [if_neg c15] at H
       have kV:decide (bK < ((ag aa aT).length:Int))=false:=decide_eq_false c15
       clear c15
       have H':=k0 H
       clear H
       go_wp2
       first|go_roundg k2|(simp only [← jN];go_roundg k2)
       case measure=>have:=aM.out;have:=bp.out;omega
       case rel=>exact ⟨(ald),(wrap64 (aT+1)),rs,(by first|exact H'|(rw [jN];exact H')),⟨by have:=aM.out;have:=bp.out;omega⟩,⟨aS (az.out)⟩,⟨bk⟩,⟨bl⟩⟩
      rw [if_pos c15] at H
      have kV:=decide_eq_true c15
      clear c15
      replace H:=iS H;obtain ⟨c16,H⟩:=H
      have rm:=decide_eq_true c16
      clear c16
      replace H:=iS H;obtain ⟨c17,H⟩:=H
      have pF:=decide_eq_true c17
      clear c17
      replace H:=iS H;obtain ⟨c18,H⟩:=H
      have uP:=decide_eq_true c18
      clear c18
      replace H:=iS H;obtain ⟨c19,H⟩:=H
      have mb:=decide_eq_true c19
      clear c19
      replace H:=iS H;obtain ⟨c20,H⟩:=H
      have ot:=decide_eq_true c20
      clear c20
      obtain ⟨nh,ud⟩:∃ y_:List Int,y_=((ag ald (rd (ag aa aT) bK)).set ((rd (ag aa aT) bK):Int).toNat (wrap64 ((rd (ag ald (rd (ag aa aT) bK)) (rd (ag aa aT) bK))+1))):=⟨_,rfl⟩
      replace H:((some (ald.set ((rd (ag aa aT) bK):Int).toNat nh:List (List Int))).bind fun iT=>(if 0≤(wrap64 (1 - bK)) then (if (wrap64 (1 - bK)) < ((ag aa aT).length:Int) then (if 0≤(rd (ag aa aT) (wrap64 (1 - bK))) then (if (rd (ag aa aT) (wrap64 (1 - bK))) < ((ag iT (rd (ag aa aT) bK)).length:Int) then (cD.l1 k2 (iT.set ((rd (ag aa aT) bK):Int).toNat ((ag iT (rd (ag aa aT) bK)).set ((rd (ag aa aT) (wrap64 (1 - bK))):Int).toNat (wrap64 ((rd (ag iT (rd (ag aa aT) bK)) (rd (ag aa aT) (wrap64 (1 - bK)))) - 1)))) (ag aa aT) aa (aa.length:Int) aT ((ag aa aT).length:Int) (wrap64 (bK+1))) else (none)) else (none)) else (none)) else (none)))=some r:=by first|(rw [ud];with_reducible exact H)|(have ax:=(Option.bind_some _ _).symm.trans H;rw [ud];with_reducible exact ax)|(have ax:=(Option.bind_some _ _).symm.trans H;with_reducible exact ax)|with_reducible exact H|(rw [ud];exact H)|exact H
      have Au:=k0 ud
      clear ud
      obtain ⟨iT,DF⟩:∃ y_:List (List Int),y_=(ald.set ((rd (ag aa aT) bK):Int).toNat nh):=⟨_,rfl⟩
      replace H:(if 0≤(wrap64 (1 - bK)) then (if (wrap64 (1 - bK)) < ((ag aa aT).length:Int) then (if 0≤(rd (ag aa aT) (wrap64 (1 - bK))) then (if (rd (ag aa aT) (wrap64 (1 - bK))) < ((ag iT (rd (ag aa aT) bK)).length:Int) then (cD.l1 k2 (iT.set ((rd (ag aa aT) bK):Int).toNat ((ag iT (rd (ag aa aT) bK)).set ((rd (ag aa aT) (wrap64 (1 - bK))):Int).toNat (wrap64 ((rd (ag iT (rd (ag aa aT) bK)) (rd (ag aa aT) (wrap64 (1 - bK)))) - 1)))) (ag aa aT) aa (aa.length:Int) aT ((ag aa aT).length:Int) (wrap64 (bK+1))) else (none)) else (none)) else (none)) else (none))=some r:=by first|(rw [DF];with_reducible exact H)|(have ax:=(Option.bind_some _ _).symm.trans H;rw [DF];with_reducible exact ax)|(have ax:=(Option.bind_some _ _).symm.trans H;with_reducible exact ax)|with_reducible exact H|(rw [DF];exact H)|exact H
      have IL:=k0 DF
      clear DF
      obtain ⟨jf,jN⟩:∃ j_:Int,(wrap64 (1 - bK))=j_:=⟨_,rfl⟩
      replace H:(if 0≤(jf) then (if (jf) < ((ag aa aT).length:Int) then (if 0≤(rd (ag aa aT) (jf)) then (if (rd (ag aa aT) (jf)) < ((ag iT (rd (ag aa aT) bK)).length:Int) then (cD.l1 k2 (iT.set ((rd (ag aa aT) bK):Int).toNat ((ag iT (rd (ag aa aT) bK)).set ((rd (ag aa aT) (jf)):Int).toNat (wrap64 ((rd (ag iT (rd (ag aa aT) bK)) (rd (ag aa aT) (jf))) - 1)))) (ag aa aT) aa (aa.length:Int) aT ((ag aa aT).length:Int) (wrap64 (bK+1))) else (none)) else (none)) else (none)) else (none))=some r:=by first|(rw [jN] at H;exact H)|(simp only [jN] at H ⊢;exact H)
      have aiy:(IntKind.i64.wrap (1 - bK))=jf:=(cQ _).trans jN
      replace H:=iS H;obtain ⟨c23,H⟩:=H
      have r9:=decide_eq_true c23
      clear c23
      replace H:=iS H;obtain ⟨c24,H⟩:=H
      have uR:=decide_eq_true c24
      clear c24
      replace H:=iS H;obtain ⟨c25,H⟩:=H
      have vR:=decide_eq_true c25
      clear c25
      replace H:=iS H;obtain ⟨c26,H⟩:=H
      have xx:=decide_eq_true c26
      clear c26
      obtain ⟨BG,uf⟩:∃ y_:List Int,y_=((ag iT (rd (ag aa aT) bK)).set ((rd (ag aa aT) (jf)):Int).toNat (wrap64 ((rd (ag iT (rd (ag aa aT) bK)) (rd (ag aa aT) (jf))) - 1))):=⟨_,rfl⟩
      replace H:(cD.l1 k2 (iT.set ((rd (ag aa aT) bK):Int).toNat BG) (ag aa aT) aa (aa.length:Int) aT ((ag aa aT).length:Int) (wrap64 (bK+1)))=some r:=by first|(rw [uf];with_reducible exact H)|(have ax:=(Option.bind_some _ _).symm.trans H;rw [uf];with_reducible exact ax)|(have ax:=(Option.bind_some _ _).symm.trans H;with_reducible exact ax)|with_reducible exact H|(rw [uf];exact H)|exact H
      have IM:=k0 uf
      clear uf
      obtain ⟨Eu,ug⟩:∃ y_:List (List Int),y_=(iT.set ((rd (ag aa aT) bK):Int).toNat BG):=⟨_,rfl⟩
      replace H:(cD.l1 k2 Eu (ag aa aT) aa (aa.length:Int) aT ((ag aa aT).length:Int) (wrap64 (bK+1)))=some r:=by first|(rw [ug];with_reducible exact H)|(have ax:=(Option.bind_some _ _).symm.trans H;rw [ug];with_reducible exact ax)|(have ax:=(Option.bind_some _ _).symm.trans H;with_reducible exact ax)|with_reducible exact H|(rw [ug];exact H)|exact H
      have IP:=k0 ug
      clear ug
      have H':=k0 H
      clear H
      try go_wp2
      replace az:=k0 (Kd.fI az.out);replace ah:=k0 (bJ ah.out);replace HB:=k0 (bH HB.out)
      have ef:0≤(bK:Int):=oD
      have dS:bK < ((ag aa aT).length:Int):=oD
      obtain ⟨al1,e108,fu⟩:=Kd.bS qq.out bK ef dS
      have ab1:=fu
      obtain rfl:alH=al1:=(by injection e108)
      replace fu:=hbc HB fu
      replace ef:=eq_true ef
      replace dS:=eq_true dS
      obtain ⟨afH,Yl,O6⟩:=Kd.qx az.out
      (first|subst O6|(injection O6 with ox amt nI;have amu:=ox.symm;have amv:=nI.symm;clear ox amt nI;subst amu;subst amv))
      have eD:0≤((rd (ag aa aT) bK):Int):=oD
      have er:(rd (ag aa aT) bK) < (ald.length:Int):=oD
      obtain ⟨lK,Hg,Fk,e109,alI,tT,tL⟩:=cZ (Kd.ck az.out).2.2 (rd (ag aa aT) bK) eD er
      cases e109
      obtain ⟨OJ,CV,CM,xO⟩:=Kd.l6 az.out [] (rd (ag aa aT) bK) eD (by first|exact er|exact oD|(have e_:=(Kd.ck az.out).1;omega))
      obtain ⟨TF,rfl,th⟩:=CM
      have oF:=xO 0 _ rfl
      rw [Nat.add_zero,show ((Kd.slice 2 (Kd.int .i64))).sz=1 from rfl,Nat.mul_one] at oF
      replace oF:=Option.some.inj (oF.symm.trans alI)
      rw [oF] at th
      have vF:=k0 (show Kd.R (Kd.int .i64) 2 _ _ _ _ (ag ald (rd (ag aa aT) bK)) from th)
      clear oF th
      have rY:=k0 alI
      clear xO CV
      have om:=k0 tL
      have anL:=k0 tT
      clear tL tT
      replace eD:=eq_true eD
      replace er:=eq_true er
      have jE:0≤(bK:Int):=oD
      have jF:bK < ((ag aa aT).length:Int):=oD
      obtain ⟨lf,e110,kG⟩:=Kd.bS qq.out bK jE jF
      have Bl:=kG
      obtain rfl:alH=lf:=(by injection e110)
      replace kG:=hbc HB kG
      replace jE:=eq_true jE
      replace jF:=eq_true jF
      have gw:0≤((rd (ag aa aT) bK):Int):=oD
      have gy:(rd (ag aa aT) bK) < ((ag ald (rd (ag aa aT) bK)).length:Int):=oD
      obtain ⟨mP,e111,gX⟩:=Kd.bS (by repeat (first|(with_reducible exact om.out)|(with_reducible refine Kd.kM ?_ _)|(with_reducible refine Kd.alZ ?_ _)|(with_reducible refine Kd.j6 ?_)|exact om.out)) (rd (ag aa aT) bK) gw gy
      cases e111
      replace gw:=eq_true gw
      replace gy:=eq_true gy
      have uu:0≤((rd (ag aa aT) bK):Int):=oD
      have ux:((rd (ag aa aT) bK):Int) < (((ag ald (rd (ag aa aT) bK)).length:Int):Int):=oD
      obtain ⟨amw,yY,uS,xG,CG,OL,xb⟩:=Kd.kT vF.out (by omega)
      (first|cases uS|(injection uS with aW aly c_;(first|subst aW|(injection aW with aW;subst aW));subst c_;clear aly))
      (first|simp only [add_plain] at gX|skip)
      have BQ:=k0 xG
      have HF:=k0 xb
      clear xG CG xb
      (first|simp only [add_plain] at gX|skip)
      obtain ⟨KZ,Ku⟩:=Kd.js 0 vF.out ((rd (ag aa aT) bK):Int) uu ux
      replace uu:=eq_true uu
      replace ux:=eq_true ux
      have abS:((rd (ag aa aT) bK):Int) < (ald.length:Int):=(by have h_:((rd (ag aa aT) bK):Int) < ((ald.length:Int):Int):=oD;first|exact h_|(have e_:=(Kd.ck az.out).1;omega)|simpa only [List.length_set,List.length_set] using h_)
      obtain ⟨aki,ag5,aaK,aad,Qt,RI,P8⟩:=Kd.yN az.out [] ((rd (ag aa aT) bK):Int) oD (by first|exact abS|(have e_:=(Kd.ck az.out).1;omega))
      obtain ⟨akX,rfl,CD⟩:=aad
      have F8:=Qt 0 _ rfl
      rw [Nat.add_zero,show ((Kd.slice 2 (Kd.int .i64))).sz=1 from rfl,Nat.mul_one] at F8
      replace F8:=Option.some.inj (F8.symm.trans rY.out)
      subst F8
      clear Qt aaK
      replace CD:=(show Kd.R (Kd.int .i64) 2 _ _ _ _ (ag ald (rd (ag aa aT) bK)) from CD)
      have mJ:=Kd.kr CD ((rd (ag aa aT) bK):Int) (wrap64 ((rd (ag ald (rd (ag aa aT) bK)) (rd (ag aa aT) bK))+1))
      have VE:=k0 (AW mJ.2 rY.out (AX (RI _ (CD.1 _ rfl)).2))
      rw [← Au.out] at mJ
      have af8:=k0 mJ.1
      have Iq:=P8 mJ.2 (fun k_ e_=>by injection e_ with e_;subst e_;exact CD.1 _ rfl) (x':=nh) (Kd.amh mJ.1)
      rw [← IL.out] at Iq
      have Ie:=k0 Iq
      clear mJ Iq P8 RI
      refine nT (n:=16) (S:=fun w'=>w'.cell? (alH.add (bK).toNat)=some (.int .i64 (rd (ag aa aT) bK))∧w'.cell? (lK.add ((rd (ag aa aT) bK)).toNat)=some (.slice (some ⟨amw,0,none⟩) (ag ald (rd (ag aa aT) bK)).length Fk)∧w'.cell? (alH.add (bK).toNat)=some (.int .i64 (rd (ag aa aT) bK))∧w'.cell? ⟨amw,((rd (ag aa aT) bK)).toNat,none⟩=some (.int .i64 (rd (ag ald (rd (ag aa aT) bK)) (rd (ag aa aT) bK)))) (ds:=[15]) (ba 16 0) (by kernel_rfl) rfl rfl ⟨(hbc HB ab1),alI,(hbc HB Bl),gX⟩ (fun hHeld=>?_);refine rQ cD.L8 cD.I9 (fun alc dG=>?_)
      generalize wr.drew=oP at az ah HB HF vF Ie om rY VE Ku fu alI kG gX KZ hHeld ⊢
      refine pu 0 (some 29) (ba 16 1) alc (h:=?_)
      refine pu 1 (some 30) (ba 16 3) alc (h:=?_)
      refine pu 2 (some 31) (ba 16 7) alc (h:=?_)
      refine pu 3 (some 32) (ba 16 15) alc (h:=?_)
      refine pu 7 (some 36) (ba 16 143) alc (h:=?_)
      refine pu 8 (some 37) (ba 16 399) alc (h:=?_)
      refine pu 9 (some 38) (ba 16 911) alc (h:=?_)
      refine ta 4 (some 33) (ba 16 927) alc dG hHeld (hy:=Or.inl ⟨by rfl,by rintro w' ⟨s0,s1,s2,s3⟩;go_simp;with_reducible rfl⟩) (h:=?_)
      refine pu 5 (some 34) (ba 16 959) alc (h:=?_)
      refine ta 6 (some 35) (ba 16 1023) alc dG hHeld (hy:=Or.inl ⟨by rfl,by rintro w' ⟨s0,s1,s2,s3⟩;go_simp;with_reducible rfl⟩) (h:=?_)
      refine ta 10 (some 39) (ba 16 2047) alc dG hHeld (hy:=Or.inl ⟨by rfl,by rintro w' ⟨s0,s1,s2,s3⟩;go_simp;with_reducible rfl⟩) (h:=?_)
      refine pu 11 (some 40) (ba 16 4095) alc (h:=?_)
      refine ta 12 (some 41) (ba 16 8191) alc dG hHeld (hy:=Or.inl ⟨by rfl,by rintro w' ⟨s0,s1,s2,s3⟩;go_simp;with_reducible rfl⟩) (h:=?_)
      refine pu 13 (some 42) (ba 16 16383) alc (h:=?_)
      refine pu 14 (some 43) (ba 16 32767) alc (h:=?_)
      refine sF (i:=15) (N:=none) (ba 16 65535) rfl rfl (lG alc.out (by kernel_rfl)) (by decide) (fun K hK=>?_)
      refine qa (w1:=?_) (by rfl) rfl ?_ ?_
      rotate_left;· go_simp;rfl
      refine hK.out _ _ ?_
      clear hK K
      refine nH (rz alc.out (by kernel_rfl)) ?_
      try go_wp2
      have aK:ak (Kd.S (Kd.slice 2 (Kd.int .i64)) 28 (oP.setCell ⟨amw,((rd (ag aa aT) bK):Int).toNat,none⟩ (.int .i64 (wrap64 ((rd (ag ald (rd (ag aa aT) bK)) (rd (ag aa aT) bK))+1)))) w.heap.size (fun _=>True) (.slice (some lK) ald.length Yl) iT):=⟨aS (Ie.out)⟩
      have alf:ak ((oP.setCell ⟨amw,((rd (ag aa aT) bK):Int).toNat,none⟩ (.int .i64 (wrap64 ((rd (ag ald (rd (ag aa aT) bK)) (rd (ag aa aT) bK))+1)))).heap[ai]?=some (sO af (some kz) aa aq 31)):=⟨by (with_reducible repeat (first|refine cm ?_ _|refine bJ ?_|refine alo ?_ _));refine gD ?_ (by have h_:=Kd.iG vF.out ah.out (by decide);intro e_;exact h_ (by rw [e_];rfl)) _;exact bk⟩
      have alj:ak (Below w.heap.size w (oP.setCell ⟨amw,((rd (ag aa aT) bK):Int).toNat,none⟩ (.int .i64 (wrap64 ((rd (ag ald (rd (ag aa aT) bK)) (rd (ag aa aT) bK))+1))))):=⟨by repeat (first|(with_reducible first|exact HB.out|apply bL|apply bX|apply bH|refine dI ?_ BQ.out|refine dI ?_ eL.out)|exact HB.out)⟩
      (try clear az)
      (try clear ah)
      (try clear HB)
      generalize (oP.setCell ⟨amw,((rd (ag aa aT) bK):Int).toNat,none⟩ (.int .i64 (wrap64 ((rd (ag ald (rd (ag aa aT) bK)) (rd (ag aa aT) bK))+1))))=z8 at aK alf alj ⊢
      have az:=aK
      have ah:=alf
      have HB:=alj
      clear aK alf alj
      replace az:=k0 (Kd.fI az.out);replace ah:=k0 (bJ ah.out);replace HB:=k0 (bH HB.out)
      have Lq:0≤(bK:Int):=oD
      have LI:bK < ((ag aa aT).length:Int):=oD
      obtain ⟨WG,e115,Ge⟩:=Kd.bS qq.out bK Lq LI
      have ab3:=Ge
      obtain rfl:alH=WG:=(by injection e115)
      replace Ge:=hbc HB Ge
      replace Lq:=eq_true Lq
      replace LI:=eq_true LI
      have yh:0≤((rd (ag aa aT) bK):Int):=oD
      have yl:(rd (ag aa aT) bK) < (iT.length:Int):=(by have h_:((rd (ag aa aT) bK):Int) < ((ald.length:Int):Int):=oD;first|(have e_:=(Kd.ck az.out).1;omega)|simpa only [IL.out,List.length_set] using h_)
      have akr:(((rd (ag aa aT) bK):Int) < ((ald.length:Int):Int))=True:=eq_true oD
      obtain ⟨I3,afv,Xt,e116,ua,Rs,Ra⟩:=cZ (Kd.ck az.out).2.2 (rd (ag aa aT) bK) yh yl
      obtain rfl:lK=I3:=(by injection e116)
      obtain ⟨agT,aax,aaj,Qh⟩:=Kd.l6 az.out [] (rd (ag aa aT) bK) yh (by first|exact yl|exact oD|(have e_:=(Kd.ck az.out).1;omega))
      obtain ⟨akL,rfl,JG⟩:=aaj
      have Dk:=Qh 0 _ rfl
      rw [Nat.add_zero,show ((Kd.slice 2 (Kd.int .i64))).sz=1 from rfl,Nat.mul_one] at Dk
      replace Dk:=Option.some.inj (Dk.symm.trans ua)
      rw [Dk] at JG
      have EP:=k0 (show Kd.R (Kd.int .i64) 2 _ _ _ _ (ag iT (rd (ag aa aT) bK)) from JG)
      clear Dk JG
      have Iv:=k0 ua
      clear Qh aax
      have Ih:=k0 Ra
      have afT:=k0 Rs
      clear Ra Rs
      replace yh:=eq_true yh
      replace yl:=eq_true yl
      have al8:0≤((jf):Int):=oD
      have al':(jf) < ((ag aa aT).length:Int):=oD
      obtain ⟨anv,e117,mB⟩:=Kd.bS qq.out (jf) al8 al'
      have Bm:=mB
      obtain rfl:alH=anv:=(by injection e117)
      replace mB:=hbc HB mB
      replace al8:=eq_true al8
      replace al':=eq_true al'
      have p7:0≤((rd (ag aa aT) (jf)):Int):=oD
      have p_:(rd (ag aa aT) (jf)) < ((ag iT (rd (ag aa aT) bK)).length:Int):=oD
      obtain ⟨Fe,e118,mW⟩:=Kd.bS (by repeat (first|(with_reducible exact Ih.out)|(with_reducible refine Kd.kM ?_ _)|(with_reducible refine Kd.alZ ?_ _)|(with_reducible refine Kd.j6 ?_)|exact Ih.out)) (rd (ag aa aT) (jf)) p7 p_
      cases e118
      replace p7:=eq_true p7
      replace p_:=eq_true p_
      have LC:0≤((rd (ag aa aT) (jf)):Int):=oD
      have LU:((rd (ag aa aT) (jf)):Int) < (((ag iT (rd (ag aa aT) bK)).length:Int):Int):=oD
      obtain ⟨PL,ahk,O5,Pz,ZX,ahc,Nl⟩:=Kd.kT EP.out (by omega)
      (first|cases O5|(injection O5 with aW aly c_;(first|subst aW|(injection aW with aW;subst aW));subst c_;clear aly))
      (first|simp only [add_plain] at mW|skip)
      have UP:=k0 Pz
      have UZ:=k0 Nl
      clear Pz ZX Nl
      (first|simp only [add_plain] at mW|skip)
      obtain ⟨ab9,abe⟩:=Kd.js 0 EP.out ((rd (ag aa aT) (jf)):Int) LC LU
      replace LC:=eq_true LC
      replace LU:=eq_true LU
      have abT:((rd (ag aa aT) bK):Int) < (iT.length:Int):=(by have h_:((rd (ag aa aT) bK):Int) < ((ald.length:Int):Int):=oD;first|exact h_|(have e_:=(Kd.ck az.out).1;omega)|simpa only [IL.out,List.length_set] using h_)
      obtain ⟨akj,ag6,aaL,aae,Qu,RJ,P9⟩:=Kd.yN az.out [] ((rd (ag aa aT) bK):Int) oD (by first|exact abT|(have e_:=(Kd.ck az.out).1;omega))
      obtain ⟨akY,rfl,CE⟩:=aae
      have F9:=Qu 0 _ rfl
      rw [Nat.add_zero,show ((Kd.slice 2 (Kd.int .i64))).sz=1 from rfl,Nat.mul_one] at F9
      replace F9:=Option.some.inj (F9.symm.trans Iv.out)
      subst F9
      clear Qu aaL
      replace CE:=(show Kd.R (Kd.int .i64) 2 _ _ _ _ (ag iT (rd (ag aa aT) bK)) from CE)
      have qo:=Kd.kr CE ((rd (ag aa aT) (jf)):Int) (wrap64 ((rd (ag iT (rd (ag aa aT) bK)) (rd (ag aa aT) (jf))) - 1))
      have VF:=k0 (AW qo.2 Iv.out (AX (RJ _ (CE.1 _ rfl)).2))
      rw [← IM.out] at qo
      have af9:=k0 qo.1
      have Ir:=P9 qo.2 (fun k_ e_=>by injection e_ with e_;subst e_;exact CE.1 _ rfl) (x':=BG) (Kd.amh qo.1)
      rw [← IP.out] at Ir
      have NH:=k0 Ir
      clear qo Ir P9 RJ
      refine nT (n:=17) (S:=fun w'=>w'.cell? (alH.add (bK).toNat)=some (.int .i64 (rd (ag aa aT) bK))∧w'.cell? (lK.add ((rd (ag aa aT) bK)).toNat)=some (.slice (some ⟨PL,0,none⟩) (ag iT (rd (ag aa aT) bK)).length Xt)∧w'.cell? (alH.add ((jf)).toNat)=some (.int .i64 (rd (ag aa aT) (jf)))∧w'.cell? ⟨PL,((rd (ag aa aT) (jf))).toNat,none⟩=some (.int .i64 (rd (ag iT (rd (ag aa aT) bK)) (rd (ag aa aT) (jf))))) (ds:=[16]) (ba 17 0) (by kernel_rfl) rfl rfl ⟨(hbc HB ab3),ua,(hbc HB Bm),mW⟩ (fun hHeld=>?_);refine rQ cD.L7 cD.I8 (fun alc dG=>?_)
      generalize z8.drew=w33 at az ah HB UZ EP Ie NH Ih Iv VF abe Ge ua mB mW ab9 hHeld ⊢
      refine pu 0 (some 44) (ba 17 1) alc (h:=?_)
      refine pu 1 (some 45) (ba 17 3) alc (h:=?_)
      refine pu 2 (some 46) (ba 17 7) alc (h:=?_)
      refine pu 3 (some 47) (ba 17 15) alc (h:=?_)
      refine pu 7 (some 51) (ba 17 143) alc (h:=?_)
      refine pu 8 (some 52) (ba 17 399) alc (h:=?_)
      refine pu 9 (some 53) (ba 17 911) alc (h:=?_)
      refine pu 10 (some 54) (ba 17 1935) alc (h:=?_)
      refine ta 4 (some 48) (ba 17 1951) alc dG hHeld (hy:=Or.inl ⟨by rfl,by rintro w' ⟨s0,s1,s2,s3⟩;go_simp;with_reducible rfl⟩) (h:=?_)
      refine pu 5 (some 49) (ba 17 1983) alc (h:=?_)
      refine ta 6 (some 50) (ba 17 2047) alc dG hHeld (hy:=Or.inl ⟨by rfl,by rintro w' ⟨s0,s1,s2,s3⟩;go_simp;with_reducible rfl⟩) (h:=?_)
      refine ta 11 (some 55) (ba 17 4095) alc dG hHeld (hy:=Or.inl ⟨by rfl,by rintro w' ⟨s0,s1,s2,s3⟩;go_simp;with_reducible rfl⟩) (h:=?_)
      refine pu 12 (some 56) (ba 17 8191) alc (h:=?_)
      refine ta 13 (some 57) (ba 17 16383) alc dG hHeld (hy:=Or.inl ⟨by rfl,by rintro w' ⟨s0,s1,s2,s3⟩;go_simp;with_reducible rfl⟩) (h:=?_)
      refine pu 14 (some 58) (ba 17 32767) alc (h:=?_)
      refine pu 15 (some 59) (ba 17 65535) alc (h:=?_)
      refine sF (i:=16) (N:=none) (ba 17 131071) rfl rfl (lG alc.out (by kernel_rfl)) (by decide) (fun K hK=>?_)
      refine qa (w1:=?_) (by rfl) rfl ?_ ?_
      rotate_left;· go_simp;rfl
      refine hK.out _ _ ?_
      clear hK K
      refine nH (rz alc.out (by kernel_rfl)) ?_
      try go_wp2
      first|go_roundg k2|(simp only [← jN];go_roundg k2)
      case measure=>have:=aM.out;have:=bp.out;omega
      case rel=>exact ⟨(Eu),(wrap64 (bK+1)),rs,(by first|exact H'|(rw [jN];exact H')),⟨by have:=aM.out;have:=bp.out;omega⟩,⟨aS (NH.out)⟩,⟨by (with_reducible repeat (first|refine cm ?_ _|refine bJ ?_|refine alo ?_ _));refine gD ?_ (by have h_:=Kd.iG EP.out ah.out (by decide);intro e_;exact h_ (by rw [e_];rfl)) _;exact bk⟩,⟨by repeat (first|(with_reducible first|exact HB.out|apply bL|apply bX|apply bH|refine dI ?_ UP.out|refine dI ?_ eL.out)|exact HB.out)⟩⟩
   rw [if_pos c12] at H
   have r7:((rd (ag aa aT) 0) == (rd (ag aa aT) 1))=true:=beq_iff_eq.mpr c12
   have AM:((rd (ag aa aT) 0) != (rd (ag aa aT) 1))=false:=bne_eq_false_iff_eq.mpr c12
   clear c12
   have H':=k0 H
   clear H
   have dg:0≤(aT:Int):=oD
   have cX:aT < (aa.length:Int):=oD
   obtain ⟨kz,anp,Ci,e105,dX,qH,qE⟩:=cZ alx.out aT dg cX
   cases e105
   replace dX:=hbc HB dX
   have qq:=k0 qE
   have anB:=k0 qH
   clear qE qH
   replace dg:=eq_true dg
   replace cX:=eq_true cX
   try go_wp2
   replace az:=k0 (Kd.fI az.out);replace ah:=k0 (bJ ah.out);replace HB:=k0 (bH HB.out)
   have dK:0≤(0:Int):=(by omega)
   have dH:0 < ((ag aa aT).length:Int):=oD
   obtain ⟨alH,e106,dD⟩:=Kd.bS qq.out 0 dK dH
   have tZ:=dD
   (try rw [show ((0:Int)).toNat=0 from rfl] at tZ)
   (try rw [show 0 * 1=0 from rfl] at tZ)
   (try rw [Addr.add_zero'] at tZ)
   cases e106
   have Bv:(0 < (ag aa aT).length)=True:=eq_true (by omega)
   (try rw [show ((0:Int)).toNat=0 from rfl] at dD)
   (try rw [Addr.add_zero'] at dD)
   replace dD:=hbc HB dD
   replace dK:=eq_true dK
   replace dH:=eq_true dH
   have gv:0≤(1:Int):=(by omega)
   have gx:1 < ((ag aa aT).length:Int):=oD
   obtain ⟨pV,e107,fX⟩:=Kd.bS qq.out 1 gv gx
   have t_:=fX
   (try rw [show ((1:Int)).toNat=1 from rfl] at t_)
   (try rw [show 1 * 1=1 from rfl] at t_)
   (try simp only [Nat.reduceMul,Nat.reduceEqDiff,Go.Addr.add,↓reduceIte] at t_)
   obtain rfl:alH=pV:=(by injection e107)
   (try simp only [show (1:Int).toNat=1 from rfl,Nat.reduceMul,Nat.reduceEqDiff,Go.Addr.add,↓reduceIte] at fX)
   have ad8:(1 < (ag aa aT).length)=True:=eq_true (by omega)
   (try rw [show ((1:Int)).toNat=1 from rfl] at fX)
   replace fX:=hbc HB fX
   replace gv:=eq_true gv
   replace gx:=eq_true gx
   refine nT (n:=7) (S:=fun w'=>w'.cell? alH=some (.int .i64 (rd (ag aa aT) 0))∧w'.cell? ⟨alH.block,alH.off+1,none⟩=some (.int .i64 (rd (ag aa aT) 1))) (ds:=[]) (ba 7 0) (by kernel_rfl) rfl rfl ⟨(hbc HB tZ),(hbc HB t_)⟩ (fun hHeld=>?_)
   generalize wr.drew=alU at az ah HB dD fX hHeld ⊢
   refine nQ (i:=0) (N:=some 17) (v:=?_) (a':=?_) (ba 7 1) rfl rfl (by kernel_rfl) (fun _ _ _ h=>h) (Or.inl ⟨by rfl,?_⟩) ?_ ?_
   rotate_left;· intro w';go_simp;with_reducible rfl
   rotate_left;· simp only [Act.put,zI,zZ,zS,cQ,dr];rfl
   refine nQ (i:=1) (N:=some 18) (v:=?_) (a':=?_) (ba 7 3) rfl rfl (by kernel_rfl) (fun _ _ _ h=>h) (Or.inl ⟨by rfl,?_⟩) ?_ ?_
   rotate_left;· intro w';go_simp;with_reducible rfl
   rotate_left;· simp only [Act.put,zI,zZ,zS,cQ,dr];rfl
   refine nQ (i:=3) (N:=some 20) (v:=?_) (a':=?_) (ba 7 11) rfl rfl (by kernel_rfl) (fun _ _ _ h=>h) (Or.inl ⟨by rfl,?_⟩) ?_ ?_
   rotate_left;· intro w';go_simp;with_reducible rfl
   rotate_left;· simp only [Act.put,zI,zZ,zS,cQ,dr];rfl
   refine nQ (i:=4) (N:=some 21) (v:=?_) (a':=?_) (ba 7 27) rfl rfl (by kernel_rfl) (fun _ _ _ h=>h) (Or.inl ⟨by rfl,?_⟩) ?_ ?_
   rotate_left;· intro w';go_simp;with_reducible rfl
   rotate_left;· simp only [Act.put,zI,zZ,zS,cQ,dr];rfl
   refine qb (i:=2) (N:=some 19) (v:=?_) (a':=?_) (ba 7 31) rfl rfl (by kernel_rfl) (fun _ _ _ h=>h) (Or.inl ⟨by rfl,?_⟩) hHeld ?_ ?_
   rotate_left;· rintro w' ⟨s0,s1⟩;go_simp;with_reducible rfl
   rotate_left;· simp only [Act.put,zI,zZ,zS,cQ,dr];rfl
   refine qb (i:=5) (N:=some 22) (v:=?_) (a':=?_) (ba 7 63) rfl rfl (by kernel_rfl) (fun _ _ _ h=>h) (Or.inl ⟨by rfl,?_⟩) hHeld ?_ ?_
   rotate_left;· rintro w' ⟨s0,s1⟩;go_simp;with_reducible rfl
   rotate_left;· simp only [Act.put,zI,zZ,zS,cQ,dr];rfl
   refine nQ (i:=6) (N:=some 23) (v:=?_) (a':=?_) (ba 7 127) rfl rfl (by kernel_rfl) (fun _ _ _ h=>h) (Or.inl ⟨by rfl,?_⟩) ?_ ?_
   rotate_left;· intro w';go_simp;with_reducible rfl
   rotate_left;· simp only [Act.put,zI,zZ,zS,cQ,dr];rfl
   refine nH (by kernel_rfl) ?_
   try go_wp2
   first|go_roundg k1|(simp only [← jN];go_roundg k1)
   case measure=>have:=aM.out;omega
   case rel=>exact ⟨(bE),(wrap64 (aT+1)),rs,(by first|exact H'|(rw [jN];exact H')),⟨by have:=aM.out;omega⟩,⟨aS (az.out)⟩,⟨bk⟩,⟨bl⟩⟩
end Go.Proofs.Ytoebojnhchocaaa.B
/- Set with little white space, by a program. -/
