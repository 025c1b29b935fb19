/- The functions that one law reaches, each as a Lean function, and that Go's call comes to what it says. Condition of each: that the Lean function answers (is not none). -/
import Derived.Test.YtoebojnhchocaaaBx0
import Derived.Test.YtoebojnhchocaaaBx16
namespace Go.Proofs.Ytoebojnhchocaaa.B
open Go.RowKit Go.Proofs.bC.eg Go.Proofs.bC.iZ Go.Proofs.bC.jr
attribute [local go_sem] max2_int min2_int max_two min_two max_three min_three max_four min_four   -- for this text's walks alone
set_option linter.unusedVariables false
set_option linter.unusedSimpArgs false
/-! ### F184: function 184 -/
mutual
def cK.l0 : Nat → List Int → Int → Int → Int → List (List Int) → Option (List Int)
 | 0,_,_,_,_,_=>none
 | k+1,x5,Eo,qd,bU,bN=>if qd < Eo then (cK.l1 k x5 Eo qd bN (bN.length:Int) 0 bU bN) else (some x5)
def cK.l1 : Nat → List Int → Int → Int → List (List Int) → Int → Int → Int → List (List Int) → Option (List Int)
 | 0,_,_,_,_,_,_,_,_=>none
 | k+1,x5,Eo,qd,nY,qf,kL,bU,bN=>if kL < qf then (if 0≤kL then (if kL < (nY.length:Int) then (if 0 < ((ag nY kL).length:Int) then (if 0≤(rd (ag nY kL) 0) then (if (rd (ag nY kL) 0) < (x5.length:Int) then (if 1 < ((ag nY kL).length:Int) then (if 0≤(rd (ag nY kL) 1) then (if (rd (ag nY kL) 1) < (x5.length:Int) then ((some (x5.set ((rd (ag nY kL) 0):Int).toNat (mn (rd x5 (rd (ag nY kL) 0)) (wrap64 ((rd x5 (rd (ag nY kL) 1))+1))):List Int)).bind fun dU=>(cK.l1 k (dU.set ((rd (ag nY kL) 1):Int).toNat (mn (rd dU (rd (ag nY kL) 1)) (wrap64 ((rd dU (rd (ag nY kL) 0))+1)))) Eo qd nY qf (wrap64 (kL+1)) bU bN)) else (none)) else (none)) else (none)) else (none)) else (none)) else (none)) else (none)) else (none)) else (cK.l0 k x5 Eo (wrap64 (qd+1)) bU bN)
end
def cK.f (k:Nat) (af:Int) (aa:List (List Int)) (a1:Int):Option (List Int):=(amN.f (([af]:List Int)) af).bind fun t105=>(if 0≤a1 then (if a1 < (t105.length:Int) then (cK.l0 k (t105.set (a1:Int).toNat 0) af 0 af aa) else (none)) else (none))
theorem cK.cj : ∀ k, (∀ y0 y1 y2 y3 y4, aj (cK.l0 k y0 y1 y2 y3 y4) (cK.l0 (k + 1) y0 y1 y2 y3 y4)) ∧ (∀ y0 y1 y2 y3 y4 y5 y6 y7, aj (cK.l1 k y0 y1 y2 y3 y4 y5 y6 y7) (cK.l1 (k + 1) y0 y1 y2 y3 y4 y5 y6 y7))
 | 0=>⟨fun _ _ _ _ _ r h=>by simp [cK.l0] at h,fun _ _ _ _ _ _ _ _ r h=>by simp [cK.l1] at h⟩
 | k+1=>by
  obtain ⟨ali,ih1⟩:=cK.cj k
  refine ⟨?_, ?_⟩ <;> intros <;> (first | unfold cK.l0 | unfold cK.l1) <;> repeat' first
   | (with_reducible first|exact ali _ _ _ _ _|exact ih1 _ _ _ _ _ _ _ _|exact aj.refl _|exact aj.none _|refine aj.ite ?_ ?_|refine aj.bind ?_ (fun _=>?_))
   | exact ali _ _ _ _ _|exact ih1 _ _ _ _ _ _ _ _|exact aj.none _|refine aj.ite ?_ ?_|refine aj.bind ?_ (fun _=>?_)
theorem cK.mono:∀ a0 a1 a2 k,aj (cK.f k a0 a1 a2) (cK.f (k+1) a0 a1 a2):=by
 intro a0 a1 a2 k
 obtain ⟨ali,ih1⟩:=cK.cj k
 unfold cK.f
 repeat' first
  | (with_reducible first|exact ali _ _ _ _ _|exact ih1 _ _ _ _ _ _ _ _|exact aj.refl _|exact aj.none _|refine aj.ite ?_ ?_|refine aj.bind ?_ (fun _=>?_))
  | exact ali _ _ _ _ _|exact ih1 _ _ _ _ _ _ _ _|exact aj.none _|refine aj.ite ?_ ?_|refine aj.bind ?_ (fun _=>?_)
def cK.T8:Bool × List (List Nat × List Nat):=(true,[([],[]),([],[]),([1],[1]),([2],[2]),([],[]),([],[]),([5],[5]),([6],[6]),([4,7],[4,7]),([8],[8]),([],[]),([],[]),([11],[11]),([12],[12]),([10,13],[10,13]),([14],[14]),([15],[15]),([9,16],[9,16]),([0,3,0,1,2,3,4,5,6,7,8,9,10,11,12,13,14,15,16,17],[0,3]),([18,17,0,1,2,3,4,5,6,7,8,9,10,11,12,13,14,15,16,17],[17,18])])
def cK.B8:List Nat:=[0,0,2,6,0,0,32,96,240,496,0,0,2048,6144,15360,31744,64512,131056,262143,524287]
theorem cK.Ee:gY .any (opsOf Try.f184 8)=cK.T8:=by kernel_rfl
theorem cK.Ce:nV cK.T8.2 cK.B8=true:=by kernel_rfl
def cK.T9:Bool × List (List Nat × List Nat):=(true,[([],[]),([],[]),([1],[1]),([2],[2]),([],[]),([],[]),([5],[5]),([6],[6]),([4,7],[4,7]),([8],[8]),([],[]),([],[]),([11],[11]),([12],[12]),([10,13],[10,13]),([14],[14]),([15],[15]),([9,16],[9,16]),([0,3,0,1,2,3,4,5,6,7,8,9,10,11,12,13,14,15,16,17],[0,3]),([18,17,0,1,2,3,4,5,6,7,8,9,10,11,12,13,14,15,16,17],[17,18])])
def cK.B9:List Nat:=[0,0,2,6,0,0,32,96,240,496,0,0,2048,6144,15360,31744,64512,131056,262143,524287]
theorem cK.L8:gY .any (opsOf Try.f184 9)=cK.T9:=by kernel_rfl
theorem cK.I9:nV cK.T9.2 cK.B9=true:=by kernel_rfl
set_option maxHeartbeats 8000000 in
set_option maxRecDepth 100000 in
theorem cK.calls (k : Nat) (af : Int) (au : Option Addr) (aq : Nat) (aa : List (List Int)) (a1 : Int) (r : List Int) (w : World) (cl : Kd.C (Kd.slice 2 (Kd.int .i64)) w au aa.length aa) (cn : aa.length ≤ aq) (h : cK.f k af aa a1 = some r) :
  Calls Try.prog 184 #[.agg #[.int .i64 af,.slice au aa.length aq],.int .i64 a1] w fun e w'=>∃ cF:Value,e=.returned (cF)∧Kd.R (Kd.int .i64) 2 w' w.heap.size (fun _=>True) cF r∧Below w.heap.size w w':=by
 have kF:=Try.underlying31
 have alx:=k0 cl
 have di:=k0 cn
 clear cl cn
 have HB:=k0 (Below.refl w.heap.size w)
 have H:((amN.f (([af]:List Int)) af).bind fun t105=>(if 0≤a1 then (if a1 < (t105.length:Int) then (cK.l0 k (t105.set (a1:Int).toNat 0) af 0 af aa) else (none)) else (none)))=some r:=h
 clear h
 obtain ⟨eT,eH⟩:∃ y_:List Int,y_=(([af]:List Int)):=⟨_,rfl⟩
 replace H:((amN.f eT af).bind fun t105=>(if 0≤a1 then (if a1 < (t105.length:Int) then (cK.l0 k (t105.set (a1:Int).toNat 0) af 0 af aa) else (none)) else (none)))=some r:=by first|(rw [eH];with_reducible exact H)|(have ax:=(Option.bind_some _ _).symm.trans H;rw [eH];with_reducible exact ax)|(have ax:=(Option.bind_some _ _).symm.trans H;with_reducible exact ax)|with_reducible exact H|(rw [eH];exact H)|exact H
 have alG:=k0 eH
 clear eH
 replace H:=Option.bind_eq_some_iff.mp H
 obtain ⟨t105,qh,H⟩:=H
 replace H:(if 0≤a1 then (if a1 < (t105.length:Int) then (cK.l0 k (t105.set (a1:Int).toNat 0) af 0 af aa) else (none)) else (none))=some r:=H
 have A3:=k0 qh
 clear qh
 replace H:=iS H;obtain ⟨c4,H⟩:=H
 have eV:=decide_eq_true c4
 clear c4
 replace H:=iS H;obtain ⟨c5,H⟩:=H
 have jb:=decide_eq_true c5
 clear c5
 obtain ⟨mG,ij⟩:∃ y_:List Int,y_=(t105.set (a1:Int).toNat 0):=⟨_,rfl⟩
 replace H:(cK.l0 k mG af 0 af aa)=some r:=by first|(rw [ij];with_reducible exact H)|(have ax:=(Option.bind_some _ _).symm.trans H;rw [ij];with_reducible exact ax)|(have ax:=(Option.bind_some _ _).symm.trans H;with_reducible exact ax)|with_reducible exact H|(rw [ij];exact H)|exact H
 have amn:=k0 ij
 clear ij
 have H':=k0 H
 clear H
 go_enter Try.func184,Try.ntmps184
 go_wp2_with (first|((with_reducible refine cy (N:=2) rfl ?_);refine ec ?hg (N:=2) ?hd (cs:=#[.int .i64 af,.slice au aa.length aq]) (t:=31) ?hr ?_;(case hd=>rfl);(case hg=>rfl);(case hr=>first|(go_simp;done)|(go_simp;rfl));intro ai hg w7 aJ hb;have ah:=k0 (aJ);have cr:=k0 ((by rw [hg];exact (aU bl):w.heap.size≤ai));have eL:=cr;replace HB:=k0 (aG bl hb);clear hb aJ hg;have xS:w7.cell? ⟨ai,0,none⟩=some (.int .i64 af):=(av ah.out 0).trans rfl;have xT:w7.cell? ⟨ai,1,none⟩=some (.slice au aa.length aq):=(av ah.out 1).trans rfl;have xY:=ale ah.out 0;have xZ:=ale ah.out 1)|((with_reducible refine cy (N:=10) rfl ?_);refine Kd.pT (Kd.int .i64) _ 2 ?hg (N:=10) ?hd (xs:=([af]:List Int)) (inner:=[.int .i64 af]) (ok:=fun _=>True) (cC:=fun _=>True) ?hr ?hp (fun _ hk=>hk) trivial (Below.refl _ _) (Nat.le_refl _) (by simp) ?_;(case hd=>rfl);(case hg=>rfl);(case hr=>first|(go_simp;done)|(go_simp;rfl));(case hp=>exact (bY.one (show Kd.M (Kd.int .i64) _ _ _ af [.int .i64 af] from rfl) (bY.none _ _)));intro dw w9 sB hb ew ey;clear ew ey;(first|rw [← alG.out] at sB|(simp only [Int.reduceToNat] at sB;rw [← alG.out] at sB));have a_:=k0 (Kd.d_ sB (aU bl));replace ah:=k0 (alg (g:=ai) (o:=sO af au aa aq 31) bk hb);replace HB:=k0 (aG bl hb);clear hb sB;have anl:w9.cell? ⟨ai,0,none⟩=some (.int .i64 af):=(av ah.out 0).trans rfl;have anm:w9.cell? ⟨ai,1,none⟩=some (.slice au aa.length aq):=(av ah.out 1).trans rfl;have Bb:=ale ah.out 0;have Bc:=ale ah.out 1;obtain ⟨jI,gT,vY⟩:=Kd.fh a_.out;subst vY)|((with_reducible refine fo (f:=226) rfl ?_);refine fq (some 13) rfl rfl Try.func226 (by kernel_rfl) rfl #[.slice jI eT.length gT,.int .i64 af] rfl gm ?_;(with_reducible refine (amN.calls _ _ eT af t105 _ ?bt ?bu A3.out).mono ?_);(case bt=>exact aC ((Kd.bn a_.out).2.2));(case bu=>exact (Kd.bn a_.out).2.1);rintro e alU ⟨gj,rfl,aY,hb⟩;refine ⟨_,rfl,?_⟩;have cO:=k0 (Kd.d_ (Kd.alF aY (Kd.eZ (aR a_.out))) (aU bl));replace a_:=k0 (Kd.gK (aR a_.out) (Kd.dV aY) hb);replace ah:=k0 (alg (g:=ai) (o:=sO af au aa aq 31) bk hb);replace HB:=k0 (aG bl hb);(try clear hb);(try clear aY);have p6:0≤(a1:Int):=oD;have q6:(a1:Int) < ((t105.length:Int):Int):=oD;obtain ⟨mm,xD,Fz,PG,Z4,cl6,Nu⟩:=Kd.kT cO.out (by omega);(first|cases Fz|(injection Fz with aW aly c_;(first|subst aW|(injection aW with aW;subst aW));subst c_;clear aly));have anG:=k0 PG;have GG6:=k0 Nu;clear PG Z4 Nu;obtain ⟨Se,ah7⟩:=Kd.js 0 cO.out (a1:Int) p6 q6;replace p6:=eq_true p6;replace q6:=eq_true q6;have n_:=k0 (Kd.bx (ok':=(fun k_=>some k_ ≠ (.slice jI eT.length gT:Value).ownBlock)) cO.out (fun k_ hk=>hk.2));clear cO;have cO:=n_;clear n_;obtain ⟨aj_,akc⟩:=Kd.js 0 cO.out (a1:Int) oD oD;have anV:=Kd.kr cO.out (a1:Int) 0)|((with_reducible refine kW (t:=2) (p:=16) rfl ?_);refine alT (t:=2) (p:=16) (v:=?ak3) (w1:=(alU.setCell ⟨mm,(a1:Int).toNat,none⟩ (.int .i64 0))) ?hg ?ho ?hn ?hr ?_;(case ho=>rfl);(case hg=>rfl);(case hn=>rfl);(case hr=>first|(go_simp;done)|(go_simp;rfl));intro oN hw;have hg:alU.grownBy oN (some mm):=(by rw [hw];exact anV.2);have dO:Kd.R (Kd.int .i64) 2 oN w.heap.size (fun k_=>some k_ ≠ (.slice jI eT.length gT:Value).ownBlock) (.slice (some ⟨mm,0,none⟩) t105.length xD) mG:=(by rw [hw,amn.out];exact anV.1);clear anV;replace ah:=k0 (jv (g:=ai) (o:=sO af au aa aq 31) bk hg (Kd.iG cO.out ah.out (by decide)));replace a_:=k0 (Kd.pS (v:=(.slice (some ⟨mm,0,none⟩) t105.length xD)) (v1:=(.slice (some ⟨mm,0,none⟩) t105.length xD)) (ok:=(fun _=>True)) (aR a_.out) hg (.inl rfl));replace cO:=k0 (dO);replace HB:=k0 ((by rw [hw];exact dI (HB.out) anG.out:Below w.heap.size w oN));clear hg hw dO;have zk:oN.cell? ⟨ai,0,none⟩=some (.int .i64 af):=(av ah.out 0).trans rfl;have zl:oN.cell? ⟨ai,1,none⟩=some (.slice au aa.length aq):=(av ah.out 1).trans rfl;have zn:=ale ah.out 0;have zo:=ale ah.out 1))
 go_loopg [19] k (fun kq v19 w'=>∃ (aI:List Int) (cx:Int),v19=.int .i64 cx∧ak (cK.l0 kq aI af cx af aa=some r)∧ak (kq≤k)∧ak (Kd.R (Kd.int .i64) 2 w' w.heap.size (fun _=>True) (.slice (some ⟨mm,0,none⟩) t105.length xD) aI)∧ak (w'.heap[ai]?=some (sO af au aa aq 31))∧ak (Below w.heap.size w w'))
 case atStart=>exact ⟨(mG),(0),rs,H',⟨Nat.le_refl _⟩,⟨aR (Kd.bx cO.out (fun _ hk=>trivial))⟩,⟨bk⟩,⟨bl⟩⟩
 case round =>
  clear H'
  (try clear c4);(try clear eV);(try clear c5);(try clear jb);(try clear p6);(try clear q6);(try clear anl);(try clear anm);(try clear zk);(try clear zl);(try clear xS);(try clear xT);(try clear Bb);(try clear Bc);(try clear zn);(try clear zo);(try clear xY);(try clear xZ);(try clear Se);(try clear p6);(try clear q6)
  obtain ⟨aI,cx,rfl,HA,aM,bM,ah,HB⟩:=hrel
  have mU:=(Kd.bn bM.out).1
  rw [mU] at bM
  (try simp only [mU])
  (try simp only [mU] at ah)
  cases gk with
  | zero=>exact absurd HA.out (by simp [cK.l0])
  | succ k1 =>
   have H:=HA.out
   clear HA
   simp only [cK.l0] at H
   by_cases c17:cx < af
   case neg =>
    rw [if_neg c17] at H
    have pF:decide (cx < af)=false:=decide_eq_false c17
    clear c17
    obtain rfl:=Option.some.inj H
    go_wp2
    go_ret
    exact ⟨_,by first|rfl|(simp [bA,bB]<;>rfl)|(simp [*,bA,bB]<;>rfl),by (with_reducible repeat (first|apply Kd.bO|apply Kd.bR|apply Kd.alp));exact bM.out,bl⟩
   rw [if_pos c17] at H
   have pF:=decide_eq_true c17
   clear c17
   have H':=k0 H
   clear H
   have CW:wr.cell? ⟨ai,0,none⟩=some (.int .i64 af):=(av ah.out 0).trans rfl
   have CX:wr.cell? ⟨ai,1,none⟩=some (.slice au aa.length aq):=(av ah.out 1).trans rfl
   have C1:=ale ah.out 0
   have C2:=ale ah.out 1
   go_wp2
   go_loopg [24] k1 (fun kq v24 w'=>∃ (alk:List Int) (bD:Int),v24=.int .i64 bD∧ak (cK.l1 kq alk af cx aa (aa.length:Int) bD af aa=some r)∧ak (kq≤k1)∧ak (Kd.R (Kd.int .i64) 2 w' w.heap.size (fun _=>True) (.slice (some ⟨mm,0,none⟩) aI.length xD) alk)∧ak (w'.heap[ai]?=some (sO af au aa aq 31))∧ak (Below w.heap.size w w'))
   case atStart=>exact ⟨(aI),(0),rs,H',⟨Nat.le_refl _⟩,⟨by (try simp only [mU]);(with_reducible repeat (first|apply Kd.bO|apply Kd.bR|apply Kd.alp));exact bM.out⟩,⟨by (try simp only [mU]);exact bk⟩,⟨bl⟩⟩
   case round =>
    clear H'
    (try clear c4);(try clear eV);(try clear c5);(try clear jb);(try clear p6);(try clear q6);(try clear c17);(try clear pF);(try clear anl);(try clear anm);(try clear zk);(try clear zl);(try clear CW);(try clear CX);(try clear xS);(try clear xT);(try clear Bb);(try clear Bc);(try clear zn);(try clear zo);(try clear C1);(try clear C2);(try clear xY);(try clear xZ);(try clear Se);(try clear p6);(try clear q6)
    obtain ⟨alk,bD,rfl,HA,bp,bM,ah,HB⟩:=hrel
    have gp:=(Kd.bn bM.out).1
    rw [gp] at bM
    (try simp only [gp])
    (try simp only [gp] at ah)
    cases gk with
    | zero=>exact absurd HA.out (by simp [cK.l1])
    | succ k2 =>
     have H:=HA.out
     clear HA
     simp only [cK.l1] at H
     by_cases c19:bD < (aa.length:Int)
     case neg =>
      rw [if_neg c19] at H
      have mb:decide (bD < (aa.length:Int))=false:=decide_eq_false c19
      (try simp only [mU,gp] at mb)
      clear c19
      have H':=k0 H
      clear H
      go_wp2
      (try simp only [← mU,← gp])
      first|go_roundg k2|(simp only [← lR];go_roundg k2)|(simp only [← zv];go_roundg k2)
      case measure=>have:=aM.out;have:=bp.out;omega
      case rel=>exact ⟨(alk),(wrap64 (cx+1)),rs,(by first|exact H'|(rw [lR];exact H')|(rw [zv];exact H')),⟨by have:=aM.out;have:=bp.out;omega⟩,⟨by (try simp only [mU]);(try simp only [gp]);(with_reducible repeat (first|apply Kd.bO|apply Kd.bR|apply Kd.alp));exact bM.out⟩,⟨by (try simp only [mU]);(try simp only [gp]);exact bk⟩,⟨bl⟩⟩
     rw [if_pos c19] at H
     have mb:=decide_eq_true c19
     (try simp only [mU,gp] at mb)
     clear c19
     replace H:=iS H;obtain ⟨c20,H⟩:=H
     have ot:=decide_eq_true c20
     clear c20
     replace H:=iS H;obtain ⟨c21,H⟩:=H
     have uQ:=decide_eq_true c21
     (try simp only [mU,gp] at uQ)
     clear c21
     replace H:=iS H;obtain ⟨c22,H⟩:=H
     have rq:=decide_eq_true c22
     (try simp only [mU,gp] at rq)
     have XB:decide (0 < (ag aa bD).length)=true:=decide_eq_true (by omega)
     (try simp only [mU,gp] at XB)
     clear c22
     replace H:=iS H;obtain ⟨c23,H⟩:=H
     have r9:=decide_eq_true c23
     clear c23
     replace H:=iS H;obtain ⟨c24,H⟩:=H
     have uR:=decide_eq_true c24
     (try simp only [mU,gp] at uR)
     clear c24
     replace H:=iS H;obtain ⟨c25,H⟩:=H
     have vR:=decide_eq_true c25
     (try simp only [mU,gp] at vR)
     have XD:decide (1 < (ag aa bD).length)=true:=decide_eq_true (by omega)
     (try simp only [mU,gp] at XD)
     clear c25
     replace H:=iS H;obtain ⟨c26,H⟩:=H
     have xx:=decide_eq_true c26
     clear c26
     replace H:=iS H;obtain ⟨c27,H⟩:=H
     have amp:=decide_eq_true c27
     (try simp only [mU,gp] at amp)
     clear c27
     obtain ⟨mX,lR⟩:∃ j_:Int,(mn (rd alk (rd (ag aa bD) 0)) (wrap64 ((rd alk (rd (ag aa bD) 1))+1)))=j_:=⟨_,rfl⟩
     replace H:((some (alk.set ((rd (ag aa bD) 0):Int).toNat (mX):List Int)).bind fun dU=>(cK.l1 k2 (dU.set ((rd (ag aa bD) 1):Int).toNat (mn (rd dU (rd (ag aa bD) 1)) (wrap64 ((rd dU (rd (ag aa bD) 0))+1)))) af cx aa (aa.length:Int) (wrap64 (bD+1)) af aa))=some r:=by first|(rw [lR] at H;exact H)|(simp only [lR] at H ⊢;exact H)
     have abC:(if (wrap64 ((rd alk (rd (ag aa bD) 1))+1)) < (rd alk (rd (ag aa bD) 0)) then (wrap64 ((rd alk (rd (ag aa bD) 1))+1)) else (rd alk (rd (ag aa bD) 0)))=mX:=lR
     obtain ⟨dU,gq⟩:∃ y_:List Int,y_=(alk.set ((rd (ag aa bD) 0):Int).toNat (mX)):=⟨_,rfl⟩
     replace H:(cK.l1 k2 (dU.set ((rd (ag aa bD) 1):Int).toNat (mn (rd dU (rd (ag aa bD) 1)) (wrap64 ((rd dU (rd (ag aa bD) 0))+1)))) af cx aa (aa.length:Int) (wrap64 (bD+1)) af aa)=some r:=by first|(rw [gq];with_reducible exact H)|(have ax:=(Option.bind_some _ _).symm.trans H;rw [gq];with_reducible exact ax)|(have ax:=(Option.bind_some _ _).symm.trans H;with_reducible exact ax)|with_reducible exact H|(rw [gq];exact H)|exact H
     have mK:=k0 gq
     clear gq
     obtain ⟨Gm,zv⟩:∃ j_:Int,(mn (rd dU (rd (ag aa bD) 1)) (wrap64 ((rd dU (rd (ag aa bD) 0))+1)))=j_:=⟨_,rfl⟩
     replace H:(cK.l1 k2 (dU.set ((rd (ag aa bD) 1):Int).toNat (Gm)) af cx aa (aa.length:Int) (wrap64 (bD+1)) af aa)=some r:=by first|(rw [zv] at H;exact H)|(simp only [zv] at H ⊢;exact H)
     have aiD:(if (wrap64 ((rd dU (rd (ag aa bD) 0))+1)) < (rd dU (rd (ag aa bD) 1)) then (wrap64 ((rd dU (rd (ag aa bD) 0))+1)) else (rd dU (rd (ag aa bD) 1)))=Gm:=zv
     obtain ⟨Eu,ug⟩:∃ y_:List Int,y_=(dU.set ((rd (ag aa bD) 1):Int).toNat (Gm)):=⟨_,rfl⟩
     replace H:(cK.l1 k2 Eu af cx aa (aa.length:Int) (wrap64 (bD+1)) af aa)=some r:=by first|(rw [ug];with_reducible exact H)|(have ax:=(Option.bind_some _ _).symm.trans H;rw [ug];with_reducible exact ax)|(have ax:=(Option.bind_some _ _).symm.trans H;with_reducible exact ax)|with_reducible exact H|(rw [ug];exact H)|exact H
     have IP:=k0 ug
     clear ug
     have H':=k0 H
     clear H
     have eD:0≤(bD:Int):=oD
     have er:bD < (aa.length:Int):=oD
     obtain ⟨lK,Hg,Fk,e109,alI,tT,tL⟩:=cZ alx.out bD eD er
     cases e109
     replace alI:=hbc HB alI
     have om:=k0 tL
     have anL:=k0 tT
     clear tL tT
     replace eD:=eq_true eD
     replace er:=eq_true er
     try go_wp2
     replace bM:=k0 (Kd.alp bM.out);replace ah:=k0 (bJ ah.out);replace HB:=k0 (bH HB.out)
     have jE:0≤(0:Int):=(by omega)
     have jF:0 < ((ag aa bD).length:Int):=oD
     obtain ⟨lf,e110,kG⟩:=Kd.bS om.out 0 jE jF
     have Bl:=kG
     (try rw [show ((0:Int)).toNat=0 from rfl] at Bl)
     (try rw [show 0 * 1=0 from rfl] at Bl)
     (try rw [Addr.add_zero'] at Bl)
     cases e110
     have ad':(0 < (ag aa bD).length)=True:=eq_true (by omega)
     (try rw [show ((0:Int)).toNat=0 from rfl] at kG)
     (try rw [Addr.add_zero'] at kG)
     replace kG:=hbc HB kG
     replace jE:=eq_true jE
     replace jF:=eq_true jF
     have gw:0≤(0:Int):=(by omega)
     have gy:0 < ((ag aa bD).length:Int):=oD
     obtain ⟨mP,e111,gX⟩:=Kd.bS om.out 0 gw gy
     have Ga:=gX
     (try rw [show ((0:Int)).toNat=0 from rfl] at Ga)
     (try rw [show 0 * 1=0 from rfl] at Ga)
     (try rw [Addr.add_zero'] at Ga)
     obtain rfl:lf=mP:=(by injection e111)
     have akm:(0 < (ag aa bD).length)=True:=eq_true (by omega)
     (try rw [show ((0:Int)).toNat=0 from rfl] at gX)
     (try rw [Addr.add_zero'] at gX)
     replace gX:=hbc HB gX
     replace gw:=eq_true gw
     replace gy:=eq_true gy
     have oI:0≤((rd (ag aa bD) 0):Int):=oD
     have oJ:(rd (ag aa bD) 0) < (alk.length:Int):=oD
     obtain ⟨yQ,e112,lD⟩:=Kd.bS (Kd.bn bM.out).2.2 (rd (ag aa bD) 0) oI oJ
     obtain rfl:(⟨mm,0,none⟩:Addr)=yQ:=(by injection e112)
     (first|simp only [add_plain] at lD|simp only [lN] at lD|simp only [Addr.add,Nat.zero_add] at lD|skip)
     replace oI:=eq_true oI
     replace oJ:=eq_true oJ
     have nP:0≤(1:Int):=(by omega)
     have nR:1 < ((ag aa bD).length:Int):=oD
     obtain ⟨yR,e113,mV⟩:=Kd.bS om.out 1 nP nR
     have Gb:=mV
     (try rw [show ((1:Int)).toNat=1 from rfl] at Gb)
     (try rw [show 1 * 1=1 from rfl] at Gb)
     (try simp only [Nat.reduceMul,Nat.reduceEqDiff,Go.Addr.add,↓reduceIte] at Gb)
     obtain rfl:lf=yR:=(by injection e113)
     (try simp only [show (1:Int).toNat=1 from rfl,Nat.reduceMul,Nat.reduceEqDiff,Go.Addr.add,↓reduceIte] at mV)
     have akn:(1 < (ag aa bD).length)=True:=eq_true (by omega)
     (try rw [show ((1:Int)).toNat=1 from rfl] at mV)
     replace mV:=hbc HB mV
     replace nP:=eq_true nP
     replace nR:=eq_true nR
     have iH:0≤((rd (ag aa bD) 1):Int):=oD
     have iI:(rd (ag aa bD) 1) < (alk.length:Int):=oD
     obtain ⟨lM,e114,je⟩:=Kd.bS (Kd.bn bM.out).2.2 (rd (ag aa bD) 1) iH iI
     obtain rfl:(⟨mm,0,none⟩:Addr)=lM:=(by injection e114)
     (first|simp only [add_plain] at je|simp only [lN] at je|simp only [Addr.add,Nat.zero_add] at je|skip)
     replace iH:=eq_true iH
     replace iI:=eq_true iI
     have zW:0≤((rd (ag aa bD) 0):Int):=oD
     have oK:((rd (ag aa bD) 0):Int) < ((alk.length:Int):Int):=oD
     obtain ⟨Sc,QL⟩:=Kd.js 0 bM.out ((rd (ag aa bD) 0):Int) zW oK
     replace zW:=eq_true zW
     replace oK:=eq_true oK
     have H8:=Kd.Az bM.out ((rd (ag aa bD) 0):Int) mX
     rw [← mK.out] at H8
     have Ig:=k0 H8
     clear H8
     refine nT (n:=20) (S:=fun w'=>w'.cell? lf=some (.int .i64 (rd (ag aa bD) 0))∧w'.cell? lf=some (.int .i64 (rd (ag aa bD) 0))∧w'.cell? ⟨mm,((rd (ag aa bD) 0)).toNat,none⟩=some (.int .i64 (rd alk (rd (ag aa bD) 0)))∧w'.cell? ⟨lf.block,lf.off+1,none⟩=some (.int .i64 (rd (ag aa bD) 1))∧w'.cell? ⟨mm,((rd (ag aa bD) 1)).toNat,none⟩=some (.int .i64 (rd alk (rd (ag aa bD) 1)))) (ds:=[19]) (ba 20 0) (by kernel_rfl) rfl rfl ⟨(hbc HB Bl),(hbc HB Ga),lD,(hbc HB Gb),je⟩ (fun hHeld=>?_);refine rQ cK.Ee cK.Ce (fun alc dG=>?_)
     generalize wr.drew=z8 at bM ah HB Ig QL kG gX lD mV je Sc hHeld ⊢
     refine pu 0 (some 28) (ba 20 1) alc (h:=?_)
     refine pu 1 (some 29) (ba 20 3) alc (h:=?_)
     refine pu 2 (some 30) (ba 20 7) alc (h:=?_)
     refine pu 4 (some 32) (ba 20 23) alc (h:=?_)
     refine pu 5 (some 33) (ba 20 55) alc (h:=?_)
     refine pu 6 (some 34) (ba 20 119) alc (h:=?_)
     refine pu 10 (some 38) (ba 20 1143) alc (h:=?_)
     refine pu 11 (some 39) (ba 20 3191) alc (h:=?_)
     refine pu 12 (some 40) (ba 20 7287) alc (h:=?_)
     refine ta 3 (some 31) (ba 20 7295) alc dG hHeld (hy:=Or.inl ⟨by rfl,by rintro w' ⟨s0,s1,s2,s3,s4⟩;go_simp;with_reducible rfl⟩) (h:=?_)
     refine ta 7 (some 35) (ba 20 7423) alc dG hHeld (hy:=Or.inl ⟨by rfl,by rintro w' ⟨s0,s1,s2,s3,s4⟩;go_simp;with_reducible rfl⟩) (h:=?_)
     refine pu 8 (some 36) (ba 20 7679) alc (h:=?_)
     refine ta 9 (some 37) (ba 20 8191) alc dG hHeld (hy:=Or.inl ⟨by rfl,by rintro w' ⟨s0,s1,s2,s3,s4⟩;go_simp;with_reducible rfl⟩) (h:=?_)
     refine ta 13 (some 41) (ba 20 16383) alc dG hHeld (hy:=Or.inl ⟨by rfl,by rintro w' ⟨s0,s1,s2,s3,s4⟩;go_simp;with_reducible rfl⟩) (h:=?_)
     refine pu 14 (some 42) (ba 20 32767) alc (h:=?_)
     refine ta 15 (some 43) (ba 20 65535) alc dG hHeld (hy:=Or.inl ⟨by rfl,by rintro w' ⟨s0,s1,s2,s3,s4⟩;go_simp;with_reducible rfl⟩) (h:=?_)
     refine pu 16 (some 44) (ba 20 131071) alc (h:=?_)
     refine pu 17 (some 45) (ba 20 262143) alc (h:=?_)
     refine pu 18 (some 46) (ba 20 524287) alc (h:=?_)
     refine sF (i:=19) (N:=none) (ba 20 1048575) rfl rfl (lG alc.out (by kernel_rfl)) (by decide) (fun K hK=>?_)
     refine qa (w1:=?_) (by rfl) rfl ?_ ?_
     rotate_left;· go_simp;rfl
     refine hK.out _ _ ?_
     clear hK K
     refine nH (rz alc.out (by kernel_rfl)) ?_
     try go_wp2
     have aK:ak (Kd.R (Kd.int .i64) 2 (z8.setCell ⟨mm,((rd (ag aa bD) 0):Int).toNat,none⟩ (.int .i64 mX)) w.heap.size (fun _=>True) (.slice (some ⟨mm,0,none⟩) alk.length xD) dU):=⟨aR (Ig.out)⟩
     have alf:ak ((z8.setCell ⟨mm,((rd (ag aa bD) 0):Int).toNat,none⟩ (.int .i64 mX)).heap[ai]?=some (sO af (some lK) aa aq 31)):=⟨by (with_reducible repeat (first|refine cm ?_ _|refine bJ ?_|refine alo ?_ _));refine gD ?_ (by have h_:=Kd.iG bM.out ah.out (by decide);intro e_;exact h_ (by rw [e_];rfl)) _;exact bk⟩
     have alj:ak (Below w.heap.size w (z8.setCell ⟨mm,((rd (ag aa bD) 0):Int).toNat,none⟩ (.int .i64 mX))):=⟨by repeat (first|(with_reducible first|exact HB.out|apply bL|apply bX|apply bH|refine dI ?_ anG.out|refine dI ?_ eL.out)|exact HB.out)⟩
     (try clear bM)
     (try clear ah)
     (try clear HB)
     generalize (z8.setCell ⟨mm,((rd (ag aa bD) 0):Int).toNat,none⟩ (.int .i64 mX))=w34 at aK alf alj ⊢
     have bM:=aK
     have ah:=alf
     have HB:=alj
     clear aK alf alj
     replace bM:=k0 (Kd.alp bM.out);replace ah:=k0 (bJ ah.out);replace HB:=k0 (bH HB.out)
     have yh:0≤(1:Int):=(by omega)
     have yl:1 < ((ag aa bD).length:Int):=oD
     obtain ⟨I3,e116,ua⟩:=Kd.bS om.out 1 yh yl
     have Gc:=ua
     (try rw [show ((1:Int)).toNat=1 from rfl] at Gc)
     (try rw [show 1 * 1=1 from rfl] at Gc)
     (try simp only [Nat.reduceMul,Nat.reduceEqDiff,Go.Addr.add,↓reduceIte] at Gc)
     obtain rfl:lf=I3:=(by injection e116)
     (try simp only [show (1:Int).toNat=1 from rfl,Nat.reduceMul,Nat.reduceEqDiff,Go.Addr.add,↓reduceIte] at ua)
     have ako:(1 < (ag aa bD).length)=True:=eq_true (by omega)
     (try rw [show ((1:Int)).toNat=1 from rfl] at ua)
     replace ua:=hbc HB ua
     replace yh:=eq_true yh
     replace yl:=eq_true yl
     have al8:0≤(1:Int):=(by omega)
     have al':1 < ((ag aa bD).length:Int):=oD
     obtain ⟨anv,e117,mB⟩:=Kd.bS om.out 1 al8 al'
     have Bm:=mB
     (try rw [show ((1:Int)).toNat=1 from rfl] at Bm)
     (try rw [show 1 * 1=1 from rfl] at Bm)
     (try simp only [Nat.reduceMul,Nat.reduceEqDiff,Go.Addr.add,↓reduceIte] at Bm)
     obtain rfl:lf=anv:=(by injection e117)
     (try simp only [show (1:Int).toNat=1 from rfl,Nat.reduceMul,Nat.reduceEqDiff,Go.Addr.add,↓reduceIte] at mB)
     have akp:(1 < (ag aa bD).length)=True:=eq_true (by omega)
     (try rw [show ((1:Int)).toNat=1 from rfl] at mB)
     replace mB:=hbc HB mB
     replace al8:=eq_true al8
     replace al':=eq_true al'
     have p7:0≤((rd (ag aa bD) 1):Int):=oD
     have p_:(rd (ag aa bD) 1) < (dU.length:Int):=(by have h_:((rd (ag aa bD) 1):Int) < ((alk.length:Int):Int):=oD;first|(have e_:=(Kd.bn bM.out).1;omega)|simpa only [mK.out,List.length_set] using h_)
     have aks:(((rd (ag aa bD) 1):Int) < ((alk.length:Int):Int))=True:=eq_true oD
     obtain ⟨Fe,e118,mW⟩:=Kd.bS (Kd.bn bM.out).2.2 (rd (ag aa bD) 1) p7 p_
     obtain rfl:(⟨mm,0,none⟩:Addr)=Fe:=(by injection e118)
     (first|simp only [add_plain] at mW|simp only [lN] at mW|simp only [Addr.add,Nat.zero_add] at mW|skip)
     replace p7:=eq_true p7
     replace p_:=eq_true p_
     have Lr:0≤(0:Int):=(by omega)
     have LJ:0 < ((ag aa bD).length:Int):=oD
     obtain ⟨WH,e119,Bo⟩:=Kd.bS om.out 0 Lr LJ
     have Gd:=Bo
     (try rw [show ((0:Int)).toNat=0 from rfl] at Gd)
     (try rw [show 0 * 1=0 from rfl] at Gd)
     (try rw [Addr.add_zero'] at Gd)
     obtain rfl:lf=WH:=(by injection e119)
     have akq:(0 < (ag aa bD).length)=True:=eq_true (by omega)
     (try rw [show ((0:Int)).toNat=0 from rfl] at Bo)
     (try rw [Addr.add_zero'] at Bo)
     replace Bo:=hbc HB Bo
     replace Lr:=eq_true Lr
     replace LJ:=eq_true LJ
     have yj:0≤((rd (ag aa bD) 0):Int):=oD
     have ym:(rd (ag aa bD) 0) < (dU.length:Int):=(by have h_:((rd (ag aa bD) 0):Int) < ((alk.length:Int):Int):=oD;first|(have e_:=(Kd.bn bM.out).1;omega)|simpa only [mK.out,List.length_set] using h_)
     have akt:(((rd (ag aa bD) 0):Int) < ((alk.length:Int):Int))=True:=eq_true oD
     obtain ⟨I4,e120,uW⟩:=Kd.bS (Kd.bn bM.out).2.2 (rd (ag aa bD) 0) yj ym
     obtain rfl:(⟨mm,0,none⟩:Addr)=I4:=(by injection e120)
     (first|simp only [add_plain] at uW|simp only [lN] at uW|simp only [Addr.add,Nat.zero_add] at uW|skip)
     replace yj:=eq_true yj
     replace ym:=eq_true ym
     have LD:0≤((rd (ag aa bD) 1):Int):=oD
     have LV:((rd (ag aa bD) 1):Int) < ((alk.length:Int):Int):=oD
     obtain ⟨ab',abf⟩:=Kd.js 0 bM.out ((rd (ag aa bD) 1):Int) LD LV
     replace LD:=eq_true LD
     replace LV:=eq_true LV
     have H9:=Kd.Az bM.out ((rd (ag aa bD) 1):Int) Gm
     rw [← IP.out] at H9
     have NI:=k0 H9
     clear H9
     refine nT (n:=20) (S:=fun w'=>w'.cell? ⟨lf.block,lf.off+1,none⟩=some (.int .i64 (rd (ag aa bD) 1))∧w'.cell? ⟨lf.block,lf.off+1,none⟩=some (.int .i64 (rd (ag aa bD) 1))∧w'.cell? ⟨mm,((rd (ag aa bD) 1)).toNat,none⟩=some (.int .i64 (rd dU (rd (ag aa bD) 1)))∧w'.cell? lf=some (.int .i64 (rd (ag aa bD) 0))∧w'.cell? ⟨mm,((rd (ag aa bD) 0)).toNat,none⟩=some (.int .i64 (rd dU (rd (ag aa bD) 0)))) (ds:=[19]) (ba 20 0) (by kernel_rfl) rfl rfl ⟨(hbc HB Gc),(hbc HB Bm),mW,(hbc HB Gd),uW⟩ (fun hHeld=>?_);refine rQ cK.L8 cK.I9 (fun alc dG=>?_)
     generalize w34.drew=vq at bM ah HB Ig NI abf ua mB mW Bo uW ab' hHeld ⊢
     refine pu 0 (some 47) (ba 20 1) alc (h:=?_)
     refine pu 1 (some 48) (ba 20 3) alc (h:=?_)
     refine pu 2 (some 49) (ba 20 7) alc (h:=?_)
     refine pu 4 (some 51) (ba 20 23) alc (h:=?_)
     refine pu 5 (some 52) (ba 20 55) alc (h:=?_)
     refine pu 6 (some 53) (ba 20 119) alc (h:=?_)
     refine pu 10 (some 57) (ba 20 1143) alc (h:=?_)
     refine pu 11 (some 58) (ba 20 3191) alc (h:=?_)
     refine pu 12 (some 59) (ba 20 7287) alc (h:=?_)
     refine ta 3 (some 50) (ba 20 7295) alc dG hHeld (hy:=Or.inl ⟨by rfl,by rintro w' ⟨s0,s1,s2,s3,s4⟩;go_simp;with_reducible rfl⟩) (h:=?_)
     refine ta 7 (some 54) (ba 20 7423) alc dG hHeld (hy:=Or.inl ⟨by rfl,by rintro w' ⟨s0,s1,s2,s3,s4⟩;go_simp;with_reducible rfl⟩) (h:=?_)
     refine pu 8 (some 55) (ba 20 7679) alc (h:=?_)
     refine ta 9 (some 56) (ba 20 8191) alc dG hHeld (hy:=Or.inl ⟨by rfl,by rintro w' ⟨s0,s1,s2,s3,s4⟩;go_simp;with_reducible rfl⟩) (h:=?_)
     refine ta 13 (some 60) (ba 20 16383) alc dG hHeld (hy:=Or.inl ⟨by rfl,by rintro w' ⟨s0,s1,s2,s3,s4⟩;go_simp;with_reducible rfl⟩) (h:=?_)
     refine pu 14 (some 61) (ba 20 32767) alc (h:=?_)
     refine ta 15 (some 62) (ba 20 65535) alc dG hHeld (hy:=Or.inl ⟨by rfl,by rintro w' ⟨s0,s1,s2,s3,s4⟩;go_simp;with_reducible rfl⟩) (h:=?_)
     refine pu 16 (some 63) (ba 20 131071) alc (h:=?_)
     refine pu 17 (some 64) (ba 20 262143) alc (h:=?_)
     refine pu 18 (some 65) (ba 20 524287) alc (h:=?_)
     refine sF (i:=19) (N:=none) (ba 20 1048575) rfl rfl (lG alc.out (by kernel_rfl)) (by decide) (fun K hK=>?_)
     refine qa (w1:=?_) (by rfl) rfl ?_ ?_
     rotate_left;· go_simp;rfl
     refine hK.out _ _ ?_
     clear hK K
     refine nH (rz alc.out (by kernel_rfl)) ?_
     try go_wp2
     (try simp only [← gp])
     first|go_roundg k2|(simp only [← lR];go_roundg k2)|(simp only [← zv];go_roundg k2)
     case measure=>have:=aM.out;have:=bp.out;omega
     case rel=>exact ⟨(Eu),(wrap64 (bD+1)),rs,(by first|exact H'|(rw [lR];exact H')|(rw [zv];exact H')),⟨by have:=aM.out;have:=bp.out;omega⟩,⟨by (try simp only [mU]);(try simp only [gp]);(with_reducible repeat (first|apply Kd.bO|apply Kd.bR|apply Kd.alp));exact NI.out⟩,⟨by (try simp only [mU]);(try simp only [gp]);(with_reducible repeat (first|refine cm ?_ _|refine bJ ?_|refine alo ?_ _));refine gD ?_ (by have h_:=Kd.iG bM.out ah.out (by decide);intro e_;exact h_ (by rw [e_];rfl)) _;exact bk⟩,⟨by repeat (first|(with_reducible first|exact HB.out|apply bL|apply bX|apply bH|refine dI ?_ anG.out|refine dI ?_ eL.out)|exact HB.out)⟩⟩
end Go.Proofs.Ytoebojnhchocaaa.B
/- Set with little white space, by a program. -/
