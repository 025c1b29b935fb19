/- The functions that one law reaches, each as a Lean function, and that Go's call comes to what it says. Condition of each: that the Lean function answers (is not none). -/
import Derived.Test.YtoebojnhchocaaaCx0
import Derived.Test.YtoebojnhchocaaaCx11
namespace Go.Proofs.Ytoebojnhchocaaa.C
open Go.RowKit Go.Proofs.bI.en Go.Proofs.bI.je Go.Proofs.bI.jC
attribute [local go_sem] max2_int min2_int max_two min_two max_three min_three max_four min_four   -- for this text's walks alone
set_option linter.unusedVariables false
set_option linter.unusedSimpArgs false
/-! ### F195: function 195 -/
mutual
def cC.l0 : Nat → List (List Int) → List (List Int) → Int → Int → Option ((List (List Int)))
 | 0,_,_,_,_=>none
 | k+1,x3,fe,fK,gH=>if gH < fK then (if 0≤gH then (if gH < (fe.length:Int) then (if 0 < ((ah fe gH).length:Int) then (if 1 < ((ah fe gH).length:Int) then (if (rd (ah fe gH) 0)=(rd (ah fe gH) 1) then (cC.l0 k x3 fe fK (wrap64 (gH+1))) else (cC.l1 k x3 (ah fe gH) fe fK gH ((ah fe gH).length:Int) 0)) else (none)) else (none)) else (none)) else (none)) else (some x3)
def cC.l1 : Nat → List (List Int) → List Int → List (List Int) → Int → Int → Int → Int → Option ((List (List Int)))
 | 0,_,_,_,_,_,_,_=>none
 | k+1,x3,x5,fe,fK,gH,nU,fS=>if fS < nU then (if 0≤fS then (if fS < (x5.length:Int) then (if 0≤(rd x5 fS) then (if (rd x5 fS) < (x3.length:Int) then (if (rd x5 fS) < ((ah x3 (rd x5 fS)).length:Int) then ((some (x3.set ((rd x5 fS):Int).toNat ((ah x3 (rd x5 fS)).set ((rd x5 fS):Int).toNat (wrap64 ((rd (ah x3 (rd x5 fS)) (rd x5 fS))+1))):List (List Int))).bind fun iP=>(if 0≤(wrap64 (1 - fS)) then (if (wrap64 (1 - fS)) < (x5.length:Int) then (if 0≤(rd x5 (wrap64 (1 - fS))) then (if (rd x5 (wrap64 (1 - fS))) < ((ah iP (rd x5 fS)).length:Int) then (cC.l1 k (iP.set ((rd x5 fS):Int).toNat ((ah iP (rd x5 fS)).set ((rd x5 (wrap64 (1 - fS))):Int).toNat (wrap64 ((rd (ah iP (rd x5 fS)) (rd x5 (wrap64 (1 - fS)))) - 1)))) x5 fe fK gH nU (wrap64 (fS+1))) else (none)) else (none)) else (none)) else (none))) else (none)) else (none)) else (none)) else (none)) else (none)) else (cC.l0 k x3 fe fK (wrap64 (gH+1)))
end
def cC.f (k:Nat) (af:Int) (aa:List (List Int)):Option ((List (List Int))):=(ij.f k af).bind fun t102=>(cC.l0 k t102 aa (aa.length:Int) 0)
theorem cC.b8 : ∀ k, (∀ y0 y1 y2 y3, aj (cC.l0 k y0 y1 y2 y3) (cC.l0 (k + 1) y0 y1 y2 y3)) ∧ (∀ y0 y1 y2 y3 y4 y5 y6, aj (cC.l1 k y0 y1 y2 y3 y4 y5 y6) (cC.l1 (k + 1) y0 y1 y2 y3 y4 y5 y6))
 | 0=>⟨fun _ _ _ _ r h=>by simp [cC.l0] at h,fun _ _ _ _ _ _ _ r h=>by simp [cC.l1] at h⟩
 | k+1=>by
  obtain ⟨akk,ih1⟩:=cC.b8 k
  refine ⟨?_, ?_⟩ <;> intros <;> (first | unfold cC.l0 | unfold cC.l1) <;> repeat' first
   | (with_reducible first|exact akk _ _ _ _|exact ih1 _ _ _ _ _ _ _|exact ij.mono _ _|exact aj.refl _|exact aj.none _|refine aj.ite ?_ ?_|refine aj.bind ?_ (fun _=>?_))
   | exact akk _ _ _ _|exact ih1 _ _ _ _ _ _ _|exact ij.mono _ _|exact aj.none _|refine aj.ite ?_ ?_|refine aj.bind ?_ (fun _=>?_)
theorem cC.mono:∀ a0 a1 k,aj (cC.f k a0 a1) (cC.f (k+1) a0 a1):=by
 intro a0 a1 k
 obtain ⟨akk,ih1⟩:=cC.b8 k
 unfold cC.f
 repeat' first
  | (with_reducible first|exact akk _ _ _ _|exact ih1 _ _ _ _ _ _ _|exact ij.mono _ _|exact aj.refl _|exact aj.none _|refine aj.ite ?_ ?_|refine aj.bind ?_ (fun _=>?_))
  | exact akk _ _ _ _|exact ih1 _ _ _ _ _ _ _|exact ij.mono _ _|exact aj.none _|refine aj.ite ?_ ?_|refine aj.bind ?_ (fun _=>?_)
def cC.T9:Bool × List (List Nat × List Nat):=(true,[([],[]),([],[]),([],[]),([1,2],[1,2]),([3],[3]),([0,4],[0,4]),([5],[5]),([],[]),([],[]),([7,8],[7,8]),([9],[9]),([6,10],[6,10]),([11],[11]),([12],[12]),([6,10,0,1,2,3,4,5,6,7,8,9,10,11,12,13],[6,10]),([14,13,0,1,2,3,4,5,6,7,8,9,10,11,12,13],[13,14])])
def cC.B9:List Nat:=[0,0,0,6,14,31,63,0,0,384,896,2047,4095,8191,16383,32767]
theorem cC.K_:gF .any (opsOf Try.f195 9)=cC.T9:=by kernel_rfl
theorem cC.amP:akZ cC.T9.2 cC.B9=true:=by kernel_rfl
def cC.Bo:Bool × List (List Nat × List Nat):=(true,[([],[]),([],[]),([],[]),([1,2],[1,2]),([3],[3]),([0,4],[0,4]),([5],[5]),([],[]),([],[]),([8],[8]),([7,9],[7,9]),([10],[10]),([6,11],[6,11]),([12],[12]),([13],[13]),([6,11,0,1,2,3,4,5,6,7,8,9,10,11,12,13,14],[6,11]),([15,14,0,1,2,3,4,5,6,7,8,9,10,11,12,13,14],[14,15])])
def cC.Gx:List Nat:=[0,0,0,6,14,31,63,0,0,256,896,1920,4095,8191,16383,32767,65535]
theorem cC.K9:gF .any (opsOf Try.f195 10)=cC.Bo:=by kernel_rfl
theorem cC.amO:akZ cC.Bo.2 cC.Gx=true:=by kernel_rfl
set_option maxHeartbeats 8000000 in
set_option maxRecDepth 100000 in
theorem cC.calls (k : Nat) (af : Int) (aq : Option Addr) (ak : Nat) (aa : List (List Int)) (r : List (List Int)) (w : World) (akv : Kd.C (Kd.slice 2 (Kd.int .i64)) w aq aa.length aa) (akw : aa.length ≤ ak) (h : cC.f k af aa = some r) :
  Calls Try.prog 195 #[.agg #[.int .i64 af,.slice aq aa.length ak]] w fun e w'=>∃ dK:Value,e=.returned (dK)∧Kd.S (Kd.slice 2 (Kd.int .i64)) 28 w' w.heap.size (fun _=>True) dK r∧Below w.heap.size w w':=by
 have j8:=Try.underlying31
 have bU:=k0 akv
 have cG:=k0 akw
 clear akv akw
 have HB:=k0 (Below.refl w.heap.size w)
 have H:((ij.f k af).bind fun t102=>(cC.l0 k t102 aa (aa.length:Int) 0))=some r:=h
 clear h
 replace H:=Option.bind_eq_some_iff.mp H
 obtain ⟨t102,lM,H⟩:=H
 replace H:(cC.l0 k t102 aa (aa.length:Int) 0)=some r:=H
 have A2:=k0 lM
 clear lM
 have H':=k0 H
 clear H
 go_enter Try.func195,Try.ntmps195
 go_wp2_with (first|((with_reducible refine cj (N:=1) rfl ?_);refine dJ ?hg (N:=1) ?hd (cs:=#[.int .i64 af,.slice aq aa.length ak]) (t:=31) ?hr ?_;(case hd=>rfl);(case hg=>rfl);(case hr=>first|(go_simp;done)|(go_simp;rfl));intro ai hg w3 aK hb;have ag:=k0 (aK);have aks:=k0 ((by rw [hg];exact (aU bl):w.heap.size≤ai));have ej:=aks;replace HB:=k0 (aI bl hb);clear hb aK hg;have wZ:w3.cell? ⟨ai,0,none⟩=some (.int .i64 af):=(av ag.out 0).trans rfl;have alF:w3.cell? ⟨ai,1,none⟩=some (.slice aq aa.length ak):=(av ag.out 1).trans rfl;have alJ:=aH ag.out 0;have alK:=aH ag.out 1)|((with_reducible refine cZ (f:=204) rfl ?_);refine c_ (some 9) rfl rfl Try.func204 (by kernel_rfl) rfl #[.int .i64 af] rfl gm ?_;(with_reducible refine (ij.calls k af t102 _ A2.out).mono ?_);rintro e w5 ⟨dx,rfl,ake,hb⟩;refine ⟨_,rfl,?_⟩;have bh:=k0 (Kd.ak0 ake (aU bl));replace ag:=k0 (akj (g:=ai) (o:=sO af aq aa ak 31) bk hb);replace HB:=k0 (aI bl hb);(try clear hb);(try clear ake);have vz:w5.cell? ⟨ai,0,none⟩=some (.int .i64 af):=(av ag.out 0).trans rfl;have vA:w5.cell? ⟨ai,1,none⟩=some (.slice aq aa.length ak):=(av ag.out 1).trans rfl;have vE:=aH ag.out 0;have vF:=aH ag.out 1))
 go_loopg [13] k (fun kq zo w'=>∃ (bD:List (List Int)) (aki:Int),zo=.int .i64 aki∧au (cC.l0 kq bD aa (aa.length:Int) aki=some r)∧au (kq≤k)∧au (Kd.S (Kd.slice 2 (Kd.int .i64)) 28 w' w.heap.size (fun _=>True) dx bD)∧au (w'.heap[ai]?=some (sO af aq aa ak 31))∧au (Below w.heap.size w w'))
 case atStart=>exact ⟨(t102),(0),rs,H',⟨Nat.le_refl _⟩,⟨aS (bh.out)⟩,⟨bk⟩,⟨bl⟩⟩
 case round =>
  clear H'
  (try clear wZ);(try clear alF);(try clear vz);(try clear vA);(try clear alJ);(try clear alK);(try clear vE);(try clear vF)
  obtain ⟨bD,aki,rfl,HA,akl,az,ag,HB⟩:=hrel
  cases gk with
  | zero=>exact absurd HA.out (by simp [cC.l0])
  | succ k1 =>
   have H:=HA.out
   clear HA
   simp only [cC.l0] at H
   by_cases c7:aki < (aa.length:Int)
   case neg =>
    rw [if_neg c7] at H
    have gK:decide (aki < (aa.length:Int))=false:=decide_eq_false c7
    clear c7
    obtain rfl:=Option.some.inj H
    go_wp2
    go_ret
    exact ⟨_,by first|rfl|(simp [bq,bt]<;>rfl)|(simp [*,bq,bt]<;>rfl),by (with_reducible repeat (first|apply Kd.gI|apply Kd.gJ|apply Kd.eT));exact az.out,bl⟩
   rw [if_pos c7] at H
   have gK:=decide_eq_true c7
   clear c7
   replace H:=iS H;obtain ⟨c8,H⟩:=H
   have iX:=decide_eq_true c8
   clear c8
   replace H:=iS H;obtain ⟨c9,H⟩:=H
   have k8:=decide_eq_true c9
   clear c9
   replace H:=iS H;obtain ⟨c10,H⟩:=H
   have lB:=decide_eq_true c10
   have u_:decide (0 < (ah aa aki).length)=true:=decide_eq_true (by omega)
   clear c10
   replace H:=iS H;obtain ⟨c11,H⟩:=H
   have mz:=decide_eq_true c11
   have sq:decide (1 < (ah aa aki).length)=true:=decide_eq_true (by omega)
   clear c11
   by_cases c12:(rd (ah aa aki) 0)=(rd (ah aa aki) 1)
   case neg =>
    rw [if_neg c12] at H
    have rG:((rd (ah aa aki) 0) == (rd (ah aa aki) 1))=false:=beq_eq_false_iff_ne.mpr c12
    have z1:((rd (ah aa aki) 0) != (rd (ah aa aki) 1))=true:=bne_iff_ne.mpr c12
    have H':=k0 H
    clear H
    have cX:0≤(aki:Int):=oD
    have cU:aki < (aa.length:Int):=oD
    obtain ⟨kr,ama,BA,e105,dY,qg,qd⟩:=cW bU.out aki cX cU
    cases e105
    replace dY:=hbc HB dY
    have p4:=k0 qd
    have D7:=k0 qg
    clear qd qg
    replace cX:=eq_true cX
    replace cU:=eq_true cU
    try go_wp2
    replace az:=k0 (Kd.eT az.out);replace ag:=k0 (ct ag.out);replace HB:=k0 (cP HB.out)
    have dN:0≤(0:Int):=(by omega)
    have dH:0 < ((ah aa aki).length:Int):=oD
    obtain ⟨gB,e106,dF⟩:=Kd.bH p4.out 0 dN dH
    have aln:=dF
    (try rw [show ((0:Int)).toNat=0 from rfl] at aln)
    (try rw [show 0 * 1=0 from rfl] at aln)
    (try rw [Addr.add_zero'] at aln)
    cases e106
    have AP:(0 < (ah aa aki).length)=True:=eq_true (by omega)
    (try rw [show ((0:Int)).toNat=0 from rfl] at dF)
    (try rw [Addr.add_zero'] at dF)
    replace dF:=hbc HB dF
    replace dN:=eq_true dN
    replace dH:=eq_true dH
    have gh:0≤(1:Int):=(by omega)
    have gj:1 < ((ah aa aki).length:Int):=oD
    obtain ⟨o9,e107,fR⟩:=Kd.bH p4.out 1 gh gj
    have alo:=fR
    (try rw [show ((1:Int)).toNat=1 from rfl] at alo)
    (try rw [show 1 * 1=1 from rfl] at alo)
    (try simp only [Nat.reduceMul,Nat.reduceEqDiff,Go.Addr.add,↓reduceIte] at alo)
    obtain rfl:gB=o9:=(by injection e107)
    (try simp only [show (1:Int).toNat=1 from rfl,Nat.reduceMul,Nat.reduceEqDiff,Go.Addr.add,↓reduceIte] at fR)
    have adv:(1 < (ah aa aki).length)=True:=eq_true (by omega)
    (try rw [show ((1:Int)).toNat=1 from rfl] at fR)
    replace fR:=hbc HB fR
    replace gh:=eq_true gh
    replace gj:=eq_true gj
    refine lJ (n:=7) (S:=fun w'=>w'.cell? gB=some (.int .i64 (rd (ah aa aki) 0))∧w'.cell? ⟨gB.block,gB.off+1,none⟩=some (.int .i64 (rd (ah aa aki) 1))) (ds:=[]) (ba 7 0) (by kernel_rfl) rfl rfl ⟨(hbc HB aln),(hbc HB alo)⟩ (fun hHeld=>?_)
    generalize wr.drew=Sw at az ag HB dF fR hHeld ⊢
    refine lZ (i:=0) (N:=some 17) (v:=?_) (a':=?_) (ba 7 1) rfl rfl (by kernel_rfl) (fun _ _ _ h=>h) (Or.inl ⟨by rfl,?_⟩) ?_ ?_
    rotate_left;· intro w';go_simp;with_reducible rfl
    rotate_left;· simp only [Act.put,zI,zZ,zS,akx,cu];rfl
    refine lZ (i:=1) (N:=some 18) (v:=?_) (a':=?_) (ba 7 3) rfl rfl (by kernel_rfl) (fun _ _ _ h=>h) (Or.inl ⟨by rfl,?_⟩) ?_ ?_
    rotate_left;· intro w';go_simp;with_reducible rfl
    rotate_left;· simp only [Act.put,zI,zZ,zS,akx,cu];rfl
    refine lZ (i:=3) (N:=some 20) (v:=?_) (a':=?_) (ba 7 11) rfl rfl (by kernel_rfl) (fun _ _ _ h=>h) (Or.inl ⟨by rfl,?_⟩) ?_ ?_
    rotate_left;· intro w';go_simp;with_reducible rfl
    rotate_left;· simp only [Act.put,zI,zZ,zS,akx,cu];rfl
    refine lZ (i:=4) (N:=some 21) (v:=?_) (a':=?_) (ba 7 27) rfl rfl (by kernel_rfl) (fun _ _ _ h=>h) (Or.inl ⟨by rfl,?_⟩) ?_ ?_
    rotate_left;· intro w';go_simp;with_reducible rfl
    rotate_left;· simp only [Act.put,zI,zZ,zS,akx,cu];rfl
    refine l5 (i:=2) (N:=some 19) (v:=?_) (a':=?_) (ba 7 31) rfl rfl (by kernel_rfl) (fun _ _ _ h=>h) (Or.inl ⟨by rfl,?_⟩) hHeld ?_ ?_
    rotate_left;· rintro w' ⟨s0,s1⟩;go_simp;with_reducible rfl
    rotate_left;· simp only [Act.put,zI,zZ,zS,akx,cu];rfl
    refine l5 (i:=5) (N:=some 22) (v:=?_) (a':=?_) (ba 7 63) rfl rfl (by kernel_rfl) (fun _ _ _ h=>h) (Or.inl ⟨by rfl,?_⟩) hHeld ?_ ?_
    rotate_left;· rintro w' ⟨s0,s1⟩;go_simp;with_reducible rfl
    rotate_left;· simp only [Act.put,zI,zZ,zS,akx,cu];rfl
    refine lZ (i:=6) (N:=some 23) (v:=?_) (a':=?_) (ba 7 127) rfl rfl (by kernel_rfl) (fun _ _ _ h=>h) (Or.inl ⟨by rfl,?_⟩) ?_ ?_
    rotate_left;· intro w';go_simp;with_reducible rfl
    rotate_left;· simp only [Act.put,zI,zZ,zS,akx,cu];rfl
    refine lC (by kernel_rfl) ?_
    try go_wp2
    go_loopg [26] k1 (fun kq v26 w'=>∃ (aE:List (List Int)) (bK:Int),v26=.int .i64 bK∧au (cC.l1 kq aE (ah aa aki) aa (aa.length:Int) aki ((ah aa aki).length:Int) bK=some r)∧au (kq≤k1)∧au (Kd.S (Kd.slice 2 (Kd.int .i64)) 28 w' w.heap.size (fun _=>True) dx aE)∧au (w'.heap[ai]?=some (sO af (some kr) aa ak 31))∧au (Below w.heap.size w w'))
    case atStart=>exact ⟨(bD),(0),rs,H',⟨Nat.le_refl _⟩,⟨aS (az.out)⟩,⟨bk⟩,⟨bl⟩⟩
    case round =>
     clear H'
     (try clear c7);(try clear gK);(try clear c8);(try clear iX);(try clear c9);(try clear k8);(try clear c10);(try clear lB);(try clear u_);(try clear c11);(try clear mz);(try clear sq);(try clear c12);(try clear rG);(try clear z1);(try clear wZ);(try clear alF);(try clear vz);(try clear vA);(try clear alJ);(try clear alK);(try clear vE);(try clear vF);(try clear dY);(try clear dF);(try clear fR);(try clear cX);(try clear dN);(try clear gh);(try clear cU);(try clear dH);(try clear gj)
     obtain ⟨aE,bK,rfl,HA,bz,az,ag,HB⟩:=hrel
     cases gk with
     | zero=>exact absurd HA.out (by simp [cC.l1])
     | succ k2 =>
      have H:=HA.out
      clear HA
      simp only [cC.l1] at H
      by_cases c15:bK < ((ah aa aki).length:Int)
      case neg =>
       rw [if_neg c15] at H
       have kR:decide (bK < ((ah aa aki).length:Int))=false:=decide_eq_false c15
       clear c15
       have H':=k0 H
       clear H
       go_wp2
       first|go_roundg k2|(simp only [← jG];go_roundg k2)
       case measure=>have:=akl.out;have:=bz.out;omega
       case rel=>exact ⟨(aE),(wrap64 (aki+1)),rs,(by first|exact H'|(rw [jG];exact H')),⟨by have:=akl.out;have:=bz.out;omega⟩,⟨aS (az.out)⟩,⟨bk⟩,⟨bl⟩⟩
      rw [if_pos c15] at H
      have kR:=decide_eq_true c15
      clear c15
      replace H:=iS H;obtain ⟨c16,H⟩:=H
      have qN:=decide_eq_true c16
      clear c16
      replace H:=iS H;obtain ⟨c17,H⟩:=H
      have oN:=decide_eq_true c17
      clear c17
      replace H:=iS H;obtain ⟨c18,H⟩:=H
      have tY:=decide_eq_true c18
      clear c18
      replace H:=iS H;obtain ⟨c19,H⟩:=H
      have mA:=decide_eq_true c19
      clear c19
      replace H:=iS H;obtain ⟨c20,H⟩:=H
      have og:=decide_eq_true c20
      clear c20
      obtain ⟨nA,alq⟩:∃ y_:List Int,y_=((ah aE (rd (ah aa aki) bK)).set ((rd (ah aa aki) bK):Int).toNat (wrap64 ((rd (ah aE (rd (ah aa aki) bK)) (rd (ah aa aki) bK))+1))):=⟨_,rfl⟩
      replace H:((some (aE.set ((rd (ah aa aki) bK):Int).toNat nA:List (List Int))).bind fun iP=>(if 0≤(wrap64 (1 - bK)) then (if (wrap64 (1 - bK)) < ((ah aa aki).length:Int) then (if 0≤(rd (ah aa aki) (wrap64 (1 - bK))) then (if (rd (ah aa aki) (wrap64 (1 - bK))) < ((ah iP (rd (ah aa aki) bK)).length:Int) then (cC.l1 k2 (iP.set ((rd (ah aa aki) bK):Int).toNat ((ah iP (rd (ah aa aki) bK)).set ((rd (ah aa aki) (wrap64 (1 - bK))):Int).toNat (wrap64 ((rd (ah iP (rd (ah aa aki) bK)) (rd (ah aa aki) (wrap64 (1 - bK)))) - 1)))) (ah aa aki) aa (aa.length:Int) aki ((ah aa aki).length:Int) (wrap64 (bK+1))) else (none)) else (none)) else (none)) else (none)))=some r:=by first|(rw [alq];with_reducible exact H)|(have ay:=(Option.bind_some _ _).symm.trans H;rw [alq];with_reducible exact ay)|(have ay:=(Option.bind_some _ _).symm.trans H;with_reducible exact ay)|with_reducible exact H|(rw [alq];exact H)|exact H
      have zM:=k0 alq
      clear alq
      obtain ⟨iP,C9⟩:∃ y_:List (List Int),y_=(aE.set ((rd (ah aa aki) bK):Int).toNat nA):=⟨_,rfl⟩
      replace H:(if 0≤(wrap64 (1 - bK)) then (if (wrap64 (1 - bK)) < ((ah aa aki).length:Int) then (if 0≤(rd (ah aa aki) (wrap64 (1 - bK))) then (if (rd (ah aa aki) (wrap64 (1 - bK))) < ((ah iP (rd (ah aa aki) bK)).length:Int) then (cC.l1 k2 (iP.set ((rd (ah aa aki) bK):Int).toNat ((ah iP (rd (ah aa aki) bK)).set ((rd (ah aa aki) (wrap64 (1 - bK))):Int).toNat (wrap64 ((rd (ah iP (rd (ah aa aki) bK)) (rd (ah aa aki) (wrap64 (1 - bK)))) - 1)))) (ah aa aki) aa (aa.length:Int) aki ((ah aa aki).length:Int) (wrap64 (bK+1))) else (none)) else (none)) else (none)) else (none))=some r:=by first|(rw [C9];with_reducible exact H)|(have ay:=(Option.bind_some _ _).symm.trans H;rw [C9];with_reducible exact ay)|(have ay:=(Option.bind_some _ _).symm.trans H;with_reducible exact ay)|with_reducible exact H|(rw [C9];exact H)|exact H
      have HJ:=k0 C9
      clear C9
      obtain ⟨i_,jG⟩:∃ j_:Int,(wrap64 (1 - bK))=j_:=⟨_,rfl⟩
      replace H:(if 0≤(i_) then (if (i_) < ((ah aa aki).length:Int) then (if 0≤(rd (ah aa aki) (i_)) then (if (rd (ah aa aki) (i_)) < ((ah iP (rd (ah aa aki) bK)).length:Int) then (cC.l1 k2 (iP.set ((rd (ah aa aki) bK):Int).toNat ((ah iP (rd (ah aa aki) bK)).set ((rd (ah aa aki) (i_)):Int).toNat (wrap64 ((rd (ah iP (rd (ah aa aki) bK)) (rd (ah aa aki) (i_))) - 1)))) (ah aa aki) aa (aa.length:Int) aki ((ah aa aki).length:Int) (wrap64 (bK+1))) else (none)) else (none)) else (none)) else (none))=some r:=by first|(rw [jG] at H;exact H)|(simp only [jG] at H ⊢;exact H)
      have ahE:(IntKind.i64.wrap (1 - bK))=i_:=(akx _).trans jG
      replace H:=iS H;obtain ⟨c23,H⟩:=H
      have rI:=decide_eq_true c23
      clear c23
      replace H:=iS H;obtain ⟨c24,H⟩:=H
      have t_:=decide_eq_true c24
      clear c24
      replace H:=iS H;obtain ⟨c25,H⟩:=H
      have alv:=decide_eq_true c25
      clear c25
      replace H:=iS H;obtain ⟨c26,H⟩:=H
      have wG:=decide_eq_true c26
      clear c26
      obtain ⟨al',td⟩:∃ y_:List Int,y_=((ah iP (rd (ah aa aki) bK)).set ((rd (ah aa aki) (i_)):Int).toNat (wrap64 ((rd (ah iP (rd (ah aa aki) bK)) (rd (ah aa aki) (i_))) - 1))):=⟨_,rfl⟩
      replace H:(cC.l1 k2 (iP.set ((rd (ah aa aki) bK):Int).toNat al') (ah aa aki) aa (aa.length:Int) aki ((ah aa aki).length:Int) (wrap64 (bK+1)))=some r:=by first|(rw [td];with_reducible exact H)|(have ay:=(Option.bind_some _ _).symm.trans H;rw [td];with_reducible exact ay)|(have ay:=(Option.bind_some _ _).symm.trans H;with_reducible exact ay)|with_reducible exact H|(rw [td];exact H)|exact H
      have amF:=k0 td
      clear td
      obtain ⟨DV,th⟩:∃ y_:List (List Int),y_=(iP.set ((rd (ah aa aki) bK):Int).toNat al'):=⟨_,rfl⟩
      replace H:(cC.l1 k2 DV (ah aa aki) aa (aa.length:Int) aki ((ah aa aki).length:Int) (wrap64 (bK+1)))=some r:=by first|(rw [th];with_reducible exact H)|(have ay:=(Option.bind_some _ _).symm.trans H;rw [th];with_reducible exact ay)|(have ay:=(Option.bind_some _ _).symm.trans H;with_reducible exact ay)|with_reducible exact H|(rw [th];exact H)|exact H
      have amG:=k0 th
      clear th
      have H':=k0 H
      clear H
      try go_wp2
      replace az:=k0 (Kd.eT az.out);replace ag:=k0 (ct ag.out);replace HB:=k0 (cP HB.out)
      have ec:0≤(bK:Int):=oD
      have dS:bK < ((ah aa aki).length:Int):=oD
      obtain ⟨akU,e108,fu⟩:=Kd.bH p4.out bK ec dS
      have abu:=fu
      obtain rfl:gB=akU:=(by injection e108)
      replace fu:=hbc HB fu
      replace ec:=eq_true ec
      replace dS:=eq_true dS
      obtain ⟨LZ,Ij,EO⟩:=Kd.oK az.out
      (first|subst EO|(injection EO with akL k9 gU;have akW:=akL.symm;have akX:=gU.symm;clear akL k9 gU;subst akW;subst akX))
      have eG:0≤((rd (ah aa aki) bK):Int):=oD
      have ew:(rd (ah aa aki) bK) < (aE.length:Int):=oD
      obtain ⟨lQ,Gt,EA,e109,akF,sY,sR⟩:=cW (Kd.bY az.out).2.2 (rd (ah aa aki) bK) eG ew
      cases e109
      obtain ⟨NH,Cg,amo,wW⟩:=Kd.mj az.out [] (rd (ah aa aki) bK) eG (by first|exact ew|exact oD|(have e_:=(Kd.bY az.out).1;omega))
      obtain ⟨Sp,rfl,sD⟩:=amo
      have ov:=wW 0 _ rfl
      rw [Nat.add_zero,show ((Kd.slice 2 (Kd.int .i64))).sz=1 from rfl,Nat.mul_one] at ov
      replace ov:=Option.some.inj (ov.symm.trans akF)
      rw [ov] at sD
      have uO:=k0 (show Kd.R (Kd.int .i64) 2 _ _ _ _ (ah aE (rd (ah aa aki) bK)) from sD)
      clear ov sD
      have ru:=k0 akF
      clear wW Cg
      have nY:=k0 sR
      have GP:=k0 sY
      clear sR sY
      replace eG:=eq_true eG
      replace ew:=eq_true ew
      have jw:0≤(bK:Int):=oD
      have jx:bK < ((ah aa aki).length:Int):=oD
      obtain ⟨akV,e110,kD⟩:=Kd.bH p4.out bK jw jx
      have AE:=kD
      obtain rfl:gB=akV:=(by injection e110)
      replace kD:=hbc HB kD
      replace jw:=eq_true jw
      replace jx:=eq_true jx
      have gi:0≤((rd (ah aa aki) bK):Int):=oD
      have gl:(rd (ah aa aki) bK) < ((ah aE (rd (ah aa aki) bK)).length:Int):=oD
      obtain ⟨mX,e111,gM⟩:=Kd.bH (by repeat (first|(with_reducible exact nY.out)|(with_reducible refine Kd.kK ?_ _)|(with_reducible refine Kd.kY ?_ _)|(with_reducible refine Kd.jY ?_)|exact nY.out)) (rd (ah aa aki) bK) gi gl
      cases e111
      replace gi:=eq_true gi
      replace gl:=eq_true gl
      have tD:0≤((rd (ah aa aki) bK):Int):=oD
      have alu:((rd (ah aa aki) bK):Int) < (((ah aE (rd (ah aa aki) bK)).length:Int):Int):=oD
      obtain ⟨sH,vk,rK,wO,B2,NI,wk⟩:=Kd.akT uO.out (by omega)
      (first|cases rK|(injection rK with bf dn dm;(first|subst bf|(injection bf with bf;subst bf));subst dm;clear dn))
      (first|simp only [add_plain] at gM|skip)
      have amg:=k0 wO
      have GK:=k0 wk
      clear wO B2 wk
      (first|simp only [add_plain] at gM|skip)
      obtain ⟨J5,JA⟩:=Kd.jD 0 uO.out ((rd (ah aa aki) bK):Int) tD alu
      replace tD:=eq_true tD
      replace alu:=eq_true alu
      have abl:((rd (ah aa aki) bK):Int) < (aE.length:Int):=(by have h_:((rd (ah aa aki) bK):Int) < ((aE.length:Int):Int):=oD;first|exact h_|(have e_:=(Kd.bY az.out).1;omega)|simpa only [List.length_set,List.length_set] using h_)
      obtain ⟨ajr,agl,Z2,Zf,Po,QF,O0⟩:=Kd.zT az.out [] ((rd (ah aa aki) bK):Int) oD (by first|exact abl|(have e_:=(Kd.bY az.out).1;omega))
      obtain ⟨aj0,rfl,BZ⟩:=Zf
      have Fm:=Po 0 _ rfl
      rw [Nat.add_zero,show ((Kd.slice 2 (Kd.int .i64))).sz=1 from rfl,Nat.mul_one] at Fm
      replace Fm:=Option.some.inj (Fm.symm.trans ru.out)
      subst Fm
      clear Po Z2
      replace BZ:=(show Kd.R (Kd.int .i64) 2 _ _ _ _ (ah aE (rd (ah aa aki) bK)) from BZ)
      have mU:=Kd.kP BZ ((rd (ah aa aki) bK):Int) (wrap64 ((rd (ah aE (rd (ah aa aki) bK)) (rd (ah aa aki) bK))+1))
      have UB:=k0 (Ab mU.2 ru.out (Ac (QF _ (BZ.1 _ rfl)).2))
      rw [← zM.out] at mU
      have afy:=k0 mU.1
      have Hq:=O0 mU.2 (fun k_ e_=>by injection e_ with e_;subst e_;exact BZ.1 _ rfl) (x':=nA) (Kd.rz mU.1)
      rw [← HJ.out] at Hq
      have He:=k0 Hq
      clear mU Hq O0 QF
      refine lJ (n:=16) (S:=fun w'=>w'.cell? (gB.add (bK).toNat)=some (.int .i64 (rd (ah aa aki) bK))∧w'.cell? (lQ.add ((rd (ah aa aki) bK)).toNat)=some (.slice (some ⟨sH,0,none⟩) (ah aE (rd (ah aa aki) bK)).length EA)∧w'.cell? (gB.add (bK).toNat)=some (.int .i64 (rd (ah aa aki) bK))∧w'.cell? ⟨sH,((rd (ah aa aki) bK)).toNat,none⟩=some (.int .i64 (rd (ah aE (rd (ah aa aki) bK)) (rd (ah aa aki) bK)))) (ds:=[15]) (ba 16 0) (by kernel_rfl) rfl rfl ⟨(hbc HB abu),akF,(hbc HB AE),gM⟩ (fun hHeld=>?_);refine qu cC.K_ cC.amP (fun aA dh=>?_)
      generalize wr.drew=nw at az ag HB GK uO He nY ru UB JA fu akF kD gM J5 hHeld ⊢
      refine pu 0 (some 29) (ba 16 1) aA (h:=?_)
      refine pu 1 (some 30) (ba 16 3) aA (h:=?_)
      refine pu 2 (some 31) (ba 16 7) aA (h:=?_)
      refine pu 3 (some 32) (ba 16 15) aA (h:=?_)
      refine pu 7 (some 36) (ba 16 143) aA (h:=?_)
      refine pu 8 (some 37) (ba 16 399) aA (h:=?_)
      refine pu 9 (some 38) (ba 16 911) aA (h:=?_)
      refine ta 4 (some 33) (ba 16 927) aA dh hHeld (hy:=Or.inl ⟨by rfl,by rintro w' ⟨s0,s1,s2,s3⟩;go_simp;with_reducible rfl⟩) (h:=?_)
      refine pu 5 (some 34) (ba 16 959) aA (h:=?_)
      refine ta 6 (some 35) (ba 16 1023) aA dh hHeld (hy:=Or.inl ⟨by rfl,by rintro w' ⟨s0,s1,s2,s3⟩;go_simp;with_reducible rfl⟩) (h:=?_)
      refine ta 10 (some 39) (ba 16 2047) aA dh hHeld (hy:=Or.inl ⟨by rfl,by rintro w' ⟨s0,s1,s2,s3⟩;go_simp;with_reducible rfl⟩) (h:=?_)
      refine pu 11 (some 40) (ba 16 4095) aA (h:=?_)
      refine ta 12 (some 41) (ba 16 8191) aA dh hHeld (hy:=Or.inl ⟨by rfl,by rintro w' ⟨s0,s1,s2,s3⟩;go_simp;with_reducible rfl⟩) (h:=?_)
      refine pu 13 (some 42) (ba 16 16383) aA (h:=?_)
      refine pu 14 (some 43) (ba 16 32767) aA (h:=?_)
      refine rU (i:=15) (N:=none) (ba 16 65535) rfl rfl (kF aA.out (by kernel_rfl)) (by decide) (fun K hK=>?_)
      refine pP (w1:=?_) (by rfl) rfl ?_ ?_
      rotate_left;· go_simp;rfl
      refine hK.out _ _ ?_
      clear hK K
      refine lC (p_ aA.out (by kernel_rfl)) ?_
      try go_wp2
      have akf:au (Kd.S (Kd.slice 2 (Kd.int .i64)) 28 (nw.setCell ⟨sH,((rd (ah aa aki) bK):Int).toNat,none⟩ (.int .i64 (wrap64 ((rd (ah aE (rd (ah aa aki) bK)) (rd (ah aa aki) bK))+1)))) w.heap.size (fun _=>True) (.slice (some lQ) aE.length Ij) iP):=⟨aS (He.out)⟩
      have aD:au ((nw.setCell ⟨sH,((rd (ah aa aki) bK):Int).toNat,none⟩ (.int .i64 (wrap64 ((rd (ah aE (rd (ah aa aki) bK)) (rd (ah aa aki) bK))+1)))).heap[ai]?=some (sO af (some kr) aa ak 31)):=⟨by (with_reducible repeat (first|refine ee ?_ _|refine ct ?_|refine dX ?_ _));refine fX ?_ (by have h_:=Kd.iD uO.out ag.out (by decide);intro e_;exact h_ (by rw [e_];rfl)) _;exact bk⟩
      have aJ:au (Below w.heap.size w (nw.setCell ⟨sH,((rd (ah aa aki) bK):Int).toNat,none⟩ (.int .i64 (wrap64 ((rd (ah aE (rd (ah aa aki) bK)) (rd (ah aa aki) bK))+1))))):=⟨by repeat (first|(with_reducible first|exact HB.out|apply dA|apply akz|apply cP|refine dM ?_ amg.out|refine dM ?_ ej.out)|exact HB.out)⟩
      (try clear az)
      (try clear ag)
      (try clear HB)
      generalize (nw.setCell ⟨sH,((rd (ah aa aki) bK):Int).toNat,none⟩ (.int .i64 (wrap64 ((rd (ah aE (rd (ah aa aki) bK)) (rd (ah aa aki) bK))+1))))=uC at akf aD aJ ⊢
      have az:=akf
      have ag:=aD
      have HB:=aJ
      clear akf aD aJ
      replace az:=k0 (Kd.eT az.out);replace ag:=k0 (ct ag.out);replace HB:=k0 (cP HB.out)
      have Ku:0≤(bK:Int):=oD
      have amS:bK < ((ah aa aki).length:Int):=oD
      obtain ⟨VE,e115,Fv⟩:=Kd.bH p4.out bK Ku amS
      have abw:=Fv
      obtain rfl:gB=VE:=(by injection e115)
      replace Fv:=hbc HB Fv
      replace Ku:=eq_true Ku
      replace amS:=eq_true amS
      have xw:0≤((rd (ah aa aki) bK):Int):=oD
      have xy:(rd (ah aa aki) bK) < (iP.length:Int):=(by have h_:((rd (ah aa aki) bK):Int) < ((aE.length:Int):Int):=oD;first|(have e_:=(Kd.bY az.out).1;omega)|simpa only [HJ.out,List.length_set] using h_)
      have ajA:(((rd (ah aa aki) bK):Int) < ((aE.length:Int):Int))=True:=eq_true oD
      obtain ⟨amL,ae1,Wn,e116,alp,Qp,P_⟩:=cW (Kd.bY az.out).2.2 (rd (ah aa aki) bK) xw xy
      obtain rfl:lQ=amL:=(by injection e116)
      obtain ⟨af',ZO,Zl,O_⟩:=Kd.mj az.out [] (rd (ah aa aki) bK) xw (by first|exact xy|exact oD|(have e_:=(Kd.bY az.out).1;omega))
      obtain ⟨ajO,rfl,IE⟩:=Zl
      have CP:=O_ 0 _ rfl
      rw [Nat.add_zero,show ((Kd.slice 2 (Kd.int .i64))).sz=1 from rfl,Nat.mul_one] at CP
      replace CP:=Option.some.inj (CP.symm.trans alp)
      rw [CP] at IE
      have Ec:=k0 (show Kd.R (Kd.int .i64) 2 _ _ _ _ (ah iP (rd (ah aa aki) bK)) from IE)
      clear CP IE
      have Ht:=k0 alp
      clear O_ ZO
      have Hg:=k0 P_
      have afk:=k0 Qp
      clear P_ Qp
      replace xw:=eq_true xw
      replace xy:=eq_true xy
      have pJ:0≤((i_):Int):=oD
      have pM:(i_) < ((ah aa aki).length:Int):=oD
      obtain ⟨Bq,e117,mI⟩:=Kd.bH p4.out (i_) pJ pM
      have al8:=mI
      obtain rfl:gB=Bq:=(by injection e117)
      replace mI:=hbc HB mI
      replace pJ:=eq_true pJ
      replace pM:=eq_true pM
      have pK:0≤((rd (ah aa aki) (i_)):Int):=oD
      have pN:(rd (ah aa aki) (i_)) < ((ah iP (rd (ah aa aki) bK)).length:Int):=oD
      obtain ⟨Et,e118,nr⟩:=Kd.bH (by repeat (first|(with_reducible exact Hg.out)|(with_reducible refine Kd.kK ?_ _)|(with_reducible refine Kd.kY ?_ _)|(with_reducible refine Kd.jY ?_)|exact Hg.out)) (rd (ah aa aki) (i_)) pK pN
      cases e118
      replace pK:=eq_true pK
      replace pN:=eq_true pN
      have KG:0≤((rd (ah aa aki) (i_)):Int):=oD
      have KW:((rd (ah aa aki) (i_)):Int) < (((ah iP (rd (ah aa aki) bK)).length:Int):Int):=oD
      obtain ⟨OC,NP,EN,Oq,YP,agu,Mm⟩:=Kd.akT Ec.out (by omega)
      (first|cases EN|(injection EN with bf dn dm;(first|subst bf|(injection bf with bf;subst bf));subst dm;clear dn))
      (first|simp only [add_plain] at nr|skip)
      have TM:=k0 Oq
      have TV:=k0 Mm
      clear Oq YP Mm
      (first|simp only [add_plain] at nr|skip)
      obtain ⟨abC,aaC⟩:=Kd.jD 0 Ec.out ((rd (ah aa aki) (i_)):Int) KG KW
      replace KG:=eq_true KG
      replace KW:=eq_true KW
      have abm:((rd (ah aa aki) bK):Int) < (iP.length:Int):=(by have h_:((rd (ah aa aki) bK):Int) < ((aE.length:Int):Int):=oD;first|exact h_|(have e_:=(Kd.bY az.out).1;omega)|simpa only [HJ.out,List.length_set] using h_)
      obtain ⟨ajs,agm,Z3,Zg,Pp,QG,O1⟩:=Kd.zT az.out [] ((rd (ah aa aki) bK):Int) oD (by first|exact abm|(have e_:=(Kd.bY az.out).1;omega))
      obtain ⟨aj1,rfl,B0⟩:=Zg
      have Fo:=Pp 0 _ rfl
      rw [Nat.add_zero,show ((Kd.slice 2 (Kd.int .i64))).sz=1 from rfl,Nat.mul_one] at Fo
      replace Fo:=Option.some.inj (Fo.symm.trans Ht.out)
      subst Fo
      clear Pp Z3
      replace B0:=(show Kd.R (Kd.int .i64) 2 _ _ _ _ (ah iP (rd (ah aa aki) bK)) from B0)
      have pZ:=Kd.kP B0 ((rd (ah aa aki) (i_)):Int) (wrap64 ((rd (ah iP (rd (ah aa aki) bK)) (rd (ah aa aki) (i_))) - 1))
      have UC:=k0 (Ab pZ.2 Ht.out (Ac (QG _ (B0.1 _ rfl)).2))
      rw [← amF.out] at pZ
      have afz:=k0 pZ.1
      have Hr:=O1 pZ.2 (fun k_ e_=>by injection e_ with e_;subst e_;exact B0.1 _ rfl) (x':=al') (Kd.rz pZ.1)
      rw [← amG.out] at Hr
      have MF:=k0 Hr
      clear pZ Hr O1 QG
      refine lJ (n:=17) (S:=fun w'=>w'.cell? (gB.add (bK).toNat)=some (.int .i64 (rd (ah aa aki) bK))∧w'.cell? (lQ.add ((rd (ah aa aki) bK)).toNat)=some (.slice (some ⟨OC,0,none⟩) (ah iP (rd (ah aa aki) bK)).length Wn)∧w'.cell? (gB.add ((i_)).toNat)=some (.int .i64 (rd (ah aa aki) (i_)))∧w'.cell? ⟨OC,((rd (ah aa aki) (i_))).toNat,none⟩=some (.int .i64 (rd (ah iP (rd (ah aa aki) bK)) (rd (ah aa aki) (i_))))) (ds:=[16]) (ba 17 0) (by kernel_rfl) rfl rfl ⟨(hbc HB abw),alp,(hbc HB al8),nr⟩ (fun hHeld=>?_);refine qu cC.K9 cC.amO (fun aA dh=>?_)
      generalize uC.drew=w33 at az ag HB TV Ec He MF Hg Ht UC aaC Fv alp mI nr abC hHeld ⊢
      refine pu 0 (some 44) (ba 17 1) aA (h:=?_)
      refine pu 1 (some 45) (ba 17 3) aA (h:=?_)
      refine pu 2 (some 46) (ba 17 7) aA (h:=?_)
      refine pu 3 (some 47) (ba 17 15) aA (h:=?_)
      refine pu 7 (some 51) (ba 17 143) aA (h:=?_)
      refine pu 8 (some 52) (ba 17 399) aA (h:=?_)
      refine pu 9 (some 53) (ba 17 911) aA (h:=?_)
      refine pu 10 (some 54) (ba 17 1935) aA (h:=?_)
      refine ta 4 (some 48) (ba 17 1951) aA dh hHeld (hy:=Or.inl ⟨by rfl,by rintro w' ⟨s0,s1,s2,s3⟩;go_simp;with_reducible rfl⟩) (h:=?_)
      refine pu 5 (some 49) (ba 17 1983) aA (h:=?_)
      refine ta 6 (some 50) (ba 17 2047) aA dh hHeld (hy:=Or.inl ⟨by rfl,by rintro w' ⟨s0,s1,s2,s3⟩;go_simp;with_reducible rfl⟩) (h:=?_)
      refine ta 11 (some 55) (ba 17 4095) aA dh hHeld (hy:=Or.inl ⟨by rfl,by rintro w' ⟨s0,s1,s2,s3⟩;go_simp;with_reducible rfl⟩) (h:=?_)
      refine pu 12 (some 56) (ba 17 8191) aA (h:=?_)
      refine ta 13 (some 57) (ba 17 16383) aA dh hHeld (hy:=Or.inl ⟨by rfl,by rintro w' ⟨s0,s1,s2,s3⟩;go_simp;with_reducible rfl⟩) (h:=?_)
      refine pu 14 (some 58) (ba 17 32767) aA (h:=?_)
      refine pu 15 (some 59) (ba 17 65535) aA (h:=?_)
      refine rU (i:=16) (N:=none) (ba 17 131071) rfl rfl (kF aA.out (by kernel_rfl)) (by decide) (fun K hK=>?_)
      refine pP (w1:=?_) (by rfl) rfl ?_ ?_
      rotate_left;· go_simp;rfl
      refine hK.out _ _ ?_
      clear hK K
      refine lC (p_ aA.out (by kernel_rfl)) ?_
      try go_wp2
      first|go_roundg k2|(simp only [← jG];go_roundg k2)
      case measure=>have:=akl.out;have:=bz.out;omega
      case rel=>exact ⟨(DV),(wrap64 (bK+1)),rs,(by first|exact H'|(rw [jG];exact H')),⟨by have:=akl.out;have:=bz.out;omega⟩,⟨aS (MF.out)⟩,⟨by (with_reducible repeat (first|refine ee ?_ _|refine ct ?_|refine dX ?_ _));refine fX ?_ (by have h_:=Kd.iD Ec.out ag.out (by decide);intro e_;exact h_ (by rw [e_];rfl)) _;exact bk⟩,⟨by repeat (first|(with_reducible first|exact HB.out|apply dA|apply akz|apply cP|refine dM ?_ TM.out|refine dM ?_ ej.out)|exact HB.out)⟩⟩
   rw [if_pos c12] at H
   have rG:((rd (ah aa aki) 0) == (rd (ah aa aki) 1))=true:=beq_iff_eq.mpr c12
   have z1:((rd (ah aa aki) 0) != (rd (ah aa aki) 1))=false:=bne_eq_false_iff_eq.mpr c12
   clear c12
   have H':=k0 H
   clear H
   have cX:0≤(aki:Int):=oD
   have cU:aki < (aa.length:Int):=oD
   obtain ⟨kr,ama,BA,e105,dY,qg,qd⟩:=cW bU.out aki cX cU
   cases e105
   replace dY:=hbc HB dY
   have p4:=k0 qd
   have D7:=k0 qg
   clear qd qg
   replace cX:=eq_true cX
   replace cU:=eq_true cU
   try go_wp2
   replace az:=k0 (Kd.eT az.out);replace ag:=k0 (ct ag.out);replace HB:=k0 (cP HB.out)
   have dN:0≤(0:Int):=(by omega)
   have dH:0 < ((ah aa aki).length:Int):=oD
   obtain ⟨gB,e106,dF⟩:=Kd.bH p4.out 0 dN dH
   have aln:=dF
   (try rw [show ((0:Int)).toNat=0 from rfl] at aln)
   (try rw [show 0 * 1=0 from rfl] at aln)
   (try rw [Addr.add_zero'] at aln)
   cases e106
   have AP:(0 < (ah aa aki).length)=True:=eq_true (by omega)
   (try rw [show ((0:Int)).toNat=0 from rfl] at dF)
   (try rw [Addr.add_zero'] at dF)
   replace dF:=hbc HB dF
   replace dN:=eq_true dN
   replace dH:=eq_true dH
   have gh:0≤(1:Int):=(by omega)
   have gj:1 < ((ah aa aki).length:Int):=oD
   obtain ⟨o9,e107,fR⟩:=Kd.bH p4.out 1 gh gj
   have alo:=fR
   (try rw [show ((1:Int)).toNat=1 from rfl] at alo)
   (try rw [show 1 * 1=1 from rfl] at alo)
   (try simp only [Nat.reduceMul,Nat.reduceEqDiff,Go.Addr.add,↓reduceIte] at alo)
   obtain rfl:gB=o9:=(by injection e107)
   (try simp only [show (1:Int).toNat=1 from rfl,Nat.reduceMul,Nat.reduceEqDiff,Go.Addr.add,↓reduceIte] at fR)
   have adv:(1 < (ah aa aki).length)=True:=eq_true (by omega)
   (try rw [show ((1:Int)).toNat=1 from rfl] at fR)
   replace fR:=hbc HB fR
   replace gh:=eq_true gh
   replace gj:=eq_true gj
   refine lJ (n:=7) (S:=fun w'=>w'.cell? gB=some (.int .i64 (rd (ah aa aki) 0))∧w'.cell? ⟨gB.block,gB.off+1,none⟩=some (.int .i64 (rd (ah aa aki) 1))) (ds:=[]) (ba 7 0) (by kernel_rfl) rfl rfl ⟨(hbc HB aln),(hbc HB alo)⟩ (fun hHeld=>?_)
   generalize wr.drew=oY at az ag HB dF fR hHeld ⊢
   refine lZ (i:=0) (N:=some 17) (v:=?_) (a':=?_) (ba 7 1) rfl rfl (by kernel_rfl) (fun _ _ _ h=>h) (Or.inl ⟨by rfl,?_⟩) ?_ ?_
   rotate_left;· intro w';go_simp;with_reducible rfl
   rotate_left;· simp only [Act.put,zI,zZ,zS,akx,cu];rfl
   refine lZ (i:=1) (N:=some 18) (v:=?_) (a':=?_) (ba 7 3) rfl rfl (by kernel_rfl) (fun _ _ _ h=>h) (Or.inl ⟨by rfl,?_⟩) ?_ ?_
   rotate_left;· intro w';go_simp;with_reducible rfl
   rotate_left;· simp only [Act.put,zI,zZ,zS,akx,cu];rfl
   refine lZ (i:=3) (N:=some 20) (v:=?_) (a':=?_) (ba 7 11) rfl rfl (by kernel_rfl) (fun _ _ _ h=>h) (Or.inl ⟨by rfl,?_⟩) ?_ ?_
   rotate_left;· intro w';go_simp;with_reducible rfl
   rotate_left;· simp only [Act.put,zI,zZ,zS,akx,cu];rfl
   refine lZ (i:=4) (N:=some 21) (v:=?_) (a':=?_) (ba 7 27) rfl rfl (by kernel_rfl) (fun _ _ _ h=>h) (Or.inl ⟨by rfl,?_⟩) ?_ ?_
   rotate_left;· intro w';go_simp;with_reducible rfl
   rotate_left;· simp only [Act.put,zI,zZ,zS,akx,cu];rfl
   refine l5 (i:=2) (N:=some 19) (v:=?_) (a':=?_) (ba 7 31) rfl rfl (by kernel_rfl) (fun _ _ _ h=>h) (Or.inl ⟨by rfl,?_⟩) hHeld ?_ ?_
   rotate_left;· rintro w' ⟨s0,s1⟩;go_simp;with_reducible rfl
   rotate_left;· simp only [Act.put,zI,zZ,zS,akx,cu];rfl
   refine l5 (i:=5) (N:=some 22) (v:=?_) (a':=?_) (ba 7 63) rfl rfl (by kernel_rfl) (fun _ _ _ h=>h) (Or.inl ⟨by rfl,?_⟩) hHeld ?_ ?_
   rotate_left;· rintro w' ⟨s0,s1⟩;go_simp;with_reducible rfl
   rotate_left;· simp only [Act.put,zI,zZ,zS,akx,cu];rfl
   refine lZ (i:=6) (N:=some 23) (v:=?_) (a':=?_) (ba 7 127) rfl rfl (by kernel_rfl) (fun _ _ _ h=>h) (Or.inl ⟨by rfl,?_⟩) ?_ ?_
   rotate_left;· intro w';go_simp;with_reducible rfl
   rotate_left;· simp only [Act.put,zI,zZ,zS,akx,cu];rfl
   refine lC (by kernel_rfl) ?_
   try go_wp2
   first|go_roundg k1|(simp only [← jG];go_roundg k1)
   case measure=>have:=akl.out;omega
   case rel=>exact ⟨(bD),(wrap64 (aki+1)),rs,(by first|exact H'|(rw [jG];exact H')),⟨by have:=akl.out;omega⟩,⟨aS (az.out)⟩,⟨bk⟩,⟨bl⟩⟩
end Go.Proofs.Ytoebojnhchocaaa.C
/- Set with little white space, by a program. -/
