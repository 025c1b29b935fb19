/- The functions that one law reaches, each as a Lean function, and that Go's call comes to what it says. Condition of each: that the Lean function answers (is not none). -/
import Derived.Test.YtoebojnhchocaaaDx0
import Derived.Test.YtoebojnhchocaaaDx2
import Derived.Test.YtoebojnhchocaaaDx3
namespace Go.Proofs.Ytoebojnhchocaaa.D
open Go.RowKit Go.Proofs.bR.eC Go.Proofs.bR.je Go.Proofs.bR.jO
attribute [local go_sem] max2_int min2_int max_two min_two max_three min_three max_four min_four   -- for this text's walks alone
set_option linter.unusedVariables false
set_option linter.unusedSimpArgs false
/-! ### F89: function 89 -/
def gI.j0 : Nat → Int → Bool → Int → List (List Int) → Option (Int)
 | 0,_,_,_,_=>none
 | k+1,x7,x20,bF,bE=>if x20=true then (if 2=0 then ((nB.f k bF bE).bind fun t104=>(if t104=true then (some 2) else (some 5))) else (some 2)) else (if x7=0 then ((nB.f k bF bE).bind fun t105=>(if t105=true then (some x7) else (some 5))) else (some x7))
def gI.f (k:Nat) (af:Int) (aa:List (List Int)) (a1:Int) (l2:List (List Int)):Option (Int):=(fh.f k af aa l2).bind fun t102=>(if t102=0 then ((gy.f a1 0 (wrap64 (af - 1))).bind fun t103=>(gI.j0 k t102 (!t103) af aa)) else (gI.j0 k t102 false af aa))
theorem gI.bU : ∀ k, (∀ y0 y1 y2 y3, aj (gI.j0 k y0 y1 y2 y3) (gI.j0 (k + 1) y0 y1 y2 y3))
 | 0=>fun _ _ _ _ r h=>by simp [gI.j0] at h
 | k+1=>by
  have alg:=gI.bU k
  ·intro y0 y1 y2 y3
   unfold gI.j0
   repeat' first
    | (with_reducible first|exact alg _ _ _ _|exact nB.mono _ _ _|exact fh.mono _ _ _ _|exact aj.refl _|exact aj.none _|refine aj.ite ?_ ?_|refine aj.bind ?_ (fun _=>?_))
    | exact alg _ _ _ _|exact nB.mono _ _ _|exact fh.mono _ _ _ _|exact aj.none _|refine aj.ite ?_ ?_|refine aj.bind ?_ (fun _=>?_)
theorem gI.mono:∀ a0 a1 a2 a3 k,aj (gI.f k a0 a1 a2 a3) (gI.f (k+1) a0 a1 a2 a3):=by
 intro a0 a1 a2 a3 k
 have alg:=gI.bU k
 unfold gI.f
 repeat' first
  | (with_reducible first|exact alg _ _ _ _|exact nB.mono _ _ _|exact fh.mono _ _ _ _|exact aj.refl _|exact aj.none _|refine aj.ite ?_ ?_|refine aj.bind ?_ (fun _=>?_))
  | exact alg _ _ _ _|exact nB.mono _ _ _|exact fh.mono _ _ _ _|exact aj.none _|refine aj.ite ?_ ?_|refine aj.bind ?_ (fun _=>?_)
set_option maxHeartbeats 8000000 in
set_option maxRecDepth 100000 in
theorem gI.calls (k : Nat) (af : Int) (aq : Option Addr) (ak : Nat) (aa : List (List Int)) (a1 : Int) (A2 : Option Addr) (c2 : Nat) (l2 : List (List Int)) (r : Int) (w : World) (aly : Kd.C (Kd.slice 2 (Kd.int .i64)) w aq aa.length aa) (ck : aa.length ≤ ak) (o5 : Kd.C (Kd.slice 2 (Kd.int .i64)) w A2 l2.length l2) (uy : l2.length ≤ c2) (h : gI.f k af aa a1 l2 = some r) :
  Calls Try.prog 89 #[.agg #[.int .i64 af,.slice aq aa.length ak],.int .i64 a1,.slice A2 l2.length c2] w fun e w'=>e=.returned (.int .i64 r)∧Below w.heap.size w w':=by
 have j9:=Try.underlying31
 have bZ:=k0 aly
 have cD:=k0 ck
 clear aly ck
 have yb:=k0 o5
 have wE:=k0 uy
 clear o5 uy
 have HB:=k0 (Below.refl w.heap.size w)
 have H:((fh.f k af aa l2).bind fun t102=>(if t102=0 then ((gy.f a1 0 (wrap64 (af - 1))).bind fun t103=>(gI.j0 k t102 (!t103) af aa)) else (gI.j0 k t102 false af aa)))=some r:=h
 clear h
 replace H:=Option.bind_eq_some_iff.mp H
 obtain ⟨t102,lM,H⟩:=H
 replace H:(if t102=0 then ((gy.f a1 0 (wrap64 (af - 1))).bind fun t103=>(gI.j0 k t102 (!t103) af aa)) else (gI.j0 k t102 false af aa))=some r:=H
 have A4:=k0 lM
 clear lM
 have anT:=k0 H
 clear H
 go_enter Try.func89,Try.ntmps89
 go_upto_region 2 with (first|((with_reducible refine cj (N:=3) rfl ?_);refine dK ?hg (N:=3) ?hd (cs:=#[.int .i64 af,.slice aq aa.length ak]) (t:=31) ?hr ?_;(case hd=>rfl);(case hg=>rfl);(case hr=>first|(go_simp;done)|(go_simp;rfl));intro ai hg w6 aJ hb;have ag:=k0 (aJ);have b8:=k0 ((by rw [hg];exact (alk bl):w.heap.size≤ai));have eB:=b8;replace HB:=k0 (aI bl hb);clear hb aJ hg;have rY:w6.cell? ⟨ai,0,none⟩=some (.int .i64 af):=(av ag.out 0).trans rfl;have rZ:w6.cell? ⟨ai,1,none⟩=some (.slice aq aa.length ak):=(av ag.out 1).trans rfl;have r5:=aD ag.out 0;have r6:=aD ag.out 1)|((with_reducible refine dx (f:=171) rfl ?_);refine dy (some 10) rfl rfl Try.func171 (by kernel_rfl) rfl #[.agg #[.int .i64 af,.slice aq aa.length ak],.slice A2 l2.length c2] rfl gm ?_;(with_reducible refine (fh.calls k af _ _ aa _ _ l2 t102 _ ?aT ?aU ?cy ?cI A4.out).mono ?_);(case aT=>exact aC (Kd.bK bZ.out HB.out));(case aU=>exact cD.out);(case cy=>exact aC (Kd.bK yb.out HB.out));(case cI=>exact wE.out);rintro e w8 ⟨rfl,hb⟩;refine ⟨_,rfl,?_⟩;replace ag:=k0 (alm (g:=ai) (o:=sO af aq aa ak 31) bk hb);replace HB:=k0 (aI bl hb);(try clear hb)))
 (try simp only [Act.put,zI,zZ,zS])
 go_cut [20] (fun v20 wc=>∃ (kq:Nat) (G8:Bool),v20=.bool G8∧au (gI.j0 kq t102 G8 af aa=some r)∧au (kq≤k)∧au (wc.heap[ai]?=some (sO af aq aa ak 31))∧au (Below w.heap.size w wc))
 case first =>
  have H:=anT.out
  clear anT
  by_cases c9:t102=0
  case neg =>
   rw [if_neg c9] at H
   have mD:(t102 == 0)=false:=beq_eq_false_iff_ne.mpr c9
   have OL:(t102 != 0)=true:=bne_iff_ne.mpr c9
   (first|rw [mD]|(simp only [cl,cv];rw [mD])|skip)
   have H':=k0 H
   clear H
   go_wp2
   go_meet
   case rel=>exact ⟨_,(false),rs,H',⟨by first|omega|exact Nat.le_refl _⟩,⟨bk⟩,⟨bl⟩⟩
  rw [if_pos c9] at H
  have mD:(t102 == 0)=true:=beq_iff_eq.mpr c9
  have OL:(t102 != 0)=false:=bne_eq_false_iff_eq.mpr c9
  clear c9
  (first|rw [mD]|(simp only [cl,cv];rw [mD])|skip)
  replace H:=Option.bind_eq_some_iff.mp H
  obtain ⟨t103,BJ,H⟩:=H
  replace H:(gI.j0 k t102 (!t103) af aa)=some r:=H
  have Hj:=k0 BJ
  clear BJ
  have H':=k0 H
  clear H
  have AX:w8.cell? ⟨ai,0,none⟩=some (.int .i64 af):=(av ag.out 0).trans rfl
  have AY:w8.cell? ⟨ai,1,none⟩=some (.slice aq aa.length ak):=(av ag.out 1).trans rfl
  have anc:=aD ag.out 0
  have ane:=aD ag.out 1
  go_wp2_with (first|(go_at_call 172;(with_reducible refine (gy.calls a1 0 (wrap64 (af - 1)) t103 _ Hj.out).mono ?_);rintro e w' ⟨rfl,⟨nd,rfl⟩⟩))
  go_meet
  case rel=>exact ⟨_,(!t103),rs,H',⟨by first|omega|exact Nat.le_refl _⟩,⟨bk⟩,⟨bl⟩⟩
 case rest =>
  clear anT
  (try clear c9);(try clear mD);(try clear OL);(try clear AX);(try clear AY);(try clear rY);(try clear rZ);(try clear anc);(try clear ane);(try clear r5);(try clear r6)
  obtain ⟨kq,G8,rfl,HA,HJ4,ag,HB⟩:=hcut
  cases kq with
  | zero=>exact absurd HA.out (by simp [gI.j0])
  | succ Gq =>
   have H:=HA.out
   clear HA
   simp only [gI.j0] at H
   by_cases c12:G8=true
   case neg =>
    replace c12:=Bool.eq_false_iff.mpr c12
    subst c12
    have H1:(if t102=0 then ((nB.f Gq af aa).bind fun t105=>(if t105=true then (some t102) else (some 5))) else (some t102))=some r:=by rw [if_neg (show ¬ (false=true) by decide)] at H;exact H
    clear H
    have H:=H1
    clear H1
    by_cases c20:t102=0
    case neg =>
     rw [if_neg c20] at H
     have og:(t102 == 0)=false:=beq_eq_false_iff_ne.mpr c20
     have Xy:(t102 != 0)=true:=bne_iff_ne.mpr c20
     obtain rfl:=Option.some.inj H
     go_wp2
     go_ret
     exact ⟨by first|rfl|(simp [bz,bA]<;>rfl)|(simp [*,bz,bA]<;>rfl),bl⟩
    rw [if_pos c20] at H
    have og:(t102 == 0)=true:=beq_iff_eq.mpr c20
    have Xy:(t102 != 0)=false:=bne_eq_false_iff_eq.mpr c20
    clear c20
    replace H:=Option.bind_eq_some_iff.mp H
    obtain ⟨t105,My,H⟩:=H
    replace H:(if t105=true then (some t102) else (some 5))=some r:=H
    have Mx:=k0 My
    clear My
    by_cases c22:t105=true
    case neg =>
     replace c22:=Bool.eq_false_iff.mpr c22
     subst c22
     have H1:(some 5)=some r:=by rw [if_neg (show ¬ (false=true) by decide)] at H;exact H
     clear H
     have H:=H1
     clear H1
     obtain rfl:=Option.some.inj H
     have ahN:wc.cell? ⟨ai,0,none⟩=some (.int .i64 af):=(av ag.out 0).trans rfl
     have ahO:wc.cell? ⟨ai,1,none⟩=some (.slice aq aa.length ak):=(av ag.out 1).trans rfl
     have aio:=aD ag.out 0
     have aip:=aD ag.out 1
     go_wp2_with (first|(go_at_call 101;(with_reducible refine (nB.calls Gq af _ _ aa false _ ?aT ?aU Mx.out).mono ?_);(case aT=>exact aC (Kd.bK bZ.out HB.out));(case aU=>exact cD.out);rintro e uQ ⟨rfl,hb⟩;replace ag:=k0 (alm (g:=ai) (o:=sO af aq aa ak 31) bk hb);replace HB:=k0 (aI bl hb);(try clear hb)))
     go_ret
     exact ⟨by first|rfl|(simp [bz,bA]<;>rfl)|(simp [*,bz,bA]<;>rfl),bl⟩
    subst c22
    have H1:(some t102)=some r:=by rw [if_pos rfl] at H;exact H
    clear H
    have H:=H1
    clear H1
    obtain rfl:=Option.some.inj H
    have ahL:wc.cell? ⟨ai,0,none⟩=some (.int .i64 af):=(av ag.out 0).trans rfl
    have ahM:wc.cell? ⟨ai,1,none⟩=some (.slice aq aa.length ak):=(av ag.out 1).trans rfl
    have aim:=aD ag.out 0
    have ain:=aD ag.out 1
    go_wp2_with (first|(go_at_call 101;(with_reducible refine (nB.calls Gq af _ _ aa true _ ?aT ?aU Mx.out).mono ?_);(case aT=>exact aC (Kd.bK bZ.out HB.out));(case aU=>exact cD.out);rintro e Mk ⟨rfl,hb⟩;replace ag:=k0 (alm (g:=ai) (o:=sO af aq aa ak 31) bk hb);replace HB:=k0 (aI bl hb);(try clear hb)))
    go_ret
    exact ⟨by first|rfl|(simp [bz,bA]<;>rfl)|(simp [*,bz,bA]<;>rfl),bl⟩
   subst c12
   have H1:(if 2=0 then ((nB.f Gq af aa).bind fun t104=>(if t104=true then (some 2) else (some 5))) else (some 2))=some r:=by rw [if_pos rfl] at H;exact H
   clear H
   have H:=H1
   clear H1
   by_cases c13:2=0
   case neg =>
    rw [if_neg c13] at H
    have alV:(2 == 0)=false:=beq_eq_false_iff_ne.mpr c13
    have agw:(2 != 0)=true:=bne_iff_ne.mpr c13
    obtain rfl:=Option.some.inj H
    go_wp2
    go_ret
    exact ⟨by first|rfl|(simp [bz,bA]<;>rfl)|(simp [*,bz,bA]<;>rfl),bl⟩
   exact absurd c13 (by decide)
/-! ### F173: function 173 -/
def p5.f (l0:List Int):Option (List Int):=(some (([]:List Int):List Int)).bind fun jx=>(if jx.length+l0.length < 17592186044416 then (some (jx ++ l0)) else (none))
set_option maxHeartbeats 8000000 in
set_option maxRecDepth 100000 in
theorem p5.calls (A0 : Option Addr) (c0 : Nat) (l0 : List Int) (r : List Int) (w : World) (cS : Kd.C (Kd.int .i64) w A0 l0.length l0) (hc0 : l0.length ≤ c0) (h : p5.f l0 = some r) :
  Calls Try.prog 173 #[.slice A0 l0.length c0] w fun e w'=>∃ dH:Value,e=.returned (dH)∧Kd.R (Kd.int .i64) 2 w' w.heap.size (fun _=>True) dH r∧Below w.heap.size w w':=by
 have fe:=k0 cS
 have alR:=k0 hc0
 clear cS hc0
 have HB:=k0 (Below.refl w.heap.size w)
 have H:((some (([]:List Int):List Int)).bind fun jx=>(if jx.length+l0.length < 17592186044416 then (some (jx ++ l0)) else (none)))=some r:=h
 clear h
 obtain ⟨jx,gf⟩:∃ y_:List Int,y_=(([]:List Int)):=⟨_,rfl⟩
 replace H:(if jx.length+l0.length < 17592186044416 then (some (jx ++ l0)) else (none))=some r:=by first|(rw [gf];with_reducible exact H)|(have ax:=(Option.bind_some _ _).symm.trans H;rw [gf];with_reducible exact ax)|(have ax:=(Option.bind_some _ _).symm.trans H;with_reducible exact ax)|with_reducible exact H|(rw [gf];exact H)|exact H
 have mq:=k0 gf
 clear gf
 replace H:=iS H;obtain ⟨c2,H⟩:=H
 have IF:=k0 c2
 clear c2
 obtain ⟨nW,jo⟩:∃ y_:List Int,y_=(jx ++ l0):=⟨_,rfl⟩
 replace H:(some nW)=some r:=by first|(rw [jo];with_reducible exact H)|(have ax:=(Option.bind_some _ _).symm.trans H;rw [jo];with_reducible exact ax)|(have ax:=(Option.bind_some _ _).symm.trans H;with_reducible exact ax)|with_reducible exact H|(rw [jo];exact H)|exact H
 have uj:=k0 jo
 clear jo
 obtain rfl:=Option.some.inj H
 go_enter Try.func173,Try.ntmps173
 go_wp2_with (first|((with_reducible refine cj (N:=3) rfl ?_);refine Kd.al2 (Kd.int .i64) _ 2 ?hg (N:=3) ?hd (xs:=([]:List Int)) (inner:=[]) (ok:=fun _=>True) (b9:=fun _=>True) ?hr ?hp (fun _ hk=>hk) trivial (Below.refl _ _) (Nat.le_refl _) (by simp) ?_;(case hd=>rfl);(case hg=>rfl);(case hr=>first|(go_simp;done)|(go_simp;rfl));(case hp=>exact (bW.none _ _));intro mg w3 eu hb dF dG;clear dF dG;(first|rw [← mq.out] at eu|(simp only [Int.reduceToNat] at eu;rw [← mq.out] at eu));have kU:=k0 (Kd.dI eu (alk bl));replace HB:=k0 (aI bl hb);clear hb eu)|((with_reducible refine ot (b:=.append) (xs:=#[.tmp 3,.tmp 4]) rfl ?_);at_builtin;refine Kd.IY (Kd.int .i64) (w0:=w) w.heap.size rfl (.tmp 3) (.tmp 4) 28 2 (.int .i64 0) 8 rfl Try.underlying28 alU rfl (by decide) (by omega) mg jx l0 _ _ _ (fun _=>True) (fun _=>False) rfl rfl ?aO ?aR (fun _ _ h=>h) (fun _ h=>h.elim) ?aF ?aB ?aS ?aL ?_;(case aR=>repeat (first|exact (Kd.bK fe.out HB.out)|(with_reducible refine Kd.kQ ?_ _)|(with_reducible refine Kd.alZ ?_ _)|(with_reducible refine Kd.jZ ?_)));(case aB=>exact bl);(case aF=>exact (fun _ _=>trivial));(case aO=>exact (aR kU.out));(case aS=>exact (alk bl));(case aL=>have:=IF.out;omega);intro v105 w5 ho hb hg bX;rw [← uj.out] at ho;have aE:=k0 (hb);have aH:=k0 (ho);clear HB;clear kU;have HB:=aE;have iO:=aH;clear aE aH;clear ho hb hg bX))
 go_ret
 exact ⟨_,by first|rfl|(simp [bz,bA]<;>rfl)|(simp [*,bz,bA]<;>rfl),by (with_reducible repeat (first|apply Kd.bH|apply Kd.bL|apply Kd.bn));exact iO.out,bl⟩
end Go.Proofs.Ytoebojnhchocaaa.D
/- Set with little white space, by a program. -/
