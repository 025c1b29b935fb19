/- The functions that one law reaches, each as a Lean function, and that Go's call comes to what it says. Condition of each: that the Lean function answers (is not none). -/
import Derived.Test.YtoebojnhchocaaaBx0
namespace Go.Proofs.Ytoebojnhchocaaa.B
open Go.RowKit Go.Proofs.bC.eg Go.Proofs.bC.iZ Go.Proofs.bC.jr
attribute [local go_sem] max2_int min2_int max_two min_two max_three min_three max_four min_four   -- for this text's walks alone
set_option linter.unusedVariables false
set_option linter.unusedSimpArgs false
/-! ### F115: function 115 -/
def iu.l0 : Nat → List Int → Int → Int → Option (List Int)
 | 0,_,_,_=>none
 | k+1,x3,x7,x8=>if x8 < x7 then (if x3.length < 17592186044416 then (iu.l0 k (x3 ++ [x8]) x7 (wrap64 (x8+1))) else (none)) else (some x3)
def iu.f (k:Nat) (af:Int) (aa:List (List Int)):Option (List Int):=iu.l0 k (([]:List Int)) af 0
theorem iu.cj : ∀ k, (∀ y0 y1 y2, aj (iu.l0 k y0 y1 y2) (iu.l0 (k + 1) y0 y1 y2))
 | 0=>fun _ _ _ r h=>by simp [iu.l0] at h
 | k+1=>by
  have ali:=iu.cj k
  ·intro y0 y1 y2
   unfold iu.l0
   repeat' first
    | (with_reducible first|exact ali _ _ _|exact aj.refl _|exact aj.none _|refine aj.ite ?_ ?_|refine aj.bind ?_ (fun _=>?_))
    | exact ali _ _ _|exact aj.none _|refine aj.ite ?_ ?_|refine aj.bind ?_ (fun _=>?_)
theorem iu.mono:∀ a0 a1 k,aj (iu.f k a0 a1) (iu.f (k+1) a0 a1):=by
 intro a0 a1 k
 have ali:=iu.cj k
 unfold iu.f
 repeat' first
  | (with_reducible first|exact ali _ _ _|exact aj.refl _|exact aj.none _|refine aj.ite ?_ ?_|refine aj.bind ?_ (fun _=>?_))
  | exact ali _ _ _|exact aj.none _|refine aj.ite ?_ ?_|refine aj.bind ?_ (fun _=>?_)
set_option maxHeartbeats 8000000 in
set_option maxRecDepth 100000 in
theorem iu.calls (k : Nat) (af : Int) (au : Option Addr) (aq : Nat) (aa : List (List Int)) (r : List Int) (w : World) (cl : Kd.C (Kd.slice 2 (Kd.int .i64)) w au aa.length aa) (cn : aa.length ≤ aq) (h : iu.f k af aa = some r) :
  Calls Try.prog 115 #[.agg #[.int .i64 af,.slice au aa.length aq]] w fun e w'=>∃ cF:Value,e=.returned (cF)∧Kd.R (Kd.int .i64) 2 w' w.heap.size (fun _=>True) cF r∧Below w.heap.size w w':=by
 have kF:=Try.underlying31
 have alx:=k0 cl
 have di:=k0 cn
 clear cl cn
 have HB:=k0 (Below.refl w.heap.size w)
 have H:(iu.l0 k (([]:List Int)) af 0)=some r:=h
 clear h
 obtain ⟨eT,eH⟩:∃ y_:List Int,y_=(([]:List Int)):=⟨_,rfl⟩
 replace H:(iu.l0 k eT af 0)=some r:=by first|(rw [eH];with_reducible exact H)|(have ax:=(Option.bind_some _ _).symm.trans H;rw [eH];with_reducible exact ax)|(have ax:=(Option.bind_some _ _).symm.trans H;with_reducible exact ax)|with_reducible exact H|(rw [eH];exact H)|exact H
 have alG:=k0 eH
 clear eH
 have H':=k0 H
 clear H
 go_enter Try.func115,Try.ntmps115
 go_wp2_with (first|((with_reducible refine cy (N:=1) rfl ?_);refine ec ?hg (N:=1) ?hd (cs:=#[.int .i64 af,.slice au aa.length aq]) (t:=31) ?hr ?_;(case hd=>rfl);(case hg=>rfl);(case hr=>first|(go_simp;done)|(go_simp;rfl));intro ai hg w2 aJ hb;have ah:=k0 (aJ);have cr:=k0 ((by rw [hg];exact (aU bl):w.heap.size≤ai));have eL:=cr;replace HB:=k0 (aG bl hb);clear hb aJ hg)|((with_reducible refine cy (N:=5) rfl ?_);refine Kd.pT (Kd.int .i64) _ 2 ?hg (N:=5) ?hd (xs:=([]:List Int)) (inner:=[]) (ok:=fun _=>True) (cC:=fun _=>True) ?hr ?hp (fun _ hk=>hk) trivial (Below.refl _ _) (Nat.le_refl _) (by simp) ?_;(case hd=>rfl);(case hg=>rfl);(case hr=>first|(go_simp;done)|(go_simp;rfl));(case hp=>exact (bY.none _ _));intro dw w3 ek hb ew ey;clear ew ey;(first|rw [← alG.out] at ek|(simp only [Int.reduceToNat] at ek;rw [← alG.out] at ek));have a_:=k0 (Kd.d_ ek (aU bl));replace ah:=k0 (alg (g:=ai) (o:=sO af au aa aq 31) bk hb);replace HB:=k0 (aG bl hb);clear hb ek;have tu:w3.cell? ⟨ai,0,none⟩=some (.int .i64 af):=(av ah.out 0).trans rfl;have tv:w3.cell? ⟨ai,1,none⟩=some (.slice au aa.length aq):=(av ah.out 1).trans rfl;have tE:=ale ah.out 0;have tF:=ale ah.out 1))
 go_loopg [3,8] k (fun kq v3 v8 w'=>∃ (bE:List Int) (bF:Int),v8=.int .i64 bF∧ak (iu.l0 kq bE af bF=some r)∧ak (kq≤k)∧ak (Kd.R (Kd.int .i64) 2 w' w.heap.size (fun _=>True) v3 bE)∧ak (w'.heap[ai]?=some (sO af au aa aq 31))∧ak (Below w.heap.size w w'))
 case atStart=>exact ⟨(eT),(0),rs,H',⟨Nat.le_refl _⟩,⟨aR (a_.out)⟩,⟨bk⟩,⟨bl⟩⟩
 case round =>
  clear H'
  (try clear tu);(try clear tv);(try clear tE);(try clear tF)
  obtain ⟨bE,bF,rfl,HA,aM,az,ah,HB⟩:=hrel
  cases gk with
  | zero=>exact absurd HA.out (by simp [iu.l0])
  | succ k1 =>
   have H:=HA.out
   clear HA
   simp only [iu.l0] at H
   by_cases c6:bF < af
   case neg =>
    rw [if_neg c6] at H
    have jk:decide (bF < af)=false:=decide_eq_false c6
    clear c6
    obtain rfl:=Option.some.inj H
    go_wp2
    go_ret
    exact ⟨_,by first|rfl|(simp [bA,bB]<;>rfl)|(simp [*,bA,bB]<;>rfl),by (with_reducible repeat (first|apply Kd.bO|apply Kd.bR|apply Kd.alp));exact az.out,bl⟩
   rw [if_pos c6] at H
   have jk:=decide_eq_true c6
   clear c6
   replace H:=iS H;obtain ⟨c7,H⟩:=H
   have yI:=k0 c7
   clear c7
   obtain ⟨jn,alC⟩:∃ y_:List Int,y_=(bE ++ [bF]):=⟨_,rfl⟩
   replace H:(iu.l0 k1 jn af (wrap64 (bF+1)))=some r:=by first|(rw [alC];with_reducible exact H)|(have ax:=(Option.bind_some _ _).symm.trans H;rw [alC];with_reducible exact ax)|(have ax:=(Option.bind_some _ _).symm.trans H;with_reducible exact ax)|with_reducible exact H|(rw [alC];exact H)|exact H
   have lJ:=k0 alC
   clear alC
   have H':=k0 H
   clear H
   go_wp2_with (first|((with_reducible refine pI (b:=.append) (xs:=#[.tmp 11,.tmp 13]) rfl ?_);at_builtin;refine Kd.uL (Kd.int .i64) (w0:=w) w.heap.size rfl (.tmp 11) (.tmp 13) 28 2 (.int .i64 0) 8 rfl Try.underlying28 lF rfl (by decide) (by omega) u3 bE bF [.int .i64 bF] (fun _=>True) (fun _=>False) rfl rfl ?aP (fun _ hk=>hk.elim) ?aF ?aO ?aB ?aS ?aL ?_;(case aP=>exact rfl);(case aB=>exact bl);(case aF=>exact (fun _ _=>trivial));(case aO=>exact (aR az.out));(case aS=>exact (aU bl));(case aL=>have:=yI.out;omega);intro gj w8 ho hb hg cz;rw [← lJ.out] at ho;have aK:=k0 (jv (g:=ai) (o:=sO af au aa aq 31) bk hg (Kd.iG az.out ah.out (by decide)));have alf:=k0 (hb);have alj:=k0 (ho);clear ah;clear HB;clear az;have ah:=aK;have HB:=alf;have cO:=alj;clear aK alf alj;clear ho hb hg cz))
   go_roundg k1
   case measure=>have:=aM.out;omega
   case rel=>exact ⟨(jn),(wrap64 (bF+1)),rs,H',⟨by have:=aM.out;omega⟩,⟨aR (cO.out)⟩,⟨bk⟩,⟨bl⟩⟩
/-! ### F151: function 151 -/
theorem OM (w:World) (a:Option Addr) (n c:Nat):(binOp .eql 28 (.slice a n c) (.slice none 0 0)).run Try.prog w=.ok (.bool a.isNone) w:=Lib.run_eql_slice_nil w _ _ a n c 0 0 Try.underlying28
def oa.f (l0:List Int):Option (List Int):=if l0.length < 17592186044416 then some l0 else none
set_option maxHeartbeats 8000000 in
set_option maxRecDepth 100000 in
theorem oa.calls (A0 : Option Addr) (c0 : Nat) (l0 : List Int) (r : List Int) (w : World) (cI : Kd.C (Kd.int .i64) w A0 l0.length l0) (hc0 : l0.length ≤ c0) (h : oa.f l0 = some r) :
  Calls Try.prog 151 #[.slice A0 l0.length c0] w fun e w'=>∃ cF:Value,e=.returned (cF)∧Kd.R (Kd.int .i64) 2 w' w.heap.size (fun _=>True) cF r∧Below w.heap.size w w':=by
 have eA:=k0 cI
 have kP:=k0 hc0
 clear cI hc0
 unfold oa.f at h
 by_cases c2:l0.length < 17592186044416
 case neg =>
  rw [if_neg c2] at h
  exact absurd h (by simp)
 rw [if_pos c2] at h
 obtain rfl:=Option.some.inj h
 clear h
 cases A0 with
 | none =>
  have hn:l0=[]:=by
   by_cases hz:l0.length=0
   case neg =>
    obtain ⟨ad,e,_⟩:=Kd.bS eA.out 0 (by omega) (by omega)
    cases e
   exact List.eq_nil_of_length_eq_zero hz
  subst hn
  have q_:=OM
  go_enter Try.func151,Try.ntmps151
  go_wp2
  go_ret
  exact ⟨_,rfl,Kd.xo _ _ _ _ _,Below.refl _ _⟩
 | some ad =>
  have HB:=k0 (Below.refl w.heap.size w)
  have Iy:=k0 c2
  clear c2
  have q_:=OM
  go_enter Try.func151,Try.ntmps151
  go_wp2_with (first|((with_reducible refine cy (N:=5) rfl ?_);refine Kd.pT (Kd.int .i64) _ 2 ?hg (N:=5) ?hd (xs:=([]:List Int)) (inner:=[]) (ok:=fun _=>True) (cC:=fun _=>True) ?hr ?hp (fun _ hk=>hk) trivial (Below.refl _ _) (Nat.le_refl _) (by simp) ?_;(case hd=>rfl);(case hg=>rfl);(case hr=>first|(go_simp;done)|(go_simp;rfl));(case hp=>exact (bY.none _ _));intro lT w3 ek hb ew ey;clear ew ey;have kQ:=k0 (Kd.d_ ek (aU bl));replace HB:=k0 (aG bl hb);clear hb ek)|((with_reducible refine pI (b:=.append) (xs:=#[.tmp 5,.tmp 6]) rfl ?_);at_builtin;refine Kd.IV (Kd.int .i64) (w0:=w) w.heap.size rfl (.tmp 5) (.tmp 6) 28 2 (.int .i64 0) 8 rfl Try.underlying28 lF rfl (by decide) (by omega) lT ([]:List Int) l0 _ _ _ (fun _=>True) (fun _=>False) rfl rfl ?aO ?aR (fun _ _ h=>h) (fun _ h=>h.elim) ?aF ?aB ?aS ?aL ?_;(case aR=>repeat (first|exact (Kd.bI eA.out HB.out)|(with_reducible refine Kd.kM ?_ _)|(with_reducible refine Kd.alZ ?_ _)|(with_reducible refine Kd.j6 ?_)));(case aB=>exact bl);(case aF=>exact (fun _ _=>trivial));(case aO=>exact (aR kQ.out));(case aS=>exact (aU bl));(case aL=>have:=Iy.out;simp;omega);intro v105 w5 ho hb hg cz;rw [List.nil_append] at ho;have aK:=k0 (hb);have alf:=k0 (ho);clear HB;clear kQ;have HB:=aK;have sR:=alf;clear aK alf;clear ho hb hg cz))
  go_ret
  exact ⟨_,by first|rfl|(simp;done),by (with_reducible repeat (first|apply Kd.bO|apply Kd.bR|apply Kd.alp));exact sR.out,bl⟩
/-! ### F204: function 204 -/
def iw.l0 : Nat → Int → List (List Int) → Int → Int → Option ((List (List Int)))
 | 0,_,_,_,_=>none
 | k+1,x0,x3,x5,x6=>if x6 < x5 then (if 0≤x0 then (if (x0:Int).toNat≤35184372088832 then (if x3.length < 5864062014805 then (iw.l0 k x0 (x3 ++ [(List.replicate (x0:Int).toNat 0)]) x5 (wrap64 (x6+1))) else (none)) else (none)) else (none)) else (some x3)
def iw.f (k:Nat) (a0:Int):Option ((List (List Int))):=iw.l0 k a0 (([]:List (List Int))) a0 0
theorem iw.cj : ∀ k, (∀ y0 y1 y2 y3, aj (iw.l0 k y0 y1 y2 y3) (iw.l0 (k + 1) y0 y1 y2 y3))
 | 0=>fun _ _ _ _ r h=>by simp [iw.l0] at h
 | k+1=>by
  have ali:=iw.cj k
  ·intro y0 y1 y2 y3
   unfold iw.l0
   repeat' first
    | (with_reducible first|exact ali _ _ _ _|exact aj.refl _|exact aj.none _|refine aj.ite ?_ ?_|refine aj.bind ?_ (fun _=>?_))
    | exact ali _ _ _ _|exact aj.none _|refine aj.ite ?_ ?_|refine aj.bind ?_ (fun _=>?_)
theorem iw.mono:∀ a0 k,aj (iw.f k a0) (iw.f (k+1) a0):=by
 intro a0 k
 have ali:=iw.cj k
 unfold iw.f
 repeat' first
  | (with_reducible first|exact ali _ _ _ _|exact aj.refl _|exact aj.none _|refine aj.ite ?_ ?_|refine aj.bind ?_ (fun _=>?_))
  | exact ali _ _ _ _|exact aj.none _|refine aj.ite ?_ ?_|refine aj.bind ?_ (fun _=>?_)
set_option maxHeartbeats 8000000 in
set_option maxRecDepth 100000 in
theorem iw.calls (k : Nat) (a0 : Int) (r : List (List Int)) (w : World) (h : iw.f k a0 = some r) :
  Calls Try.prog 204 #[.int .i64 a0] w fun e w'=>∃ cF:Value,e=.returned (cF)∧Kd.S (Kd.slice 2 (Kd.int .i64)) 28 w' w.heap.size (fun _=>True) cF r∧Below w.heap.size w w':=by
 have HB:=k0 (Below.refl w.heap.size w)
 have H:(iw.l0 k a0 (([]:List (List Int))) a0 0)=some r:=h
 clear h
 obtain ⟨iJ,fy⟩:∃ y_:List (List Int),y_=(([]:List (List Int))):=⟨_,rfl⟩
 replace H:(iw.l0 k a0 iJ a0 0)=some r:=by first|(rw [fy];with_reducible exact H)|(have ax:=(Option.bind_some _ _).symm.trans H;rw [fy];with_reducible exact ax)|(have ax:=(Option.bind_some _ _).symm.trans H;with_reducible exact ax)|with_reducible exact H|(rw [fy];exact H)|exact H
 have lz:=k0 fy
 clear fy
 have H':=k0 H
 clear H
 go_enter Try.func204,Try.ntmps204
 go_wp2_with (first|((with_reducible refine cy (N:=4) rfl ?_);refine Kd.B7 (Kd.slice 2 (Kd.int .i64)) _ 28 ?hg (N:=4) ?hd (xs:=([]:List (List Int))) (inner:=[]) (ok:=fun _=>True) (cC:=fun _=>True) ?hr ?hp (fun _ hk=>hk) trivial (Below.refl _ _) (Nat.le_refl _) (by simp) ?_;(case hd=>rfl);(case hg=>rfl);(case hr=>first|(go_simp;done)|(go_simp;rfl));(case hp=>exact (bY.none _ _));intro lT w2 tU hb ew ey;clear ew ey;(first|rw [← lz.out] at tU|(simp only [Int.reduceToNat] at tU;rw [← lz.out] at tU));have kQ:=k0 (Kd.pU tU (aU bl));replace HB:=k0 (aG bl hb);clear hb tU))
 go_loopg [3,6] k (fun kq v3 v6 w'=>∃ (bE:List (List Int)) (gf:Int),v6=.int .i64 gf∧ak (iw.l0 kq a0 bE a0 gf=some r)∧ak (kq≤k)∧ak (Kd.S (Kd.slice 2 (Kd.int .i64)) 28 w' w.heap.size (fun _=>True) v3 bE)∧ak (Below w.heap.size w w'))
 case atStart=>exact ⟨(iJ),(0),rs,H',⟨Nat.le_refl _⟩,⟨aS (kQ.out)⟩,⟨bl⟩⟩
 case round =>
  clear H'
  obtain ⟨bE,gf,rfl,HA,aM,az,HB⟩:=hrel
  cases gk with
  | zero=>exact absurd HA.out (by simp [iw.l0])
  | succ k1 =>
   have H:=HA.out
   clear HA
   simp only [iw.l0] at H
   by_cases c4:gf < a0
   case neg =>
    rw [if_neg c4] at H
    have eV:decide (gf < a0)=false:=decide_eq_false c4
    clear c4
    obtain rfl:=Option.some.inj H
    go_wp2
    go_ret
    exact ⟨_,by first|rfl|(simp [bA,bB]<;>rfl)|(simp [*,bA,bB]<;>rfl),by (with_reducible repeat (first|apply Kd.alN|apply Kd.ig|apply Kd.fI));exact az.out,bl⟩
   rw [if_pos c4] at H
   have eV:=decide_eq_true c4
   clear c4
   replace H:=iS H;obtain ⟨c5,H⟩:=H
   have jb:=eq_true c5
   have vU:=decide_eq_true c5
   clear c5
   replace H:=iS H;obtain ⟨c6,H⟩:=H
   have jk:=eq_true c6
   have Fo:=decide_eq_true c6
   clear c6
   obtain ⟨al4,jB⟩:∃ y_:List Int,y_=(List.replicate (a0:Int).toNat 0):=⟨_,rfl⟩
   replace H:(if bE.length < 5864062014805 then (iw.l0 k1 a0 (bE ++ [al4]) a0 (wrap64 (gf+1))) else (none))=some r:=by first|(rw [jB];with_reducible exact H)|(have ax:=(Option.bind_some _ _).symm.trans H;rw [jB];with_reducible exact ax)|(have ax:=(Option.bind_some _ _).symm.trans H;with_reducible exact ax)|with_reducible exact H|(rw [jB];exact H)|exact H
   have uK:=k0 jB
   clear jB
   replace H:=iS H;obtain ⟨c7,H⟩:=H
   have yI:=k0 c7
   clear c7
   obtain ⟨TW,DD⟩:∃ y_:List (List Int),y_=(bE ++ [al4]):=⟨_,rfl⟩
   replace H:(iw.l0 k1 a0 TW a0 (wrap64 (gf+1)))=some r:=by first|(rw [DD];with_reducible exact H)|(have ax:=(Option.bind_some _ _).symm.trans H;rw [DD];with_reducible exact ax)|(have ax:=(Option.bind_some _ _).symm.trans H;with_reducible exact ax)|with_reducible exact H|(rw [DD];exact H)|exact H
   have V1:=k0 DD
   clear DD
   have H':=k0 H
   clear H
   go_wp2_with (first|((with_reducible refine cy (N:=10) rfl ?_);refine Kd.yL (Kd.int .i64) _ 2 rfl (N:=10) rfl 28 _ _ rfl a0 rfl rfl Try.underlying28 (.int .i64 0) 8 lF rfl (by decide) (by omega) 0 (ok:=fun _=>True) (cC:=fun _=>True) rfl (fun _ hk=>hk) trivial oD (Nat.le_trans (Nat.mul_le_mul_right _ (oD:a0.toNat≤35184372088832)) (by omega)) (Below.refl _ _) (Nat.le_refl _) ?_;intro v105 w8 rJ hb ew ey;clear ew ey;(first|rw [← uK.out] at rJ|(simp only [Int.reduceToNat] at rJ;rw [← uK.out] at rJ));replace az:=k0 (Kd.qw (aS az.out) (Kd.dV rJ) hb);have sR:=k0 (Kd.d_ rJ (aU bl));replace HB:=k0 (aG bl hb);clear hb rJ;obtain ⟨amJ,xB,am0⟩:=Kd.fh sR.out;subst am0)|((with_reducible refine pI (b:=.append) (xs:=#[.tmp 8,.tmp 11]) rfl ?_);at_builtin;refine Kd.B6 (Kd.slice 2 (Kd.int .i64)) (w0:=w) w.heap.size rfl (.tmp 8) (.tmp 11) 22 28 (.slice none 0 0) 24 rfl Try.underlying22 yb rfl (by decide) (by omega) u3 bE al4 [.slice amJ al4.length xB] (fun _=>True) (fun k_=>some k_=(.slice amJ al4.length xB:Value).ownBlock) rfl rfl ?aP (fun k_ b8=>((Kd.bx (ok':=fun k_=>((fun _=>True)) k_∧some k_ ≠ (u3:Value).ownBlock) (Kd.pq (sR.out) (Kd.l7 az.out) (by decide)) (fun k_ hk=>⟨trivial,hk.2⟩))).1 k_ b8.symm) ?aF ?aO ?aB ?aS ?aL ?_;(case aP=>exact Kd.amh (Kd.bx (Kd.ami rfl (Kd.bx (ok':=fun k_=>((fun _=>True)) k_∧some k_ ≠ (u3:Value).ownBlock) (Kd.pq (sR.out) (Kd.l7 az.out) (by decide)) (fun k_ hk=>⟨trivial,hk.2⟩))) (fun _ h_=>h_)));(case aB=>exact bl);(case aF=>exact (fun _ _=>trivial));(case aO=>exact (by (with_reducible repeat (first|apply Kd.alN|apply Kd.ig|apply Kd.fI));exact Kd.iM az.out (fun k_ hk=>⟨trivial,fun e_=>hk.2 e_⟩)));(case aS=>exact (aU bl));(case aL=>have:=yI.out;omega);intro aku fJ ho hb hg cz;rw [← V1.out] at ho;have aK:=k0 (hb);have alf:=k0 (ho);clear HB;clear az;clear sR;have HB:=aK;have Vj:=alf;clear aK alf;clear ho hb hg cz))
   go_roundg k1
   case measure=>have:=aM.out;omega
   case rel=>exact ⟨(TW),(wrap64 (gf+1)),rs,H',⟨by have:=aM.out;omega⟩,⟨aS (Vj.out)⟩,⟨bl⟩⟩
end Go.Proofs.Ytoebojnhchocaaa.B
/- Set with little white space, by a program. -/
