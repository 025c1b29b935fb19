/- The functions that one law reaches, each as a Lean function, and that Go's call comes to what it says. Condition of each: that the Lean function answers (is not none). -/
import Derived.Test.YtoebojnhchocaaaBx0
import Derived.Test.YtoebojnhchocaaaBx2
import Derived.Test.YtoebojnhchocaaaBx3
namespace Go.Proofs.Ytoebojnhchocaaa.B
open Go.RowKit Go.Proofs.bC.eg Go.Proofs.bC.iZ Go.Proofs.bC.jr
attribute [local go_sem] max2_int min2_int max_two min_two max_three min_three max_four min_four   -- for this text's walks alone
set_option linter.unusedVariables false
set_option linter.unusedSimpArgs false
/-! ### F89: function 89 -/
def alJ.j0 : Nat → Int → Bool → Int → List (List Int) → Option (Int)
 | 0,_,_,_,_=>none
 | k+1,x7,x20,bU,bN=>if x20=true then (if 2=0 then ((ni.f k bU bN).bind fun t104=>(if t104=true then (some 2) else (some 5))) else (some 2)) else (if x7=0 then ((ni.f k bU bN).bind fun t105=>(if t105=true then (some x7) else (some 5))) else (some x7))
def alJ.f (k:Nat) (af:Int) (aa:List (List Int)) (a1:Int) (l2:List (List Int)):Option (Int):=(fc.f k af aa l2).bind fun t102=>(if t102=0 then ((gP.f a1 0 (wrap64 (af - 1))).bind fun t103=>(alJ.j0 k t102 (!t103) af aa)) else (alJ.j0 k t102 false af aa))
theorem alJ.cj : ∀ k, (∀ y0 y1 y2 y3, aj (alJ.j0 k y0 y1 y2 y3) (alJ.j0 (k + 1) y0 y1 y2 y3))
 | 0=>fun _ _ _ _ r h=>by simp [alJ.j0] at h
 | k+1=>by
  have ali:=alJ.cj k
  ·intro y0 y1 y2 y3
   unfold alJ.j0
   repeat' first
    | (with_reducible first|exact ali _ _ _ _|exact ni.mono _ _ _|exact fc.mono _ _ _ _|exact aj.refl _|exact aj.none _|refine aj.ite ?_ ?_|refine aj.bind ?_ (fun _=>?_))
    | exact ali _ _ _ _|exact ni.mono _ _ _|exact fc.mono _ _ _ _|exact aj.none _|refine aj.ite ?_ ?_|refine aj.bind ?_ (fun _=>?_)
theorem alJ.mono:∀ a0 a1 a2 a3 k,aj (alJ.f k a0 a1 a2 a3) (alJ.f (k+1) a0 a1 a2 a3):=by
 intro a0 a1 a2 a3 k
 have ali:=alJ.cj k
 unfold alJ.f
 repeat' first
  | (with_reducible first|exact ali _ _ _ _|exact ni.mono _ _ _|exact fc.mono _ _ _ _|exact aj.refl _|exact aj.none _|refine aj.ite ?_ ?_|refine aj.bind ?_ (fun _=>?_))
  | exact ali _ _ _ _|exact ni.mono _ _ _|exact fc.mono _ _ _ _|exact aj.none _|refine aj.ite ?_ ?_|refine aj.bind ?_ (fun _=>?_)
set_option maxHeartbeats 8000000 in
set_option maxRecDepth 100000 in
theorem alJ.calls (k : Nat) (af : Int) (au : Option Addr) (aq : Nat) (aa : List (List Int)) (a1 : Int) (A2 : Option Addr) (c2 : Nat) (l2 : List (List Int)) (r : Int) (w : World) (cl : Kd.C (Kd.slice 2 (Kd.int .i64)) w au aa.length aa) (cn : aa.length ≤ aq) (lC : Kd.C (Kd.slice 2 (Kd.int .i64)) w A2 l2.length l2) (uU : l2.length ≤ c2) (h : alJ.f k af aa a1 l2 = some r) :
  Calls Try.prog 89 #[.agg #[.int .i64 af,.slice au aa.length aq],.int .i64 a1,.slice A2 l2.length c2] w fun e w'=>e=.returned (.int .i64 r)∧Below w.heap.size w w':=by
 have kF:=Try.underlying31
 have alx:=k0 cl
 have di:=k0 cn
 clear cl cn
 have yF:=k0 lC
 have amO:=k0 uU
 clear lC uU
 have HB:=k0 (Below.refl w.heap.size w)
 have H:((fc.f k af aa l2).bind fun t102=>(if t102=0 then ((gP.f a1 0 (wrap64 (af - 1))).bind fun t103=>(alJ.j0 k t102 (!t103) af aa)) else (alJ.j0 k t102 false af aa)))=some r:=h
 clear h
 replace H:=Option.bind_eq_some_iff.mp H
 obtain ⟨t102,jH,H⟩:=H
 replace H:(if t102=0 then ((gP.f a1 0 (wrap64 (af - 1))).bind fun t103=>(alJ.j0 k t102 (!t103) af aa)) else (alJ.j0 k t102 false af aa))=some r:=H
 have A4:=k0 jH
 clear jH
 have anP:=k0 H
 clear H
 go_enter Try.func89,Try.ntmps89
 go_upto_region 2 with (first|((with_reducible refine cy (N:=3) rfl ?_);refine ec ?hg (N:=3) ?hd (cs:=#[.int .i64 af,.slice au aa.length aq]) (t:=31) ?hr ?_;(case hd=>rfl);(case hg=>rfl);(case hr=>first|(go_simp;done)|(go_simp;rfl));intro ai hg w6 aJ hb;have ah:=k0 (aJ);have cr:=k0 ((by rw [hg];exact (aU bl):w.heap.size≤ai));have eL:=cr;replace HB:=k0 (aG bl hb);clear hb aJ hg;have sq:w6.cell? ⟨ai,0,none⟩=some (.int .i64 af):=(av ah.out 0).trans rfl;have sr:w6.cell? ⟨ai,1,none⟩=some (.slice au aa.length aq):=(av ah.out 1).trans rfl;have sx:=ale ah.out 0;have sy:=ale ah.out 1)|((with_reducible refine fo (f:=171) rfl ?_);refine fq (some 10) rfl rfl Try.func171 (by kernel_rfl) rfl #[.agg #[.int .i64 af,.slice au aa.length aq],.slice A2 l2.length c2] rfl gm ?_;(with_reducible refine (fc.calls k af _ _ aa _ _ l2 t102 _ ?bt ?bu ?dZ ?ez A4.out).mono ?_);(case bt=>exact aC (Kd.bI alx.out HB.out));(case bu=>exact di.out);(case dZ=>exact aC (Kd.bI yF.out HB.out));(case ez=>exact amO.out);rintro e w8 ⟨rfl,hb⟩;refine ⟨_,rfl,?_⟩;replace ah:=k0 (alg (g:=ai) (o:=sO af au aa aq 31) bk hb);replace HB:=k0 (aG bl hb);(try clear hb)))
 (try simp only [Act.put,zI,zZ,zS])
 go_cut [20] (fun v20 wc=>∃ (kq:Nat) (G5:Bool),v20=.bool G5∧ak (alJ.j0 kq t102 G5 af aa=some r)∧ak (kq≤k)∧ak (wc.heap[ai]?=some (sO af au aa aq 31))∧ak (Below w.heap.size w wc))
 case first =>
  have H:=anP.out
  clear anP
  by_cases c9:t102=0
  case neg =>
   rw [if_neg c9] at H
   have mg:(t102 == 0)=false:=beq_eq_false_iff_ne.mpr c9
   have OE:(t102 != 0)=true:=bne_iff_ne.mpr c9
   (first|rw [mg]|(simp only [cQ,dr];rw [mg])|skip)
   have H':=k0 H
   clear H
   go_wp2
   go_meet
   case rel=>exact ⟨_,(false),rs,H',⟨by first|omega|exact Nat.le_refl _⟩,⟨bk⟩,⟨bl⟩⟩
  rw [if_pos c9] at H
  have mg:(t102 == 0)=true:=beq_iff_eq.mpr c9
  have OE:(t102 != 0)=false:=bne_eq_false_iff_eq.mpr c9
  clear c9
  (first|rw [mg]|(simp only [cQ,dr];rw [mg])|skip)
  replace H:=Option.bind_eq_some_iff.mp H
  obtain ⟨t103,Mo,H⟩:=H
  replace H:(alJ.j0 k t102 (!t103) af aa)=some r:=H
  have an6:=k0 Mo
  clear Mo
  have H':=k0 H
  clear H
  have anl:w8.cell? ⟨ai,0,none⟩=some (.int .i64 af):=(av ah.out 0).trans rfl
  have anm:w8.cell? ⟨ai,1,none⟩=some (.slice au aa.length aq):=(av ah.out 1).trans rfl
  have Bb:=ale ah.out 0
  have Bc:=ale ah.out 1
  go_wp2_with (first|(go_at_call 172;(with_reducible refine (gP.calls a1 0 (wrap64 (af - 1)) t103 _ an6.out).mono ?_);rintro e w' ⟨rfl,⟨nd,rfl⟩⟩))
  go_meet
  case rel=>exact ⟨_,(!t103),rs,H',⟨by first|omega|exact Nat.le_refl _⟩,⟨bk⟩,⟨bl⟩⟩
 case rest =>
  clear anP
  (try clear c9);(try clear mg);(try clear OE);(try clear anl);(try clear anm);(try clear sq);(try clear sr);(try clear Bb);(try clear Bc);(try clear sx);(try clear sy)
  obtain ⟨kq,G5,rfl,HA,HJ4,ah,HB⟩:=hcut
  cases kq with
  | zero=>exact absurd HA.out (by simp [alJ.j0])
  | succ Gn =>
   have H:=HA.out
   clear HA
   simp only [alJ.j0] at H
   by_cases c12:G5=true
   case neg =>
    replace c12:=Bool.eq_false_iff.mpr c12
    subst c12
    have H1:(if t102=0 then ((ni.f Gn af aa).bind fun t105=>(if t105=true then (some t102) else (some 5))) else (some t102))=some r:=by rw [if_neg (show ¬ (false=true) by decide)] at H;exact H
    clear H
    have H:=H1
    clear H1
    by_cases c20:t102=0
    case neg =>
     rw [if_neg c20] at H
     have ot:(t102 == 0)=false:=beq_eq_false_iff_ne.mpr c20
     have Xz:(t102 != 0)=true:=bne_iff_ne.mpr c20
     obtain rfl:=Option.some.inj H
     go_wp2
     go_ret
     exact ⟨by first|rfl|(simp [bA,bB]<;>rfl)|(simp [*,bA,bB]<;>rfl),bl⟩
    rw [if_pos c20] at H
    have ot:(t102 == 0)=true:=beq_iff_eq.mpr c20
    have Xz:(t102 != 0)=false:=bne_eq_false_iff_eq.mpr c20
    clear c20
    replace H:=Option.bind_eq_some_iff.mp H
    obtain ⟨t105,Ms,H⟩:=H
    replace H:(if t105=true then (some t102) else (some 5))=some r:=H
    have Mr:=k0 Ms
    clear Ms
    by_cases c22:t105=true
    case neg =>
     replace c22:=Bool.eq_false_iff.mpr c22
     subst c22
     have H1:(some 5)=some r:=by rw [if_neg (show ¬ (false=true) by decide)] at H;exact H
     clear H
     have H:=H1
     clear H1
     obtain rfl:=Option.some.inj H
     have ahR:wc.cell? ⟨ai,0,none⟩=some (.int .i64 af):=(av ah.out 0).trans rfl
     have ahS:wc.cell? ⟨ai,1,none⟩=some (.slice au aa.length aq):=(av ah.out 1).trans rfl
     have ain:=ale ah.out 0
     have aio:=ale ah.out 1
     go_wp2_with (first|(go_at_call 101;(with_reducible refine (ni.calls Gn af _ _ aa false _ ?bt ?bu Mr.out).mono ?_);(case bt=>exact aC (Kd.bI alx.out HB.out));(case bu=>exact di.out);rintro e wV ⟨rfl,hb⟩;replace ah:=k0 (alg (g:=ai) (o:=sO af au aa aq 31) bk hb);replace HB:=k0 (aG bl hb);(try clear hb)))
     go_ret
     exact ⟨by first|rfl|(simp [bA,bB]<;>rfl)|(simp [*,bA,bB]<;>rfl),bl⟩
    subst c22
    have H1:(some t102)=some r:=by rw [if_pos rfl] at H;exact H
    clear H
    have H:=H1
    clear H1
    obtain rfl:=Option.some.inj H
    have ahP:wc.cell? ⟨ai,0,none⟩=some (.int .i64 af):=(av ah.out 0).trans rfl
    have ahQ:wc.cell? ⟨ai,1,none⟩=some (.slice au aa.length aq):=(av ah.out 1).trans rfl
    have ail:=ale ah.out 0
    have aim:=ale ah.out 1
    go_wp2_with (first|(go_at_call 101;(with_reducible refine (ni.calls Gn af _ _ aa true _ ?bt ?bu Mr.out).mono ?_);(case bt=>exact aC (Kd.bI alx.out HB.out));(case bu=>exact di.out);rintro e TM ⟨rfl,hb⟩;replace ah:=k0 (alg (g:=ai) (o:=sO af au aa aq 31) bk hb);replace HB:=k0 (aG bl hb);(try clear hb)))
    go_ret
    exact ⟨by first|rfl|(simp [bA,bB]<;>rfl)|(simp [*,bA,bB]<;>rfl),bl⟩
   subst c12
   have H1:(if 2=0 then ((ni.f Gn af aa).bind fun t104=>(if t104=true then (some 2) else (some 5))) else (some 2))=some r:=by rw [if_pos rfl] at H;exact H
   clear H
   have H:=H1
   clear H1
   by_cases c13:2=0
   case neg =>
    rw [if_neg c13] at H
    have kU:(2 == 0)=false:=beq_eq_false_iff_ne.mpr c13
    have agv:(2 != 0)=true:=bne_iff_ne.mpr c13
    obtain rfl:=Option.some.inj H
    go_wp2
    go_ret
    exact ⟨by first|rfl|(simp [bA,bB]<;>rfl)|(simp [*,bA,bB]<;>rfl),bl⟩
   exact absurd c13 (by decide)
/-! ### F173: function 173 -/
def vA.f (l0:List Int):Option (List Int):=(some (([]:List Int):List Int)).bind fun iJ=>(if iJ.length+l0.length < 17592186044416 then (some (iJ ++ l0)) else (none))
set_option maxHeartbeats 8000000 in
set_option maxRecDepth 100000 in
theorem vA.calls (A0 : Option Addr) (c0 : Nat) (l0 : List Int) (r : List Int) (w : World) (cI : Kd.C (Kd.int .i64) w A0 l0.length l0) (hc0 : l0.length ≤ c0) (h : vA.f l0 = some r) :
  Calls Try.prog 173 #[.slice A0 l0.length c0] w fun e w'=>∃ cF:Value,e=.returned (cF)∧Kd.R (Kd.int .i64) 2 w' w.heap.size (fun _=>True) cF r∧Below w.heap.size w w':=by
 have eA:=k0 cI
 have kP:=k0 hc0
 clear cI hc0
 have HB:=k0 (Below.refl w.heap.size w)
 have H:((some (([]:List Int):List Int)).bind fun iJ=>(if iJ.length+l0.length < 17592186044416 then (some (iJ ++ l0)) else (none)))=some r:=h
 clear h
 obtain ⟨iJ,fy⟩:∃ y_:List Int,y_=(([]:List Int)):=⟨_,rfl⟩
 replace H:(if iJ.length+l0.length < 17592186044416 then (some (iJ ++ l0)) else (none))=some r:=by first|(rw [fy];with_reducible exact H)|(have ax:=(Option.bind_some _ _).symm.trans H;rw [fy];with_reducible exact ax)|(have ax:=(Option.bind_some _ _).symm.trans H;with_reducible exact ax)|with_reducible exact H|(rw [fy];exact H)|exact H
 have lz:=k0 fy
 clear fy
 replace H:=iS H;obtain ⟨c2,H⟩:=H
 have Iy:=k0 c2
 clear c2
 obtain ⟨al4,jB⟩:∃ y_:List Int,y_=(iJ ++ l0):=⟨_,rfl⟩
 replace H:(some al4)=some r:=by first|(rw [jB];with_reducible exact H)|(have ax:=(Option.bind_some _ _).symm.trans H;rw [jB];with_reducible exact ax)|(have ax:=(Option.bind_some _ _).symm.trans H;with_reducible exact ax)|with_reducible exact H|(rw [jB];exact H)|exact H
 have uK:=k0 jB
 clear jB
 obtain rfl:=Option.some.inj H
 go_enter Try.func173,Try.ntmps173
 go_wp2_with (first|((with_reducible refine cy (N:=3) rfl ?_);refine Kd.pT (Kd.int .i64) _ 2 ?hg (N:=3) ?hd (xs:=([]:List Int)) (inner:=[]) (ok:=fun _=>True) (cC:=fun _=>True) ?hr ?hp (fun _ hk=>hk) trivial (Below.refl _ _) (Nat.le_refl _) (by simp) ?_;(case hd=>rfl);(case hg=>rfl);(case hr=>first|(go_simp;done)|(go_simp;rfl));(case hp=>exact (bY.none _ _));intro lT w3 ek hb ew ey;clear ew ey;(first|rw [← lz.out] at ek|(simp only [Int.reduceToNat] at ek;rw [← lz.out] at ek));have kQ:=k0 (Kd.d_ ek (aU bl));replace HB:=k0 (aG bl hb);clear hb ek)|((with_reducible refine pI (b:=.append) (xs:=#[.tmp 3,.tmp 4]) rfl ?_);at_builtin;refine Kd.IV (Kd.int .i64) (w0:=w) w.heap.size rfl (.tmp 3) (.tmp 4) 28 2 (.int .i64 0) 8 rfl Try.underlying28 lF rfl (by decide) (by omega) lT iJ l0 _ _ _ (fun _=>True) (fun _=>False) rfl rfl ?aO ?aR (fun _ _ h=>h) (fun _ h=>h.elim) ?aF ?aB ?aS ?aL ?_;(case aR=>repeat (first|exact (Kd.bI eA.out HB.out)|(with_reducible refine Kd.kM ?_ _)|(with_reducible refine Kd.alZ ?_ _)|(with_reducible refine Kd.j6 ?_)));(case aB=>exact bl);(case aF=>exact (fun _ _=>trivial));(case aO=>exact (aR kQ.out));(case aS=>exact (aU bl));(case aL=>have:=Iy.out;omega);intro v105 w5 ho hb hg cz;rw [← uK.out] at ho;have aK:=k0 (hb);have alf:=k0 (ho);clear HB;clear kQ;have HB:=aK;have sR:=alf;clear aK alf;clear ho hb hg cz))
 go_ret
 exact ⟨_,by first|rfl|(simp [bA,bB]<;>rfl)|(simp [*,bA,bB]<;>rfl),by (with_reducible repeat (first|apply Kd.bO|apply Kd.bR|apply Kd.alp));exact sR.out,bl⟩
end Go.Proofs.Ytoebojnhchocaaa.B
/- Set with little white space, by a program. -/
