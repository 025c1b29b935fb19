/- The functions that one law reaches, each as a Lean function, and that Go's call comes to what it says. Condition of each: that the Lean function answers (is not none). -/
import Derived.Test.YtoebojnhchocaaaBx0
import Derived.Test.YtoebojnhchocaaaBx9
namespace Go.Proofs.Ytoebojnhchocaaa.B
open Go.RowKit Go.Proofs.bC.eg Go.Proofs.bC.iZ Go.Proofs.bC.jr
attribute [local go_sem] max2_int min2_int max_two min_two max_three min_three max_four min_four   -- for this text's walks alone
set_option linter.unusedVariables false
set_option linter.unusedSimpArgs false
/-! ### F25: function 25 -/
def qj.f (k:Nat) (af:Int) (aa:List (List Int)):Option (Int × (List (List Int))):=(iD.f k aa).bind fun t104=>(some (af,t104))
theorem qj.mono:∀ a0 a1 k,aj (qj.f k a0 a1) (qj.f (k+1) a0 a1):=by
 intro a0 a1 k
 unfold qj.f
 repeat' first
  | (with_reducible first|exact iD.mono _ _|exact aj.refl _|exact aj.none _|refine aj.ite ?_ ?_|refine aj.bind ?_ (fun _=>?_))
  | exact iD.mono _ _|exact aj.none _|refine aj.ite ?_ ?_|refine aj.bind ?_ (fun _=>?_)
set_option maxHeartbeats 8000000 in
set_option maxRecDepth 100000 in
theorem qj.calls (k : Nat) (af : Int) (au : Option Addr) (aq : Nat) (aa : List (List Int)) (r1 : Int) (r2 : List (List Int)) (w : World) (cl : Kd.C (Kd.slice 2 (Kd.int .i64)) w au aa.length aa) (cn : aa.length ≤ aq) (h : qj.f k af aa = some (r1, r2)) :
  Calls Try.prog 25 #[.agg #[.int .i64 af,.slice au aa.length aq]] w fun e w'=>∃ TE:Value,e=.returned (.agg #[.int .i64 r1,TE])∧Kd.S (Kd.slice 2 (Kd.int .i64)) 28 w' w.heap.size (fun _=>True) TE r2∧Below w.heap.size w w':=by
 have abZ:=Try.underlying24
 have kF:=Try.underlying31
 have alx:=k0 cl
 have di:=k0 cn
 clear cl cn
 have HB:=k0 (Below.refl w.heap.size w)
 have H:((iD.f k aa).bind fun t104=>(some (af,t104)))=some (r1,r2):=h
 clear h
 replace H:=Option.bind_eq_some_iff.mp H
 obtain ⟨t104,mH,H⟩:=H
 replace H:(some (af,t104))=some (r1,r2):=H
 have A2:=k0 mH
 clear mH
 simp only [Option.some.injEq,Prod.mk.injEq] at H
 obtain ⟨rfl,rfl⟩:=H
 go_enter Try.func25,Try.ntmps25
 go_wp2_with (first|((with_reducible refine cy (N:=1) rfl ?_);refine ec ?hg (N:=1) ?hd (cs:=#[.int .i64 af,.slice au aa.length aq]) (t:=24) ?hr ?_;(case hd=>rfl);(case hg=>rfl);(case hr=>first|(go_simp;done)|(go_simp;rfl));intro ai hg w3 aJ hb;have ah:=k0 (aJ);have cr:=k0 ((by rw [hg];exact (aU bl):w.heap.size≤ai));have eL:=cr;replace HB:=k0 (aG bl hb);clear hb aJ hg)|((with_reducible refine cy (N:=2) rfl ?_);refine ec ?hg (N:=2) ?hd (cs:=#[.int .i64 0,.slice none 0 0]) (t:=31) ?hr ?_;(case hd=>rfl);(case hg=>rfl);(case hr=>first|(go_simp;done)|(go_simp;rfl));intro fW hg w4 aJ hb;have jJ:=k0 (aJ);have vC:=k0 ((by rw [hg];exact (aU bl):w.heap.size≤fW));have EG:=vC;replace HB:=k0 (aG bl hb);have vI:=k0 ((by rw [hg];exact Nat.ne_of_lt (alq (g:=ai) (o:=sO af au aa aq 24) bk):ai ≠ fW));have vK:=k0 ((by rw [hg];exact Nat.ne_of_gt (alq (g:=ai) (o:=sO af au aa aq 24) bk):fW ≠ ai));replace ah:=k0 (alg (g:=ai) (o:=sO af au aa aq 24) bk hb);clear hb aJ hg)|((with_reducible refine cy (N:=3) rfl ?_);refine ec ?hg (N:=3) ?hd (cs:=#[.int .i64 0,.slice none 0 0]) (t:=31) ?hr ?_;(case hd=>rfl);(case hg=>rfl);(case hr=>first|(go_simp;done)|(go_simp;rfl));intro lQ hg w5 aJ hb;have aK:=k0 (alg (g:=ai) (o:=sO af au aa aq 24) bk hb);have alf:=k0 (alg (g:=fW) (o:=.cells #[.int .i64 0,.slice none 0 0] 31 (0,0)) bk hb);have alj:=k0 (aG bl hb);have bw:=k0 (aJ);have bQ:=k0 ((by rw [hg];exact (aU bl):w.heap.size≤lQ));have bZ:=k0 ((by rw [hg];exact (aU bl):w.heap.size≤lQ));have cB:=k0 ((by rw [hg];exact Nat.ne_of_lt (alq (g:=ai) (o:=sO af au aa aq 24) bk):ai ≠ lQ));have cM:=k0 ((by rw [hg];exact Nat.ne_of_gt (alq (g:=ai) (o:=sO af au aa aq 24) bk):lQ ≠ ai));have dJ:=k0 ((by rw [hg];exact Nat.ne_of_lt (alq (g:=fW) (o:=.cells #[.int .i64 0,.slice none 0 0] 31 (0,0)) bk):fW ≠ lQ));have eX:=k0 ((by rw [hg];exact Nat.ne_of_gt (alq (g:=fW) (o:=.cells #[.int .i64 0,.slice none 0 0] 31 (0,0)) bk):lQ ≠ fW));clear ah;clear jJ;clear HB;have ah:=aK;have jJ:=alf;have HB:=alj;have ama:=bw;have U4:=bQ;have UW:=bZ;have E0:=cB;have IE:=cM;have E1:=dJ;have NU:=eX;clear aK alf alj bw bQ bZ cB cM dJ eX;clear hb aJ hg;have ai7:=vI.out;have ajF:=vK.out;have ajb:=E0.out;have ajL:=IE.out;have xS:w5.cell? ⟨ai,0,none⟩=some (.int .i64 af):=(av ah.out 0).trans rfl;have xT:w5.cell? ⟨ai,1,none⟩=some (.slice au aa.length aq):=(av ah.out 1).trans rfl;have xY:=ale ah.out 0;have xZ:=ale ah.out 1;have abJ:=NU.out;have abM:=E1.out;have wj:w5.cell? ⟨lQ,0,none⟩=some (.int .i64 0):=(av ama.out 0).trans rfl;have wk:w5.cell? ⟨lQ,1,none⟩=some (.slice none 0 0):=(av ama.out 1).trans rfl;have amG:=ale ama.out 0;have wB:=ale ama.out 1)|((with_reducible refine fo (f:=83) rfl ?_);refine fq (some 9) rfl rfl Try.func83 (by kernel_rfl) rfl #[.slice au aa.length aq] rfl gm ?_;(with_reducible refine (iD.calls k _ _ aa t104 _ ?bt ?bu A2.out).mono ?_);(case bt=>exact Kd.bI alx.out bl);(case bu=>exact di.out);rintro e eM ⟨v105,rfl,aY,hb⟩;refine ⟨_,rfl,?_⟩;have sR:=k0 (Kd.pU aY (aU bl));replace ah:=k0 (alg (g:=ai) (o:=sO af au aa aq 24) (by (with_reducible repeat (first|refine cm ?_ _|refine bJ ?_|refine alo ?_ _));refine gD ?_ E0.out _;exact bk) hb);replace jJ:=k0 (alg (g:=fW) (o:=.cells #[.int .i64 0,.slice none 0 0] 31 (0,0)) (by (with_reducible repeat (first|refine cm ?_ _|refine bJ ?_|refine alo ?_ _));refine gD ?_ E1.out _;exact bk) hb);replace ama:=k0 (alg (g:=lQ) (o:=.cells #[.int .i64 af,.slice none 0 0] 31 (0,0)) (by (with_reducible repeat (first|refine cm ?_ _|refine bJ ?_|refine alo ?_ _));refine pE (cs:=#[.int .i64 0,.slice none 0 0]) ?_ 0 _ rfl;exact bk) hb);replace HB:=k0 (aG bl hb);(try clear hb);(try clear aY);obtain ⟨jI,gT,vY⟩:=Kd.qx sR.out;subst vY;have QB:eM.cell? ⟨lQ,0,none⟩=some (.int .i64 af):=(av ama.out 0).trans rfl;have QC:eM.cell? ⟨lQ,1,none⟩=some (.slice none 0 0):=(av ama.out 1).trans rfl;have QW:=ale ama.out 0;have QX:=ale ama.out 1;have wm:eM.cell? ⟨fW,0,none⟩=some (.int .i64 0):=(av jJ.out 0).trans rfl;have wo:eM.cell? ⟨fW,1,none⟩=some (.slice none 0 0):=(av jJ.out 1).trans rfl;have wC:=ale jJ.out 0;have wD:=ale jJ.out 1))
 refine bodyPost_ret (results_cell_row rfl _ _ fW 31 #[.int .i64 af,.slice jI t104.length gT] (0,0) _ rfl (by (with_reducible repeat (first|refine cm ?_ _|refine bJ ?_|refine alo ?_ _));refine pE (cs:=#[.int .i64 af,.slice none 0 0]) ?_ 1 _ rfl;(with_reducible repeat (first|refine cm ?_ _|refine bJ ?_|refine alo ?_ _));refine pE (cs:=#[.int .i64 0,.slice none 0 0]) ?_ 0 _ rfl;(with_reducible repeat (first|refine cm ?_ _|refine bJ ?_|refine alo ?_ _));refine gD ?_ E1.out _;exact bk) Try.underlying31 rfl (by kernel_rfl)) rfl ?_
 exact ⟨_,by first|rfl|(simp [bA,bB]<;>rfl)|(simp [*,bA,bB]<;>rfl),by (with_reducible repeat (first|apply Kd.alN|apply Kd.ig|apply Kd.fI));exact Kd.iM (Kd.am_ (p:=⟨fW,1,none⟩) (Kd.am_ (p:=⟨fW,0,none⟩) (Kd.am_ (p:=⟨lQ,1,none⟩) (Kd.E_ (Kd.E_ sR.out ama.out (by decide)) jJ.out (by decide)) (fun _ hk=>hk.1.2) (.slice jI t104.length gT)) (fun _ hk=>hk.2) (.int .i64 af)) (fun _ hk=>hk.2) (.slice jI t104.length gT)) (fun _ hk=>trivial),bl⟩
/-! ### F194: function 194 -/
def g_.f (a0:Int) (a1:Int) (a2:Int):Option (Bool):=if a0 ≥ a1 then (some (decide (a0≤a2))) else (some false)
set_option maxHeartbeats 8000000 in
set_option maxRecDepth 100000 in
theorem g_.calls (a0 : Int) (a1 : Int) (a2 : Int) (r : Bool) (w : World) (h : g_.f a0 a1 a2 = some r) :
  Calls Try.prog 194 #[.int .i64 a0,.int .i64 a1,.int .i64 a2] w fun e w'=>e=.returned (.bool r)∧als w w':=by
 have H:(if a0 ≥ a1 then (some (decide (a0≤a2))) else (some false))=some r:=h
 clear h
 by_cases c4:a0 ≥ a1
 case neg =>
  rw [if_neg c4] at H
  have eV:decide (a1≤a0)=false:=decide_eq_false c4
  clear c4
  obtain rfl:=Option.some.inj H
  go_enter Try.func194,Try.ntmps194
  go_wp2
  go_ret
  exact ⟨by first|rfl|(simp;done)|(simp [*];done),by repeat (first|exact als.refl _|apply als.step)⟩
 rw [if_pos c4] at H
 have eV:=decide_eq_true c4
 clear c4
 obtain rfl:=Option.some.inj H
 go_enter Try.func194,Try.ntmps194
 go_wp2
 go_ret
 exact ⟨by first|rfl|(simp;done)|(simp [*];done),by repeat (first|exact als.refl _|apply als.step)⟩
/-! ### F106: function 106 -/
def ir.l0 : Nat → List (List Int) → Int → Int → Int → List (List Int) → Option (Bool)
 | 0,_,_,_,_,_=>none
 | k+1,x6,x7,x8,bU,bN=>if x8 < x7 then (if 0≤x8 then (if x8 < (x6.length:Int) then (if ((ag x6 x8).length:Int)=2 then (if 0 < ((ag x6 x8).length:Int) then ((g_.f (rd (ag x6 x8) 0) 0 (wrap64 (bU - 1))).bind fun t105=>(if t105=true then (if 1 < ((ag x6 x8).length:Int) then ((g_.f (rd (ag x6 x8) 1) 0 (wrap64 (bU - 1))).bind fun t107=>(if t107=true then (ir.l0 k x6 x7 (wrap64 (x8+1)) bU bN) else (some false))) else (none)) else (some false))) else (none)) else (some false)) else (none)) else (none)) else ((g_.f bU 1 8).bind fun t102=>(if t102=true then (some (decide ((bN.length:Int)≤10))) else (some false)))
def ir.f (k:Nat) (af:Int) (aa:List (List Int)):Option (Bool):=ir.l0 k aa (aa.length:Int) 0 af aa
theorem ir.cj : ∀ k, (∀ y0 y1 y2 y3 y4, aj (ir.l0 k y0 y1 y2 y3 y4) (ir.l0 (k + 1) y0 y1 y2 y3 y4))
 | 0=>fun _ _ _ _ _ r h=>by simp [ir.l0] at h
 | k+1=>by
  have ali:=ir.cj k
  ·intro y0 y1 y2 y3 y4
   unfold ir.l0
   repeat' first
    | (with_reducible first|exact ali _ _ _ _ _|exact aj.refl _|exact aj.none _|refine aj.ite ?_ ?_|refine aj.bind ?_ (fun _=>?_))
    | exact ali _ _ _ _ _|exact aj.none _|refine aj.ite ?_ ?_|refine aj.bind ?_ (fun _=>?_)
theorem ir.mono:∀ a0 a1 k,aj (ir.f k a0 a1) (ir.f (k+1) a0 a1):=by
 intro a0 a1 k
 have ali:=ir.cj k
 unfold ir.f
 repeat' first
  | (with_reducible first|exact ali _ _ _ _ _|exact aj.refl _|exact aj.none _|refine aj.ite ?_ ?_|refine aj.bind ?_ (fun _=>?_))
  | exact ali _ _ _ _ _|exact aj.none _|refine aj.ite ?_ ?_|refine aj.bind ?_ (fun _=>?_)
set_option maxHeartbeats 8000000 in
set_option maxRecDepth 100000 in
theorem ir.calls (k : Nat) (af : Int) (au : Option Addr) (aq : Nat) (aa : List (List Int)) (r : Bool) (w : World) (cl : Kd.C (Kd.slice 2 (Kd.int .i64)) w au aa.length aa) (cn : aa.length ≤ aq) (h : ir.f k af aa = some r) :
  Calls Try.prog 106 #[.agg #[.int .i64 af,.slice au aa.length aq]] w fun e w'=>e=.returned (.bool r)∧Below w.heap.size w w':=by
 have kF:=Try.underlying31
 have alx:=k0 cl
 have di:=k0 cn
 clear cl cn
 have HB:=k0 (Below.refl w.heap.size w)
 have H:(ir.l0 k aa (aa.length:Int) 0 af aa)=some r:=h
 clear h
 have H':=k0 H
 clear H
 go_enter Try.func106,Try.ntmps106
 go_wp2_with (first|((with_reducible refine cy (N:=1) rfl ?_);(try (refine ang (by rfl) ?_;dsimp only));refine ec ?hg (N:=1) ?hd (cs:=#[.int .i64 af,.slice au aa.length aq]) (t:=31) ?hr ?_;(case hd=>rfl);(case hg=>rfl);(case hr=>first|(go_simp;done)|(go_simp;rfl));intro ai hg w2 aJ hb;have ah:=k0 (aJ);have cr:=k0 ((by rw [hg];exact (aU bl):w.heap.size≤ai));have eL:=cr;replace HB:=k0 (aG bl hb);clear hb aJ hg;have Kq:w2.cell? ⟨ai,0,none⟩=some (.int .i64 af):=(av ah.out 0).trans rfl;have Kr:w2.cell? ⟨ai,1,none⟩=some (.slice au aa.length aq):=(av ah.out 1).trans rfl;have KE:=ale ah.out 0;have KF:=ale ah.out 1))
 repeat (go_quiet (first|((with_reducible refine cy (N:=1) rfl ?_);(try (refine ang (by rfl) ?_;dsimp only));refine ec ?hg (N:=1) ?hd (cs:=#[.int .i64 af,.slice au aa.length aq]) (t:=31) ?hr ?_;(case hd=>rfl);(case hg=>rfl);(case hr=>first|(go_simp;done)|(go_simp;rfl));intro ai hg w2 aJ hb;have ah:=k0 (aJ);have cr:=k0 ((by rw [hg];exact (aU bl):w.heap.size≤ai));have eL:=cr;replace HB:=k0 (aG bl hb);clear hb aJ hg;have Kq:w2.cell? ⟨ai,0,none⟩=some (.int .i64 af):=(av ah.out 0).trans rfl;have Kr:w2.cell? ⟨ai,1,none⟩=some (.slice au aa.length aq):=(av ah.out 1).trans rfl;have KE:=ale ah.out 0;have KF:=ale ah.out 1));try go_wp2_with (first|((with_reducible refine cy (N:=1) rfl ?_);(try (refine ang (by rfl) ?_;dsimp only));refine ec ?hg (N:=1) ?hd (cs:=#[.int .i64 af,.slice au aa.length aq]) (t:=31) ?hr ?_;(case hd=>rfl);(case hg=>rfl);(case hr=>first|(go_simp;done)|(go_simp;rfl));intro ai hg w2 aJ hb;have ah:=k0 (aJ);have cr:=k0 ((by rw [hg];exact (aU bl):w.heap.size≤ai));have eL:=cr;replace HB:=k0 (aG bl hb);clear hb aJ hg;have Kq:w2.cell? ⟨ai,0,none⟩=some (.int .i64 af):=(av ah.out 0).trans rfl;have Kr:w2.cell? ⟨ai,1,none⟩=some (.slice au aa.length aq):=(av ah.out 1).trans rfl;have KE:=ale ah.out 0;have KF:=ale ah.out 1)))
 go_loopg [8] k (fun kq v8 w'=>∃ (bF:Int),v8=.int .i64 bF∧ak (ir.l0 kq aa (aa.length:Int) bF af aa=some r)∧ak (kq≤k)∧ak (w'.heap[ai]?=some (sO af au aa aq 31))∧ak (Below w.heap.size w w'))
 case atStart=>exact ⟨(0),rs,H',⟨Nat.le_refl _⟩,⟨bk⟩,⟨bl⟩⟩
 case round =>
  clear H'
  (try clear Kq);(try clear Kr);(try clear KE);(try clear KF)
  obtain ⟨bF,rfl,HA,aM,ah,HB⟩:=hrel
  cases gk with
  | zero=>exact absurd HA.out (by simp [ir.l0])
  | succ k1 =>
   have H:=HA.out
   clear HA
   simp only [ir.l0] at H
   by_cases c4:bF < (aa.length:Int)
   case neg =>
    rw [if_neg c4] at H
    have eV:decide (bF < (aa.length:Int))=false:=decide_eq_false c4
    clear c4
    replace H:=Option.bind_eq_some_iff.mp H
    obtain ⟨t102,anq,H⟩:=H
    replace H:(if t102=true then (some (decide ((aa.length:Int)≤10))) else (some false))=some r:=H
    have wX:=k0 anq
    clear anq
    by_cases c18:t102=true
    case neg =>
     replace c18:=Bool.eq_false_iff.mpr c18
     subst c18
     have H1:(some false)=some r:=by rw [if_neg (show ¬ (false=true) by decide)] at H;exact H
     clear H
     have H:=H1
     clear H1
     obtain rfl:=Option.some.inj H
     have Kk:wr.cell? ⟨ai,0,none⟩=some (.int .i64 af):=(av ah.out 0).trans rfl
     have Kl:wr.cell? ⟨ai,1,none⟩=some (.slice au aa.length aq):=(av ah.out 1).trans rfl
     have Ky:=ale ah.out 0
     have Kz:=ale ah.out 1
     go_wp2_with (first|(go_at_call 194;(with_reducible refine (g_.calls af 1 8 false _ wX.out).mono ?_);rintro e w' ⟨rfl,⟨nd,rfl⟩⟩;(try first|exact ⟨rfl,_,World.drewN_drewN _ _ _⟩|exact ⟨rfl,_,Eq.trans (World.drewN_drewN _ _ _) (congrArg (World.drewN _) (Nat.add_assoc _ _ _))⟩)))
     repeat (go_quiet (first|(go_at_call 194;(with_reducible refine (g_.calls af 1 8 false _ wX.out).mono ?_);rintro e w' ⟨rfl,⟨nd,rfl⟩⟩;(try first|exact ⟨rfl,_,World.drewN_drewN _ _ _⟩|exact ⟨rfl,_,Eq.trans (World.drewN_drewN _ _ _) (congrArg (World.drewN _) (Nat.add_assoc _ _ _))⟩)));try go_wp2_with (first|(go_at_call 194;(with_reducible refine (g_.calls af 1 8 false _ wX.out).mono ?_);rintro e w' ⟨rfl,⟨nd,rfl⟩⟩;(try first|exact ⟨rfl,_,World.drewN_drewN _ _ _⟩|exact ⟨rfl,_,Eq.trans (World.drewN_drewN _ _ _) (congrArg (World.drewN _) (Nat.add_assoc _ _ _))⟩))))
     go_ret
     exact ⟨by first|rfl|(simp [bA,bB]<;>rfl)|(simp [*,bA,bB]<;>rfl),bl⟩
    subst c18
    have H1:(some (decide ((aa.length:Int)≤10)))=some r:=by rw [if_pos rfl] at H;exact H
    clear H
    have H:=H1
    clear H1
    obtain rfl:=Option.some.inj H
    have sk:wr.cell? ⟨ai,0,none⟩=some (.int .i64 af):=(av ah.out 0).trans rfl
    have xP:wr.cell? ⟨ai,1,none⟩=some (.slice au aa.length aq):=(av ah.out 1).trans rfl
    have sw:=ale ah.out 0
    have xV:=ale ah.out 1
    go_wp2_with (first|(go_at_call 194;(with_reducible refine (g_.calls af 1 8 true _ wX.out).mono ?_);rintro e w' ⟨rfl,⟨nd,rfl⟩⟩;(try first|exact ⟨rfl,_,World.drewN_drewN _ _ _⟩|exact ⟨rfl,_,Eq.trans (World.drewN_drewN _ _ _) (congrArg (World.drewN _) (Nat.add_assoc _ _ _))⟩)))
    repeat (go_quiet (first|(go_at_call 194;(with_reducible refine (g_.calls af 1 8 true _ wX.out).mono ?_);rintro e w' ⟨rfl,⟨nd,rfl⟩⟩;(try first|exact ⟨rfl,_,World.drewN_drewN _ _ _⟩|exact ⟨rfl,_,Eq.trans (World.drewN_drewN _ _ _) (congrArg (World.drewN _) (Nat.add_assoc _ _ _))⟩)));try go_wp2_with (first|(go_at_call 194;(with_reducible refine (g_.calls af 1 8 true _ wX.out).mono ?_);rintro e w' ⟨rfl,⟨nd,rfl⟩⟩;(try first|exact ⟨rfl,_,World.drewN_drewN _ _ _⟩|exact ⟨rfl,_,Eq.trans (World.drewN_drewN _ _ _) (congrArg (World.drewN _) (Nat.add_assoc _ _ _))⟩))))
    go_ret
    exact ⟨by first|rfl|(simp [bA,bB]<;>rfl)|(simp [*,bA,bB]<;>rfl),bl⟩
   rw [if_pos c4] at H
   have eV:=decide_eq_true c4
   clear c4
   replace H:=iS H;obtain ⟨c5,H⟩:=H
   have jb:=decide_eq_true c5
   clear c5
   replace H:=iS H;obtain ⟨c6,H⟩:=H
   have jk:=decide_eq_true c6
   clear c6
   by_cases c7:((ag aa bF).length:Int)=2
   case neg =>
    rw [if_neg c7] at H
    have iz:(((ag aa bF).length:Int) == 2)=false:=beq_eq_false_iff_ne.mpr c7
    have AV:(((ag aa bF).length:Int) != 2)=true:=bne_iff_ne.mpr c7
    obtain rfl:=Option.some.inj H
    have dQ:0≤(bF:Int):=oD
    have dR:bF < (aa.length:Int):=oD
    obtain ⟨ji,vu,vO,e103,en,jA,jy⟩:=cZ alx.out bF dQ dR
    cases e103
    replace en:=hbc HB en
    have qp:=k0 jy
    have vD:=k0 jA
    clear jy jA
    replace dQ:=eq_true dQ
    replace dR:=eq_true dR
    go_wp2
    repeat (go_quiet (fail);try go_wp2)
    go_ret
    exact ⟨by first|rfl|(simp [bA,bB]<;>rfl)|(simp [*,bA,bB]<;>rfl),bl⟩
   rw [if_pos c7] at H
   have iz:(((ag aa bF).length:Int) == 2)=true:=beq_iff_eq.mpr c7
   have AV:(((ag aa bF).length:Int) != 2)=false:=bne_eq_false_iff_eq.mpr c7
   clear c7
   replace H:=iS H;obtain ⟨c8,H⟩:=H
   have jw:=decide_eq_true c8
   have Jh:decide (0 < (ag aa bF).length)=true:=decide_eq_true (by omega)
   clear c8
   replace H:=Option.bind_eq_some_iff.mp H
   obtain ⟨t105,MF,H⟩:=H
   replace H:(if t105=true then (if 1 < ((ag aa bF).length:Int) then ((g_.f (rd (ag aa bF) 1) 0 (wrap64 (af - 1))).bind fun t107=>(if t107=true then (ir.l0 k1 aa (aa.length:Int) (wrap64 (bF+1)) af aa) else (some false))) else (none)) else (some false))=some r:=H
   have A9:=k0 MF
   clear MF
   by_cases c10:t105=true
   case neg =>
    replace c10:=Bool.eq_false_iff.mpr c10
    subst c10
    have H1:(some false)=some r:=by rw [if_neg (show ¬ (false=true) by decide)] at H;exact H
    clear H
    have H:=H1
    clear H1
    obtain rfl:=Option.some.inj H
    have dQ:0≤(bF:Int):=oD
    have dR:bF < (aa.length:Int):=oD
    obtain ⟨ji,vu,vO,e103,en,jA,jy⟩:=cZ alx.out bF dQ dR
    cases e103
    replace en:=hbc HB en
    have qp:=k0 jy
    have vD:=k0 jA
    clear jy jA
    replace dQ:=eq_true dQ
    replace dR:=eq_true dR
    have cV:0≤(0:Int):=(by omega)
    have cW:0 < ((ag aa bF).length:Int):=oD
    obtain ⟨ku,e104,cN⟩:=Kd.bS qp.out 0 cV cW
    cases e104
    have D7:(0 < (ag aa bF).length)=True:=eq_true (by omega)
    (try rw [show ((0:Int)).toNat=0 from rfl] at cN)
    (try rw [Addr.add_zero'] at cN)
    replace cN:=hbc HB cN
    replace cV:=eq_true cV
    replace cW:=eq_true cW
    have zk:wr.cell? ⟨ai,0,none⟩=some (.int .i64 af):=(av ah.out 0).trans rfl
    have zl:wr.cell? ⟨ai,1,none⟩=some (.slice (some ji) aa.length aq):=(av ah.out 1).trans rfl
    have zn:=ale ah.out 0
    have zo:=ale ah.out 1
    go_wp2_with (first|(go_at_call 194;(with_reducible refine (g_.calls (rd (ag aa bF) 0) 0 (wrap64 (af - 1)) false _ A9.out).mono ?_);rintro e w' ⟨rfl,⟨nd,rfl⟩⟩;(try first|exact ⟨rfl,_,World.drewN_drewN _ _ _⟩|exact ⟨rfl,_,Eq.trans (World.drewN_drewN _ _ _) (congrArg (World.drewN _) (Nat.add_assoc _ _ _))⟩)))
    repeat (go_quiet (first|(go_at_call 194;(with_reducible refine (g_.calls (rd (ag aa bF) 0) 0 (wrap64 (af - 1)) false _ A9.out).mono ?_);rintro e w' ⟨rfl,⟨nd,rfl⟩⟩;(try first|exact ⟨rfl,_,World.drewN_drewN _ _ _⟩|exact ⟨rfl,_,Eq.trans (World.drewN_drewN _ _ _) (congrArg (World.drewN _) (Nat.add_assoc _ _ _))⟩)));try go_wp2_with (first|(go_at_call 194;(with_reducible refine (g_.calls (rd (ag aa bF) 0) 0 (wrap64 (af - 1)) false _ A9.out).mono ?_);rintro e w' ⟨rfl,⟨nd,rfl⟩⟩;(try first|exact ⟨rfl,_,World.drewN_drewN _ _ _⟩|exact ⟨rfl,_,Eq.trans (World.drewN_drewN _ _ _) (congrArg (World.drewN _) (Nat.add_assoc _ _ _))⟩))))
    go_ret
    exact ⟨by first|rfl|(simp [bA,bB]<;>rfl)|(simp [*,bA,bB]<;>rfl),bl⟩
   subst c10
   have H1:(if 1 < ((ag aa bF).length:Int) then ((g_.f (rd (ag aa bF) 1) 0 (wrap64 (af - 1))).bind fun t107=>(if t107=true then (ir.l0 k1 aa (aa.length:Int) (wrap64 (bF+1)) af aa) else (some false))) else (none))=some r:=by rw [if_pos rfl] at H;exact H
   clear H
   have H:=H1
   clear H1
   replace H:=iS H;obtain ⟨c11,H⟩:=H
   have l_:=decide_eq_true c11
   have amo:decide (1 < (ag aa bF).length)=true:=decide_eq_true (by omega)
   clear c11
   replace H:=Option.bind_eq_some_iff.mp H
   obtain ⟨t107,Mp,H⟩:=H
   replace H:(if t107=true then (ir.l0 k1 aa (aa.length:Int) (wrap64 (bF+1)) af aa) else (some false))=some r:=H
   have Ab:=k0 Mp
   clear Mp
   by_cases c13:t107=true
   case neg =>
    replace c13:=Bool.eq_false_iff.mpr c13
    subst c13
    have H1:(some false)=some r:=by rw [if_neg (show ¬ (false=true) by decide)] at H;exact H
    clear H
    have H:=H1
    clear H1
    obtain rfl:=Option.some.inj H
    have dQ:0≤(bF:Int):=oD
    have dR:bF < (aa.length:Int):=oD
    obtain ⟨ji,vu,vO,e103,en,jA,jy⟩:=cZ alx.out bF dQ dR
    cases e103
    replace en:=hbc HB en
    have qp:=k0 jy
    have vD:=k0 jA
    clear jy jA
    replace dQ:=eq_true dQ
    replace dR:=eq_true dR
    have cV:0≤(0:Int):=(by omega)
    have cW:0 < ((ag aa bF).length:Int):=oD
    obtain ⟨ku,e104,cN⟩:=Kd.bS qp.out 0 cV cW
    cases e104
    have D7:(0 < (ag aa bF).length)=True:=eq_true (by omega)
    (try rw [show ((0:Int)).toNat=0 from rfl] at cN)
    (try rw [Addr.add_zero'] at cN)
    replace cN:=hbc HB cN
    replace cV:=eq_true cV
    replace cW:=eq_true cW
    have QD:wr.cell? ⟨ai,0,none⟩=some (.int .i64 af):=(av ah.out 0).trans rfl
    have QE:wr.cell? ⟨ai,1,none⟩=some (.slice (some ji) aa.length aq):=(av ah.out 1).trans rfl
    have QY:=ale ah.out 0
    have QZ:=ale ah.out 1
    have dK:0≤(1:Int):=(by omega)
    have dH:1 < ((ag aa bF).length:Int):=oD
    obtain ⟨alH,e106,dD⟩:=Kd.bS qp.out 1 dK dH
    obtain rfl:ku=alH:=(by injection e106)
    (try simp only [show (1:Int).toNat=1 from rfl,Nat.reduceMul,Nat.reduceEqDiff,Go.Addr.add,↓reduceIte] at dD)
    have Bv:(1 < (ag aa bF).length)=True:=eq_true (by omega)
    (try rw [show ((1:Int)).toNat=1 from rfl] at dD)
    replace dD:=hbc HB dD
    replace dK:=eq_true dK
    replace dH:=eq_true dH
    go_wp2_with (first|(go_at_call 194;(with_reducible refine (g_.calls (rd (ag aa bF) 0) 0 (wrap64 (af - 1)) true _ A9.out).mono ?_);rintro e w' ⟨rfl,⟨nd,rfl⟩⟩;(try first|exact ⟨rfl,_,World.drewN_drewN _ _ _⟩|exact ⟨rfl,_,Eq.trans (World.drewN_drewN _ _ _) (congrArg (World.drewN _) (Nat.add_assoc _ _ _))⟩))|(go_at_call 194;(with_reducible refine (g_.calls (rd (ag aa bF) 1) 0 (wrap64 (af - 1)) false _ Ab.out).mono ?_);rintro e w' ⟨rfl,⟨nd,rfl⟩⟩;(try first|exact ⟨rfl,_,World.drewN_drewN _ _ _⟩|exact ⟨rfl,_,Eq.trans (World.drewN_drewN _ _ _) (congrArg (World.drewN _) (Nat.add_assoc _ _ _))⟩)))
    repeat (go_quiet (first|(go_at_call 194;(with_reducible refine (g_.calls (rd (ag aa bF) 0) 0 (wrap64 (af - 1)) true _ A9.out).mono ?_);rintro e w' ⟨rfl,⟨nd,rfl⟩⟩;(try first|exact ⟨rfl,_,World.drewN_drewN _ _ _⟩|exact ⟨rfl,_,Eq.trans (World.drewN_drewN _ _ _) (congrArg (World.drewN _) (Nat.add_assoc _ _ _))⟩))|(go_at_call 194;(with_reducible refine (g_.calls (rd (ag aa bF) 1) 0 (wrap64 (af - 1)) false _ Ab.out).mono ?_);rintro e w' ⟨rfl,⟨nd,rfl⟩⟩;(try first|exact ⟨rfl,_,World.drewN_drewN _ _ _⟩|exact ⟨rfl,_,Eq.trans (World.drewN_drewN _ _ _) (congrArg (World.drewN _) (Nat.add_assoc _ _ _))⟩)));try go_wp2_with (first|(go_at_call 194;(with_reducible refine (g_.calls (rd (ag aa bF) 0) 0 (wrap64 (af - 1)) true _ A9.out).mono ?_);rintro e w' ⟨rfl,⟨nd,rfl⟩⟩;(try first|exact ⟨rfl,_,World.drewN_drewN _ _ _⟩|exact ⟨rfl,_,Eq.trans (World.drewN_drewN _ _ _) (congrArg (World.drewN _) (Nat.add_assoc _ _ _))⟩))|(go_at_call 194;(with_reducible refine (g_.calls (rd (ag aa bF) 1) 0 (wrap64 (af - 1)) false _ Ab.out).mono ?_);rintro e w' ⟨rfl,⟨nd,rfl⟩⟩;(try first|exact ⟨rfl,_,World.drewN_drewN _ _ _⟩|exact ⟨rfl,_,Eq.trans (World.drewN_drewN _ _ _) (congrArg (World.drewN _) (Nat.add_assoc _ _ _))⟩))))
    go_ret
    exact ⟨by first|rfl|(simp [bA,bB]<;>rfl)|(simp [*,bA,bB]<;>rfl),bl⟩
   subst c13
   have H1:(ir.l0 k1 aa (aa.length:Int) (wrap64 (bF+1)) af aa)=some r:=by rw [if_pos rfl] at H;exact H
   clear H
   have H:=H1
   clear H1
   have H':=k0 H
   clear H
   have dQ:0≤(bF:Int):=oD
   have dR:bF < (aa.length:Int):=oD
   obtain ⟨ji,vu,vO,e103,en,jA,jy⟩:=cZ alx.out bF dQ dR
   cases e103
   replace en:=hbc HB en
   have qp:=k0 jy
   have vD:=k0 jA
   clear jy jA
   replace dQ:=eq_true dQ
   replace dR:=eq_true dR
   have cV:0≤(0:Int):=(by omega)
   have cW:0 < ((ag aa bF).length:Int):=oD
   obtain ⟨ku,e104,cN⟩:=Kd.bS qp.out 0 cV cW
   cases e104
   have D7:(0 < (ag aa bF).length)=True:=eq_true (by omega)
   (try rw [show ((0:Int)).toNat=0 from rfl] at cN)
   (try rw [Addr.add_zero'] at cN)
   replace cN:=hbc HB cN
   replace cV:=eq_true cV
   replace cW:=eq_true cW
   have wm:wr.cell? ⟨ai,0,none⟩=some (.int .i64 af):=(av ah.out 0).trans rfl
   have wo:wr.cell? ⟨ai,1,none⟩=some (.slice (some ji) aa.length aq):=(av ah.out 1).trans rfl
   have wC:=ale ah.out 0
   have wD:=ale ah.out 1
   have dK:0≤(1:Int):=(by omega)
   have dH:1 < ((ag aa bF).length:Int):=oD
   obtain ⟨alH,e106,dD⟩:=Kd.bS qp.out 1 dK dH
   obtain rfl:ku=alH:=(by injection e106)
   (try simp only [show (1:Int).toNat=1 from rfl,Nat.reduceMul,Nat.reduceEqDiff,Go.Addr.add,↓reduceIte] at dD)
   have Bv:(1 < (ag aa bF).length)=True:=eq_true (by omega)
   (try rw [show ((1:Int)).toNat=1 from rfl] at dD)
   replace dD:=hbc HB dD
   replace dK:=eq_true dK
   replace dH:=eq_true dH
   go_wp2_with (first|(go_at_call 194;(with_reducible refine (g_.calls (rd (ag aa bF) 0) 0 (wrap64 (af - 1)) true _ A9.out).mono ?_);rintro e w' ⟨rfl,⟨nd,rfl⟩⟩;(try first|exact ⟨rfl,_,World.drewN_drewN _ _ _⟩|exact ⟨rfl,_,Eq.trans (World.drewN_drewN _ _ _) (congrArg (World.drewN _) (Nat.add_assoc _ _ _))⟩))|(go_at_call 194;(with_reducible refine (g_.calls (rd (ag aa bF) 1) 0 (wrap64 (af - 1)) true _ Ab.out).mono ?_);rintro e w' ⟨rfl,⟨nd,rfl⟩⟩;(try first|exact ⟨rfl,_,World.drewN_drewN _ _ _⟩|exact ⟨rfl,_,Eq.trans (World.drewN_drewN _ _ _) (congrArg (World.drewN _) (Nat.add_assoc _ _ _))⟩)))
   repeat (go_quiet (first|(go_at_call 194;(with_reducible refine (g_.calls (rd (ag aa bF) 0) 0 (wrap64 (af - 1)) true _ A9.out).mono ?_);rintro e w' ⟨rfl,⟨nd,rfl⟩⟩;(try first|exact ⟨rfl,_,World.drewN_drewN _ _ _⟩|exact ⟨rfl,_,Eq.trans (World.drewN_drewN _ _ _) (congrArg (World.drewN _) (Nat.add_assoc _ _ _))⟩))|(go_at_call 194;(with_reducible refine (g_.calls (rd (ag aa bF) 1) 0 (wrap64 (af - 1)) true _ Ab.out).mono ?_);rintro e w' ⟨rfl,⟨nd,rfl⟩⟩;(try first|exact ⟨rfl,_,World.drewN_drewN _ _ _⟩|exact ⟨rfl,_,Eq.trans (World.drewN_drewN _ _ _) (congrArg (World.drewN _) (Nat.add_assoc _ _ _))⟩)));try go_wp2_with (first|(go_at_call 194;(with_reducible refine (g_.calls (rd (ag aa bF) 0) 0 (wrap64 (af - 1)) true _ A9.out).mono ?_);rintro e w' ⟨rfl,⟨nd,rfl⟩⟩;(try first|exact ⟨rfl,_,World.drewN_drewN _ _ _⟩|exact ⟨rfl,_,Eq.trans (World.drewN_drewN _ _ _) (congrArg (World.drewN _) (Nat.add_assoc _ _ _))⟩))|(go_at_call 194;(with_reducible refine (g_.calls (rd (ag aa bF) 1) 0 (wrap64 (af - 1)) true _ Ab.out).mono ?_);rintro e w' ⟨rfl,⟨nd,rfl⟩⟩;(try first|exact ⟨rfl,_,World.drewN_drewN _ _ _⟩|exact ⟨rfl,_,Eq.trans (World.drewN_drewN _ _ _) (congrArg (World.drewN _) (Nat.add_assoc _ _ _))⟩))))
   go_roundg k1
   case measure=>have:=aM.out;omega
   case rel=>exact ⟨(wrap64 (bF+1)),rs,H',⟨by have:=aM.out;omega⟩,⟨bk⟩,⟨bl⟩⟩
-- NOT PRINTED: function 125 (impl_graphCode)
/-! ### F228: function 228 -/
def iV.l0 : Nat → Int → List Int → Int → Int → Option (Int)
 | 0,_,_,_,_=>none
 | k+1,x3,x6,x7,x8=>if x8 < x7 then (if 0≤x8 then (if x8 < (x6.length:Int) then (if x8=(rd x6 x8) then (iV.l0 k (wrap64 (x3+1)) x6 x7 (wrap64 (x8+1))) else (iV.l0 k x3 x6 x7 (wrap64 (x8+1)))) else (none)) else (none)) else (some x3)
def iV.f (k:Nat) (l0:List Int):Option (Int):=iV.l0 k 0 l0 (l0.length:Int) 0
theorem iV.cj : ∀ k, (∀ y0 y1 y2 y3, aj (iV.l0 k y0 y1 y2 y3) (iV.l0 (k + 1) y0 y1 y2 y3))
 | 0=>fun _ _ _ _ r h=>by simp [iV.l0] at h
 | k+1=>by
  have ali:=iV.cj k
  ·intro y0 y1 y2 y3
   unfold iV.l0
   repeat' first
    | (with_reducible first|exact ali _ _ _ _|exact aj.refl _|exact aj.none _|refine aj.ite ?_ ?_|refine aj.bind ?_ (fun _=>?_))
    | exact ali _ _ _ _|exact aj.none _|refine aj.ite ?_ ?_|refine aj.bind ?_ (fun _=>?_)
theorem iV.mono:∀ a0 k,aj (iV.f k a0) (iV.f (k+1) a0):=by
 intro a0 k
 have ali:=iV.cj k
 unfold iV.f
 repeat' first
  | (with_reducible first|exact ali _ _ _ _|exact aj.refl _|exact aj.none _|refine aj.ite ?_ ?_|refine aj.bind ?_ (fun _=>?_))
  | exact ali _ _ _ _|exact aj.none _|refine aj.ite ?_ ?_|refine aj.bind ?_ (fun _=>?_)
set_option maxHeartbeats 8000000 in
set_option maxRecDepth 100000 in
theorem iV.calls (k : Nat) (A0 : Option Addr) (c0 : Nat) (l0 : List Int) (r : Int) (w : World) (cI : Kd.C (Kd.int .i64) w A0 l0.length l0) (hc0 : l0.length ≤ c0) (h : iV.f k l0 = some r) :
  Calls Try.prog 228 #[.slice A0 l0.length c0] w fun e w'=>e=.returned (.int .i64 r)∧als w w':=by
 have eA:=k0 cI
 have kP:=k0 hc0
 clear cI hc0
 have H:(iV.l0 k 0 l0 (l0.length:Int) 0)=some r:=h
 clear h
 have H':=k0 H
 clear H
 go_enter Try.func228,Try.ntmps228
 go_wp2
 go_loopg [3,8] k (fun kq v3 v8 w'=>∃ (bE:Int) (bF:Int),v3=.int .i64 bE∧v8=.int .i64 bF∧ak (iV.l0 kq bE l0 (l0.length:Int) bF=some r)∧ak (kq≤k)∧als w w')
 case atStart=>exact ⟨(0),(0),rs,rs,H',⟨Nat.le_refl _⟩,by repeat (first|exact als.refl _|apply als.step)⟩
 case round =>
  clear H'
  obtain ⟨bE,bF,rfl,rfl,HA,aM,⟨m1,rfl⟩⟩:=hrel
  cases gk with
  | zero=>exact absurd HA.out (by simp [iV.l0])
  | succ k1 =>
   have H:=HA.out
   clear HA
   simp only [iV.l0] at H
   by_cases c2:bF < (l0.length:Int)
   case neg =>
    rw [if_neg c2] at H
    have Cl:decide (bF < (l0.length:Int))=false:=decide_eq_false c2
    clear c2
    obtain rfl:=Option.some.inj H
    go_wp2
    go_ret
    exact ⟨by first|rfl|(simp;done)|(simp [*];done),by repeat (first|exact als.refl _|apply als.step)⟩
   rw [if_pos c2] at H
   have Cl:=decide_eq_true c2
   clear c2
   replace H:=iS H;obtain ⟨c3,H⟩:=H
   have ja:=decide_eq_true c3
   clear c3
   replace H:=iS H;obtain ⟨c4,H⟩:=H
   have eV:=decide_eq_true c4
   clear c4
   by_cases c5:bF=(rd l0 bF)
   case neg =>
    rw [if_neg c5] at H
    have jb:(bF == (rd l0 bF))=false:=beq_eq_false_iff_ne.mpr c5
    have vU:(bF != (rd l0 bF))=true:=bne_iff_ne.mpr c5
    have H':=k0 H
    clear H
    have fY:0≤(bF:Int):=oD
    have fZ:bF < (l0.length:Int):=oD
    obtain ⟨sY,e101,rK⟩:=Kd.bS eA.out bF fY fZ
    cases e101
    replace fY:=eq_true fY
    replace fZ:=eq_true fZ
    go_wp2
    go_roundg k1
    case measure=>have:=aM.out;omega
    case rel=>exact ⟨(bE),(wrap64 (bF+1)),rs,rs,H',⟨by have:=aM.out;omega⟩,by repeat (first|exact als.refl _|apply als.step)⟩
   rw [if_pos c5] at H
   have jb:(bF == (rd l0 bF))=true:=beq_iff_eq.mpr c5
   have vU:(bF != (rd l0 bF))=false:=bne_eq_false_iff_eq.mpr c5
   clear c5
   have H':=k0 H
   clear H
   have fY:0≤(bF:Int):=oD
   have fZ:bF < (l0.length:Int):=oD
   obtain ⟨sY,e101,rK⟩:=Kd.bS eA.out bF fY fZ
   cases e101
   replace fY:=eq_true fY
   replace fZ:=eq_true fZ
   go_wp2
   go_roundg k1
   case measure=>have:=aM.out;omega
   case rel=>exact ⟨(wrap64 (bE+1)),(wrap64 (bF+1)),rs,rs,H',⟨by have:=aM.out;omega⟩,by repeat (first|exact als.refl _|apply als.step)⟩
/-! ### F230: function 230 -/
def uF.f (a0:Int):Option (Bool):=some true
set_option maxHeartbeats 8000000 in
set_option maxRecDepth 100000 in
theorem uF.calls (a0 : Int) (r : Bool) (w : World) (h : uF.f a0 = some r) :
  Calls Try.prog 230 #[.int .i64 a0] w fun e w'=>e=.returned (.bool r)∧als w w':=by
 have H:(some true)=some r:=h
 clear h
 obtain rfl:=Option.some.inj H
 go_enter Try.func230,Try.ntmps230
 go_wp2
 go_ret
 exact ⟨by first|rfl|(simp;done)|(simp [*];done),by repeat (first|exact als.refl _|apply als.step)⟩
end Go.Proofs.Ytoebojnhchocaaa.B
/- Set with little white space, by a program. -/
