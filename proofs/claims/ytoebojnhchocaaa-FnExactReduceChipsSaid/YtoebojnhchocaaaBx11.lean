/- The functions that one law reaches, each as a Lean function, and that Go's call comes to what it says. Condition of each: that the Lean function answers (is not none). -/
import Derived.Test.YtoebojnhchocaaaBx0
import Derived.Test.YtoebojnhchocaaaBx10
namespace Go.Proofs.Ytoebojnhchocaaa.B
open Go.RowKit Go.Proofs.bC.eg Go.Proofs.bC.iZ Go.Proofs.bC.jr
attribute [local go_sem] max2_int min2_int max_two min_two max_three min_three max_four min_four   -- for this text's walks alone
set_option linter.unusedVariables false
set_option linter.unusedSimpArgs false
/-! ### F229: function 229 -/
mutual
def dh.l0 : Nat → List Int → Int → Int → Int → List (List Int) → Option (List Int)
 | 0,_,_,_,_,_=>none
 | k+1,x5,gO,jQ,bU,bN=>if jQ < gO then (if x5.length < 17592186044416 then (dh.l0 k (x5 ++ [jQ]) gO (wrap64 (jQ+1)) bU bN) else (none)) else (dh.l1 k x5 bN (bN.length:Int) 0)
def dh.l1 : Nat → List Int → List (List Int) → Int → Int → Option (List Int)
 | 0,_,_,_,_=>none
 | k+1,x5,nZ,f_,alD=>if alD < f_ then (if 0≤alD then (if alD < (nZ.length:Int) then ((uF.f alD).bind fun t109=>(if t109=true then (if 0 < ((ag nZ alD).length:Int) then (if 0≤(rd (ag nZ alD) 0) then (if (rd (ag nZ alD) 0) < (x5.length:Int) then (if 1 < ((ag nZ alD).length:Int) then (if 0≤(rd (ag nZ alD) 1) then (if (rd (ag nZ alD) 1) < (x5.length:Int) then (dh.l2 k x5 (rd x5 (rd (ag nZ alD) 0)) (rd x5 (rd (ag nZ alD) 1)) nZ f_ alD (x5.length:Int) 0) else (none)) else (none)) else (none)) else (none)) else (none)) else (none)) else (dh.l1 k x5 nZ f_ (wrap64 (alD+1))))) else (none)) else (none)) else (some x5)
def dh.l2 : Nat → List Int → Int → Int → List (List Int) → Int → Int → Int → Int → Option (List Int)
 | 0,_,_,_,_,_,_,_,_=>none
 | k+1,x5,x9,alB,nZ,f_,alD,rS,z_=>if z_ < rS then (if 0≤z_ then (if z_ < (x5.length:Int) then (if (rd x5 z_)=(mx x9 alB) then (dh.l2 k (x5.set (z_:Int).toNat (mn x9 alB)) x9 alB nZ f_ alD rS (wrap64 (z_+1))) else (dh.l2 k x5 x9 alB nZ f_ alD rS (wrap64 (z_+1)))) else (none)) else (none)) else (dh.l1 k x5 nZ f_ (wrap64 (alD+1)))
end
def dh.f (k:Nat) (af:Int) (aa:List (List Int)):Option (List Int):=dh.l0 k (([]:List Int)) af 0 af aa
theorem dh.cj : ∀ k, (∀ y0 y1 y2 y3 y4, aj (dh.l0 k y0 y1 y2 y3 y4) (dh.l0 (k + 1) y0 y1 y2 y3 y4)) ∧ (∀ y0 y1 y2 y3, aj (dh.l1 k y0 y1 y2 y3) (dh.l1 (k + 1) y0 y1 y2 y3)) ∧ (∀ y0 y1 y2 y3 y4 y5 y6 y7, aj (dh.l2 k y0 y1 y2 y3 y4 y5 y6 y7) (dh.l2 (k + 1) y0 y1 y2 y3 y4 y5 y6 y7))
 | 0=>⟨fun _ _ _ _ _ r h=>by simp [dh.l0] at h,fun _ _ _ _ r h=>by simp [dh.l1] at h,fun _ _ _ _ _ _ _ _ r h=>by simp [dh.l2] at h⟩
 | k+1=>by
  obtain ⟨ali,ih1,ih2⟩:=dh.cj k
  refine ⟨?_, ?_, ?_⟩ <;> intros <;> (first | unfold dh.l0 | unfold dh.l1 | unfold dh.l2) <;> repeat' first
   | (with_reducible first|exact ali _ _ _ _ _|exact ih1 _ _ _ _|exact ih2 _ _ _ _ _ _ _ _|exact aj.refl _|exact aj.none _|refine aj.ite ?_ ?_|refine aj.bind ?_ (fun _=>?_))
   | exact ali _ _ _ _ _|exact ih1 _ _ _ _|exact ih2 _ _ _ _ _ _ _ _|exact aj.none _|refine aj.ite ?_ ?_|refine aj.bind ?_ (fun _=>?_)
theorem dh.mono:∀ a0 a1 k,aj (dh.f k a0 a1) (dh.f (k+1) a0 a1):=by
 intro a0 a1 k
 obtain ⟨ali,ih1,ih2⟩:=dh.cj k
 unfold dh.f
 repeat' first
  | (with_reducible first|exact ali _ _ _ _ _|exact ih1 _ _ _ _|exact ih2 _ _ _ _ _ _ _ _|exact aj.refl _|exact aj.none _|refine aj.ite ?_ ?_|refine aj.bind ?_ (fun _=>?_))
  | exact ali _ _ _ _ _|exact ih1 _ _ _ _|exact ih2 _ _ _ _ _ _ _ _|exact aj.none _|refine aj.ite ?_ ?_|refine aj.bind ?_ (fun _=>?_)
set_option maxHeartbeats 8000000 in
set_option maxRecDepth 100000 in
theorem dh.calls (k : Nat) (af : Int) (au : Option Addr) (aq : Nat) (aa : List (List Int)) (r : List Int) (w : World) (cl : Kd.C (Kd.slice 2 (Kd.int .i64)) w au aa.length aa) (cn : aa.length ≤ aq) (h : dh.f k af aa = some r) :
  Calls Try.prog 229 #[.agg #[.int .i64 af,.slice au aa.length aq],.func (.func 230) #[] #[]] w fun e w'=>∃ cF:Value,e=.returned (cF)∧Kd.R (Kd.int .i64) 2 w' w.heap.size (fun _=>True) cF r∧Below w.heap.size w w':=by
 have kF:=Try.underlying31
 have alx:=k0 cl
 have di:=k0 cn
 clear cl cn
 have HB:=k0 (Below.refl w.heap.size w)
 have H:(dh.l0 k (([]:List Int)) af 0 af aa)=some r:=h
 clear h
 obtain ⟨eT,eH⟩:∃ y_:List Int,y_=(([]:List Int)):=⟨_,rfl⟩
 replace H:(dh.l0 k eT af 0 af aa)=some r:=by first|(rw [eH];with_reducible exact H)|(have ax:=(Option.bind_some _ _).symm.trans H;rw [eH];with_reducible exact ax)|(have ax:=(Option.bind_some _ _).symm.trans H;with_reducible exact ax)|with_reducible exact H|(rw [eH];exact H)|exact H
 have alG:=k0 eH
 clear eH
 have H':=k0 H
 clear H
 go_enter Try.func229,Try.ntmps229
 go_wp2_with (first|((with_reducible refine cy (N:=2) rfl ?_);refine ec ?hg (N:=2) ?hd (cs:=#[.int .i64 af,.slice au aa.length aq]) (t:=31) ?hr ?_;(case hd=>rfl);(case hg=>rfl);(case hr=>first|(go_simp;done)|(go_simp;rfl));intro ai hg w2 aJ hb;have ah:=k0 (aJ);have cr:=k0 ((by rw [hg];exact (aU bl):w.heap.size≤ai));have eL:=cr;replace HB:=k0 (aG bl hb);clear hb aJ hg)|((with_reducible refine cy (N:=13) rfl ?_);refine Kd.pT (Kd.int .i64) _ 2 ?hg (N:=13) ?hd (xs:=([]:List Int)) (inner:=[]) (ok:=fun _=>True) (cC:=fun _=>True) ?hr ?hp (fun _ hk=>hk) trivial (Below.refl _ _) (Nat.le_refl _) (by simp) ?_;(case hd=>rfl);(case hg=>rfl);(case hr=>first|(go_simp;done)|(go_simp;rfl));(case hp=>exact (bY.none _ _));intro dw w3 ek hb ew ey;clear ew ey;(first|rw [← alG.out] at ek|(simp only [Int.reduceToNat] at ek;rw [← alG.out] at ek));have a_:=k0 (Kd.d_ ek (aU bl));replace ah:=k0 (alg (g:=ai) (o:=sO af au aa aq 31) bk hb);replace HB:=k0 (aG bl hb);clear hb ek;have tu:w3.cell? ⟨ai,0,none⟩=some (.int .i64 af):=(av ah.out 0).trans rfl;have tv:w3.cell? ⟨ai,1,none⟩=some (.slice au aa.length aq):=(av ah.out 1).trans rfl;have tE:=ale ah.out 0;have tF:=ale ah.out 1))
 repeat (go_quiet (first|((with_reducible refine cy (N:=2) rfl ?_);refine ec ?hg (N:=2) ?hd (cs:=#[.int .i64 af,.slice au aa.length aq]) (t:=31) ?hr ?_;(case hd=>rfl);(case hg=>rfl);(case hr=>first|(go_simp;done)|(go_simp;rfl));intro ai hg w2 aJ hb;have ah:=k0 (aJ);have cr:=k0 ((by rw [hg];exact (aU bl):w.heap.size≤ai));have eL:=cr;replace HB:=k0 (aG bl hb);clear hb aJ hg)|((with_reducible refine cy (N:=13) rfl ?_);refine Kd.pT (Kd.int .i64) _ 2 ?hg (N:=13) ?hd (xs:=([]:List Int)) (inner:=[]) (ok:=fun _=>True) (cC:=fun _=>True) ?hr ?hp (fun _ hk=>hk) trivial (Below.refl _ _) (Nat.le_refl _) (by simp) ?_;(case hd=>rfl);(case hg=>rfl);(case hr=>first|(go_simp;done)|(go_simp;rfl));(case hp=>exact (bY.none _ _));intro dw w3 ek hb ew ey;clear ew ey;(first|rw [← alG.out] at ek|(simp only [Int.reduceToNat] at ek;rw [← alG.out] at ek));have a_:=k0 (Kd.d_ ek (aU bl));replace ah:=k0 (alg (g:=ai) (o:=sO af au aa aq 31) bk hb);replace HB:=k0 (aG bl hb);clear hb ek;have tu:w3.cell? ⟨ai,0,none⟩=some (.int .i64 af):=(av ah.out 0).trans rfl;have tv:w3.cell? ⟨ai,1,none⟩=some (.slice au aa.length aq):=(av ah.out 1).trans rfl;have tE:=ale ah.out 0;have tF:=ale ah.out 1));try go_wp2_with (first|((with_reducible refine cy (N:=2) rfl ?_);refine ec ?hg (N:=2) ?hd (cs:=#[.int .i64 af,.slice au aa.length aq]) (t:=31) ?hr ?_;(case hd=>rfl);(case hg=>rfl);(case hr=>first|(go_simp;done)|(go_simp;rfl));intro ai hg w2 aJ hb;have ah:=k0 (aJ);have cr:=k0 ((by rw [hg];exact (aU bl):w.heap.size≤ai));have eL:=cr;replace HB:=k0 (aG bl hb);clear hb aJ hg)|((with_reducible refine cy (N:=13) rfl ?_);refine Kd.pT (Kd.int .i64) _ 2 ?hg (N:=13) ?hd (xs:=([]:List Int)) (inner:=[]) (ok:=fun _=>True) (cC:=fun _=>True) ?hr ?hp (fun _ hk=>hk) trivial (Below.refl _ _) (Nat.le_refl _) (by simp) ?_;(case hd=>rfl);(case hg=>rfl);(case hr=>first|(go_simp;done)|(go_simp;rfl));(case hp=>exact (bY.none _ _));intro dw w3 ek hb ew ey;clear ew ey;(first|rw [← alG.out] at ek|(simp only [Int.reduceToNat] at ek;rw [← alG.out] at ek));have a_:=k0 (Kd.d_ ek (aU bl));replace ah:=k0 (alg (g:=ai) (o:=sO af au aa aq 31) bk hb);replace HB:=k0 (aG bl hb);clear hb ek;have tu:w3.cell? ⟨ai,0,none⟩=some (.int .i64 af):=(av ah.out 0).trans rfl;have tv:w3.cell? ⟨ai,1,none⟩=some (.slice au aa.length aq):=(av ah.out 1).trans rfl;have tE:=ale ah.out 0;have tF:=ale ah.out 1)))
 go_loopg [5,16] k (fun kq v5 Mb w'=>∃ (aI:List Int) (eG:Int),Mb=.int .i64 eG∧ak (dh.l0 kq aI af eG af aa=some r)∧ak (kq≤k)∧ak (Kd.R (Kd.int .i64) 2 w' w.heap.size (fun _=>True) v5 aI)∧ak (w'.heap[ai]?=some (sO af au aa aq 31))∧ak (Below w.heap.size w w'))
 case atStart=>exact ⟨(eT),(0),rs,H',⟨Nat.le_refl _⟩,⟨aR (a_.out)⟩,⟨bk⟩,⟨bl⟩⟩
 case round =>
  clear H'
  (try clear tu);(try clear tv);(try clear tE);(try clear tF)
  obtain ⟨aI,eG,rfl,HA,aM,bM,ah,HB⟩:=hrel
  cases gk with
  | zero=>exact absurd HA.out (by simp [dh.l0])
  | succ k1 =>
   have H:=HA.out
   clear HA
   simp only [dh.l0] at H
   by_cases c6:eG < af
   case neg =>
    rw [if_neg c6] at H
    have jk:decide (eG < af)=false:=decide_eq_false c6
    clear c6
    have H':=k0 H
    clear H
    have tC:wr.cell? ⟨ai,0,none⟩=some (.int .i64 af):=(av ah.out 0).trans rfl
    have tD:wr.cell? ⟨ai,1,none⟩=some (.slice au aa.length aq):=(av ah.out 1).trans rfl
    have amx:=ale ah.out 0
    have tH:=ale ah.out 1
    go_wp2
    repeat (go_quiet (fail);try go_wp2)
    go_loopg [27] k1 (fun kq Ek w'=>∃ (alk:List Int) (aD:Int),Ek=.int .i64 aD∧ak (dh.l1 kq alk aa (aa.length:Int) aD=some r)∧ak (kq≤k1)∧ak (Kd.R (Kd.int .i64) 2 w' w.heap.size (fun _=>True) u5 alk)∧ak (w'.heap[ai]?=some (sO af au aa aq 31))∧ak (Below w.heap.size w w'))
    case atStart=>exact ⟨(aI),(0),rs,H',⟨Nat.le_refl _⟩,⟨aR (bM.out)⟩,⟨bk⟩,⟨bl⟩⟩
    case round =>
     clear H'
     (try clear c6);(try clear jk);(try clear c7);(try clear tu);(try clear tv);(try clear tC);(try clear tD);(try clear tE);(try clear tF);(try clear amx);(try clear tH)
     obtain ⟨alk,aD,rfl,HA,bp,bM,ah,HB⟩:=hrel
     cases gk with
     | zero=>exact absurd HA.out (by simp [dh.l1])
     | succ k2 =>
      have H:=HA.out
      clear HA
      simp only [dh.l1] at H
      by_cases c10:aD < (aa.length:Int)
      case neg =>
       rw [if_neg c10] at H
       have lA:decide (aD < (aa.length:Int))=false:=decide_eq_false c10
       clear c10
       obtain rfl:=Option.some.inj H
       go_wp2
       repeat (go_quiet (fail);try go_wp2)
       go_ret
       exact ⟨_,by first|rfl|(simp [bA,bB]<;>rfl)|(simp [*,bA,bB]<;>rfl),by (with_reducible repeat (first|apply Kd.bO|apply Kd.bR|apply Kd.alp));exact bM.out,bl⟩
      rw [if_pos c10] at H
      have lA:=decide_eq_true c10
      clear c10
      replace H:=iS H;obtain ⟨c11,H⟩:=H
      have l_:=decide_eq_true c11
      clear c11
      replace H:=iS H;obtain ⟨c12,H⟩:=H
      have r7:=decide_eq_true c12
      clear c12
      replace H:=Option.bind_eq_some_iff.mp H
      obtain ⟨t109,BJ,H⟩:=H
      replace H:(if t109=true then (if 0 < ((ag aa aD).length:Int) then (if 0≤(rd (ag aa aD) 0) then (if (rd (ag aa aD) 0) < (alk.length:Int) then (if 1 < ((ag aa aD).length:Int) then (if 0≤(rd (ag aa aD) 1) then (if (rd (ag aa aD) 1) < (alk.length:Int) then (dh.l2 k2 alk (rd alk (rd (ag aa aD) 0)) (rd alk (rd (ag aa aD) 1)) aa (aa.length:Int) aD (alk.length:Int) 0) else (none)) else (none)) else (none)) else (none)) else (none)) else (none)) else (dh.l1 k2 alk aa (aa.length:Int) (wrap64 (aD+1))))=some r:=H
      have o9:=k0 BJ
      clear BJ
      by_cases c14:t109=true
      case neg =>
       replace c14:=Bool.eq_false_iff.mpr c14
       subst c14
       have H1:(dh.l1 k2 alk aa (aa.length:Int) (wrap64 (aD+1)))=some r:=by rw [if_neg (show ¬ (false=true) by decide)] at H;exact H
       clear H
       have H:=H1
       clear H1
       have H':=k0 H
       clear H
       have ef:0≤(aD:Int):=oD
       have dS:aD < (aa.length:Int):=oD
       obtain ⟨al1,Ey,Fj,e108,fu,tQ,tK⟩:=cZ alx.out aD ef dS
       cases e108
       replace fu:=hbc HB fu
       have Ap:=k0 tK
       have HJ:=k0 tQ
       clear tK tQ
       replace ef:=eq_true ef
       replace dS:=eq_true dS
       go_wp2_with (first|(go_at_call 230;(with_reducible refine (uF.calls aD false _ o9.out).mono ?_);rintro e w' ⟨rfl,⟨nd,rfl⟩⟩;(try first|exact ⟨rfl,_,World.drewN_drewN _ _ _⟩|exact ⟨rfl,_,Eq.trans (World.drewN_drewN _ _ _) (congrArg (World.drewN _) (Nat.add_assoc _ _ _))⟩)))
       repeat (go_quiet (first|(go_at_call 230;(with_reducible refine (uF.calls aD false _ o9.out).mono ?_);rintro e w' ⟨rfl,⟨nd,rfl⟩⟩;(try first|exact ⟨rfl,_,World.drewN_drewN _ _ _⟩|exact ⟨rfl,_,Eq.trans (World.drewN_drewN _ _ _) (congrArg (World.drewN _) (Nat.add_assoc _ _ _))⟩)));try go_wp2_with (first|(go_at_call 230;(with_reducible refine (uF.calls aD false _ o9.out).mono ?_);rintro e w' ⟨rfl,⟨nd,rfl⟩⟩;(try first|exact ⟨rfl,_,World.drewN_drewN _ _ _⟩|exact ⟨rfl,_,Eq.trans (World.drewN_drewN _ _ _) (congrArg (World.drewN _) (Nat.add_assoc _ _ _))⟩))))
       first|go_roundg k2|(simp only [← rF];go_roundg k2)|(simp only [← lR];go_roundg k2)
       case measure=>have:=aM.out;have:=bp.out;omega
       case rel=>exact ⟨(alk),(wrap64 (aD+1)),rs,(by first|exact H'|(rw [rF];exact H')|(rw [lR];exact H')),⟨by have:=aM.out;have:=bp.out;omega⟩,⟨aR (bM.out)⟩,⟨bk⟩,⟨bl⟩⟩
      subst c14
      have H1:(if 0 < ((ag aa aD).length:Int) then (if 0≤(rd (ag aa aD) 0) then (if (rd (ag aa aD) 0) < (alk.length:Int) then (if 1 < ((ag aa aD).length:Int) then (if 0≤(rd (ag aa aD) 1) then (if (rd (ag aa aD) 1) < (alk.length:Int) then (dh.l2 k2 alk (rd alk (rd (ag aa aD) 0)) (rd alk (rd (ag aa aD) 1)) aa (aa.length:Int) aD (alk.length:Int) 0) else (none)) else (none)) else (none)) else (none)) else (none)) else (none))=some r:=by rw [if_pos rfl] at H;exact H
      clear H
      have H:=H1
      clear H1
      replace H:=iS H;obtain ⟨c15,H⟩:=H
      have kV:=decide_eq_true c15
      have r8:decide (0 < (ag aa aD).length)=true:=decide_eq_true (by omega)
      clear c15
      replace H:=iS H;obtain ⟨c16,H⟩:=H
      have rm:=decide_eq_true c16
      clear c16
      replace H:=iS H;obtain ⟨c17,H⟩:=H
      have pF:=decide_eq_true c17
      clear c17
      replace H:=iS H;obtain ⟨c18,H⟩:=H
      have uP:=decide_eq_true c18
      have Xx:decide (1 < (ag aa aD).length)=true:=decide_eq_true (by omega)
      clear c18
      replace H:=iS H;obtain ⟨c19,H⟩:=H
      have mb:=decide_eq_true c19
      clear c19
      replace H:=iS H;obtain ⟨c20,H⟩:=H
      have ot:=decide_eq_true c20
      clear c20
      have H':=k0 H
      clear H
      have ef:0≤(aD:Int):=oD
      have dS:aD < (aa.length:Int):=oD
      obtain ⟨al1,Ey,Fj,e108,fu,tQ,tK⟩:=cZ alx.out aD ef dS
      cases e108
      replace fu:=hbc HB fu
      have Ap:=k0 tK
      have HJ:=k0 tQ
      clear tK tQ
      replace ef:=eq_true ef
      replace dS:=eq_true dS
      have jE:0≤(0:Int):=(by omega)
      have jF:0 < ((ag aa aD).length:Int):=oD
      obtain ⟨lf,e110,kG⟩:=Kd.bS Ap.out 0 jE jF
      cases e110
      have ad':(0 < (ag aa aD).length)=True:=eq_true (by omega)
      (try rw [show ((0:Int)).toNat=0 from rfl] at kG)
      (try rw [Addr.add_zero'] at kG)
      replace kG:=hbc HB kG
      replace jE:=eq_true jE
      replace jF:=eq_true jF
      obtain ⟨afE,yY,uS⟩:=Kd.fh bM.out
      subst uS
      obtain ⟨qC,Jo,am1,Px,ZV,aha,an1⟩:=Kd.kT bM.out (by have dO:0≤((rd (ag aa aD) 0):Int):=oD;have jc:((rd (ag aa aD) 0):Int) < ((alk.length:Int):Int):=oD;omega)
      (first|cases am1|(injection am1 with aW aly c_;(first|subst aW|(injection aW with aW;subst aW));subst c_;clear aly))
      have anF:=k0 Px
      have afL:=k0 an1
      clear Px ZV an1
      have gw:0≤((rd (ag aa aD) 0):Int):=oD
      have gy:(rd (ag aa aD) 0) < (alk.length:Int):=oD
      obtain ⟨mP,e111,gX⟩:=Kd.bS (Kd.bn bM.out).2.2 (rd (ag aa aD) 0) gw gy
      obtain rfl:(⟨qC,0,none⟩:Addr)=mP:=(by injection e111)
      (first|simp only [add_plain] at gX|simp only [lN] at gX|simp only [Addr.add,Nat.zero_add] at gX|skip)
      replace gw:=eq_true gw
      replace gy:=eq_true gy
      have oI:0≤(1:Int):=(by omega)
      have oJ:1 < ((ag aa aD).length:Int):=oD
      obtain ⟨yQ,e112,lD⟩:=Kd.bS Ap.out 1 oI oJ
      obtain rfl:lf=yQ:=(by injection e112)
      (try simp only [show (1:Int).toNat=1 from rfl,Nat.reduceMul,Nat.reduceEqDiff,Go.Addr.add,↓reduceIte] at lD)
      have ad_:(1 < (ag aa aD).length)=True:=eq_true (by omega)
      (try rw [show ((1:Int)).toNat=1 from rfl] at lD)
      replace lD:=hbc HB lD
      replace oI:=eq_true oI
      replace oJ:=eq_true oJ
      have nP:0≤((rd (ag aa aD) 1):Int):=oD
      have nR:(rd (ag aa aD) 1) < (alk.length:Int):=oD
      obtain ⟨yR,e113,mV⟩:=Kd.bS (Kd.bn bM.out).2.2 (rd (ag aa aD) 1) nP nR
      obtain rfl:(⟨qC,0,none⟩:Addr)=yR:=(by injection e113)
      (first|simp only [add_plain] at mV|simp only [lN] at mV|simp only [Addr.add,Nat.zero_add] at mV|skip)
      replace nP:=eq_true nP
      replace nR:=eq_true nR
      go_wp2_with (first|(go_at_call 230;(with_reducible refine (uF.calls aD true _ o9.out).mono ?_);rintro e w' ⟨rfl,⟨nd,rfl⟩⟩;(try first|exact ⟨rfl,_,World.drewN_drewN _ _ _⟩|exact ⟨rfl,_,Eq.trans (World.drewN_drewN _ _ _) (congrArg (World.drewN _) (Nat.add_assoc _ _ _))⟩)))
      repeat (go_quiet (first|(go_at_call 230;(with_reducible refine (uF.calls aD true _ o9.out).mono ?_);rintro e w' ⟨rfl,⟨nd,rfl⟩⟩;(try first|exact ⟨rfl,_,World.drewN_drewN _ _ _⟩|exact ⟨rfl,_,Eq.trans (World.drewN_drewN _ _ _) (congrArg (World.drewN _) (Nat.add_assoc _ _ _))⟩)));try go_wp2_with (first|(go_at_call 230;(with_reducible refine (uF.calls aD true _ o9.out).mono ?_);rintro e w' ⟨rfl,⟨nd,rfl⟩⟩;(try first|exact ⟨rfl,_,World.drewN_drewN _ _ _⟩|exact ⟨rfl,_,Eq.trans (World.drewN_drewN _ _ _) (congrArg (World.drewN _) (Nat.add_assoc _ _ _))⟩))))
      go_loopg [50] k2 (fun kq v50 w'=>∃ (jR:List Int) (ie:Int),v50=.int .i64 ie∧ak (dh.l2 kq jR (rd alk (rd (ag aa aD) 0)) (rd alk (rd (ag aa aD) 1)) aa (aa.length:Int) aD (alk.length:Int) ie=some r)∧ak (kq≤k2)∧ak (Kd.R (Kd.int .i64) 2 w' w.heap.size (fun _=>True) (.slice (some ⟨qC,0,none⟩) alk.length yY) jR)∧ak (w'.heap[ai]?=some (sO af (some al1) aa aq 31))∧ak (Below w.heap.size w w'))
      case atStart=>exact ⟨(alk),(0),rs,H',⟨Nat.le_refl _⟩,⟨aR (bM.out)⟩,⟨bk⟩,⟨bl⟩⟩
      case round =>
       clear H'
       (try clear c6);(try clear jk);(try clear c7);(try clear c10);(try clear lA);(try clear c11);(try clear l_);(try clear c12);(try clear r7);(try clear c14);(try clear c15);(try clear kV);(try clear r8);(try clear c16);(try clear rm);(try clear c17);(try clear pF);(try clear c18);(try clear uP);(try clear Xx);(try clear c19);(try clear mb);(try clear c20);(try clear ot);(try clear tu);(try clear tv);(try clear tC);(try clear tD);(try clear tE);(try clear tF);(try clear amx);(try clear tH);(try clear fu);(try clear kG);(try clear gX);(try clear lD);(try clear mV);(try clear ef);(try clear jE);(try clear gw);(try clear oI);(try clear nP);(try clear dS);(try clear jF);(try clear gy);(try clear oJ);(try clear nR)
       obtain ⟨jR,ie,rfl,HA,dn,bM,ah,HB⟩:=hrel
       have alO:=(Kd.bn bM.out).1
       rw [alO] at bM
       (try simp only [alO])
       (try simp only [alO] at ah)
       cases gk with
       | zero=>exact absurd HA.out (by simp [dh.l2])
       | succ k3 =>
        have H:=HA.out
        clear HA
        simp only [dh.l2] at H
        by_cases c23:ie < (alk.length:Int)
        case neg =>
         rw [if_neg c23] at H
         have r9:decide (ie < (alk.length:Int))=false:=decide_eq_false c23
         (try simp only [alO] at r9)
         clear c23
         have H':=k0 H
         clear H
         go_wp2
         repeat (go_quiet (fail);try go_wp2)
         (try simp only [← alO])
         first|go_roundg k3|(simp only [← rF];go_roundg k3)|(simp only [← lR];go_roundg k3)
         case measure=>have:=aM.out;have:=bp.out;have:=dn.out;omega
         case rel=>exact ⟨(jR),(wrap64 (aD+1)),rs,(by first|exact H'|(rw [rF];exact H')|(rw [lR];exact H')),⟨by have:=aM.out;have:=bp.out;have:=dn.out;omega⟩,⟨by (try simp only [alO]);(with_reducible repeat (first|apply Kd.bO|apply Kd.bR|apply Kd.alp));exact bM.out⟩,⟨by (try simp only [alO]);exact bk⟩,⟨bl⟩⟩
        rw [if_pos c23] at H
        have r9:=decide_eq_true c23
        (try simp only [alO] at r9)
        clear c23
        replace H:=iS H;obtain ⟨c24,H⟩:=H
        have uR:=decide_eq_true c24
        clear c24
        replace H:=iS H;obtain ⟨c25,H⟩:=H
        have vR:=decide_eq_true c25
        (try simp only [alO] at vR)
        clear c25
        obtain ⟨zN,rF⟩:∃ j_:Int,(mx (rd alk (rd (ag aa aD) 0)) (rd alk (rd (ag aa aD) 1)))=j_:=⟨_,rfl⟩
        replace H:(if (rd jR ie)=(zN) then (dh.l2 k3 (jR.set (ie:Int).toNat (mn (rd alk (rd (ag aa aD) 0)) (rd alk (rd (ag aa aD) 1)))) (rd alk (rd (ag aa aD) 0)) (rd alk (rd (ag aa aD) 1)) aa (aa.length:Int) aD (alk.length:Int) (wrap64 (ie+1))) else (dh.l2 k3 jR (rd alk (rd (ag aa aD) 0)) (rd alk (rd (ag aa aD) 1)) aa (aa.length:Int) aD (alk.length:Int) (wrap64 (ie+1))))=some r:=by first|(rw [rF] at H;exact H)|(simp only [rF] at H ⊢;exact H)
        have aiC:(if (rd alk (rd (ag aa aD) 0)) < (rd alk (rd (ag aa aD) 1)) then (rd alk (rd (ag aa aD) 1)) else (rd alk (rd (ag aa aD) 0)))=zN:=rF
        by_cases c27:(rd jR ie)=(zN)
        case neg =>
         rw [if_neg c27] at H
         have amp:((rd jR ie) == (zN))=false:=beq_eq_false_iff_ne.mpr c27
         have Ck:((rd jR ie) != (zN))=true:=bne_iff_ne.mpr c27
         have H':=k0 H
         clear H
         have iH:0≤(ie:Int):=oD
         have iI:ie < (jR.length:Int):=oD
         obtain ⟨lM,e114,je⟩:=Kd.bS (Kd.bn bM.out).2.2 ie iH iI
         obtain rfl:(⟨qC,0,none⟩:Addr)=lM:=(by injection e114)
         (first|simp only [add_plain] at je|simp only [lN] at je|simp only [Addr.add,Nat.zero_add] at je|skip)
         replace iH:=eq_true iH
         replace iI:=eq_true iI
         go_wp2
         repeat (go_quiet (fail);try go_wp2)
         (try simp only [← alO])
         first|go_roundg k3|(simp only [← rF];go_roundg k3)|(simp only [← lR];go_roundg k3)
         case measure=>have:=aM.out;have:=bp.out;have:=dn.out;omega
         case rel=>exact ⟨(jR),(wrap64 (ie+1)),rs,(by first|exact H'|(rw [rF];exact H')|(rw [lR];exact H')),⟨by have:=aM.out;have:=bp.out;have:=dn.out;omega⟩,⟨by (try simp only [alO]);(with_reducible repeat (first|apply Kd.bO|apply Kd.bR|apply Kd.alp));exact bM.out⟩,⟨by (try simp only [alO]);exact bk⟩,⟨bl⟩⟩
        rw [if_pos c27] at H
        have amp:((rd jR ie) == (zN))=true:=beq_iff_eq.mpr c27
        have Ck:((rd jR ie) != (zN))=false:=bne_eq_false_iff_eq.mpr c27
        clear c27
        obtain ⟨mX,lR⟩:∃ j_:Int,(mn (rd alk (rd (ag aa aD) 0)) (rd alk (rd (ag aa aD) 1)))=j_:=⟨_,rfl⟩
        replace H:(dh.l2 k3 (jR.set (ie:Int).toNat (mX)) (rd alk (rd (ag aa aD) 0)) (rd alk (rd (ag aa aD) 1)) aa (aa.length:Int) aD (alk.length:Int) (wrap64 (ie+1)))=some r:=by first|(rw [lR] at H;exact H)|(simp only [lR] at H ⊢;exact H)
        have abC:(if (rd alk (rd (ag aa aD) 1)) < (rd alk (rd (ag aa aD) 0)) then (rd alk (rd (ag aa aD) 1)) else (rd alk (rd (ag aa aD) 0)))=mX:=lR
        obtain ⟨dU,gq⟩:∃ y_:List Int,y_=(jR.set (ie:Int).toNat (mX)):=⟨_,rfl⟩
        replace H:(dh.l2 k3 dU (rd alk (rd (ag aa aD) 0)) (rd alk (rd (ag aa aD) 1)) aa (aa.length:Int) aD (alk.length:Int) (wrap64 (ie+1)))=some r:=by first|(rw [gq];with_reducible exact H)|(have ax:=(Option.bind_some _ _).symm.trans H;rw [gq];with_reducible exact ax)|(have ax:=(Option.bind_some _ _).symm.trans H;with_reducible exact ax)|with_reducible exact H|(rw [gq];exact H)|exact H
        have mK:=k0 gq
        clear gq
        have H':=k0 H
        clear H
        have iH:0≤(ie:Int):=oD
        have iI:ie < (jR.length:Int):=oD
        obtain ⟨lM,e114,je⟩:=Kd.bS (Kd.bn bM.out).2.2 ie iH iI
        obtain rfl:(⟨qC,0,none⟩:Addr)=lM:=(by injection e114)
        (first|simp only [add_plain] at je|simp only [lN] at je|simp only [Addr.add,Nat.zero_add] at je|skip)
        replace iH:=eq_true iH
        replace iI:=eq_true iI
        have zW:0≤(ie:Int):=oD
        have oK:(ie:Int) < ((jR.length:Int):Int):=oD
        obtain ⟨Sc,QL⟩:=Kd.js 0 bM.out (ie:Int) zW oK
        replace zW:=eq_true zW
        replace oK:=eq_true oK
        have mJ:=Kd.kr bM.out (ie:Int) mX
        go_wp2_with (first|((with_reducible refine kW (t:=2) (p:=65) rfl ?_);(try (rw [anc wr];generalize jc:World.drewN wr _=wr;have aK:=k0 (Kd.Aw jc bM.out);have alf:=k0 (AK jc ah.out);have alj:=k0 (AJ jc HB.out);clear jc bM ah HB;have bM:=aK;have ah:=alf;have HB:=alj;clear aK alf alj;(try (have mJ:=Kd.kr bM.out (ie:Int) mX))));refine alT (t:=2) (p:=65) (v:=?TL) (w1:=(wr.setCell ⟨qC,(ie:Int).toNat,none⟩ (.int .i64 mX))) ?hg ?ho ?hn ?hr ?_;(case ho=>rfl);(case hg=>rfl);(case hn=>rfl);(case hr=>first|(go_simp;done)|(go_simp;rfl));intro aml hw;have hg:wr.grownBy aml (some qC):=(by rw [hw];exact mJ.2);have dO:Kd.R (Kd.int .i64) 2 aml w.heap.size (fun _=>True) (.slice (some ⟨qC,0,none⟩) jR.length yY) dU:=(by rw [hw,mK.out];exact mJ.1);clear mJ;replace ah:=k0 (jv (g:=ai) (o:=sO af (some al1) aa aq 31) bk hg (Kd.iG bM.out ah.out (by decide)));replace bM:=k0 (dO);replace HB:=k0 ((by rw [hw];exact dI (HB.out) anF.out:Below w.heap.size w aml));clear hg hw dO))
        repeat (go_quiet (first|((with_reducible refine kW (t:=2) (p:=65) rfl ?_);(try (rw [anc wr];generalize jc:World.drewN wr _=wr;have aK:=k0 (Kd.Aw jc bM.out);have alf:=k0 (AK jc ah.out);have alj:=k0 (AJ jc HB.out);clear jc bM ah HB;have bM:=aK;have ah:=alf;have HB:=alj;clear aK alf alj;(try (have mJ:=Kd.kr bM.out (ie:Int) mX))));refine alT (t:=2) (p:=65) (v:=?TL) (w1:=(wr.setCell ⟨qC,(ie:Int).toNat,none⟩ (.int .i64 mX))) ?hg ?ho ?hn ?hr ?_;(case ho=>rfl);(case hg=>rfl);(case hn=>rfl);(case hr=>first|(go_simp;done)|(go_simp;rfl));intro aml hw;have hg:wr.grownBy aml (some qC):=(by rw [hw];exact mJ.2);have dO:Kd.R (Kd.int .i64) 2 aml w.heap.size (fun _=>True) (.slice (some ⟨qC,0,none⟩) jR.length yY) dU:=(by rw [hw,mK.out];exact mJ.1);clear mJ;replace ah:=k0 (jv (g:=ai) (o:=sO af (some al1) aa aq 31) bk hg (Kd.iG bM.out ah.out (by decide)));replace bM:=k0 (dO);replace HB:=k0 ((by rw [hw];exact dI (HB.out) anF.out:Below w.heap.size w aml));clear hg hw dO));try go_wp2_with (first|((with_reducible refine kW (t:=2) (p:=65) rfl ?_);(try (rw [anc wr];generalize jc:World.drewN wr _=wr;have aK:=k0 (Kd.Aw jc bM.out);have alf:=k0 (AK jc ah.out);have alj:=k0 (AJ jc HB.out);clear jc bM ah HB;have bM:=aK;have ah:=alf;have HB:=alj;clear aK alf alj;(try (have mJ:=Kd.kr bM.out (ie:Int) mX))));refine alT (t:=2) (p:=65) (v:=?TL) (w1:=(wr.setCell ⟨qC,(ie:Int).toNat,none⟩ (.int .i64 mX))) ?hg ?ho ?hn ?hr ?_;(case ho=>rfl);(case hg=>rfl);(case hn=>rfl);(case hr=>first|(go_simp;done)|(go_simp;rfl));intro aml hw;have hg:wr.grownBy aml (some qC):=(by rw [hw];exact mJ.2);have dO:Kd.R (Kd.int .i64) 2 aml w.heap.size (fun _=>True) (.slice (some ⟨qC,0,none⟩) jR.length yY) dU:=(by rw [hw,mK.out];exact mJ.1);clear mJ;replace ah:=k0 (jv (g:=ai) (o:=sO af (some al1) aa aq 31) bk hg (Kd.iG bM.out ah.out (by decide)));replace bM:=k0 (dO);replace HB:=k0 ((by rw [hw];exact dI (HB.out) anF.out:Below w.heap.size w aml));clear hg hw dO)))
        (try simp only [← alO])
        first|go_roundg k3|(simp only [← rF];go_roundg k3)|(simp only [← lR];go_roundg k3)
        case measure=>have:=aM.out;have:=bp.out;have:=dn.out;omega
        case rel=>exact ⟨(dU),(wrap64 (ie+1)),rs,(by first|exact H'|(rw [rF];exact H')|(rw [lR];exact H')),⟨by have:=aM.out;have:=bp.out;have:=dn.out;omega⟩,⟨by (try simp only [alO]);(with_reducible repeat (first|apply Kd.bO|apply Kd.bR|apply Kd.alp));exact bM.out⟩,⟨by (try simp only [alO]);exact bk⟩,⟨bl⟩⟩
   rw [if_pos c6] at H
   have jk:=decide_eq_true c6
   clear c6
   replace H:=iS H;obtain ⟨c7,H⟩:=H
   have yI:=k0 c7
   clear c7
   obtain ⟨jn,alC⟩:∃ y_:List Int,y_=(aI ++ [eG]):=⟨_,rfl⟩
   replace H:(dh.l0 k1 jn af (wrap64 (eG+1)) af aa)=some r:=by first|(rw [alC];with_reducible exact H)|(have ax:=(Option.bind_some _ _).symm.trans H;rw [alC];with_reducible exact ax)|(have ax:=(Option.bind_some _ _).symm.trans H;with_reducible exact ax)|with_reducible exact H|(rw [alC];exact H)|exact H
   have lJ:=k0 alC
   clear alC
   have H':=k0 H
   clear H
   go_wp2_with (first|((with_reducible refine pI (b:=.append) (xs:=#[.tmp 19,.tmp 21]) rfl ?_);at_builtin;refine Kd.uL (Kd.int .i64) (w0:=w) w.heap.size rfl (.tmp 19) (.tmp 21) 28 2 (.int .i64 0) 8 rfl Try.underlying28 lF rfl (by decide) (by omega) u5 aI eG [.int .i64 eG] (fun _=>True) (fun _=>False) rfl rfl ?aP (fun _ hk=>hk.elim) ?aF ?aO ?aB ?aS ?aL ?_;(case aP=>exact rfl);(case aB=>exact bl);(case aF=>exact (fun _ _=>trivial));(case aO=>exact (aR bM.out));(case aS=>exact (aU bl));(case aL=>have:=yI.out;omega);intro gj w8 ho hb hg cz;rw [← lJ.out] at ho;have aK:=k0 (jv (g:=ai) (o:=sO af au aa aq 31) bk hg (Kd.iG bM.out ah.out (by decide)));have alf:=k0 (hb);have alj:=k0 (ho);clear ah;clear HB;clear bM;have ah:=aK;have HB:=alf;have cO:=alj;clear aK alf alj;clear ho hb hg cz))
   repeat (go_quiet (first|((with_reducible refine pI (b:=.append) (xs:=#[.tmp 19,.tmp 21]) rfl ?_);at_builtin;refine Kd.uL (Kd.int .i64) (w0:=w) w.heap.size rfl (.tmp 19) (.tmp 21) 28 2 (.int .i64 0) 8 rfl Try.underlying28 lF rfl (by decide) (by omega) u5 aI eG [.int .i64 eG] (fun _=>True) (fun _=>False) rfl rfl ?aP (fun _ hk=>hk.elim) ?aF ?aO ?aB ?aS ?aL ?_;(case aP=>exact rfl);(case aB=>exact bl);(case aF=>exact (fun _ _=>trivial));(case aO=>exact (aR bM.out));(case aS=>exact (aU bl));(case aL=>have:=yI.out;omega);intro gj w8 ho hb hg cz;rw [← lJ.out] at ho;have aK:=k0 (jv (g:=ai) (o:=sO af au aa aq 31) bk hg (Kd.iG bM.out ah.out (by decide)));have alf:=k0 (hb);have alj:=k0 (ho);clear ah;clear HB;clear bM;have ah:=aK;have HB:=alf;have cO:=alj;clear aK alf alj;clear ho hb hg cz));try go_wp2_with (first|((with_reducible refine pI (b:=.append) (xs:=#[.tmp 19,.tmp 21]) rfl ?_);at_builtin;refine Kd.uL (Kd.int .i64) (w0:=w) w.heap.size rfl (.tmp 19) (.tmp 21) 28 2 (.int .i64 0) 8 rfl Try.underlying28 lF rfl (by decide) (by omega) u5 aI eG [.int .i64 eG] (fun _=>True) (fun _=>False) rfl rfl ?aP (fun _ hk=>hk.elim) ?aF ?aO ?aB ?aS ?aL ?_;(case aP=>exact rfl);(case aB=>exact bl);(case aF=>exact (fun _ _=>trivial));(case aO=>exact (aR bM.out));(case aS=>exact (aU bl));(case aL=>have:=yI.out;omega);intro gj w8 ho hb hg cz;rw [← lJ.out] at ho;have aK:=k0 (jv (g:=ai) (o:=sO af au aa aq 31) bk hg (Kd.iG bM.out ah.out (by decide)));have alf:=k0 (hb);have alj:=k0 (ho);clear ah;clear HB;clear bM;have ah:=aK;have HB:=alf;have cO:=alj;clear aK alf alj;clear ho hb hg cz)))
   first|go_roundg k1|(simp only [← rF];go_roundg k1)|(simp only [← lR];go_roundg k1)
   case measure=>have:=aM.out;omega
   case rel=>exact ⟨(jn),(wrap64 (eG+1)),rs,(by first|exact H'|(rw [rF];exact H')|(rw [lR];exact H')),⟨by have:=aM.out;omega⟩,⟨aR (cO.out)⟩,⟨bk⟩,⟨bl⟩⟩
/-! ### F190: function 190 -/
def amc.f (k:Nat) (af:Int) (aa:List (List Int)):Option (Int):=(dh.f k af aa).bind fun t102=>((iV.f k t102).bind fun t105=>(some t105))
theorem amc.mono:∀ a0 a1 k,aj (amc.f k a0 a1) (amc.f (k+1) a0 a1):=by
 intro a0 a1 k
 unfold amc.f
 repeat' first
  | (with_reducible first|exact dh.mono _ _ _|exact iV.mono _ _|exact aj.refl _|exact aj.none _|refine aj.ite ?_ ?_|refine aj.bind ?_ (fun _=>?_))
  | exact dh.mono _ _ _|exact iV.mono _ _|exact aj.none _|refine aj.ite ?_ ?_|refine aj.bind ?_ (fun _=>?_)
set_option maxHeartbeats 8000000 in
set_option maxRecDepth 100000 in
theorem amc.calls (k : Nat) (af : Int) (au : Option Addr) (aq : Nat) (aa : List (List Int)) (r : Int) (w : World) (cl : Kd.C (Kd.slice 2 (Kd.int .i64)) w au aa.length aa) (cn : aa.length ≤ aq) (h : amc.f k af aa = some r) :
  Calls Try.prog 190 #[.agg #[.int .i64 af,.slice au aa.length aq]] w fun e w'=>e=.returned (.int .i64 r)∧Below w.heap.size w w':=by
 have kF:=Try.underlying31
 have alx:=k0 cl
 have di:=k0 cn
 clear cl cn
 have HB:=k0 (Below.refl w.heap.size w)
 have H:((dh.f k af aa).bind fun t102=>((iV.f k t102).bind fun t105=>(some t105)))=some r:=h
 clear h
 replace H:=Option.bind_eq_some_iff.mp H
 obtain ⟨t102,mH,H⟩:=H
 replace H:((iV.f k t102).bind fun t105=>(some t105))=some r:=H
 have A2:=k0 mH
 clear mH
 replace H:=Option.bind_eq_some_iff.mp H
 obtain ⟨t105,qh,H⟩:=H
 replace H:(some t105)=some r:=H
 have A3:=k0 qh
 clear qh
 obtain rfl:=Option.some.inj H
 go_enter Try.func190,Try.ntmps190
 go_wp2_with (first|((with_reducible refine cy (N:=1) rfl ?_);refine ec ?hg (N:=1) ?hd (cs:=#[.int .i64 af,.slice au aa.length aq]) (t:=31) ?hr ?_;(case hd=>rfl);(case hg=>rfl);(case hr=>first|(go_simp;done)|(go_simp;rfl));intro ai hg w4 aJ hb;have ah:=k0 (aJ);have cr:=k0 ((by rw [hg];exact (aU bl):w.heap.size≤ai));have eL:=cr;replace HB:=k0 (aG bl hb);clear hb aJ hg;have tu:w4.cell? ⟨ai,0,none⟩=some (.int .i64 af):=(av ah.out 0).trans rfl;have tv:w4.cell? ⟨ai,1,none⟩=some (.slice au aa.length aq):=(av ah.out 1).trans rfl;have tE:=ale ah.out 0;have tF:=ale ah.out 1)|((with_reducible refine fo (f:=229) rfl ?_);refine fq (some 4) rfl rfl Try.func229 (by kernel_rfl) rfl #[.agg #[.int .i64 af,.slice au aa.length aq],.func (.func 230) #[] #[]] rfl gm ?_;(with_reducible refine (dh.calls k af _ _ aa t102 _ ?bt ?bu A2.out).mono ?_);(case bt=>exact aC (Kd.bI alx.out HB.out));(case bu=>exact di.out);rintro e w6 ⟨dw,rfl,aY,hb⟩;refine ⟨_,rfl,?_⟩;have a_:=k0 (Kd.d_ aY (aU bl));replace ah:=k0 (alg (g:=ai) (o:=sO af au aa aq 31) bk hb);replace HB:=k0 (aG bl hb);(try clear hb);(try clear aY);obtain ⟨Uj,Yp,Zi⟩:=Kd.fh a_.out;subst Zi)|((with_reducible refine fo (f:=228) rfl ?_);refine fq (some 5) rfl rfl Try.func228 (by kernel_rfl) rfl #[.slice Uj t102.length Yp] rfl gm ?_;(with_reducible refine (iV.calls k _ _ t102 t105 _ ?bt ?bu A3.out).mono ?_);(case bt=>exact aC ((Kd.bn a_.out).2.2));(case bu=>exact (Kd.bn a_.out).2.1);rintro e w' ⟨rfl,⟨nd,rfl⟩⟩;refine ⟨_,rfl,?_⟩))
 go_ret
 exact ⟨by first|rfl|(simp [bA,bB]<;>rfl)|(simp [*,bA,bB]<;>rfl),bl⟩
-- NOT PRINTED: function 103 (impl_connectedCode)
/-! ### F179: function 179 -/
def Af.f (af:Int) (aa:List (List Int)) (a1:Int):Option (Bool):=(g_.f a1 0 (wrap64 (af - 1))).bind fun t102=>(some t102)
set_option maxHeartbeats 8000000 in
set_option maxRecDepth 100000 in
theorem Af.calls (af : Int) (au : Option Addr) (aq : Nat) (aa : List (List Int)) (a1 : Int) (r : Bool) (w : World) (cl : Kd.C (Kd.slice 2 (Kd.int .i64)) w au aa.length aa) (cn : aa.length ≤ aq) (h : Af.f af aa a1 = some r) :
  Calls Try.prog 179 #[.agg #[.int .i64 af,.slice au aa.length aq],.int .i64 a1] w fun e w'=>e=.returned (.bool r)∧Below w.heap.size w w':=by
 have kF:=Try.underlying31
 have alx:=k0 cl
 have di:=k0 cn
 clear cl cn
 have HB:=k0 (Below.refl w.heap.size w)
 have H:((g_.f a1 0 (wrap64 (af - 1))).bind fun t102=>(some t102))=some r:=h
 clear h
 replace H:=Option.bind_eq_some_iff.mp H
 obtain ⟨t102,qh,H⟩:=H
 replace H:(some t102)=some r:=H
 have A3:=k0 qh
 clear qh
 obtain rfl:=Option.some.inj H
 go_enter Try.func179,Try.ntmps179
 go_wp2_with (first|((with_reducible refine cy (N:=2) rfl ?_);refine ec ?hg (N:=2) ?hd (cs:=#[.int .i64 af,.slice au aa.length aq]) (t:=31) ?hr ?_;(case hd=>rfl);(case hg=>rfl);(case hr=>first|(go_simp;done)|(go_simp;rfl));intro ai hg w4 aJ hb;have ah:=k0 (aJ);have cr:=k0 ((by rw [hg];exact (aU bl):w.heap.size≤ai));have eL:=cr;replace HB:=k0 (aG bl hb);clear hb aJ hg;have tu:w4.cell? ⟨ai,0,none⟩=some (.int .i64 af):=(av ah.out 0).trans rfl;have tv:w4.cell? ⟨ai,1,none⟩=some (.slice au aa.length aq):=(av ah.out 1).trans rfl;have tE:=ale ah.out 0;have tF:=ale ah.out 1)|((with_reducible refine fo (f:=194) rfl ?_);refine fq (some 9) rfl rfl Try.func194 (by kernel_rfl) rfl #[.int .i64 a1,.int .i64 0,.int .i64 (wrap64 (af - 1))] rfl gm ?_;(with_reducible refine (g_.calls a1 0 (wrap64 (af - 1)) t102 _ A3.out).mono ?_);rintro e w' ⟨rfl,⟨nd,rfl⟩⟩;refine ⟨_,rfl,?_⟩))
 go_ret
 exact ⟨by first|rfl|(simp [bA,bB]<;>rfl)|(simp [*,bA,bB]<;>rfl),bl⟩
/-! ### F182: function 182 -/
def oq (x:Int):Bool:=!(decide ((-200)≤x) && decide (x≤200))
theorem WD (x:Int) (w1:World):Calls Try.prog 221 #[.int .i64 x] w1 fun e w'=>e=.returned (.bool (oq x))∧als w1 w':=by
 have h:g_.f x (-200) 200=some (decide ((-200)≤x) && decide (x≤200)):=by
  unfold g_.f
  by_cases h1:(-200)≤x<;>simp [h1]
 have HX:ak (oq x=!(decide ((-200)≤x) && decide (x≤200))):=⟨rfl⟩
 generalize (decide ((-200)≤x) && decide (x≤200))=b at h HX
 go_enter Try.func221,Try.ntmps221
 go_wp2_with (go_at_call 194;refine (g_.calls _ _ _ b _ h).mono ?_;rintro e w' ⟨rfl,⟨nd,rfl⟩⟩)
 go_ret
 exact ⟨by rw [HX.out];rfl,by repeat (first|exact als.refl _|apply als.step)⟩
theorem WC (p : Int → Bool) (A : Option Addr) (c : Nat) (l : List Int) (w : World) (hr : Kd.C (Kd.int .i64) w A l.length l)
 (hp:∀ x w1,Below w.heap.size w w1→Calls Try.prog 221 #[.int .i64 x] w1 fun e w'=>e=.returned (.bool (p x))∧Below w1.heap.size w1 w') :
 Calls Try.prog 188 #[.slice A l.length c,.func (.func 221) #[] #[]] w fun e w'=>e=.returned (.int .i64 (idxFrom p l 0))∧Below w.heap.size w w':=by
 have HR:=k0 hr
 have HP:=k0 hp
 have hlen:l.length≤9223372036854775807:=hr.2.1
 clear hr hp
 go_enter Try.func188,Try.ntmps188
 go_wp2_with fail
 go_loopw [8] (fun i wr=>∃ k:Nat,k≤l.length∧i=.int .i64 k∧ak (idxFrom p (l.drop k) k=idxFrom p l 0)∧ak (Below w.heap.size w wr)) (fun i _=>l.length - (intOf i).toNat)
 case atStart=>exact ⟨0,Nat.zero_le _,rfl,⟨by simp⟩,⟨Below.refl _ _⟩⟩
 case round =>
  obtain ⟨k,hk,rfl,HI,HB⟩:=hrel
  by_cases hlt:k < l.length
  case neg =>
   have HD:ak (idxFrom p l 0=-1):=⟨by rw [← HI.out,List.drop_of_length_le (by omega)];rfl⟩
   have hb:decide (k < l.length)=false:=by simp;omega
   go_wp2
   go_ret
   exact ⟨by rw [HD.out];rfl,HB.out⟩
  obtain ⟨ad,e,hcell⟩:=Kd.bS (Kd.bI HR.out HB.out) k (by omega) (by omega)
  cases e
  rw [Int.toNat_natCast] at hcell
  cases hpx:p (rd l k) with
  | true =>
   have HD:ak (idxFrom p l 0=k):=⟨by rw [← HI.out,Gj p l k hlt,hpx];rfl⟩
   have HX:=k0 hpx
   clear hpx
   go_wp2_with (go_at_call 221;refine (HP.out _ _ HB.out).mono ?_;rw [HX.out];rintro e w' ⟨rfl,aA⟩;have fl:=k0 (aG HB.out aA);clear aA)
   go_ret
   exact ⟨by rw [HD.out];rfl,fl.out⟩
  | false =>
   have HD:ak (idxFrom p (l.drop (k+1)) (k+1)=idxFrom p l 0):=⟨by rw [← HI.out,Gj p l k hlt,hpx];rfl⟩
   have HX:=k0 hpx
   clear hpx
   go_wp2_with (go_at_call 221;refine (HP.out _ _ HB.out).mono ?_;rw [HX.out];rintro e w' ⟨rfl,aA⟩;have fl:=k0 (aG HB.out aA);clear aA)
   go_roundw
   case rel=>exact ⟨k+1,by omega,by go_num,HD,fl⟩
   case measure=>simp [intOf];omega
theorem WB (p : Int → Bool) (A : Option Addr) (c : Nat) (l : List Int) (w : World) (hr : Kd.C (Kd.int .i64) w A l.length l)
 (hp:∀ x w1,Below w.heap.size w w1→Calls Try.prog 221 #[.int .i64 x] w1 fun e w'=>e=.returned (.bool (p x))∧Below w1.heap.size w1 w') :
 Calls Try.prog 98 #[.slice A l.length c,.func (.func 221) #[] #[]] w fun e w'=>e=.returned (.bool (l.any p))∧Below w.heap.size w w':=by
 have HC:=WC p A c l w hr hp
 have HX:ak (l.any p=decide (0≤idxFrom p l 0)):=⟨(Sg p l 0).symm⟩
 have ql:=k0 HC
 clear HC hr hp
 go_enter Try.func98,Try.ntmps98
 go_wp2_with (go_at_call 188;refine ql.out.mono ?_;rintro e w' ⟨rfl,aA⟩;have fl:=k0 aA;clear aA)
 go_ret
 exact ⟨by rw [HX.out];rfl,fl.out⟩
def vB.f (af:Int) (aa:List (List Int)) (l1:List Int):Option Bool:=some (decide ((l1.length:Int)=af) && !(l1.any oq))
set_option maxHeartbeats 8000000 in
set_option maxRecDepth 100000 in
theorem vB.calls (af : Int) (au : Option Addr) (aq : Nat) (aa : List (List Int)) (A1 : Option Addr) (c1 : Nat) (l1 : List Int) (r : Bool) (w : World) (cl : Kd.C (Kd.slice 2 (Kd.int .i64)) w au aa.length aa) (cn : aa.length ≤ aq) (cE : Kd.C (Kd.int .i64) w A1 l1.length l1) (dW : l1.length ≤ c1) (h : vB.f af aa l1 = some r) :
  Calls Try.prog 182 #[.agg #[.int .i64 af,.slice au aa.length aq],.slice A1 l1.length c1] w fun e w'=>e=.returned (.bool r)∧Below w.heap.size w w':=by
 have HR:=k0 cE
 clear cl cE
 obtain rfl:=Option.some.inj h
 clear h
 by_cases hl:((l1.length:Int) == af)=true
 case neg =>
  have hl':((l1.length:Int) == af)=false:=by simpa using hl
  have HX:ak ((decide ((l1.length:Int)=af) && !(l1.any oq))=false):=⟨by simp at hl;simp [hl]⟩
  clear hl
  go_enter Try.func182,Try.ntmps182
  go_wp2
  go_ret
  exact ⟨by rw [HX.out];rfl,((Below.refl _ _).alloc (Nat.le_refl _) _)⟩
 have HX:ak ((decide ((l1.length:Int)=af) && !(l1.any oq))=!(l1.any oq)):=⟨by simp at hl;simp [hl]⟩
 have HC:=fun W h=>WB oq A1 c1 l1 W h (fun x w1 _=>(WD x w1).mono fun e w' ⟨h1,h2⟩=>⟨h1,h2.below⟩)
 have ql:=k0 HC
 clear HC
 go_enter Try.func182,Try.ntmps182
 go_wp2_with (go_at_call 98;refine (ql.out _ (Kd.kM HR.out _)).mono ?_;rintro e w' ⟨rfl,aA⟩;have fl:=k0 (aG ((Below.refl _ _).alloc (Nat.le_refl _) _) aA);clear aA)
 go_ret
 exact ⟨by rw [HX.out];rfl,fl.out⟩
/-! ### F178: function 178 -/
theorem XW {b1 : Nat} (A : Option Addr) (c : Nat) (l : List Int) (gi : Int) (iU : Option Addr) (i_ : Nat) (alA : List (List Int)) (r : Bool) (w : World) (hr : Kd.C (Kd.int .i64) w A l.length l) (hc : l.length ≤ c) (cE : Kd.C (Kd.slice 2 (Kd.int .i64)) w iU alA.length alA) (dW : alA.length ≤ i_) (hb : w.heap[b1]? = some (sO gi iU alA i_ 31)) (h : vB.f gi alA l = some r) :
  Calls Try.prog 181 #[.slice A l.length c,.pointer (some ⟨b1,0,none⟩)] w fun e w'=>e=.returned (.bool (!r))∧Below w.heap.size w w':=by
 have HC:=fun W (hw:Below w.heap.size w W)=>vB.calls gi iU i_ alA A c l r W (Kd.bI cE hw) dW (Kd.bI hr hw) hc h
 have ql:=k0 HC
 have RM:w.cell? ⟨b1,0,none⟩=some (.int .i64 gi):=(av hb 0).trans rfl
 have Bj:w.cell? ⟨b1,1,none⟩=some (.slice iU alA.length i_):=(av hb 1).trans rfl
 have Kt:=ale hb 0
 have xU:=ale hb 1
 clear HC hr cE hb h
 go_enter Try.func181,Try.ntmps181
 go_wp2_with (go_at_call 182;refine (ql.out _ (by repeat (first|exact Below.refl _ _|apply bL|apply bX|apply bH))).mono ?_;rintro e w' ⟨rfl,aA⟩;have fl:=k0 (aG (by repeat (first|exact Below.refl _ _|apply bL|apply bX|apply bH)) aA:Below w.heap.size w w');clear aA)
 go_ret
 exact ⟨by first|rfl|(simp;done),(by repeat (first|exact fl.out|apply bL|apply bX|apply bH))⟩
theorem XV (p : List Int → Option Bool) (b1 : Nat) (A : Option Addr) (c : Nat) (l : List (List Int)) (R : Int) (w : World) (hr : Kd.C (Kd.slice 2 (Kd.int .i64)) w A l.length l)
 (hp:∀ (A':Option Addr) (c':Nat) (x:List Int) (b:Bool) w1,Below w.heap.size w w1→Kd.C (Kd.int .i64) w1 A' x.length x→x.length≤c'→p x=some b→Calls Try.prog 181 #[.slice A' x.length c',.pointer (some ⟨b1,0,none⟩)] w1 fun e w'=>e=.returned (.bool b)∧Below w1.heap.size w1 w') (h:nL p l 0=some R) :
 Calls Try.prog 220 #[.slice A l.length c,.func (.func 181) #[] #[.pointer (some ⟨b1,0,none⟩)]] w fun e w'=>e=.returned (.int .i64 R)∧Below w.heap.size w w':=by
 have HR:=k0 hr
 have HP:=k0 hp
 have H':=k0 h
 have hlen:l.length≤9223372036854775807:=hr.2.1
 clear hr hp h
 go_enter Try.func220,Try.ntmps220
 go_wp2_with fail
 go_loopw [8] (fun i wr=>∃ k:Nat,k≤l.length∧i=.int .i64 k∧ak (nL p (l.drop k) k=some R)∧ak (Below w.heap.size w wr)) (fun i _=>l.length - (intOf i).toNat)
 case atStart=>exact ⟨0,Nat.zero_le _,rfl,⟨by simpa using H'.out⟩,⟨Below.refl _ _⟩⟩
 case round =>
  clear H'
  obtain ⟨k,hk,rfl,HI,HB⟩:=hrel
  by_cases hlt:k < l.length
  case neg =>
   have hI:=HI.out
   rw [List.drop_of_length_le (by omega)] at hI
   simp only [nL,Option.some.injEq] at hI
   subst hI
   have hb:decide (k < l.length)=false:=by simp;omega
   go_wp2
   go_ret
   exact ⟨rfl,HB.out⟩
  have hI:=HI.out
  rw [List.drop_eq_getElem_cons hlt] at hI
  simp only [nL] at hI
  obtain ⟨b,hb,hI⟩:=Option.bind_eq_some_iff.mp hI
  obtain ⟨ad,A',c',e,hcell,hlc,hC⟩:=cZ (Kd.bI HR.out HB.out) (k:Int) (by omega) (by omega)
  cases e
  rw [Int.toNat_natCast] at hcell
  have hx:ag l (k:Int)=l[k]:=by simp [ag,List.getD_eq_getElem?_getD,hlt]
  rw [hx] at hcell hlc hC
  have BS:=k0 hC
  have BX:=k0 hlc
  have BR:=k0 hb
  clear hC hlc hb hx
  cases b with
  | true =>
   simp only [if_true,Option.some.injEq] at hI
   subst hI
   go_wp2_with (go_at_call 181;refine (HP.out _ _ _ true _ HB.out BS.out BX.out BR.out).mono ?_;rintro e w' ⟨rfl,aA⟩;have fl:=k0 (aG HB.out aA);clear aA)
   go_ret
   exact ⟨rfl,fl.out⟩
  | false =>
   simp only [Bool.false_eq_true,if_false] at hI
   have HD:=k0 hI
   clear hI
   go_wp2_with (go_at_call 181;refine (HP.out _ _ _ false _ HB.out BS.out BX.out BR.out).mono ?_;rintro e w' ⟨rfl,aA⟩;have fl:=k0 (aG HB.out aA);clear aA)
   go_roundw
   case rel=>exact ⟨k+1,by omega,by go_num,HD,fl⟩
   case measure=>simp [intOf];omega
theorem XU {b1 : Nat} (gi : Int) (iU : Option Addr) (i_ : Nat) (alA : List (List Int)) (A : Option Addr) (c : Nat) (l : List (List Int)) (i : Int) (w : World) (hr : Kd.C (Kd.slice 2 (Kd.int .i64)) w A l.length l) (cE : Kd.C (Kd.slice 2 (Kd.int .i64)) w iU alA.length alA) (dW : alA.length ≤ i_) (hb : w.heap[b1]? = some (sO gi iU alA i_ 31)) (hi : nL (fun x => (vB.f gi alA x).map not) l 0 = some i) :
  Calls Try.prog 180 #[.slice A l.length c,.func (.func 181) #[] #[.pointer (some ⟨b1,0,none⟩)]] w fun e w'=>e=.returned (.bool (decide (0≤i)))∧Below w.heap.size w w':=by
 have HC:=fun W (hw:Below w.heap.size w W)=>XV (fun x=>(vB.f gi alA x).map not) b1 A c l i W (Kd.bI hr hw) (fun A' c' x b w1 hw1 hC hc hx=>by
  obtain ⟨b',hb',rfl⟩:=Option.map_eq_some_iff.1 hx
  exact XW A' c' x gi iU i_ alA b' w1 hC hc (Kd.bI cE (aG hw hw1)) dW (alg hb (aG hw hw1)) hb') hi
 have ql:=k0 HC
 clear HC hr cE hb hi
 go_enter Try.func180,Try.ntmps180
 go_wp2_with (go_at_call 220;refine (ql.out _ (Below.refl _ _)).mono ?_;rintro e w' ⟨rfl,aA⟩;have fl:=k0 aA;clear aA)
 go_ret
 exact ⟨by first|rfl|(simp;done),fl.out⟩
theorem Jl {b1 b2 b3 : Nat} (gi : Int) (iU : Option Addr) (i_ : Nat) (alA : List (List Int)) (a2 : Int) (A3 : Option Addr) (c3 : Nat) (l3 : List (List Int)) (q r : Bool) (w : World) (cE : Kd.C (Kd.slice 2 (Kd.int .i64)) w iU alA.length alA) (dW : alA.length ≤ i_) (qN : Kd.C (Kd.slice 2 (Kd.int .i64)) w A3 l3.length l3) (hb1 : w.heap[b1]? = some (sO gi iU alA i_ 31)) (hb2 : w.heap[b2]? = some (.cells #[.int .i64 a2] 2 (0, 0))) (hb3 : w.heap[b3]? = some (.cells #[.slice A3 l3.length c3] 22 (0, 0))) (hq : Af.f gi alA a2 = some q) (hi : q = true → ∃ i, nL (fun x => (vB.f gi alA x).map not) l3 0 = some i ∧ r = !(decide (0 ≤ i))) (hn : q = false → r = false) :
  Calls Try.prog 178 #[.pointer (some ⟨b1,0,none⟩),.pointer (some ⟨b2,0,none⟩),.pointer (some ⟨b3,0,none⟩)] w fun e w'=>e=.returned (.bool r)∧Below w.heap.size w w':=by
 have HV:=fun W (hw:Below w.heap.size w W)=>Af.calls gi iU i_ alA a2 q W (Kd.bI cE hw) dW hq
 have NQ:=k0 HV
 have BK1:=k0 hb1
 have BK2:=k0 hb2
 have MN:=k0 hb3
 have HB0:=k0 (Below.refl w.heap.size w)
 have ahD:w.cell? ⟨b1,0,none⟩=some (.int .i64 gi):=(av hb1 0).trans rfl
 have ahE:w.cell? ⟨b1,1,none⟩=some (.slice iU alA.length i_):=(av hb1 1).trans rfl
 have ahF:w.cell? ⟨b2,0,none⟩=some (.int .i64 a2):=(av hb2 0).trans rfl
 have ah':=ale hb1 0
 have ah_:=ale hb1 1
 have aia:=ale hb2 0
 cases q with
 | false =>
  obtain rfl:=hn rfl
  clear HV cE qN hb1 hb2 hb3 hq hi hn
  go_enter Try.func178,Try.ntmps178
  go_wp2_with (go_at_call 179;refine (NQ.out _ (by repeat (first|exact Below.refl _ _|apply bL|apply bX|apply bH))).mono ?_;rintro e w2 ⟨rfl,aA⟩;have fl:=k0 (aG (by repeat (first|exact Below.refl _ _|apply bL|apply bX|apply bH)) aA:Below w.heap.size w w2);clear aA)
  go_ret
  exact ⟨by first|rfl|(simp;done),(by repeat (first|exact fl.out|apply bL|apply bX|apply bH))⟩
 | true =>
  obtain ⟨i,hi1,rfl⟩:=hi rfl
  have HC:=fun W (hw:Below w.heap.size w W)=>XU gi iU i_ alA A3 c3 l3 i W (Kd.bI qN hw) (Kd.bI cE hw) dW (alg hb1 hw) hi1
  have ql:=k0 HC
  clear HV HC cE qN hb1 hb2 hb3 hq hi hn
  go_enter Try.func178,Try.ntmps178
  go_wp2_with (first|(go_at_call 179;refine (NQ.out _ (by repeat (first|exact Below.refl _ _|apply bL|apply bX|apply bH))).mono ?_;rintro e w2 ⟨rfl,aA⟩;have fl:=k0 (aG (by repeat (first|exact Below.refl _ _|apply bL|apply bX|apply bH)) aA:Below w.heap.size w w2);clear aA;have ahW:w2.cell? ⟨b3,0,none⟩=some (.slice A3 l3.length c3):=(av (alg MN.out fl.out) 0).trans rfl;have ais:=ale (alg MN.out fl.out) 0)|(go_at_call 180;refine (ql.out _ (by repeat (first|exact fl.out|apply bL|apply bX|apply bH))).mono ?_;rintro e w3 ⟨rfl,aA⟩;have U6:=k0 (aG (by repeat (first|exact fl.out|apply bL|apply bX|apply bH)) aA:Below w.heap.size w w3);clear aA))
  go_ret
  exact ⟨by first|rfl|(simp;done),(by repeat (first|exact U6.out|apply bL|apply bX|apply bH))⟩
theorem Fq {b1 b2 b3 : Nat} (k : Nat) (af : Int) (au : Option Addr) (aq : Nat) (aa : List (List Int)) (b r : Bool) (w : World) (cI : Kd.C (Kd.slice 2 (Kd.int .i64)) w au aa.length aa) (hc0 : aa.length ≤ aq) (hb : ir.f k af aa = some b) (hcl : b = true → ∀ W, Below w.heap.size w W → Calls Try.prog 178 #[.pointer (some ⟨b1, 0, none⟩), .pointer (some ⟨b2, 0, none⟩), .pointer (some ⟨b3, 0, none⟩)] W fun e w' => e = .returned (.bool r) ∧ Below W.heap.size W w') :
  Calls Try.prog 125 #[.agg #[.int .i64 af,.slice au aa.length aq],.func (.func 178) #[] #[.pointer (some ⟨b1,0,none⟩),.pointer (some ⟨b2,0,none⟩),.pointer (some ⟨b3,0,none⟩)]] w fun e w'=>e=.returned (.int .i64 (if b=true then (if r=true then 0 else 2) else 1))∧Below w.heap.size w w':=by
 have HG:=fun W (hw:Below w.heap.size w W)=>ir.calls k af au aq aa b W (Kd.bI cI hw) hc0 hb
 have anQ:=k0 HG
 clear HG cI hb
 cases b with
 | false =>
  clear hcl
  go_enter Try.func125,Try.ntmps125
  go_wp2_with (go_at_call 106;refine (anQ.out _ (by repeat (first|exact Below.refl _ _|apply bL|apply bX|apply bH))).mono ?_;rintro e w1 ⟨rfl,aA⟩;have kO:=k0 (aG (by repeat (first|exact Below.refl _ _|apply bL|apply bX|apply bH)) aA:Below w.heap.size w w1);clear aA)
  go_ret
  exact ⟨by first|rfl|(simp;done),(by repeat (first|exact kO.out|apply bL|apply bX|apply bH))⟩
 | true =>
  have ql:=k0 (hcl rfl)
  clear hcl
  cases r with
  | false =>
   go_enter Try.func125,Try.ntmps125
   go_wp2_with (first|(go_at_call 106;refine (anQ.out _ (by repeat (first|exact Below.refl _ _|apply bL|apply bX|apply bH))).mono ?_;rintro e w1 ⟨rfl,aA⟩;have kO:=k0 (aG (by repeat (first|exact Below.refl _ _|apply bL|apply bX|apply bH)) aA:Below w.heap.size w w1);clear aA)|(go_at_call 178;refine (ql.out _ (by repeat (first|exact kO.out|apply bL|apply bX|apply bH))).mono ?_;rintro e w2 ⟨rfl,aA⟩;have fl:=k0 (aG (by repeat (first|exact kO.out|apply bL|apply bX|apply bH)) aA:Below w.heap.size w w2);clear aA))
   go_ret
   exact ⟨by first|rfl|(simp;done),(by repeat (first|exact fl.out|apply bL|apply bX|apply bH))⟩
  | true =>
   go_enter Try.func125,Try.ntmps125
   go_wp2_with (first|(go_at_call 106;refine (anQ.out _ (by repeat (first|exact Below.refl _ _|apply bL|apply bX|apply bH))).mono ?_;rintro e w1 ⟨rfl,aA⟩;have kO:=k0 (aG (by repeat (first|exact Below.refl _ _|apply bL|apply bX|apply bH)) aA:Below w.heap.size w w1);clear aA)|(go_at_call 178;refine (ql.out _ (by repeat (first|exact kO.out|apply bL|apply bX|apply bH))).mono ?_;rintro e w2 ⟨rfl,aA⟩;have fl:=k0 (aG (by repeat (first|exact kO.out|apply bL|apply bX|apply bH)) aA:Below w.heap.size w w2);clear aA))
   go_ret
   exact ⟨by first|rfl|(simp;done),(by repeat (first|exact fl.out|apply bL|apply bX|apply bH))⟩
def amb.f (k:Nat) (af:Int) (aa:List (List Int)) (gi:Int) (alA:List (List Int)) (a2:Int) (l3:List (List Int)):Option Int :=
 (ir.f k af aa).bind fun b=>if b=true then ((Af.f gi alA a2).bind fun q=>if q=true then ((nL (fun x=>(vB.f gi alA x).map not) l3 0).bind fun i=>if 0≤i then some 2 else (amc.f k af aa).bind fun p=>if p=1 then some 0 else some 5) else some 2) else some 1
theorem amb.mono:∀ a0 a1 a2 a3 a4 a5 k,aj (amb.f k a0 a1 a2 a3 a4 a5) (amb.f (k+1) a0 a1 a2 a3 a4 a5):=by
 intro a0 a1 a2 a3 a4 a5 k
 unfold amb.f
 repeat' first
  | (with_reducible first|exact amc.mono _ _ _|exact ir.mono _ _ _|exact aj.refl _|exact aj.none _|refine aj.ite ?_ ?_|refine aj.bind ?_ (fun _=>?_))
  | exact amc.mono _ _ _|exact ir.mono _ _ _|exact aj.none _|refine aj.ite ?_ ?_|refine aj.bind ?_ (fun _=>?_)
set_option maxHeartbeats 8000000 in
set_option maxRecDepth 100000 in
theorem amb.calls {b1 b2 b3 : Nat} (k : Nat) (af : Int) (au : Option Addr) (aq : Nat) (aa : List (List Int)) (gi : Int) (iU : Option Addr) (i_ : Nat) (alA : List (List Int)) (a2 : Int) (A3 : Option Addr) (c3 : Nat) (l3 : List (List Int)) (r : Int) (w : World) (cl : Kd.C (Kd.slice 2 (Kd.int .i64)) w au aa.length aa) (cn : aa.length ≤ aq) (amW : Kd.C (Kd.slice 2 (Kd.int .i64)) w iU alA.length alA) (ank : alA.length ≤ i_) (qN : Kd.C (Kd.slice 2 (Kd.int .i64)) w A3 l3.length l3) (hc3 : l3.length ≤ c3) (hb1 : w.heap[b1]? = some (sO gi iU alA i_ 31)) (hb2 : w.heap[b2]? = some (.cells #[.int .i64 a2] 2 (0, 0))) (hb3 : w.heap[b3]? = some (.cells #[.slice A3 l3.length c3] 22 (0, 0))) (h : amb.f k af aa gi alA a2 l3 = some r) :
  Calls Try.prog 103 #[.agg #[.int .i64 af,.slice au aa.length aq],.func (.func 178) #[] #[.pointer (some ⟨b1,0,none⟩),.pointer (some ⟨b2,0,none⟩),.pointer (some ⟨b3,0,none⟩)]] w fun e w'=>e=.returned (.int .i64 r)∧Below w.heap.size w w':=by
 unfold amb.f at h
 obtain ⟨b,hb,h⟩:=Option.bind_eq_some_iff.mp h
 have key:∃ c:Int,(∀ W,Below w.heap.size w W→Calls Try.prog 125 #[.agg #[.int .i64 af,.slice au aa.length aq],.func (.func 178) #[] #[.pointer (some ⟨b1,0,none⟩),.pointer (some ⟨b2,0,none⟩),.pointer (some ⟨b3,0,none⟩)]] W fun e w'=>e=.returned (.int .i64 c)∧Below W.heap.size W w')∧((c ≠ 0∧r=c∧(c == 0)=false)∨(c=0∧∃ p,amc.f k af aa=some p∧((p=1∧r=0)∨(p ≠ 1∧r=5)))):=by
  cases b with
  | false =>
   simp only [Bool.false_eq_true,if_false,Option.some.injEq] at h
   subst h
   exact ⟨1,fun W hw=>Fq k af au aq aa false true W (Kd.bI cl hw) cn hb (fun h=>by simp at h),.inl ⟨by decide,rfl,rfl⟩⟩
  | true =>
   simp only [if_true] at h
   obtain ⟨q,hq,h⟩:=Option.bind_eq_some_iff.mp h
   cases q with
   | false =>
    simp only [Bool.false_eq_true,if_false,Option.some.injEq] at h
    subst h
    exact ⟨2,fun W hw=>Fq k af au aq aa true false W (Kd.bI cl hw) cn hb (fun _ W1 hw1=>Jl gi iU i_ alA a2 A3 c3 l3 false false W1 (Kd.bI amW (aG hw hw1)) ank (Kd.bI qN (aG hw hw1)) (alg hb1 (aG hw hw1)) (alg hb2 (aG hw hw1)) (alg hb3 (aG hw hw1)) hq (fun h=>by simp at h) (fun _=>rfl)),.inl ⟨by decide,rfl,rfl⟩⟩
   | true =>
    simp only [if_true] at h
    obtain ⟨i,hi,h⟩:=Option.bind_eq_some_iff.mp h
    by_cases h0:0≤i
    case neg =>
     rw [if_neg h0] at h
     obtain ⟨p,hp,h⟩:=Option.bind_eq_some_iff.mp h
     refine ⟨0,fun W hw=>Fq k af au aq aa true true W (Kd.bI cl hw) cn hb (fun _ W1 hw1=>Jl gi iU i_ alA a2 A3 c3 l3 true true W1 (Kd.bI amW (aG hw hw1)) ank (Kd.bI qN (aG hw hw1)) (alg hb1 (aG hw hw1)) (alg hb2 (aG hw hw1)) (alg hb3 (aG hw hw1)) hq (fun _=>⟨i,hi,by simp [h0]⟩) (fun h=>by simp at h)),.inr ⟨rfl,p,hp,?_⟩⟩
     by_cases h1:p=1
     case neg =>
      rw [if_neg h1] at h
      exact .inr ⟨h1,(Option.some.inj h).symm⟩
     rw [if_pos h1] at h
     exact .inl ⟨h1,(Option.some.inj h).symm⟩
    rw [if_pos h0] at h
    obtain rfl:=Option.some.inj h
    exact ⟨2,fun W hw=>Fq k af au aq aa true false W (Kd.bI cl hw) cn hb (fun _ W1 hw1=>Jl gi iU i_ alA a2 A3 c3 l3 true false W1 (Kd.bI amW (aG hw hw1)) ank (Kd.bI qN (aG hw hw1)) (alg hb1 (aG hw hw1)) (alg hb2 (aG hw hw1)) (alg hb3 (aG hw hw1)) hq (fun _=>⟨i,hi,by simp [h0]⟩) (fun h=>by simp at h)),.inl ⟨by decide,rfl,rfl⟩⟩
 clear h hb
 obtain ⟨c,HK,hc⟩:=key
 have anR:=k0 HK
 clear HK
 rcases hc with ⟨hc0,rfl,hcb⟩|⟨rfl,p,hp,hc⟩
 ·clear cl amW qN hb1 hb2 hb3
  have hcd:decide (r=0)=false:=by simpa using hc0
  go_enter Try.func103,Try.ntmps103
  go_wp2_with (go_at_call 125;refine (anR.out _ (by repeat (first|exact Below.refl _ _|apply bL|apply bX|apply bH))).mono ?_;rintro e w1 ⟨rfl,aA⟩;have kO:=k0 (aG (by repeat (first|exact Below.refl _ _|apply bL|apply bX|apply bH)) aA:Below w.heap.size w w1);clear aA)
  go_ret
  exact ⟨by first|rfl|(simp;done),(by repeat (first|exact kO.out|apply bL|apply bX|apply bH))⟩
 ·have HP := fun W (hw : Below w.heap.size w W) => amc.calls k af au aq aa p W (Kd.bI cl hw) cn hp
  have NB:=k0 HP
  clear HP cl amW qN hb1 hb2 hb3 hp
  rcases hc with ⟨rfl,rfl⟩|⟨h1,rfl⟩
  ·go_enter Try.func103, Try.ntmps103
   go_wp2_with (first|(go_at_call 125;refine (anR.out _ (by repeat (first|exact Below.refl _ _|apply bL|apply bX|apply bH))).mono ?_;rintro e w1 ⟨rfl,aA⟩;have kO:=k0 (aG (by repeat (first|exact Below.refl _ _|apply bL|apply bX|apply bH)) aA:Below w.heap.size w w1);have abP:w1.cell? ⟨w.heap.size,0,none⟩=some (.int .i64 af):=(aA.cell (p:=⟨w.heap.size,0,none⟩) (by simp)).trans (by go_simp);have abR:w1.cell? ⟨w.heap.size,1,none⟩=some (.slice au aa.length aq):=(aA.cell (p:=⟨w.heap.size,1,none⟩) (by simp)).trans (by go_simp);clear aA)|(go_at_call 190;refine (NB.out _ (by repeat (first|exact kO.out|apply bL|apply bX|apply bH))).mono ?_;rintro e w2 ⟨rfl,aA⟩;have fl:=k0 (aG (by repeat (first|exact kO.out|apply bL|apply bX|apply bH)) aA:Below w.heap.size w w2);clear aA))
   go_ret
   exact ⟨by first|rfl|(simp;done),(by repeat (first|exact fl.out|apply bL|apply bX|apply bH))⟩
  ·have h1b : (p == 1) = false := by simpa using h1
   go_enter Try.func103,Try.ntmps103
   go_wp2_with (first|(go_at_call 125;refine (anR.out _ (by repeat (first|exact Below.refl _ _|apply bL|apply bX|apply bH))).mono ?_;rintro e w1 ⟨rfl,aA⟩;have kO:=k0 (aG (by repeat (first|exact Below.refl _ _|apply bL|apply bX|apply bH)) aA:Below w.heap.size w w1);have abP:w1.cell? ⟨w.heap.size,0,none⟩=some (.int .i64 af):=(aA.cell (p:=⟨w.heap.size,0,none⟩) (by simp)).trans (by go_simp);have abR:w1.cell? ⟨w.heap.size,1,none⟩=some (.slice au aa.length aq):=(aA.cell (p:=⟨w.heap.size,1,none⟩) (by simp)).trans (by go_simp);clear aA)|(go_at_call 190;refine (NB.out _ (by repeat (first|exact kO.out|apply bL|apply bX|apply bH))).mono ?_;rintro e w2 ⟨rfl,aA⟩;have fl:=k0 (aG (by repeat (first|exact kO.out|apply bL|apply bX|apply bH)) aA:Below w.heap.size w w2);clear aA))
   go_ret
   exact ⟨by first|rfl|(simp;done),(by repeat (first|exact fl.out|apply bL|apply bX|apply bH))⟩
/-! ### F92: function 92 -/
def pQ.f (k:Nat) (af:Int) (aa:List (List Int)) (a1:Int) (l2:List (List Int)):Option (Int):=(amb.f k af aa af aa a1 l2).bind fun t104=>(some t104)
theorem pQ.mono:∀ a0 a1 a2 a3 k,aj (pQ.f k a0 a1 a2 a3) (pQ.f (k+1) a0 a1 a2 a3):=by
 intro a0 a1 a2 a3 k
 unfold pQ.f
 repeat' first
  | (with_reducible first|exact amb.mono _ _ _ _ _ _ _|exact aj.refl _|exact aj.none _|refine aj.ite ?_ ?_|refine aj.bind ?_ (fun _=>?_))
  | exact amb.mono _ _ _ _ _ _ _|exact aj.none _|refine aj.ite ?_ ?_|refine aj.bind ?_ (fun _=>?_)
set_option maxHeartbeats 8000000 in
set_option maxRecDepth 100000 in
theorem pQ.calls (k : Nat) (af : Int) (au : Option Addr) (aq : Nat) (aa : List (List Int)) (a1 : Int) (A2 : Option Addr) (c2 : Nat) (l2 : List (List Int)) (r : Int) (w : World) (cl : Kd.C (Kd.slice 2 (Kd.int .i64)) w au aa.length aa) (cn : aa.length ≤ aq) (lC : Kd.C (Kd.slice 2 (Kd.int .i64)) w A2 l2.length l2) (uU : l2.length ≤ c2) (h : pQ.f k af aa a1 l2 = some r) :
  Calls Try.prog 92 #[.agg #[.int .i64 af,.slice au aa.length aq],.int .i64 a1,.slice A2 l2.length c2] w fun e w'=>e=.returned (.int .i64 r)∧Below w.heap.size w w':=by
 have kF:=Try.underlying31
 have alx:=k0 cl
 have di:=k0 cn
 clear cl cn
 have yF:=k0 lC
 have amO:=k0 uU
 clear lC uU
 have HB:=k0 (Below.refl w.heap.size w)
 have H:((amb.f k af aa af aa a1 l2).bind fun t104=>(some t104))=some r:=h
 clear h
 replace H:=Option.bind_eq_some_iff.mp H
 obtain ⟨t104,jH,H⟩:=H
 replace H:(some t104)=some r:=H
 have A4:=k0 jH
 clear jH
 obtain rfl:=Option.some.inj H
 go_enter Try.func92,Try.ntmps92
 go_wp2_with (first|((with_reducible refine cy (N:=3) rfl ?_);refine ec ?hg (N:=3) ?hd (cs:=#[.int .i64 af,.slice au aa.length aq]) (t:=31) ?hr ?_;(case hd=>rfl);(case hg=>rfl);(case hr=>first|(go_simp;done)|(go_simp;rfl));intro ai hg w5 aJ hb;have ah:=k0 (aJ);have cr:=k0 ((by rw [hg];exact (aU bl):w.heap.size≤ai));have eL:=cr;replace HB:=k0 (aG bl hb);clear hb aJ hg)|((with_reducible refine cy (N:=4) rfl ?_);refine ec ?hg (N:=4) ?hd (cs:=#[.int .i64 a1]) (t:=2) ?hr ?_;(case hd=>rfl);(case hg=>rfl);(case hr=>first|(go_simp;done)|(go_simp;rfl));intro fW hg w6 aJ hb;have jJ:=k0 (aJ);have vC:=k0 ((by rw [hg];exact (aU bl):w.heap.size≤fW));have EG:=vC;replace HB:=k0 (aG bl hb);have vI:=k0 ((by rw [hg];exact Nat.ne_of_lt (alq (g:=ai) (o:=sO af au aa aq 31) bk):ai ≠ fW));have vK:=k0 ((by rw [hg];exact Nat.ne_of_gt (alq (g:=ai) (o:=sO af au aa aq 31) bk):fW ≠ ai));replace ah:=k0 (alg (g:=ai) (o:=sO af au aa aq 31) bk hb);clear hb aJ hg)|((with_reducible refine cy (N:=5) rfl ?_);refine ec ?hg (N:=5) ?hd (cs:=#[.slice A2 l2.length c2]) (t:=22) ?hr ?_;(case hd=>rfl);(case hg=>rfl);(case hr=>first|(go_simp;done)|(go_simp;rfl));intro lQ hg w7 aJ hb;have aK:=k0 (alg (g:=ai) (o:=sO af au aa aq 31) bk hb);have alf:=k0 (alg (g:=fW) (o:=.cells #[.int .i64 a1] 2 (0,0)) bk hb);have alj:=k0 (aG bl hb);have bw:=k0 (aJ);have bQ:=k0 ((by rw [hg];exact (aU bl):w.heap.size≤lQ));have bZ:=k0 ((by rw [hg];exact (aU bl):w.heap.size≤lQ));have cB:=k0 ((by rw [hg];exact Nat.ne_of_lt (alq (g:=ai) (o:=sO af au aa aq 31) bk):ai ≠ lQ));have cM:=k0 ((by rw [hg];exact Nat.ne_of_gt (alq (g:=ai) (o:=sO af au aa aq 31) bk):lQ ≠ ai));have dJ:=k0 ((by rw [hg];exact Nat.ne_of_lt (alq (g:=fW) (o:=.cells #[.int .i64 a1] 2 (0,0)) bk):fW ≠ lQ));have eX:=k0 ((by rw [hg];exact Nat.ne_of_gt (alq (g:=fW) (o:=.cells #[.int .i64 a1] 2 (0,0)) bk):lQ ≠ fW));clear ah;clear jJ;clear HB;have ah:=aK;have jJ:=alf;have HB:=alj;have ama:=bw;have U4:=bQ;have UW:=bZ;have E0:=cB;have IE:=cM;have E1:=dJ;have NU:=eX;clear aK alf alj bw bQ bZ cB cM dJ eX;clear hb aJ hg;have abI:=vI.out;have abL:=vK.out;have abJ:=E0.out;have abM:=IE.out;have wj:w7.cell? ⟨ai,0,none⟩=some (.int .i64 af):=(av ah.out 0).trans rfl;have wk:w7.cell? ⟨ai,1,none⟩=some (.slice au aa.length aq):=(av ah.out 1).trans rfl;have amG:=ale ah.out 0;have wB:=ale ah.out 1)|((with_reducible refine fo (f:=103) rfl ?_);refine fq (some 9) rfl rfl Try.func103 (by kernel_rfl) rfl #[.agg #[.int .i64 af,.slice au aa.length aq],.func (.func 178) #[] #[.pointer (some ⟨ai,0,none⟩),.pointer (some ⟨fW,0,none⟩),.pointer (some ⟨lQ,0,none⟩)]] rfl gm ?_;(with_reducible refine (amb.calls k af _ _ aa af au aq aa a1 A2 c2 l2 t104 _ ?bt ?bu ?dZ ?ez ?rO ?rP ?Eb ?Ec ?Ed A4.out).mono ?_);(case bt=>exact aC (Kd.bI alx.out HB.out));(case bu=>exact di.out);(case dZ=>exact aC (Kd.bI alx.out HB.out));(case ez=>exact di.out);(case rO=>exact aC (Kd.bI yF.out HB.out));(case rP=>exact amO.out);(case Eb=>exact by exact bk);(case Ec=>exact by exact bk);(case Ed=>exact by exact bk);rintro e eM ⟨rfl,hb⟩;refine ⟨_,rfl,?_⟩;have aK:=k0 (alg (g:=ai) (o:=sO af au aa aq 31) bk hb);have alf:=k0 (alg (g:=fW) (o:=.cells #[.int .i64 a1] 2 (0,0)) bk hb);have alj:=k0 (alg (g:=lQ) (o:=.cells #[.slice A2 l2.length c2] 22 (0,0)) bk hb);have bw:=k0 (aG bl hb);clear ah;clear jJ;clear ama;clear HB;have ah:=aK;have jJ:=alf;have ama:=alj;have HB:=bw;clear aK alf alj bw;(try clear hb)))
 go_ret
 exact ⟨by first|rfl|(simp [bA,bB]<;>rfl)|(simp [*,bA,bB]<;>rfl),bl⟩
-- NOT PRINTED: function 188 (slices_IndexFunc_int64_int64_188)
-- NOT PRINTED: function 98 (slices_ContainsFunc_int64_int64)
end Go.Proofs.Ytoebojnhchocaaa.B
/- Set with little white space, by a program. -/
