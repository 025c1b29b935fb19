/- The functions that one law reaches, each as a Lean function, and that Go's call comes to what it says. Condition of each: that the Lean function answers (is not none). -/
import Derived.Test.YtoebojnhchocaaaBx0
namespace Go.Proofs.Ytoebojnhchocaaa.B
open Go.RowKit Go.Proofs.bC.eg Go.Proofs.bC.iZ Go.Proofs.bC.jr
attribute [local go_sem] max2_int min2_int max_two min_two max_three min_three max_four min_four   -- for this text's walks alone
set_option linter.unusedVariables false
set_option linter.unusedSimpArgs false
/-! ### F227: function 227 -/
mutual
def dA.l0 : Nat → List Int → Int → Int → List (List Int) → Option (List Int)
 | 0,_,_,_,_=>none
 | k+1,x3,x4,bU,bN=>if x4 < bU then (if x3.length < 17592186044416 then (dA.l0 k (x3 ++ [x4]) (wrap64 (x4+1)) bU bN) else (none)) else (dA.l1 k x3 0 bU bN)
def dA.l1 : Nat → List Int → Int → Int → List (List Int) → Option (List Int)
 | 0,_,_,_,_=>none
 | k+1,x3,x5,bU,bN=>if x5 < (bN.length:Int) then (if 0≤x5 then (if 0 < ((ag bN x5).length:Int) then (if 0≤(rd (ag bN x5) 0) then (if (rd (ag bN x5) 0) < (x3.length:Int) then (if 1 < ((ag bN x5).length:Int) then (if 0≤(rd (ag bN x5) 1) then (if (rd (ag bN x5) 1) < (x3.length:Int) then (dA.l2 k x3 x5 (rd x3 (rd (ag bN x5) 0)) (rd x3 (rd (ag bN x5) 1)) 0 bU bN) else (none)) else (none)) else (none)) else (none)) else (none)) else (none)) else (none)) else (some x3)
def dA.l2 : Nat → List Int → Int → Int → Int → Int → Int → List (List Int) → Option (List Int)
 | 0,_,_,_,_,_,_,_=>none
 | k+1,x3,x5,x6,x7,x8,bU,bN=>if x8 < (x3.length:Int) then (if 0≤x8 then (if (rd x3 x8)=(mx x6 x7) then (dA.l2 k (x3.set (x8:Int).toNat (mn x6 x7)) x5 x6 x7 (wrap64 (x8+1)) bU bN) else (dA.l2 k x3 x5 x6 x7 (wrap64 (x8+1)) bU bN)) else (none)) else (dA.l1 k x3 (wrap64 (x5+1)) bU bN)
end
def dA.f (k:Nat) (af:Int) (aa:List (List Int)):Option (List Int):=dA.l0 k (([]:List Int)) 0 af aa
theorem dA.cj : ∀ k, (∀ y0 y1 y2 y3, aj (dA.l0 k y0 y1 y2 y3) (dA.l0 (k + 1) y0 y1 y2 y3)) ∧ (∀ y0 y1 y2 y3, aj (dA.l1 k y0 y1 y2 y3) (dA.l1 (k + 1) y0 y1 y2 y3)) ∧ (∀ y0 y1 y2 y3 y4 y5 y6, aj (dA.l2 k y0 y1 y2 y3 y4 y5 y6) (dA.l2 (k + 1) y0 y1 y2 y3 y4 y5 y6))
 | 0=>⟨fun _ _ _ _ r h=>by simp [dA.l0] at h,fun _ _ _ _ r h=>by simp [dA.l1] at h,fun _ _ _ _ _ _ _ r h=>by simp [dA.l2] at h⟩
 | k+1=>by
  obtain ⟨ali,ih1,ih2⟩:=dA.cj k
  refine ⟨?_, ?_, ?_⟩ <;> intros <;> (first | unfold dA.l0 | unfold dA.l1 | unfold dA.l2) <;> repeat' first
   | (with_reducible first|exact ali _ _ _ _|exact ih1 _ _ _ _|exact ih2 _ _ _ _ _ _ _|exact aj.refl _|exact aj.none _|refine aj.ite ?_ ?_|refine aj.bind ?_ (fun _=>?_))
   | exact ali _ _ _ _|exact ih1 _ _ _ _|exact ih2 _ _ _ _ _ _ _|exact aj.none _|refine aj.ite ?_ ?_|refine aj.bind ?_ (fun _=>?_)
theorem dA.mono:∀ a0 a1 k,aj (dA.f k a0 a1) (dA.f (k+1) a0 a1):=by
 intro a0 a1 k
 obtain ⟨ali,ih1,ih2⟩:=dA.cj k
 unfold dA.f
 repeat' first
  | (with_reducible first|exact ali _ _ _ _|exact ih1 _ _ _ _|exact ih2 _ _ _ _ _ _ _|exact aj.refl _|exact aj.none _|refine aj.ite ?_ ?_|refine aj.bind ?_ (fun _=>?_))
  | exact ali _ _ _ _|exact ih1 _ _ _ _|exact ih2 _ _ _ _ _ _ _|exact aj.none _|refine aj.ite ?_ ?_|refine aj.bind ?_ (fun _=>?_)
set_option maxHeartbeats 8000000 in
set_option maxRecDepth 100000 in
theorem dA.calls (k : Nat) (af : Int) (au : Option Addr) (aq : Nat) (aa : List (List Int)) (r : List Int) (w : World) (cl : Kd.C (Kd.slice 2 (Kd.int .i64)) w au aa.length aa) (cn : aa.length ≤ aq) (h : dA.f k af aa = some r) :
  Calls Try.prog 227 #[.agg #[.int .i64 af,.slice au aa.length aq]] w fun e w'=>∃ cF:Value,e=.returned (cF)∧Kd.R (Kd.int .i64) 2 w' w.heap.size (fun _=>True) cF r∧Below w.heap.size w w':=by
 have kF:=Try.underlying31
 have alx:=k0 cl
 have di:=k0 cn
 clear cl cn
 have HB:=k0 (Below.refl w.heap.size w)
 have H:(dA.l0 k (([]:List Int)) 0 af aa)=some r:=h
 clear h
 obtain ⟨eT,eH⟩:∃ y_:List Int,y_=(([]:List Int)):=⟨_,rfl⟩
 replace H:(dA.l0 k eT 0 af aa)=some r:=by first|(rw [eH];with_reducible exact H)|(have ax:=(Option.bind_some _ _).symm.trans H;rw [eH];with_reducible exact ax)|(have ax:=(Option.bind_some _ _).symm.trans H;with_reducible exact ax)|with_reducible exact H|(rw [eH];exact H)|exact H
 have alG:=k0 eH
 clear eH
 have H':=k0 H
 clear H
 go_enter Try.func227,Try.ntmps227
 go_wp2_with (first|((with_reducible refine cy (N:=1) rfl ?_);refine ec ?hg (N:=1) ?hd (cs:=#[.int .i64 af,.slice au aa.length aq]) (t:=31) ?hr ?_;(case hd=>rfl);(case hg=>rfl);(case hr=>first|(go_simp;done)|(go_simp;rfl));intro ai hg w2 aJ hb;have ah:=k0 (aJ);have cr:=k0 ((by rw [hg];exact (aU bl):w.heap.size≤ai));have eL:=cr;replace HB:=k0 (aG bl hb);clear hb aJ hg)|((with_reducible refine cy (N:=9) rfl ?_);refine Kd.pT (Kd.int .i64) _ 2 ?hg (N:=9) ?hd (xs:=([]:List Int)) (inner:=[]) (ok:=fun _=>True) (cC:=fun _=>True) ?hr ?hp (fun _ hk=>hk) trivial (Below.refl _ _) (Nat.le_refl _) (by simp) ?_;(case hd=>rfl);(case hg=>rfl);(case hr=>first|(go_simp;done)|(go_simp;rfl));(case hp=>exact (bY.none _ _));intro dw w3 ek hb ew ey;clear ew ey;(first|rw [← alG.out] at ek|(simp only [Int.reduceToNat] at ek;rw [← alG.out] at ek));have a_:=k0 (Kd.d_ ek (aU bl));replace ah:=k0 (alg (g:=ai) (o:=sO af au aa aq 31) bk hb);replace HB:=k0 (aG bl hb);clear hb ek))
 repeat (go_quiet (first|((with_reducible refine cy (N:=1) rfl ?_);refine ec ?hg (N:=1) ?hd (cs:=#[.int .i64 af,.slice au aa.length aq]) (t:=31) ?hr ?_;(case hd=>rfl);(case hg=>rfl);(case hr=>first|(go_simp;done)|(go_simp;rfl));intro ai hg w2 aJ hb;have ah:=k0 (aJ);have cr:=k0 ((by rw [hg];exact (aU bl):w.heap.size≤ai));have eL:=cr;replace HB:=k0 (aG bl hb);clear hb aJ hg)|((with_reducible refine cy (N:=9) rfl ?_);refine Kd.pT (Kd.int .i64) _ 2 ?hg (N:=9) ?hd (xs:=([]:List Int)) (inner:=[]) (ok:=fun _=>True) (cC:=fun _=>True) ?hr ?hp (fun _ hk=>hk) trivial (Below.refl _ _) (Nat.le_refl _) (by simp) ?_;(case hd=>rfl);(case hg=>rfl);(case hr=>first|(go_simp;done)|(go_simp;rfl));(case hp=>exact (bY.none _ _));intro dw w3 ek hb ew ey;clear ew ey;(first|rw [← alG.out] at ek|(simp only [Int.reduceToNat] at ek;rw [← alG.out] at ek));have a_:=k0 (Kd.d_ ek (aU bl));replace ah:=k0 (alg (g:=ai) (o:=sO af au aa aq 31) bk hb);replace HB:=k0 (aG bl hb);clear hb ek));try go_wp2_with (first|((with_reducible refine cy (N:=1) rfl ?_);refine ec ?hg (N:=1) ?hd (cs:=#[.int .i64 af,.slice au aa.length aq]) (t:=31) ?hr ?_;(case hd=>rfl);(case hg=>rfl);(case hr=>first|(go_simp;done)|(go_simp;rfl));intro ai hg w2 aJ hb;have ah:=k0 (aJ);have cr:=k0 ((by rw [hg];exact (aU bl):w.heap.size≤ai));have eL:=cr;replace HB:=k0 (aG bl hb);clear hb aJ hg)|((with_reducible refine cy (N:=9) rfl ?_);refine Kd.pT (Kd.int .i64) _ 2 ?hg (N:=9) ?hd (xs:=([]:List Int)) (inner:=[]) (ok:=fun _=>True) (cC:=fun _=>True) ?hr ?hp (fun _ hk=>hk) trivial (Below.refl _ _) (Nat.le_refl _) (by simp) ?_;(case hd=>rfl);(case hg=>rfl);(case hr=>first|(go_simp;done)|(go_simp;rfl));(case hp=>exact (bY.none _ _));intro dw w3 ek hb ew ey;clear ew ey;(first|rw [← alG.out] at ek|(simp only [Int.reduceToNat] at ek;rw [← alG.out] at ek));have a_:=k0 (Kd.d_ ek (aU bl));replace ah:=k0 (alg (g:=ai) (o:=sO af au aa aq 31) bk hb);replace HB:=k0 (aG bl hb);clear hb ek)))
 go_loopg [3,4] k (fun kq v3 v4 w'=>∃ (bE:List Int) (aZ:Int),v4=.int .i64 aZ∧ak (dA.l0 kq bE aZ af aa=some r)∧ak (kq≤k)∧ak (Kd.R (Kd.int .i64) 2 w' w.heap.size (fun _=>True) v3 bE)∧ak (w'.heap[ai]?=some (sO af au aa aq 31))∧ak (Below w.heap.size w w'))
 case atStart=>exact ⟨(eT),(0),rs,H',⟨Nat.le_refl _⟩,⟨aR (a_.out)⟩,⟨bk⟩,⟨bl⟩⟩
 case round =>
  clear H'
  obtain ⟨bE,aZ,rfl,HA,aM,az,ah,HB⟩:=hrel
  cases gk with
  | zero=>exact absurd HA.out (by simp [dA.l0])
  | succ k1 =>
   have H:=HA.out
   clear HA
   simp only [dA.l0] at H
   by_cases c5:aZ < af
   case neg =>
    rw [if_neg c5] at H
    have jb:decide (aZ < af)=false:=decide_eq_false c5
    clear c5
    have H':=k0 H
    clear H
    have tC:wr.cell? ⟨ai,0,none⟩=some (.int .i64 af):=(av ah.out 0).trans rfl
    have tD:wr.cell? ⟨ai,1,none⟩=some (.slice au aa.length aq):=(av ah.out 1).trans rfl
    have amx:=ale ah.out 0
    have tH:=ale ah.out 1
    go_wp2
    repeat (go_quiet (fail);try go_wp2)
    go_loopg [5] k1 (fun kq v5 w'=>∃ (ald:List Int) (alk:Int),v5=.int .i64 alk∧ak (dA.l1 kq ald alk af aa=some r)∧ak (kq≤k1)∧ak (Kd.R (Kd.int .i64) 2 w' w.heap.size (fun _=>True) u3 ald)∧ak (w'.heap[ai]?=some (sO af au aa aq 31))∧ak (Below w.heap.size w w'))
    case atStart=>exact ⟨(bE),(0),rs,H',⟨Nat.le_refl _⟩,⟨aR (az.out)⟩,⟨bk⟩,⟨bl⟩⟩
    case round =>
     clear H'
     (try clear c5);(try clear jb);(try clear c6);(try clear sq);(try clear sr);(try clear tC);(try clear tD);(try clear sx);(try clear sy);(try clear amx);(try clear tH)
     obtain ⟨ald,alk,rfl,HA,bp,az,ah,HB⟩:=hrel
     cases gk with
     | zero=>exact absurd HA.out (by simp [dA.l1])
     | succ k2 =>
      have H:=HA.out
      clear HA
      simp only [dA.l1] at H
      by_cases c10:alk < (aa.length:Int)
      case neg =>
       rw [if_neg c10] at H
       have lA:decide (alk < (aa.length:Int))=false:=decide_eq_false c10
       clear c10
       obtain rfl:=Option.some.inj H
       have ahT:wr.cell? ⟨ai,0,none⟩=some (.int .i64 af):=(av ah.out 0).trans rfl
       have ahU:wr.cell? ⟨ai,1,none⟩=some (.slice au aa.length aq):=(av ah.out 1).trans rfl
       have aip:=ale ah.out 0
       have aiq:=ale ah.out 1
       go_wp2
       repeat (go_quiet (fail);try go_wp2)
       go_ret
       exact ⟨_,by first|rfl|(simp [bA,bB]<;>rfl)|(simp [*,bA,bB]<;>rfl),by (with_reducible repeat (first|apply Kd.bO|apply Kd.bR|apply Kd.alp));exact az.out,bl⟩
      rw [if_pos c10] at H
      have lA:=decide_eq_true c10
      clear c10
      replace H:=iS H;obtain ⟨c11,H⟩:=H
      have l_:=decide_eq_true c11
      clear c11
      replace H:=iS H;obtain ⟨c12,H⟩:=H
      have r7:=decide_eq_true c12
      have AM:decide (0 < (ag aa alk).length)=true:=decide_eq_true (by omega)
      clear c12
      replace H:=iS H;obtain ⟨c13,H⟩:=H
      have kU:=decide_eq_true c13
      clear c13
      replace H:=iS H;obtain ⟨c14,H⟩:=H
      have kC:=decide_eq_true c14
      clear c14
      replace H:=iS H;obtain ⟨c15,H⟩:=H
      have kV:=decide_eq_true c15
      have r8:decide (1 < (ag aa alk).length)=true:=decide_eq_true (by omega)
      clear c15
      replace H:=iS H;obtain ⟨c16,H⟩:=H
      have rm:=decide_eq_true c16
      clear c16
      replace H:=iS H;obtain ⟨c17,H⟩:=H
      have pF:=decide_eq_true c17
      clear c17
      have H':=k0 H
      clear H
      have CW:wr.cell? ⟨ai,0,none⟩=some (.int .i64 af):=(av ah.out 0).trans rfl
      have CX:wr.cell? ⟨ai,1,none⟩=some (.slice au aa.length aq):=(av ah.out 1).trans rfl
      have C1:=ale ah.out 0
      have C2:=ale ah.out 1
      have ef:0≤(alk:Int):=oD
      have dS:alk < (aa.length:Int):=oD
      obtain ⟨al1,Ey,Fj,e108,fu,tQ,tK⟩:=cZ alx.out alk ef dS
      cases e108
      replace fu:=hbc HB fu
      have Ap:=k0 tK
      have HJ:=k0 tQ
      clear tK tQ
      replace ef:=eq_true ef
      replace dS:=eq_true dS
      have eD:0≤(0:Int):=(by omega)
      have er:0 < ((ag aa alk).length:Int):=oD
      obtain ⟨lK,e109,alI⟩:=Kd.bS Ap.out 0 eD er
      cases e109
      have akl:(0 < (ag aa alk).length)=True:=eq_true (by omega)
      (try rw [show ((0:Int)).toNat=0 from rfl] at alI)
      (try rw [Addr.add_zero'] at alI)
      replace alI:=hbc HB alI
      replace eD:=eq_true eD
      replace er:=eq_true er
      obtain ⟨amK,ru,xE⟩:=Kd.fh az.out
      subst xE
      obtain ⟨nJ,Yk,Cu,CA,JR,X6,BV⟩:=Kd.kT az.out (by have dO:0≤((rd (ag aa alk) 0):Int):=oD;have jc:((rd (ag aa alk) 0):Int) < ((ald.length:Int):Int):=oD;omega)
      (first|cases Cu|(injection Cu with aW aly c_;(first|subst aW|(injection aW with aW;subst aW));subst c_;clear aly))
      have BP:=k0 CA
      have Nb:=k0 BV
      clear CA JR BV
      have jE:0≤((rd (ag aa alk) 0):Int):=oD
      have jF:(rd (ag aa alk) 0) < (ald.length:Int):=oD
      obtain ⟨lf,e110,kG⟩:=Kd.bS (Kd.bn az.out).2.2 (rd (ag aa alk) 0) jE jF
      obtain rfl:(⟨nJ,0,none⟩:Addr)=lf:=(by injection e110)
      (first|simp only [add_plain] at kG|simp only [lN] at kG|simp only [Addr.add,Nat.zero_add] at kG|skip)
      replace jE:=eq_true jE
      replace jF:=eq_true jF
      have gw:0≤(alk:Int):=oD
      have gy:alk < (aa.length:Int):=oD
      obtain ⟨mP,Ez,Fl,e111,gX,amT,amQ⟩:=cZ alx.out alk gw gy
      obtain rfl:al1=mP:=(by injection e111)
      replace gX:=hbc HB gX
      have xj:=k0 amQ
      have anM:=k0 amT
      clear amQ amT
      replace gw:=eq_true gw
      replace gy:=eq_true gy
      have aW:=Option.some.inj (fu.symm.trans gX)
      injection aW with aW aly c_
      subst aW
      subst c_
      clear aly
      have oI:0≤(1:Int):=(by omega)
      have oJ:1 < ((ag aa alk).length:Int):=oD
      obtain ⟨yQ,e112,lD⟩:=Kd.bS xj.out 1 oI oJ
      obtain rfl:lK=yQ:=(by injection e112)
      (try simp only [show (1:Int).toNat=1 from rfl,Nat.reduceMul,Nat.reduceEqDiff,Go.Addr.add,↓reduceIte] at lD)
      have ad_:(1 < (ag aa alk).length)=True:=eq_true (by omega)
      (try rw [show ((1:Int)).toNat=1 from rfl] at lD)
      replace lD:=hbc HB lD
      replace oI:=eq_true oI
      replace oJ:=eq_true oJ
      have nP:0≤((rd (ag aa alk) 1):Int):=oD
      have nR:(rd (ag aa alk) 1) < (ald.length:Int):=oD
      obtain ⟨yR,e113,mV⟩:=Kd.bS (Kd.bn az.out).2.2 (rd (ag aa alk) 1) nP nR
      obtain rfl:(⟨nJ,0,none⟩:Addr)=yR:=(by injection e113)
      (first|simp only [add_plain] at mV|simp only [lN] at mV|simp only [Addr.add,Nat.zero_add] at mV|skip)
      replace nP:=eq_true nP
      replace nR:=eq_true nR
      go_wp2
      repeat (go_quiet (fail);try go_wp2)
      go_loopg [8] k2 (fun kq v8 w'=>∃ (lq:List Int) (aln:Int),v8=.int .i64 aln∧ak (dA.l2 kq lq alk (rd ald (rd (ag aa alk) 0)) (rd ald (rd (ag aa alk) 1)) aln af aa=some r)∧ak (kq≤k2)∧ak (Kd.R (Kd.int .i64) 2 w' w.heap.size (fun _=>True) (.slice (some ⟨nJ,0,none⟩) ald.length ru) lq)∧ak (w'.heap[ai]?=some (sO af (some al1) aa aq 31))∧ak (Below w.heap.size w w'))
      case atStart=>exact ⟨(ald),(0),rs,H',⟨Nat.le_refl _⟩,⟨aR (az.out)⟩,⟨bk⟩,⟨bl⟩⟩
      case round =>
       clear H'
       (try clear c5);(try clear jb);(try clear c6);(try clear c10);(try clear lA);(try clear c11);(try clear l_);(try clear c12);(try clear r7);(try clear AM);(try clear c13);(try clear kU);(try clear c14);(try clear kC);(try clear c15);(try clear kV);(try clear r8);(try clear c16);(try clear rm);(try clear c17);(try clear pF);(try clear CW);(try clear CX);(try clear sq);(try clear sr);(try clear tC);(try clear tD);(try clear C1);(try clear C2);(try clear sx);(try clear sy);(try clear amx);(try clear tH);(try clear fu);(try clear alI);(try clear kG);(try clear gX);(try clear lD);(try clear mV);(try clear ef);(try clear eD);(try clear jE);(try clear gw);(try clear oI);(try clear nP);(try clear dS);(try clear er);(try clear jF);(try clear gy);(try clear oJ);(try clear nR)
       obtain ⟨lq,aln,rfl,HA,dn,az,ah,HB⟩:=hrel
       have qJ:=(Kd.bn az.out).1
       rw [qJ] at az
       (try simp only [qJ])
       (try simp only [qJ] at ah)
       cases gk with
       | zero=>exact absurd HA.out (by simp [dA.l2])
       | succ k3 =>
        have H:=HA.out
        clear HA
        simp only [dA.l2] at H
        by_cases c21:aln < (lq.length:Int)
        case neg =>
         rw [if_neg c21] at H
         have uQ:decide (aln < (lq.length:Int))=false:=decide_eq_false c21
         (try simp only [qJ] at uQ)
         clear c21
         have H':=k0 H
         clear H
         go_wp2
         repeat (go_quiet (fail);try go_wp2)
         (try simp only [← qJ])
         first|go_roundg k3|(simp only [← tM];go_roundg k3)|(simp only [← tN];go_roundg k3)
         case measure=>have:=aM.out;have:=bp.out;have:=dn.out;omega
         case rel=>exact ⟨(lq),(wrap64 (alk+1)),rs,(by first|exact H'|(rw [tM];exact H')|(rw [tN];exact H')),⟨by have:=aM.out;have:=bp.out;have:=dn.out;omega⟩,⟨by (try simp only [qJ]);(with_reducible repeat (first|apply Kd.bO|apply Kd.bR|apply Kd.alp));exact az.out⟩,⟨by (try simp only [qJ]);exact bk⟩,⟨bl⟩⟩
        rw [if_pos c21] at H
        have uQ:=decide_eq_true c21
        (try simp only [qJ] at uQ)
        clear c21
        replace H:=iS H;obtain ⟨c22,H⟩:=H
        have rq:=decide_eq_true c22
        clear c22
        obtain ⟨zM,tM⟩:∃ j_:Int,(mx (rd ald (rd (ag aa alk) 0)) (rd ald (rd (ag aa alk) 1)))=j_:=⟨_,rfl⟩
        replace H:(if (rd lq aln)=(zM) then (dA.l2 k3 (lq.set (aln:Int).toNat (mn (rd ald (rd (ag aa alk) 0)) (rd ald (rd (ag aa alk) 1)))) alk (rd ald (rd (ag aa alk) 0)) (rd ald (rd (ag aa alk) 1)) (wrap64 (aln+1)) af aa) else (dA.l2 k3 lq alk (rd ald (rd (ag aa alk) 0)) (rd ald (rd (ag aa alk) 1)) (wrap64 (aln+1)) af aa))=some r:=by first|(rw [tM] at H;exact H)|(simp only [tM] at H ⊢;exact H)
        have aiA:(if (rd ald (rd (ag aa alk) 0)) < (rd ald (rd (ag aa alk) 1)) then (rd ald (rd (ag aa alk) 1)) else (rd ald (rd (ag aa alk) 0)))=zM:=tM
        by_cases c24:(rd lq aln)=(zM)
        case neg =>
         rw [if_neg c24] at H
         have uR:((rd lq aln) == (zM))=false:=beq_eq_false_iff_ne.mpr c24
         have XC:((rd lq aln) != (zM))=true:=bne_iff_ne.mpr c24
         have H':=k0 H
         clear H
         have iH:0≤(aln:Int):=oD
         have iI:aln < (lq.length:Int):=oD
         obtain ⟨lM,e114,je⟩:=Kd.bS (Kd.bn az.out).2.2 aln iH iI
         obtain rfl:(⟨nJ,0,none⟩:Addr)=lM:=(by injection e114)
         (first|simp only [add_plain] at je|simp only [lN] at je|simp only [Addr.add,Nat.zero_add] at je|skip)
         replace iH:=eq_true iH
         replace iI:=eq_true iI
         go_wp2
         repeat (go_quiet (fail);try go_wp2)
         (try simp only [← qJ])
         first|go_roundg k3|(simp only [← tM];go_roundg k3)|(simp only [← tN];go_roundg k3)
         case measure=>have:=aM.out;have:=bp.out;have:=dn.out;omega
         case rel=>exact ⟨(lq),(wrap64 (aln+1)),rs,(by first|exact H'|(rw [tM];exact H')|(rw [tN];exact H')),⟨by have:=aM.out;have:=bp.out;have:=dn.out;omega⟩,⟨by (try simp only [qJ]);(with_reducible repeat (first|apply Kd.bO|apply Kd.bR|apply Kd.alp));exact az.out⟩,⟨by (try simp only [qJ]);exact bk⟩,⟨bl⟩⟩
        rw [if_pos c24] at H
        have uR:((rd lq aln) == (zM))=true:=beq_iff_eq.mpr c24
        have XC:((rd lq aln) != (zM))=false:=bne_eq_false_iff_eq.mpr c24
        clear c24
        obtain ⟨uX,tN⟩:∃ j_:Int,(mn (rd ald (rd (ag aa alk) 0)) (rd ald (rd (ag aa alk) 1)))=j_:=⟨_,rfl⟩
        replace H:(dA.l2 k3 (lq.set (aln:Int).toNat (uX)) alk (rd ald (rd (ag aa alk) 0)) (rd ald (rd (ag aa alk) 1)) (wrap64 (aln+1)) af aa)=some r:=by first|(rw [tN] at H;exact H)|(simp only [tN] at H ⊢;exact H)
        have aiB:(if (rd ald (rd (ag aa alk) 1)) < (rd ald (rd (ag aa alk) 0)) then (rd ald (rd (ag aa alk) 1)) else (rd ald (rd (ag aa alk) 0)))=uX:=tN
        obtain ⟨dU,gq⟩:∃ y_:List Int,y_=(lq.set (aln:Int).toNat (uX)):=⟨_,rfl⟩
        replace H:(dA.l2 k3 dU alk (rd ald (rd (ag aa alk) 0)) (rd ald (rd (ag aa alk) 1)) (wrap64 (aln+1)) af aa)=some r:=by first|(rw [gq];with_reducible exact H)|(have ax:=(Option.bind_some _ _).symm.trans H;rw [gq];with_reducible exact ax)|(have ax:=(Option.bind_some _ _).symm.trans H;with_reducible exact ax)|with_reducible exact H|(rw [gq];exact H)|exact H
        have mK:=k0 gq
        clear gq
        have H':=k0 H
        clear H
        have iH:0≤(aln:Int):=oD
        have iI:aln < (lq.length:Int):=oD
        obtain ⟨lM,e114,je⟩:=Kd.bS (Kd.bn az.out).2.2 aln iH iI
        obtain rfl:(⟨nJ,0,none⟩:Addr)=lM:=(by injection e114)
        (first|simp only [add_plain] at je|simp only [lN] at je|simp only [Addr.add,Nat.zero_add] at je|skip)
        replace iH:=eq_true iH
        replace iI:=eq_true iI
        have LB:0≤(aln:Int):=oD
        have LS:(aln:Int) < ((lq.length:Int):Int):=oD
        obtain ⟨aj7,ah1⟩:=Kd.js 0 az.out (aln:Int) LB LS
        replace LB:=eq_true LB
        replace LS:=eq_true LS
        have rW:=Kd.kr az.out (aln:Int) uX
        go_wp2_with (first|((with_reducible refine kW (t:=2) (p:=66) rfl ?_);(try (rw [anc wr];generalize jc:World.drewN wr _=wr;have aK:=k0 (Kd.Aw jc az.out);have alf:=k0 (AK jc ah.out);have alj:=k0 (AJ jc HB.out);clear jc az ah HB;have az:=aK;have ah:=alf;have HB:=alj;clear aK alf alj;(try (have rW:=Kd.kr az.out (aln:Int) uX))));refine alT (t:=2) (p:=66) (v:=?TK) (w1:=(wr.setCell ⟨nJ,(aln:Int).toNat,none⟩ (.int .i64 uX))) ?hg ?ho ?hn ?hr ?_;(case ho=>rfl);(case hg=>rfl);(case hn=>rfl);(case hr=>first|(go_simp;done)|(go_simp;rfl));intro oP hw;have hg:wr.grownBy oP (some nJ):=(by rw [hw];exact rW.2);have dO:Kd.R (Kd.int .i64) 2 oP w.heap.size (fun _=>True) (.slice (some ⟨nJ,0,none⟩) lq.length ru) dU:=(by rw [hw,mK.out];exact rW.1);clear rW;replace ah:=k0 (jv (g:=ai) (o:=sO af (some al1) aa aq 31) bk hg (Kd.iG az.out ah.out (by decide)));replace az:=k0 (dO);replace HB:=k0 ((by rw [hw];exact dI (HB.out) BP.out:Below w.heap.size w oP));clear hg hw dO))
        repeat (go_quiet (first|((with_reducible refine kW (t:=2) (p:=66) rfl ?_);(try (rw [anc wr];generalize jc:World.drewN wr _=wr;have aK:=k0 (Kd.Aw jc az.out);have alf:=k0 (AK jc ah.out);have alj:=k0 (AJ jc HB.out);clear jc az ah HB;have az:=aK;have ah:=alf;have HB:=alj;clear aK alf alj;(try (have rW:=Kd.kr az.out (aln:Int) uX))));refine alT (t:=2) (p:=66) (v:=?TK) (w1:=(wr.setCell ⟨nJ,(aln:Int).toNat,none⟩ (.int .i64 uX))) ?hg ?ho ?hn ?hr ?_;(case ho=>rfl);(case hg=>rfl);(case hn=>rfl);(case hr=>first|(go_simp;done)|(go_simp;rfl));intro oP hw;have hg:wr.grownBy oP (some nJ):=(by rw [hw];exact rW.2);have dO:Kd.R (Kd.int .i64) 2 oP w.heap.size (fun _=>True) (.slice (some ⟨nJ,0,none⟩) lq.length ru) dU:=(by rw [hw,mK.out];exact rW.1);clear rW;replace ah:=k0 (jv (g:=ai) (o:=sO af (some al1) aa aq 31) bk hg (Kd.iG az.out ah.out (by decide)));replace az:=k0 (dO);replace HB:=k0 ((by rw [hw];exact dI (HB.out) BP.out:Below w.heap.size w oP));clear hg hw dO));try go_wp2_with (first|((with_reducible refine kW (t:=2) (p:=66) rfl ?_);(try (rw [anc wr];generalize jc:World.drewN wr _=wr;have aK:=k0 (Kd.Aw jc az.out);have alf:=k0 (AK jc ah.out);have alj:=k0 (AJ jc HB.out);clear jc az ah HB;have az:=aK;have ah:=alf;have HB:=alj;clear aK alf alj;(try (have rW:=Kd.kr az.out (aln:Int) uX))));refine alT (t:=2) (p:=66) (v:=?TK) (w1:=(wr.setCell ⟨nJ,(aln:Int).toNat,none⟩ (.int .i64 uX))) ?hg ?ho ?hn ?hr ?_;(case ho=>rfl);(case hg=>rfl);(case hn=>rfl);(case hr=>first|(go_simp;done)|(go_simp;rfl));intro oP hw;have hg:wr.grownBy oP (some nJ):=(by rw [hw];exact rW.2);have dO:Kd.R (Kd.int .i64) 2 oP w.heap.size (fun _=>True) (.slice (some ⟨nJ,0,none⟩) lq.length ru) dU:=(by rw [hw,mK.out];exact rW.1);clear rW;replace ah:=k0 (jv (g:=ai) (o:=sO af (some al1) aa aq 31) bk hg (Kd.iG az.out ah.out (by decide)));replace az:=k0 (dO);replace HB:=k0 ((by rw [hw];exact dI (HB.out) BP.out:Below w.heap.size w oP));clear hg hw dO)))
        (try simp only [← qJ])
        first|go_roundg k3|(simp only [← tM];go_roundg k3)|(simp only [← tN];go_roundg k3)
        case measure=>have:=aM.out;have:=bp.out;have:=dn.out;omega
        case rel=>exact ⟨(dU),(wrap64 (aln+1)),rs,(by first|exact H'|(rw [tM];exact H')|(rw [tN];exact H')),⟨by have:=aM.out;have:=bp.out;have:=dn.out;omega⟩,⟨by (try simp only [qJ]);(with_reducible repeat (first|apply Kd.bO|apply Kd.bR|apply Kd.alp));exact az.out⟩,⟨by (try simp only [qJ]);exact bk⟩,⟨bl⟩⟩
   rw [if_pos c5] at H
   have jb:=decide_eq_true c5
   clear c5
   replace H:=iS H;obtain ⟨c6,H⟩:=H
   have IA:=k0 c6
   clear c6
   obtain ⟨jn,alC⟩:∃ y_:List Int,y_=(bE ++ [aZ]):=⟨_,rfl⟩
   replace H:(dA.l0 k1 jn (wrap64 (aZ+1)) af aa)=some r:=by first|(rw [alC];with_reducible exact H)|(have ax:=(Option.bind_some _ _).symm.trans H;rw [alC];with_reducible exact ax)|(have ax:=(Option.bind_some _ _).symm.trans H;with_reducible exact ax)|with_reducible exact H|(rw [alC];exact H)|exact H
   have lJ:=k0 alC
   clear alC
   have H':=k0 H
   clear H
   have sq:wr.cell? ⟨ai,0,none⟩=some (.int .i64 af):=(av ah.out 0).trans rfl
   have sr:wr.cell? ⟨ai,1,none⟩=some (.slice au aa.length aq):=(av ah.out 1).trans rfl
   have sx:=ale ah.out 0
   have sy:=ale ah.out 1
   go_wp2_with (first|((with_reducible refine pI (b:=.append) (xs:=#[.tmp 16,.tmp 18]) rfl ?_);at_builtin;refine Kd.uL (Kd.int .i64) (w0:=w) w.heap.size rfl (.tmp 16) (.tmp 18) 28 2 (.int .i64 0) 8 rfl Try.underlying28 lF rfl (by decide) (by omega) u3 bE aZ [.int .i64 aZ] (fun _=>True) (fun _=>False) rfl rfl ?aP (fun _ hk=>hk.elim) ?aF ?aO ?aB ?aS ?aL ?_;(case aP=>exact rfl);(case aB=>exact bl);(case aF=>exact (fun _ _=>trivial));(case aO=>exact (aR az.out));(case aS=>exact (aU bl));(case aL=>have:=IA.out;omega);intro gj w8 ho hb hg cz;rw [← lJ.out] at ho;have aK:=k0 (jv (g:=ai) (o:=sO af au aa aq 31) bk hg (Kd.iG az.out ah.out (by decide)));have alf:=k0 (hb);have alj:=k0 (ho);clear ah;clear HB;clear az;have ah:=aK;have HB:=alf;have cO:=alj;clear aK alf alj;clear ho hb hg cz))
   repeat (go_quiet (first|((with_reducible refine pI (b:=.append) (xs:=#[.tmp 16,.tmp 18]) rfl ?_);at_builtin;refine Kd.uL (Kd.int .i64) (w0:=w) w.heap.size rfl (.tmp 16) (.tmp 18) 28 2 (.int .i64 0) 8 rfl Try.underlying28 lF rfl (by decide) (by omega) u3 bE aZ [.int .i64 aZ] (fun _=>True) (fun _=>False) rfl rfl ?aP (fun _ hk=>hk.elim) ?aF ?aO ?aB ?aS ?aL ?_;(case aP=>exact rfl);(case aB=>exact bl);(case aF=>exact (fun _ _=>trivial));(case aO=>exact (aR az.out));(case aS=>exact (aU bl));(case aL=>have:=IA.out;omega);intro gj w8 ho hb hg cz;rw [← lJ.out] at ho;have aK:=k0 (jv (g:=ai) (o:=sO af au aa aq 31) bk hg (Kd.iG az.out ah.out (by decide)));have alf:=k0 (hb);have alj:=k0 (ho);clear ah;clear HB;clear az;have ah:=aK;have HB:=alf;have cO:=alj;clear aK alf alj;clear ho hb hg cz));try go_wp2_with (first|((with_reducible refine pI (b:=.append) (xs:=#[.tmp 16,.tmp 18]) rfl ?_);at_builtin;refine Kd.uL (Kd.int .i64) (w0:=w) w.heap.size rfl (.tmp 16) (.tmp 18) 28 2 (.int .i64 0) 8 rfl Try.underlying28 lF rfl (by decide) (by omega) u3 bE aZ [.int .i64 aZ] (fun _=>True) (fun _=>False) rfl rfl ?aP (fun _ hk=>hk.elim) ?aF ?aO ?aB ?aS ?aL ?_;(case aP=>exact rfl);(case aB=>exact bl);(case aF=>exact (fun _ _=>trivial));(case aO=>exact (aR az.out));(case aS=>exact (aU bl));(case aL=>have:=IA.out;omega);intro gj w8 ho hb hg cz;rw [← lJ.out] at ho;have aK:=k0 (jv (g:=ai) (o:=sO af au aa aq 31) bk hg (Kd.iG az.out ah.out (by decide)));have alf:=k0 (hb);have alj:=k0 (ho);clear ah;clear HB;clear az;have ah:=aK;have HB:=alf;have cO:=alj;clear aK alf alj;clear ho hb hg cz)))
   first|go_roundg k1|(simp only [← tM];go_roundg k1)|(simp only [← tN];go_roundg k1)
   case measure=>have:=aM.out;omega
   case rel=>exact ⟨(jn),(wrap64 (aZ+1)),rs,(by first|exact H'|(rw [tM];exact H')|(rw [tN];exact H')),⟨by have:=aM.out;omega⟩,⟨aR (cO.out)⟩,⟨bk⟩,⟨bl⟩⟩
/-! ### F189: function 189 -/
def iK.l0 : Nat → List Int → Int → Int → Option (Int)
 | 0,_,_,_=>none
 | k+1,x3,x4,x5=>if x5 < (x3.length:Int) then (if 0≤x5 then (if (rd x3 x5)=x5 then (iK.l0 k x3 (wrap64 (x4+1)) (wrap64 (x5+1))) else (iK.l0 k x3 x4 (wrap64 (x5+1)))) else (none)) else (some x4)
def iK.f (k:Nat) (af:Int) (aa:List (List Int)):Option (Int):=(dA.f k af aa).bind fun t102=>(iK.l0 k t102 0 0)
theorem iK.cj : ∀ k, (∀ y0 y1 y2, aj (iK.l0 k y0 y1 y2) (iK.l0 (k + 1) y0 y1 y2))
 | 0=>fun _ _ _ r h=>by simp [iK.l0] at h
 | k+1=>by
  have ali:=iK.cj k
  ·intro y0 y1 y2
   unfold iK.l0
   repeat' first
    | (with_reducible first|exact ali _ _ _|exact dA.mono _ _ _|exact aj.refl _|exact aj.none _|refine aj.ite ?_ ?_|refine aj.bind ?_ (fun _=>?_))
    | exact ali _ _ _|exact dA.mono _ _ _|exact aj.none _|refine aj.ite ?_ ?_|refine aj.bind ?_ (fun _=>?_)
theorem iK.mono:∀ a0 a1 k,aj (iK.f k a0 a1) (iK.f (k+1) a0 a1):=by
 intro a0 a1 k
 have ali:=iK.cj k
 unfold iK.f
 repeat' first
  | (with_reducible first|exact ali _ _ _|exact dA.mono _ _ _|exact aj.refl _|exact aj.none _|refine aj.ite ?_ ?_|refine aj.bind ?_ (fun _=>?_))
  | exact ali _ _ _|exact dA.mono _ _ _|exact aj.none _|refine aj.ite ?_ ?_|refine aj.bind ?_ (fun _=>?_)
set_option maxHeartbeats 8000000 in
set_option maxRecDepth 100000 in
theorem iK.calls (k : Nat) (af : Int) (au : Option Addr) (aq : Nat) (aa : List (List Int)) (r : Int) (w : World) (cl : Kd.C (Kd.slice 2 (Kd.int .i64)) w au aa.length aa) (cn : aa.length ≤ aq) (h : iK.f k af aa = some r) :
  Calls Try.prog 189 #[.agg #[.int .i64 af,.slice au aa.length aq]] w fun e w'=>e=.returned (.int .i64 r)∧Below w.heap.size w w':=by
 have kF:=Try.underlying31
 have alx:=k0 cl
 have di:=k0 cn
 clear cl cn
 have HB:=k0 (Below.refl w.heap.size w)
 have H:((dA.f k af aa).bind fun t102=>(iK.l0 k t102 0 0))=some r:=h
 clear h
 replace H:=Option.bind_eq_some_iff.mp H
 obtain ⟨t102,mH,H⟩:=H
 replace H:(iK.l0 k t102 0 0)=some r:=H
 have A2:=k0 mH
 clear mH
 have H':=k0 H
 clear H
 go_enter Try.func189,Try.ntmps189
 go_wp2_with (first|((with_reducible refine cy (N:=1) rfl ?_);refine ec ?hg (N:=1) ?hd (cs:=#[.int .i64 af,.slice au aa.length aq]) (t:=31) ?hr ?_;(case hd=>rfl);(case hg=>rfl);(case hr=>first|(go_simp;done)|(go_simp;rfl));intro ai hg w3 aJ hb;have ah:=k0 (aJ);have cr:=k0 ((by rw [hg];exact (aU bl):w.heap.size≤ai));have eL:=cr;replace HB:=k0 (aG bl hb);clear hb aJ hg;have xQ:w3.cell? ⟨ai,0,none⟩=some (.int .i64 af):=(av ah.out 0).trans rfl;have xR:w3.cell? ⟨ai,1,none⟩=some (.slice au aa.length aq):=(av ah.out 1).trans rfl;have xW:=ale ah.out 0;have xX:=ale ah.out 1)|((with_reducible refine fo (f:=227) rfl ?_);refine fq (some 7) rfl rfl Try.func227 (by kernel_rfl) rfl #[.agg #[.int .i64 af,.slice au aa.length aq]] rfl gm ?_;(with_reducible refine (dA.calls k af _ _ aa t102 _ ?bt ?bu A2.out).mono ?_);(case bt=>exact aC (Kd.bI alx.out HB.out));(case bu=>exact di.out);rintro e w5 ⟨dw,rfl,aY,hb⟩;refine ⟨_,rfl,?_⟩;have a_:=k0 (Kd.d_ aY (aU bl));replace ah:=k0 (alg (g:=ai) (o:=sO af au aa aq 31) bk hb);replace HB:=k0 (aG bl hb);(try clear hb);(try clear aY)))
 go_loopg [4,5] k (fun kq v4 v5 w'=>∃ (aZ:Int) (aI:Int),v4=.int .i64 aZ∧v5=.int .i64 aI∧ak (iK.l0 kq t102 aZ aI=some r)∧ak (kq≤k)∧ak (Kd.R (Kd.int .i64) 2 w' w.heap.size (fun _=>True) dw t102)∧ak (w'.heap[ai]?=some (sO af au aa aq 31))∧ak (Below w.heap.size w w'))
 case atStart=>exact ⟨(0),(0),rs,rs,H',⟨Nat.le_refl _⟩,⟨aR (a_.out)⟩,⟨bk⟩,⟨bl⟩⟩
 case round =>
  clear H'
  (try clear xQ);(try clear xR);(try clear xW);(try clear xX)
  obtain ⟨aZ,aI,rfl,rfl,HA,aM,az,ah,HB⟩:=hrel
  cases gk with
  | zero=>exact absurd HA.out (by simp [iK.l0])
  | succ k1 =>
   have H:=HA.out
   clear HA
   simp only [iK.l0] at H
   by_cases c6:aI < (t102.length:Int)
   case neg =>
    rw [if_neg c6] at H
    have jk:decide (aI < (t102.length:Int))=false:=decide_eq_false c6
    clear c6
    obtain rfl:=Option.some.inj H
    obtain ⟨amJ,xB,am0⟩:=Kd.fh az.out
    subst am0
    go_wp2
    go_ret
    exact ⟨by first|rfl|(simp [bA,bB]<;>rfl)|(simp [*,bA,bB]<;>rfl),bl⟩
   rw [if_pos c6] at H
   have jk:=decide_eq_true c6
   clear c6
   replace H:=iS H;obtain ⟨c7,H⟩:=H
   have iz:=decide_eq_true c7
   clear c7
   by_cases c8:(rd t102 aI)=aI
   case neg =>
    rw [if_neg c8] at H
    have jw:((rd t102 aI) == aI)=false:=beq_eq_false_iff_ne.mpr c8
    have Jh:((rd t102 aI) != aI)=true:=bne_iff_ne.mpr c8
    have H':=k0 H
    clear H
    obtain ⟨EB,pY,qB⟩:=Kd.fh az.out
    subst qB
    have dg:0≤(aI:Int):=oD
    have cX:aI < (t102.length:Int):=oD
    obtain ⟨kz,e105,dX⟩:=Kd.bS (Kd.bn az.out).2.2 aI dg cX
    cases e105
    replace dg:=eq_true dg
    replace cX:=eq_true cX
    go_wp2
    go_roundg k1
    case measure=>have:=aM.out;omega
    case rel=>exact ⟨(aZ),(wrap64 (aI+1)),rs,rs,H',⟨by have:=aM.out;omega⟩,⟨aR (az.out)⟩,⟨bk⟩,⟨bl⟩⟩
   rw [if_pos c8] at H
   have jw:((rd t102 aI) == aI)=true:=beq_iff_eq.mpr c8
   have Jh:((rd t102 aI) != aI)=false:=bne_eq_false_iff_eq.mpr c8
   clear c8
   have H':=k0 H
   clear H
   obtain ⟨Ul,Fu,vZ⟩:=Kd.fh az.out
   subst vZ
   have dg:0≤(aI:Int):=oD
   have cX:aI < (t102.length:Int):=oD
   obtain ⟨kz,e105,dX⟩:=Kd.bS (Kd.bn az.out).2.2 aI dg cX
   cases e105
   replace dg:=eq_true dg
   replace cX:=eq_true cX
   go_wp2
   go_roundg k1
   case measure=>have:=aM.out;omega
   case rel=>exact ⟨(wrap64 (aZ+1)),(wrap64 (aI+1)),rs,rs,H',⟨by have:=aM.out;omega⟩,⟨aR (az.out)⟩,⟨bk⟩,⟨bl⟩⟩
/-! ### F101: function 101 -/
def ni.f (k:Nat) (af:Int) (aa:List (List Int)):Option (Bool):=(iK.f k af aa).bind fun t102=>(some (t102 == 1))
theorem ni.mono:∀ a0 a1 k,aj (ni.f k a0 a1) (ni.f (k+1) a0 a1):=by
 intro a0 a1 k
 unfold ni.f
 repeat' first
  | (with_reducible first|exact iK.mono _ _ _|exact aj.refl _|exact aj.none _|refine aj.ite ?_ ?_|refine aj.bind ?_ (fun _=>?_))
  | exact iK.mono _ _ _|exact aj.none _|refine aj.ite ?_ ?_|refine aj.bind ?_ (fun _=>?_)
set_option maxHeartbeats 8000000 in
set_option maxRecDepth 100000 in
theorem ni.calls (k : Nat) (af : Int) (au : Option Addr) (aq : Nat) (aa : List (List Int)) (r : Bool) (w : World) (cl : Kd.C (Kd.slice 2 (Kd.int .i64)) w au aa.length aa) (cn : aa.length ≤ aq) (h : ni.f k af aa = some r) :
  Calls Try.prog 101 #[.agg #[.int .i64 af,.slice au aa.length aq]] w fun e w'=>e=.returned (.bool r)∧Below w.heap.size w w':=by
 have kF:=Try.underlying31
 have alx:=k0 cl
 have di:=k0 cn
 clear cl cn
 have HB:=k0 (Below.refl w.heap.size w)
 have H:((iK.f k af aa).bind fun t102=>(some (t102 == 1)))=some r:=h
 clear h
 replace H:=Option.bind_eq_some_iff.mp H
 obtain ⟨t102,mH,H⟩:=H
 replace H:(some (t102 == 1))=some r:=H
 have A2:=k0 mH
 clear mH
 obtain rfl:=Option.some.inj H
 go_enter Try.func101,Try.ntmps101
 go_wp2_with (first|((with_reducible refine cy (N:=1) rfl ?_);refine ec ?hg (N:=1) ?hd (cs:=#[.int .i64 af,.slice au aa.length aq]) (t:=31) ?hr ?_;(case hd=>rfl);(case hg=>rfl);(case hr=>first|(go_simp;done)|(go_simp;rfl));intro ai hg w3 aJ hb;have ah:=k0 (aJ);have cr:=k0 ((by rw [hg];exact (aU bl):w.heap.size≤ai));have eL:=cr;replace HB:=k0 (aG bl hb);clear hb aJ hg;have xQ:w3.cell? ⟨ai,0,none⟩=some (.int .i64 af):=(av ah.out 0).trans rfl;have xR:w3.cell? ⟨ai,1,none⟩=some (.slice au aa.length aq):=(av ah.out 1).trans rfl;have xW:=ale ah.out 0;have xX:=ale ah.out 1)|((with_reducible refine fo (f:=189) rfl ?_);refine fq (some 4) rfl rfl Try.func189 (by kernel_rfl) rfl #[.agg #[.int .i64 af,.slice au aa.length aq]] rfl gm ?_;(with_reducible refine (iK.calls k af _ _ aa t102 _ ?bt ?bu A2.out).mono ?_);(case bt=>exact aC (Kd.bI alx.out HB.out));(case bu=>exact di.out);rintro e w5 ⟨rfl,hb⟩;refine ⟨_,rfl,?_⟩;replace ah:=k0 (alg (g:=ai) (o:=sO af au aa aq 31) bk hb);replace HB:=k0 (aG bl hb);(try clear hb)))
 go_ret
 exact ⟨by first|rfl|(simp [bA,bB]<;>rfl)|(simp [*,bA,bB]<;>rfl),bl⟩
/-! ### F172: function 172 -/
def gP.f (a0:Int) (a1:Int) (a2:Int):Option (Bool):=if a0 ≥ a1 then (some (decide (a0≤a2))) else (some false)
set_option maxHeartbeats 8000000 in
set_option maxRecDepth 100000 in
theorem gP.calls (a0 : Int) (a1 : Int) (a2 : Int) (r : Bool) (w : World) (h : gP.f a0 a1 a2 = some r) :
  Calls Try.prog 172 #[.int .i64 a0,.int .i64 a1,.int .i64 a2] w fun e w'=>e=.returned (.bool r)∧als w w':=by
 have H:(if a0 ≥ a1 then (some (decide (a0≤a2))) else (some false))=some r:=h
 clear h
 by_cases c4:a0 ≥ a1
 case neg =>
  rw [if_neg c4] at H
  have eV:decide (a1≤a0)=false:=decide_eq_false c4
  clear c4
  obtain rfl:=Option.some.inj H
  go_enter Try.func172,Try.ntmps172
  go_wp2
  go_ret
  exact ⟨by first|rfl|(simp;done)|(simp [*];done),by repeat (first|exact als.refl _|apply als.step)⟩
 rw [if_pos c4] at H
 have eV:=decide_eq_true c4
 clear c4
 obtain rfl:=Option.some.inj H
 go_enter Try.func172,Try.ntmps172
 go_wp2
 go_ret
 exact ⟨by first|rfl|(simp;done)|(simp [*];done),by repeat (first|exact als.refl _|apply als.step)⟩
end Go.Proofs.Ytoebojnhchocaaa.B
/- Set with little white space, by a program. -/
