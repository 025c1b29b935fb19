/- The functions that one law reaches, each as a Lean function, and that Go's call comes to what it says. Condition of each: that the Lean function answers (is not none). -/
import Derived.Test.YtoebojnhchocaaaBx0
import Derived.Test.YtoebojnhchocaaaBx4
import Derived.Test.YtoebojnhchocaaaBx8
namespace Go.Proofs.Ytoebojnhchocaaa.B
open Go.RowKit Go.Proofs.bC.eg Go.Proofs.bC.iZ Go.Proofs.bC.jr
attribute [local go_sem] max2_int min2_int max_two min_two max_three min_three max_four min_four   -- for this text's walks alone
set_option linter.unusedVariables false
set_option linter.unusedSimpArgs false
/-! ### F91: function 91 -/
mutual
def dL.l0 : Nat → List (List Int) → Int → Int → List (List Int) → Option ((List (List Int)))
 | 0,_,_,_,_=>none
 | k+1,x3,x4,bU,bN=>if x4 < bU then (if 0≤x4 then (if x4 < (x3.length:Int) then (dL.l1 k x3 x4 0 bU bN) else (none)) else (none)) else (some x3)
def dL.l1 : Nat → List (List Int) → Int → Int → Int → List (List Int) → Option ((List (List Int)))
 | 0,_,_,_,_,_=>none
 | k+1,x3,x4,x6,bU,bN=>if x6 < bU then (if 0≤x6 then (if x6 < ((ag x3 x4).length:Int) then (dL.l1 k (x3.set (x4:Int).toNat ((ag x3 x4).set (x6:Int).toNat (wrap64 (-(rd (ag x3 x4) x6))))) x4 (wrap64 (x6+1)) bU bN) else (none)) else (none)) else (if 0≤x4 then (if x4 < ((ag x3 x4).length:Int) then ((fH.f k bU bN x4).bind fun t112=>(dL.l0 k (x3.set (x4:Int).toNat ((ag x3 x4).set (x4:Int).toNat (wrap64 ((rd (ag x3 x4) x4)+t112)))) (wrap64 (x4+1)) bU bN)) else (none)) else (none))
end
def dL.f (k:Nat) (af:Int) (aa:List (List Int)):Option ((List (List Int))):=(eU.f k af aa).bind fun t102=>(dL.l0 k t102 0 af aa)
theorem dL.cj : ∀ k, (∀ y0 y1 y2 y3, aj (dL.l0 k y0 y1 y2 y3) (dL.l0 (k + 1) y0 y1 y2 y3)) ∧ (∀ y0 y1 y2 y3 y4, aj (dL.l1 k y0 y1 y2 y3 y4) (dL.l1 (k + 1) y0 y1 y2 y3 y4))
 | 0=>⟨fun _ _ _ _ r h=>by simp [dL.l0] at h,fun _ _ _ _ _ r h=>by simp [dL.l1] at h⟩
 | k+1=>by
  obtain ⟨ali,ih1⟩:=dL.cj k
  refine ⟨?_, ?_⟩ <;> intros <;> (first | unfold dL.l0 | unfold dL.l1) <;> repeat' first
   | (with_reducible first|exact ali _ _ _ _|exact ih1 _ _ _ _ _|exact eU.mono _ _ _|exact fH.mono _ _ _ _|exact aj.refl _|exact aj.none _|refine aj.ite ?_ ?_|refine aj.bind ?_ (fun _=>?_))
   | exact ali _ _ _ _|exact ih1 _ _ _ _ _|exact eU.mono _ _ _|exact fH.mono _ _ _ _|exact aj.none _|refine aj.ite ?_ ?_|refine aj.bind ?_ (fun _=>?_)
theorem dL.mono:∀ a0 a1 k,aj (dL.f k a0 a1) (dL.f (k+1) a0 a1):=by
 intro a0 a1 k
 obtain ⟨ali,ih1⟩:=dL.cj k
 unfold dL.f
 repeat' first
  | (with_reducible first|exact ali _ _ _ _|exact ih1 _ _ _ _ _|exact eU.mono _ _ _|exact fH.mono _ _ _ _|exact aj.refl _|exact aj.none _|refine aj.ite ?_ ?_|refine aj.bind ?_ (fun _=>?_))
  | exact ali _ _ _ _|exact ih1 _ _ _ _ _|exact eU.mono _ _ _|exact fH.mono _ _ _ _|exact aj.none _|refine aj.ite ?_ ?_|refine aj.bind ?_ (fun _=>?_)
def dL.ant:Bool × List (List Nat × List Nat):=(true,[([],[]),([],[]),([],[]),([],[]),([2,3],[2,3]),([4],[4]),([],[]),([],[]),([6,7],[6,7]),([5,8],[5,8]),([0,1,0,1,2,3,4,5,6,7,8,9],[0,1]),([10,9,8,0,1,2,3,4,5,6,7,8,9],[9,10])])
def dL.Hl:List Nat:=[0,0,0,0,12,28,0,0,192,508,1023,2047]
theorem dL.L7:gY .any (opsOf Try.f91 10)=dL.ant:=by kernel_rfl
theorem dL.I8:nV dL.ant.2 dL.Hl=true:=by kernel_rfl
set_option maxHeartbeats 8000000 in
set_option maxRecDepth 100000 in
theorem dL.calls (k : Nat) (af : Int) (au : Option Addr) (aq : Nat) (aa : List (List Int)) (r : List (List Int)) (w : World) (cl : Kd.C (Kd.slice 2 (Kd.int .i64)) w au aa.length aa) (cn : aa.length ≤ aq) (h : dL.f k af aa = some r) :
  Calls Try.prog 91 #[.agg #[.int .i64 af,.slice au aa.length aq]] w fun e w'=>∃ cF:Value,e=.returned (cF)∧Kd.S (Kd.slice 2 (Kd.int .i64)) 28 w' w.heap.size (fun _=>True) cF r∧Below w.heap.size w w':=by
 have kF:=Try.underlying31
 have alx:=k0 cl
 have di:=k0 cn
 clear cl cn
 have HB:=k0 (Below.refl w.heap.size w)
 have H:((eU.f k af aa).bind fun t102=>(dL.l0 k t102 0 af aa))=some r:=h
 clear h
 replace H:=Option.bind_eq_some_iff.mp H
 obtain ⟨t102,mH,H⟩:=H
 replace H:(dL.l0 k t102 0 af aa)=some r:=H
 have A2:=k0 mH
 clear mH
 have H':=k0 H
 clear H
 go_enter Try.func91,Try.ntmps91
 go_wp2_with (first|((with_reducible refine cy (N:=1) rfl ?_);refine ec ?hg (N:=1) ?hd (cs:=#[.int .i64 af,.slice au aa.length aq]) (t:=31) ?hr ?_;(case hd=>rfl);(case hg=>rfl);(case hr=>first|(go_simp;done)|(go_simp;rfl));intro ai hg w3 aJ hb;have ah:=k0 (aJ);have cr:=k0 ((by rw [hg];exact (aU bl):w.heap.size≤ai));have eL:=cr;replace HB:=k0 (aG bl hb);clear hb aJ hg;have xQ:w3.cell? ⟨ai,0,none⟩=some (.int .i64 af):=(av ah.out 0).trans rfl;have xR:w3.cell? ⟨ai,1,none⟩=some (.slice au aa.length aq):=(av ah.out 1).trans rfl;have xW:=ale ah.out 0;have xX:=ale ah.out 1)|((with_reducible refine fo (f:=120) rfl ?_);refine fq (some 8) rfl rfl Try.func120 (by kernel_rfl) rfl #[.agg #[.int .i64 af,.slice au aa.length aq]] rfl gm ?_;(with_reducible refine (eU.calls k af _ _ aa t102 _ ?bt ?bu A2.out).mono ?_);(case bt=>exact aC (Kd.bI alx.out HB.out));(case bu=>exact di.out);rintro e w5 ⟨dw,rfl,aY,hb⟩;refine ⟨_,rfl,?_⟩;have a_:=k0 (Kd.pU aY (aU bl));replace ah:=k0 (alg (g:=ai) (o:=sO af au aa aq 31) bk hb);replace HB:=k0 (aG bl hb);(try clear hb);(try clear aY)))
 go_loopg [4] k (fun kq v4 w'=>∃ (bE:List (List Int)) (aZ:Int),v4=.int .i64 aZ∧ak (dL.l0 kq bE aZ af aa=some r)∧ak (kq≤k)∧ak (Kd.S (Kd.slice 2 (Kd.int .i64)) 28 w' w.heap.size (fun _=>True) dw bE)∧ak (w'.heap[ai]?=some (sO af au aa aq 31))∧ak (Below w.heap.size w w'))
 case atStart=>exact ⟨(t102),(0),rs,H',⟨Nat.le_refl _⟩,⟨aS (a_.out)⟩,⟨bk⟩,⟨bl⟩⟩
 case round =>
  clear H'
  (try clear xQ);(try clear xR);(try clear xW);(try clear xX)
  obtain ⟨bE,aZ,rfl,HA,aM,az,ah,HB⟩:=hrel
  cases gk with
  | zero=>exact absurd HA.out (by simp [dL.l0])
  | succ k1 =>
   have H:=HA.out
   clear HA
   simp only [dL.l0] at H
   by_cases c6:aZ < af
   case neg =>
    rw [if_neg c6] at H
    have jk:decide (aZ < af)=false:=decide_eq_false c6
    clear c6
    obtain rfl:=Option.some.inj H
    have aaT:wr.cell? ⟨ai,0,none⟩=some (.int .i64 af):=(av ah.out 0).trans rfl
    have aaU:wr.cell? ⟨ai,1,none⟩=some (.slice au aa.length aq):=(av ah.out 1).trans rfl
    have abj:=ale ah.out 0
    have abk:=ale ah.out 1
    go_wp2
    go_ret
    exact ⟨_,by first|rfl|(simp [bA,bB]<;>rfl)|(simp [*,bA,bB]<;>rfl),by (with_reducible repeat (first|apply Kd.alN|apply Kd.ig|apply Kd.fI));exact az.out,bl⟩
   rw [if_pos c6] at H
   have jk:=decide_eq_true c6
   clear c6
   replace H:=iS H;obtain ⟨c7,H⟩:=H
   have iz:=decide_eq_true c7
   clear c7
   replace H:=iS H;obtain ⟨c8,H⟩:=H
   have jw:=decide_eq_true c8
   clear c8
   have H':=k0 H
   clear H
   have tC:wr.cell? ⟨ai,0,none⟩=some (.int .i64 af):=(av ah.out 0).trans rfl
   have tD:wr.cell? ⟨ai,1,none⟩=some (.slice au aa.length aq):=(av ah.out 1).trans rfl
   have amx:=ale ah.out 0
   have tH:=ale ah.out 1
   obtain ⟨EB,pY,qB⟩:=Kd.qx az.out
   subst qB
   have dg:0≤(aZ:Int):=oD
   have cX:aZ < (bE.length:Int):=oD
   obtain ⟨kz,anp,Ci,e105,dX,qH,qE⟩:=cZ (Kd.ck az.out).2.2 aZ dg cX
   cases e105
   obtain ⟨agQ,aau,aag,Qe⟩:=Kd.l6 az.out [] aZ dg (by first|exact cX|exact oD|(have e_:=(Kd.ck az.out).1;omega))
   obtain ⟨akH,rfl,JD⟩:=aag
   have Dh:=Qe 0 _ rfl
   rw [Nat.add_zero,show ((Kd.slice 2 (Kd.int .i64))).sz=1 from rfl,Nat.mul_one] at Dh
   replace Dh:=Option.some.inj (Dh.symm.trans dX)
   rw [Dh] at JD
   have af2:=k0 (show Kd.R (Kd.int .i64) 2 _ _ _ _ (ag bE aZ) from JD)
   clear Dh JD
   have NR:=k0 dX
   clear Qe aau
   have qq:=k0 qE
   have anB:=k0 qH
   clear qE qH
   replace dg:=eq_true dg
   replace cX:=eq_true cX
   go_wp2
   generalize Q5:(.slice anp (ag bE aZ).length Ci:Value)=afj
   have EL:=k0 Q5
   clear Q5
   go_loopg [6] k1 (fun kq v6 w'=>∃ (ald:List (List Int)) (gZ:Int),v6=.int .i64 gZ∧ak (dL.l1 kq ald aZ gZ af aa=some r)∧ak (kq≤k1)∧ak (iF w' (.slice (some kz) bE.length pY) aZ afj)∧ak (Kd.S (Kd.slice 2 (Kd.int .i64)) 28 w' w.heap.size (fun _=>True) (.slice (some kz) bE.length pY) ald)∧ak (w'.heap[ai]?=some (sO af au aa aq 31))∧ak (Below w.heap.size w w'))
   case atStart=>exact ⟨(bE),(0),rs,H',⟨Nat.le_refl _⟩,⟨by (with_reducible repeat (first|apply iF.alloc|apply iF.drewN|apply iF.drew));first|exact ⟨_,_,_,rfl,(by first|exact of_eq_true dg|exact su nr.out|omega),(by first|exact of_eq_true cX|exact mq nr.out|(have h_:=of_eq_true cX;omega)|(have h_:=mq nr.out;omega)),NR.out⟩|(rw [← EL.out];exact ⟨_,_,_,rfl,(by first|exact of_eq_true dg|exact su nr.out|omega),(by first|exact of_eq_true cX|exact mq nr.out|(have h_:=of_eq_true cX;omega)|(have h_:=mq nr.out;omega)),NR.out⟩)⟩,⟨aS (az.out)⟩,⟨bk⟩,⟨bl⟩⟩
   case round =>
    clear H'
    (try clear c6);(try clear jk);(try clear c7);(try clear iz);(try clear c8);(try clear jw);(try clear xQ);(try clear xR);(try clear tC);(try clear tD);(try clear xW);(try clear xX);(try clear amx);(try clear tH);(try clear dX);(try clear dg);(try clear cX)
    obtain ⟨ald,gZ,rfl,HA,bp,nr,az,ah,HB⟩:=hrel
    have fL:=(Kd.ck az.out).1
    rw [fL] at az
    (try simp only [fL])
    (try simp only [fL] at ah)
    cases gk with
    | zero=>exact absurd HA.out (by simp [dL.l1])
    | succ k2 =>
     have H:=HA.out
     clear HA
     simp only [dL.l1] at H
     by_cases c11:gZ < af
     case neg =>
      rw [if_neg c11] at H
      have l_:decide (gZ < af)=false:=decide_eq_false c11
      clear c11
      replace H:=iS H;obtain ⟨c18,H⟩:=H
      have uP:=decide_eq_true c18
      clear c18
      replace H:=iS H;obtain ⟨c19,H⟩:=H
      have mb:=decide_eq_true c19
      (try simp only [fL] at mb)
      clear c19
      replace H:=Option.bind_eq_some_iff.mp H
      obtain ⟨t112,Mq,H⟩:=H
      replace H:(dL.l0 k2 (ald.set (aZ:Int).toNat ((ag ald aZ).set (aZ:Int).toNat (wrap64 ((rd (ag ald aZ) aZ)+t112)))) (wrap64 (aZ+1)) af aa)=some r:=H
      have mH:=k0 Mq
      clear Mq
      obtain ⟨BF,ue⟩:∃ y_:List Int,y_=((ag ald aZ).set (aZ:Int).toNat (wrap64 ((rd (ag ald aZ) aZ)+t112))):=⟨_,rfl⟩
      replace H:(dL.l0 k2 (ald.set (aZ:Int).toNat BF) (wrap64 (aZ+1)) af aa)=some r:=by first|(rw [ue];with_reducible exact H)|(have ax:=(Option.bind_some _ _).symm.trans H;rw [ue];with_reducible exact ax)|(have ax:=(Option.bind_some _ _).symm.trans H;with_reducible exact ax)|with_reducible exact H|(rw [ue];exact H)|exact H
      have IK:=k0 ue
      clear ue
      obtain ⟨dU,gq⟩:∃ y_:List (List Int),y_=(ald.set (aZ:Int).toNat BF):=⟨_,rfl⟩
      replace H:(dL.l0 k2 dU (wrap64 (aZ+1)) af aa)=some r:=by first|(rw [gq];with_reducible exact H)|(have ax:=(Option.bind_some _ _).symm.trans H;rw [gq];with_reducible exact ax)|(have ax:=(Option.bind_some _ _).symm.trans H;with_reducible exact ax)|with_reducible exact H|(rw [gq];exact H)|exact H
      have mK:=k0 gq
      clear gq
      have H':=k0 H
      clear H
      have acf:decide (0≤aZ)=true:=decide_eq_true (su nr.out)
      have ach:decide (aZ < (ald.length:Int))=true:=decide_eq_true (by have h_:=mq nr.out;have e_:=(Kd.ck az.out).1;omega)
      have dK:0≤(aZ:Int):=oD
      have dH:aZ < (ald.length:Int):=oD
      obtain ⟨alH,Hf,Cj,e106,dD,tP,tJ⟩:=cZ (Kd.ck az.out).2.2 aZ dK dH
      obtain rfl:kz=alH:=(by injection e106)
      obtain ⟨XY,Ke,J2,CS⟩:=Kd.l6 az.out [] aZ dK (by first|exact dH|exact oD|(have e_:=(Kd.ck az.out).1;omega))
      obtain ⟨ae9,rfl,am2⟩:=J2
      have tX:=CS 0 _ rfl
      rw [Nat.add_zero,show ((Kd.slice 2 (Kd.int .i64))).sz=1 from rfl,Nat.mul_one] at tX
      replace tX:=Option.some.inj (tX.symm.trans dD)
      rw [tX] at am2
      have amd:=k0 (show Kd.R (Kd.int .i64) 2 _ _ _ _ (ag ald aZ) from am2)
      clear tX am2
      have pn:=k0 dD
      clear CS Ke
      have pg:=k0 tJ
      have anK:=k0 tP
      clear tJ tP
      replace dK:=eq_true dK
      replace dH:=eq_true dH
      obtain rfl:=FO nr.out pn.out
      have QF:wr.cell? ⟨ai,0,none⟩=some (.int .i64 af):=(av ah.out 0).trans rfl
      have QG:wr.cell? ⟨ai,1,none⟩=some (.slice au aa.length aq):=(av ah.out 1).trans rfl
      have Q0:=ale ah.out 0
      have Q1:=ale ah.out 1
      try go_wp2
      replace az:=k0 (Kd.fI az.out);replace amd:=k0 (Kd.alp amd.out);replace ah:=k0 (bJ ah.out);replace pg:=k0 (Kd.j6 pg.out);replace pn:=k0 ((show (wr.drew).cell? _=some _ from pn.out));replace HB:=k0 (bH HB.out)
      have gw:0≤(aZ:Int):=oD
      have gy:aZ < ((ag ald aZ).length:Int):=oD
      obtain ⟨mP,e111,gX⟩:=Kd.bS (by repeat (first|(with_reducible exact pg.out)|(with_reducible refine Kd.kM ?_ _)|(with_reducible refine Kd.alZ ?_ _)|(with_reducible refine Kd.j6 ?_)|exact pg.out)) aZ gw gy
      cases e111
      replace gw:=eq_true gw
      replace gy:=eq_true gy
      refine nT (n:=12) (S:=fun w'=>w'.cell? ⟨ai,0,none⟩=some (.int .i64 af)∧w'.cell? ⟨ai,1,none⟩=some (.slice au aa.length aq)∧w'.cell? (mP.add (aZ).toNat)=some (.int .i64 (rd (ag ald aZ) aZ))) (ds:=[11]) (ba 12 0) (by kernel_rfl) rfl rfl ⟨(av ah.out 0).trans rfl,(av ah.out 1).trans rfl,gX⟩ (fun hHeld=>?_);refine rQ dL.L7 dL.I8 (fun alc dG=>?_)
      generalize wr.drew=vp at az amd ah pg pn HB gX hHeld ⊢
      refine pu 0 (some 33) (ba 12 1) alc (h:=?_)
      refine pu 1 (some 34) (ba 12 3) alc (h:=?_)
      refine pu 2 (some 35) (ba 12 7) alc (h:=?_)
      refine pu 3 (some 36) (ba 12 15) alc (h:=?_)
      refine pu 4 (some 37) (ba 12 31) alc (h:=?_)
      refine pu 7 (some 40) (ba 12 159) alc (h:=?_)
      refine ta 5 (some 38) (ba 12 191) alc dG hHeld (hy:=Or.inl ⟨by rfl,by rintro w' ⟨s0,s1,s2⟩;go_simp;with_reducible rfl⟩) (h:=?_)
      refine ta 6 (some 39) (ba 12 255) alc dG hHeld (hy:=Or.inl ⟨by rfl,by rintro w' ⟨s0,s1,s2⟩;go_simp;with_reducible rfl⟩) (h:=?_)
      refine sG (i:=8) (N:=some 41) (ba 12 511) rfl rfl (lG alc.out (by kernel_rfl)) (by decide) (fun K hK=>?_)
      refine rC Try.func177 (by kernel_rfl) rfl #[.agg #[.int .i64 af,.slice au aa.length aq],.int .i64 aZ] (by rfl) rfl rfl gm ?_
      with_reducible refine (fH.calls k2 af _ _ aa aZ t112 _ ?bt ?bu mH.out).mono ?_
      (case bt=>exact aC (Kd.bI alx.out HB.out))
      (case bu=>exact di.out)
      rintro e TM ⟨rfl,hb⟩
      have Vw:=(hb.cell (World.block_lt_of_cell? _ _ (hHeld.2.2))).trans (hHeld.2.2)
      refine ⟨_,rfl,?_⟩
      replace az:=k0 (Kd.jt (aS az.out) hb);replace amd:=k0 (Kd.ct (aR amd.out) hb);replace ah:=k0 (alg (g:=ai) (o:=sO af au aa aq 31) bk hb);replace pg:=k0 (Kd.bI (by repeat (first|(with_reducible exact pg.out)|(with_reducible refine Kd.kM ?_ _)|(with_reducible refine Kd.alZ ?_ _)|(with_reducible refine Kd.j6 ?_)|exact pg.out)) hb);replace pn:=k0 (D4 hb pn.out);replace HB:=k0 (aG bl hb)
      (try clear hb)
      have uu:0≤(aZ:Int):=oD
      have ux:(aZ:Int) < (((ag ald aZ).length:Int):Int):=oD
      obtain ⟨amw,yY,uS,xG,CG,OL,xb⟩:=Kd.kT amd.out (by omega)
      (first|cases uS|(injection uS with aW aly c_;(first|subst aW|(injection aW with aW;subst aW));subst c_;clear aly))
      (first|simp only [add_plain] at gX|skip)
      have BQ:=k0 xG
      have HF:=k0 xb
      clear xG CG xb
      (first|simp only [add_plain] at gX|skip)
      obtain ⟨KZ,Ku⟩:=Kd.js 0 amd.out (aZ:Int) uu ux
      replace uu:=eq_true uu
      replace ux:=eq_true ux
      have KP:(aZ:Int) < (ald.length:Int):=(by have h_:(aZ:Int) < ((ald.length:Int):Int):=oD;first|exact h_|(have e_:=(Kd.ck az.out).1;omega)|simpa only [List.length_set,List.length_set] using h_)
      obtain ⟨S9,X0,Kg,J1,CU,Bh,CQ⟩:=Kd.yN az.out [] (aZ:Int) oD (by first|exact KP|(have e_:=(Kd.ck az.out).1;omega))
      obtain ⟨ae_,rfl,tj⟩:=J1
      have amH:=CU 0 _ rfl
      rw [Nat.add_zero,show ((Kd.slice 2 (Kd.int .i64))).sz=1 from rfl,Nat.mul_one] at amH
      replace amH:=Option.some.inj (amH.symm.trans pn.out)
      subst amH
      clear CU Kg
      replace tj:=(show Kd.R (Kd.int .i64) 2 _ _ _ _ (ag ald aZ) from tj)
      have qm:=Kd.kr tj (aZ:Int) (wrap64 ((rd (ag ald aZ) aZ)+t112))
      have af_:=k0 (AW qm.2 pn.out (AX (Bh _ (tj.1 _ rfl)).2))
      rw [← IK.out] at qm
      have af7:=k0 qm.1
      have Ip:=CQ qm.2 (fun k_ e_=>by injection e_ with e_;subst e_;exact tj.1 _ rfl) (x':=BF) (Kd.amh qm.1)
      rw [← mK.out] at Ip
      have Vs:=k0 Ip
      clear qm Ip CQ Bh
      refine hK.out _ _ ⟨(av ah.out 0).trans rfl,(av ah.out 1).trans rfl,Vw⟩ (fun hHeld=>?_)
      clear hK K
      refine dY (a':=?_) ?_ ?_
      rotate_left;· show Act.put _ (some 41) _=_;simp only [Act.put,zI,zZ,zS,cQ,dr];rfl
      refine pu 9 (some 42) (ba 12 1023) alc (h:=?_)
      refine pu 10 (some 43) (ba 12 2047) alc (h:=?_)
      refine sF (i:=11) (N:=none) (ba 12 4095) rfl rfl (lG alc.out (by kernel_rfl)) (by decide) (fun K hK=>?_)
      refine qa (w1:=?_) (by rfl) rfl ?_ ?_
      rotate_left;· go_simp;rfl
      refine hK.out _ _ ?_
      clear hK K
      refine nH (rz alc.out (by kernel_rfl)) ?_
      try go_wp2
      (try simp only [← fL])
      first|go_roundg k2|((try (have e_:=EL.out;injection e_ with amY Jt amZ;subst amY amZ));go_roundg k2)
      case measure=>have:=aM.out;have:=bp.out;omega
      case rel=>exact ⟨(dU),(wrap64 (aZ+1)),rs,H',⟨by have:=aM.out;have:=bp.out;omega⟩,⟨by (try simp only [fL]);(with_reducible repeat (first|apply Kd.alN|apply Kd.ig|apply Kd.fI));exact Vs.out⟩,⟨by (try simp only [fL]);(with_reducible repeat (first|refine cm ?_ _|refine bJ ?_|refine alo ?_ _));refine gD ?_ (by have h_:=Kd.iG amd.out ah.out (by decide);intro e_;exact h_ (by rw [e_];rfl)) _;exact bk⟩,⟨by repeat (first|(with_reducible first|exact HB.out|apply bL|apply bX|apply bH|refine dI ?_ BQ.out|refine dI ?_ eL.out)|exact HB.out)⟩⟩
     rw [if_pos c11] at H
     have l_:=decide_eq_true c11
     clear c11
     replace H:=iS H;obtain ⟨c12,H⟩:=H
     have r7:=decide_eq_true c12
     clear c12
     replace H:=iS H;obtain ⟨c13,H⟩:=H
     have kU:=decide_eq_true c13
     (try simp only [fL] at kU)
     clear c13
     obtain ⟨mG,ij⟩:∃ y_:List Int,y_=((ag ald aZ).set (gZ:Int).toNat (wrap64 (-(rd (ag ald aZ) gZ)))):=⟨_,rfl⟩
     replace H:(dL.l1 k2 (ald.set (aZ:Int).toNat mG) aZ (wrap64 (gZ+1)) af aa)=some r:=by first|(rw [ij];with_reducible exact H)|(have ax:=(Option.bind_some _ _).symm.trans H;rw [ij];with_reducible exact ax)|(have ax:=(Option.bind_some _ _).symm.trans H;with_reducible exact ax)|with_reducible exact H|(rw [ij];exact H)|exact H
     have amn:=k0 ij
     clear ij
     obtain ⟨uC,oG⟩:∃ y_:List (List Int),y_=(ald.set (aZ:Int).toNat mG):=⟨_,rfl⟩
     replace H:(dL.l1 k2 uC aZ (wrap64 (gZ+1)) af aa)=some r:=by first|(rw [oG];with_reducible exact H)|(have ax:=(Option.bind_some _ _).symm.trans H;rw [oG];with_reducible exact ax)|(have ax:=(Option.bind_some _ _).symm.trans H;with_reducible exact ax)|with_reducible exact H|(rw [oG];exact H)|exact H
     have B4:=k0 oG
     clear oG
     have H':=k0 H
     clear H
     have acf:decide (0≤aZ)=true:=decide_eq_true (su nr.out)
     have ach:decide (aZ < (ald.length:Int))=true:=decide_eq_true (by have h_:=mq nr.out;have e_:=(Kd.ck az.out).1;omega)
     have dK:0≤(aZ:Int):=oD
     have dH:aZ < (ald.length:Int):=oD
     obtain ⟨alH,Hf,Cj,e106,dD,tP,tJ⟩:=cZ (Kd.ck az.out).2.2 aZ dK dH
     obtain rfl:kz=alH:=(by injection e106)
     obtain ⟨XY,Ke,J2,CS⟩:=Kd.l6 az.out [] aZ dK (by first|exact dH|exact oD|(have e_:=(Kd.ck az.out).1;omega))
     obtain ⟨ae9,rfl,am2⟩:=J2
     have tX:=CS 0 _ rfl
     rw [Nat.add_zero,show ((Kd.slice 2 (Kd.int .i64))).sz=1 from rfl,Nat.mul_one] at tX
     replace tX:=Option.some.inj (tX.symm.trans dD)
     rw [tX] at am2
     have amd:=k0 (show Kd.R (Kd.int .i64) 2 _ _ _ _ (ag ald aZ) from am2)
     clear tX am2
     have pn:=k0 dD
     clear CS Ke
     have pg:=k0 tJ
     have anK:=k0 tP
     clear tJ tP
     replace dK:=eq_true dK
     replace dH:=eq_true dH
     obtain rfl:=FO nr.out pn.out
     have QD:wr.cell? ⟨ai,0,none⟩=some (.int .i64 af):=(av ah.out 0).trans rfl
     have QE:wr.cell? ⟨ai,1,none⟩=some (.slice au aa.length aq):=(av ah.out 1).trans rfl
     have QY:=ale ah.out 0
     have QZ:=ale ah.out 1
     have gv:0≤(gZ:Int):=oD
     have gx:gZ < ((ag ald aZ).length:Int):=oD
     obtain ⟨pV,e107,fX⟩:=Kd.bS (by repeat (first|(with_reducible exact pg.out)|(with_reducible refine Kd.kM ?_ _)|(with_reducible refine Kd.alZ ?_ _)|(with_reducible refine Kd.j6 ?_)|exact pg.out)) gZ gv gx
     cases e107
     replace gv:=eq_true gv
     replace gx:=eq_true gx
     have Lw:0≤(gZ:Int):=oD
     have LO:(gZ:Int) < (((ag ald aZ).length:Int):Int):=oD
     obtain ⟨JT,ahi,O3,Pu,ZS,ag9,Nf⟩:=Kd.kT amd.out (by omega)
     (first|cases O3|(injection O3 with aW aly c_;(first|subst aW|(injection aW with aW;subst aW));subst c_;clear aly))
     (first|simp only [add_plain] at fX|skip)
     have UM:=k0 Pu
     have afJ:=k0 Nf
     clear Pu ZS Nf
     (first|simp only [add_plain] at fX|skip)
     obtain ⟨aj6,ahY⟩:=Kd.js 0 amd.out (gZ:Int) Lw LO
     replace Lw:=eq_true Lw
     replace LO:=eq_true LO
     have abQ:(aZ:Int) < (ald.length:Int):=(by have h_:(aZ:Int) < ((ald.length:Int):Int):=oD;first|exact h_|(have e_:=(Kd.ck az.out).1;omega)|simpa only [List.length_set,List.length_set] using h_)
     obtain ⟨adM,ag4,aaJ,aac,Qs,KM,P7⟩:=Kd.yN az.out [] (aZ:Int) oD (by first|exact abQ|(have e_:=(Kd.ck az.out).1;omega))
     obtain ⟨akW,rfl,CC⟩:=aac
     have F7:=Qs 0 _ rfl
     rw [Nat.add_zero,show ((Kd.slice 2 (Kd.int .i64))).sz=1 from rfl,Nat.mul_one] at F7
     replace F7:=Option.some.inj (F7.symm.trans pn.out)
     subst F7
     clear Qs aaJ
     replace CC:=(show Kd.R (Kd.int .i64) 2 _ _ _ _ (ag ald aZ) from CC)
     have anW:=Kd.kr CC (gZ:Int) (wrap64 (-(rd (ag ald aZ) gZ)))
     go_wp2_with (first|((with_reducible refine kW (t:=2) (p:=32) rfl ?_);refine alT (t:=2) (p:=32) (v:=?ak4) (w1:=(wr.setCell ⟨JT,(gZ:Int).toNat,none⟩ (.int .i64 (wrap64 (-(rd (ag ald aZ) gZ)))))) ?hg ?ho ?hn ?hr ?_;(case ho=>rfl);(case hg=>rfl);(case hn=>rfl);(case hr=>first|(go_simp;done)|(go_simp;rfl));intro nc hw;have hg:wr.grownBy nc (some JT):=(by rw [hw];exact anW.2);have zL:Kd.R (Kd.int .i64) 2 nc w.heap.size adM (.slice (some ⟨JT,0,none⟩) (ag ald aZ).length Cj) mG:=(by rw [hw,amn.out];exact anW.1);have dO:Kd.S (Kd.slice 2 (Kd.int .i64)) 28 nc w.heap.size (fun _=>True) (.slice (some kz) ald.length pY) uC:=(by rw [B4.out];exact P7 hg (fun k_ e_=>by injection e_ with e_;subst e_;exact CC.1 _ rfl) (Kd.amh zL));have zB:=Kd.bx zL KM;clear anW P7;have aK:=k0 (dO);have alf:=k0 (jv (g:=ai) (o:=sO af au aa aq 31) bk hg (Kd.iG amd.out ah.out (by decide)));have alj:=k0 (AW hg pn.out (AX (KM _ (CC.1 _ rfl)).2));have bw:=k0 ((by rw [hw];exact dI (HB.out) UM.out:Below w.heap.size w nc));have bQ:=k0 (zB);have bZ:=k0 ((Kd.bn zB).2.1);clear az;clear ah;clear pn;clear HB;clear amd;have az:=aK;have ah:=alf;have pn:=alj;have HB:=bw;have af4:=bQ;have afQ:=bZ;clear aK alf alj bw bQ bZ;clear hg hw dO zL zB KM))
     (try simp only [← fL])
     first|go_roundg k2|((try (have e_:=EL.out;injection e_ with amY Jt amZ;subst amY amZ));go_roundg k2)
     case measure=>have:=aM.out;have:=bp.out;omega
     case rel=>exact ⟨(uC),(wrap64 (gZ+1)),rs,H',⟨by have:=aM.out;have:=bp.out;omega⟩,⟨by (with_reducible repeat (first|apply iF.alloc|apply iF.drewN|apply iF.drew));first|exact ⟨_,_,_,rfl,(by first|exact of_eq_true dK|exact su nr.out|omega),(by first|exact of_eq_true dH|exact mq nr.out|(have h_:=of_eq_true dH;omega)|(have h_:=mq nr.out;omega)),pn.out⟩|(rw [← EL.out];exact ⟨_,_,_,rfl,(by first|exact of_eq_true dK|exact su nr.out|omega),(by first|exact of_eq_true dH|exact mq nr.out|(have h_:=of_eq_true dH;omega)|(have h_:=mq nr.out;omega)),pn.out⟩)⟩,⟨by (try simp only [fL]);(with_reducible repeat (first|apply Kd.alN|apply Kd.ig|apply Kd.fI));exact az.out⟩,⟨by (try simp only [fL]);exact bk⟩,⟨bl⟩⟩
/-! ### F24: function 24 -/
def o_.f (k:Nat) (af:Int) (aa:List (List Int)) (l1:List Int) (a2:Int):Option (List Int × Int):=(alJ.f k af aa a2 (([l1]:List (List Int)))).bind fun t105=>(if t105=0 then ((dL.f k af aa).bind fun t106=>((bW.f k t106 l1 a2).bind fun t109=>(some (t109,0)))) else (some (([]:List Int),t105)))
theorem o_.mono:∀ a0 a1 a2 a3 k,aj (o_.f k a0 a1 a2 a3) (o_.f (k+1) a0 a1 a2 a3):=by
 intro a0 a1 a2 a3 k
 unfold o_.f
 repeat' first
  | (with_reducible first|exact alJ.mono _ _ _ _ _|exact dL.mono _ _ _|exact bW.mono _ _ _ _|exact aj.refl _|exact aj.none _|refine aj.ite ?_ ?_|refine aj.bind ?_ (fun _=>?_))
  | exact alJ.mono _ _ _ _ _|exact dL.mono _ _ _|exact bW.mono _ _ _ _|exact aj.none _|refine aj.ite ?_ ?_|refine aj.bind ?_ (fun _=>?_)
set_option maxHeartbeats 8000000 in
set_option maxRecDepth 100000 in
theorem o_.calls (k : Nat) (af : Int) (au : Option Addr) (aq : Nat) (aa : List (List Int)) (j7 : Nat → Prop) (A1 : Option Addr) (c1 : Nat) (l1 : List Int) (a2 : Int) (r1 : List Int) (r2 : Int) (w : World) (cl : Kd.C (Kd.slice 2 (Kd.int .i64)) w au aa.length aa) (cn : aa.length ≤ aq) (hs1 : Kd.V (Kd.int .i64) 2 w w.heap.size (fun k_ => j7 k_) (.slice A1 l1.length c1) l1) (h : o_.f k af aa l1 a2 = some (r1, r2)) :
  Calls Try.prog 24 #[.agg #[.int .i64 af,.slice au aa.length aq],.slice A1 l1.length c1,.int .i64 a2] w fun e w'=>∃ cF:Value,e=.returned (.tuple #[cF,.int .i64 r2])∧Kd.R (Kd.int .i64) 2 w' w.heap.size (fun k_=>(w.heap.size≤k_)) cF r1∧Below w.heap.size w w':=by
 have kF:=Try.underlying31
 have alx:=k0 cl
 have di:=k0 cn
 clear cl cn
 have fU:=k0 (show Kd.V (Kd.int .i64) 2 w w.heap.size (fun k_=>(j7 k_∨w.heap.size≤k_)) (.slice A1 l1.length c1) l1 from Kd.uN hs1 (fun k_ hk=>.inl hk))
 have HB:=k0 (Below.refl w.heap.size w)
 have H:((alJ.f k af aa a2 (([l1]:List (List Int)))).bind fun t105=>(if t105=0 then ((dL.f k af aa).bind fun t106=>((bW.f k t106 l1 a2).bind fun t109=>(some (t109,0)))) else (some (([]:List Int),t105))))=some (r1,r2):=h
 clear h
 obtain ⟨eT,eH⟩:∃ y_:List (List Int),y_=(([l1]:List (List Int))):=⟨_,rfl⟩
 replace H:((alJ.f k af aa a2 eT).bind fun t105=>(if t105=0 then ((dL.f k af aa).bind fun t106=>((bW.f k t106 l1 a2).bind fun t109=>(some (t109,0)))) else (some (([]:List Int),t105))))=some (r1,r2):=by first|(rw [eH];with_reducible exact H)|(have ax:=(Option.bind_some _ _).symm.trans H;rw [eH];with_reducible exact ax)|(have ax:=(Option.bind_some _ _).symm.trans H;with_reducible exact ax)|with_reducible exact H|(rw [eH];exact H)|exact H
 have alG:=k0 eH
 clear eH
 replace H:=Option.bind_eq_some_iff.mp H
 obtain ⟨t105,jH,H⟩:=H
 replace H:(if t105=0 then ((dL.f k af aa).bind fun t106=>((bW.f k t106 l1 a2).bind fun t109=>(some (t109,0)))) else (some (([]:List Int),t105)))=some (r1,r2):=H
 have A4:=k0 jH
 clear jH
 by_cases c5:t105=0
 case neg =>
  rw [if_neg c5] at H
  have jb:(t105 == 0)=false:=beq_eq_false_iff_ne.mpr c5
  have vU:(t105 != 0)=true:=bne_iff_ne.mpr c5
  simp only [Option.some.injEq,Prod.mk.injEq] at H
  obtain ⟨rfl,rfl⟩:=H
  go_enter Try.func24,Try.ntmps24
  go_wp2_with (first|((with_reducible refine cy (N:=3) rfl ?_);refine ec ?hg (N:=3) ?hd (cs:=#[.int .i64 af,.slice au aa.length aq]) (t:=31) ?hr ?_;(case hd=>rfl);(case hg=>rfl);(case hr=>first|(go_simp;done)|(go_simp;rfl));intro ai hg oO aJ hb;replace fU:=k0 (Kd.xp (Kd.Fc (aV fU.out) ai (Nat.le_of_eq hg.symm)) hb);have ah:=k0 (aJ);have cr:=k0 ((by rw [hg];exact (aU bl):w.heap.size≤ai));have eL:=cr;replace HB:=k0 (aG bl hb);clear hb aJ hg;have sk:oO.cell? ⟨ai,0,none⟩=some (.int .i64 af):=(av ah.out 0).trans rfl;have xP:oO.cell? ⟨ai,1,none⟩=some (.slice au aa.length aq):=(av ah.out 1).trans rfl;have sw:=ale ah.out 0;have xV:=ale ah.out 1)|((with_reducible refine cy (N:=12) rfl ?_);refine Kd.E3 (Kd.slice 2 (Kd.int .i64)) _ 28 ?hg (N':=12) ?hd (xs:=([l1]:List (List Int))) (inner:=[.slice A1 l1.length c1]) (ok:=(fun k_=>(j7 k_∨w.heap.size≤k_)∧k_ ≠ ai)) (cC:=(fun k_=>(j7 k_∨w.heap.size≤k_)∧k_ ≠ ai)) ?hr ?hp (fun _ hk=>hk) ((show ∀ k_,oO.heap.size≤k_→(fun k_=>(j7 k_∨w.heap.size≤k_)∧k_ ≠ ai) k_ from fun k_ hk=>⟨(.inr (Nat.le_trans (aU bl) hk)),Kd.Cy (g:=ai) (o:=sO af au aa aq 31) bk k_ hk⟩) _ (Nat.le_refl _)) (Below.refl _ _) (Nat.le_refl _) (by simp) ?_;(case hd=>rfl);(case hg=>rfl);(case hr=>first|(go_simp;done)|(go_simp;rfl));(case hp=>exact (bY.one (show Kd.FK (Kd.slice 2 (Kd.int .i64)) _ _ l1 [.slice A1 l1.length c1] from (Kd.EE (Kd.xq (Kd.uN (ok':=(fun k_=>(j7 k_∨w.heap.size≤k_)∧k_ ≠ ai)) (fU.out) (fun k_ hk=>⟨hk.1,hk.2⟩))).2.1 (Kd.Fa (Kd.uN (ok':=(fun k_=>(j7 k_∨w.heap.size≤k_)∧k_ ≠ ai)) (fU.out) (fun k_ hk=>⟨hk.1,hk.2⟩))))) (bY.none _ _)));intro dw pO Bg hb ew ey;clear ew ey;(first|rw [← alG.out] at Bg|(simp only [Int.reduceToNat] at Bg;rw [← alG.out] at Bg));replace fU:=k0 (Kd.yO (aV fU.out) (Kd.At Bg) hb);have a_:=k0 (Kd.B2 Bg (aU bl));replace ah:=k0 (alg (g:=ai) (o:=sO af au aa aq 31) bk hb);replace HB:=k0 (aG bl hb);clear hb Bg;obtain ⟨ML,Jo,am1⟩:=Kd.ans a_.out;subst am1)|((with_reducible refine fo (f:=89) rfl ?_);refine fq (some 13) rfl rfl Try.func89 (by kernel_rfl) rfl #[.agg #[.int .i64 af,.slice au aa.length aq],.int .i64 a2,.slice ML eT.length Jo] rfl gm ?_;(with_reducible refine (alJ.calls k af _ _ aa a2 _ _ eT t105 _ ?bt ?bu ?dZ ?ez A4.out).mono ?_);(case bt=>exact aC (Kd.bI alx.out HB.out));(case bu=>exact di.out);(case dZ=>exact aC ((Kd.uJ a_.out).2.2));(case ez=>exact (Kd.uJ a_.out).2.1);rintro e vp ⟨rfl,hb⟩;refine ⟨_,rfl,?_⟩;replace fU:=k0 (Kd.xp (aV fU.out) hb);replace a_:=k0 (Kd.xm (aN a_.out) hb);replace ah:=k0 (alg (g:=ai) (o:=sO af au aa aq 31) bk hb);replace HB:=k0 (aG bl hb);(try clear hb)))
  go_ret2
  exact ⟨_,by first|rfl|(simp [bA,bB]<;>rfl)|(simp [*,bA,bB]<;>rfl),by first|exact Kd.xo _ _ _ _ _|exact Kd.II _ _ _ _ _|exact Kd.I2 _ _ _ _ _|exact Kd.IU _ _ _ _ _|exact Kd.I0 _ _ _ _ _,bl⟩
 rw [if_pos c5] at H
 have jb:(t105 == 0)=true:=beq_iff_eq.mpr c5
 have vU:(t105 != 0)=false:=bne_eq_false_iff_eq.mpr c5
 clear c5
 replace H:=Option.bind_eq_some_iff.mp H
 obtain ⟨t106,wZ,H⟩:=H
 replace H:((bW.f k t106 l1 a2).bind fun t109=>(some (t109,0)))=some (r1,r2):=H
 have A6:=k0 wZ
 clear wZ
 replace H:=Option.bind_eq_some_iff.mp H
 obtain ⟨t109,amI,H⟩:=H
 replace H:(some (t109,0))=some (r1,r2):=H
 have A7:=k0 amI
 clear amI
 simp only [Option.some.injEq,Prod.mk.injEq] at H
 obtain ⟨rfl,rfl⟩:=H
 go_enter Try.func24,Try.ntmps24
 go_wp2_with (first|((with_reducible refine cy (N:=3) rfl ?_);refine ec ?hg (N:=3) ?hd (cs:=#[.int .i64 af,.slice au aa.length aq]) (t:=31) ?hr ?_;(case hd=>rfl);(case hg=>rfl);(case hr=>first|(go_simp;done)|(go_simp;rfl));intro ai hg w8 aJ hb;replace fU:=k0 (Kd.xp (Kd.Fc (aV fU.out) ai (Nat.le_of_eq hg.symm)) hb);have ah:=k0 (aJ);have cr:=k0 ((by rw [hg];exact (aU bl):w.heap.size≤ai));have eL:=cr;replace HB:=k0 (aG bl hb);clear hb aJ hg;have tC:w8.cell? ⟨ai,0,none⟩=some (.int .i64 af):=(av ah.out 0).trans rfl;have tD:w8.cell? ⟨ai,1,none⟩=some (.slice au aa.length aq):=(av ah.out 1).trans rfl;have amx:=ale ah.out 0;have tH:=ale ah.out 1)|((with_reducible refine cy (N:=12) rfl ?_);refine Kd.E3 (Kd.slice 2 (Kd.int .i64)) _ 28 ?hg (N':=12) ?hd (xs:=([l1]:List (List Int))) (inner:=[.slice A1 l1.length c1]) (ok:=(fun k_=>(j7 k_∨w.heap.size≤k_)∧k_ ≠ ai)) (cC:=(fun k_=>(j7 k_∨w.heap.size≤k_)∧k_ ≠ ai)) ?hr ?hp (fun _ hk=>hk) ((show ∀ k_,w8.heap.size≤k_→(fun k_=>(j7 k_∨w.heap.size≤k_)∧k_ ≠ ai) k_ from fun k_ hk=>⟨(.inr (Nat.le_trans (aU bl) hk)),Kd.Cy (g:=ai) (o:=sO af au aa aq 31) bk k_ hk⟩) _ (Nat.le_refl _)) (Below.refl _ _) (Nat.le_refl _) (by simp) ?_;(case hd=>rfl);(case hg=>rfl);(case hr=>first|(go_simp;done)|(go_simp;rfl));(case hp=>exact (bY.one (show Kd.FK (Kd.slice 2 (Kd.int .i64)) _ _ l1 [.slice A1 l1.length c1] from (Kd.EE (Kd.xq (Kd.uN (ok':=(fun k_=>(j7 k_∨w.heap.size≤k_)∧k_ ≠ ai)) (fU.out) (fun k_ hk=>⟨hk.1,hk.2⟩))).2.1 (Kd.Fa (Kd.uN (ok':=(fun k_=>(j7 k_∨w.heap.size≤k_)∧k_ ≠ ai)) (fU.out) (fun k_ hk=>⟨hk.1,hk.2⟩))))) (bY.none _ _)));intro dw fJ rI hb ew ey;clear ew ey;(first|rw [← alG.out] at rI|(simp only [Int.reduceToNat] at rI;rw [← alG.out] at rI));replace fU:=k0 (Kd.yO (aV fU.out) (Kd.At rI) hb);have a_:=k0 (Kd.B2 rI (aU bl));replace ah:=k0 (alg (g:=ai) (o:=sO af au aa aq 31) bk hb);replace HB:=k0 (aG bl hb);clear hb rI;obtain ⟨jI,gT,vY⟩:=Kd.ans a_.out;subst vY)|((with_reducible refine fo (f:=89) rfl ?_);refine fq (some 13) rfl rfl Try.func89 (by kernel_rfl) rfl #[.agg #[.int .i64 af,.slice au aa.length aq],.int .i64 a2,.slice jI eT.length gT] rfl gm ?_;(with_reducible refine (alJ.calls k af _ _ aa a2 _ _ eT t105 _ ?bt ?bu ?dZ ?ez A4.out).mono ?_);(case bt=>exact aC (Kd.bI alx.out HB.out));(case bu=>exact di.out);(case dZ=>exact aC ((Kd.uJ a_.out).2.2));(case ez=>exact (Kd.uJ a_.out).2.1);rintro e alU ⟨rfl,hb⟩;refine ⟨_,rfl,?_⟩;replace fU:=k0 (Kd.xp (aV fU.out) hb);replace a_:=k0 (Kd.xm (aN a_.out) hb);replace ah:=k0 (alg (g:=ai) (o:=sO af au aa aq 31) bk hb);replace HB:=k0 (aG bl hb);(try clear hb);have wm:alU.cell? ⟨ai,0,none⟩=some (.int .i64 af):=(av ah.out 0).trans rfl;have wo:alU.cell? ⟨ai,1,none⟩=some (.slice au aa.length aq):=(av ah.out 1).trans rfl;have wC:=ale ah.out 0;have wD:=ale ah.out 1)|((with_reducible refine fo (f:=91) rfl ?_);refine fq (some 18) rfl rfl Try.func91 (by kernel_rfl) rfl #[.agg #[.int .i64 af,.slice au aa.length aq]] rfl gm ?_;(with_reducible refine (dL.calls k af _ _ aa t106 _ ?bt ?bu A6.out).mono ?_);(case bt=>exact aC (Kd.bI alx.out HB.out));(case bu=>exact di.out);rintro e oN ⟨v107,rfl,aY,hb⟩;refine ⟨_,rfl,?_⟩;replace fU:=k0 (Kd.yO (aV fU.out) (Kd.At (Kd.IX aY)) hb);have uG:=k0 (Kd.B2 (Kd.NW (ok':=fun k_=>(j7 k_∨w.heap.size≤k_)∧some k_ ≠ (.slice jI eT.length gT:Value).ownBlock∧k_ ≠ ai) (Kd.IX (Kd.AA aY)) (fun k_ b8=>⟨(.inr (Nat.le_trans (aU bl) b8.2.1)),(Kd.fresh' (Kd.NV (aN a_.out)) k_ b8.2.1),(Kd.Cy (g:=ai) (o:=sO af au aa aq 31) bk k_ b8.2.1)⟩)) (aU bl));replace a_:=k0 (Kd.E2 (aN a_.out) (Kd.At (Kd.IX aY)) hb);replace ah:=k0 (alg (g:=ai) (o:=sO af au aa aq 31) bk hb);replace HB:=k0 (aG bl hb);(try clear hb);(try clear aY);obtain ⟨MK,xC,Jw⟩:=Kd.ans uG.out;subst Jw)|((with_reducible refine fo (f:=90) rfl ?_);refine fq (some 21) rfl rfl Try.func90 (by kernel_rfl) rfl #[.slice MK t106.length xC,.slice A1 l1.length c1,.int .i64 a2] rfl gm ?_;(with_reducible refine (bW.calls k _ _ t106 _ _ l1 a2 t109 _ ?bt ?bu ?dZ ?ez A7.out).mono ?_);(case bt=>exact aC ((Kd.uJ uG.out).2.2));(case bu=>exact (Kd.uJ uG.out).2.1);(case dZ=>exact aC ((Kd.xq fU.out).2.2));(case ez=>exact (Kd.xq fU.out).2.1);rintro e nc ⟨akv,rfl,aY,hb⟩;refine ⟨_,rfl,?_⟩;replace fU:=k0 (Kd.yO (aV fU.out) (Kd.dV aY) hb);replace a_:=k0 (Kd.E2 (aN a_.out) (Kd.dV aY) hb);replace uG:=k0 (Kd.E2 (aN uG.out) (Kd.dV aY) hb);have Vk:=k0 (Kd.d_ (Kd.N4 (M:=fun k_=>(w.heap.size≤k_)) aY (aU bl) (fun k_ h_=>h_)) (aU bl));replace ah:=k0 (alg (g:=ai) (o:=sO af au aa aq 31) bk hb);replace HB:=k0 (aG bl hb);(try clear hb);(try clear aY)))
 go_ret2
 exact ⟨_,by first|rfl|(simp [bA,bB]<;>rfl)|(simp [*,bA,bB]<;>rfl),by (with_reducible repeat (first|apply Kd.bO|apply Kd.bR|apply Kd.alp));exact Kd.bx Vk.out (fun _ hk=>hk.1),bl⟩
/-! ### F26: function 26 -/
def gB.l0 : Nat → List Int → List Int → Int → Option (List Int)
 | 0,_,_,_=>none
 | k+1,x0,x3,x4=>if x4 < (x0.length:Int) then (if 0≤x4 then (if x4 < (x3.length:Int) then (gB.l0 k x0 (x3.set (x4:Int).toNat (rd x0 x4)) (wrap64 (x4+1))) else (none)) else (none)) else (some x3)
def gB.f (k:Nat) (l0:List Int):Option (List Int):=if 0≤(l0.length:Int) then (if ((l0.length:Int):Int).toNat≤35184372088832 then (gB.l0 k l0 (List.replicate ((l0.length:Int):Int).toNat 0) 0) else (none)) else (none)
theorem gB.cj : ∀ k, (∀ y0 y1 y2, aj (gB.l0 k y0 y1 y2) (gB.l0 (k + 1) y0 y1 y2))
 | 0=>fun _ _ _ r h=>by simp [gB.l0] at h
 | k+1=>by
  have ali:=gB.cj k
  ·intro y0 y1 y2
   unfold gB.l0
   repeat' first
    | (with_reducible first|exact ali _ _ _|exact aj.refl _|exact aj.none _|refine aj.ite ?_ ?_|refine aj.bind ?_ (fun _=>?_))
    | exact ali _ _ _|exact aj.none _|refine aj.ite ?_ ?_|refine aj.bind ?_ (fun _=>?_)
theorem gB.mono:∀ a0 k,aj (gB.f k a0) (gB.f (k+1) a0):=by
 intro a0 k
 have ali:=gB.cj k
 unfold gB.f
 repeat' first
  | (with_reducible first|exact ali _ _ _|exact aj.refl _|exact aj.none _|refine aj.ite ?_ ?_|refine aj.bind ?_ (fun _=>?_))
  | exact ali _ _ _|exact aj.none _|refine aj.ite ?_ ?_|refine aj.bind ?_ (fun _=>?_)
set_option maxHeartbeats 8000000 in
set_option maxRecDepth 100000 in
theorem gB.calls (k : Nat) (A0 : Option Addr) (c0 : Nat) (l0 : List Int) (r : List Int) (w : World) (cI : Kd.C (Kd.int .i64) w A0 l0.length l0) (hc0 : l0.length ≤ c0) (h : gB.f k l0 = some r) :
  Calls Try.prog 26 #[.slice A0 l0.length c0] w fun e w'=>∃ cF:Value,e=.returned (cF)∧Kd.R (Kd.int .i64) 2 w' w.heap.size (fun _=>True) cF r∧Below w.heap.size w w':=by
 have eA:=k0 cI
 have kP:=k0 hc0
 clear cI hc0
 have HB:=k0 (Below.refl w.heap.size w)
 have H:(if 0≤(l0.length:Int) then (if ((l0.length:Int):Int).toNat≤35184372088832 then (gB.l0 k l0 (List.replicate ((l0.length:Int):Int).toNat 0) 0) else (none)) else (none))=some r:=h
 clear h
 replace H:=iS H;obtain ⟨c2,H⟩:=H
 have Cl:=eq_true c2
 have Je:=decide_eq_true c2
 clear c2
 replace H:=iS H;obtain ⟨c3,H⟩:=H
 have ja:=eq_true c3
 have ov:=decide_eq_true c3
 clear c3
 obtain ⟨iJ,fy⟩:∃ y_:List Int,y_=(List.replicate ((l0.length:Int):Int).toNat 0):=⟨_,rfl⟩
 replace H:(gB.l0 k l0 iJ 0)=some r:=by first|(rw [fy];with_reducible exact H)|(have ax:=(Option.bind_some _ _).symm.trans H;rw [fy];with_reducible exact ax)|(have ax:=(Option.bind_some _ _).symm.trans H;with_reducible exact ax)|with_reducible exact H|(rw [fy];exact H)|exact H
 have lz:=k0 fy
 clear fy
 have H':=k0 H
 clear H
 go_enter Try.func26,Try.ntmps26
 go_wp2_with (first|((with_reducible refine cy (N:=7) rfl ?_);refine Kd.yL (Kd.int .i64) _ 2 rfl (N:=7) rfl 28 _ _ rfl (l0.length:Int) rfl rfl Try.underlying28 (.int .i64 0) 8 lF rfl (by decide) (by omega) 0 (ok:=fun _=>True) (cC:=fun _=>True) rfl (fun _ hk=>hk) trivial oD (Nat.le_trans (Nat.mul_le_mul_right _ (oD:(l0.length:Int).toNat≤35184372088832)) (by omega)) (Below.refl _ _) (Nat.le_refl _) ?_;intro lT w4 tV hb ew ey;clear ew ey;(first|rw [← lz.out] at tV|(simp only [Int.reduceToNat] at tV;rw [← lz.out] at tV));have kQ:=k0 (Kd.d_ tV (aU bl));replace HB:=k0 (aG bl hb);clear hb tV))
 go_loopg [4] k (fun kq v4 w'=>∃ (bE:List Int) (aZ:Int),v4=.int .i64 aZ∧ak (gB.l0 kq l0 bE aZ=some r)∧ak (kq≤k)∧ak (Kd.R (Kd.int .i64) 2 w' w.heap.size (fun _=>True) lT bE)∧ak (Below w.heap.size w w'))
 case atStart=>exact ⟨(iJ),(0),rs,H',⟨Nat.le_refl _⟩,⟨aR (kQ.out)⟩,⟨bl⟩⟩
 case round =>
  clear H'
  (try clear c2);(try clear Cl);(try clear Je);(try clear c3);(try clear ja);(try clear ov)
  obtain ⟨bE,aZ,rfl,HA,aM,az,HB⟩:=hrel
  cases gk with
  | zero=>exact absurd HA.out (by simp [gB.l0])
  | succ k1 =>
   have H:=HA.out
   clear HA
   simp only [gB.l0] at H
   by_cases c6:aZ < (l0.length:Int)
   case neg =>
    rw [if_neg c6] at H
    have jk:decide (aZ < (l0.length:Int))=false:=decide_eq_false c6
    clear c6
    obtain rfl:=Option.some.inj H
    go_wp2
    go_ret
    exact ⟨_,by first|rfl|(simp [bA,bB]<;>rfl)|(simp [*,bA,bB]<;>rfl),by (with_reducible repeat (first|apply Kd.bO|apply Kd.bR|apply Kd.alp));exact az.out,bl⟩
   rw [if_pos c6] at H
   have jk:=decide_eq_true c6
   clear c6
   replace H:=iS H;obtain ⟨c7,H⟩:=H
   have iz:=decide_eq_true c7
   clear c7
   replace H:=iS H;obtain ⟨c8,H⟩:=H
   have jw:=decide_eq_true c8
   clear c8
   obtain ⟨jn,alC⟩:∃ y_:List Int,y_=(bE.set (aZ:Int).toNat (rd l0 aZ)):=⟨_,rfl⟩
   replace H:(gB.l0 k1 l0 jn (wrap64 (aZ+1)))=some r:=by first|(rw [alC];with_reducible exact H)|(have ax:=(Option.bind_some _ _).symm.trans H;rw [alC];with_reducible exact ax)|(have ax:=(Option.bind_some _ _).symm.trans H;with_reducible exact ax)|with_reducible exact H|(rw [alC];exact H)|exact H
   have lJ:=k0 alC
   clear alC
   have H':=k0 H
   clear H
   have cV:0≤(aZ:Int):=oD
   have cW:aZ < (l0.length:Int):=oD
   obtain ⟨ku,e104,cN⟩:=Kd.bS eA.out aZ cV cW
   cases e104
   replace cN:=hbc HB cN
   replace cV:=eq_true cV
   replace cW:=eq_true cW
   have p9:0≤(aZ:Int):=oD
   have q9:(aZ:Int) < ((bE.length:Int):Int):=oD
   obtain ⟨za,Fu,vZ,CB,JS,X7,BW⟩:=Kd.kT az.out (by omega)
   (first|cases vZ|(injection vZ with aW aly c_;(first|subst aW|(injection aW with aW;subst aW));subst c_;clear aly))
   have anH:=k0 CB
   have U3:=k0 BW
   clear CB JS BW
   obtain ⟨zJ,Kv⟩:=Kd.js 0 az.out (aZ:Int) p9 q9
   replace p9:=eq_true p9
   replace q9:=eq_true q9
   have anU:=Kd.kr az.out (aZ:Int) (rd l0 aZ)
   go_wp2_with (first|((with_reducible refine kW (t:=2) (p:=20) rfl ?_);refine alT (t:=2) (p:=20) (v:=?ak1) (w1:=(wr.setCell ⟨za,(aZ:Int).toNat,none⟩ (.int .i64 (rd l0 aZ)))) ?hg ?ho ?hn ?hr ?_;(case ho=>rfl);(case hg=>rfl);(case hn=>rfl);(case hr=>first|(go_simp;done)|(go_simp;rfl));intro eM hw;have hg:wr.grownBy eM (some za):=(by rw [hw];exact anU.2);have dO:Kd.R (Kd.int .i64) 2 eM w.heap.size (fun _=>True) (.slice (some ⟨za,0,none⟩) bE.length Fu) jn:=(by rw [hw,lJ.out];exact anU.1);clear anU;replace az:=k0 (dO);replace HB:=k0 ((by rw [hw];exact dI (HB.out) anH.out:Below w.heap.size w eM));clear hg hw dO))
   go_roundg k1
   case measure=>have:=aM.out;omega
   case rel=>exact ⟨(jn),(wrap64 (aZ+1)),rs,H',⟨by have:=aM.out;omega⟩,⟨aR (az.out)⟩,⟨bl⟩⟩
/-! ### F83: function 83 -/
def iD.l0 : Nat → List (List Int) → List (List Int) → Int → Option ((List (List Int)))
 | 0,_,_,_=>none
 | k+1,x0,x3,x4=>if x4 < (x0.length:Int) then (if 0≤x4 then ((gB.f k (ag x0 x4)).bind fun t105=>(if x4 < (x3.length:Int) then (iD.l0 k x0 (x3.set (x4:Int).toNat t105) (wrap64 (x4+1))) else (none))) else (none)) else (some x3)
def iD.f (k:Nat) (l0:List (List Int)):Option ((List (List Int))):=if 0≤(l0.length:Int) then (if ((l0.length:Int):Int).toNat≤11728124029610 then (iD.l0 k l0 (List.replicate ((l0.length:Int):Int).toNat []) 0) else (none)) else (none)
theorem iD.cj : ∀ k, (∀ y0 y1 y2, aj (iD.l0 k y0 y1 y2) (iD.l0 (k + 1) y0 y1 y2))
 | 0=>fun _ _ _ r h=>by simp [iD.l0] at h
 | k+1=>by
  have ali:=iD.cj k
  ·intro y0 y1 y2
   unfold iD.l0
   repeat' first
    | (with_reducible first|exact ali _ _ _|exact gB.mono _ _|exact aj.refl _|exact aj.none _|refine aj.ite ?_ ?_|refine aj.bind ?_ (fun _=>?_))
    | exact ali _ _ _|exact gB.mono _ _|exact aj.none _|refine aj.ite ?_ ?_|refine aj.bind ?_ (fun _=>?_)
theorem iD.mono:∀ a0 k,aj (iD.f k a0) (iD.f (k+1) a0):=by
 intro a0 k
 have ali:=iD.cj k
 unfold iD.f
 repeat' first
  | (with_reducible first|exact ali _ _ _|exact gB.mono _ _|exact aj.refl _|exact aj.none _|refine aj.ite ?_ ?_|refine aj.bind ?_ (fun _=>?_))
  | exact ali _ _ _|exact gB.mono _ _|exact aj.none _|refine aj.ite ?_ ?_|refine aj.bind ?_ (fun _=>?_)
set_option maxHeartbeats 8000000 in
set_option maxRecDepth 100000 in
theorem iD.calls (k : Nat) (A0 : Option Addr) (c0 : Nat) (l0 : List (List Int)) (r : List (List Int)) (w : World) (cI : Kd.C (Kd.slice 2 (Kd.int .i64)) w A0 l0.length l0) (hc0 : l0.length ≤ c0) (h : iD.f k l0 = some r) :
  Calls Try.prog 83 #[.slice A0 l0.length c0] w fun e w'=>∃ cF:Value,e=.returned (cF)∧Kd.S (Kd.slice 2 (Kd.int .i64)) 28 w' w.heap.size (fun _=>True) cF r∧Below w.heap.size w w':=by
 have eA:=k0 cI
 have kP:=k0 hc0
 clear cI hc0
 have HB:=k0 (Below.refl w.heap.size w)
 have H:(if 0≤(l0.length:Int) then (if ((l0.length:Int):Int).toNat≤11728124029610 then (iD.l0 k l0 (List.replicate ((l0.length:Int):Int).toNat []) 0) else (none)) else (none))=some r:=h
 clear h
 replace H:=iS H;obtain ⟨c2,H⟩:=H
 have Cl:=eq_true c2
 have Je:=decide_eq_true c2
 clear c2
 replace H:=iS H;obtain ⟨c3,H⟩:=H
 have ja:=eq_true c3
 have ov:=decide_eq_true c3
 clear c3
 obtain ⟨iJ,fy⟩:∃ y_:List (List Int),y_=(List.replicate ((l0.length:Int):Int).toNat []):=⟨_,rfl⟩
 replace H:(iD.l0 k l0 iJ 0)=some r:=by first|(rw [fy];with_reducible exact H)|(have ax:=(Option.bind_some _ _).symm.trans H;rw [fy];with_reducible exact ax)|(have ax:=(Option.bind_some _ _).symm.trans H;with_reducible exact ax)|with_reducible exact H|(rw [fy];exact H)|exact H
 have lz:=k0 fy
 clear fy
 have H':=k0 H
 clear H
 go_enter Try.func83,Try.ntmps83
 go_wp2_with (first|((with_reducible refine cy (N:=7) rfl ?_);refine Kd.Ws (Kd.slice 2 (Kd.int .i64)) _ 28 rfl (N:=7) rfl 22 _ _ rfl (l0.length:Int) rfl rfl Try.underlying22 (.slice none 0 0) 24 yb rfl (by decide) (by omega) [] (ok:=fun _=>True) (cC:=fun _=>True) ⟨_,rfl,Kd.xo _ _ _ _ _⟩ (fun _ hk=>hk) trivial oD (Nat.le_trans (Nat.mul_le_mul_right _ (oD:(l0.length:Int).toNat≤11728124029610)) (by omega)) (Below.refl _ _) (Nat.le_refl _) ?_;intro lT w4 tV hb ew ey;clear ew ey;(first|rw [← lz.out] at tV|(simp only [Int.reduceToNat] at tV;rw [← lz.out] at tV));have kQ:=k0 (Kd.pU tV (aU bl));replace HB:=k0 (aG bl hb);clear hb tV))
 go_loopg [4] k (fun kq v4 w'=>∃ (bE:List (List Int)) (aZ:Int),v4=.int .i64 aZ∧ak (iD.l0 kq l0 bE aZ=some r)∧ak (kq≤k)∧ak (Kd.S (Kd.slice 2 (Kd.int .i64)) 28 w' w.heap.size (fun _=>True) lT bE)∧ak (Below w.heap.size w w'))
 case atStart=>exact ⟨(iJ),(0),rs,H',⟨Nat.le_refl _⟩,⟨aS (kQ.out)⟩,⟨bl⟩⟩
 case round =>
  clear H'
  (try clear c2);(try clear Cl);(try clear Je);(try clear c3);(try clear ja);(try clear ov)
  obtain ⟨bE,aZ,rfl,HA,aM,az,HB⟩:=hrel
  cases gk with
  | zero=>exact absurd HA.out (by simp [iD.l0])
  | succ k1 =>
   have H:=HA.out
   clear HA
   simp only [iD.l0] at H
   by_cases c6:aZ < (l0.length:Int)
   case neg =>
    rw [if_neg c6] at H
    have jk:decide (aZ < (l0.length:Int))=false:=decide_eq_false c6
    clear c6
    obtain rfl:=Option.some.inj H
    go_wp2
    go_ret
    exact ⟨_,by first|rfl|(simp [bA,bB]<;>rfl)|(simp [*,bA,bB]<;>rfl),by (with_reducible repeat (first|apply Kd.alN|apply Kd.ig|apply Kd.fI));exact az.out,bl⟩
   rw [if_pos c6] at H
   have jk:=decide_eq_true c6
   clear c6
   replace H:=iS H;obtain ⟨c7,H⟩:=H
   have iz:=decide_eq_true c7
   clear c7
   replace H:=Option.bind_eq_some_iff.mp H
   obtain ⟨t105,ME,H⟩:=H
   replace H:(if aZ < (bE.length:Int) then (iD.l0 k1 l0 (bE.set (aZ:Int).toNat t105) (wrap64 (aZ+1))) else (none))=some r:=H
   have A8:=k0 ME
   clear ME
   replace H:=iS H;obtain ⟨c9,H⟩:=H
   have mg:=decide_eq_true c9
   clear c9
   obtain ⟨mG,ij⟩:∃ y_:List (List Int),y_=(bE.set (aZ:Int).toNat t105):=⟨_,rfl⟩
   replace H:(iD.l0 k1 l0 mG (wrap64 (aZ+1)))=some r:=by first|(rw [ij];with_reducible exact H)|(have ax:=(Option.bind_some _ _).symm.trans H;rw [ij];with_reducible exact ax)|(have ax:=(Option.bind_some _ _).symm.trans H;with_reducible exact ax)|with_reducible exact H|(rw [ij];exact H)|exact H
   have amn:=k0 ij
   clear ij
   have H':=k0 H
   clear H
   have cV:0≤(aZ:Int):=oD
   have cW:aZ < (l0.length:Int):=oD
   obtain ⟨ku,vv,vP,e104,cN,lp,lg⟩:=cZ eA.out aZ cV cW
   cases e104
   replace cN:=hbc HB cN
   have rX:=k0 lg
   have vE:=k0 lp
   clear lg lp
   replace cV:=eq_true cV
   replace cW:=eq_true cW
   go_wp2_with (first|((with_reducible refine fo (f:=26) rfl ?_);refine fq (some 20) rfl rfl Try.func26 (by kernel_rfl) rfl #[.slice vv (ag l0 aZ).length vP] rfl gm ?_;(with_reducible refine (gB.calls k1 _ _ (ag l0 aZ) t105 _ ?bt ?bu A8.out).mono ?_);(case bt=>exact aC (Kd.bI rX.out HB.out));(case bu=>exact vE.out);rintro e eM ⟨gj,rfl,aY,hb⟩;refine ⟨_,rfl,?_⟩;replace az:=k0 (Kd.qw (aS az.out) (Kd.dV aY) hb);have cO:=k0 (Kd.d_ aY (aU bl));replace HB:=k0 (aG bl hb);(try clear hb);(try clear aY);have al7:0≤(aZ:Int):=oD;have al9:(aZ:Int) < ((bE.length:Int):Int):=oD;obtain ⟨tq,pY,qB,Cz,JQ,X5,BU⟩:=Kd.IZ az.out (by omega);(first|cases qB|(injection qB with aW aly c_;(first|subst aW|(injection aW with aW;subst aW));subst c_;clear aly));have Hz:=k0 Cz;have UX:=k0 BU;clear Cz JQ BU;obtain ⟨_,agP,aaH,P1,Qd,QT,_,_⟩:=Kd.IY az.out [] (aZ:Int) al7 al9;obtain ⟨akJ,rfl,ahq⟩:=P1;have Bn:=Qd 0 _ rfl;have QK:=QT 0;(try simp only [show ((Kd.slice 2 (Kd.int .i64))).sz=1 from rfl,Nat.mul_one,Nat.add_zero] at Bn);(try simp only [show ((Kd.slice 2 (Kd.int .i64))).sz=1 from rfl,Nat.mul_one,Nat.add_zero] at QK);(try clear P1);clear aaH Qd QT ;replace al7:=eq_true al7;replace al9:=eq_true al9;have n_:=k0 (Kd.iM (ok':=(fun k_=>some k_ ≠ (gj:Value).ownBlock)) az.out (fun k_ hk=>hk.2));clear az;have az:=n_;clear n_;have Vy:=k0 (show Kd.S (Kd.slice 2 (Kd.int .i64)) 28 eM w.heap.size (fun k_=>((fun _=>True)) k_∧¬ ((fun k_=>some k_=(gj:Value).ownBlock)) k_) (.slice (some ⟨tq,0,none⟩) bE.length pY) bE from (by (with_reducible repeat (first|apply Kd.alN|apply Kd.ig|apply Kd.fI));exact Kd.iM az.out (fun k_ hk=>⟨trivial,fun e_=>hk e_⟩)));obtain ⟨akh,agW,aaI,P2,Qk,QU,abO,PS⟩:=Kd.IY Vy.out [] (aZ:Int) oD (by have h_:(aZ:Int) < ((bE.length:Int):Int):=oD;first|exact h_|(have e_:=(Kd.ck az.out).1;omega)|simpa using h_);obtain ⟨akU,rfl,ahr⟩:=P2;have xh:=Kd.Wv PS oD (by have h_:(aZ:Int) < ((bE.length:Int):Int):=oD;first|exact h_|(have e_:=(Kd.ck az.out).1;omega)|simpa using h_) (seg:=[gj]) (j:=0) (show 1≤1 from by decide) (x':=t105) (Kd.amh (Kd.bx (Kd.ami rfl (Kd.bx (ok':=fun k_=>((fun _=>True)) k_∧k_ ≠ tq) (Kd.pq (cO.out) (Kd.l7 az.out) (by decide)) (fun k_ hk=>⟨trivial,fun e_=>(hk.2) (by rw [e_];rfl)⟩))) (fun _ h_=>Or.inr (h_)))) (fun _ hk=>hk) (fun k_ b8=>((Kd.bx (ok':=fun k_=>((fun _=>True)) k_∧k_ ≠ tq) (Kd.pq (cO.out) (Kd.l7 az.out) (by decide)) (fun k_ hk=>⟨trivial,fun e_=>(hk.2) (by rw [e_];rfl)⟩))).1 k_ b8.symm);have ab4:=Qk 0 _ rfl;(try simp only [show ((Kd.slice 2 (Kd.int .i64))).sz=1 from rfl,Nat.mul_one,Nat.add_zero] at ab4);have abb:=QU 0;(try simp only [show ((Kd.slice 2 (Kd.int .i64))).sz=1 from rfl,Nat.mul_one,Nat.add_zero] at abb);(try clear P2);clear aaI Qk QU abO PS;(try simp only [show ((Kd.slice 2 (Kd.int .i64))).sz=1 from rfl,Nat.mul_one,Nat.add_zero] at xh))|((with_reducible refine kW (t:=28) (p:=21) rfl ?_);refine alT (t:=28) (p:=21) (v:=?ak2) (w1:=(eM.setCell ⟨tq,(aZ:Int).toNat,none⟩ (gj))) ?hg ?ho ?hn ?hr ?_;(case ho=>rfl);(case hg=>rfl);(case hn=>rfl);(case hr=>first|(go_simp;done)|(go_simp;rfl)|(obtain ⟨_,_,zG⟩:=Kd.fh (v:=gj) (ak.out (by assumption));subst zG;(first|(go_simp;done)|(go_simp;rfl)))|(obtain ⟨_,_,zG⟩:=Kd.qx (v:=gj) (ak.out (by assumption));subst zG;(first|(go_simp;done)|(go_simp;rfl))));intro alU hw;have hg:eM.grownBy alU (some tq):=(by rw [hw];exact xh.2);have dO:Kd.S (Kd.slice 2 (Kd.int .i64)) 28 alU w.heap.size (fun _=>True) (.slice (some ⟨tq,0,none⟩) bE.length pY) mG:=(by rw [hw,amn.out];exact xh.1);clear xh;have aK:=k0 (dO);have alf:=k0 ((by rw [hw];exact dI (HB.out) Hz.out:Below w.heap.size w alU));clear az;clear HB;clear cO;have az:=aK;have HB:=alf;clear aK alf;clear hg hw dO))
   go_roundg k1
   case measure=>have:=aM.out;omega
   case rel=>exact ⟨(mG),(wrap64 (aZ+1)),rs,H',⟨by have:=aM.out;omega⟩,⟨aS (az.out)⟩,⟨bl⟩⟩
theorem o_.Fp (k : Nat) (af : Int) (au : Option Addr) (aq : Nat) (aa : List (List Int)) (A1 : Option Addr) (c1 : Nat) (l1 : List Int) (a2 : Int) (r1 : List Int) (r2 : Int) (w : World) (cl : Kd.C (Kd.slice 2 (Kd.int .i64)) w au aa.length aa) (cn : aa.length ≤ aq) (cE : Kd.C (Kd.int .i64) w A1 l1.length l1) (dW : l1.length ≤ c1) (h : o_.f k af aa l1 a2 = some (r1, r2)) :
  Calls Try.prog 24 #[.agg #[.int .i64 af,.slice au aa.length aq],.slice A1 l1.length c1,.int .i64 a2] w fun e w'=>∃ cF:Value,e=.returned (.tuple #[cF,.int .i64 r2])∧Kd.R (Kd.int .i64) 2 w' w.heap.size (fun _=>True) cF r1∧Below w.heap.size w w':=by
 refine (o_.calls k af au aq aa (fun k_=>k_ < w.heap.size) A1 c1 l1 a2 r1 r2 w cl cn (Kd.Oe dW (Kd.MP (Kd.QI .i64) cE)) h).mono ?_
 rintro e w' ⟨cF,he,hR,hb⟩
 exact ⟨cF,he,Kd.bx hR (fun _ _=>trivial),hb⟩
end Go.Proofs.Ytoebojnhchocaaa.B
/- Set with little white space, by a program. -/
