/- The functions that one law reaches, each as a Lean function, and that Go's call comes to what it says. Condition of each: that the Lean function answers (is not none). -/
import Derived.Test.YtoebojnhchocaaaCx0
import Derived.Test.YtoebojnhchocaaaCx4
import Derived.Test.YtoebojnhchocaaaCx8
namespace Go.Proofs.Ytoebojnhchocaaa.C
open Go.RowKit Go.Proofs.bI.en Go.Proofs.bI.je Go.Proofs.bI.jC
attribute [local go_sem] max2_int min2_int max_two min_two max_three min_three max_four min_four   -- for this text's walks alone
set_option linter.unusedVariables false
set_option linter.unusedSimpArgs false
/-! ### F91: function 91 -/
mutual
def dO.l0 : Nat → List (List Int) → Int → Int → List (List Int) → Option ((List (List Int)))
 | 0,_,_,_,_=>none
 | k+1,x3,x4,bR,bJ=>if x4 < bR then (if 0≤x4 then (if x4 < (x3.length:Int) then (dO.l1 k x3 x4 0 bR bJ) else (none)) else (none)) else (some x3)
def dO.l1 : Nat → List (List Int) → Int → Int → Int → List (List Int) → Option ((List (List Int)))
 | 0,_,_,_,_,_=>none
 | k+1,x3,x4,x6,bR,bJ=>if x6 < bR then (if 0≤x6 then (if x6 < ((ah x3 x4).length:Int) then (dO.l1 k (x3.set (x4:Int).toNat ((ah x3 x4).set (x6:Int).toNat (wrap64 (-(rd (ah x3 x4) x6))))) x4 (wrap64 (x6+1)) bR bJ) else (none)) else (none)) else (if 0≤x4 then (if x4 < ((ah x3 x4).length:Int) then ((fC.f k bR bJ x4).bind fun t112=>(dO.l0 k (x3.set (x4:Int).toNat ((ah x3 x4).set (x4:Int).toNat (wrap64 ((rd (ah x3 x4) x4)+t112)))) (wrap64 (x4+1)) bR bJ)) else (none)) else (none))
end
def dO.f (k:Nat) (af:Int) (aa:List (List Int)):Option ((List (List Int))):=(eX.f k af aa).bind fun t102=>(dO.l0 k t102 0 af aa)
theorem dO.b8 : ∀ k, (∀ y0 y1 y2 y3, aj (dO.l0 k y0 y1 y2 y3) (dO.l0 (k + 1) y0 y1 y2 y3)) ∧ (∀ y0 y1 y2 y3 y4, aj (dO.l1 k y0 y1 y2 y3 y4) (dO.l1 (k + 1) y0 y1 y2 y3 y4))
 | 0=>⟨fun _ _ _ _ r h=>by simp [dO.l0] at h,fun _ _ _ _ _ r h=>by simp [dO.l1] at h⟩
 | k+1=>by
  obtain ⟨akk,ih1⟩:=dO.b8 k
  refine ⟨?_, ?_⟩ <;> intros <;> (first | unfold dO.l0 | unfold dO.l1) <;> repeat' first
   | (with_reducible first|exact akk _ _ _ _|exact ih1 _ _ _ _ _|exact eX.mono _ _ _|exact fC.mono _ _ _ _|exact aj.refl _|exact aj.none _|refine aj.ite ?_ ?_|refine aj.bind ?_ (fun _=>?_))
   | exact akk _ _ _ _|exact ih1 _ _ _ _ _|exact eX.mono _ _ _|exact fC.mono _ _ _ _|exact aj.none _|refine aj.ite ?_ ?_|refine aj.bind ?_ (fun _=>?_)
theorem dO.mono:∀ a0 a1 k,aj (dO.f k a0 a1) (dO.f (k+1) a0 a1):=by
 intro a0 a1 k
 obtain ⟨akk,ih1⟩:=dO.b8 k
 unfold dO.f
 repeat' first
  | (with_reducible first|exact akk _ _ _ _|exact ih1 _ _ _ _ _|exact eX.mono _ _ _|exact fC.mono _ _ _ _|exact aj.refl _|exact aj.none _|refine aj.ite ?_ ?_|refine aj.bind ?_ (fun _=>?_))
  | exact akk _ _ _ _|exact ih1 _ _ _ _ _|exact eX.mono _ _ _|exact fC.mono _ _ _ _|exact aj.none _|refine aj.ite ?_ ?_|refine aj.bind ?_ (fun _=>?_)
def dO.Bo:Bool × List (List Nat × List Nat):=(true,[([],[]),([],[]),([],[]),([],[]),([2,3],[2,3]),([4],[4]),([],[]),([],[]),([6,7],[6,7]),([5,8],[5,8]),([0,1,0,1,2,3,4,5,6,7,8,9],[0,1]),([10,9,8,0,1,2,3,4,5,6,7,8,9],[9,10])])
def dO.Gx:List Nat:=[0,0,0,0,12,28,0,0,192,508,1023,2047]
theorem dO.K9:gF .any (opsOf Try.f91 10)=dO.Bo:=by kernel_rfl
theorem dO.amO:akZ dO.Bo.2 dO.Gx=true:=by kernel_rfl
set_option maxHeartbeats 8000000 in
set_option maxRecDepth 100000 in
theorem dO.calls (k : Nat) (af : Int) (aq : Option Addr) (ak : Nat) (aa : List (List Int)) (r : List (List Int)) (w : World) (akv : Kd.C (Kd.slice 2 (Kd.int .i64)) w aq aa.length aa) (akw : aa.length ≤ ak) (h : dO.f k af aa = some r) :
  Calls Try.prog 91 #[.agg #[.int .i64 af,.slice aq aa.length ak]] w fun e w'=>∃ dK:Value,e=.returned (dK)∧Kd.S (Kd.slice 2 (Kd.int .i64)) 28 w' w.heap.size (fun _=>True) dK r∧Below w.heap.size w w':=by
 have j8:=Try.underlying31
 have bU:=k0 akv
 have cG:=k0 akw
 clear akv akw
 have HB:=k0 (Below.refl w.heap.size w)
 have H:((eX.f k af aa).bind fun t102=>(dO.l0 k t102 0 af aa))=some r:=h
 clear h
 replace H:=Option.bind_eq_some_iff.mp H
 obtain ⟨t102,lM,H⟩:=H
 replace H:(dO.l0 k t102 0 af aa)=some r:=H
 have A2:=k0 lM
 clear lM
 have H':=k0 H
 clear H
 go_enter Try.func91,Try.ntmps91
 go_wp2_with (first|((with_reducible refine cj (N:=1) rfl ?_);refine dJ ?hg (N:=1) ?hd (cs:=#[.int .i64 af,.slice aq aa.length ak]) (t:=31) ?hr ?_;(case hd=>rfl);(case hg=>rfl);(case hr=>first|(go_simp;done)|(go_simp;rfl));intro ai hg w3 aK hb;have ag:=k0 (aK);have aks:=k0 ((by rw [hg];exact (aU bl):w.heap.size≤ai));have ej:=aks;replace HB:=k0 (aI bl hb);clear hb aK hg;have wZ:w3.cell? ⟨ai,0,none⟩=some (.int .i64 af):=(av ag.out 0).trans rfl;have alF:w3.cell? ⟨ai,1,none⟩=some (.slice aq aa.length ak):=(av ag.out 1).trans rfl;have alJ:=aH ag.out 0;have alK:=aH ag.out 1)|((with_reducible refine cZ (f:=120) rfl ?_);refine c_ (some 8) rfl rfl Try.func120 (by kernel_rfl) rfl #[.agg #[.int .i64 af,.slice aq aa.length ak]] rfl gm ?_;(with_reducible refine (eX.calls k af _ _ aa t102 _ ?akn ?aT A2.out).mono ?_);(case akn=>exact aC (Kd.bA bU.out HB.out));(case aT=>exact cG.out);rintro e w5 ⟨dx,rfl,ake,hb⟩;refine ⟨_,rfl,?_⟩;have bh:=k0 (Kd.ak0 ake (aU bl));replace ag:=k0 (akj (g:=ai) (o:=sO af aq aa ak 31) bk hb);replace HB:=k0 (aI bl hb);(try clear hb);(try clear ake)))
 go_loopg [4] k (fun kq v4 w'=>∃ (bD:List (List Int)) (bg:Int),v4=.int .i64 bg∧au (dO.l0 kq bD bg af aa=some r)∧au (kq≤k)∧au (Kd.S (Kd.slice 2 (Kd.int .i64)) 28 w' w.heap.size (fun _=>True) dx bD)∧au (w'.heap[ai]?=some (sO af aq aa ak 31))∧au (Below w.heap.size w w'))
 case atStart=>exact ⟨(t102),(0),rs,H',⟨Nat.le_refl _⟩,⟨aS (bh.out)⟩,⟨bk⟩,⟨bl⟩⟩
 case round =>
  clear H'
  (try clear wZ);(try clear alF);(try clear alJ);(try clear alK)
  obtain ⟨bD,bg,rfl,HA,akl,az,ag,HB⟩:=hrel
  cases gk with
  | zero=>exact absurd HA.out (by simp [dO.l0])
  | succ k1 =>
   have H:=HA.out
   clear HA
   simp only [dO.l0] at H
   by_cases c6:bg < af
   case neg =>
    rw [if_neg c6] at H
    have akJ:decide (bg < af)=false:=decide_eq_false c6
    clear c6
    obtain rfl:=Option.some.inj H
    have aad:wr.cell? ⟨ai,0,none⟩=some (.int .i64 af):=(av ag.out 0).trans rfl
    have aae:wr.cell? ⟨ai,1,none⟩=some (.slice aq aa.length ak):=(av ag.out 1).trans rfl
    have aaK:=aH ag.out 0
    have aaL:=aH ag.out 1
    go_wp2
    go_ret
    exact ⟨_,by first|rfl|(simp [bq,bt]<;>rfl)|(simp [*,bq,bt]<;>rfl),by (with_reducible repeat (first|apply Kd.gI|apply Kd.gJ|apply Kd.eT));exact az.out,bl⟩
   rw [if_pos c6] at H
   have akJ:=decide_eq_true c6
   clear c6
   replace H:=iS H;obtain ⟨c7,H⟩:=H
   have gK:=decide_eq_true c7
   clear c7
   replace H:=iS H;obtain ⟨c8,H⟩:=H
   have iX:=decide_eq_true c8
   clear c8
   have H':=k0 H
   clear H
   have uf:wr.cell? ⟨ai,0,none⟩=some (.int .i64 af):=(av ag.out 0).trans rfl
   have ug:wr.cell? ⟨ai,1,none⟩=some (.slice aq aa.length ak):=(av ag.out 1).trans rfl
   have um:=aH ag.out 0
   have uo:=aH ag.out 1
   obtain ⟨ams,pn,qa⟩:=Kd.oK az.out
   subst qa
   have cX:0≤(bg:Int):=oD
   have cU:bg < (bD.length:Int):=oD
   obtain ⟨kr,ama,BA,e105,dY,qg,qd⟩:=cW (Kd.bY az.out).2.2 bg cX cU
   cases e105
   obtain ⟨af7,ZL,Zi,O7⟩:=Kd.mj az.out [] bg cX (by first|exact cU|exact oD|(have e_:=(Kd.bY az.out).1;omega))
   obtain ⟨ajK,rfl,IB⟩:=Zi
   have CM:=O7 0 _ rfl
   rw [Nat.add_zero,show ((Kd.slice 2 (Kd.int .i64))).sz=1 from rfl,Nat.mul_one] at CM
   replace CM:=Option.some.inj (CM.symm.trans dY)
   rw [CM] at IB
   have aft:=k0 (show Kd.R (Kd.int .i64) 2 _ _ _ _ (ah bD bg) from IB)
   clear CM IB
   have MO:=k0 dY
   clear O7 ZL
   have p4:=k0 qd
   have D7:=k0 qg
   clear qd qg
   replace cX:=eq_true cX
   replace cU:=eq_true cU
   go_wp2
   generalize P4:(.slice ama (ah bD bg).length BA:Value)=aeL
   have D9:=k0 P4
   clear P4
   go_loopg [6] k1 (fun kq v6 w'=>∃ (aE:List (List Int)) (gN:Int),v6=.int .i64 gN∧au (dO.l1 kq aE bg gN af aa=some r)∧au (kq≤k1)∧au (iC w' (.slice (some kr) bD.length pn) bg aeL)∧au (Kd.S (Kd.slice 2 (Kd.int .i64)) 28 w' w.heap.size (fun _=>True) (.slice (some kr) bD.length pn) aE)∧au (w'.heap[ai]?=some (sO af aq aa ak 31))∧au (Below w.heap.size w w'))
   case atStart=>exact ⟨(bD),(0),rs,H',⟨Nat.le_refl _⟩,⟨by (with_reducible repeat (first|apply iC.alloc|apply iC.drewN|apply iC.drew));first|exact ⟨_,_,_,rfl,(by first|exact of_eq_true cX|exact rP nD.out|omega),(by first|exact of_eq_true cU|exact mF nD.out|(have h_:=of_eq_true cU;omega)|(have h_:=mF nD.out;omega)),MO.out⟩|(rw [← D9.out];exact ⟨_,_,_,rfl,(by first|exact of_eq_true cX|exact rP nD.out|omega),(by first|exact of_eq_true cU|exact mF nD.out|(have h_:=of_eq_true cU;omega)|(have h_:=mF nD.out;omega)),MO.out⟩)⟩,⟨aS (az.out)⟩,⟨bk⟩,⟨bl⟩⟩
   case round =>
    clear H'
    (try clear c6);(try clear akJ);(try clear c7);(try clear gK);(try clear c8);(try clear iX);(try clear wZ);(try clear alF);(try clear uf);(try clear ug);(try clear alJ);(try clear alK);(try clear um);(try clear uo);(try clear dY);(try clear cX);(try clear cU)
    obtain ⟨aE,gN,rfl,HA,bz,nD,az,ag,HB⟩:=hrel
    have fE:=(Kd.bY az.out).1
    rw [fE] at az
    (try simp only [fE])
    (try simp only [fE] at ag)
    cases gk with
    | zero=>exact absurd HA.out (by simp [dO.l1])
    | succ k2 =>
     have H:=HA.out
     clear HA
     simp only [dO.l1] at H
     by_cases c11:gN < af
     case neg =>
      rw [if_neg c11] at H
      have mz:decide (gN < af)=false:=decide_eq_false c11
      clear c11
      replace H:=iS H;obtain ⟨c18,H⟩:=H
      have tY:=decide_eq_true c18
      clear c18
      replace H:=iS H;obtain ⟨c19,H⟩:=H
      have mA:=decide_eq_true c19
      (try simp only [fE] at mA)
      clear c19
      replace H:=Option.bind_eq_some_iff.mp H
      obtain ⟨t112,amb,H⟩:=H
      replace H:(dO.l0 k2 (aE.set (bg:Int).toNat ((ah aE bg).set (bg:Int).toNat (wrap64 ((rd (ah aE bg) bg)+t112)))) (wrap64 (bg+1)) af aa)=some r:=H
      have lM:=k0 amb
      clear amb
      obtain ⟨al9,alr⟩:∃ y_:List Int,y_=((ah aE bg).set (bg:Int).toNat (wrap64 ((rd (ah aE bg) bg)+t112))):=⟨_,rfl⟩
      replace H:(dO.l0 k2 (aE.set (bg:Int).toNat al9) (wrap64 (bg+1)) af aa)=some r:=by first|(rw [alr];with_reducible exact H)|(have ay:=(Option.bind_some _ _).symm.trans H;rw [alr];with_reducible exact ay)|(have ay:=(Option.bind_some _ _).symm.trans H;with_reducible exact ay)|with_reducible exact H|(rw [alr];exact H)|exact H
      have amE:=k0 alr
      clear alr
      obtain ⟨dU,gf⟩:∃ y_:List (List Int),y_=(aE.set (bg:Int).toNat al9):=⟨_,rfl⟩
      replace H:(dO.l0 k2 dU (wrap64 (bg+1)) af aa)=some r:=by first|(rw [gf];with_reducible exact H)|(have ay:=(Option.bind_some _ _).symm.trans H;rw [gf];with_reducible exact ay)|(have ay:=(Option.bind_some _ _).symm.trans H;with_reducible exact ay)|with_reducible exact H|(rw [gf];exact H)|exact H
      have mV:=k0 gf
      clear gf
      have H':=k0 H
      clear H
      have abH:decide (0≤bg)=true:=decide_eq_true (rP nD.out)
      have abJ:decide (bg < (aE.length:Int))=true:=decide_eq_true (by have h_:=mF nD.out;have e_:=(Kd.bY az.out).1;omega)
      have dN:0≤(bg:Int):=oD
      have dH:bg < (aE.length:Int):=oD
      obtain ⟨gB,Gs,ami,e106,dF,ali,sP⟩:=cW (Kd.bY az.out).2.2 bg dN dH
      obtain rfl:kr=gB:=(by injection e106)
      obtain ⟨WR,Ji,I7,Cd⟩:=Kd.mj az.out [] bg dN (by first|exact dH|exact oD|(have e_:=(Kd.bY az.out).1;omega))
      obtain ⟨aez,rfl,yf⟩:=I7
      have alk:=Cd 0 _ rfl
      rw [Nat.add_zero,show ((Kd.slice 2 (Kd.int .i64))).sz=1 from rfl,Nat.mul_one] at alk
      replace alk:=Option.some.inj (alk.symm.trans dF)
      rw [alk] at yf
      have qF:=k0 (show Kd.R (Kd.int .i64) 2 _ _ _ _ (ah aE bg) from yf)
      clear alk yf
      have oI:=k0 dF
      clear Cd Ji
      have oH:=k0 sP
      have GN:=k0 ali
      clear sP ali
      replace dN:=eq_true dN
      replace dH:=eq_true dH
      obtain rfl:=E5 nD.out oI.out
      have Pz:wr.cell? ⟨ai,0,none⟩=some (.int .i64 af):=(av ag.out 0).trans rfl
      have PA:wr.cell? ⟨ai,1,none⟩=some (.slice aq aa.length ak):=(av ag.out 1).trans rfl
      have PV:=aH ag.out 0
      have PW:=aH ag.out 1
      try go_wp2
      replace az:=k0 (Kd.eT az.out);replace qF:=k0 (Kd.bn qF.out);replace ag:=k0 (ct ag.out);replace oH:=k0 (Kd.jY oH.out);replace oI:=k0 ((show (wr.drew).cell? _=some _ from oI.out));replace HB:=k0 (cP HB.out)
      have gi:0≤(bg:Int):=oD
      have gl:bg < ((ah aE bg).length:Int):=oD
      obtain ⟨mX,e111,gM⟩:=Kd.bH (by repeat (first|(with_reducible exact oH.out)|(with_reducible refine Kd.kK ?_ _)|(with_reducible refine Kd.kY ?_ _)|(with_reducible refine Kd.jY ?_)|exact oH.out)) bg gi gl
      cases e111
      replace gi:=eq_true gi
      replace gl:=eq_true gl
      refine lJ (n:=12) (S:=fun w'=>w'.cell? ⟨ai,0,none⟩=some (.int .i64 af)∧w'.cell? ⟨ai,1,none⟩=some (.slice aq aa.length ak)∧w'.cell? (mX.add (bg).toNat)=some (.int .i64 (rd (ah aE bg) bg))) (ds:=[11]) (ba 12 0) (by kernel_rfl) rfl rfl ⟨(av ag.out 0).trans rfl,(av ag.out 1).trans rfl,gM⟩ (fun hHeld=>?_);refine qu dO.K9 dO.amO (fun aA dh=>?_)
      generalize wr.drew=vW at az qF ag oH oI HB gM hHeld ⊢
      refine pu 0 (some 33) (ba 12 1) aA (h:=?_)
      refine pu 1 (some 34) (ba 12 3) aA (h:=?_)
      refine pu 2 (some 35) (ba 12 7) aA (h:=?_)
      refine pu 3 (some 36) (ba 12 15) aA (h:=?_)
      refine pu 4 (some 37) (ba 12 31) aA (h:=?_)
      refine pu 7 (some 40) (ba 12 159) aA (h:=?_)
      refine ta 5 (some 38) (ba 12 191) aA dh hHeld (hy:=Or.inl ⟨by rfl,by rintro w' ⟨s0,s1,s2⟩;go_simp;with_reducible rfl⟩) (h:=?_)
      refine ta 6 (some 39) (ba 12 255) aA dh hHeld (hy:=Or.inl ⟨by rfl,by rintro w' ⟨s0,s1,s2⟩;go_simp;with_reducible rfl⟩) (h:=?_)
      refine lY (i:=8) (N:=some 41) (ba 12 511) rfl rfl (kF aA.out (by kernel_rfl)) (by decide) (fun K hK=>?_)
      refine lD Try.func177 (by kernel_rfl) rfl #[.agg #[.int .i64 af,.slice aq aa.length ak],.int .i64 bg] (by rfl) rfl rfl gm ?_
      with_reducible refine (fC.calls k2 af _ _ aa bg t112 _ ?akn ?aT lM.out).mono ?_
      (case akn=>exact aC (Kd.bA bU.out HB.out))
      (case aT=>exact cG.out)
      rintro e DP ⟨rfl,hb⟩
      have Uu:=(hb.cell (World.block_lt_of_cell? _ _ (hHeld.2.2))).trans (hHeld.2.2)
      refine ⟨_,rfl,?_⟩
      replace az:=k0 (Kd.akP (aS az.out) hb);replace qF:=k0 (Kd.di (aR qF.out) hb);replace ag:=k0 (akj (g:=ai) (o:=sO af aq aa ak 31) bk hb);replace oH:=k0 (Kd.bA (by repeat (first|(with_reducible exact oH.out)|(with_reducible refine Kd.kK ?_ _)|(with_reducible refine Kd.kY ?_ _)|(with_reducible refine Kd.jY ?_)|exact oH.out)) hb);replace oI:=k0 (Dy hb oI.out);replace HB:=k0 (aI bl hb)
      (try clear hb)
      have tD:0≤(bg:Int):=oD
      have alu:(bg:Int) < (((ah aE bg).length:Int):Int):=oD
      obtain ⟨sH,vk,rK,wO,B2,NI,wk⟩:=Kd.akT qF.out (by omega)
      (first|cases rK|(injection rK with bf dn dm;(first|subst bf|(injection bf with bf;subst bf));subst dm;clear dn))
      (first|simp only [add_plain] at gM|skip)
      have amg:=k0 wO
      have GK:=k0 wk
      clear wO B2 wk
      (first|simp only [add_plain] at gM|skip)
      obtain ⟨J5,JA⟩:=Kd.jD 0 qF.out (bg:Int) tD alu
      replace tD:=eq_true tD
      replace alu:=eq_true alu
      have JV:(bg:Int) < (aE.length:Int):=(by have h_:(bg:Int) < ((aE.length:Int):Int):=oD;first|exact h_|(have e_:=(Kd.bY az.out).1;omega)|simpa only [List.length_set,List.length_set] using h_)
      obtain ⟨RR,WT,Jk,I6,Cf,AA,Cb⟩:=Kd.zT az.out [] (bg:Int) oD (by first|exact JV|(have e_:=(Kd.bY az.out).1;omega))
      obtain ⟨aeB,rfl,sF⟩:=I6
      have vJ:=Cf 0 _ rfl
      rw [Nat.add_zero,show ((Kd.slice 2 (Kd.int .i64))).sz=1 from rfl,Nat.mul_one] at vJ
      replace vJ:=Option.some.inj (vJ.symm.trans oI.out)
      subst vJ
      clear Cf Jk
      replace sF:=(show Kd.R (Kd.int .i64) 2 _ _ _ _ (ah aE bg) from sF)
      have pY:=Kd.kP sF (bg:Int) (wrap64 ((rd (ah aE bg) bg)+t112))
      have afB:=k0 (Ab pY.2 oI.out (Ac (AA _ (sF.1 _ rfl)).2))
      rw [← amE.out] at pY
      have afx:=k0 pY.1
      have Hp:=Cb pY.2 (fun k_ e_=>by injection e_ with e_;subst e_;exact sF.1 _ rfl) (x':=al9) (Kd.rz pY.1)
      rw [← mV.out] at Hp
      have Uq:=k0 Hp
      clear pY Hp Cb AA
      refine hK.out _ _ ⟨(av ag.out 0).trans rfl,(av ag.out 1).trans rfl,Uu⟩ (fun hHeld=>?_)
      clear hK K
      refine aky (a':=?_) ?_ ?_
      rotate_left;· show Act.put _ (some 41) _=_;simp only [Act.put,zI,zZ,zS,akx,cu];rfl
      refine pu 9 (some 42) (ba 12 1023) aA (h:=?_)
      refine pu 10 (some 43) (ba 12 2047) aA (h:=?_)
      refine rU (i:=11) (N:=none) (ba 12 4095) rfl rfl (kF aA.out (by kernel_rfl)) (by decide) (fun K hK=>?_)
      refine pP (w1:=?_) (by rfl) rfl ?_ ?_
      rotate_left;· go_simp;rfl
      refine hK.out _ _ ?_
      clear hK K
      refine lC (p_ aA.out (by kernel_rfl)) ?_
      try go_wp2
      (try simp only [← fE])
      first|go_roundg k2|((try (have e_:=D9.out;injection e_ with ya Ir yb;subst ya yb));go_roundg k2)
      case measure=>have:=akl.out;have:=bz.out;omega
      case rel=>exact ⟨(dU),(wrap64 (bg+1)),rs,H',⟨by have:=akl.out;have:=bz.out;omega⟩,⟨by (try simp only [fE]);(with_reducible repeat (first|apply Kd.gI|apply Kd.gJ|apply Kd.eT));exact Uq.out⟩,⟨by (try simp only [fE]);(with_reducible repeat (first|refine ee ?_ _|refine ct ?_|refine dX ?_ _));refine fX ?_ (by have h_:=Kd.iD qF.out ag.out (by decide);intro e_;exact h_ (by rw [e_];rfl)) _;exact bk⟩,⟨by repeat (first|(with_reducible first|exact HB.out|apply dA|apply akz|apply cP|refine dM ?_ amg.out|refine dM ?_ ej.out)|exact HB.out)⟩⟩
     rw [if_pos c11] at H
     have mz:=decide_eq_true c11
     clear c11
     replace H:=iS H;obtain ⟨c12,H⟩:=H
     have rG:=decide_eq_true c12
     clear c12
     replace H:=iS H;obtain ⟨c13,H⟩:=H
     have kQ:=decide_eq_true c13
     (try simp only [fE] at kQ)
     clear c13
     obtain ⟨mO,akO⟩:∃ y_:List Int,y_=((ah aE bg).set (gN:Int).toNat (wrap64 (-(rd (ah aE bg) gN)))):=⟨_,rfl⟩
     replace H:(dO.l1 k2 (aE.set (bg:Int).toNat mO) bg (wrap64 (gN+1)) af aa)=some r:=by first|(rw [akO];with_reducible exact H)|(have ay:=(Option.bind_some _ _).symm.trans H;rw [akO];with_reducible exact ay)|(have ay:=(Option.bind_some _ _).symm.trans H;with_reducible exact ay)|with_reducible exact H|(rw [akO];exact H)|exact H
     have alf:=k0 akO
     clear akO
     obtain ⟨tL,ow⟩:∃ y_:List (List Int),y_=(aE.set (bg:Int).toNat mO):=⟨_,rfl⟩
     replace H:(dO.l1 k2 tL bg (wrap64 (gN+1)) af aa)=some r:=by first|(rw [ow];with_reducible exact H)|(have ay:=(Option.bind_some _ _).symm.trans H;rw [ow];with_reducible exact ay)|(have ay:=(Option.bind_some _ _).symm.trans H;with_reducible exact ay)|with_reducible exact H|(rw [ow];exact H)|exact H
     have Bk:=k0 ow
     clear ow
     have H':=k0 H
     clear H
     have abH:decide (0≤bg)=true:=decide_eq_true (rP nD.out)
     have abJ:decide (bg < (aE.length:Int))=true:=decide_eq_true (by have h_:=mF nD.out;have e_:=(Kd.bY az.out).1;omega)
     have dN:0≤(bg:Int):=oD
     have dH:bg < (aE.length:Int):=oD
     obtain ⟨gB,Gs,ami,e106,dF,ali,sP⟩:=cW (Kd.bY az.out).2.2 bg dN dH
     obtain rfl:kr=gB:=(by injection e106)
     obtain ⟨WR,Ji,I7,Cd⟩:=Kd.mj az.out [] bg dN (by first|exact dH|exact oD|(have e_:=(Kd.bY az.out).1;omega))
     obtain ⟨aez,rfl,yf⟩:=I7
     have alk:=Cd 0 _ rfl
     rw [Nat.add_zero,show ((Kd.slice 2 (Kd.int .i64))).sz=1 from rfl,Nat.mul_one] at alk
     replace alk:=Option.some.inj (alk.symm.trans dF)
     rw [alk] at yf
     have qF:=k0 (show Kd.R (Kd.int .i64) 2 _ _ _ _ (ah aE bg) from yf)
     clear alk yf
     have oI:=k0 dF
     clear Cd Ji
     have oH:=k0 sP
     have GN:=k0 ali
     clear sP ali
     replace dN:=eq_true dN
     replace dH:=eq_true dH
     obtain rfl:=E5 nD.out oI.out
     have Px:wr.cell? ⟨ai,0,none⟩=some (.int .i64 af):=(av ag.out 0).trans rfl
     have Py:wr.cell? ⟨ai,1,none⟩=some (.slice aq aa.length ak):=(av ag.out 1).trans rfl
     have PT:=aH ag.out 0
     have PU:=aH ag.out 1
     have gh:0≤(gN:Int):=oD
     have gj:gN < ((ah aE bg).length:Int):=oD
     obtain ⟨o9,e107,fR⟩:=Kd.bH (by repeat (first|(with_reducible exact oH.out)|(with_reducible refine Kd.kK ?_ _)|(with_reducible refine Kd.kY ?_ _)|(with_reducible refine Kd.jY ?_)|exact oH.out)) gN gh gj
     cases e107
     replace gh:=eq_true gh
     replace gj:=eq_true gj
     have KB:0≤(gN:Int):=oD
     have KR:(gN:Int) < (((ah aE bg).length:Int):Int):=oD
     obtain ⟨IX,Ih,EL,Ok,YK,agp,Mg⟩:=Kd.akT qF.out (by omega)
     (first|cases EL|(injection EL with bf dn dm;(first|subst bf|(injection bf with bf;subst bf));subst dm;clear dn))
     (first|simp only [add_plain] at fR|skip)
     have TJ:=k0 Ok
     have afa:=k0 Mg
     clear Ok YK Mg
     (first|simp only [add_plain] at fR|skip)
     obtain ⟨ajd,ag'⟩:=Kd.jD 0 qF.out (gN:Int) KB KR
     replace KB:=eq_true KB
     replace KR:=eq_true KR
     have abj:(bg:Int) < (aE.length:Int):=(by have h_:(bg:Int) < ((aE.length:Int):Int):=oD;first|exact h_|(have e_:=(Kd.bY az.out).1;omega)|simpa only [List.length_set,List.length_set] using h_)
     obtain ⟨ac9,agk,Z1,Ze,Pn,JS,OZ⟩:=Kd.zT az.out [] (bg:Int) oD (by first|exact abj|(have e_:=(Kd.bY az.out).1;omega))
     obtain ⟨ajZ,rfl,BX⟩:=Ze
     have Fl:=Pn 0 _ rfl
     rw [Nat.add_zero,show ((Kd.slice 2 (Kd.int .i64))).sz=1 from rfl,Nat.mul_one] at Fl
     replace Fl:=Option.some.inj (Fl.symm.trans oI.out)
     subst Fl
     clear Pn Z1
     replace BX:=(show Kd.R (Kd.int .i64) 2 _ _ _ _ (ah aE bg) from BX)
     have G2:=Kd.kP BX (gN:Int) (wrap64 (-(rd (ah aE bg) gN)))
     go_wp2_with (first|((with_reducible refine lf (t:=2) (p:=32) rfl ?_);refine lq (t:=2) (p:=32) (v:=?aj7) (w1:=(wr.setCell ⟨IX,(gN:Int).toNat,none⟩ (.int .i64 (wrap64 (-(rd (ah aE bg) gN)))))) ?hg ?ho ?hn ?hr ?_;(case ho=>rfl);(case hg=>rfl);(case hn=>rfl);(case hr=>first|(go_simp;done)|(go_simp;rfl));intro rX hw;have hg:wr.grownBy rX (some IX):=(by rw [hw];exact G2.2);have alX:Kd.R (Kd.int .i64) 2 rX w.heap.size ac9 (.slice (some ⟨IX,0,none⟩) (ah aE bg).length ami) mO:=(by rw [hw,alf.out];exact G2.1);have dZ:Kd.S (Kd.slice 2 (Kd.int .i64)) 28 rX w.heap.size (fun _=>True) (.slice (some kr) aE.length pn) tL:=(by rw [Bk.out];exact OZ hg (fun k_ e_=>by injection e_ with e_;subst e_;exact BX.1 _ rfl) (Kd.rz alX));have yN:=Kd.bG alX JS;clear G2 OZ;have akf:=k0 (dZ);have aD:=k0 (jl (g:=ai) (o:=sO af aq aa ak 31) bk hg (Kd.iD qF.out ag.out (by decide)));have aJ:=k0 (Ab hg oI.out (Ac (JS _ (BX.1 _ rfl)).2));have aX:=k0 ((by rw [hw];exact dM (HB.out) TJ.out:Below w.heap.size w rX));have a_:=k0 (yN);have akp:=k0 ((Kd.bu yN).2.1);clear az;clear ag;clear oI;clear HB;clear qF;have az:=akf;have ag:=aD;have oI:=aJ;have HB:=aX;have afv:=a_;have afh:=akp;clear akf aD aJ aX a_ akp;clear hg hw dZ alX yN JS))
     (try simp only [← fE])
     first|go_roundg k2|((try (have e_:=D9.out;injection e_ with ya Ir yb;subst ya yb));go_roundg k2)
     case measure=>have:=akl.out;have:=bz.out;omega
     case rel=>exact ⟨(tL),(wrap64 (gN+1)),rs,H',⟨by have:=akl.out;have:=bz.out;omega⟩,⟨by (with_reducible repeat (first|apply iC.alloc|apply iC.drewN|apply iC.drew));first|exact ⟨_,_,_,rfl,(by first|exact of_eq_true dN|exact rP nD.out|omega),(by first|exact of_eq_true dH|exact mF nD.out|(have h_:=of_eq_true dH;omega)|(have h_:=mF nD.out;omega)),oI.out⟩|(rw [← D9.out];exact ⟨_,_,_,rfl,(by first|exact of_eq_true dN|exact rP nD.out|omega),(by first|exact of_eq_true dH|exact mF nD.out|(have h_:=of_eq_true dH;omega)|(have h_:=mF nD.out;omega)),oI.out⟩)⟩,⟨by (try simp only [fE]);(with_reducible repeat (first|apply Kd.gI|apply Kd.gJ|apply Kd.eT));exact az.out⟩,⟨by (try simp only [fE]);exact bk⟩,⟨bl⟩⟩
/-! ### F94: function 94 -/
def gY.l0 : Nat → List Int → List Int → Int → Option (Bool)
 | 0,_,_,_=>none
 | k+1,x0,x1,x5=>if x5 < (x0.length:Int) then (if 0≤x5 then (if x5 < (x1.length:Int) then (if (rd x0 x5)=(rd x1 x5) then (gY.l0 k x0 x1 (wrap64 (x5+1))) else (some false)) else (none)) else (none)) else (some true)
def gY.f (k:Nat) (l0:List Int) (l1:List Int):Option (Bool):=if (l0.length:Int)=(l1.length:Int) then (gY.l0 k l0 l1 0) else (some false)
theorem gY.b8 : ∀ k, (∀ y0 y1 y2, aj (gY.l0 k y0 y1 y2) (gY.l0 (k + 1) y0 y1 y2))
 | 0=>fun _ _ _ r h=>by simp [gY.l0] at h
 | k+1=>by
  have akk:=gY.b8 k
  ·intro y0 y1 y2
   unfold gY.l0
   repeat' first
    | (with_reducible first|exact akk _ _ _|exact aj.refl _|exact aj.none _|refine aj.ite ?_ ?_|refine aj.bind ?_ (fun _=>?_))
    | exact akk _ _ _|exact aj.none _|refine aj.ite ?_ ?_|refine aj.bind ?_ (fun _=>?_)
theorem gY.mono:∀ a0 a1 k,aj (gY.f k a0 a1) (gY.f (k+1) a0 a1):=by
 intro a0 a1 k
 have akk:=gY.b8 k
 unfold gY.f
 repeat' first
  | (with_reducible first|exact akk _ _ _|exact aj.refl _|exact aj.none _|refine aj.ite ?_ ?_|refine aj.bind ?_ (fun _=>?_))
  | exact akk _ _ _|exact aj.none _|refine aj.ite ?_ ?_|refine aj.bind ?_ (fun _=>?_)
set_option maxHeartbeats 8000000 in
set_option maxRecDepth 100000 in
theorem gY.calls (k : Nat) (A0 : Option Addr) (c0 : Nat) (l0 : List Int) (A1 : Option Addr) (c1 : Nat) (l1 : List Int) (r : Bool) (w : World) (dB : Kd.C (Kd.int .i64) w A0 l0.length l0) (hc0 : l0.length ≤ c0) (cQ : Kd.C (Kd.int .i64) w A1 l1.length l1) (ef : l1.length ≤ c1) (h : gY.f k l0 l1 = some r) :
  Calls Try.prog 94 #[.slice A0 l0.length c0,.slice A1 l1.length c1] w fun e w'=>e=.returned (.bool r)∧bP w w':=by
 have fj:=k0 dB
 have ki:=k0 hc0
 clear dB hc0
 have ek:=k0 cQ
 have jZ:=k0 ef
 clear cQ ef
 have H:(if (l0.length:Int)=(l1.length:Int) then (gY.l0 k l0 l1 0) else (some false))=some r:=h
 clear h
 by_cases c3:(l0.length:Int)=(l1.length:Int)
 case neg =>
  rw [if_neg c3] at H
  have iE:((l0.length:Int) == (l1.length:Int))=false:=beq_eq_false_iff_ne.mpr c3
  have k7:((l0.length:Int) != (l1.length:Int))=true:=bne_iff_ne.mpr c3
  have su:(l0.length == l1.length)=false:=by first|simpa using c3|(simp at c3 ⊢;omega)
  obtain rfl:=Option.some.inj H
  go_enter Try.func94,Try.ntmps94
  go_wp2
  repeat (go_quiet (fail);try go_wp2)
  go_ret
  exact ⟨by first|rfl|(simp;done)|(simp [*];done),by repeat (first|exact bP.refl _|apply bP.step)⟩
 rw [if_pos c3] at H
 have iE:((l0.length:Int) == (l1.length:Int))=true:=beq_iff_eq.mpr c3
 have k7:((l0.length:Int) != (l1.length:Int))=false:=bne_eq_false_iff_eq.mpr c3
 have su:(l0.length == l1.length)=true:=by first|simpa using c3|(simp at c3 ⊢;omega)
 clear c3
 have H':=k0 H
 clear H
 go_enter Try.func94,Try.ntmps94
 go_wp2
 repeat (go_quiet (fail);try go_wp2)
 go_loopg [5] k (fun kq v5 w'=>∃ (aM:Int),v5=.int .i64 aM∧au (gY.l0 kq l0 l1 aM=some r)∧au (kq≤k)∧bP w w')
 case atStart=>exact ⟨(0),rs,H',⟨Nat.le_refl _⟩,by repeat (first|exact bP.refl _|apply bP.step)⟩
 case round =>
  clear H'
  (try clear c3);(try clear iE);(try clear k7);(try clear su)
  obtain ⟨aM,rfl,HA,akl,⟨m1,rfl⟩⟩:=hrel
  cases gk with
  | zero=>exact absurd HA.out (by simp [gY.l0])
  | succ k1 =>
   have H:=HA.out
   clear HA
   simp only [gY.l0] at H
   by_cases c4:aM < (l0.length:Int)
   case neg =>
    rw [if_neg c4] at H
    have eA:decide (aM < (l0.length:Int))=false:=decide_eq_false c4
    clear c4
    obtain rfl:=Option.some.inj H
    go_wp2
    repeat (go_quiet (fail);try go_wp2)
    go_ret
    exact ⟨by first|rfl|(simp;done)|(simp [*];done),by repeat (first|exact bP.refl _|apply bP.step)⟩
   rw [if_pos c4] at H
   have eA:=decide_eq_true c4
   clear c4
   replace H:=iS H;obtain ⟨c5,H⟩:=H
   have iW:=decide_eq_true c5
   clear c5
   replace H:=iS H;obtain ⟨c6,H⟩:=H
   have akJ:=decide_eq_true c6
   clear c6
   by_cases c7:(rd l0 aM)=(rd l1 aM)
   case neg =>
    rw [if_neg c7] at H
    have gK:((rd l0 aM) == (rd l1 aM))=false:=beq_eq_false_iff_ne.mpr c7
    have wJ:((rd l0 aM) != (rd l1 aM))=true:=bne_iff_ne.mpr c7
    obtain rfl:=Option.some.inj H
    have eU:0≤(aM:Int):=oD
    have eV:aM < (l0.length:Int):=oD
    obtain ⟨qM,e101,pH⟩:=Kd.bH fj.out aM eU eV
    cases e101
    replace eU:=eq_true eU
    replace eV:=eq_true eV
    have dr:0≤(aM:Int):=oD
    have dw:aM < (l1.length:Int):=oD
    obtain ⟨oa,e102,akN⟩:=Kd.bH ek.out aM dr dw
    cases e102
    replace dr:=eq_true dr
    replace dw:=eq_true dw
    go_wp2
    repeat (go_quiet (fail);try go_wp2)
    go_ret
    exact ⟨by first|rfl|(simp;done)|(simp [*];done),by repeat (first|exact bP.refl _|apply bP.step)⟩
   rw [if_pos c7] at H
   have gK:((rd l0 aM) == (rd l1 aM))=true:=beq_iff_eq.mpr c7
   have wJ:((rd l0 aM) != (rd l1 aM))=false:=bne_eq_false_iff_eq.mpr c7
   clear c7
   have H':=k0 H
   clear H
   have eU:0≤(aM:Int):=oD
   have eV:aM < (l0.length:Int):=oD
   obtain ⟨qM,e101,pH⟩:=Kd.bH fj.out aM eU eV
   cases e101
   replace eU:=eq_true eU
   replace eV:=eq_true eV
   have dr:0≤(aM:Int):=oD
   have dw:aM < (l1.length:Int):=oD
   obtain ⟨oa,e102,akN⟩:=Kd.bH ek.out aM dr dw
   cases e102
   replace dr:=eq_true dr
   replace dw:=eq_true dw
   go_wp2
   repeat (go_quiet (fail);try go_wp2)
   go_roundg k1
   case measure=>have:=akl.out;omega
   case rel=>exact ⟨(wrap64 (aM+1)),rs,H',⟨by have:=akl.out;omega⟩,by repeat (first|exact bP.refl _|apply bP.step)⟩
/-! ### F30: function 30 -/
def l9.f (k:Nat) (af:Int) (aa:List (List Int)) (l1:List Int) (l2:List Int):Option (Bool × Int):=(gP.f k af aa 0 (([l1,l2]:List (List Int)))).bind fun t105=>(if t105=0 then ((dO.f k af aa).bind fun t106=>((bL.f k t106 l1 0).bind fun t109=>((bL.f k t106 l2 0).bind fun t112=>((gY.f k t109 t112).bind fun t115=>(some (t115,0)))))) else (some (false,t105)))
theorem l9.mono:∀ a0 a1 a2 a3 k,aj (l9.f k a0 a1 a2 a3) (l9.f (k+1) a0 a1 a2 a3):=by
 intro a0 a1 a2 a3 k
 unfold l9.f
 repeat' first
  | (with_reducible first|exact gY.mono _ _ _|exact gP.mono _ _ _ _ _|exact dO.mono _ _ _|exact bL.mono _ _ _ _|exact aj.refl _|exact aj.none _|refine aj.ite ?_ ?_|refine aj.bind ?_ (fun _=>?_))
  | exact gY.mono _ _ _|exact gP.mono _ _ _ _ _|exact dO.mono _ _ _|exact bL.mono _ _ _ _|exact aj.none _|refine aj.ite ?_ ?_|refine aj.bind ?_ (fun _=>?_)
set_option maxHeartbeats 8000000 in
set_option maxRecDepth 100000 in
theorem l9.calls (k : Nat) (af : Int) (aq : Option Addr) (ak : Nat) (aa : List (List Int)) (akH : Nat → Prop) (A1 : Option Addr) (c1 : Nat) (l1 : List Int) (gT : Nat → Prop) (A2 : Option Addr) (c2 : Nat) (l2 : List Int) (r1 : Bool) (r2 : Int) (w : World) (akv : Kd.C (Kd.slice 2 (Kd.int .i64)) w aq aa.length aa) (akw : aa.length ≤ ak) (hs1 : Kd.V (Kd.int .i64) 2 w w.heap.size (fun k_ => akH k_) (.slice A1 l1.length c1) l1) (CK : Kd.V (Kd.int .i64) 2 w w.heap.size (fun k_ => gT k_) (.slice A2 l2.length c2) l2) (h : l9.f k af aa l1 l2 = some (r1, r2)) :
  Calls Try.prog 30 #[.agg #[.int .i64 af,.slice aq aa.length ak],.slice A1 l1.length c1,.slice A2 l2.length c2] w fun e w'=>e=.returned (.tuple #[.bool r1,.int .i64 r2])∧Below w.heap.size w w':=by
 have j8:=Try.underlying31
 have bU:=k0 akv
 have cG:=k0 akw
 clear akv akw
 have eY:=k0 (show Kd.V (Kd.int .i64) 2 w w.heap.size (fun k_=>((akH k_∨gT k_)∨w.heap.size≤k_)) (.slice A1 l1.length c1) l1 from Kd.mm hs1 (fun k_ hk=>.inl (.inl hk)))
 have ez:=k0 (show Kd.V (Kd.int .i64) 2 w w.heap.size (fun k_=>((akH k_∨gT k_)∨w.heap.size≤k_)) (.slice A2 l2.length c2) l2 from Kd.mm CK (fun k_ hk=>.inl (.inr hk)))
 have HB:=k0 (Below.refl w.heap.size w)
 have H:((gP.f k af aa 0 (([l1,l2]:List (List Int)))).bind fun t105=>(if t105=0 then ((dO.f k af aa).bind fun t106=>((bL.f k t106 l1 0).bind fun t109=>((bL.f k t106 l2 0).bind fun t112=>((gY.f k t109 t112).bind fun t115=>(some (t115,0)))))) else (some (false,t105))))=some (r1,r2):=h
 clear h
 obtain ⟨eW,eL⟩:∃ y_:List (List Int),y_=(([l1,l2]:List (List Int))):=⟨_,rfl⟩
 replace H:((gP.f k af aa 0 eW).bind fun t105=>(if t105=0 then ((dO.f k af aa).bind fun t106=>((bL.f k t106 l1 0).bind fun t109=>((bL.f k t106 l2 0).bind fun t112=>((gY.f k t109 t112).bind fun t115=>(some (t115,0)))))) else (some (false,t105))))=some (r1,r2):=by first|(rw [eL];with_reducible exact H)|(have ay:=(Option.bind_some _ _).symm.trans H;rw [eL];with_reducible exact ay)|(have ay:=(Option.bind_some _ _).symm.trans H;with_reducible exact ay)|with_reducible exact H|(rw [eL];exact H)|exact H
 have gA:=k0 eL
 clear eL
 replace H:=Option.bind_eq_some_iff.mp H
 obtain ⟨t105,jA,H⟩:=H
 replace H:(if t105=0 then ((dO.f k af aa).bind fun t106=>((bL.f k t106 l1 0).bind fun t109=>((bL.f k t106 l2 0).bind fun t112=>((gY.f k t109 t112).bind fun t115=>(some (t115,0)))))) else (some (false,t105)))=some (r1,r2):=H
 have A4:=k0 jA
 clear jA
 by_cases c5:t105=0
 case neg =>
  rw [if_neg c5] at H
  have iW:(t105 == 0)=false:=beq_eq_false_iff_ne.mpr c5
  have alO:(t105 != 0)=true:=bne_iff_ne.mpr c5
  simp only [Option.some.injEq,Prod.mk.injEq] at H
  obtain ⟨rfl,rfl⟩:=H
  go_enter Try.func30,Try.ntmps30
  go_wp2_with (first|((with_reducible refine cj (N:=3) rfl ?_);refine dJ ?hg (N:=3) ?hd (cs:=#[.int .i64 af,.slice aq aa.length ak]) (t:=31) ?hr ?_;(case hd=>rfl);(case hg=>rfl);(case hr=>first|(go_simp;done)|(go_simp;rfl));intro ai hg vW aK hb;replace eY:=k0 (Kd.oL (Kd.wC (aV eY.out) ai (Nat.le_of_eq hg.symm)) hb);replace ez:=k0 (Kd.oL (Kd.wC (aV ez.out) ai (Nat.le_of_eq hg.symm)) hb);have ag:=k0 (aK);have aks:=k0 ((by rw [hg];exact (aU bl):w.heap.size≤ai));have ej:=aks;replace HB:=k0 (aI bl hb);clear hb aK hg;have Ck:vW.cell? ⟨ai,0,none⟩=some (.int .i64 af):=(av ag.out 0).trans rfl;have ag4:vW.cell? ⟨ai,1,none⟩=some (.slice aq aa.length ak):=(av ag.out 1).trans rfl;have Cs:=aH ag.out 0;have ahu:=aH ag.out 1)|((with_reducible refine cj (N:=13) rfl ?_);refine Kd.Ej (Kd.slice 2 (Kd.int .i64)) _ 28 ?hg (N':=13) ?hd (xs:=([l1,l2]:List (List Int))) (inner:=[.slice A1 l1.length c1,.slice A2 l2.length c2]) (ok:=(fun k_=>((akH k_∨gT k_)∨w.heap.size≤k_)∧k_ ≠ ai)) (cA:=(fun k_=>((akH k_∨gT k_)∨w.heap.size≤k_)∧k_ ≠ ai)) ?hr ?hp (fun _ hk=>hk) ((show ∀ k_,vW.heap.size≤k_→(fun k_=>((akH k_∨gT k_)∨w.heap.size≤k_)∧k_ ≠ ai) k_ from fun k_ hk=>⟨(.inr (Nat.le_trans (aU bl) hk)),Kd.BS (g:=ai) (o:=sO af aq aa ak 31) bk k_ hk⟩) _ (Nat.le_refl _)) (Below.refl _ _) (Nat.le_refl _) (by simp) ?_;(case hd=>rfl);(case hg=>rfl);(case hr=>first|(go_simp;done)|(go_simp;rfl));(case hp=>exact (bS.one (show Kd.FK (Kd.slice 2 (Kd.int .i64)) _ _ l1 [.slice A1 l1.length c1] from (Kd.wj (Kd.oM (Kd.mm (ok':=(fun k_=>((akH k_∨gT k_)∨w.heap.size≤k_)∧k_ ≠ ai)) (eY.out) (fun k_ hk=>⟨hk.1,hk.2⟩))).2.1 (Kd.wB (Kd.mm (ok':=(fun k_=>((akH k_∨gT k_)∨w.heap.size≤k_)∧k_ ≠ ai)) (eY.out) (fun k_ hk=>⟨hk.1,hk.2⟩))))) (bS.one (show Kd.FK (Kd.slice 2 (Kd.int .i64)) _ _ l2 [.slice A2 l2.length c2] from (Kd.wj (Kd.oM (Kd.mm (ok':=(fun k_=>((akH k_∨gT k_)∨w.heap.size≤k_)∧k_ ≠ ai)) (ez.out) (fun k_ hk=>⟨hk.1,hk.2⟩))).2.1 (Kd.wB (Kd.mm (ok':=(fun k_=>((akH k_∨gT k_)∨w.heap.size≤k_)∧k_ ≠ ai)) (ez.out) (fun k_ hk=>⟨hk.1,hk.2⟩))))) (bS.none _ _))));intro dx Gi yR hb eB eC;clear eB eC;(first|rw [← gA.out] at yR|(simp only [Int.reduceToNat] at yR;rw [← gA.out] at yR));replace eY:=k0 (Kd.nF (aV eY.out) (Kd.r_ yR) hb);replace ez:=k0 (Kd.nF (aV ez.out) (Kd.r_ yR) hb);have bh:=k0 (Kd.Bi yR (aU bl));replace ag:=k0 (akj (g:=ai) (o:=sO af aq aa ak 31) bk hb);replace HB:=k0 (aI bl hb);clear hb yR;obtain ⟨S8,NP,EN⟩:=Kd.Bj bh.out;subst EN)|((with_reducible refine cZ (f:=89) rfl ?_);refine c_ (some 14) rfl rfl Try.func89 (by kernel_rfl) rfl #[.agg #[.int .i64 af,.slice aq aa.length ak],.int .i64 0,.slice S8 eW.length NP] rfl gm ?_;(with_reducible refine (gP.calls k af _ _ aa 0 _ _ eW t105 _ ?akn ?aT ?cn ?cw A4.out).mono ?_);(case akn=>exact aC (Kd.bA bU.out HB.out));(case aT=>exact cG.out);(case cn=>exact aC ((Kd.rB bh.out).2.2));(case cw=>exact (Kd.rB bh.out).2.1);rintro e nw ⟨rfl,hb⟩;refine ⟨_,rfl,?_⟩;replace eY:=k0 (Kd.oL (aV eY.out) hb);replace ez:=k0 (Kd.oL (aV ez.out) hb);replace bh:=k0 (Kd.alC (aN bh.out) hb);replace ag:=k0 (akj (g:=ai) (o:=sO af aq aa ak 31) bk hb);replace HB:=k0 (aI bl hb);(try clear hb)))
  go_ret2
  exact ⟨by first|rfl|(simp [bq,bt]<;>rfl)|(simp [*,bq,bt]<;>rfl),bl⟩
 rw [if_pos c5] at H
 have iW:(t105 == 0)=true:=beq_iff_eq.mpr c5
 have alO:(t105 != 0)=false:=bne_eq_false_iff_eq.mpr c5
 clear c5
 replace H:=Option.bind_eq_some_iff.mp H
 obtain ⟨t106,alz,H⟩:=H
 replace H:((bL.f k t106 l1 0).bind fun t109=>((bL.f k t106 l2 0).bind fun t112=>((gY.f k t109 t112).bind fun t115=>(some (t115,0)))))=some (r1,r2):=H
 have A6:=k0 alz
 clear alz
 replace H:=Option.bind_eq_some_iff.mp H
 obtain ⟨t109,ale,H⟩:=H
 replace H:((bL.f k t106 l2 0).bind fun t112=>((gY.f k t109 t112).bind fun t115=>(some (t115,0))))=some (r1,r2):=H
 have A7:=k0 ale
 clear ale
 replace H:=Option.bind_eq_some_iff.mp H
 obtain ⟨t112,r3,H⟩:=H
 replace H:((gY.f k t109 t112).bind fun t115=>(some (t115,0)))=some (r1,r2):=H
 have A8:=k0 r3
 clear r3
 replace H:=Option.bind_eq_some_iff.mp H
 obtain ⟨t115,amd,H⟩:=H
 replace H:(some (t115,0))=some (r1,r2):=H
 have A9:=k0 amd
 clear amd
 simp only [Option.some.injEq,Prod.mk.injEq] at H
 obtain ⟨rfl,rfl⟩:=H
 go_enter Try.func30,Try.ntmps30
 go_wp2_with (first|((with_reducible refine cj (N:=3) rfl ?_);refine dJ ?hg (N:=3) ?hd (cs:=#[.int .i64 af,.slice aq aa.length ak]) (t:=31) ?hr ?_;(case hd=>rfl);(case hg=>rfl);(case hr=>first|(go_simp;done)|(go_simp;rfl));intro ai hg fF aK hb;replace eY:=k0 (Kd.oL (Kd.wC (aV eY.out) ai (Nat.le_of_eq hg.symm)) hb);replace ez:=k0 (Kd.oL (Kd.wC (aV ez.out) ai (Nat.le_of_eq hg.symm)) hb);have ag:=k0 (aK);have aks:=k0 ((by rw [hg];exact (aU bl):w.heap.size≤ai));have ej:=aks;replace HB:=k0 (aI bl hb);clear hb aK hg;have vv:fF.cell? ⟨ai,0,none⟩=some (.int .i64 af):=(av ag.out 0).trans rfl;have vw:fF.cell? ⟨ai,1,none⟩=some (.slice aq aa.length ak):=(av ag.out 1).trans rfl;have vC:=aH ag.out 0;have vD:=aH ag.out 1)|((with_reducible refine cj (N:=13) rfl ?_);refine Kd.Ej (Kd.slice 2 (Kd.int .i64)) _ 28 ?hg (N':=13) ?hd (xs:=([l1,l2]:List (List Int))) (inner:=[.slice A1 l1.length c1,.slice A2 l2.length c2]) (ok:=(fun k_=>((akH k_∨gT k_)∨w.heap.size≤k_)∧k_ ≠ ai)) (cA:=(fun k_=>((akH k_∨gT k_)∨w.heap.size≤k_)∧k_ ≠ ai)) ?hr ?hp (fun _ hk=>hk) ((show ∀ k_,fF.heap.size≤k_→(fun k_=>((akH k_∨gT k_)∨w.heap.size≤k_)∧k_ ≠ ai) k_ from fun k_ hk=>⟨(.inr (Nat.le_trans (aU bl) hk)),Kd.BS (g:=ai) (o:=sO af aq aa ak 31) bk k_ hk⟩) _ (Nat.le_refl _)) (Below.refl _ _) (Nat.le_refl _) (by simp) ?_;(case hd=>rfl);(case hg=>rfl);(case hr=>first|(go_simp;done)|(go_simp;rfl));(case hp=>exact (bS.one (show Kd.FK (Kd.slice 2 (Kd.int .i64)) _ _ l1 [.slice A1 l1.length c1] from (Kd.wj (Kd.oM (Kd.mm (ok':=(fun k_=>((akH k_∨gT k_)∨w.heap.size≤k_)∧k_ ≠ ai)) (eY.out) (fun k_ hk=>⟨hk.1,hk.2⟩))).2.1 (Kd.wB (Kd.mm (ok':=(fun k_=>((akH k_∨gT k_)∨w.heap.size≤k_)∧k_ ≠ ai)) (eY.out) (fun k_ hk=>⟨hk.1,hk.2⟩))))) (bS.one (show Kd.FK (Kd.slice 2 (Kd.int .i64)) _ _ l2 [.slice A2 l2.length c2] from (Kd.wj (Kd.oM (Kd.mm (ok':=(fun k_=>((akH k_∨gT k_)∨w.heap.size≤k_)∧k_ ≠ ai)) (ez.out) (fun k_ hk=>⟨hk.1,hk.2⟩))).2.1 (Kd.wB (Kd.mm (ok':=(fun k_=>((akH k_∨gT k_)∨w.heap.size≤k_)∧k_ ≠ ai)) (ez.out) (fun k_ hk=>⟨hk.1,hk.2⟩))))) (bS.none _ _))));intro dx jb yP hb eB eC;clear eB eC;(first|rw [← gA.out] at yP|(simp only [Int.reduceToNat] at yP;rw [← gA.out] at yP));replace eY:=k0 (Kd.nF (aV eY.out) (Kd.r_ yP) hb);replace ez:=k0 (Kd.nF (aV ez.out) (Kd.r_ yP) hb);have bh:=k0 (Kd.Bi yP (aU bl));replace ag:=k0 (akj (g:=ai) (o:=sO af aq aa ak 31) bk hb);replace HB:=k0 (aI bl hb);clear hb yP;obtain ⟨LV,Ih,EL⟩:=Kd.Bj bh.out;subst EL)|((with_reducible refine cZ (f:=89) rfl ?_);refine c_ (some 14) rfl rfl Try.func89 (by kernel_rfl) rfl #[.agg #[.int .i64 af,.slice aq aa.length ak],.int .i64 0,.slice LV eW.length Ih] rfl gm ?_;(with_reducible refine (gP.calls k af _ _ aa 0 _ _ eW t105 _ ?akn ?aT ?cn ?cw A4.out).mono ?_);(case akn=>exact aC (Kd.bA bU.out HB.out));(case aT=>exact cG.out);(case cn=>exact aC ((Kd.rB bh.out).2.2));(case cw=>exact (Kd.rB bh.out).2.1);rintro e vV ⟨rfl,hb⟩;refine ⟨_,rfl,?_⟩;replace eY:=k0 (Kd.oL (aV eY.out) hb);replace ez:=k0 (Kd.oL (aV ez.out) hb);replace bh:=k0 (Kd.alC (aN bh.out) hb);replace ag:=k0 (akj (g:=ai) (o:=sO af aq aa ak 31) bk hb);replace HB:=k0 (aI bl hb);(try clear hb);have yw:vV.cell? ⟨ai,0,none⟩=some (.int .i64 af):=(av ag.out 0).trans rfl;have yx:vV.cell? ⟨ai,1,none⟩=some (.slice aq aa.length ak):=(av ag.out 1).trans rfl;have yB:=aH ag.out 0;have yC:=aH ag.out 1)|((with_reducible refine cZ (f:=91) rfl ?_);refine c_ (some 19) rfl rfl Try.func91 (by kernel_rfl) rfl #[.agg #[.int .i64 af,.slice aq aa.length ak]] rfl gm ?_;(with_reducible refine (dO.calls k af _ _ aa t106 _ ?akn ?aT A6.out).mono ?_);(case akn=>exact aC (Kd.bA bU.out HB.out));(case aT=>exact cG.out);rintro e rX ⟨v107,rfl,ake,hb⟩;refine ⟨_,rfl,?_⟩;replace eY:=k0 (Kd.nF (aV eY.out) (Kd.r_ (Kd.Er ake)) hb);replace ez:=k0 (Kd.nF (aV ez.out) (Kd.r_ (Kd.Er ake)) hb);have mQ:=k0 (Kd.Bi (Kd.MU (ok':=fun k_=>((akH k_∨gT k_)∨w.heap.size≤k_)∧some k_ ≠ (.slice LV eW.length Ih:Value).ownBlock∧k_ ≠ ai) (Kd.Er (Kd.M6 ake)) (fun k_ jQ=>⟨(.inr (Nat.le_trans (aU bl) jQ.2.1)),(Kd.fresh' (Kd.MT (aN bh.out)) k_ jQ.2.1),(Kd.BS (g:=ai) (o:=sO af aq aa ak 31) bk k_ jQ.2.1)⟩)) (aU bl));replace bh:=k0 (Kd.xT (aN bh.out) (Kd.r_ (Kd.Er ake)) hb);replace ag:=k0 (akj (g:=ai) (o:=sO af aq aa ak 31) bk hb);replace HB:=k0 (aI bl hb);(try clear hb);(try clear ake);obtain ⟨amt,EH,EM⟩:=Kd.Bj mQ.out;subst EM)|((with_reducible refine cZ (f:=90) rfl ?_);refine c_ (some 22) rfl rfl Try.func90 (by kernel_rfl) rfl #[.slice amt t106.length EH,.slice A1 l1.length c1,.int .i64 0] rfl gm ?_;(with_reducible refine (bL.calls k _ _ t106 _ _ l1 0 t109 _ ?akn ?aT ?cn ?cw A7.out).mono ?_);(case akn=>exact aC ((Kd.rB mQ.out).2.2));(case aT=>exact (Kd.rB mQ.out).2.1);(case cn=>exact aC ((Kd.oM eY.out).2.2));(case cw=>exact (Kd.oM eY.out).2.1);rintro e Li ⟨aew,rfl,ake,hb⟩;refine ⟨_,rfl,?_⟩;replace eY:=k0 (Kd.nF (aV eY.out) (Kd.bW ake) hb);replace ez:=k0 (Kd.nF (aV ez.out) (Kd.bW ake) hb);replace bh:=k0 (Kd.xT (aN bh.out) (Kd.bW ake) hb);replace mQ:=k0 (Kd.xT (aN mQ.out) (Kd.bW ake) hb);have tP:=k0 (Kd.dL (Kd.En (M:=fun k_=>(w.heap.size≤k_)) ake (aU bl) (fun k_ h_=>h_)) (aU bl));replace ag:=k0 (akj (g:=ai) (o:=sO af aq aa ak 31) bk hb);replace HB:=k0 (aI bl hb);(try clear hb);(try clear ake))|((with_reducible refine cZ (f:=90) rfl ?_);refine c_ (some 25) rfl rfl Try.func90 (by kernel_rfl) rfl #[.slice amt t106.length EH,.slice A2 l2.length c2,.int .i64 0] rfl gm ?_;(with_reducible refine (bL.calls k _ _ t106 _ _ l2 0 t112 _ ?akn ?aT ?cn ?cw A8.out).mono ?_);(case akn=>exact aC ((Kd.rB mQ.out).2.2));(case aT=>exact (Kd.rB mQ.out).2.1);(case cn=>exact aC ((Kd.oM ez.out).2.2));(case cw=>exact (Kd.oM ez.out).2.1);rintro e tI ⟨aex,rfl,ake,hb⟩;refine ⟨_,rfl,?_⟩;replace eY:=k0 (Kd.nF (aV eY.out) (Kd.bW ake) hb);replace ez:=k0 (Kd.nF (aV ez.out) (Kd.bW ake) hb);replace bh:=k0 (Kd.xT (aN bh.out) (Kd.bW ake) hb);replace mQ:=k0 (Kd.xT (aN mQ.out) (Kd.bW ake) hb);have o6:=k0 (Kd.dL (Kd.dW (Kd.En (M:=fun k_=>(w.heap.size≤k_)) ake (aU bl) (fun k_ h_=>h_)) (Kd.cE (aR tP.out))) (aU bl));replace tP:=k0 (Kd.dV (aR tP.out) (Kd.bW ake) hb);replace ag:=k0 (akj (g:=ai) (o:=sO af aq aa ak 31) bk hb);replace HB:=k0 (aI bl hb);(try clear hb);(try clear ake);obtain ⟨LW,vk,rK⟩:=Kd.eK tP.out;subst rK;obtain ⟨LX,Ii,yd⟩:=Kd.eK o6.out;subst yd)|((with_reducible refine cZ (f:=94) rfl ?_);refine c_ (some 26) rfl rfl Try.func94 (by kernel_rfl) rfl #[.slice LW t109.length vk,.slice LX t112.length Ii] rfl gm ?_;(with_reducible refine (gY.calls k _ _ t109 _ _ t112 t115 _ ?akn ?aT ?cn ?cw A9.out).mono ?_);(case akn=>exact aC ((Kd.bu tP.out).2.2));(case aT=>exact (Kd.bu tP.out).2.1);(case cn=>exact aC ((Kd.bu o6.out).2.2));(case cw=>exact (Kd.bu o6.out).2.1);rintro e w' ⟨rfl,⟨nd,rfl⟩⟩;refine ⟨_,rfl,?_⟩))
 go_ret2
 exact ⟨by first|rfl|(simp [bq,bt]<;>rfl)|(simp [*,bq,bt]<;>rfl),bl⟩
/-! ### F194: function 194 -/
def gO.f (a0:Int) (a1:Int) (a2:Int):Option (Bool):=if a0 ≥ a1 then (some (decide (a0≤a2))) else (some false)
set_option maxHeartbeats 8000000 in
set_option maxRecDepth 100000 in
theorem gO.calls (a0 : Int) (a1 : Int) (a2 : Int) (r : Bool) (w : World) (h : gO.f a0 a1 a2 = some r) :
  Calls Try.prog 194 #[.int .i64 a0,.int .i64 a1,.int .i64 a2] w fun e w'=>e=.returned (.bool r)∧bP w w':=by
 have H:(if a0 ≥ a1 then (some (decide (a0≤a2))) else (some false))=some r:=h
 clear h
 by_cases c4:a0 ≥ a1
 case neg =>
  rw [if_neg c4] at H
  have eA:decide (a1≤a0)=false:=decide_eq_false c4
  clear c4
  obtain rfl:=Option.some.inj H
  go_enter Try.func194,Try.ntmps194
  go_wp2
  go_ret
  exact ⟨by first|rfl|(simp;done)|(simp [*];done),by repeat (first|exact bP.refl _|apply bP.step)⟩
 rw [if_pos c4] at H
 have eA:=decide_eq_true c4
 clear c4
 obtain rfl:=Option.some.inj H
 go_enter Try.func194,Try.ntmps194
 go_wp2
 go_ret
 exact ⟨by first|rfl|(simp;done)|(simp [*];done),by repeat (first|exact bP.refl _|apply bP.step)⟩
end Go.Proofs.Ytoebojnhchocaaa.C
/- Set with little white space, by a program. -/
