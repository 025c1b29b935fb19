/- The functions that one law reaches, each as a Lean function, and that Go's call comes to what it says. Condition of each: that the Lean function answers (is not none). -/
import Derived.Test.YtoebojnhchocaaaCx0
namespace Go.Proofs.Ytoebojnhchocaaa.C
open Go.RowKit Go.Proofs.bI.en Go.Proofs.bI.je Go.Proofs.bI.jC
attribute [local go_sem] max2_int min2_int max_two min_two max_three min_three max_four min_four   -- for this text's walks alone
set_option linter.unusedVariables false
set_option linter.unusedSimpArgs false
/-! ### F174: function 174 -/
mutual
def bX.l0 : Nat → List (List Int) → Int → List Int → Int → Option (List Int)
 | 0,_,_,_,_=>none
 | k+1,x0,x1,x5,x6=>if x6 < (x5.length:Int) then (if 0≤x6 then (bX.l0 k x0 x1 (x5.set (x6:Int).toNat (-1)) (wrap64 (x6+1))) else (none)) else (if 0≤x1 then (if x1 < (x5.length:Int) then (bX.l1 k x0 (x5.set (x1:Int).toNat 0) 0) else (none)) else (none))
def bX.l1 : Nat → List (List Int) → List Int → Int → Option (List Int)
 | 0,_,_,_=>none
 | k+1,x0,x5,x7=>if x7 < (x0.length:Int) then (bX.l2 k x0 x5 x7 0) else (some x5)
def bX.l2 : Nat → List (List Int) → List Int → Int → Int → Option (List Int)
 | 0,_,_,_,_=>none
 | k+1,x0,x5,x7,x8=>if x8 < (x0.length:Int) then (bX.l3 k x0 x5 x7 x8 0) else (bX.l1 k x0 x5 (wrap64 (x7+1)))
def bX.l3 : Nat → List (List Int) → List Int → Int → Int → Int → Option (List Int)
 | 0,_,_,_,_,_=>none
 | k+1,x0,x5,x7,x8,x9=>if x9 < (x0.length:Int) then (if 0≤x8 then (if x8 < (x5.length:Int) then (bX.j4 k x0 x5 x7 x8 x9 ((rd x5 x8) == x7)) else (none)) else (none)) else (bX.j4 k x0 x5 x7 x8 x9 false)
def bX.j4 : Nat → List (List Int) → List Int → Int → Int → Int → Bool → Option (List Int)
 | 0,_,_,_,_,_,_=>none
 | k+1,x0,x5,x7,x8,x9,AY=>if AY=true then (if 0≤x8 then (if x8 < (x0.length:Int) then (if 0≤x9 then (if x9 < ((ah x0 x8).length:Int) then (if (rd (ah x0 x8) x9) < 0 then (if x9 < (x5.length:Int) then (if (rd x5 x9) < 0 then (bX.l3 k x0 (x5.set (x9:Int).toNat (wrap64 (x7+1))) x7 x8 (wrap64 (x9+1))) else (bX.l3 k x0 x5 x7 x8 (wrap64 (x9+1)))) else (none)) else (bX.l3 k x0 x5 x7 x8 (wrap64 (x9+1)))) else (none)) else (none)) else (none)) else (none)) else (bX.l2 k x0 x5 x7 (wrap64 (x8+1)))
end
def bX.f (k:Nat) (l0:List (List Int)) (a1:Int):Option (List Int):=if 0≤(l0.length:Int) then (if ((l0.length:Int):Int).toNat≤35184372088832 then (bX.l0 k l0 a1 (List.replicate ((l0.length:Int):Int).toNat 0) 0) else (none)) else (none)
theorem bX.b8 : ∀ k, (∀ y0 y1 y2 y3, aj (bX.l0 k y0 y1 y2 y3) (bX.l0 (k + 1) y0 y1 y2 y3)) ∧ (∀ y0 y1 y2, aj (bX.l1 k y0 y1 y2) (bX.l1 (k + 1) y0 y1 y2)) ∧ (∀ y0 y1 y2 y3, aj (bX.l2 k y0 y1 y2 y3) (bX.l2 (k + 1) y0 y1 y2 y3)) ∧ (∀ y0 y1 y2 y3 y4, aj (bX.l3 k y0 y1 y2 y3 y4) (bX.l3 (k + 1) y0 y1 y2 y3 y4)) ∧ (∀ y0 y1 y2 y3 y4 y5, aj (bX.j4 k y0 y1 y2 y3 y4 y5) (bX.j4 (k + 1) y0 y1 y2 y3 y4 y5))
 | 0=>⟨fun _ _ _ _ r h=>by simp [bX.l0] at h,fun _ _ _ r h=>by simp [bX.l1] at h,fun _ _ _ _ r h=>by simp [bX.l2] at h,fun _ _ _ _ _ r h=>by simp [bX.l3] at h,fun _ _ _ _ _ _ r h=>by simp [bX.j4] at h⟩
 | k+1=>by
  obtain ⟨akk,ih1,ih2,ih3,ih4⟩:=bX.b8 k
  refine ⟨?_, ?_, ?_, ?_, ?_⟩ <;> intros <;> (first | unfold bX.l0 | unfold bX.l1 | unfold bX.l2 | unfold bX.l3 | unfold bX.j4) <;> repeat' first
   | (with_reducible first|exact akk _ _ _ _|exact ih1 _ _ _|exact ih2 _ _ _ _|exact ih3 _ _ _ _ _|exact ih4 _ _ _ _ _ _|exact aj.refl _|exact aj.none _|refine aj.ite ?_ ?_|refine aj.bind ?_ (fun _=>?_))
   | exact akk _ _ _ _|exact ih1 _ _ _|exact ih2 _ _ _ _|exact ih3 _ _ _ _ _|exact ih4 _ _ _ _ _ _|exact aj.none _|refine aj.ite ?_ ?_|refine aj.bind ?_ (fun _=>?_)
theorem bX.mono:∀ a0 a1 k,aj (bX.f k a0 a1) (bX.f (k+1) a0 a1):=by
 intro a0 a1 k
 obtain ⟨akk,ih1,ih2,ih3,ih4⟩:=bX.b8 k
 unfold bX.f
 repeat' first
  | (with_reducible first|exact akk _ _ _ _|exact ih1 _ _ _|exact ih2 _ _ _ _|exact ih3 _ _ _ _ _|exact ih4 _ _ _ _ _ _|exact aj.refl _|exact aj.none _|refine aj.ite ?_ ?_|refine aj.bind ?_ (fun _=>?_))
  | exact akk _ _ _ _|exact ih1 _ _ _|exact ih2 _ _ _ _|exact ih3 _ _ _ _ _|exact ih4 _ _ _ _ _ _|exact aj.none _|refine aj.ite ?_ ?_|refine aj.bind ?_ (fun _=>?_)
set_option maxHeartbeats 8000000 in
set_option maxRecDepth 100000 in
theorem bX.calls (k : Nat) (A0 : Option Addr) (c0 : Nat) (l0 : List (List Int)) (a1 : Int) (r : List Int) (w : World) (dB : Kd.C (Kd.slice 2 (Kd.int .i64)) w A0 l0.length l0) (hc0 : l0.length ≤ c0) (h : bX.f k l0 a1 = some r) :
  Calls Try.prog 174 #[.slice A0 l0.length c0,.int .i64 a1] w fun e w'=>∃ dK:Value,e=.returned (dK)∧Kd.R (Kd.int .i64) 2 w' w.heap.size (fun _=>True) dK r∧Below w.heap.size w w':=by
 have fj:=k0 dB
 have ki:=k0 hc0
 clear dB hc0
 have HB:=k0 (Below.refl w.heap.size w)
 have H:(if 0≤(l0.length:Int) then (if ((l0.length:Int):Int).toNat≤35184372088832 then (bX.l0 k l0 a1 (List.replicate ((l0.length:Int):Int).toNat 0) 0) else (none)) else (none))=some r:=h
 clear h
 replace H:=iS H;obtain ⟨c3,H⟩:=H
 have iE:=eq_true c3
 have k7:=decide_eq_true c3
 clear c3
 replace H:=iS H;obtain ⟨c4,H⟩:=H
 have eA:=eq_true c4
 have mB:=decide_eq_true c4
 clear c4
 obtain ⟨jz,akD⟩:∃ y_:List Int,y_=(List.replicate ((l0.length:Int):Int).toNat 0):=⟨_,rfl⟩
 replace H:(bX.l0 k l0 a1 jz 0)=some r:=by first|(rw [akD];with_reducible exact H)|(have ay:=(Option.bind_some _ _).symm.trans H;rw [akD];with_reducible exact ay)|(have ay:=(Option.bind_some _ _).symm.trans H;with_reducible exact ay)|with_reducible exact H|(rw [akD];exact H)|exact H
 have mg:=k0 akD
 clear akD
 have H':=k0 H
 clear H
 go_enter Try.func174,Try.ntmps174
 go_wp2_with (first|((with_reducible refine cj (N:=12) rfl ?_);refine Kd.xU (Kd.int .i64) _ 2 rfl (N:=12) rfl 28 _ _ rfl (l0.length:Int) rfl rfl Try.underlying28 (.int .i64 0) 8 lH rfl (by decide) (by omega) 0 (ok:=fun _=>True) (cA:=fun _=>True) rfl (fun _ hk=>hk) trivial oD (Nat.le_trans (Nat.mul_le_mul_right _ (oD:(l0.length:Int).toNat≤35184372088832)) (by omega)) (Below.refl _ _) (Nat.le_refl _) ?_;intro l6 w5 CD hb eB eC;clear eB eC;(first|rw [← mg.out] at CD|(simp only [Int.reduceToNat] at CD;rw [← mg.out] at CD));have kN:=k0 (Kd.dL CD (aU bl));replace HB:=k0 (aI bl hb);clear hb CD))
 go_loopg [6] k (fun kq v6 w'=>∃ (aM:List Int) (fU:Int),v6=.int .i64 fU∧au (bX.l0 kq l0 a1 aM fU=some r)∧au (kq≤k)∧au (Kd.R (Kd.int .i64) 2 w' w.heap.size (fun _=>True) l6 aM)∧au (Below w.heap.size w w'))
 case atStart=>exact ⟨(jz),(0),rs,H',⟨Nat.le_refl _⟩,⟨aR (kN.out)⟩,⟨bl⟩⟩
 case round =>
  clear H'
  (try clear c3);(try clear iE);(try clear k7);(try clear c4);(try clear eA);(try clear mB)
  obtain ⟨aM,fU,rfl,HA,akl,bM,HB⟩:=hrel
  cases gk with
  | zero=>exact absurd HA.out (by simp [bX.l0])
  | succ k1 =>
   have H:=HA.out
   clear HA
   simp only [bX.l0] at H
   by_cases c7:fU < (aM.length:Int)
   case neg =>
    rw [if_neg c7] at H
    have gK:decide (fU < (aM.length:Int))=false:=decide_eq_false c7
    clear c7
    replace H:=iS H;obtain ⟨c13,H⟩:=H
    have kQ:=decide_eq_true c13
    clear c13
    replace H:=iS H;obtain ⟨c14,H⟩:=H
    have ku:=decide_eq_true c14
    clear c14
    obtain ⟨jg,fy⟩:∃ y_:List Int,y_=(aM.set (a1:Int).toNat 0):=⟨_,rfl⟩
    replace H:(bX.l1 k1 l0 jg 0)=some r:=by first|(rw [fy];with_reducible exact H)|(have ay:=(Option.bind_some _ _).symm.trans H;rw [fy];with_reducible exact ay)|(have ay:=(Option.bind_some _ _).symm.trans H;with_reducible exact ay)|with_reducible exact H|(rw [fy];exact H)|exact H
    have lN:=k0 fy
    clear fy
    have H':=k0 H
    clear H
    obtain ⟨ae8,Af,XX⟩:=Kd.eK bM.out
    subst XX
    have tC:0≤(a1:Int):=oD
    have tF:(a1:Int) < ((aM.length:Int):Int):=oD
    obtain ⟨qT,eZ,BM,Ol,YL,agq,Mh⟩:=Kd.akT bM.out (by omega)
    (first|cases BM|(injection BM with bf dn dm;(first|subst bf|(injection bf with bf;subst bf));subst dm;clear dn))
    have L_:=k0 Ol
    have afb:=k0 Mh
    clear Ol YL Mh
    obtain ⟨Fw,ag_⟩:=Kd.jD 0 bM.out (a1:Int) tC tF
    replace tC:=eq_true tC
    replace tF:=eq_true tF
    have G3:=Kd.kP bM.out (a1:Int) 0
    go_wp2_with (first|((with_reducible refine lf (t:=2) (p:=24) rfl ?_);refine lq (t:=2) (p:=24) (v:=?aj8) (w1:=(wr.setCell ⟨qT,(a1:Int).toNat,none⟩ (.int .i64 0))) ?hg ?ho ?hn ?hr ?_;(case ho=>rfl);(case hg=>rfl);(case hn=>rfl);(case hr=>first|(go_simp;done)|(go_simp;rfl));intro zq hw;have hg:wr.grownBy zq (some qT):=(by rw [hw];exact G3.2);have dZ:Kd.R (Kd.int .i64) 2 zq w.heap.size (fun _=>True) (.slice (some ⟨qT,0,none⟩) aM.length Af) jg:=(by rw [hw,lN.out];exact G3.1);clear G3;replace bM:=k0 (dZ);replace HB:=k0 ((by rw [hw];exact dM (HB.out) L_.out:Below w.heap.size w zq));clear hg hw dZ))
    go_loopg [7] k1 (fun kq v7 w'=>∃ (ako:List Int) (dG:Int),v7=.int .i64 dG∧au (bX.l1 kq l0 ako dG=some r)∧au (kq≤k1)∧au (Kd.R (Kd.int .i64) 2 w' w.heap.size (fun _=>True) (.slice (some ⟨qT,0,none⟩) aM.length Af) ako)∧au (Below w.heap.size w w'))
    case atStart=>exact ⟨(jg),(0),rs,H',⟨Nat.le_refl _⟩,⟨aR (bM.out)⟩,⟨bl⟩⟩
    case round =>
     clear H'
     (try clear c3);(try clear iE);(try clear k7);(try clear c4);(try clear eA);(try clear mB);(try clear c7);(try clear gK);(try clear c8);(try clear iX);(try clear p9);(try clear q9);(try clear c13);(try clear kQ);(try clear c14);(try clear ku);(try clear tC);(try clear tF);(try clear Fw);(try clear alU);(try clear tC);(try clear p9);(try clear tF);(try clear q9)
     obtain ⟨ako,dG,rfl,HA,bz,bM,HB⟩:=hrel
     have f_:=(Kd.bu bM.out).1
     rw [f_] at bM
     (try simp only [f_])
     cases gk with
     | zero=>exact absurd HA.out (by simp [bX.l1])
     | succ k2 =>
      have H:=HA.out
      clear HA
      simp only [bX.l1] at H
      by_cases c19:dG < (l0.length:Int)
      case neg =>
       rw [if_neg c19] at H
       have mA:decide (dG < (l0.length:Int))=false:=decide_eq_false c19
       (try simp only [f_] at mA)
       clear c19
       obtain rfl:=Option.some.inj H
       go_wp2
       go_ret
       exact ⟨_,by first|rfl|(simp [bq,bt]<;>rfl)|(simp [*,bq,bt]<;>rfl),by (with_reducible repeat (first|apply Kd.bN|apply Kd.bQ|apply Kd.bn));exact bM.out,bl⟩
      rw [if_pos c19] at H
      have mA:=decide_eq_true c19
      (try simp only [f_] at mA)
      clear c19
      have H':=k0 H
      clear H
      go_wp2
      go_loopg [8] k2 (fun kq v8 w'=>∃ (jK:List Int) (aY:Int),v8=.int .i64 aY∧au (bX.l2 kq l0 jK dG aY=some r)∧au (kq≤k2)∧au (Kd.R (Kd.int .i64) 2 w' w.heap.size (fun _=>True) (.slice (some ⟨qT,0,none⟩) ako.length Af) jK)∧au (Below w.heap.size w w'))
      case atStart=>exact ⟨(ako),(0),rs,H',⟨Nat.le_refl _⟩,⟨by (try simp only [f_]);(with_reducible repeat (first|apply Kd.bN|apply Kd.bQ|apply Kd.bn));exact bM.out⟩,⟨bl⟩⟩
      case round =>
       clear H'
       (try clear c3);(try clear iE);(try clear k7);(try clear c4);(try clear eA);(try clear mB);(try clear c7);(try clear gK);(try clear c8);(try clear iX);(try clear p9);(try clear q9);(try clear c13);(try clear kQ);(try clear c14);(try clear ku);(try clear tC);(try clear tF);(try clear c19);(try clear mA);(try clear Fw);(try clear alU);(try clear tC);(try clear p9);(try clear tF);(try clear q9)
       obtain ⟨jK,aY,rfl,HA,dg,bM,HB⟩:=hrel
       have gV:=(Kd.bu bM.out).1
       rw [gV] at bM
       (try simp only [gV])
       cases gk with
       | zero=>exact absurd HA.out (by simp [bX.l2])
       | succ k3 =>
        have H:=HA.out
        clear HA
        simp only [bX.l2] at H
        by_cases c20:aY < (l0.length:Int)
        case neg =>
         rw [if_neg c20] at H
         have og:decide (aY < (l0.length:Int))=false:=decide_eq_false c20
         (try simp only [f_,gV] at og)
         clear c20
         have H':=k0 H
         clear H
         go_wp2
         (try simp only [← f_,← gV])
         go_roundg k3
         case measure=>have:=akl.out;have:=bz.out;have:=dg.out;omega
         case rel=>exact ⟨(jK),(wrap64 (dG+1)),rs,H',⟨by have:=akl.out;have:=bz.out;have:=dg.out;omega⟩,⟨by (try simp only [f_]);(try simp only [gV]);(with_reducible repeat (first|apply Kd.bN|apply Kd.bQ|apply Kd.bn));exact bM.out⟩,⟨bl⟩⟩
        rw [if_pos c20] at H
        have og:=decide_eq_true c20
        (try simp only [f_,gV] at og)
        clear c20
        have H':=k0 H
        clear H
        go_wp2
        go_loopg [9] k3 (fun kq v9 w'=>∃ (kW:List Int) (fM:Int),v9=.int .i64 fM∧au (bX.l3 kq l0 kW dG aY fM=some r)∧au (kq≤k3)∧au (Kd.R (Kd.int .i64) 2 w' w.heap.size (fun _=>True) (.slice (some ⟨qT,0,none⟩) jK.length Af) kW)∧au (Below w.heap.size w w'))
        case atStart=>exact ⟨(jK),(0),rs,H',⟨Nat.le_refl _⟩,⟨by (try simp only [f_]);(try simp only [gV]);(with_reducible repeat (first|apply Kd.bN|apply Kd.bQ|apply Kd.bn));exact bM.out⟩,⟨bl⟩⟩
        case round =>
         clear H'
         (try clear c3);(try clear iE);(try clear k7);(try clear c4);(try clear eA);(try clear mB);(try clear c7);(try clear gK);(try clear c8);(try clear iX);(try clear p9);(try clear q9);(try clear c13);(try clear kQ);(try clear c14);(try clear ku);(try clear tC);(try clear tF);(try clear c19);(try clear mA);(try clear c20);(try clear og);(try clear Fw);(try clear alU);(try clear tC);(try clear p9);(try clear tF);(try clear q9)
         obtain ⟨kW,fM,rfl,HA,gv,bM,HB⟩:=hrel
         have nJ:=(Kd.bu bM.out).1
         rw [nJ] at bM
         (try simp only [nJ])
         cases gk with
         | zero=>exact absurd HA.out (by simp [bX.l3])
         | succ k4 =>
          have H:=HA.out
          clear HA
          simp only [bX.l3] at H
          have xO:=k0 H
          clear H
          go_upto_region 14 with (fail)
          go_cut [48] (fun v48 wc=>∃ (kq:Nat) (Gm:Bool),v48=.bool Gm∧au (bX.j4 kq l0 kW dG aY fM Gm=some r)∧au (kq≤k4)∧au (Kd.R (Kd.int .i64) 2 wc w.heap.size (fun _=>True) (.slice (some ⟨qT,0,none⟩) kW.length Af) kW)∧au (Below w.heap.size w wc))
          case first =>
           have H:=xO.out
           clear xO
           by_cases c22:fM < (l0.length:Int)
           case neg =>
            rw [if_neg c22] at H
            have qO:decide (fM < (l0.length:Int))=false:=decide_eq_false c22
            (try simp only [f_,gV,nJ] at qO)
            clear c22
            (first|rw [qO]|(simp only [akx,cu];rw [qO])|skip)
            have H':=k0 H
            clear H
            go_wp2
            go_meet
            case rel=>exact ⟨_,(false),rs,H',⟨by have:=akl.out;have:=bz.out;have:=dg.out;have:=gv.out;first|omega|exact Nat.le_refl _⟩,⟨by (try simp only [f_]);(try simp only [gV]);(try simp only [nJ]);(with_reducible repeat (first|apply Kd.bN|apply Kd.bQ|apply Kd.bn));exact bM.out⟩,⟨bl⟩⟩
           rw [if_pos c22] at H
           have qO:=decide_eq_true c22
           (try simp only [f_,gV,nJ] at qO)
           clear c22
           (first|rw [qO]|(simp only [akx,cu];rw [qO])|skip)
           replace H:=iS H;obtain ⟨c23,H⟩:=H
           have rI:=decide_eq_true c23
           clear c23
           replace H:=iS H;obtain ⟨c24,H⟩:=H
           have t_:=decide_eq_true c24
           (try simp only [f_,gV,nJ] at t_)
           clear c24
           have H':=k0 H
           clear H
           have dN:0≤(aY:Int):=oD
           have dH:aY < (kW.length:Int):=oD
           obtain ⟨gB,e106,dF⟩:=Kd.bH (Kd.bu bM.out).2.2 aY dN dH
           obtain rfl:(⟨qT,0,none⟩:Addr)=gB:=(by injection e106)
           (first|simp only [add_plain] at dF|simp only [lS] at dF|simp only [Addr.add,Nat.zero_add] at dF|skip)
           replace dN:=eq_true dN
           replace dH:=eq_true dH
           go_wp2
           go_meet
           case rel=>exact ⟨_,(((rd kW aY) == dG)),rs,H',⟨by have:=akl.out;have:=bz.out;have:=dg.out;have:=gv.out;first|omega|exact Nat.le_refl _⟩,⟨by (try simp only [f_]);(try simp only [gV]);(try simp only [nJ]);(with_reducible repeat (first|apply Kd.bN|apply Kd.bQ|apply Kd.bn));exact bM.out⟩,⟨bl⟩⟩
          case rest =>
           clear xO
           (try clear c3);(try clear iE);(try clear k7);(try clear c4);(try clear eA);(try clear mB);(try clear c7);(try clear gK);(try clear c8);(try clear iX);(try clear p9);(try clear q9);(try clear c13);(try clear kQ);(try clear c14);(try clear ku);(try clear tC);(try clear tF);(try clear c19);(try clear mA);(try clear c20);(try clear og);(try clear c22);(try clear qO);(try clear c23);(try clear rI);(try clear c24);(try clear t_);(try clear dF);(try clear Fw);(try clear alU);(try clear dN);(try clear tC);(try clear p9);(try clear dH);(try clear tF);(try clear q9)
           obtain ⟨kq,Gm,rfl,HA,uN,bM,HB⟩:=hcut
           cases kq with
           | zero=>exact absurd HA.out (by simp [bX.j4])
           | succ eD =>
            have H:=HA.out
            clear HA
            simp only [bX.j4] at H
            by_cases c25:Gm=true
            case neg =>
             replace c25:=Bool.eq_false_iff.mpr c25
             subst c25
             have H1:(bX.l2 eD l0 kW dG (wrap64 (aY+1)))=some r:=by rw [if_neg (show ¬ (false=true) by decide)] at H;exact H
             clear H
             have H:=H1
             clear H1
             have H':=k0 H
             clear H
             go_wp2
             (try simp only [← gV,← nJ])
             go_roundg eD
             case measure=>have:=akl.out;have:=bz.out;have:=dg.out;have:=gv.out;have:=uN.out;omega
             case rel=>exact ⟨(kW),(wrap64 (aY+1)),rs,H',⟨by have:=akl.out;have:=bz.out;have:=dg.out;have:=gv.out;have:=uN.out;omega⟩,⟨by (try simp only [f_]);(try simp only [gV]);(try simp only [nJ]);(with_reducible repeat (first|apply Kd.bN|apply Kd.bQ|apply Kd.bn));exact bM.out⟩,⟨bl⟩⟩
            subst c25
            have H1:(if 0≤aY then (if aY < (l0.length:Int) then (if 0≤fM then (if fM < ((ah l0 aY).length:Int) then (if (rd (ah l0 aY) fM) < 0 then (if fM < (kW.length:Int) then (if (rd kW fM) < 0 then (bX.l3 eD l0 (kW.set (fM:Int).toNat (wrap64 (dG+1))) dG aY (wrap64 (fM+1))) else (bX.l3 eD l0 kW dG aY (wrap64 (fM+1)))) else (none)) else (bX.l3 eD l0 kW dG aY (wrap64 (fM+1)))) else (none)) else (none)) else (none)) else (none))=some r:=by rw [if_pos rfl] at H;exact H
            clear H
            have H:=H1
            clear H1
            replace H:=iS H;obtain ⟨c26,H⟩:=H
            have wG:=decide_eq_true c26
            clear c26
            replace H:=iS H;obtain ⟨c27,H⟩:=H
            have sr:=decide_eq_true c27
            (try simp only [f_,gV,nJ] at sr)
            clear c27
            replace H:=iS H;obtain ⟨c28,H⟩:=H
            have afS:=decide_eq_true c28
            clear c28
            replace H:=iS H;obtain ⟨c29,H⟩:=H
            have Wy:=decide_eq_true c29
            (try simp only [f_,gV,nJ] at Wy)
            clear c29
            by_cases c30:(rd (ah l0 aY) fM) < 0
            case neg =>
             rw [if_neg c30] at H
             have H9:decide ((rd (ah l0 aY) fM) < 0)=false:=decide_eq_false c30
             clear c30
             have H':=k0 H
             clear H
             have gh:0≤(aY:Int):=oD
             have gj:aY < (l0.length:Int):=oD
             obtain ⟨o9,DW,Ey,e107,fR,qh,qf⟩:=cW fj.out aY gh gj
             cases e107
             replace fR:=hbc HB fR
             have uQ:=k0 qf
             have D8:=k0 qh
             clear qf qh
             replace gh:=eq_true gh
             replace gj:=eq_true gj
             have ec:0≤(fM:Int):=oD
             have dS:fM < ((ah l0 aY).length:Int):=oD
             obtain ⟨akU,e108,fu⟩:=Kd.bH uQ.out fM ec dS
             cases e108
             replace fu:=hbc HB fu
             replace ec:=eq_true ec
             replace dS:=eq_true dS
             go_wp2
             (try simp only [← nJ])
             go_roundg eD
             case measure=>have:=akl.out;have:=bz.out;have:=dg.out;have:=gv.out;have:=uN.out;omega
             case rel=>exact ⟨(kW),(wrap64 (fM+1)),rs,H',⟨by have:=akl.out;have:=bz.out;have:=dg.out;have:=gv.out;have:=uN.out;omega⟩,⟨by (try simp only [f_]);(try simp only [gV]);(try simp only [nJ]);(with_reducible repeat (first|apply Kd.bN|apply Kd.bQ|apply Kd.bn));exact bM.out⟩,⟨bl⟩⟩
            rw [if_pos c30] at H
            have H9:=decide_eq_true c30
            clear c30
            replace H:=iS H;obtain ⟨c31,H⟩:=H
            have oh:=decide_eq_true c31
            (try simp only [f_,gV,nJ] at oh)
            clear c31
            by_cases c32:(rd kW fM) < 0
            case neg =>
             rw [if_neg c32] at H
             have NA:decide ((rd kW fM) < 0)=false:=decide_eq_false c32
             clear c32
             have H':=k0 H
             clear H
             have gh:0≤(aY:Int):=oD
             have gj:aY < (l0.length:Int):=oD
             obtain ⟨o9,DW,Ey,e107,fR,qh,qf⟩:=cW fj.out aY gh gj
             cases e107
             replace fR:=hbc HB fR
             have uQ:=k0 qf
             have D8:=k0 qh
             clear qf qh
             replace gh:=eq_true gh
             replace gj:=eq_true gj
             have ec:0≤(fM:Int):=oD
             have dS:fM < ((ah l0 aY).length:Int):=oD
             obtain ⟨akU,e108,fu⟩:=Kd.bH uQ.out fM ec dS
             cases e108
             replace fu:=hbc HB fu
             replace ec:=eq_true ec
             replace dS:=eq_true dS
             have eG:0≤(fM:Int):=oD
             have ew:fM < (kW.length:Int):=oD
             obtain ⟨lQ,e109,akF⟩:=Kd.bH (Kd.bu bM.out).2.2 fM eG ew
             obtain rfl:(⟨qT,0,none⟩:Addr)=lQ:=(by injection e109)
             (first|simp only [add_plain] at akF|simp only [lS] at akF|simp only [Addr.add,Nat.zero_add] at akF|skip)
             replace eG:=eq_true eG
             replace ew:=eq_true ew
             go_wp2
             (try simp only [← nJ])
             go_roundg eD
             case measure=>have:=akl.out;have:=bz.out;have:=dg.out;have:=gv.out;have:=uN.out;omega
             case rel=>exact ⟨(kW),(wrap64 (fM+1)),rs,H',⟨by have:=akl.out;have:=bz.out;have:=dg.out;have:=gv.out;have:=uN.out;omega⟩,⟨by (try simp only [f_]);(try simp only [gV]);(try simp only [nJ]);(with_reducible repeat (first|apply Kd.bN|apply Kd.bQ|apply Kd.bn));exact bM.out⟩,⟨bl⟩⟩
            rw [if_pos c32] at H
            have NA:=decide_eq_true c32
            clear c32
            obtain ⟨tL,ow⟩:∃ y_:List Int,y_=(kW.set (fM:Int).toNat (wrap64 (dG+1))):=⟨_,rfl⟩
            replace H:(bX.l3 eD l0 tL dG aY (wrap64 (fM+1)))=some r:=by first|(rw [ow];with_reducible exact H)|(have ay:=(Option.bind_some _ _).symm.trans H;rw [ow];with_reducible exact ay)|(have ay:=(Option.bind_some _ _).symm.trans H;with_reducible exact ay)|with_reducible exact H|(rw [ow];exact H)|exact H
            have Bk:=k0 ow
            clear ow
            have H':=k0 H
            clear H
            have gh:0≤(aY:Int):=oD
            have gj:aY < (l0.length:Int):=oD
            obtain ⟨o9,DW,Ey,e107,fR,qh,qf⟩:=cW fj.out aY gh gj
            cases e107
            replace fR:=hbc HB fR
            have uQ:=k0 qf
            have D8:=k0 qh
            clear qf qh
            replace gh:=eq_true gh
            replace gj:=eq_true gj
            have ec:0≤(fM:Int):=oD
            have dS:fM < ((ah l0 aY).length:Int):=oD
            obtain ⟨akU,e108,fu⟩:=Kd.bH uQ.out fM ec dS
            cases e108
            replace fu:=hbc HB fu
            replace ec:=eq_true ec
            replace dS:=eq_true dS
            have eG:0≤(fM:Int):=oD
            have ew:fM < (kW.length:Int):=oD
            obtain ⟨lQ,e109,akF⟩:=Kd.bH (Kd.bu bM.out).2.2 fM eG ew
            obtain rfl:(⟨qT,0,none⟩:Addr)=lQ:=(by injection e109)
            (first|simp only [add_plain] at akF|simp only [lS] at akF|simp only [Addr.add,Nat.zero_add] at akF|skip)
            replace eG:=eq_true eG
            replace ew:=eq_true ew
            have KI:0≤(fM:Int):=oD
            have KY:(fM:Int) < ((kW.length:Int):Int):=oD
            obtain ⟨ajf,ahd⟩:=Kd.jD 0 bM.out (fM:Int) KI KY
            replace KI:=eq_true KI
            replace KY:=eq_true KY
            have pZ:=Kd.kP bM.out (fM:Int) (wrap64 (dG+1))
            go_wp2_with (first|((with_reducible refine lf (t:=2) (p:=70) rfl ?_);refine lq (t:=2) (p:=70) (v:=?aeG) (w1:=(wc.setCell ⟨qT,(fM:Int).toNat,none⟩ (.int .i64 (wrap64 (dG+1))))) ?hg ?ho ?hn ?hr ?_;(case ho=>rfl);(case hg=>rfl);(case hn=>rfl);(case hr=>first|(go_simp;done)|(go_simp;rfl));intro ak' hw;have hg:wc.grownBy ak' (some qT):=(by rw [hw];exact pZ.2);have dZ:Kd.R (Kd.int .i64) 2 ak' w.heap.size (fun _=>True) (.slice (some ⟨qT,0,none⟩) kW.length Af) tL:=(by rw [hw,Bk.out];exact pZ.1);clear pZ;replace bM:=k0 (dZ);replace HB:=k0 ((by rw [hw];exact dM (HB.out) L_.out:Below w.heap.size w ak'));clear hg hw dZ))
            (try simp only [← nJ])
            go_roundg eD
            case measure=>have:=akl.out;have:=bz.out;have:=dg.out;have:=gv.out;have:=uN.out;omega
            case rel=>exact ⟨(tL),(wrap64 (fM+1)),rs,H',⟨by have:=akl.out;have:=bz.out;have:=dg.out;have:=gv.out;have:=uN.out;omega⟩,⟨by (try simp only [f_]);(try simp only [gV]);(try simp only [nJ]);(with_reducible repeat (first|apply Kd.bN|apply Kd.bQ|apply Kd.bn));exact bM.out⟩,⟨bl⟩⟩
   rw [if_pos c7] at H
   have gK:=decide_eq_true c7
   clear c7
   replace H:=iS H;obtain ⟨c8,H⟩:=H
   have iX:=decide_eq_true c8
   clear c8
   obtain ⟨nV,jt⟩:∃ y_:List Int,y_=(aM.set (fU:Int).toNat (-1)):=⟨_,rfl⟩
   replace H:(bX.l0 k1 l0 a1 nV (wrap64 (fU+1)))=some r:=by first|(rw [jt];with_reducible exact H)|(have ay:=(Option.bind_some _ _).symm.trans H;rw [jt];with_reducible exact ay)|(have ay:=(Option.bind_some _ _).symm.trans H;with_reducible exact ay)|with_reducible exact H|(rw [jt];exact H)|exact H
   have tU:=k0 jt
   clear jt
   have H':=k0 H
   clear H
   obtain ⟨ams,pn,qa⟩:=Kd.eK bM.out
   subst qa
   have p9:0≤(fU:Int):=oD
   have q9:(fU:Int) < ((aM.length:Int):Int):=oD
   obtain ⟨yh,Im,ye,BW,IW,W4,Bd⟩:=Kd.akT bM.out (by omega)
   (first|cases ye|(injection ye with bf dn dm;(first|subst bf|(injection bf with bf;subst bf));subst dm;clear dn))
   have GH:=k0 BW
   have TZ:=k0 Bd
   clear BW IW Bd
   obtain ⟨alU,JB⟩:=Kd.jD 0 bM.out (fU:Int) p9 q9
   replace p9:=eq_true p9
   replace q9:=eq_true q9
   have r8:=Kd.kP bM.out (fU:Int) (-1)
   go_wp2_with (first|((with_reducible refine lf (t:=2) (p:=21) rfl ?_);refine lq (t:=2) (p:=21) (v:=?aeE) (w1:=(wr.setCell ⟨yh,(fU:Int).toNat,none⟩ (.int .i64 (-1)))) ?hg ?ho ?hn ?hr ?_;(case ho=>rfl);(case hg=>rfl);(case hn=>rfl);(case hr=>first|(go_simp;done)|(go_simp;rfl));intro jb hw;have hg:wr.grownBy jb (some yh):=(by rw [hw];exact r8.2);have dZ:Kd.R (Kd.int .i64) 2 jb w.heap.size (fun _=>True) (.slice (some ⟨yh,0,none⟩) aM.length pn) nV:=(by rw [hw,tU.out];exact r8.1);clear r8;replace bM:=k0 (dZ);replace HB:=k0 ((by rw [hw];exact dM (HB.out) GH.out:Below w.heap.size w jb));clear hg hw dZ))
   go_roundg k1
   case measure=>have:=akl.out;omega
   case rel=>exact ⟨(nV),(wrap64 (fU+1)),rs,H',⟨by have:=akl.out;omega⟩,⟨aR (bM.out)⟩,⟨bl⟩⟩
end Go.Proofs.Ytoebojnhchocaaa.C
/- Set with little white space, by a program. -/
