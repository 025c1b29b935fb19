/- The functions that one law reaches, each as a Lean function, and that Go's call comes to what it says. Condition of each: that the Lean function answers (is not none). -/
import Derived.Test.YtoebojnhchocaaaDx0
namespace Go.Proofs.Ytoebojnhchocaaa.D
open Go.RowKit Go.Proofs.bR.eC Go.Proofs.bR.je Go.Proofs.bR.jO
attribute [local go_sem] max2_int min2_int max_two min_two max_three min_three max_four min_four   -- for this text's walks alone
set_option linter.unusedVariables false
set_option linter.unusedSimpArgs false
/-! ### F174: function 174 -/
mutual
def als.l0 : Nat → List (List Int) → Int → List Int → Int → Option (List Int)
 | 0,_,_,_,_=>none
 | k+1,x0,x1,x5,x6=>if x6 < (x5.length:Int) then (if 0≤x6 then (als.l0 k x0 x1 (x5.set (x6:Int).toNat (-1)) (wrap64 (x6+1))) else (none)) else (if 0≤x1 then (if x1 < (x5.length:Int) then (als.l1 k x0 (x5.set (x1:Int).toNat 0) 0) else (none)) else (none))
def als.l1 : Nat → List (List Int) → List Int → Int → Option (List Int)
 | 0,_,_,_=>none
 | k+1,x0,x5,x7=>if x7 < (x0.length:Int) then (als.l2 k x0 x5 x7 0) else (some x5)
def als.l2 : Nat → List (List Int) → List Int → Int → Int → Option (List Int)
 | 0,_,_,_,_=>none
 | k+1,x0,x5,x7,x8=>if x8 < (x0.length:Int) then (als.l3 k x0 x5 x7 x8 0) else (als.l1 k x0 x5 (wrap64 (x7+1)))
def als.l3 : Nat → List (List Int) → List Int → Int → Int → Int → Option (List Int)
 | 0,_,_,_,_,_=>none
 | k+1,x0,x5,x7,x8,x9=>if x9 < (x0.length:Int) then (if 0≤x8 then (if x8 < (x5.length:Int) then (als.j4 k x0 x5 x7 x8 x9 ((rd x5 x8) == x7)) else (none)) else (none)) else (als.j4 k x0 x5 x7 x8 x9 false)
def als.j4 : Nat → List (List Int) → List Int → Int → Int → Int → Bool → Option (List Int)
 | 0,_,_,_,_,_,_=>none
 | k+1,x0,x5,x7,x8,x9,BH=>if BH=true then (if 0≤x8 then (if x8 < (x0.length:Int) then (if 0≤x9 then (if x9 < ((ah x0 x8).length:Int) then (if (rd (ah x0 x8) x9) < 0 then (if x9 < (x5.length:Int) then (if (rd x5 x9) < 0 then (als.l3 k x0 (x5.set (x9:Int).toNat (wrap64 (x7+1))) x7 x8 (wrap64 (x9+1))) else (als.l3 k x0 x5 x7 x8 (wrap64 (x9+1)))) else (none)) else (als.l3 k x0 x5 x7 x8 (wrap64 (x9+1)))) else (none)) else (none)) else (none)) else (none)) else (als.l2 k x0 x5 x7 (wrap64 (x8+1)))
end
def als.f (k:Nat) (l0:List (List Int)) (a1:Int):Option (List Int):=if 0≤(l0.length:Int) then (if ((l0.length:Int):Int).toNat≤35184372088832 then (als.l0 k l0 a1 (List.replicate ((l0.length:Int):Int).toNat 0) 0) else (none)) else (none)
theorem als.bU : ∀ k, (∀ y0 y1 y2 y3, aj (als.l0 k y0 y1 y2 y3) (als.l0 (k + 1) y0 y1 y2 y3)) ∧ (∀ y0 y1 y2, aj (als.l1 k y0 y1 y2) (als.l1 (k + 1) y0 y1 y2)) ∧ (∀ y0 y1 y2 y3, aj (als.l2 k y0 y1 y2 y3) (als.l2 (k + 1) y0 y1 y2 y3)) ∧ (∀ y0 y1 y2 y3 y4, aj (als.l3 k y0 y1 y2 y3 y4) (als.l3 (k + 1) y0 y1 y2 y3 y4)) ∧ (∀ y0 y1 y2 y3 y4 y5, aj (als.j4 k y0 y1 y2 y3 y4 y5) (als.j4 (k + 1) y0 y1 y2 y3 y4 y5))
 | 0=>⟨fun _ _ _ _ r h=>by simp [als.l0] at h,fun _ _ _ r h=>by simp [als.l1] at h,fun _ _ _ _ r h=>by simp [als.l2] at h,fun _ _ _ _ _ r h=>by simp [als.l3] at h,fun _ _ _ _ _ _ r h=>by simp [als.j4] at h⟩
 | k+1=>by
  obtain ⟨alg,ih1,ih2,ih3,ih4⟩:=als.bU k
  refine ⟨?_, ?_, ?_, ?_, ?_⟩ <;> intros <;> (first | unfold als.l0 | unfold als.l1 | unfold als.l2 | unfold als.l3 | unfold als.j4) <;> repeat' first
   | (with_reducible first|exact alg _ _ _ _|exact ih1 _ _ _|exact ih2 _ _ _ _|exact ih3 _ _ _ _ _|exact ih4 _ _ _ _ _ _|exact aj.refl _|exact aj.none _|refine aj.ite ?_ ?_|refine aj.bind ?_ (fun _=>?_))
   | exact alg _ _ _ _|exact ih1 _ _ _|exact ih2 _ _ _ _|exact ih3 _ _ _ _ _|exact ih4 _ _ _ _ _ _|exact aj.none _|refine aj.ite ?_ ?_|refine aj.bind ?_ (fun _=>?_)
theorem als.mono:∀ a0 a1 k,aj (als.f k a0 a1) (als.f (k+1) a0 a1):=by
 intro a0 a1 k
 obtain ⟨alg,ih1,ih2,ih3,ih4⟩:=als.bU k
 unfold als.f
 repeat' first
  | (with_reducible first|exact alg _ _ _ _|exact ih1 _ _ _|exact ih2 _ _ _ _|exact ih3 _ _ _ _ _|exact ih4 _ _ _ _ _ _|exact aj.refl _|exact aj.none _|refine aj.ite ?_ ?_|refine aj.bind ?_ (fun _=>?_))
  | exact alg _ _ _ _|exact ih1 _ _ _|exact ih2 _ _ _ _|exact ih3 _ _ _ _ _|exact ih4 _ _ _ _ _ _|exact aj.none _|refine aj.ite ?_ ?_|refine aj.bind ?_ (fun _=>?_)
set_option maxHeartbeats 8000000 in
set_option maxRecDepth 100000 in
theorem als.calls (k : Nat) (A0 : Option Addr) (c0 : Nat) (l0 : List (List Int)) (a1 : Int) (r : List Int) (w : World) (cS : Kd.C (Kd.slice 2 (Kd.int .i64)) w A0 l0.length l0) (hc0 : l0.length ≤ c0) (h : als.f k l0 a1 = some r) :
  Calls Try.prog 174 #[.slice A0 l0.length c0,.int .i64 a1] w fun e w'=>∃ dH:Value,e=.returned (dH)∧Kd.R (Kd.int .i64) 2 w' w.heap.size (fun _=>True) dH r∧Below w.heap.size w w':=by
 have fe:=k0 cS
 have alR:=k0 hc0
 clear cS hc0
 have HB:=k0 (Below.refl w.heap.size w)
 have H:(if 0≤(l0.length:Int) then (if ((l0.length:Int):Int).toNat≤35184372088832 then (als.l0 k l0 a1 (List.replicate ((l0.length:Int):Int).toNat 0) 0) else (none)) else (none))=some r:=h
 clear h
 replace H:=iS H;obtain ⟨c3,H⟩:=H
 have gZ:=eq_true c3
 have lD:=decide_eq_true c3
 clear c3
 replace H:=iS H;obtain ⟨c4,H⟩:=H
 have eD:=eq_true c4
 have l7:=decide_eq_true c4
 clear c4
 obtain ⟨jx,gf⟩:∃ y_:List Int,y_=(List.replicate ((l0.length:Int):Int).toNat 0):=⟨_,rfl⟩
 replace H:(als.l0 k l0 a1 jx 0)=some r:=by first|(rw [gf];with_reducible exact H)|(have ax:=(Option.bind_some _ _).symm.trans H;rw [gf];with_reducible exact ax)|(have ax:=(Option.bind_some _ _).symm.trans H;with_reducible exact ax)|with_reducible exact H|(rw [gf];exact H)|exact H
 have mq:=k0 gf
 clear gf
 have H':=k0 H
 clear H
 go_enter Try.func174,Try.ntmps174
 go_wp2_with (first|((with_reducible refine cj (N:=12) rfl ?_);refine Kd.yg (Kd.int .i64) _ 2 rfl (N:=12) rfl 28 _ _ rfl (l0.length:Int) rfl rfl Try.underlying28 (.int .i64 0) 8 alU rfl (by decide) (by omega) 0 (ok:=fun _=>True) (b9:=fun _=>True) rfl (fun _ hk=>hk) trivial oD (Nat.le_trans (Nat.mul_le_mul_right _ (oD:(l0.length:Int).toNat≤35184372088832)) (by omega)) (Below.refl _ _) (Nat.le_refl _) ?_;intro mg w5 Dq hb dF dG;clear dF dG;(first|rw [← mq.out] at Dq|(simp only [Int.reduceToNat] at Dq;rw [← mq.out] at Dq));have kU:=k0 (Kd.dI Dq (alk bl));replace HB:=k0 (aI bl hb);clear hb Dq))
 go_loopg [6] k (fun kq v6 w'=>∃ (ali:List Int) (fS:Int),v6=.int .i64 fS∧au (als.l0 kq l0 a1 ali fS=some r)∧au (kq≤k)∧au (Kd.R (Kd.int .i64) 2 w' w.heap.size (fun _=>True) mg ali)∧au (Below w.heap.size w w'))
 case atStart=>exact ⟨(jx),(0),rs,H',⟨Nat.le_refl _⟩,⟨aR (kU.out)⟩,⟨bl⟩⟩
 case round =>
  clear H'
  (try clear c3);(try clear gZ);(try clear lD);(try clear c4);(try clear eD);(try clear l7)
  obtain ⟨ali,fS,rfl,HA,alj,bQ,HB⟩:=hrel
  cases gk with
  | zero=>exact absurd HA.out (by simp [als.l0])
  | succ k1 =>
   have H:=HA.out
   clear HA
   simp only [als.l0] at H
   by_cases c7:fS < (ali.length:Int)
   case neg =>
    rw [if_neg c7] at H
    have alJ:decide (fS < (ali.length:Int))=false:=decide_eq_false c7
    clear c7
    replace H:=iS H;obtain ⟨c13,H⟩:=H
    have alV:=decide_eq_true c13
    clear c13
    replace H:=iS H;obtain ⟨c14,H⟩:=H
    have kH:=decide_eq_true c14
    clear c14
    obtain ⟨jb,fy⟩:∃ y_:List Int,y_=(ali.set (a1:Int).toNat 0):=⟨_,rfl⟩
    replace H:(als.l1 k1 l0 jb 0)=some r:=by first|(rw [fy];with_reducible exact H)|(have ax:=(Option.bind_some _ _).symm.trans H;rw [fy];with_reducible exact ax)|(have ax:=(Option.bind_some _ _).symm.trans H;with_reducible exact ax)|with_reducible exact H|(rw [fy];exact H)|exact H
    have lY:=k0 fy
    clear fy
    have H':=k0 H
    clear H
    obtain ⟨afP,AG,YP⟩:=Kd.eF bQ.out
    subst YP
    have tM:0≤(a1:Int):=oD
    have tP:(a1:Int) < ((ali.length:Int):Int):=oD
    obtain ⟨amb,eX,Cy,PA,Zu,ag8,Nf⟩:=Kd.lp bQ.out (by omega)
    (first|cases Cy|(injection Cy with bh dm di;(first|subst bh|(injection bh with bh;subst bh));subst di;clear dm))
    have M7:=k0 PA
    have afU:=k0 Nf
    clear PA Zu Nf
    obtain ⟨Gi,ah2⟩:=Kd.jB 0 bQ.out (a1:Int) tM tP
    replace tM:=eq_true tM
    replace tP:=eq_true tP
    have Ie:=Kd.kW bQ.out (a1:Int) 0
    go_wp2_with (first|((with_reducible refine lF (t:=2) (p:=24) rfl ?_);refine lJ (t:=2) (p:=24) (v:=?ak7) (w1:=(wr.setCell ⟨amb,(a1:Int).toNat,none⟩ (.int .i64 0))) ?hg ?ho ?hn ?hr ?_;(case ho=>rfl);(case hg=>rfl);(case hn=>rfl);(case hr=>first|(go_simp;done)|(go_simp;rfl));intro zF hw;have hg:wr.grownBy zF (some amb):=(by rw [hw];exact Ie.2);have ec:Kd.R (Kd.int .i64) 2 zF w.heap.size (fun _=>True) (.slice (some ⟨amb,0,none⟩) ali.length AG) jb:=(by rw [hw,lY.out];exact Ie.1);clear Ie;replace bQ:=k0 (ec);replace HB:=k0 ((by rw [hw];exact dJ (HB.out) M7.out:Below w.heap.size w zF));clear hg hw ec))
    go_loopg [7] k1 (fun kq v7 w'=>∃ (alo:List Int) (dB:Int),v7=.int .i64 dB∧au (als.l1 kq l0 alo dB=some r)∧au (kq≤k1)∧au (Kd.R (Kd.int .i64) 2 w' w.heap.size (fun _=>True) (.slice (some ⟨amb,0,none⟩) ali.length AG) alo)∧au (Below w.heap.size w w'))
    case atStart=>exact ⟨(jb),(0),rs,H',⟨Nat.le_refl _⟩,⟨aR (bQ.out)⟩,⟨bl⟩⟩
    case round =>
     clear H'
     (try clear c3);(try clear gZ);(try clear lD);(try clear c4);(try clear eD);(try clear l7);(try clear c7);(try clear alJ);(try clear c8);(try clear jg);(try clear p9);(try clear q9);(try clear c13);(try clear alV);(try clear c14);(try clear kH);(try clear tM);(try clear tP);(try clear Gi);(try clear zi);(try clear tM);(try clear p9);(try clear tP);(try clear q9)
     obtain ⟨alo,dB,rfl,HA,bB,bQ,HB⟩:=hrel
     have alF:=(Kd.bx bQ.out).1
     rw [alF] at bQ
     (try simp only [alF])
     cases gk with
     | zero=>exact absurd HA.out (by simp [als.l1])
     | succ k2 =>
      have H:=HA.out
      clear HA
      simp only [als.l1] at H
      by_cases c19:dB < (l0.length:Int)
      case neg =>
       rw [if_neg c19] at H
       have lC:decide (dB < (l0.length:Int))=false:=decide_eq_false c19
       (try simp only [alF] at lC)
       clear c19
       obtain rfl:=Option.some.inj H
       go_wp2
       go_ret
       exact ⟨_,by first|rfl|(simp [bz,bA]<;>rfl)|(simp [*,bz,bA]<;>rfl),by (with_reducible repeat (first|apply Kd.bH|apply Kd.bL|apply Kd.bn));exact bQ.out,bl⟩
      rw [if_pos c19] at H
      have lC:=decide_eq_true c19
      (try simp only [alF] at lC)
      clear c19
      have H':=k0 H
      clear H
      go_wp2
      go_loopg [8] k2 (fun kq v8 w'=>∃ (jK:List Int) (aX:Int),v8=.int .i64 aX∧au (als.l2 kq l0 jK dB aX=some r)∧au (kq≤k2)∧au (Kd.R (Kd.int .i64) 2 w' w.heap.size (fun _=>True) (.slice (some ⟨amb,0,none⟩) alo.length AG) jK)∧au (Below w.heap.size w w'))
      case atStart=>exact ⟨(alo),(0),rs,H',⟨Nat.le_refl _⟩,⟨by (try simp only [alF]);(with_reducible repeat (first|apply Kd.bH|apply Kd.bL|apply Kd.bn));exact bQ.out⟩,⟨bl⟩⟩
      case round =>
       clear H'
       (try clear c3);(try clear gZ);(try clear lD);(try clear c4);(try clear eD);(try clear l7);(try clear c7);(try clear alJ);(try clear c8);(try clear jg);(try clear p9);(try clear q9);(try clear c13);(try clear alV);(try clear c14);(try clear kH);(try clear tM);(try clear tP);(try clear c19);(try clear lC);(try clear Gi);(try clear zi);(try clear tM);(try clear p9);(try clear tP);(try clear q9)
       obtain ⟨jK,aX,rfl,HA,cN,bQ,HB⟩:=hrel
       have gT:=(Kd.bx bQ.out).1
       rw [gT] at bQ
       (try simp only [gT])
       cases gk with
       | zero=>exact absurd HA.out (by simp [als.l2])
       | succ k3 =>
        have H:=HA.out
        clear HA
        simp only [als.l2] at H
        by_cases c20:aX < (l0.length:Int)
        case neg =>
         rw [if_neg c20] at H
         have og:decide (aX < (l0.length:Int))=false:=decide_eq_false c20
         (try simp only [alF,gT] at og)
         clear c20
         have H':=k0 H
         clear H
         go_wp2
         (try simp only [← alF,← gT])
         go_roundg k3
         case measure=>have:=alj.out;have:=bB.out;have:=cN.out;omega
         case rel=>exact ⟨(jK),(wrap64 (dB+1)),rs,H',⟨by have:=alj.out;have:=bB.out;have:=cN.out;omega⟩,⟨by (try simp only [alF]);(try simp only [gT]);(with_reducible repeat (first|apply Kd.bH|apply Kd.bL|apply Kd.bn));exact bQ.out⟩,⟨bl⟩⟩
        rw [if_pos c20] at H
        have og:=decide_eq_true c20
        (try simp only [alF,gT] at og)
        clear c20
        have H':=k0 H
        clear H
        go_wp2
        go_loopg [9] k3 (fun kq v9 w'=>∃ (k9:List Int) (fJ:Int),v9=.int .i64 fJ∧au (als.l3 kq l0 k9 dB aX fJ=some r)∧au (kq≤k3)∧au (Kd.R (Kd.int .i64) 2 w' w.heap.size (fun _=>True) (.slice (some ⟨amb,0,none⟩) jK.length AG) k9)∧au (Below w.heap.size w w'))
        case atStart=>exact ⟨(jK),(0),rs,H',⟨Nat.le_refl _⟩,⟨by (try simp only [alF]);(try simp only [gT]);(with_reducible repeat (first|apply Kd.bH|apply Kd.bL|apply Kd.bn));exact bQ.out⟩,⟨bl⟩⟩
        case round =>
         clear H'
         (try clear c3);(try clear gZ);(try clear lD);(try clear c4);(try clear eD);(try clear l7);(try clear c7);(try clear alJ);(try clear c8);(try clear jg);(try clear p9);(try clear q9);(try clear c13);(try clear alV);(try clear c14);(try clear kH);(try clear tM);(try clear tP);(try clear c19);(try clear lC);(try clear c20);(try clear og);(try clear Gi);(try clear zi);(try clear tM);(try clear p9);(try clear tP);(try clear q9)
         obtain ⟨k9,fJ,rfl,HA,fH,bQ,HB⟩:=hrel
         have nK:=(Kd.bx bQ.out).1
         rw [nK] at bQ
         (try simp only [nK])
         cases gk with
         | zero=>exact absurd HA.out (by simp [als.l3])
         | succ k4 =>
          have H:=HA.out
          clear HA
          simp only [als.l3] at H
          have anQ:=k0 H
          clear H
          go_upto_region 14 with (fail)
          go_cut [48] (fun v48 wc=>∃ (kq:Nat) (Hg:Bool),v48=.bool Hg∧au (als.j4 kq l0 k9 dB aX fJ Hg=some r)∧au (kq≤k4)∧au (Kd.R (Kd.int .i64) 2 wc w.heap.size (fun _=>True) (.slice (some ⟨amb,0,none⟩) k9.length AG) k9)∧au (Below w.heap.size w wc))
          case first =>
           have H:=anQ.out
           clear anQ
           by_cases c22:fJ < (l0.length:Int)
           case neg =>
            rw [if_neg c22] at H
            have al9:decide (fJ < (l0.length:Int))=false:=decide_eq_false c22
            (try simp only [alF,gT,nK] at al9)
            clear c22
            (first|rw [al9]|(simp only [cl,cv];rw [al9])|skip)
            have H':=k0 H
            clear H
            go_wp2
            go_meet
            case rel=>exact ⟨_,(false),rs,H',⟨by have:=alj.out;have:=bB.out;have:=cN.out;have:=fH.out;first|omega|exact Nat.le_refl _⟩,⟨by (try simp only [alF]);(try simp only [gT]);(try simp only [nK]);(with_reducible repeat (first|apply Kd.bH|apply Kd.bL|apply Kd.bn));exact bQ.out⟩,⟨bl⟩⟩
           rw [if_pos c22] at H
           have al9:=decide_eq_true c22
           (try simp only [alF,gT,nK] at al9)
           clear c22
           (first|rw [al9]|(simp only [cl,cv];rw [al9])|skip)
           replace H:=iS H;obtain ⟨c23,H⟩:=H
           have rO:=decide_eq_true c23
           clear c23
           replace H:=iS H;obtain ⟨c24,H⟩:=H
           have ur:=decide_eq_true c24
           (try simp only [alF,gT,nK] at ur)
           clear c24
           have H':=k0 H
           clear H
           have dM:0≤(aX:Int):=oD
           have dD:aX < (k9.length:Int):=oD
           obtain ⟨gA,e106,dA⟩:=Kd.bJ (Kd.bx bQ.out).2.2 aX dM dD
           obtain rfl:(⟨amb,0,none⟩:Addr)=gA:=(by injection e106)
           (first|simp only [add_plain] at dA|simp only [l6] at dA|simp only [Addr.add,Nat.zero_add] at dA|skip)
           replace dM:=eq_true dM
           replace dD:=eq_true dD
           go_wp2
           go_meet
           case rel=>exact ⟨_,(((rd k9 aX) == dB)),rs,H',⟨by have:=alj.out;have:=bB.out;have:=cN.out;have:=fH.out;first|omega|exact Nat.le_refl _⟩,⟨by (try simp only [alF]);(try simp only [gT]);(try simp only [nK]);(with_reducible repeat (first|apply Kd.bH|apply Kd.bL|apply Kd.bn));exact bQ.out⟩,⟨bl⟩⟩
          case rest =>
           clear anQ
           (try clear c3);(try clear gZ);(try clear lD);(try clear c4);(try clear eD);(try clear l7);(try clear c7);(try clear alJ);(try clear c8);(try clear jg);(try clear p9);(try clear q9);(try clear c13);(try clear alV);(try clear c14);(try clear kH);(try clear tM);(try clear tP);(try clear c19);(try clear lC);(try clear c20);(try clear og);(try clear c22);(try clear al9);(try clear c23);(try clear rO);(try clear c24);(try clear ur);(try clear dA);(try clear Gi);(try clear zi);(try clear dM);(try clear tM);(try clear p9);(try clear dD);(try clear tP);(try clear q9)
           obtain ⟨kq,Hg,rfl,HA,wG,bQ,HB⟩:=hcut
           cases kq with
           | zero=>exact absurd HA.out (by simp [als.j4])
           | succ vW =>
            have H:=HA.out
            clear HA
            simp only [als.j4] at H
            by_cases c25:Hg=true
            case neg =>
             replace c25:=Bool.eq_false_iff.mpr c25
             subst c25
             have H1:(als.l2 vW l0 k9 dB (wrap64 (aX+1)))=some r:=by rw [if_neg (show ¬ (false=true) by decide)] at H;exact H
             clear H
             have H:=H1
             clear H1
             have H':=k0 H
             clear H
             go_wp2
             (try simp only [← gT,← nK])
             go_roundg vW
             case measure=>have:=alj.out;have:=bB.out;have:=cN.out;have:=fH.out;have:=wG.out;omega
             case rel=>exact ⟨(k9),(wrap64 (aX+1)),rs,H',⟨by have:=alj.out;have:=bB.out;have:=cN.out;have:=fH.out;have:=wG.out;omega⟩,⟨by (try simp only [alF]);(try simp only [gT]);(try simp only [nK]);(with_reducible repeat (first|apply Kd.bH|apply Kd.bL|apply Kd.bn));exact bQ.out⟩,⟨bl⟩⟩
            subst c25
            have H1:(if 0≤aX then (if aX < (l0.length:Int) then (if 0≤fJ then (if fJ < ((ah l0 aX).length:Int) then (if (rd (ah l0 aX) fJ) < 0 then (if fJ < (k9.length:Int) then (if (rd k9 fJ) < 0 then (als.l3 vW l0 (k9.set (fJ:Int).toNat (wrap64 (dB+1))) dB aX (wrap64 (fJ+1))) else (als.l3 vW l0 k9 dB aX (wrap64 (fJ+1)))) else (none)) else (als.l3 vW l0 k9 dB aX (wrap64 (fJ+1)))) else (none)) else (none)) else (none)) else (none))=some r:=by rw [if_pos rfl] at H;exact H
            clear H
            have H:=H1
            clear H1
            replace H:=iS H;obtain ⟨c26,H⟩:=H
            have vA:=decide_eq_true c26
            clear c26
            replace H:=iS H;obtain ⟨c27,H⟩:=H
            have rP:=decide_eq_true c27
            (try simp only [alF,gT,nK] at rP)
            clear c27
            replace H:=iS H;obtain ⟨c28,H⟩:=H
            have XD:=decide_eq_true c28
            clear c28
            replace H:=iS H;obtain ⟨c29,H⟩:=H
            have XE:=decide_eq_true c29
            (try simp only [alF,gT,nK] at XE)
            clear c29
            by_cases c30:(rd (ah l0 aX) fJ) < 0
            case neg =>
             rw [if_neg c30] at H
             have Jf:decide ((rd (ah l0 aX) fJ) < 0)=false:=decide_eq_false c30
             clear c30
             have H':=k0 H
             clear H
             have gi:0≤(aX:Int):=oD
             have gl:aX < (l0.length:Int):=oD
             obtain ⟨pH,EJ,Fs,e107,fN,qx,qv⟩:=cX fe.out aX gi gl
             cases e107
             replace fN:=hbc HB fN
             have amx:=k0 qv
             have EX:=k0 qx
             clear qv qx
             replace gi:=eq_true gi
             replace gl:=eq_true gl
             have ef:0≤(fJ:Int):=oD
             have dR:fJ < ((ah l0 aX).length:Int):=oD
             obtain ⟨lu,e108,fu⟩:=Kd.bJ amx.out fJ ef dR
             cases e108
             replace fu:=hbc HB fu
             replace ef:=eq_true ef
             replace dR:=eq_true dR
             go_wp2
             (try simp only [← nK])
             go_roundg vW
             case measure=>have:=alj.out;have:=bB.out;have:=cN.out;have:=fH.out;have:=wG.out;omega
             case rel=>exact ⟨(k9),(wrap64 (fJ+1)),rs,H',⟨by have:=alj.out;have:=bB.out;have:=cN.out;have:=fH.out;have:=wG.out;omega⟩,⟨by (try simp only [alF]);(try simp only [gT]);(try simp only [nK]);(with_reducible repeat (first|apply Kd.bH|apply Kd.bL|apply Kd.bn));exact bQ.out⟩,⟨bl⟩⟩
            rw [if_pos c30] at H
            have Jf:=decide_eq_true c30
            clear c30
            replace H:=iS H;obtain ⟨c31,H⟩:=H
            have oh:=decide_eq_true c31
            (try simp only [alF,gT,nK] at oh)
            clear c31
            by_cases c32:(rd k9 fJ) < 0
            case neg =>
             rw [if_neg c32] at H
             have OJ:decide ((rd k9 fJ) < 0)=false:=decide_eq_false c32
             clear c32
             have H':=k0 H
             clear H
             have gi:0≤(aX:Int):=oD
             have gl:aX < (l0.length:Int):=oD
             obtain ⟨pH,EJ,Fs,e107,fN,qx,qv⟩:=cX fe.out aX gi gl
             cases e107
             replace fN:=hbc HB fN
             have amx:=k0 qv
             have EX:=k0 qx
             clear qv qx
             replace gi:=eq_true gi
             replace gl:=eq_true gl
             have ef:0≤(fJ:Int):=oD
             have dR:fJ < ((ah l0 aX).length:Int):=oD
             obtain ⟨lu,e108,fu⟩:=Kd.bJ amx.out fJ ef dR
             cases e108
             replace fu:=hbc HB fu
             replace ef:=eq_true ef
             replace dR:=eq_true dR
             have eH:0≤(fJ:Int):=oD
             have ez:fJ < (k9.length:Int):=oD
             obtain ⟨lZ,e109,gM⟩:=Kd.bJ (Kd.bx bQ.out).2.2 fJ eH ez
             obtain rfl:(⟨amb,0,none⟩:Addr)=lZ:=(by injection e109)
             (first|simp only [add_plain] at gM|simp only [l6] at gM|simp only [Addr.add,Nat.zero_add] at gM|skip)
             replace eH:=eq_true eH
             replace ez:=eq_true ez
             go_wp2
             (try simp only [← nK])
             go_roundg vW
             case measure=>have:=alj.out;have:=bB.out;have:=cN.out;have:=fH.out;have:=wG.out;omega
             case rel=>exact ⟨(k9),(wrap64 (fJ+1)),rs,H',⟨by have:=alj.out;have:=bB.out;have:=cN.out;have:=fH.out;have:=wG.out;omega⟩,⟨by (try simp only [alF]);(try simp only [gT]);(try simp only [nK]);(with_reducible repeat (first|apply Kd.bH|apply Kd.bL|apply Kd.bn));exact bQ.out⟩,⟨bl⟩⟩
            rw [if_pos c32] at H
            have OJ:=decide_eq_true c32
            clear c32
            obtain ⟨tY,oz⟩:∃ y_:List Int,y_=(k9.set (fJ:Int).toNat (wrap64 (dB+1))):=⟨_,rfl⟩
            replace H:(als.l3 vW l0 tY dB aX (wrap64 (fJ+1)))=some r:=by first|(rw [oz];with_reducible exact H)|(have ax:=(Option.bind_some _ _).symm.trans H;rw [oz];with_reducible exact ax)|(have ax:=(Option.bind_some _ _).symm.trans H;with_reducible exact ax)|with_reducible exact H|(rw [oz];exact H)|exact H
            have anp:=k0 oz
            clear oz
            have H':=k0 H
            clear H
            have gi:0≤(aX:Int):=oD
            have gl:aX < (l0.length:Int):=oD
            obtain ⟨pH,EJ,Fs,e107,fN,qx,qv⟩:=cX fe.out aX gi gl
            cases e107
            replace fN:=hbc HB fN
            have amx:=k0 qv
            have EX:=k0 qx
            clear qv qx
            replace gi:=eq_true gi
            replace gl:=eq_true gl
            have ef:0≤(fJ:Int):=oD
            have dR:fJ < ((ah l0 aX).length:Int):=oD
            obtain ⟨lu,e108,fu⟩:=Kd.bJ amx.out fJ ef dR
            cases e108
            replace fu:=hbc HB fu
            replace ef:=eq_true ef
            replace dR:=eq_true dR
            have eH:0≤(fJ:Int):=oD
            have ez:fJ < (k9.length:Int):=oD
            obtain ⟨lZ,e109,gM⟩:=Kd.bJ (Kd.bx bQ.out).2.2 fJ eH ez
            obtain rfl:(⟨amb,0,none⟩:Addr)=lZ:=(by injection e109)
            (first|simp only [add_plain] at gM|simp only [l6] at gM|simp only [Addr.add,Nat.zero_add] at gM|skip)
            replace eH:=eq_true eH
            replace ez:=eq_true ez
            have LK:0≤(fJ:Int):=oD
            have L0:(fJ:Int) < ((k9.length:Int):Int):=oD
            obtain ⟨akb,ah6⟩:=Kd.jB 0 bQ.out (fJ:Int) LK L0
            replace LK:=eq_true LK
            replace L0:=eq_true L0
            have al6:=Kd.kW bQ.out (fJ:Int) (wrap64 (dB+1))
            go_wp2_with (first|((with_reducible refine lF (t:=2) (p:=70) rfl ?_);refine lJ (t:=2) (p:=70) (v:=?afn) (w1:=(wc.setCell ⟨amb,(fJ:Int).toNat,none⟩ (.int .i64 (wrap64 (dB+1))))) ?hg ?ho ?hn ?hr ?_;(case ho=>rfl);(case hg=>rfl);(case hn=>rfl);(case hr=>first|(go_simp;done)|(go_simp;rfl));intro tV hw;have hg:wc.grownBy tV (some amb):=(by rw [hw];exact al6.2);have ec:Kd.R (Kd.int .i64) 2 tV w.heap.size (fun _=>True) (.slice (some ⟨amb,0,none⟩) k9.length AG) tY:=(by rw [hw,anp.out];exact al6.1);clear al6;replace bQ:=k0 (ec);replace HB:=k0 ((by rw [hw];exact dJ (HB.out) M7.out:Below w.heap.size w tV));clear hg hw ec))
            (try simp only [← nK])
            go_roundg vW
            case measure=>have:=alj.out;have:=bB.out;have:=cN.out;have:=fH.out;have:=wG.out;omega
            case rel=>exact ⟨(tY),(wrap64 (fJ+1)),rs,H',⟨by have:=alj.out;have:=bB.out;have:=cN.out;have:=fH.out;have:=wG.out;omega⟩,⟨by (try simp only [alF]);(try simp only [gT]);(try simp only [nK]);(with_reducible repeat (first|apply Kd.bH|apply Kd.bL|apply Kd.bn));exact bQ.out⟩,⟨bl⟩⟩
   rw [if_pos c7] at H
   have alJ:=decide_eq_true c7
   clear c7
   replace H:=iS H;obtain ⟨c8,H⟩:=H
   have jg:=decide_eq_true c8
   clear c8
   obtain ⟨nW,jo⟩:∃ y_:List Int,y_=(ali.set (fS:Int).toNat (-1)):=⟨_,rfl⟩
   replace H:(als.l0 k1 l0 a1 nW (wrap64 (fS+1)))=some r:=by first|(rw [jo];with_reducible exact H)|(have ax:=(Option.bind_some _ _).symm.trans H;rw [jo];with_reducible exact ax)|(have ax:=(Option.bind_some _ _).symm.trans H;with_reducible exact ax)|with_reducible exact H|(rw [jo];exact H)|exact H
   have uj:=k0 jo
   clear jo
   have H':=k0 H
   clear H
   obtain ⟨EO,pK,ql⟩:=Kd.eF bQ.out
   subst ql
   have p9:0≤(fS:Int):=oD
   have q9:(fS:Int) < ((ali.length:Int):Int):=oD
   obtain ⟨yF,Cv,vG,CI,JZ,X1,BZ⟩:=Kd.lp bQ.out (by omega)
   (first|cases vG|(injection vG with bh dm di;(first|subst bh|(injection bh with bh;subst bh));subst di;clear dm))
   have anH:=k0 CI
   have U0:=k0 BZ
   clear CI JZ BZ
   obtain ⟨zi,KD⟩:=Kd.jB 0 bQ.out (fS:Int) p9 q9
   replace p9:=eq_true p9
   replace q9:=eq_true q9
   have sx:=Kd.kW bQ.out (fS:Int) (-1)
   go_wp2_with (first|((with_reducible refine lF (t:=2) (p:=21) rfl ?_);refine lJ (t:=2) (p:=21) (v:=?afl) (w1:=(wr.setCell ⟨yF,(fS:Int).toNat,none⟩ (.int .i64 (-1)))) ?hg ?ho ?hn ?hr ?_;(case ho=>rfl);(case hg=>rfl);(case hn=>rfl);(case hr=>first|(go_simp;done)|(go_simp;rfl));intro jt hw;have hg:wr.grownBy jt (some yF):=(by rw [hw];exact sx.2);have ec:Kd.R (Kd.int .i64) 2 jt w.heap.size (fun _=>True) (.slice (some ⟨yF,0,none⟩) ali.length pK) nW:=(by rw [hw,uj.out];exact sx.1);clear sx;replace bQ:=k0 (ec);replace HB:=k0 ((by rw [hw];exact dJ (HB.out) anH.out:Below w.heap.size w jt));clear hg hw ec))
   go_roundg k1
   case measure=>have:=alj.out;omega
   case rel=>exact ⟨(nW),(wrap64 (fS+1)),rs,H',⟨by have:=alj.out;omega⟩,⟨aR (bQ.out)⟩,⟨bl⟩⟩
end Go.Proofs.Ytoebojnhchocaaa.D
/- Set with little white space, by a program. -/
