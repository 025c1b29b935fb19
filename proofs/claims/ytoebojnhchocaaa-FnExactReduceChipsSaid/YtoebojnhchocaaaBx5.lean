/- The functions that one law reaches, each as a Lean function, and that Go's call comes to what it says. Condition of each: that the Lean function answers (is not none). -/
import Derived.Test.YtoebojnhchocaaaBx0
namespace Go.Proofs.Ytoebojnhchocaaa.B
open Go.RowKit Go.Proofs.bC.eg Go.Proofs.bC.iZ Go.Proofs.bC.jr
attribute [local go_sem] max2_int min2_int max_two min_two max_three min_three max_four min_four   -- for this text's walks alone
set_option linter.unusedVariables false
set_option linter.unusedSimpArgs false
/-! ### F174: function 174 -/
mutual
def alr.l0 : Nat → List (List Int) → Int → List Int → Int → Option (List Int)
 | 0,_,_,_,_=>none
 | k+1,x0,x1,x5,x6=>if x6 < (x5.length:Int) then (if 0≤x6 then (alr.l0 k x0 x1 (x5.set (x6:Int).toNat (-1)) (wrap64 (x6+1))) else (none)) else (if 0≤x1 then (if x1 < (x5.length:Int) then (alr.l1 k x0 (x5.set (x1:Int).toNat 0) 0) else (none)) else (none))
def alr.l1 : Nat → List (List Int) → List Int → Int → Option (List Int)
 | 0,_,_,_=>none
 | k+1,x0,x5,x7=>if x7 < (x0.length:Int) then (alr.l2 k x0 x5 x7 0) else (some x5)
def alr.l2 : Nat → List (List Int) → List Int → Int → Int → Option (List Int)
 | 0,_,_,_,_=>none
 | k+1,x0,x5,x7,x8=>if x8 < (x0.length:Int) then (alr.l3 k x0 x5 x7 x8 0) else (alr.l1 k x0 x5 (wrap64 (x7+1)))
def alr.l3 : Nat → List (List Int) → List Int → Int → Int → Int → Option (List Int)
 | 0,_,_,_,_,_=>none
 | k+1,x0,x5,x7,x8,x9=>if x9 < (x0.length:Int) then (if 0≤x8 then (if x8 < (x5.length:Int) then (alr.j4 k x0 x5 x7 x8 x9 ((rd x5 x8) == x7)) else (none)) else (none)) else (alr.j4 k x0 x5 x7 x8 x9 false)
def alr.j4 : Nat → List (List Int) → List Int → Int → Int → Int → Bool → Option (List Int)
 | 0,_,_,_,_,_,_=>none
 | k+1,x0,x5,x7,x8,x9,BC=>if BC=true then (if 0≤x8 then (if x8 < (x0.length:Int) then (if 0≤x9 then (if x9 < ((ag x0 x8).length:Int) then (if (rd (ag x0 x8) x9) < 0 then (if x9 < (x5.length:Int) then (if (rd x5 x9) < 0 then (alr.l3 k x0 (x5.set (x9:Int).toNat (wrap64 (x7+1))) x7 x8 (wrap64 (x9+1))) else (alr.l3 k x0 x5 x7 x8 (wrap64 (x9+1)))) else (none)) else (alr.l3 k x0 x5 x7 x8 (wrap64 (x9+1)))) else (none)) else (none)) else (none)) else (none)) else (alr.l2 k x0 x5 x7 (wrap64 (x8+1)))
end
def alr.f (k:Nat) (l0:List (List Int)) (a1:Int):Option (List Int):=if 0≤(l0.length:Int) then (if ((l0.length:Int):Int).toNat≤35184372088832 then (alr.l0 k l0 a1 (List.replicate ((l0.length:Int):Int).toNat 0) 0) else (none)) else (none)
theorem alr.cj : ∀ k, (∀ y0 y1 y2 y3, aj (alr.l0 k y0 y1 y2 y3) (alr.l0 (k + 1) y0 y1 y2 y3)) ∧ (∀ y0 y1 y2, aj (alr.l1 k y0 y1 y2) (alr.l1 (k + 1) y0 y1 y2)) ∧ (∀ y0 y1 y2 y3, aj (alr.l2 k y0 y1 y2 y3) (alr.l2 (k + 1) y0 y1 y2 y3)) ∧ (∀ y0 y1 y2 y3 y4, aj (alr.l3 k y0 y1 y2 y3 y4) (alr.l3 (k + 1) y0 y1 y2 y3 y4)) ∧ (∀ y0 y1 y2 y3 y4 y5, aj (alr.j4 k y0 y1 y2 y3 y4 y5) (alr.j4 (k + 1) y0 y1 y2 y3 y4 y5))
 | 0=>⟨fun _ _ _ _ r h=>by simp [alr.l0] at h,fun _ _ _ r h=>by simp [alr.l1] at h,fun _ _ _ _ r h=>by simp [alr.l2] at h,fun _ _ _ _ _ r h=>by simp [alr.l3] at h,fun _ _ _ _ _ _ r h=>by simp [alr.j4] at h⟩
 | k+1=>by
  obtain ⟨ali,ih1,ih2,ih3,ih4⟩:=alr.cj k
  refine ⟨?_, ?_, ?_, ?_, ?_⟩ <;> intros <;> (first | unfold alr.l0 | unfold alr.l1 | unfold alr.l2 | unfold alr.l3 | unfold alr.j4) <;> repeat' first
   | (with_reducible first|exact ali _ _ _ _|exact ih1 _ _ _|exact ih2 _ _ _ _|exact ih3 _ _ _ _ _|exact ih4 _ _ _ _ _ _|exact aj.refl _|exact aj.none _|refine aj.ite ?_ ?_|refine aj.bind ?_ (fun _=>?_))
   | exact ali _ _ _ _|exact ih1 _ _ _|exact ih2 _ _ _ _|exact ih3 _ _ _ _ _|exact ih4 _ _ _ _ _ _|exact aj.none _|refine aj.ite ?_ ?_|refine aj.bind ?_ (fun _=>?_)
theorem alr.mono:∀ a0 a1 k,aj (alr.f k a0 a1) (alr.f (k+1) a0 a1):=by
 intro a0 a1 k
 obtain ⟨ali,ih1,ih2,ih3,ih4⟩:=alr.cj k
 unfold alr.f
 repeat' first
  | (with_reducible first|exact ali _ _ _ _|exact ih1 _ _ _|exact ih2 _ _ _ _|exact ih3 _ _ _ _ _|exact ih4 _ _ _ _ _ _|exact aj.refl _|exact aj.none _|refine aj.ite ?_ ?_|refine aj.bind ?_ (fun _=>?_))
  | exact ali _ _ _ _|exact ih1 _ _ _|exact ih2 _ _ _ _|exact ih3 _ _ _ _ _|exact ih4 _ _ _ _ _ _|exact aj.none _|refine aj.ite ?_ ?_|refine aj.bind ?_ (fun _=>?_)
set_option maxHeartbeats 8000000 in
set_option maxRecDepth 100000 in
theorem alr.calls (k : Nat) (A0 : Option Addr) (c0 : Nat) (l0 : List (List Int)) (a1 : Int) (r : List Int) (w : World) (cI : Kd.C (Kd.slice 2 (Kd.int .i64)) w A0 l0.length l0) (hc0 : l0.length ≤ c0) (h : alr.f k l0 a1 = some r) :
  Calls Try.prog 174 #[.slice A0 l0.length c0,.int .i64 a1] w fun e w'=>∃ cF:Value,e=.returned (cF)∧Kd.R (Kd.int .i64) 2 w' w.heap.size (fun _=>True) cF r∧Below w.heap.size w w':=by
 have eA:=k0 cI
 have kP:=k0 hc0
 clear cI hc0
 have HB:=k0 (Below.refl w.heap.size w)
 have H:(if 0≤(l0.length:Int) then (if ((l0.length:Int):Int).toNat≤35184372088832 then (alr.l0 k l0 a1 (List.replicate ((l0.length:Int):Int).toNat 0) 0) else (none)) else (none))=some r:=h
 clear h
 replace H:=iS H;obtain ⟨c3,H⟩:=H
 have ja:=eq_true c3
 have ov:=decide_eq_true c3
 clear c3
 replace H:=iS H;obtain ⟨c4,H⟩:=H
 have eV:=eq_true c4
 have ow:=decide_eq_true c4
 clear c4
 obtain ⟨iJ,fy⟩:∃ y_:List Int,y_=(List.replicate ((l0.length:Int):Int).toNat 0):=⟨_,rfl⟩
 replace H:(alr.l0 k l0 a1 iJ 0)=some r:=by first|(rw [fy];with_reducible exact H)|(have ax:=(Option.bind_some _ _).symm.trans H;rw [fy];with_reducible exact ax)|(have ax:=(Option.bind_some _ _).symm.trans H;with_reducible exact ax)|with_reducible exact H|(rw [fy];exact H)|exact H
 have lz:=k0 fy
 clear fy
 have H':=k0 H
 clear H
 go_enter Try.func174,Try.ntmps174
 go_wp2_with (first|((with_reducible refine cy (N:=12) rfl ?_);refine Kd.yL (Kd.int .i64) _ 2 rfl (N:=12) rfl 28 _ _ rfl (l0.length:Int) rfl rfl Try.underlying28 (.int .i64 0) 8 lF rfl (by decide) (by omega) 0 (ok:=fun _=>True) (cC:=fun _=>True) rfl (fun _ hk=>hk) trivial oD (Nat.le_trans (Nat.mul_le_mul_right _ (oD:(l0.length:Int).toNat≤35184372088832)) (by omega)) (Below.refl _ _) (Nat.le_refl _) ?_;intro lT w5 C_ hb ew ey;clear ew ey;(first|rw [← lz.out] at C_|(simp only [Int.reduceToNat] at C_;rw [← lz.out] at C_));have kQ:=k0 (Kd.d_ C_ (aU bl));replace HB:=k0 (aG bl hb);clear hb C_))
 go_loopg [6] k (fun kq v6 w'=>∃ (aI:List Int) (gf:Int),v6=.int .i64 gf∧ak (alr.l0 kq l0 a1 aI gf=some r)∧ak (kq≤k)∧ak (Kd.R (Kd.int .i64) 2 w' w.heap.size (fun _=>True) lT aI)∧ak (Below w.heap.size w w'))
 case atStart=>exact ⟨(iJ),(0),rs,H',⟨Nat.le_refl _⟩,⟨aR (kQ.out)⟩,⟨bl⟩⟩
 case round =>
  clear H'
  (try clear c3);(try clear ja);(try clear ov);(try clear c4);(try clear eV);(try clear ow)
  obtain ⟨aI,gf,rfl,HA,aM,bM,HB⟩:=hrel
  cases gk with
  | zero=>exact absurd HA.out (by simp [alr.l0])
  | succ k1 =>
   have H:=HA.out
   clear HA
   simp only [alr.l0] at H
   by_cases c7:gf < (aI.length:Int)
   case neg =>
    rw [if_neg c7] at H
    have iz:decide (gf < (aI.length:Int))=false:=decide_eq_false c7
    clear c7
    replace H:=iS H;obtain ⟨c13,H⟩:=H
    have kU:=decide_eq_true c13
    clear c13
    replace H:=iS H;obtain ⟨c14,H⟩:=H
    have kC:=decide_eq_true c14
    clear c14
    obtain ⟨jn,alC⟩:∃ y_:List Int,y_=(aI.set (a1:Int).toNat 0):=⟨_,rfl⟩
    replace H:(alr.l1 k1 l0 jn 0)=some r:=by first|(rw [alC];with_reducible exact H)|(have ax:=(Option.bind_some _ _).symm.trans H;rw [alC];with_reducible exact ax)|(have ax:=(Option.bind_some _ _).symm.trans H;with_reducible exact ax)|with_reducible exact H|(rw [alC];exact H)|exact H
    have lJ:=k0 alC
    clear alC
    have H':=k0 H
    clear H
    obtain ⟨MK,xC,Jw⟩:=Kd.fh bM.out
    subst Jw
    have ur:0≤(a1:Int):=oD
    have uw:(a1:Int) < ((aI.length:Int):Int):=oD
    obtain ⟨rB,eW,Ct,Pv,ZT,ag',Ng⟩:=Kd.kT bM.out (by omega)
    (first|cases Ct|(injection Ct with aW aly c_;(first|subst aW|(injection aW with aW;subst aW));subst c_;clear aly))
    have M8:=k0 Pv
    have afK:=k0 Ng
    clear Pv ZT Ng
    obtain ⟨Gf,ahZ⟩:=Kd.js 0 bM.out (a1:Int) ur uw
    replace ur:=eq_true ur
    replace uw:=eq_true uw
    have HZ:=Kd.kr bM.out (a1:Int) 0
    go_wp2_with (first|((with_reducible refine kW (t:=2) (p:=24) rfl ?_);refine alT (t:=2) (p:=24) (v:=?ak5) (w1:=(wr.setCell ⟨rB,(a1:Int).toNat,none⟩ (.int .i64 0))) ?hg ?ho ?hn ?hr ?_;(case ho=>rfl);(case hg=>rfl);(case hn=>rfl);(case hr=>first|(go_simp;done)|(go_simp;rfl));intro oO hw;have hg:wr.grownBy oO (some rB):=(by rw [hw];exact HZ.2);have dO:Kd.R (Kd.int .i64) 2 oO w.heap.size (fun _=>True) (.slice (some ⟨rB,0,none⟩) aI.length xC) jn:=(by rw [hw,lJ.out];exact HZ.1);clear HZ;replace bM:=k0 (dO);replace HB:=k0 ((by rw [hw];exact dI (HB.out) M8.out:Below w.heap.size w oO));clear hg hw dO))
    go_loopg [7] k1 (fun kq v7 w'=>∃ (alk:List Int) (dF:Int),v7=.int .i64 dF∧ak (alr.l1 kq l0 alk dF=some r)∧ak (kq≤k1)∧ak (Kd.R (Kd.int .i64) 2 w' w.heap.size (fun _=>True) (.slice (some ⟨rB,0,none⟩) aI.length xC) alk)∧ak (Below w.heap.size w w'))
    case atStart=>exact ⟨(jn),(0),rs,H',⟨Nat.le_refl _⟩,⟨aR (bM.out)⟩,⟨bl⟩⟩
    case round =>
     clear H'
     (try clear c3);(try clear ja);(try clear ov);(try clear c4);(try clear eV);(try clear ow);(try clear c7);(try clear iz);(try clear c8);(try clear jw);(try clear p9);(try clear q9);(try clear c13);(try clear kU);(try clear c14);(try clear kC);(try clear ur);(try clear uw);(try clear Gf);(try clear zJ);(try clear ur);(try clear p9);(try clear uw);(try clear q9)
     obtain ⟨alk,dF,rfl,HA,bp,bM,HB⟩:=hrel
     have gp:=(Kd.bn bM.out).1
     rw [gp] at bM
     (try simp only [gp])
     cases gk with
     | zero=>exact absurd HA.out (by simp [alr.l1])
     | succ k2 =>
      have H:=HA.out
      clear HA
      simp only [alr.l1] at H
      by_cases c19:dF < (l0.length:Int)
      case neg =>
       rw [if_neg c19] at H
       have mb:decide (dF < (l0.length:Int))=false:=decide_eq_false c19
       (try simp only [gp] at mb)
       clear c19
       obtain rfl:=Option.some.inj H
       go_wp2
       go_ret
       exact ⟨_,by first|rfl|(simp [bA,bB]<;>rfl)|(simp [*,bA,bB]<;>rfl),by (with_reducible repeat (first|apply Kd.bO|apply Kd.bR|apply Kd.alp));exact bM.out,bl⟩
      rw [if_pos c19] at H
      have mb:=decide_eq_true c19
      (try simp only [gp] at mb)
      clear c19
      have H':=k0 H
      clear H
      go_wp2
      go_loopg [8] k2 (fun kq v8 w'=>∃ (jR:List Int) (aln:Int),v8=.int .i64 aln∧ak (alr.l2 kq l0 jR dF aln=some r)∧ak (kq≤k2)∧ak (Kd.R (Kd.int .i64) 2 w' w.heap.size (fun _=>True) (.slice (some ⟨rB,0,none⟩) alk.length xC) jR)∧ak (Below w.heap.size w w'))
      case atStart=>exact ⟨(alk),(0),rs,H',⟨Nat.le_refl _⟩,⟨by (try simp only [gp]);(with_reducible repeat (first|apply Kd.bO|apply Kd.bR|apply Kd.alp));exact bM.out⟩,⟨bl⟩⟩
      case round =>
       clear H'
       (try clear c3);(try clear ja);(try clear ov);(try clear c4);(try clear eV);(try clear ow);(try clear c7);(try clear iz);(try clear c8);(try clear jw);(try clear p9);(try clear q9);(try clear c13);(try clear kU);(try clear c14);(try clear kC);(try clear ur);(try clear uw);(try clear c19);(try clear mb);(try clear Gf);(try clear zJ);(try clear ur);(try clear p9);(try clear uw);(try clear q9)
       obtain ⟨jR,aln,rfl,HA,dn,bM,HB⟩:=hrel
       have alO:=(Kd.bn bM.out).1
       rw [alO] at bM
       (try simp only [alO])
       cases gk with
       | zero=>exact absurd HA.out (by simp [alr.l2])
       | succ k3 =>
        have H:=HA.out
        clear HA
        simp only [alr.l2] at H
        by_cases c20:aln < (l0.length:Int)
        case neg =>
         rw [if_neg c20] at H
         have ot:decide (aln < (l0.length:Int))=false:=decide_eq_false c20
         (try simp only [gp,alO] at ot)
         clear c20
         have H':=k0 H
         clear H
         go_wp2
         (try simp only [← gp,← alO])
         go_roundg k3
         case measure=>have:=aM.out;have:=bp.out;have:=dn.out;omega
         case rel=>exact ⟨(jR),(wrap64 (dF+1)),rs,H',⟨by have:=aM.out;have:=bp.out;have:=dn.out;omega⟩,⟨by (try simp only [gp]);(try simp only [alO]);(with_reducible repeat (first|apply Kd.bO|apply Kd.bR|apply Kd.alp));exact bM.out⟩,⟨bl⟩⟩
        rw [if_pos c20] at H
        have ot:=decide_eq_true c20
        (try simp only [gp,alO] at ot)
        clear c20
        have H':=k0 H
        clear H
        go_wp2
        go_loopg [9] k3 (fun kq v9 w'=>∃ (alX:List Int) (fS:Int),v9=.int .i64 fS∧ak (alr.l3 kq l0 alX dF aln fS=some r)∧ak (kq≤k3)∧ak (Kd.R (Kd.int .i64) 2 w' w.heap.size (fun _=>True) (.slice (some ⟨rB,0,none⟩) jR.length xC) alX)∧ak (Below w.heap.size w w'))
        case atStart=>exact ⟨(jR),(0),rs,H',⟨Nat.le_refl _⟩,⟨by (try simp only [gp]);(try simp only [alO]);(with_reducible repeat (first|apply Kd.bO|apply Kd.bR|apply Kd.alp));exact bM.out⟩,⟨bl⟩⟩
        case round =>
         clear H'
         (try clear c3);(try clear ja);(try clear ov);(try clear c4);(try clear eV);(try clear ow);(try clear c7);(try clear iz);(try clear c8);(try clear jw);(try clear p9);(try clear q9);(try clear c13);(try clear kU);(try clear c14);(try clear kC);(try clear ur);(try clear uw);(try clear c19);(try clear mb);(try clear c20);(try clear ot);(try clear Gf);(try clear zJ);(try clear ur);(try clear p9);(try clear uw);(try clear q9)
         obtain ⟨alX,fS,rfl,HA,gI,bM,HB⟩:=hrel
         have nK:=(Kd.bn bM.out).1
         rw [nK] at bM
         (try simp only [nK])
         cases gk with
         | zero=>exact absurd HA.out (by simp [alr.l3])
         | succ k4 =>
          have H:=HA.out
          clear HA
          simp only [alr.l3] at H
          have HN:=k0 H
          clear H
          go_upto_region 14 with (fail)
          go_cut [48] (fun v48 wc=>∃ (kq:Nat) (G8:Bool),v48=.bool G8∧ak (alr.j4 kq l0 alX dF aln fS G8=some r)∧ak (kq≤k4)∧ak (Kd.R (Kd.int .i64) 2 wc w.heap.size (fun _=>True) (.slice (some ⟨rB,0,none⟩) alX.length xC) alX)∧ak (Below w.heap.size w wc))
          case first =>
           have H:=HN.out
           clear HN
           by_cases c22:fS < (l0.length:Int)
           case neg =>
            rw [if_neg c22] at H
            have rq:decide (fS < (l0.length:Int))=false:=decide_eq_false c22
            (try simp only [gp,alO,nK] at rq)
            clear c22
            (first|rw [rq]|(simp only [cQ,dr];rw [rq])|skip)
            have H':=k0 H
            clear H
            go_wp2
            go_meet
            case rel=>exact ⟨_,(false),rs,H',⟨by have:=aM.out;have:=bp.out;have:=dn.out;have:=gI.out;first|omega|exact Nat.le_refl _⟩,⟨by (try simp only [gp]);(try simp only [alO]);(try simp only [nK]);(with_reducible repeat (first|apply Kd.bO|apply Kd.bR|apply Kd.alp));exact bM.out⟩,⟨bl⟩⟩
           rw [if_pos c22] at H
           have rq:=decide_eq_true c22
           (try simp only [gp,alO,nK] at rq)
           clear c22
           (first|rw [rq]|(simp only [cQ,dr];rw [rq])|skip)
           replace H:=iS H;obtain ⟨c23,H⟩:=H
           have r9:=decide_eq_true c23
           clear c23
           replace H:=iS H;obtain ⟨c24,H⟩:=H
           have uR:=decide_eq_true c24
           (try simp only [gp,alO,nK] at uR)
           clear c24
           have H':=k0 H
           clear H
           have dK:0≤(aln:Int):=oD
           have dH:aln < (alX.length:Int):=oD
           obtain ⟨alH,e106,dD⟩:=Kd.bS (Kd.bn bM.out).2.2 aln dK dH
           obtain rfl:(⟨rB,0,none⟩:Addr)=alH:=(by injection e106)
           (first|simp only [add_plain] at dD|simp only [lN] at dD|simp only [Addr.add,Nat.zero_add] at dD|skip)
           replace dK:=eq_true dK
           replace dH:=eq_true dH
           go_wp2
           go_meet
           case rel=>exact ⟨_,(((rd alX aln) == dF)),rs,H',⟨by have:=aM.out;have:=bp.out;have:=dn.out;have:=gI.out;first|omega|exact Nat.le_refl _⟩,⟨by (try simp only [gp]);(try simp only [alO]);(try simp only [nK]);(with_reducible repeat (first|apply Kd.bO|apply Kd.bR|apply Kd.alp));exact bM.out⟩,⟨bl⟩⟩
          case rest =>
           clear HN
           (try clear c3);(try clear ja);(try clear ov);(try clear c4);(try clear eV);(try clear ow);(try clear c7);(try clear iz);(try clear c8);(try clear jw);(try clear p9);(try clear q9);(try clear c13);(try clear kU);(try clear c14);(try clear kC);(try clear ur);(try clear uw);(try clear c19);(try clear mb);(try clear c20);(try clear ot);(try clear c22);(try clear rq);(try clear c23);(try clear r9);(try clear c24);(try clear uR);(try clear dD);(try clear Gf);(try clear zJ);(try clear dK);(try clear ur);(try clear p9);(try clear dH);(try clear uw);(try clear q9)
           obtain ⟨kq,G8,rfl,HA,xd,bM,HB⟩:=hcut
           cases kq with
           | zero=>exact absurd HA.out (by simp [alr.j4])
           | succ wL =>
            have H:=HA.out
            clear HA
            simp only [alr.j4] at H
            by_cases c25:G8=true
            case neg =>
             replace c25:=Bool.eq_false_iff.mpr c25
             subst c25
             have H1:(alr.l2 wL l0 alX dF (wrap64 (aln+1)))=some r:=by rw [if_neg (show ¬ (false=true) by decide)] at H;exact H
             clear H
             have H:=H1
             clear H1
             have H':=k0 H
             clear H
             go_wp2
             (try simp only [← alO,← nK])
             go_roundg wL
             case measure=>have:=aM.out;have:=bp.out;have:=dn.out;have:=gI.out;have:=xd.out;omega
             case rel=>exact ⟨(alX),(wrap64 (aln+1)),rs,H',⟨by have:=aM.out;have:=bp.out;have:=dn.out;have:=gI.out;have:=xd.out;omega⟩,⟨by (try simp only [gp]);(try simp only [alO]);(try simp only [nK]);(with_reducible repeat (first|apply Kd.bO|apply Kd.bR|apply Kd.alp));exact bM.out⟩,⟨bl⟩⟩
            subst c25
            have H1:(if 0≤aln then (if aln < (l0.length:Int) then (if 0≤fS then (if fS < ((ag l0 aln).length:Int) then (if (rd (ag l0 aln) fS) < 0 then (if fS < (alX.length:Int) then (if (rd alX fS) < 0 then (alr.l3 wL l0 (alX.set (fS:Int).toNat (wrap64 (dF+1))) dF aln (wrap64 (fS+1))) else (alr.l3 wL l0 alX dF aln (wrap64 (fS+1)))) else (none)) else (alr.l3 wL l0 alX dF aln (wrap64 (fS+1)))) else (none)) else (none)) else (none)) else (none))=some r:=by rw [if_pos rfl] at H;exact H
            clear H
            have H:=H1
            clear H1
            replace H:=iS H;obtain ⟨c26,H⟩:=H
            have xx:=decide_eq_true c26
            clear c26
            replace H:=iS H;obtain ⟨c27,H⟩:=H
            have amp:=decide_eq_true c27
            (try simp only [gp,alO,nK] at amp)
            clear c27
            replace H:=iS H;obtain ⟨c28,H⟩:=H
            have agA:=decide_eq_true c28
            clear c28
            replace H:=iS H;obtain ⟨c29,H⟩:=H
            have XE:=decide_eq_true c29
            (try simp only [gp,alO,nK] at XE)
            clear c29
            by_cases c30:(rd (ag l0 aln) fS) < 0
            case neg =>
             rw [if_neg c30] at H
             have Jf:decide ((rd (ag l0 aln) fS) < 0)=false:=decide_eq_false c30
             clear c30
             have H':=k0 H
             clear H
             have gv:0≤(aln:Int):=oD
             have gx:aln < (l0.length:Int):=oD
             obtain ⟨pV,Ex,Fi,e107,fX,qI,qF⟩:=cZ eA.out aln gv gx
             cases e107
             replace fX:=hbc HB fX
             have vG:=k0 qF
             have EJ:=k0 qI
             clear qF qI
             replace gv:=eq_true gv
             replace gx:=eq_true gx
             have ef:0≤(fS:Int):=oD
             have dS:fS < ((ag l0 aln).length:Int):=oD
             obtain ⟨al1,e108,fu⟩:=Kd.bS vG.out fS ef dS
             cases e108
             replace fu:=hbc HB fu
             replace ef:=eq_true ef
             replace dS:=eq_true dS
             go_wp2
             (try simp only [← nK])
             go_roundg wL
             case measure=>have:=aM.out;have:=bp.out;have:=dn.out;have:=gI.out;have:=xd.out;omega
             case rel=>exact ⟨(alX),(wrap64 (fS+1)),rs,H',⟨by have:=aM.out;have:=bp.out;have:=dn.out;have:=gI.out;have:=xd.out;omega⟩,⟨by (try simp only [gp]);(try simp only [alO]);(try simp only [nK]);(with_reducible repeat (first|apply Kd.bO|apply Kd.bR|apply Kd.alp));exact bM.out⟩,⟨bl⟩⟩
            rw [if_pos c30] at H
            have Jf:=decide_eq_true c30
            clear c30
            replace H:=iS H;obtain ⟨c31,H⟩:=H
            have ou:=decide_eq_true c31
            (try simp only [gp,alO,nK] at ou)
            clear c31
            by_cases c32:(rd alX fS) < 0
            case neg =>
             rw [if_neg c32] at H
             have OC:decide ((rd alX fS) < 0)=false:=decide_eq_false c32
             clear c32
             have H':=k0 H
             clear H
             have gv:0≤(aln:Int):=oD
             have gx:aln < (l0.length:Int):=oD
             obtain ⟨pV,Ex,Fi,e107,fX,qI,qF⟩:=cZ eA.out aln gv gx
             cases e107
             replace fX:=hbc HB fX
             have vG:=k0 qF
             have EJ:=k0 qI
             clear qF qI
             replace gv:=eq_true gv
             replace gx:=eq_true gx
             have ef:0≤(fS:Int):=oD
             have dS:fS < ((ag l0 aln).length:Int):=oD
             obtain ⟨al1,e108,fu⟩:=Kd.bS vG.out fS ef dS
             cases e108
             replace fu:=hbc HB fu
             replace ef:=eq_true ef
             replace dS:=eq_true dS
             have eD:0≤(fS:Int):=oD
             have er:fS < (alX.length:Int):=oD
             obtain ⟨lK,e109,alI⟩:=Kd.bS (Kd.bn bM.out).2.2 fS eD er
             obtain rfl:(⟨rB,0,none⟩:Addr)=lK:=(by injection e109)
             (first|simp only [add_plain] at alI|simp only [lN] at alI|simp only [Addr.add,Nat.zero_add] at alI|skip)
             replace eD:=eq_true eD
             replace er:=eq_true er
             go_wp2
             (try simp only [← nK])
             go_roundg wL
             case measure=>have:=aM.out;have:=bp.out;have:=dn.out;have:=gI.out;have:=xd.out;omega
             case rel=>exact ⟨(alX),(wrap64 (fS+1)),rs,H',⟨by have:=aM.out;have:=bp.out;have:=dn.out;have:=gI.out;have:=xd.out;omega⟩,⟨by (try simp only [gp]);(try simp only [alO]);(try simp only [nK]);(with_reducible repeat (first|apply Kd.bO|apply Kd.bR|apply Kd.alp));exact bM.out⟩,⟨bl⟩⟩
            rw [if_pos c32] at H
            have OC:=decide_eq_true c32
            clear c32
            obtain ⟨uC,oG⟩:∃ y_:List Int,y_=(alX.set (fS:Int).toNat (wrap64 (dF+1))):=⟨_,rfl⟩
            replace H:(alr.l3 wL l0 uC dF aln (wrap64 (fS+1)))=some r:=by first|(rw [oG];with_reducible exact H)|(have ax:=(Option.bind_some _ _).symm.trans H;rw [oG];with_reducible exact ax)|(have ax:=(Option.bind_some _ _).symm.trans H;with_reducible exact ax)|with_reducible exact H|(rw [oG];exact H)|exact H
            have B4:=k0 oG
            clear oG
            have H':=k0 H
            clear H
            have gv:0≤(aln:Int):=oD
            have gx:aln < (l0.length:Int):=oD
            obtain ⟨pV,Ex,Fi,e107,fX,qI,qF⟩:=cZ eA.out aln gv gx
            cases e107
            replace fX:=hbc HB fX
            have vG:=k0 qF
            have EJ:=k0 qI
            clear qF qI
            replace gv:=eq_true gv
            replace gx:=eq_true gx
            have ef:0≤(fS:Int):=oD
            have dS:fS < ((ag l0 aln).length:Int):=oD
            obtain ⟨al1,e108,fu⟩:=Kd.bS vG.out fS ef dS
            cases e108
            replace fu:=hbc HB fu
            replace ef:=eq_true ef
            replace dS:=eq_true dS
            have eD:0≤(fS:Int):=oD
            have er:fS < (alX.length:Int):=oD
            obtain ⟨lK,e109,alI⟩:=Kd.bS (Kd.bn bM.out).2.2 fS eD er
            obtain rfl:(⟨rB,0,none⟩:Addr)=lK:=(by injection e109)
            (first|simp only [add_plain] at alI|simp only [lN] at alI|simp only [Addr.add,Nat.zero_add] at alI|skip)
            replace eD:=eq_true eD
            replace er:=eq_true er
            have LF:0≤(fS:Int):=oD
            have LW:(fS:Int) < ((alX.length:Int):Int):=oD
            obtain ⟨aj8,ah3⟩:=Kd.js 0 bM.out (fS:Int) LF LW
            replace LF:=eq_true LF
            replace LW:=eq_true LW
            have qo:=Kd.kr bM.out (fS:Int) (wrap64 (dF+1))
            go_wp2_with (first|((with_reducible refine kW (t:=2) (p:=70) rfl ?_);refine alT (t:=2) (p:=70) (v:=?afe) (w1:=(wc.setCell ⟨rB,(fS:Int).toNat,none⟩ (.int .i64 (wrap64 (dF+1))))) ?hg ?ho ?hn ?hr ?_;(case ho=>rfl);(case hg=>rfl);(case hn=>rfl);(case hr=>first|(go_simp;done)|(go_simp;rfl));intro vq hw;have hg:wc.grownBy vq (some rB):=(by rw [hw];exact qo.2);have dO:Kd.R (Kd.int .i64) 2 vq w.heap.size (fun _=>True) (.slice (some ⟨rB,0,none⟩) alX.length xC) uC:=(by rw [hw,B4.out];exact qo.1);clear qo;replace bM:=k0 (dO);replace HB:=k0 ((by rw [hw];exact dI (HB.out) M8.out:Below w.heap.size w vq));clear hg hw dO))
            (try simp only [← nK])
            go_roundg wL
            case measure=>have:=aM.out;have:=bp.out;have:=dn.out;have:=gI.out;have:=xd.out;omega
            case rel=>exact ⟨(uC),(wrap64 (fS+1)),rs,H',⟨by have:=aM.out;have:=bp.out;have:=dn.out;have:=gI.out;have:=xd.out;omega⟩,⟨by (try simp only [gp]);(try simp only [alO]);(try simp only [nK]);(with_reducible repeat (first|apply Kd.bO|apply Kd.bR|apply Kd.alp));exact bM.out⟩,⟨bl⟩⟩
   rw [if_pos c7] at H
   have iz:=decide_eq_true c7
   clear c7
   replace H:=iS H;obtain ⟨c8,H⟩:=H
   have jw:=decide_eq_true c8
   clear c8
   obtain ⟨al4,jB⟩:∃ y_:List Int,y_=(aI.set (gf:Int).toNat (-1)):=⟨_,rfl⟩
   replace H:(alr.l0 k1 l0 a1 al4 (wrap64 (gf+1)))=some r:=by first|(rw [jB];with_reducible exact H)|(have ax:=(Option.bind_some _ _).symm.trans H;rw [jB];with_reducible exact ax)|(have ax:=(Option.bind_some _ _).symm.trans H;with_reducible exact ax)|with_reducible exact H|(rw [jB];exact H)|exact H
   have uK:=k0 jB
   clear jB
   have H':=k0 H
   clear H
   obtain ⟨EB,pY,qB⟩:=Kd.fh bM.out
   subst qB
   have p9:0≤(gf:Int):=oD
   have q9:(gf:Int) < ((aI.length:Int):Int):=oD
   obtain ⟨za,Fu,vZ,CB,JS,X7,BW⟩:=Kd.kT bM.out (by omega)
   (first|cases vZ|(injection vZ with aW aly c_;(first|subst aW|(injection aW with aW;subst aW));subst c_;clear aly))
   have anH:=k0 CB
   have U3:=k0 BW
   clear CB JS BW
   obtain ⟨zJ,Kv⟩:=Kd.js 0 bM.out (gf:Int) p9 q9
   replace p9:=eq_true p9
   replace q9:=eq_true q9
   have sU:=Kd.kr bM.out (gf:Int) (-1)
   go_wp2_with (first|((with_reducible refine kW (t:=2) (p:=21) rfl ?_);refine alT (t:=2) (p:=21) (v:=?afc) (w1:=(wr.setCell ⟨za,(gf:Int).toNat,none⟩ (.int .i64 (-1)))) ?hg ?ho ?hn ?hr ?_;(case ho=>rfl);(case hg=>rfl);(case hn=>rfl);(case hr=>first|(go_simp;done)|(go_simp;rfl));intro gM hw;have hg:wr.grownBy gM (some za):=(by rw [hw];exact sU.2);have dO:Kd.R (Kd.int .i64) 2 gM w.heap.size (fun _=>True) (.slice (some ⟨za,0,none⟩) aI.length pY) al4:=(by rw [hw,uK.out];exact sU.1);clear sU;replace bM:=k0 (dO);replace HB:=k0 ((by rw [hw];exact dI (HB.out) anH.out:Below w.heap.size w gM));clear hg hw dO))
   go_roundg k1
   case measure=>have:=aM.out;omega
   case rel=>exact ⟨(al4),(wrap64 (gf+1)),rs,H',⟨by have:=aM.out;omega⟩,⟨aR (bM.out)⟩,⟨bl⟩⟩
end Go.Proofs.Ytoebojnhchocaaa.B
/- Set with little white space, by a program. -/
