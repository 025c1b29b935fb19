/- The functions that one law reaches, each as a Lean function, and that Go's call comes to what it says. Condition of each: that the Lean function answers (is not none). -/
import Derived.Test.YtoebojnhchocaaaBx0
import Derived.Test.YtoebojnhchocaaaBx12
import Derived.Test.YtoebojnhchocaaaBx14
namespace Go.Proofs.Ytoebojnhchocaaa.B
open Go.RowKit Go.Proofs.bC.eg Go.Proofs.bC.iZ Go.Proofs.bC.jr
attribute [local go_sem] max2_int min2_int max_two min_two max_three min_three max_four min_four   -- for this text's walks alone
set_option linter.unusedVariables false
set_option linter.unusedSimpArgs false
/-! ### F223: function 223 -/
mutual
def bq.l0 : Nat → List (List Int) → Int → Int → List (List Int) → Int → Int → Option (Int)
 | 0,_,_,_,_,_,_=>none
 | k+1,x3,x4,x5,jm,oQ,gO=>if gO < oQ then (if 0≤gO then (if gO < (jm.length:Int) then ((oa.f (ag jm gO)).bind fun t105=>(if x3.length < 5864062014805 then (bq.l0 k (x3 ++ [t105]) x4 x5 jm oQ (wrap64 (gO+1))) else (none))) else (none)) else (none)) else (bq.l1 k x3 x4 x5 (x3.length:Int) 0)
def bq.l1 : Nat → List (List Int) → Int → Int → Int → Int → Option (Int)
 | 0,_,_,_,_,_=>none
 | k+1,x3,x4,x5,f_,alD=>if alD < f_ then (if 0≤alD then (if alD≤(x3.length:Int) then ((pP.f k (x3.drop (alD:Int).toNat) alD).bind fun t116=>(if t116 < 0 then (some 0) else (if t116 > 0 then (if 0≤(wrap64 (alD+t116)) then (if (wrap64 (alD+t116)) < (x3.length:Int) then (if alD < (x3.length:Int) then (bq.j2 k (swp x3 alD (wrap64 (alD+t116))) (wrap64 (-x4)) x5 f_ alD alD) else (none)) else (none)) else (none)) else (bq.j2 k x3 x4 x5 f_ alD alD)))) else (none)) else (none)) else (some (wrap64 (x4 * x5)))
def bq.j2 : Nat → List (List Int) → Int → Int → Int → Int → Int → Option (Int)
 | 0,_,_,_,_,_,_=>none
 | k+1,x3,x4,x5,f_,alD,alW=>bq.l2 k x3 x4 x5 (wrap64 (alW+1)) f_ alD alW
def bq.l2 : Nat → List (List Int) → Int → Int → Int → Int → Int → Int → Option (Int)
 | 0,_,_,_,_,_,_,_=>none
 | k+1,x3,x4,x5,alB,f_,alD,alW=>if alB < (x3.length:Int) then (bq.l3 k x3 x4 x5 alB (wrap64 (alW+1)) f_ alD alW) else (if 0≤alW then (if alW < (x3.length:Int) then (if alW < ((ag x3 alW).length:Int) then (bq.l1 k x3 x4 (rd (ag x3 alW) alW) f_ (wrap64 (alD+1))) else (none)) else (none)) else (none))
def bq.l3 : Nat → List (List Int) → Int → Int → Int → Int → Int → Int → Int → Option (Int)
 | 0,_,_,_,_,_,_,_,_=>none
 | k+1,x3,x4,x5,alB,fF,f_,alD,alW=>if fF < (x3.length:Int) then (if 0≤alB then (if alB < (x3.length:Int) then (if 0≤fF then (if fF < ((ag x3 alB).length:Int) then (if 0≤alW then (if alW < (x3.length:Int) then (if alW < ((ag x3 alW).length:Int) then (if alW < ((ag x3 alB).length:Int) then (if fF < ((ag x3 alW).length:Int) then (if x5=0 then (none) else (bq.l3 k (x3.set (alB:Int).toNat ((ag x3 alB).set (fF:Int).toNat (wrap64 (Int.tdiv (wrap64 ((wrap64 ((rd (ag x3 alB) fF) * (rd (ag x3 alW) alW))) - (wrap64 ((rd (ag x3 alB) alW) * (rd (ag x3 alW) fF))))) x5)))) x4 x5 alB (wrap64 (fF+1)) f_ alD alW)) else (none)) else (none)) else (none)) else (none)) else (none)) else (none)) else (none)) else (none)) else (none)) else (bq.l2 k x3 x4 x5 (wrap64 (alB+1)) f_ alD alW)
end
def bq.f (k:Nat) (l0:List (List Int)):Option (Int):=bq.l0 k (([]:List (List Int))) 1 1 l0 (l0.length:Int) 0
theorem bq.cj : ∀ k, (∀ y0 y1 y2 y3 y4 y5, aj (bq.l0 k y0 y1 y2 y3 y4 y5) (bq.l0 (k + 1) y0 y1 y2 y3 y4 y5)) ∧ (∀ y0 y1 y2 y3 y4, aj (bq.l1 k y0 y1 y2 y3 y4) (bq.l1 (k + 1) y0 y1 y2 y3 y4)) ∧ (∀ y0 y1 y2 y3 y4 y5, aj (bq.j2 k y0 y1 y2 y3 y4 y5) (bq.j2 (k + 1) y0 y1 y2 y3 y4 y5)) ∧ (∀ y0 y1 y2 y3 y4 y5 y6, aj (bq.l2 k y0 y1 y2 y3 y4 y5 y6) (bq.l2 (k + 1) y0 y1 y2 y3 y4 y5 y6)) ∧ (∀ y0 y1 y2 y3 y4 y5 y6 y7, aj (bq.l3 k y0 y1 y2 y3 y4 y5 y6 y7) (bq.l3 (k + 1) y0 y1 y2 y3 y4 y5 y6 y7))
 | 0=>⟨fun _ _ _ _ _ _ r h=>by simp [bq.l0] at h,fun _ _ _ _ _ r h=>by simp [bq.l1] at h,fun _ _ _ _ _ _ r h=>by simp [bq.j2] at h,fun _ _ _ _ _ _ _ r h=>by simp [bq.l2] at h,fun _ _ _ _ _ _ _ _ r h=>by simp [bq.l3] at h⟩
 | k+1=>by
  obtain ⟨ali,ih1,ih2,ih3,ih4⟩:=bq.cj k
  refine ⟨?_, ?_, ?_, ?_, ?_⟩ <;> intros <;> (first | unfold bq.l0 | unfold bq.l1 | unfold bq.j2 | unfold bq.l2 | unfold bq.l3) <;> repeat' first
   | (with_reducible first|exact ali _ _ _ _ _ _|exact ih1 _ _ _ _ _|exact ih2 _ _ _ _ _ _|exact ih3 _ _ _ _ _ _ _|exact ih4 _ _ _ _ _ _ _ _|exact pP.mono _ _ _|exact aj.refl _|exact aj.none _|refine aj.ite ?_ ?_|refine aj.bind ?_ (fun _=>?_))
   | exact ali _ _ _ _ _ _|exact ih1 _ _ _ _ _|exact ih2 _ _ _ _ _ _|exact ih3 _ _ _ _ _ _ _|exact ih4 _ _ _ _ _ _ _ _|exact pP.mono _ _ _|exact aj.none _|refine aj.ite ?_ ?_|refine aj.bind ?_ (fun _=>?_)
theorem bq.mono:∀ a0 k,aj (bq.f k a0) (bq.f (k+1) a0):=by
 intro a0 k
 obtain ⟨ali,ih1,ih2,ih3,ih4⟩:=bq.cj k
 unfold bq.f
 repeat' first
  | (with_reducible first|exact ali _ _ _ _ _ _|exact ih1 _ _ _ _ _|exact ih2 _ _ _ _ _ _|exact ih3 _ _ _ _ _ _ _|exact ih4 _ _ _ _ _ _ _ _|exact pP.mono _ _ _|exact aj.refl _|exact aj.none _|refine aj.ite ?_ ?_|refine aj.bind ?_ (fun _=>?_))
  | exact ali _ _ _ _ _ _|exact ih1 _ _ _ _ _|exact ih2 _ _ _ _ _ _|exact ih3 _ _ _ _ _ _ _|exact ih4 _ _ _ _ _ _ _ _|exact pP.mono _ _ _|exact aj.none _|refine aj.ite ?_ ?_|refine aj.bind ?_ (fun _=>?_)
def bq.Oa:Bool × List (List Nat × List Nat):=(true,[([],[]),([],[]),([],[]),([],[]),([],[]),([3,4],[3,4]),([],[]),([],[]),([],[]),([7,8],[7,8]),([6,9],[6,9]),([10],[10]),([],[]),([],[]),([12,13],[12,13]),([14],[14]),([],[]),([16],[16]),([0,1,0,1,6,7,8,9,10,11,15],[0,1]),([18,11,0,1,6,7,8,9,10,11,15],[11,18]),([2,5,0,1,2,3,4,5,6,7,8,9,10,11,12,13,14,15,18,19],[2,5]),([20,15,19,0,1,2,3,4,5,6,7,8,9,10,11,12,13,14,15,18,19],[15,20]),([17,21,0,1,2,3,4,5,6,7,8,9,10,11,12,13,14,15,16,17,18,19,20,21],[16,17])])
def bq.Um:List Nat:=[0,0,0,0,0,24,0,0,0,384,960,1984,0,0,12288,28672,0,65536,65475,327619,851967,1900543,4194303]
theorem bq.aeT:gY .any (opsOf Try.f223 14)=bq.Oa:=by kernel_rfl
theorem bq.an9:nV bq.Oa.2 bq.Um=true:=by kernel_rfl
def bq.Ob:Bool × List (List Nat × List Nat):=(true,[([],[]),([],[]),([0,1],[0,1]),([2],[2]),([],[]),([],[]),([],[]),([5,6],[5,6]),([7],[7]),([],[]),([8,9],[8,9]),([10],[10]),([],[]),([],[]),([12,13],[12,13]),([14],[14]),([],[]),([15,16],[15,16]),([17],[17]),([11,18],[11,18]),([],[]),([],[]),([20,21],[20,21]),([22],[22]),([],[]),([23,24],[23,24]),([25],[25]),([],[]),([],[]),([27,28],[27,28]),([29],[29]),([],[]),([30,31],[30,31]),([32],[32]),([26,33],[26,33]),([19,34],[19,34]),([],[]),([35,36],[35,36]),([3,4,0,1,2,3,4,5,6,7,8,9,10,11,12,13,14,15,16,17,18,19,20,21,22,23,24,25,26,27,28,29,30,31,32,33,34,35,36,37],[3,4]),([38,37,0,1,2,3,4,5,6,7,8,9,10,11,12,13,14,15,16,17,18,19,20,21,22,23,24,25,26,27,28,29,30,31,32,33,34,35,36,37],[37,38])])
def bq.Un:List Nat:=[0,0,3,7,0,0,0,96,224,0,992,2016,0,0,12288,28672,0,126976,258048,524256,0,0,3145728,7340032,0,32505856,66060288,0,0,402653184,939524096,0,4160749568,8455716864,17178820608,34359738336,0,137438953440,274877906943,549755813887]
theorem bq.aeU:gY .any (opsOf Try.f223 21)=bq.Ob:=by kernel_rfl
theorem bq.an':nV bq.Ob.2 bq.Un=true:=by kernel_rfl
def bq.Oc:Bool × List (List Nat × List Nat):=(true,[([],[]),([],[]),([0,1],[0,1]),([2],[2]),([],[]),([3,4],[3,4]),([5],[5]),([6,0,1,2,3,4,5,6],[6])])
def bq.Uo:List Nat:=[0,0,3,7,0,31,63,127]
theorem bq.aeV:gY .any (opsOf Try.f223 22)=bq.Oc:=by kernel_rfl
theorem bq.W3:nV bq.Oc.2 bq.Uo=true:=by kernel_rfl
set_option maxHeartbeats 8000000 in
set_option maxRecDepth 100000 in
theorem bq.calls (k : Nat) (A0 : Option Addr) (c0 : Nat) (l0 : List (List Int)) (r : Int) (w : World) (cI : Kd.C (Kd.slice 2 (Kd.int .i64)) w A0 l0.length l0) (hc0 : l0.length ≤ c0) (h : bq.f k l0 = some r) :
  Calls Try.prog 223 #[.slice A0 l0.length c0] w fun e w'=>e=.returned (.int .i64 r)∧Below w.heap.size w w':=by
 have eA:=k0 cI
 have kP:=k0 hc0
 clear cI hc0
 have HB:=k0 (Below.refl w.heap.size w)
 have H:(bq.l0 k (([]:List (List Int))) 1 1 l0 (l0.length:Int) 0)=some r:=h
 clear h
 obtain ⟨iJ,fy⟩:∃ y_:List (List Int),y_=(([]:List (List Int))):=⟨_,rfl⟩
 replace H:(bq.l0 k iJ 1 1 l0 (l0.length:Int) 0)=some r:=by first|(rw [fy];with_reducible exact H)|(have ax:=(Option.bind_some _ _).symm.trans H;rw [fy];with_reducible exact ax)|(have ax:=(Option.bind_some _ _).symm.trans H;with_reducible exact ax)|with_reducible exact H|(rw [fy];exact H)|exact H
 have lz:=k0 fy
 clear fy
 have H':=k0 H
 clear H
 go_enter Try.func223,Try.ntmps223
 go_wp2_with (first|((with_reducible refine cy (N:=12) rfl ?_);refine Kd.B7 (Kd.slice 2 (Kd.int .i64)) _ 28 ?hg (N:=12) ?hd (xs:=([]:List (List Int))) (inner:=[]) (ok:=fun _=>True) (cC:=fun _=>True) ?hr ?hp (fun _ hk=>hk) trivial (Below.refl _ _) (Nat.le_refl _) (by simp) ?_;(case hd=>rfl);(case hg=>rfl);(case hr=>first|(go_simp;done)|(go_simp;rfl));(case hp=>exact (bY.none _ _));intro lT w2 tU hb ew ey;clear ew ey;(first|rw [← lz.out] at tU|(simp only [Int.reduceToNat] at tU;rw [← lz.out] at tU));have kQ:=k0 (Kd.pU tU (aU bl));replace HB:=k0 (aG bl hb);clear hb tU))
 go_loopg [3,15] k (fun kq v3 Ma w'=>∃ (bE:List (List Int)) (rR:Int),Ma=.int .i64 rR∧ak (bq.l0 kq bE 1 1 l0 (l0.length:Int) rR=some r)∧ak (kq≤k)∧ak (Kd.S (Kd.slice 2 (Kd.int .i64)) 28 w' w.heap.size (fun _=>True) v3 bE)∧ak (Below w.heap.size w w'))
 case atStart=>exact ⟨(iJ),(0),rs,H',⟨Nat.le_refl _⟩,⟨aS (kQ.out)⟩,⟨bl⟩⟩
 case round =>
  clear H'
  obtain ⟨bE,rR,rfl,HA,aM,az,HB⟩:=hrel
  cases gk with
  | zero=>exact absurd HA.out (by simp [bq.l0])
  | succ k1 =>
   have H:=HA.out
   clear HA
   simp only [bq.l0] at H
   by_cases c4:rR < (l0.length:Int)
   case neg =>
    rw [if_neg c4] at H
    have eV:decide (rR < (l0.length:Int))=false:=decide_eq_false c4
    clear c4
    have H':=k0 H
    clear H
    obtain ⟨jI,gT,vY⟩:=Kd.qx az.out
    subst vY
    go_wp2
    go_loopg [4,5,27] k1 (fun kq v4 v5 Ek w'=>∃ (ald:List (List Int)) (uB:Int) (alk:Int) (aD:Int),v4=.int .i64 uB∧v5=.int .i64 alk∧Ek=.int .i64 aD∧ak (bq.l1 kq ald uB alk (bE.length:Int) aD=some r)∧ak (kq≤k1)∧ak (Kd.S (Kd.slice 2 (Kd.int .i64)) 28 w' w.heap.size (fun _=>True) (.slice jI bE.length gT) ald)∧ak (Below w.heap.size w w'))
    case atStart=>exact ⟨(bE),(1),(1),(0),rs,rs,rs,H',⟨Nat.le_refl _⟩,⟨aS (az.out)⟩,⟨bl⟩⟩
    case round =>
     clear H'
     (try clear c4);(try clear eV);(try clear c5);(try clear jb);(try clear c6);(try clear jk);(try clear c8);(try clear cN);(try clear cV);(try clear cW)
     obtain ⟨ald,uB,alk,aD,rfl,rfl,rfl,HA,bp,az,HB⟩:=hrel
     have fL:=(Kd.ck az.out).1
     rw [fL] at az
     (try simp only [fL])
     cases gk with
     | zero=>exact absurd HA.out (by simp [bq.l1])
     | succ k2 =>
      have H:=HA.out
      clear HA
      simp only [bq.l1] at H
      by_cases c13:aD < (bE.length:Int)
      case neg =>
       rw [if_neg c13] at H
       have kU:decide (aD < (bE.length:Int))=false:=decide_eq_false c13
       (try simp only [fL] at kU)
       clear c13
       obtain rfl:=Option.some.inj H
       go_wp2
       go_ret
       exact ⟨by first|rfl|(simp [bA,bB]<;>rfl)|(simp [*,bA,bB]<;>rfl),bl⟩
      rw [if_pos c13] at H
      have kU:=decide_eq_true c13
      (try simp only [fL] at kU)
      clear c13
      replace H:=iS H;obtain ⟨c14,H⟩:=H
      have kC:=eq_true c14
      have AO:=decide_eq_true c14
      clear c14
      replace H:=iS H;obtain ⟨c15,H⟩:=H
      have kV:=eq_true c15
      have r8:=decide_eq_true c15
      (try simp only [fL] at r8)
      clear c15
      obtain ⟨nh,ud⟩:∃ y_:List (List Int),y_=(ald.drop (aD:Int).toNat):=⟨_,rfl⟩
      replace H:((pP.f k2 nh aD).bind fun t116=>(if t116 < 0 then (some 0) else (if t116 > 0 then (if 0≤(wrap64 (aD+t116)) then (if (wrap64 (aD+t116)) < (ald.length:Int) then (if aD < (ald.length:Int) then (bq.j2 k2 (swp ald aD (wrap64 (aD+t116))) (wrap64 (-uB)) alk (bE.length:Int) aD aD) else (none)) else (none)) else (none)) else (bq.j2 k2 ald uB alk (bE.length:Int) aD aD))))=some r:=by first|(rw [ud];with_reducible exact H)|(have ax:=(Option.bind_some _ _).symm.trans H;rw [ud];with_reducible exact ax)|(have ax:=(Option.bind_some _ _).symm.trans H;with_reducible exact ax)|with_reducible exact H|(rw [ud];exact H)|exact H
      have Au:=k0 ud
      clear ud
      replace H:=Option.bind_eq_some_iff.mp H
      obtain ⟨t116,amm,H⟩:=H
      replace H:(if t116 < 0 then (some 0) else (if t116 > 0 then (if 0≤(wrap64 (aD+t116)) then (if (wrap64 (aD+t116)) < (ald.length:Int) then (if aD < (ald.length:Int) then (bq.j2 k2 (swp ald aD (wrap64 (aD+t116))) (wrap64 (-uB)) alk (bE.length:Int) aD aD) else (none)) else (none)) else (none)) else (bq.j2 k2 ald uB alk (bE.length:Int) aD aD)))=some r:=H
      have qg:=k0 amm
      clear amm
      by_cases c17:t116 < 0
      case neg =>
       rw [if_neg c17] at H
       have pF:decide (t116 < 0)=false:=decide_eq_false c17
       clear c17
       have anO:=k0 H
       clear H
       go_upto_if 38 with (first|((with_reducible refine cy (N:=8) rfl ?_);refine ec ?hg (N:=8) ?hd (cs:=#[.int .i64 0]) (t:=3) ?hr ?_;(case hd=>rfl);(case hg=>rfl);(case hr=>first|(go_simp;done)|(go_simp;rfl));intro j8 hg TN aJ hb;replace az:=k0 (Kd.jt (aS az.out) hb);have fT:=k0 (aJ);have anJ:=k0 ((by rw [hg];exact (aU bl):w.heap.size≤j8));have HE:=anJ;replace HB:=k0 (aG bl hb);clear hb aJ hg;have Km:TN.cell? ⟨j8,0,none⟩=some (.int .i64 0):=(av fT.out 0).trans rfl;have KA:=ale fT.out 0)|((with_reducible refine kW (t:=3) (p:=8) rfl ?_);refine alT (t:=3) (p:=8) (v:=?ak7) (w1:=(TN.setCell ⟨j8,0,none⟩ (.int .i64 aD))) ?hg ?ho ?hn ?hr ?_;(case ho=>rfl);(case hg=>rfl);(case hn=>rfl);(case hr=>first|(go_simp;done)|(go_simp;rfl));intro En hw;have aK:ak (Kd.S (Kd.slice 2 (Kd.int .i64)) 28 En w.heap.size (fun _=>True) (.slice jI ald.length gT) ald):=⟨(by rw [hw];exact (by (with_reducible repeat (first|apply Kd.alN|apply Kd.ig|apply Kd.fI));exact Kd.iM (Kd.am_ (p:=⟨j8,0,none⟩) (Kd.E_ az.out fT.out (by decide)) (fun _ hk=>hk.2) (.int .i64 aD)) (fun _ hk=>trivial)))⟩;have alf:ak (En.heap[j8]?=some (.cells #[.int .i64 aD] 3 (0,0))):=⟨(by rw [hw];exact (by (with_reducible repeat (first|refine cm ?_ _|refine bJ ?_|refine alo ?_ _));refine pE (cs:=#[.int .i64 0]) ?_ 0 _ rfl;exact bk))⟩;have alj:ak (Below w.heap.size w En):=⟨(by rw [hw];exact bl)⟩;clear hw;clear az;clear fT;clear HB;have az:=aK;have fT:=alf;have HB:=alj;clear aK alf alj;have CY:En.cell? ⟨j8,0,none⟩=some (.int .i64 aD):=(av fT.out 0).trans rfl;have C3:=ale fT.out 0;have oK:(aD:Int)≤((ald.length:Int):Int):=oD;obtain ⟨i029,Q8,_,R4,_⟩:=info_parts yb;have KS:ald.length≤gT:=(Kd.ck az.out).2.1;have PO:Kd.C (Kd.slice 2 (Kd.int .i64)) _ jI ald.length ald:=(Kd.ck az.out).2.2;have GO:(0:Int)≤(aD:Int):=oD;have aaS:=OV (P:=Try.prog) 22 28 .i64 Try.underlying22 Q8 1 R4 jI ald.length gT aD GO oK;have De:=Kd.MQ (m:=(aD:Int).toNat) (c:=gT) PO (by omega) KS;obtain ⟨EA,hA29⟩:∃ A1,A1=(if gT=(aD:Int).toNat then jI else (jI:Option Addr).map (·.add ((aD:Int).toNat * 1))):=⟨_,rfl⟩;obtain ⟨c29,Kb⟩:∃ c1,c1=gT - (aD:Int).toNat:=⟨_,rfl⟩;have Gi:nh.length=ald.length - (aD:Int).toNat:=(by rw [Au.out,List.length_drop]<;>omega);rw [show (ald).drop (aD:Int).toNat=nh from Au.out.symm] at De;replace De:Kd.C (Kd.slice 2 (Kd.int .i64)) _ EA nh.length nh:=(by rw [hA29];exact De);rw [← Gi,← hA29,← Kb] at aaS;have al_:=k0 De;have anN:=k0 (show nh.length≤c29 from by rw [Gi,Kb];exact Nat.sub_le_sub_right KS _);clear De PO KS Q8 R4 Kb;have agf:=k0 Gi;have agb:=k0 hA29;clear Gi hA29;have agd:=k0 (show (aD:Int).toNat≤ald.length from by omega);replace oK:=eq_true oK)|((with_reducible refine fo (f:=220) rfl ?_);refine fq (some 34) rfl rfl Try.func220 (by kernel_rfl) rfl #[.slice EA nh.length c29,.func (.func 238) #[] #[.pointer (some ⟨j8,0,none⟩)]] rfl gm ?_;(with_reducible refine (pP.calls k2 _ _ nh aD t116 _ ?bt ?bu ?dZ qg.out).mono ?_);(case bt=>exact aC (by repeat (first|(with_reducible exact al_.out)|(with_reducible refine Kd.kM ?_ _)|(with_reducible refine Kd.alZ ?_ _)|(with_reducible refine Kd.j6 ?_)|exact al_.out)));(case bu=>exact anN.out);(case dZ=>exact by exact bk);rintro e w30 ⟨rfl,hb⟩;refine ⟨_,rfl,?_⟩;replace az:=k0 (Kd.jt (aS az.out) hb);replace fT:=k0 (alg (g:=j8) (o:=.cells #[.int .i64 aD] 3 (0,0)) bk hb);replace al_:=k0 (Kd.bI (by repeat (first|(with_reducible exact al_.out)|(with_reducible refine Kd.kM ?_ _)|(with_reducible refine Kd.alZ ?_ _)|(with_reducible refine Kd.j6 ?_)|exact al_.out)) hb);replace HB:=k0 (aG bl hb);(try clear hb)))
       (try simp only [Act.put,zI,zZ,zS])
       go_cut [4] (fun v4 wc=>∃ (kq:Nat) (Ep:List (List Int)) (yz:Int),v4=.int .i64 yz∧ak (bq.j2 kq Ep yz alk (bE.length:Int) aD aD=some r)∧ak (kq≤k2)∧ak (Kd.S (Kd.slice 2 (Kd.int .i64)) 28 wc w.heap.size (fun _=>True) (.slice jI ald.length gT) Ep)∧ak (wc.heap[j8]?=some (.cells #[.int .i64 aD] 3 (0,0)))∧ak (Below w.heap.size w wc))
       case first =>
        have H:=anO.out
        clear anO
        by_cases c31:t116 > 0
        case neg =>
         rw [if_neg c31] at H
         have ou:decide (0 < t116)=false:=decide_eq_false c31
         clear c31
         (first|rw [ou]|(simp only [cQ,dr];rw [ou])|skip)
         have H':=k0 H
         clear H
         go_wp2
         go_meet
         case rel=>exact ⟨_,(ald),(uB),rs,(by first|exact H'|(rw [rG];exact H')),⟨by have:=aM.out;have:=bp.out;first|omega|exact Nat.le_refl _⟩,⟨by (try simp only [fL]);(with_reducible repeat (first|apply Kd.alN|apply Kd.ig|apply Kd.fI));exact az.out⟩,⟨by (try simp only [fL]);exact bk⟩,⟨bl⟩⟩
        rw [if_pos c31] at H
        have ou:=decide_eq_true c31
        clear c31
        (first|rw [ou]|(simp only [cQ,dr];rw [ou])|skip)
        obtain ⟨pK,rG⟩:∃ j_:Int,(wrap64 (aD+t116))=j_:=⟨_,rfl⟩
        replace H:(if 0≤(pK) then (if (pK) < (ald.length:Int) then (if aD < (ald.length:Int) then (bq.j2 k2 (swp ald aD (pK)) (wrap64 (-uB)) alk (bE.length:Int) aD aD) else (none)) else (none)) else (none))=some r:=by first|(rw [rG] at H;exact H)|(simp only [rG] at H ⊢;exact H)
        have aiE:(IntKind.i64.wrap (aD+t116))=pK:=(cQ _).trans rG
        replace H:=iS H;obtain ⟨c33,H⟩:=H
        have Cm:=decide_eq_true c33
        clear c33
        replace H:=iS H;obtain ⟨c34,H⟩:=H
        have vS:=decide_eq_true c34
        (try simp only [fL] at vS)
        clear c34
        replace H:=iS H;obtain ⟨c35,H⟩:=H
        have AR:=decide_eq_true c35
        (try simp only [fL] at AR)
        clear c35
        obtain ⟨BG,uf⟩:∃ y_:List (List Int),y_=(swp ald aD (pK)):=⟨_,rfl⟩
        replace H:(bq.j2 k2 BG (wrap64 (-uB)) alk (bE.length:Int) aD aD)=some r:=by first|(rw [uf];with_reducible exact H)|(have ax:=(Option.bind_some _ _).symm.trans H;rw [uf];with_reducible exact ax)|(have ax:=(Option.bind_some _ _).symm.trans H;with_reducible exact ax)|with_reducible exact H|(rw [uf];exact H)|exact H
        have IM:=k0 uf
        clear uf
        have H':=k0 H
        clear H
        try go_wp2
        replace az:=k0 (Kd.fI az.out);replace fT:=k0 (bJ fT.out);replace al_:=k0 (Kd.j6 al_.out);replace HB:=k0 (bH HB.out)
        have al8:0≤((pK):Int):=oD
        have al':(pK) < (ald.length:Int):=oD
        obtain ⟨anv,an7,Xu,e117,mB,Rt,Rb⟩:=cZ (Kd.ck az.out).2.2 (pK) al8 al'
        cases e117
        obtain ⟨agU,aay,aak,Qi⟩:=Kd.l6 az.out [] (pK) al8 (by first|exact al'|exact oD|(have e_:=(Kd.ck az.out).1;omega))
        obtain ⟨akM,rfl,JH⟩:=aak
        have Dl:=Qi 0 _ rfl
        rw [Nat.add_zero,show ((Kd.slice 2 (Kd.int .i64))).sz=1 from rfl,Nat.mul_one] at Dl
        replace Dl:=Option.some.inj (Dl.symm.trans mB)
        rw [Dl] at JH
        have Va:=k0 (show Kd.R (Kd.int .i64) 2 _ _ _ _ (ag ald (pK)) from JH)
        clear Dl JH
        have anr:=k0 mB
        clear Qi aay
        have Vt:=k0 Rb
        have afU:=k0 Rt
        clear Rb Rt
        replace al8:=eq_true al8
        replace al':=eq_true al'
        have p7:0≤(aD:Int):=oD
        have p_:aD < (ald.length:Int):=oD
        obtain ⟨Fe,T',Xv,e118,mW,Ru,Rc⟩:=cZ (Kd.ck az.out).2.2 aD p7 p_
        obtain rfl:anv=Fe:=(by injection e118)
        obtain ⟨agV,aaz,aal,Qj⟩:=Kd.l6 az.out [] aD p7 (by first|exact p_|exact oD|(have e_:=(Kd.ck az.out).1;omega))
        obtain ⟨akN,rfl,JI⟩:=aal
        have Dm:=Qj 0 _ rfl
        rw [Nat.add_zero,show ((Kd.slice 2 (Kd.int .i64))).sz=1 from rfl,Nat.mul_one] at Dm
        replace Dm:=Option.some.inj (Dm.symm.trans mW)
        rw [Dm] at JI
        have Vb:=k0 (show Kd.R (Kd.int .i64) 2 _ _ _ _ (ag ald aD) from JI)
        clear Dm JI
        have Iw:=k0 mW
        clear Qj aaz
        have Vu:=k0 Rc
        have afV:=k0 Ru
        clear Rc Ru
        replace p7:=eq_true p7
        replace p_:=eq_true p_
        have wP:0≤(aD:Int):=oD
        have wT:(aD:Int) < ((ald.length:Int):Int):=oD
        obtain ⟨FE,ahl,O7,PB,ZZ,ahe,Nq⟩:=Kd.IZ az.out (by omega)
        (first|cases O7|(injection O7 with aW aly c_;(first|subst aW|(injection aW with aW;subst aW));subst c_;clear aly))
        have M9:=k0 PB
        have U0:=k0 Nq
        clear PB ZZ Nq
        (first|simp only [add_plain] at mB|skip)
        (first|simp only [add_plain] at mW|skip)
        obtain ⟨_,ag7,aaM,P3,Qv,QV,_,_⟩:=Kd.IY az.out [] (aD:Int) wP wT
        obtain ⟨akZ,rfl,ahs⟩:=P3
        have DB:=Qv 0 _ rfl
        have QM:=QV 0
        (try simp only [show ((Kd.slice 2 (Kd.int .i64))).sz=1 from rfl,Nat.mul_one,Nat.add_zero] at DB)
        (try simp only [show ((Kd.slice 2 (Kd.int .i64))).sz=1 from rfl,Nat.mul_one,Nat.add_zero] at QM)
        (try clear P3);clear aaM Qv QV
        replace wP:=eq_true wP
        replace wT:=eq_true wT
        have NC:=Ww az.out (aD:Int) ((pK):Int) oD (by have h_:(aD:Int) < ((ald.length:Int):Int):=oD;first|exact h_|(have e_:=(Kd.ck az.out).1;omega)|simpa using h_) oD (by have h_:((pK):Int) < ((ald.length:Int):Int):=oD;first|exact h_|(have e_:=(Kd.ck az.out).1;omega)|simpa using h_) (by first|exact Iw.out|simpa only [add_plain,lN,Nat.mul_one,Nat.zero_add,Nat.add_zero] using Iw.out) (by first|exact anr.out|simpa only [add_plain,lN,Nat.mul_one,Nat.zero_add,Nat.add_zero] using anr.out)
        obtain ⟨Gg,abg⟩:=Wt az.out (aD:Int) ((pK):Int) oD (by have h_:(aD:Int) < ((ald.length:Int):Int):=oD;first|exact h_|(have e_:=(Kd.ck az.out).1;omega)|simpa using h_) oD (by have h_:((pK):Int) < ((ald.length:Int):Int):=oD;first|exact h_|(have e_:=(Kd.ck az.out).1;omega)|simpa using h_) (by first|exact anr.out|simpa only [add_plain,lN,Nat.mul_one,Nat.zero_add,Nat.add_zero] using anr.out)
        have BZ:=k0 NC.1
        (have h_:=BZ.out;rw [← IM.out] at h_;have NK:=k0 h_;clear h_ BZ;have BZ:=NK;clear NK)
        clear NC
        refine nT (n:=23) (S:=fun w'=>w'.cell? ⟨j8,0,none⟩=some (.int .i64 aD)∧w'.cell? ⟨FE,((pK)).toNat,none⟩=some (.slice an7 (ag ald (pK)).length Xu)∧w'.cell? ⟨FE,(aD).toNat,none⟩=some (.slice T' (ag ald aD).length Xv)) (ds:=[19,21]) (ba 23 0) (by kernel_rfl) rfl rfl ⟨(av fT.out 0).trans rfl,mB,mW⟩ (fun hHeld=>?_);refine rQ bq.aeT bq.an9 (fun alc dG=>?_)
        generalize w30.drew=w37 at az fT al_ HB U0 Va Vb BZ Vt Vu anr Iw QM abg mB mW DB Gg hHeld ⊢
        refine pu 0 (some 39) (ba 23 1) alc (h:=?_)
        refine pu 2 (some 41) (ba 23 5) alc (h:=?_)
        refine pu 4 (some 43) (ba 23 21) alc (h:=?_)
        refine pu 6 (some 45) (ba 23 85) alc (h:=?_)
        refine pu 8 (some 47) (ba 23 341) alc (h:=?_)
        refine pu 12 (some 51) (ba 23 4437) alc (h:=?_)
        refine pu 16 (some 55) (ba 23 69973) alc (h:=?_)
        refine pu 17 (some 56) (ba 23 201045) alc (h:=?_)
        refine ta 1 (some 40) (ba 23 201047) alc dG hHeld (hy:=Or.inl ⟨by rfl,by rintro w' ⟨s0,s1,s2⟩;go_simp;with_reducible rfl⟩) (h:=?_)
        refine ta 7 (some 46) (ba 23 201175) alc dG hHeld (hy:=Or.inl ⟨by rfl,by rintro w' ⟨s0,s1,s2⟩;go_simp;with_reducible rfl⟩) (h:=?_)
        refine pu 9 (some 48) (ba 23 201687) alc (h:=?_)
        refine pu 10 (some 49) (ba 23 202711) alc (h:=?_)
        refine ta 11 (some 50) (ba 23 204759) alc dG hHeld (hy:=Or.inl ⟨by rfl,by rintro w' ⟨s0,s1,s2⟩;go_simp;with_reducible rfl⟩) (h:=?_)
        refine ta 13 (some 52) (ba 23 212951) alc dG hHeld (hy:=Or.inl ⟨by rfl,by rintro w' ⟨s0,s1,s2⟩;go_simp;with_reducible rfl⟩) (h:=?_)
        refine pu 14 (some 53) (ba 23 229335) alc (h:=?_)
        refine ta 15 (some 54) (ba 23 262103) alc dG hHeld (hy:=Or.inl ⟨by rfl,by rintro w' ⟨s0,s1,s2⟩;go_simp;with_reducible rfl⟩) (h:=?_)
        refine pu 18 (some 57) (ba 23 524247) alc (h:=?_)
        refine adq (i:=3) (d:=19) (Ni:=some 42) (FB:=?nI) (l3:=(ba 23 1048575)) (a3:=?a3_) (w3:=?w3_) (ba 23 524255) (ba 23 1048535) rfl rfl rfl rfl (by kernel_rfl) (by decide) (fun hf K hK=>?A_) (fun hf K hK=>?B_) ?M_
        case A_ =>
         refine Mc (w1:=?_) (v:=?_) (by rfl) rfl ?_ ?_
         rotate_left 2
         ·go_simp
          constructor
          ·rfl
          ·rfl
         refine hK.out _ ?_
         clear hK K
         refine dY (a':=?_) ?_ ?_
         rotate_left;· show Act.put _ (some 42) _=_;simp only [Act.put,zI,zZ,zS,cQ,dr];rfl
         refine pu 5 (some 44) (ba 23 524287) alc (h:=?_)
         refine sF (i:=19) (N:=none) (ba 23 1048575) rfl rfl (lG alc.out (by kernel_rfl)) (by decide) (fun K hK=>?_)
         refine qa (w1:=?_) (by rfl) rfl ?_ ?_
         rotate_left;· go_simp;rfl
         refine hK.out _ _ ?_
         clear hK K
         exact hf
        case B_ =>
         refine qa (w1:=?_) (by rfl) rfl ?_ ?_
         rotate_left;· go_simp;rfl
         refine hK.out _ _ ?_
         clear hK K
         have wg:∀ (K2:Nat) (v_:Value),(World.setCell w37 ⟨FE,K2,none⟩ v_).cell? ⟨j8,0,none⟩=some (.int .i64 aD):=fun K2 v_=>(cell_far (p:=⟨FE,K2,none⟩) (fun h_=>(Kd.ana az.out fT.out (by decide)) (congrArg some h_)) v_).trans hHeld.1
         refine adA (i:=3) (Ni:=some 42) (ba 23 1048543) rfl rfl (by kernel_rfl) (fun K hK=>?_)
         refine Mc (w1:=?_) (v:=?_) (by rfl) rfl ?_ ?_
         rotate_left 2
         ·go_simp
          constructor
          ·rfl
          ·rfl
         refine hK.out _ ?_
         clear hK K
         refine dY (a':=?_) ?_ ?_
         rotate_left;· show Act.put _ (some 42) _=_;simp only [Act.put,zI,zZ,zS,cQ,dr];rfl
         refine pu 5 (some 44) (ba 23 1048575) alc (h:=?_)
         exact hf
        refine pu 20 (some 58) (ba 23 2097151) alc (h:=?_)
        refine sF (i:=21) (N:=none) (ba 23 4194303) rfl rfl (lG alc.out (by kernel_rfl)) (by decide) (fun K hK=>?_)
        refine qa (w1:=?_) (by rfl) rfl ?_ ?_
        rotate_left;· go_simp;rfl
        refine hK.out _ _ ?_
        clear hK K
        refine pu 22 (some 4) (ba 23 8388607) alc (h:=?_)
        refine nH (rz alc.out (by kernel_rfl)) ?_
        try go_wp2
        go_meet
        case rel=>exact ⟨_,(BG),(wrap64 (-uB)),rs,(by first|exact H'|(rw [rG];exact H')),⟨by have:=aM.out;have:=bp.out;first|omega|exact Nat.le_refl _⟩,⟨by (try simp only [fL]);(with_reducible repeat (first|apply Kd.alN|apply Kd.ig|apply Kd.fI));exact BZ.out⟩,⟨by (try simp only [fL]);(with_reducible repeat (first|refine cm ?_ _|refine bJ ?_|refine alo ?_ _));refine gD ?_ (by have h_:=Kd.ana az.out fT.out (by decide);intro e_;exact h_ (by rw [e_];rfl)) _;(with_reducible repeat (first|refine cm ?_ _|refine bJ ?_|refine alo ?_ _));refine gD ?_ (by have h_:=Kd.ana az.out fT.out (by decide);intro e_;exact h_ (by rw [e_];rfl)) _;exact bk⟩,⟨by repeat (first|(with_reducible first|exact HB.out|apply bL|apply bX|apply bH|refine dI ?_ M9.out|refine dI ?_ M9.out|refine dI ?_ HE.out)|exact HB.out)⟩⟩
       case rest =>
        clear anO
        (try clear c4);(try clear eV);(try clear c5);(try clear jb);(try clear c6);(try clear jk);(try clear c8);(try clear c13);(try clear kU);(try clear c14);(try clear kC);(try clear AO);(try clear c15);(try clear kV);(try clear r8);(try clear c17);(try clear pF);(try clear c22);(try clear wS);(try clear c29);(try clear oK);(try clear c31);(try clear ou);(try clear c33);(try clear Cm);(try clear c34);(try clear vS);(try clear c35);(try clear AR);(try clear wP);(try clear wT);(try clear sk);(try clear FM);(try clear Km);(try clear CY);(try clear sw);(try clear FQ);(try clear KA);(try clear C3);(try clear cN);(try clear mB);(try clear mW);(try clear DB);(try clear Gg);(try clear cV);(try clear al8);(try clear p7);(try clear wP);(try clear GN);(try clear GO);(try clear cW);(try clear al');(try clear p_);(try clear wS);(try clear oK);(try clear wT)
        obtain ⟨kq,Ep,yz,rfl,HA,Ak,az,fT,HB⟩:=hcut
        have kE:=(Kd.ck az.out).1
        rw [kE] at az
        (try simp only [kE])
        (try simp only [kE] at fT)
        cases kq with
        | zero=>exact absurd HA.out (by simp [bq.j2])
        | succ Sk =>
         have H:=HA.out
         clear HA
         simp only [bq.j2] at H
         have H':=k0 H
         clear H
         have QH:wc.cell? ⟨j8,0,none⟩=some (.int .i64 aD):=(av fT.out 0).trans rfl
         have Q2:=ale fT.out 0
         go_wp2
         go_loopg [10] Sk (fun kq v10 w'=>∃ (qX:List (List Int)) (eN:Int),v10=.int .i64 eN∧ak (bq.l2 kq qX yz alk eN (bE.length:Int) aD aD=some r)∧ak (kq≤Sk)∧ak (Kd.S (Kd.slice 2 (Kd.int .i64)) 28 w' w.heap.size (fun _=>True) (.slice jI Ep.length gT) qX)∧ak (w'.heap[j8]?=some (.cells #[.int .i64 aD] 3 (0,0)))∧ak (Below w.heap.size w w'))
         case atStart=>exact ⟨(Ep),(wrap64 (aD+1)),rs,H',⟨Nat.le_refl _⟩,⟨by (try simp only [fL]);(try simp only [kE]);(with_reducible repeat (first|apply Kd.alN|apply Kd.ig|apply Kd.fI));exact az.out⟩,⟨by (try simp only [fL]);(try simp only [kE]);exact bk⟩,⟨bl⟩⟩
         case round =>
          clear H'
          (try clear c4);(try clear eV);(try clear c5);(try clear jb);(try clear c6);(try clear jk);(try clear c8);(try clear c13);(try clear kU);(try clear c14);(try clear kC);(try clear AO);(try clear c15);(try clear kV);(try clear r8);(try clear c17);(try clear pF);(try clear c22);(try clear wS);(try clear c29);(try clear oK);(try clear c31);(try clear ou);(try clear c33);(try clear Cm);(try clear c34);(try clear vS);(try clear c35);(try clear AR);(try clear wP);(try clear wT);(try clear sk);(try clear FM);(try clear Km);(try clear CY);(try clear QH);(try clear sw);(try clear FQ);(try clear KA);(try clear C3);(try clear Q2);(try clear cN);(try clear mB);(try clear mW);(try clear DB);(try clear Gg);(try clear cV);(try clear al8);(try clear p7);(try clear wP);(try clear GN);(try clear GO);(try clear cW);(try clear al');(try clear p_);(try clear wS);(try clear oK);(try clear wT)
          obtain ⟨qX,eN,rfl,HA,gI,az,fT,HB⟩:=hrel
          have kX:=(Kd.ck az.out).1
          rw [kX] at az
          (try simp only [kX])
          (try simp only [kX] at fT)
          cases gk with
          | zero=>exact absurd HA.out (by simp [bq.l2])
          | succ k4 =>
           have H:=HA.out
           clear HA
           simp only [bq.l2] at H
           by_cases c40:eN < (qX.length:Int)
           case neg =>
            rw [if_neg c40] at H
            have vT:decide (eN < (qX.length:Int))=false:=decide_eq_false c40
            (try simp only [fL,kE,kX] at vT)
            clear c40
            replace H:=iS H;obtain ⟨c57,H⟩:=H
            have agH:=decide_eq_true c57
            clear c57
            replace H:=iS H;obtain ⟨c58,H⟩:=H
            have XP:=decide_eq_true c58
            (try simp only [fL,kE,kX] at XP)
            clear c58
            replace H:=iS H;obtain ⟨c59,H⟩:=H
            have XQ:=decide_eq_true c59
            (try simp only [fL,kE,kX] at XQ)
            clear c59
            have H':=k0 H
            clear H
            try go_wp2
            replace az:=k0 (Kd.fI az.out);replace fT:=k0 (bJ fT.out);replace HB:=k0 (bH HB.out)
            have yj:0≤(aD:Int):=oD
            have ym:aD < (qX.length:Int):=oD
            obtain ⟨I4,afw,Xw,e120,uW,Rv,Rd⟩:=cZ (Kd.ck az.out).2.2 aD yj ym
            cases e120
            obtain ⟨agX,aaA,aam,Ql⟩:=Kd.l6 az.out [] aD yj (by first|exact ym|exact oD|(have e_:=(Kd.ck az.out).1;omega))
            obtain ⟨akO,rfl,JJ⟩:=aam
            have Dn:=Ql 0 _ rfl
            rw [Nat.add_zero,show ((Kd.slice 2 (Kd.int .i64))).sz=1 from rfl,Nat.mul_one] at Dn
            replace Dn:=Option.some.inj (Dn.symm.trans uW)
            rw [Dn] at JJ
            have Vc:=k0 (show Kd.R (Kd.int .i64) 2 _ _ _ _ (ag qX aD) from JJ)
            clear Dn JJ
            have Vz:=k0 uW
            clear Ql aaA
            have Ii:=k0 Rd
            have afW:=k0 Rv
            clear Rd Rv
            replace yj:=eq_true yj
            replace ym:=eq_true ym
            have wO:0≤(aD:Int):=oD
            have wR:aD < ((ag qX aD).length:Int):=oD
            obtain ⟨I5,e121,am4⟩:=Kd.bS (by repeat (first|(with_reducible exact Ii.out)|(with_reducible refine Kd.kM ?_ _)|(with_reducible refine Kd.alZ ?_ _)|(with_reducible refine Kd.j6 ?_)|exact Ii.out)) aD wO wR
            cases e121
            replace wO:=eq_true wO
            replace wR:=eq_true wR
            refine nT (n:=8) (S:=fun w'=>w'.cell? ⟨j8,0,none⟩=some (.int .i64 aD)∧w'.cell? (I4.add (aD).toNat)=some (.slice (some I5) (ag qX aD).length Xw)∧w'.cell? (I5.add (aD).toNat)=some (.int .i64 (rd (ag qX aD) aD))) (ds:=[]) (ba 8 0) (by kernel_rfl) rfl rfl ⟨(av fT.out 0).trans rfl,uW,am4⟩ (fun hHeld=>?_);refine rQ bq.aeV bq.W3 (fun alc dG=>?_)
            generalize wr.drew=w60 at az fT HB Vc Ii Vz uW am4 hHeld ⊢
            refine pu 0 (some 114) (ba 8 1) alc (h:=?_)
            refine ta 1 (some 115) (ba 8 3) alc dG hHeld (hy:=Or.inl ⟨by rfl,by rintro w' ⟨s0,s1,s2⟩;go_simp;with_reducible rfl⟩) (h:=?_)
            refine pu 2 (some 116) (ba 8 7) alc (h:=?_)
            refine ta 3 (some 117) (ba 8 15) alc dG hHeld (hy:=Or.inl ⟨by rfl,by rintro w' ⟨s0,s1,s2⟩;go_simp;with_reducible rfl⟩) (h:=?_)
            refine ta 4 (some 118) (ba 8 31) alc dG hHeld (hy:=Or.inl ⟨by rfl,by rintro w' ⟨s0,s1,s2⟩;go_simp;with_reducible rfl⟩) (h:=?_)
            refine pu 5 (some 119) (ba 8 63) alc (h:=?_)
            refine ta 6 (some 120) (ba 8 127) alc dG hHeld (hy:=Or.inl ⟨by rfl,by rintro w' ⟨s0,s1,s2⟩;go_simp;with_reducible rfl⟩) (h:=?_)
            refine pu 7 (some 5) (ba 8 255) alc (h:=?_)
            refine nH (rz alc.out (by kernel_rfl)) ?_
            try go_wp2
            (try simp only [← fL,← kE,← kX])
            first|go_roundg k4|(simp only [← rG];go_roundg k4)
            case measure=>have:=aM.out;have:=bp.out;have:=Ak.out;have:=gI.out;omega
            case rel=>exact ⟨(qX),(yz),(rd (ag qX aD) aD),(wrap64 (aD+1)),rs,rs,rs,(by first|exact H'|(rw [rG];exact H')),⟨by have:=aM.out;have:=bp.out;have:=Ak.out;have:=gI.out;omega⟩,⟨by (try simp only [fL]);(try simp only [kE]);(try simp only [kX]);(with_reducible repeat (first|apply Kd.alN|apply Kd.ig|apply Kd.fI));exact az.out⟩,⟨bl⟩⟩
           rw [if_pos c40] at H
           have vT:=decide_eq_true c40
           (try simp only [fL,kE,kX] at vT)
           clear c40
           have H':=k0 H
           clear H
           have aaW:wr.cell? ⟨j8,0,none⟩=some (.int .i64 aD):=(av fT.out 0).trans rfl
           have abm:=ale fT.out 0
           go_wp2
           go_loopg [11] k4 (fun kq v11 w'=>∃ (fR:List (List Int)) (alR:Int),v11=.int .i64 alR∧ak (bq.l3 kq fR yz alk eN alR (bE.length:Int) aD aD=some r)∧ak (kq≤k4)∧ak (Kd.S (Kd.slice 2 (Kd.int .i64)) 28 w' w.heap.size (fun _=>True) (.slice jI qX.length gT) fR)∧ak (w'.heap[j8]?=some (.cells #[.int .i64 aD] 3 (0,0)))∧ak (Below w.heap.size w w'))
           case atStart=>exact ⟨(qX),(wrap64 (aD+1)),rs,H',⟨Nat.le_refl _⟩,⟨by (try simp only [fL]);(try simp only [kE]);(try simp only [kX]);(with_reducible repeat (first|apply Kd.alN|apply Kd.ig|apply Kd.fI));exact az.out⟩,⟨by (try simp only [fL]);(try simp only [kE]);(try simp only [kX]);exact bk⟩,⟨bl⟩⟩
           case round =>
            clear H'
            (try clear c4);(try clear eV);(try clear c5);(try clear jb);(try clear c6);(try clear jk);(try clear c8);(try clear c13);(try clear kU);(try clear c14);(try clear kC);(try clear AO);(try clear c15);(try clear kV);(try clear r8);(try clear c17);(try clear pF);(try clear c22);(try clear wS);(try clear c29);(try clear oK);(try clear c31);(try clear ou);(try clear c33);(try clear Cm);(try clear c34);(try clear vS);(try clear c35);(try clear AR);(try clear wP);(try clear wT);(try clear c40);(try clear vT);(try clear sk);(try clear FM);(try clear Km);(try clear CY);(try clear QH);(try clear aaW);(try clear sw);(try clear FQ);(try clear KA);(try clear C3);(try clear Q2);(try clear abm);(try clear cN);(try clear mB);(try clear mW);(try clear DB);(try clear Gg);(try clear cV);(try clear al8);(try clear p7);(try clear wP);(try clear GN);(try clear GO);(try clear cW);(try clear al');(try clear p_);(try clear wS);(try clear oK);(try clear wT)
            obtain ⟨fR,alR,rfl,HA,EN,az,fT,HB⟩:=hrel
            have al5:=(Kd.ck az.out).1
            rw [al5] at az
            (try simp only [al5])
            (try simp only [al5] at fT)
            cases gk with
            | zero=>exact absurd HA.out (by simp [bq.l3])
            | succ k5 =>
             have H:=HA.out
             clear HA
             simp only [bq.l3] at H
             by_cases c42:alR < (fR.length:Int)
             case neg =>
              rw [if_neg c42] at H
              have xz:decide (alR < (fR.length:Int))=false:=decide_eq_false c42
              (try simp only [fL,kE,kX,al5] at xz)
              clear c42
              have H':=k0 H
              clear H
              go_wp2
              (try simp only [← kX,← al5])
              first|go_roundg k5|(simp only [← rG];go_roundg k5)
              case measure=>have:=aM.out;have:=bp.out;have:=Ak.out;have:=gI.out;have:=EN.out;omega
              case rel=>exact ⟨(fR),(wrap64 (eN+1)),rs,(by first|exact H'|(rw [rG];exact H')),⟨by have:=aM.out;have:=bp.out;have:=Ak.out;have:=gI.out;have:=EN.out;omega⟩,⟨by (try simp only [fL]);(try simp only [kE]);(try simp only [kX]);(try simp only [al5]);(with_reducible repeat (first|apply Kd.alN|apply Kd.ig|apply Kd.fI));exact az.out⟩,⟨by (try simp only [fL]);(try simp only [kE]);(try simp only [kX]);(try simp only [al5]);exact bk⟩,⟨bl⟩⟩
             rw [if_pos c42] at H
             have xz:=decide_eq_true c42
             (try simp only [fL,kE,kX,al5] at xz)
             clear c42
             replace H:=iS H;obtain ⟨c43,H⟩:=H
             have OD:=decide_eq_true c43
             clear c43
             replace H:=iS H;obtain ⟨c44,H⟩:=H
             have XJ:=decide_eq_true c44
             (try simp only [fL,kE,kX,al5] at XJ)
             clear c44
             replace H:=iS H;obtain ⟨c45,H⟩:=H
             have agD:=decide_eq_true c45
             clear c45
             replace H:=iS H;obtain ⟨c46,H⟩:=H
             have XK:=decide_eq_true c46
             (try simp only [fL,kE,kX,al5] at XK)
             clear c46
             replace H:=iS H;obtain ⟨c47,H⟩:=H
             have agE:=decide_eq_true c47
             clear c47
             replace H:=iS H;obtain ⟨c48,H⟩:=H
             have XL:=decide_eq_true c48
             (try simp only [fL,kE,kX,al5] at XL)
             clear c48
             replace H:=iS H;obtain ⟨c49,H⟩:=H
             have XM:=decide_eq_true c49
             (try simp only [fL,kE,kX,al5] at XM)
             clear c49
             replace H:=iS H;obtain ⟨c50,H⟩:=H
             have XN:=decide_eq_true c50
             (try simp only [fL,kE,kX,al5] at XN)
             clear c50
             replace H:=iS H;obtain ⟨c51,H⟩:=H
             have XO:=decide_eq_true c51
             (try simp only [fL,kE,kX,al5] at XO)
             clear c51
             by_cases c52:alk=0
             case neg =>
              rw [if_neg c52] at H
              have agF:(alk == 0)=false:=beq_eq_false_iff_ne.mpr c52
              have agG:(alk != 0)=true:=bne_iff_ne.mpr c52
              obtain ⟨Mn,DL⟩:∃ y_:List Int,y_=((ag fR eN).set (alR:Int).toNat (wrap64 (Int.tdiv (wrap64 ((wrap64 ((rd (ag fR eN) alR) * (rd (ag fR aD) aD))) - (wrap64 ((rd (ag fR eN) aD) * (rd (ag fR aD) alR))))) alk))):=⟨_,rfl⟩
              replace H:(bq.l3 k5 (fR.set (eN:Int).toNat Mn) yz alk eN (wrap64 (alR+1)) (bE.length:Int) aD aD)=some r:=by first|(rw [DL];with_reducible exact H)|(have ax:=(Option.bind_some _ _).symm.trans H;rw [DL];with_reducible exact ax)|(have ax:=(Option.bind_some _ _).symm.trans H;with_reducible exact ax)|with_reducible exact H|(rw [DL];exact H)|exact H
              have V6:=k0 DL
              clear DL
              obtain ⟨an5,DM⟩:∃ y_:List (List Int),y_=(fR.set (eN:Int).toNat Mn):=⟨_,rfl⟩
              replace H:(bq.l3 k5 an5 yz alk eN (wrap64 (alR+1)) (bE.length:Int) aD aD)=some r:=by first|(rw [DM];with_reducible exact H)|(have ax:=(Option.bind_some _ _).symm.trans H;rw [DM];with_reducible exact ax)|(have ax:=(Option.bind_some _ _).symm.trans H;with_reducible exact ax)|with_reducible exact H|(rw [DM];exact H)|exact H
              have V7:=k0 DM
              clear DM
              have H':=k0 H
              clear H
              try go_wp2
              replace az:=k0 (Kd.fI az.out);replace fT:=k0 (bJ fT.out);replace HB:=k0 (bH HB.out)
              have GH:0≤(eN:Int):=oD
              have GP:eN < (fR.length:Int):=oD
              obtain ⟨vM,afx,Ja,e122,Bp,Rw,Re⟩:=cZ (Kd.ck az.out).2.2 eN GH GP
              cases e122
              obtain ⟨agY,aaB,aan,Qm⟩:=Kd.l6 az.out [] eN GH (by first|exact GP|exact oD|(have e_:=(Kd.ck az.out).1;omega))
              obtain ⟨akP,rfl,JK⟩:=aan
              have Dp:=Qm 0 _ rfl
              rw [Nat.add_zero,show ((Kd.slice 2 (Kd.int .i64))).sz=1 from rfl,Nat.mul_one] at Dp
              replace Dp:=Option.some.inj (Dp.symm.trans Bp)
              rw [Dp] at JK
              have ER:=k0 (show Kd.R (Kd.int .i64) 2 _ _ _ _ (ag fR eN) from JK)
              clear Dp JK
              have Ix:=k0 Bp
              clear Qm aaB
              have Vv:=k0 Re
              have afX:=k0 Rw
              clear Re Rw
              replace GH:=eq_true GH
              replace GP:=eq_true GP
              have GI:0≤(eN:Int):=oD
              have GQ:eN < (fR.length:Int):=oD
              obtain ⟨WI,afy,ags,e123,Dx,Rx,Rf⟩:=cZ (Kd.ck az.out).2.2 eN GI GQ
              obtain rfl:vM=WI:=(by injection e123)
              obtain ⟨agZ,aaC,aao,Qn⟩:=Kd.l6 az.out [] eN GI (by first|exact GQ|exact oD|(have e_:=(Kd.ck az.out).1;omega))
              obtain ⟨akQ,rfl,JL⟩:=aao
              have Dq:=Qn 0 _ rfl
              rw [Nat.add_zero,show ((Kd.slice 2 (Kd.int .i64))).sz=1 from rfl,Nat.mul_one] at Dq
              replace Dq:=Option.some.inj (Dq.symm.trans Dx)
              rw [Dq] at JL
              have Vd:=k0 (show Kd.R (Kd.int .i64) 2 _ _ _ _ (ag fR eN) from JL)
              clear Dq JL
              have VA:=k0 Dx
              clear Qn aaC
              have Ij:=k0 Rf
              have afY:=k0 Rx
              clear Rf Rx
              replace GI:=eq_true GI
              replace GQ:=eq_true GQ
              have aW:=Option.some.inj (Bp.symm.trans Dx)
              injection aW with aW aly c_
              subst aW
              subst c_
              clear aly
              have Ls:0≤(alR:Int):=oD
              have LK:alR < ((ag fR eN).length:Int):=oD
              obtain ⟨WJ,e124,KX⟩:=Kd.bS (by repeat (first|(with_reducible exact Ij.out)|(with_reducible refine Kd.kM ?_ _)|(with_reducible refine Kd.alZ ?_ _)|(with_reducible refine Kd.j6 ?_)|exact Ij.out)) alR Ls LK
              cases e124
              replace Ls:=eq_true Ls
              replace LK:=eq_true LK
              have GJ:0≤(aD:Int):=oD
              have anE:aD < (fR.length:Int):=oD
              obtain ⟨WK,afz,OA,e125,Dy,Ry,Rg⟩:=cZ (Kd.ck az.out).2.2 aD GJ anE
              obtain rfl:vM=WK:=(by injection e125)
              obtain ⟨ag0,aaD,aap,Qo⟩:=Kd.l6 az.out [] aD GJ (by first|exact anE|exact oD|(have e_:=(Kd.ck az.out).1;omega))
              obtain ⟨akR,rfl,JM⟩:=aap
              have Dr:=Qo 0 _ rfl
              rw [Nat.add_zero,show ((Kd.slice 2 (Kd.int .i64))).sz=1 from rfl,Nat.mul_one] at Dr
              replace Dr:=Option.some.inj (Dr.symm.trans Dy)
              rw [Dr] at JM
              have Ve:=k0 (show Kd.R (Kd.int .i64) 2 _ _ _ _ (ag fR aD) from JM)
              clear Dr JM
              have VB:=k0 Dy
              clear Qo aaD
              have Ik:=k0 Rg
              have afZ:=k0 Ry
              clear Rg Ry
              replace GJ:=eq_true GJ
              replace anE:=eq_true anE
              have Lt:0≤(aD:Int):=oD
              have LL:aD < ((ag fR aD).length:Int):=oD
              obtain ⟨Ca,e126,Sa⟩:=Kd.bS (by repeat (first|(with_reducible exact Ik.out)|(with_reducible refine Kd.kM ?_ _)|(with_reducible refine Kd.alZ ?_ _)|(with_reducible refine Kd.j6 ?_)|exact Ik.out)) aD Lt LL
              cases e126
              replace Lt:=eq_true Lt
              replace LL:=eq_true LL
              have GK:0≤(eN:Int):=oD
              have GS:eN < (fR.length:Int):=oD
              obtain ⟨WL,afA,agt,e127,Dz,Rz,Rh⟩:=cZ (Kd.ck az.out).2.2 eN GK GS
              obtain rfl:vM=WL:=(by injection e127)
              obtain ⟨ag1,aaE,aaq,Qp⟩:=Kd.l6 az.out [] eN GK (by first|exact GS|exact oD|(have e_:=(Kd.ck az.out).1;omega))
              obtain ⟨akS,rfl,JN⟩:=aaq
              have Ds:=Qp 0 _ rfl
              rw [Nat.add_zero,show ((Kd.slice 2 (Kd.int .i64))).sz=1 from rfl,Nat.mul_one] at Ds
              replace Ds:=Option.some.inj (Ds.symm.trans Dz)
              rw [Ds] at JN
              have Vf:=k0 (show Kd.R (Kd.int .i64) 2 _ _ _ _ (ag fR eN) from JN)
              clear Ds JN
              have VC:=k0 Dz
              clear Qp aaE
              have Il:=k0 Rh
              have af0:=k0 Rz
              clear Rh Rz
              replace GK:=eq_true GK
              replace GS:=eq_true GS
              have aW:=Option.some.inj (Bp.symm.trans Dz)
              injection aW with aW aly c_
              subst aW
              subst c_
              clear aly
              have Lu:0≤(aD:Int):=oD
              have LM:aD < ((ag fR eN).length:Int):=oD
              obtain ⟨WM,e128,KY⟩:=Kd.bS (by repeat (first|(with_reducible exact Il.out)|(with_reducible refine Kd.kM ?_ _)|(with_reducible refine Kd.alZ ?_ _)|(with_reducible refine Kd.j6 ?_)|exact Il.out)) aD Lu LM
              obtain rfl:WJ=WM:=(by injection e128)
              replace Lu:=eq_true Lu
              replace LM:=eq_true LM
              have GL:0≤(aD:Int):=oD
              have GU:aD < (fR.length:Int):=oD
              obtain ⟨WN,afB,agu,e129,DA,RA,Ri⟩:=cZ (Kd.ck az.out).2.2 aD GL GU
              obtain rfl:vM=WN:=(by injection e129)
              obtain ⟨ag2,aaF,aar,Qq⟩:=Kd.l6 az.out [] aD GL (by first|exact GU|exact oD|(have e_:=(Kd.ck az.out).1;omega))
              obtain ⟨akT,rfl,JO⟩:=aar
              have Dt:=Qq 0 _ rfl
              rw [Nat.add_zero,show ((Kd.slice 2 (Kd.int .i64))).sz=1 from rfl,Nat.mul_one] at Dt
              replace Dt:=Option.some.inj (Dt.symm.trans DA)
              rw [Dt] at JO
              have Vg:=k0 (show Kd.R (Kd.int .i64) 2 _ _ _ _ (ag fR aD) from JO)
              clear Dt JO
              have VD:=k0 DA
              clear Qq aaF
              have Im:=k0 Ri
              have af1:=k0 RA
              clear Ri RA
              replace GL:=eq_true GL
              replace GU:=eq_true GU
              have aW:=Option.some.inj (Dy.symm.trans DA)
              injection aW with aW aly c_
              subst aW
              subst c_
              clear aly
              have Lv:0≤(alR:Int):=oD
              have LN:alR < ((ag fR aD).length:Int):=oD
              obtain ⟨WO,e130,Sb⟩:=Kd.bS (by repeat (first|(with_reducible exact Im.out)|(with_reducible refine Kd.kM ?_ _)|(with_reducible refine Kd.alZ ?_ _)|(with_reducible refine Kd.j6 ?_)|exact Im.out)) alR Lv LN
              obtain rfl:Ca=WO:=(by injection e130)
              replace Lv:=eq_true Lv
              replace LN:=eq_true LN
              have LH:0≤(alR:Int):=oD
              have LY:(alR:Int) < (((ag fR eN).length:Int):Int):=oD
              obtain ⟨CI,ahn,Pb,PF,Z3,ahh,Nt⟩:=Kd.kT ER.out (by omega)
              (first|cases Pb|(injection Pb with aW aly c_;(first|subst aW|(injection aW with aW;subst aW));subst c_;clear aly))
              (first|simp only [add_plain] at KX|skip)
              have UU:=k0 PF
              have U1:=k0 Nt
              clear PF Z3 Nt
              (first|simp only [add_plain] at KY|skip)
              obtain ⟨acd,abh⟩:=Kd.js 0 ER.out (alR:Int) LH LY
              replace LH:=eq_true LH
              replace LY:=eq_true LY
              have abU:(eN:Int) < (fR.length:Int):=(by have h_:(eN:Int) < ((fR.length:Int):Int):=oD;first|exact h_|(have e_:=(Kd.ck az.out).1;omega)|simpa only [List.length_set,List.length_set] using h_)
              obtain ⟨akk,ag8,aaN,aaf,Qw,RK,P_⟩:=Kd.yN az.out [] (eN:Int) oD (by first|exact abU|(have e_:=(Kd.ck az.out).1;omega))
              obtain ⟨ak0,rfl,CF⟩:=aaf
              have F_:=Qw 0 _ rfl
              rw [Nat.add_zero,show ((Kd.slice 2 (Kd.int .i64))).sz=1 from rfl,Nat.mul_one] at F_
              replace F_:=Option.some.inj (F_.symm.trans Ix.out)
              subst F_
              clear Qw aaN
              replace CF:=(show Kd.R (Kd.int .i64) 2 _ _ _ _ (ag fR eN) from CF)
              have am9:=Kd.kr CF (alR:Int) (wrap64 (Int.tdiv (wrap64 ((wrap64 ((rd (ag fR eN) alR) * (rd (ag fR aD) aD))) - (wrap64 ((rd (ag fR eN) aD) * (rd (ag fR aD) alR))))) alk))
              have VG:=k0 (AW am9.2 Ix.out (AX (RK _ (CF.1 _ rfl)).2))
              rw [← V6.out] at am9
              have af':=k0 am9.1
              have Iu:=P_ am9.2 (fun k_ e_=>by injection e_ with e_;subst e_;exact CF.1 _ rfl) (x':=Mn) (Kd.amh am9.1)
              rw [← V7.out] at Iu
              have NJ:=k0 Iu
              clear am9 Iu P_ RK
              refine nT (n:=40) (S:=fun w'=>w'.cell? ⟨j8,0,none⟩=some (.int .i64 aD)∧w'.cell? (vM.add (eN).toNat)=some (.slice (some ⟨CI,0,none⟩) (ag fR eN).length Ja)∧w'.cell? (vM.add (eN).toNat)=some (.slice (some ⟨CI,0,none⟩) (ag fR eN).length Ja)∧w'.cell? ⟨CI,(alR).toNat,none⟩=some (.int .i64 (rd (ag fR eN) alR))∧w'.cell? (vM.add (aD).toNat)=some (.slice (some Ca) (ag fR aD).length OA)∧w'.cell? (Ca.add (aD).toNat)=some (.int .i64 (rd (ag fR aD) aD))∧w'.cell? (vM.add (eN).toNat)=some (.slice (some (⟨CI,0,none⟩:Addr)) (ag fR eN).length Ja)∧w'.cell? ⟨CI,(aD).toNat,none⟩=some (.int .i64 (rd (ag fR eN) aD))∧w'.cell? (vM.add (aD).toNat)=some (.slice (some Ca) (ag fR aD).length OA)∧w'.cell? (Ca.add (alR).toNat)=some (.int .i64 (rd (ag fR aD) alR))) (ds:=[39]) (ba 40 0) (by kernel_rfl) rfl rfl ⟨(av fT.out 0).trans rfl,Bp,Dx,KX,Dy,Sa,Dz,KY,DA,Sb⟩ (fun hHeld=>?_);refine rQ bq.aeU bq.an' (fun alc dG=>?_)
              generalize wr.drew=w54 at az fT HB U1 ER Vd Ve Vf Vg NJ Vv Ij Ik Il Im Ix VA VB VC VD VG abh Bp Dx KX Dy Sa Dz KY DA Sb acd hHeld ⊢
              refine pu 0 (some 75) (ba 40 1) alc (h:=?_)
              refine pu 1 (some 76) (ba 40 3) alc (h:=?_)
              refine pu 2 (some 77) (ba 40 7) alc (h:=?_)
              refine pu 4 (some 79) (ba 40 23) alc (h:=?_)
              refine pu 5 (some 80) (ba 40 55) alc (h:=?_)
              refine pu 6 (some 81) (ba 40 119) alc (h:=?_)
              refine pu 7 (some 82) (ba 40 247) alc (h:=?_)
              refine pu 9 (some 84) (ba 40 759) alc (h:=?_)
              refine pu 12 (some 87) (ba 40 4855) alc (h:=?_)
              refine pu 20 (some 95) (ba 40 1053431) alc (h:=?_)
              refine pu 21 (some 96) (ba 40 3150583) alc (h:=?_)
              refine pu 22 (some 97) (ba 40 7344887) alc (h:=?_)
              refine pu 27 (some 102) (ba 40 141562615) alc (h:=?_)
              refine pu 31 (some 106) (ba 40 2289046263) alc (h:=?_)
              refine pu 36 (some 111) (ba 40 71008522999) alc (h:=?_)
              refine ta 3 (some 78) (ba 40 71008523007) alc dG hHeld (hy:=Or.inl ⟨by rfl,by rintro w' ⟨s0,s1,s2,s3,s4,s5,s6,s7,s8,s9⟩;go_simp;with_reducible rfl⟩) (h:=?_)
              refine ta 8 (some 83) (ba 40 71008523263) alc dG hHeld (hy:=Or.inl ⟨by rfl,by rintro w' ⟨s0,s1,s2,s3,s4,s5,s6,s7,s8,s9⟩;go_simp;with_reducible rfl⟩) (h:=?_)
              refine pu 10 (some 85) (ba 40 71008524287) alc (h:=?_)
              refine ta 11 (some 86) (ba 40 71008526335) alc dG hHeld (hy:=Or.inl ⟨by rfl,by rintro w' ⟨s0,s1,s2,s3,s4,s5,s6,s7,s8,s9⟩;go_simp;with_reducible rfl⟩) (h:=?_)
              refine ta 13 (some 88) (ba 40 71008534527) alc dG hHeld (hy:=Or.inl ⟨by rfl,by rintro w' ⟨s0,s1,s2,s3,s4,s5,s6,s7,s8,s9⟩;go_simp;with_reducible rfl⟩) (h:=?_)
              refine pu 14 (some 89) (ba 40 71008550911) alc (h:=?_)
              refine ta 15 (some 90) (ba 40 71008583679) alc dG hHeld (hy:=Or.inl ⟨by rfl,by rintro w' ⟨s0,s1,s2,s3,s4,s5,s6,s7,s8,s9⟩;go_simp;with_reducible rfl⟩) (h:=?_)
              refine ta 16 (some 91) (ba 40 71008649215) alc dG hHeld (hy:=Or.inl ⟨by rfl,by rintro w' ⟨s0,s1,s2,s3,s4,s5,s6,s7,s8,s9⟩;go_simp;with_reducible rfl⟩) (h:=?_)
              refine pu 17 (some 92) (ba 40 71008780287) alc (h:=?_)
              refine ta 18 (some 93) (ba 40 71009042431) alc dG hHeld (hy:=Or.inl ⟨by rfl,by rintro w' ⟨s0,s1,s2,s3,s4,s5,s6,s7,s8,s9⟩;go_simp;with_reducible rfl⟩) (h:=?_)
              refine pu 19 (some 94) (ba 40 71009566719) alc (h:=?_)
              refine ta 23 (some 98) (ba 40 71017955327) alc dG hHeld (hy:=Or.inl ⟨by rfl,by rintro w' ⟨s0,s1,s2,s3,s4,s5,s6,s7,s8,s9⟩;go_simp;with_reducible rfl⟩) (h:=?_)
              refine ta 24 (some 99) (ba 40 71034732543) alc dG hHeld (hy:=Or.inl ⟨by rfl,by rintro w' ⟨s0,s1,s2,s3,s4,s5,s6,s7,s8,s9⟩;go_simp;with_reducible rfl⟩) (h:=?_)
              refine pu 25 (some 100) (ba 40 71068286975) alc (h:=?_)
              refine ta 26 (some 101) (ba 40 71135395839) alc dG hHeld (hy:=Or.inl ⟨by rfl,by rintro w' ⟨s0,s1,s2,s3,s4,s5,s6,s7,s8,s9⟩;go_simp;with_reducible rfl⟩) (h:=?_)
              refine ta 28 (some 103) (ba 40 71403831295) alc dG hHeld (hy:=Or.inl ⟨by rfl,by rintro w' ⟨s0,s1,s2,s3,s4,s5,s6,s7,s8,s9⟩;go_simp;with_reducible rfl⟩) (h:=?_)
              refine pu 29 (some 104) (ba 40 71940702207) alc (h:=?_)
              refine ta 30 (some 105) (ba 40 73014444031) alc dG hHeld (hy:=Or.inl ⟨by rfl,by rintro w' ⟨s0,s1,s2,s3,s4,s5,s6,s7,s8,s9⟩;go_simp;with_reducible rfl⟩) (h:=?_)
              refine pu 32 (some 107) (ba 40 77309411327) alc (h:=?_)
              refine ta 33 (some 108) (ba 40 85899345919) alc dG hHeld (hy:=Or.inl ⟨by rfl,by rintro w' ⟨s0,s1,s2,s3,s4,s5,s6,s7,s8,s9⟩;go_simp;with_reducible rfl⟩) (h:=?_)
              refine pu 34 (some 109) (ba 40 103079215103) alc (h:=?_)
              refine pu 35 (some 110) (ba 40 137438953471) alc (h:=?_)
              refine pu 37 (some 112) (ba 40 274877906943) alc (h:=?_)
              refine pu 38 (some 113) (ba 40 549755813887) alc (h:=?_)
              refine sF (i:=39) (N:=none) (ba 40 1099511627775) rfl rfl (lG alc.out (by kernel_rfl)) (by decide) (fun K hK=>?_)
              refine qa (w1:=?_) (by rfl) rfl ?_ ?_
              rotate_left;· go_simp;rfl
              refine hK.out _ _ ?_
              clear hK K
              refine nH (rz alc.out (by kernel_rfl)) ?_
              try go_wp2
              (try simp only [← al5])
              first|go_roundg k5|(simp only [← rG];go_roundg k5)
              case measure=>have:=aM.out;have:=bp.out;have:=Ak.out;have:=gI.out;have:=EN.out;omega
              case rel=>exact ⟨(an5),(wrap64 (alR+1)),rs,(by first|exact H'|(rw [rG];exact H')),⟨by have:=aM.out;have:=bp.out;have:=Ak.out;have:=gI.out;have:=EN.out;omega⟩,⟨by (try simp only [fL]);(try simp only [kE]);(try simp only [kX]);(try simp only [al5]);(with_reducible repeat (first|apply Kd.alN|apply Kd.ig|apply Kd.fI));exact NJ.out⟩,⟨by (try simp only [fL]);(try simp only [kE]);(try simp only [kX]);(try simp only [al5]);(with_reducible repeat (first|refine cm ?_ _|refine bJ ?_|refine alo ?_ _));refine gD ?_ (by have h_:=Kd.iG ER.out fT.out (by decide);intro e_;exact h_ (by rw [e_];rfl)) _;exact bk⟩,⟨by repeat (first|(with_reducible first|exact HB.out|apply bL|apply bX|apply bH|refine dI ?_ UU.out|refine dI ?_ HE.out)|exact HB.out)⟩⟩
             rw [if_pos c52] at H
             exact absurd H (by simp)
      rw [if_pos c17] at H
      have pF:=decide_eq_true c17
      clear c17
      obtain rfl:=Option.some.inj H
      go_wp2_with (first|((with_reducible refine cy (N:=8) rfl ?_);refine ec ?hg (N:=8) ?hd (cs:=#[.int .i64 0]) (t:=3) ?hr ?_;(case hd=>rfl);(case hg=>rfl);(case hr=>first|(go_simp;done)|(go_simp;rfl));intro j8 hg oO aJ hb;replace az:=k0 (Kd.jt (aS az.out) hb);have fT:=k0 (aJ);have anJ:=k0 ((by rw [hg];exact (aU bl):w.heap.size≤j8));have HE:=anJ;replace HB:=k0 (aG bl hb);clear hb aJ hg;have sk:oO.cell? ⟨j8,0,none⟩=some (.int .i64 0):=(av fT.out 0).trans rfl;have sw:=ale fT.out 0)|((with_reducible refine kW (t:=3) (p:=8) rfl ?_);refine alT (t:=3) (p:=8) (v:=?ak6) (w1:=(oO.setCell ⟨j8,0,none⟩ (.int .i64 aD))) ?hg ?ho ?hn ?hr ?_;(case ho=>rfl);(case hg=>rfl);(case hn=>rfl);(case hr=>first|(go_simp;done)|(go_simp;rfl));intro pO hw;have aK:ak (Kd.S (Kd.slice 2 (Kd.int .i64)) 28 pO w.heap.size (fun _=>True) (.slice jI ald.length gT) ald):=⟨(by rw [hw];exact (by (with_reducible repeat (first|apply Kd.alN|apply Kd.ig|apply Kd.fI));exact Kd.iM (Kd.am_ (p:=⟨j8,0,none⟩) (Kd.E_ az.out fT.out (by decide)) (fun _ hk=>hk.2) (.int .i64 aD)) (fun _ hk=>trivial)))⟩;have alf:ak (pO.heap[j8]?=some (.cells #[.int .i64 aD] 3 (0,0))):=⟨(by rw [hw];exact (by (with_reducible repeat (first|refine cm ?_ _|refine bJ ?_|refine alo ?_ _));refine pE (cs:=#[.int .i64 0]) ?_ 0 _ rfl;exact bk))⟩;have alj:ak (Below w.heap.size w pO):=⟨(by rw [hw];exact bl)⟩;clear hw;clear az;clear fT;clear HB;have az:=aK;have fT:=alf;have HB:=alj;clear aK alf alj;have FM:pO.cell? ⟨j8,0,none⟩=some (.int .i64 aD):=(av fT.out 0).trans rfl;have FQ:=ale fT.out 0;have wS:(aD:Int)≤((ald.length:Int):Int):=oD;obtain ⟨i022,Q7,_,R3,_⟩:=info_parts yb;have KR:ald.length≤gT:=(Kd.ck az.out).2.1;have PN:Kd.C (Kd.slice 2 (Kd.int .i64)) _ jI ald.length ald:=(Kd.ck az.out).2.2;have GN:(0:Int)≤(aD:Int):=oD;have aaR:=OV (P:=Try.prog) 22 28 .i64 Try.underlying22 Q7 1 R3 jI ald.length gT aD GN wS;have Dd:=Kd.MQ (m:=(aD:Int).toNat) (c:=gT) PN (by omega) KR;obtain ⟨Mt,hA22⟩:∃ A1,A1=(if gT=(aD:Int).toNat then jI else (jI:Option Addr).map (·.add ((aD:Int).toNat * 1))):=⟨_,rfl⟩;obtain ⟨c22,Ka⟩:∃ c1,c1=gT - (aD:Int).toNat:=⟨_,rfl⟩;have Gh:nh.length=ald.length - (aD:Int).toNat:=(by rw [Au.out,List.length_drop]<;>omega);rw [show (ald).drop (aD:Int).toNat=nh from Au.out.symm] at Dd;replace Dd:Kd.C (Kd.slice 2 (Kd.int .i64)) _ Mt nh.length nh:=(by rw [hA22];exact Dd);rw [← Gh,← hA22,← Ka] at aaR;have al_:=k0 Dd;have anN:=k0 (show nh.length≤c22 from by rw [Gh,Ka];exact Nat.sub_le_sub_right KR _);clear Dd PN KR Q7 R3 Ka;have age:=k0 Gh;have aga:=k0 hA22;clear Gh hA22;have agc:=k0 (show (aD:Int).toNat≤ald.length from by omega);replace wS:=eq_true wS)|((with_reducible refine fo (f:=220) rfl ?_);refine fq (some 34) rfl rfl Try.func220 (by kernel_rfl) rfl #[.slice Mt nh.length c22,.func (.func 238) #[] #[.pointer (some ⟨j8,0,none⟩)]] rfl gm ?_;(with_reducible refine (pP.calls k2 _ _ nh aD t116 _ ?bt ?bu ?dZ qg.out).mono ?_);(case bt=>exact aC (by repeat (first|(with_reducible exact al_.out)|(with_reducible refine Kd.kM ?_ _)|(with_reducible refine Kd.alZ ?_ _)|(with_reducible refine Kd.j6 ?_)|exact al_.out)));(case bu=>exact anN.out);(case dZ=>exact by exact bk);rintro e vp ⟨rfl,hb⟩;refine ⟨_,rfl,?_⟩;replace az:=k0 (Kd.jt (aS az.out) hb);replace fT:=k0 (alg (g:=j8) (o:=.cells #[.int .i64 aD] 3 (0,0)) bk hb);replace al_:=k0 (Kd.bI (by repeat (first|(with_reducible exact al_.out)|(with_reducible refine Kd.kM ?_ _)|(with_reducible refine Kd.alZ ?_ _)|(with_reducible refine Kd.j6 ?_)|exact al_.out)) hb);replace HB:=k0 (aG bl hb);(try clear hb)))
      go_ret
      exact ⟨by first|rfl|(simp [bA,bB]<;>rfl)|(simp [*,bA,bB]<;>rfl),bl⟩
   rw [if_pos c4] at H
   have eV:=decide_eq_true c4
   clear c4
   replace H:=iS H;obtain ⟨c5,H⟩:=H
   have jb:=decide_eq_true c5
   clear c5
   replace H:=iS H;obtain ⟨c6,H⟩:=H
   have jk:=decide_eq_true c6
   clear c6
   replace H:=Option.bind_eq_some_iff.mp H
   obtain ⟨t105,amI,H⟩:=H
   replace H:(if bE.length < 5864062014805 then (bq.l0 k1 (bE ++ [t105]) 1 1 l0 (l0.length:Int) (wrap64 (rR+1))) else (none))=some r:=H
   have A7:=k0 amI
   clear amI
   replace H:=iS H;obtain ⟨c8,H⟩:=H
   have IB:=k0 c8
   clear c8
   obtain ⟨mG,ij⟩:∃ y_:List (List Int),y_=(bE ++ [t105]):=⟨_,rfl⟩
   replace H:(bq.l0 k1 mG 1 1 l0 (l0.length:Int) (wrap64 (rR+1)))=some r:=by first|(rw [ij];with_reducible exact H)|(have ax:=(Option.bind_some _ _).symm.trans H;rw [ij];with_reducible exact ax)|(have ax:=(Option.bind_some _ _).symm.trans H;with_reducible exact ax)|with_reducible exact H|(rw [ij];exact H)|exact H
   have amn:=k0 ij
   clear ij
   have H':=k0 H
   clear H
   have cV:0≤(rR:Int):=oD
   have cW:rR < (l0.length:Int):=oD
   obtain ⟨ku,vv,vP,e104,cN,lp,lg⟩:=cZ eA.out rR cV cW
   cases e104
   replace cN:=hbc HB cN
   have rX:=k0 lg
   have vE:=k0 lp
   clear lg lp
   replace cV:=eq_true cV
   replace cW:=eq_true cW
   go_wp2_with (first|((with_reducible refine fo (f:=151) rfl ?_);refine fq (some 21) rfl rfl Try.func151 (by kernel_rfl) rfl #[.slice vv (ag l0 rR).length vP] rfl gm ?_;(with_reducible refine (oa.calls _ _ (ag l0 rR) t105 _ ?bt ?bu A7.out).mono ?_);(case bt=>exact aC (Kd.bI rX.out HB.out));(case bu=>exact vE.out);rintro e w9 ⟨gj,rfl,aY,hb⟩;refine ⟨_,rfl,?_⟩;replace az:=k0 (Kd.qw (aS az.out) (Kd.dV aY) hb);have cO:=k0 (Kd.d_ aY (aU bl));replace HB:=k0 (aG bl hb);(try clear hb);(try clear aY);obtain ⟨amJ,xB,am0⟩:=Kd.fh cO.out;subst am0)|((with_reducible refine pI (b:=.append) (xs:=#[.tmp 19,.tmp 22]) rfl ?_);at_builtin;refine Kd.B6 (Kd.slice 2 (Kd.int .i64)) (w0:=w) w.heap.size rfl (.tmp 19) (.tmp 22) 22 28 (.slice none 0 0) 24 rfl Try.underlying22 yb rfl (by decide) (by omega) u3 bE t105 [.slice amJ t105.length xB] (fun _=>True) (fun k_=>some k_=(.slice amJ t105.length xB:Value).ownBlock) rfl rfl ?aP (fun k_ b8=>((Kd.bx (ok':=fun k_=>((fun _=>True)) k_∧some k_ ≠ (u3:Value).ownBlock) (Kd.pq (cO.out) (Kd.l7 az.out) (by decide)) (fun k_ hk=>⟨trivial,hk.2⟩))).1 k_ b8.symm) ?aF ?aO ?aB ?aS ?aL ?_;(case aP=>exact Kd.amh (Kd.bx (Kd.ami rfl (Kd.bx (ok':=fun k_=>((fun _=>True)) k_∧some k_ ≠ (u3:Value).ownBlock) (Kd.pq (cO.out) (Kd.l7 az.out) (by decide)) (fun k_ hk=>⟨trivial,hk.2⟩))) (fun _ h_=>h_)));(case aB=>exact bl);(case aF=>exact (fun _ _=>trivial));(case aO=>exact (by (with_reducible repeat (first|apply Kd.alN|apply Kd.ig|apply Kd.fI));exact Kd.iM az.out (fun k_ hk=>⟨trivial,fun e_=>hk.2 e_⟩)));(case aS=>exact (aU bl));(case aL=>have:=IB.out;omega);intro v109 fJ ho hb hg cz;rw [← amn.out] at ho;have aK:=k0 (hb);have alf:=k0 (ho);clear HB;clear az;clear cO;have HB:=aK;have Al:=alf;clear aK alf;clear ho hb hg cz))
   first|go_roundg k1|(simp only [← rG];go_roundg k1)
   case measure=>have:=aM.out;omega
   case rel=>exact ⟨(mG),(wrap64 (rR+1)),rs,(by first|exact H'|(rw [rG];exact H')),⟨by have:=aM.out;omega⟩,⟨aS (Al.out)⟩,⟨bl⟩⟩
end Go.Proofs.Ytoebojnhchocaaa.B
/- Set with little white space, by a program. -/
