/- The functions that one law reaches, each as a Lean function, and that Go's call comes to what it says. Condition of each: that the Lean function answers (is not none). -/
import Derived.Test.YtoebojnhchocaaaCx0
import Derived.Test.YtoebojnhchocaaaCx11
import Derived.Test.YtoebojnhchocaaaCx13
namespace Go.Proofs.Ytoebojnhchocaaa.C
open Go.RowKit Go.Proofs.bI.en Go.Proofs.bI.je Go.Proofs.bI.jC
attribute [local go_sem] max2_int min2_int max_two min_two max_three min_three max_four min_four   -- for this text's walks alone
set_option linter.unusedVariables false
set_option linter.unusedSimpArgs false
/-! ### F223: function 223 -/
mutual
def bw.l0 : Nat → List (List Int) → Int → Int → List (List Int) → Int → Int → Option (Int)
 | 0,_,_,_,_,_,_=>none
 | k+1,x3,x4,x5,gH,ak1,gx=>if gx < ak1 then (if 0≤gx then (if gx < (gH.length:Int) then ((nW.f (ah gH gx)).bind fun t105=>(if x3.length < 5864062014805 then (bw.l0 k (x3 ++ [t105]) x4 x5 gH ak1 (wrap64 (gx+1))) else (none))) else (none)) else (none)) else (bw.l1 k x3 x4 x5 (x3.length:Int) 0)
def bw.l1 : Nat → List (List Int) → Int → Int → Int → Int → Option (Int)
 | 0,_,_,_,_,_=>none
 | k+1,x3,x4,x5,fS,fT=>if fT < fS then (if 0≤fT then (if fT≤(x3.length:Int) then ((oZ.f k (x3.drop (fT:Int).toNat) fT).bind fun t116=>(if t116 < 0 then (some 0) else (if t116 > 0 then (if 0≤(wrap64 (fT+t116)) then (if (wrap64 (fT+t116)) < (x3.length:Int) then (if fT < (x3.length:Int) then (bw.j2 k (swp x3 fT (wrap64 (fT+t116))) (wrap64 (-x4)) x5 fS fT fT) else (none)) else (none)) else (none)) else (bw.j2 k x3 x4 x5 fS fT fT)))) else (none)) else (none)) else (some (wrap64 (x4 * x5)))
def bw.j2 : Nat → List (List Int) → Int → Int → Int → Int → Int → Option (Int)
 | 0,_,_,_,_,_,_=>none
 | k+1,x3,x4,x5,fS,fT,kV=>bw.l2 k x3 x4 x5 (wrap64 (kV+1)) fS fT kV
def bw.l2 : Nat → List (List Int) → Int → Int → Int → Int → Int → Int → Option (Int)
 | 0,_,_,_,_,_,_,_=>none
 | k+1,x3,x4,x5,fc,fS,fT,kV=>if fc < (x3.length:Int) then (bw.l3 k x3 x4 x5 fc (wrap64 (kV+1)) fS fT kV) else (if 0≤kV then (if kV < (x3.length:Int) then (if kV < ((ah x3 kV).length:Int) then (bw.l1 k x3 x4 (rd (ah x3 kV) kV) fS (wrap64 (fT+1))) else (none)) else (none)) else (none))
def bw.l3 : Nat → List (List Int) → Int → Int → Int → Int → Int → Int → Int → Option (Int)
 | 0,_,_,_,_,_,_,_,_=>none
 | k+1,x3,x4,x5,fc,fe,fS,fT,kV=>if fe < (x3.length:Int) then (if 0≤fc then (if fc < (x3.length:Int) then (if 0≤fe then (if fe < ((ah x3 fc).length:Int) then (if 0≤kV then (if kV < (x3.length:Int) then (if kV < ((ah x3 kV).length:Int) then (if kV < ((ah x3 fc).length:Int) then (if fe < ((ah x3 kV).length:Int) then (if x5=0 then (none) else (bw.l3 k (x3.set (fc:Int).toNat ((ah x3 fc).set (fe:Int).toNat (wrap64 (Int.tdiv (wrap64 ((wrap64 ((rd (ah x3 fc) fe) * (rd (ah x3 kV) kV))) - (wrap64 ((rd (ah x3 fc) kV) * (rd (ah x3 kV) fe))))) x5)))) x4 x5 fc (wrap64 (fe+1)) fS fT kV)) else (none)) else (none)) else (none)) else (none)) else (none)) else (none)) else (none)) else (none)) else (none)) else (bw.l2 k x3 x4 x5 (wrap64 (fc+1)) fS fT kV)
end
def bw.f (k:Nat) (l0:List (List Int)):Option (Int):=bw.l0 k (([]:List (List Int))) 1 1 l0 (l0.length:Int) 0
theorem bw.b8 : ∀ k, (∀ y0 y1 y2 y3 y4 y5, aj (bw.l0 k y0 y1 y2 y3 y4 y5) (bw.l0 (k + 1) y0 y1 y2 y3 y4 y5)) ∧ (∀ y0 y1 y2 y3 y4, aj (bw.l1 k y0 y1 y2 y3 y4) (bw.l1 (k + 1) y0 y1 y2 y3 y4)) ∧ (∀ y0 y1 y2 y3 y4 y5, aj (bw.j2 k y0 y1 y2 y3 y4 y5) (bw.j2 (k + 1) y0 y1 y2 y3 y4 y5)) ∧ (∀ y0 y1 y2 y3 y4 y5 y6, aj (bw.l2 k y0 y1 y2 y3 y4 y5 y6) (bw.l2 (k + 1) y0 y1 y2 y3 y4 y5 y6)) ∧ (∀ y0 y1 y2 y3 y4 y5 y6 y7, aj (bw.l3 k y0 y1 y2 y3 y4 y5 y6 y7) (bw.l3 (k + 1) y0 y1 y2 y3 y4 y5 y6 y7))
 | 0=>⟨fun _ _ _ _ _ _ r h=>by simp [bw.l0] at h,fun _ _ _ _ _ r h=>by simp [bw.l1] at h,fun _ _ _ _ _ _ r h=>by simp [bw.j2] at h,fun _ _ _ _ _ _ _ r h=>by simp [bw.l2] at h,fun _ _ _ _ _ _ _ _ r h=>by simp [bw.l3] at h⟩
 | k+1=>by
  obtain ⟨akk,ih1,ih2,ih3,ih4⟩:=bw.b8 k
  refine ⟨?_, ?_, ?_, ?_, ?_⟩ <;> intros <;> (first | unfold bw.l0 | unfold bw.l1 | unfold bw.j2 | unfold bw.l2 | unfold bw.l3) <;> repeat' first
   | (with_reducible first|exact akk _ _ _ _ _ _|exact ih1 _ _ _ _ _|exact ih2 _ _ _ _ _ _|exact ih3 _ _ _ _ _ _ _|exact ih4 _ _ _ _ _ _ _ _|exact oZ.mono _ _ _|exact aj.refl _|exact aj.none _|refine aj.ite ?_ ?_|refine aj.bind ?_ (fun _=>?_))
   | exact akk _ _ _ _ _ _|exact ih1 _ _ _ _ _|exact ih2 _ _ _ _ _ _|exact ih3 _ _ _ _ _ _ _|exact ih4 _ _ _ _ _ _ _ _|exact oZ.mono _ _ _|exact aj.none _|refine aj.ite ?_ ?_|refine aj.bind ?_ (fun _=>?_)
theorem bw.mono:∀ a0 k,aj (bw.f k a0) (bw.f (k+1) a0):=by
 intro a0 k
 obtain ⟨akk,ih1,ih2,ih3,ih4⟩:=bw.b8 k
 unfold bw.f
 repeat' first
  | (with_reducible first|exact akk _ _ _ _ _ _|exact ih1 _ _ _ _ _|exact ih2 _ _ _ _ _ _|exact ih3 _ _ _ _ _ _ _|exact ih4 _ _ _ _ _ _ _ _|exact oZ.mono _ _ _|exact aj.refl _|exact aj.none _|refine aj.ite ?_ ?_|refine aj.bind ?_ (fun _=>?_))
  | exact akk _ _ _ _ _ _|exact ih1 _ _ _ _ _|exact ih2 _ _ _ _ _ _|exact ih3 _ _ _ _ _ _ _|exact ih4 _ _ _ _ _ _ _ _|exact oZ.mono _ _ _|exact aj.none _|refine aj.ite ?_ ?_|refine aj.bind ?_ (fun _=>?_)
def bw.amT:Bool × List (List Nat × List Nat):=(true,[([],[]),([],[]),([],[]),([],[]),([],[]),([3,4],[3,4]),([],[]),([],[]),([],[]),([7,8],[7,8]),([6,9],[6,9]),([10],[10]),([],[]),([],[]),([12,13],[12,13]),([14],[14]),([],[]),([16],[16]),([0,1,0,1,6,7,8,9,10,11,15],[0,1]),([18,11,0,1,6,7,8,9,10,11,15],[11,18]),([2,5,0,1,2,3,4,5,6,7,8,9,10,11,12,13,14,15,18,19],[2,5]),([20,15,19,0,1,2,3,4,5,6,7,8,9,10,11,12,13,14,15,18,19],[15,20]),([17,21,0,1,2,3,4,5,6,7,8,9,10,11,12,13,14,15,16,17,18,19,20,21],[16,17])])
def bw.Tj:List Nat:=[0,0,0,0,0,24,0,0,0,384,960,1984,0,0,12288,28672,0,65536,65475,327619,851967,1900543,4194303]
theorem bw.aeg:gF .any (opsOf Try.f223 14)=bw.amT:=by kernel_rfl
theorem bw.VW:akZ bw.amT.2 bw.Tj=true:=by kernel_rfl
def bw.Na:Bool × List (List Nat × List Nat):=(true,[([],[]),([],[]),([0,1],[0,1]),([2],[2]),([],[]),([],[]),([],[]),([5,6],[5,6]),([7],[7]),([],[]),([8,9],[8,9]),([10],[10]),([],[]),([],[]),([12,13],[12,13]),([14],[14]),([],[]),([15,16],[15,16]),([17],[17]),([11,18],[11,18]),([],[]),([],[]),([20,21],[20,21]),([22],[22]),([],[]),([23,24],[23,24]),([25],[25]),([],[]),([],[]),([27,28],[27,28]),([29],[29]),([],[]),([30,31],[30,31]),([32],[32]),([26,33],[26,33]),([19,34],[19,34]),([],[]),([35,36],[35,36]),([3,4,0,1,2,3,4,5,6,7,8,9,10,11,12,13,14,15,16,17,18,19,20,21,22,23,24,25,26,27,28,29,30,31,32,33,34,35,36,37],[3,4]),([38,37,0,1,2,3,4,5,6,7,8,9,10,11,12,13,14,15,16,17,18,19,20,21,22,23,24,25,26,27,28,29,30,31,32,33,34,35,36,37],[37,38])])
def bw.Tk:List Nat:=[0,0,3,7,0,0,0,96,224,0,992,2016,0,0,12288,28672,0,126976,258048,524256,0,0,3145728,7340032,0,32505856,66060288,0,0,402653184,939524096,0,4160749568,8455716864,17178820608,34359738336,0,137438953440,274877906943,549755813887]
theorem bw.aeh:gF .any (opsOf Try.f223 21)=bw.Na:=by kernel_rfl
theorem bw.VX:akZ bw.Na.2 bw.Tk=true:=by kernel_rfl
def bw.Nb:Bool × List (List Nat × List Nat):=(true,[([],[]),([],[]),([0,1],[0,1]),([2],[2]),([],[]),([3,4],[3,4]),([5],[5]),([6,0,1,2,3,4,5,6],[6])])
def bw.Tl:List Nat:=[0,0,3,7,0,31,63,127]
theorem bw.aei:gF .any (opsOf Try.f223 22)=bw.Nb:=by kernel_rfl
theorem bw.VY:akZ bw.Nb.2 bw.Tl=true:=by kernel_rfl
set_option maxHeartbeats 8000000 in
set_option maxRecDepth 100000 in
theorem bw.calls (k : Nat) (A0 : Option Addr) (c0 : Nat) (l0 : List (List Int)) (r : Int) (w : World) (dB : Kd.C (Kd.slice 2 (Kd.int .i64)) w A0 l0.length l0) (hc0 : l0.length ≤ c0) (h : bw.f k l0 = some r) :
  Calls Try.prog 223 #[.slice A0 l0.length c0] w fun e w'=>e=.returned (.int .i64 r)∧Below w.heap.size w w':=by
 have fj:=k0 dB
 have ki:=k0 hc0
 clear dB hc0
 have HB:=k0 (Below.refl w.heap.size w)
 have H:(bw.l0 k (([]:List (List Int))) 1 1 l0 (l0.length:Int) 0)=some r:=h
 clear h
 obtain ⟨jz,akD⟩:∃ y_:List (List Int),y_=(([]:List (List Int))):=⟨_,rfl⟩
 replace H:(bw.l0 k jz 1 1 l0 (l0.length:Int) 0)=some r:=by first|(rw [akD];with_reducible exact H)|(have ay:=(Option.bind_some _ _).symm.trans H;rw [akD];with_reducible exact ay)|(have ay:=(Option.bind_some _ _).symm.trans H;with_reducible exact ay)|with_reducible exact H|(rw [akD];exact H)|exact H
 have mg:=k0 akD
 clear akD
 have H':=k0 H
 clear H
 go_enter Try.func223,Try.ntmps223
 go_wp2_with (first|((with_reducible refine cj (N:=12) rfl ?_);refine Kd.Bn (Kd.slice 2 (Kd.int .i64)) _ 28 ?hg (N:=12) ?hd (xs:=([]:List (List Int))) (inner:=[]) (ok:=fun _=>True) (cA:=fun _=>True) ?hr ?hp (fun _ hk=>hk) trivial (Below.refl _ _) (Nat.le_refl _) (by simp) ?_;(case hd=>rfl);(case hg=>rfl);(case hr=>first|(go_simp;done)|(go_simp;rfl));(case hp=>exact (bS.none _ _));intro l6 w2 sZ hb eB eC;clear eB eC;(first|rw [← mg.out] at sZ|(simp only [Int.reduceToNat] at sZ;rw [← mg.out] at sZ));have kN:=k0 (Kd.ak0 sZ (aU bl));replace HB:=k0 (aI bl hb);clear hb sZ))
 go_loopg [3,15] k (fun kq v3 Ld w'=>∃ (bD:List (List Int)) (ak_:Int),Ld=.int .i64 ak_∧au (bw.l0 kq bD 1 1 l0 (l0.length:Int) ak_=some r)∧au (kq≤k)∧au (Kd.S (Kd.slice 2 (Kd.int .i64)) 28 w' w.heap.size (fun _=>True) v3 bD)∧au (Below w.heap.size w w'))
 case atStart=>exact ⟨(jz),(0),rs,H',⟨Nat.le_refl _⟩,⟨aS (kN.out)⟩,⟨bl⟩⟩
 case round =>
  clear H'
  obtain ⟨bD,ak_,rfl,HA,akl,az,HB⟩:=hrel
  cases gk with
  | zero=>exact absurd HA.out (by simp [bw.l0])
  | succ k1 =>
   have H:=HA.out
   clear HA
   simp only [bw.l0] at H
   by_cases c4:ak_ < (l0.length:Int)
   case neg =>
    rw [if_neg c4] at H
    have eA:decide (ak_ < (l0.length:Int))=false:=decide_eq_false c4
    clear c4
    have H':=k0 H
    clear H
    obtain ⟨ke,akK,yc⟩:=Kd.oK az.out
    subst yc
    go_wp2
    go_loopg [4,5,27] k1 (fun kq v4 v5 DN w'=>∃ (aE:List (List Int)) (tK:Int) (ako:Int) (akg:Int),v4=.int .i64 tK∧v5=.int .i64 ako∧DN=.int .i64 akg∧au (bw.l1 kq aE tK ako (bD.length:Int) akg=some r)∧au (kq≤k1)∧au (Kd.S (Kd.slice 2 (Kd.int .i64)) 28 w' w.heap.size (fun _=>True) (.slice ke bD.length akK) aE)∧au (Below w.heap.size w w'))
    case atStart=>exact ⟨(bD),(1),(1),(0),rs,rs,rs,H',⟨Nat.le_refl _⟩,⟨aS (az.out)⟩,⟨bl⟩⟩
    case round =>
     clear H'
     (try clear c4);(try clear eA);(try clear c5);(try clear iW);(try clear c6);(try clear akJ);(try clear c8);(try clear cM);(try clear cS);(try clear cT)
     obtain ⟨aE,tK,ako,akg,rfl,rfl,rfl,HA,bz,az,HB⟩:=hrel
     have fE:=(Kd.bY az.out).1
     rw [fE] at az
     (try simp only [fE])
     cases gk with
     | zero=>exact absurd HA.out (by simp [bw.l1])
     | succ k2 =>
      have H:=HA.out
      clear HA
      simp only [bw.l1] at H
      by_cases c13:akg < (bD.length:Int)
      case neg =>
       rw [if_neg c13] at H
       have kQ:decide (akg < (bD.length:Int))=false:=decide_eq_false c13
       (try simp only [fE] at kQ)
       clear c13
       obtain rfl:=Option.some.inj H
       go_wp2
       go_ret
       exact ⟨by first|rfl|(simp [bq,bt]<;>rfl)|(simp [*,bq,bt]<;>rfl),bl⟩
      rw [if_pos c13] at H
      have kQ:=decide_eq_true c13
      (try simp only [fE] at kQ)
      clear c13
      replace H:=iS H;obtain ⟨c14,H⟩:=H
      have ku:=eq_true c14
      have z6:=decide_eq_true c14
      clear c14
      replace H:=iS H;obtain ⟨c15,H⟩:=H
      have kR:=eq_true c15
      have rH:=decide_eq_true c15
      (try simp only [fE] at rH)
      clear c15
      obtain ⟨nA,alq⟩:∃ y_:List (List Int),y_=(aE.drop (akg:Int).toNat):=⟨_,rfl⟩
      replace H:((oZ.f k2 nA akg).bind fun t116=>(if t116 < 0 then (some 0) else (if t116 > 0 then (if 0≤(wrap64 (akg+t116)) then (if (wrap64 (akg+t116)) < (aE.length:Int) then (if akg < (aE.length:Int) then (bw.j2 k2 (swp aE akg (wrap64 (akg+t116))) (wrap64 (-tK)) ako (bD.length:Int) akg akg) else (none)) else (none)) else (none)) else (bw.j2 k2 aE tK ako (bD.length:Int) akg akg))))=some r:=by first|(rw [alq];with_reducible exact H)|(have ay:=(Option.bind_some _ _).symm.trans H;rw [alq];with_reducible exact ay)|(have ay:=(Option.bind_some _ _).symm.trans H;with_reducible exact ay)|with_reducible exact H|(rw [alq];exact H)|exact H
      have zM:=k0 alq
      clear alq
      replace H:=Option.bind_eq_some_iff.mp H
      obtain ⟨t116,pU,H⟩:=H
      replace H:(if t116 < 0 then (some 0) else (if t116 > 0 then (if 0≤(wrap64 (akg+t116)) then (if (wrap64 (akg+t116)) < (aE.length:Int) then (if akg < (aE.length:Int) then (bw.j2 k2 (swp aE akg (wrap64 (akg+t116))) (wrap64 (-tK)) ako (bD.length:Int) akg akg) else (none)) else (none)) else (none)) else (bw.j2 k2 aE tK ako (bD.length:Int) akg akg)))=some r:=H
      have oF:=k0 pU
      clear pU
      by_cases c17:t116 < 0
      case neg =>
       rw [if_neg c17] at H
       have oN:decide (t116 < 0)=false:=decide_eq_false c17
       clear c17
       have GS:=k0 H
       clear H
       go_upto_if 38 with (first|((with_reducible refine cj (N:=8) rfl ?_);refine dJ ?hg (N:=8) ?hd (cs:=#[.int .i64 0]) (t:=3) ?hr ?_;(case hd=>rfl);(case hg=>rfl);(case hr=>first|(go_simp;done)|(go_simp;rfl));intro akR hg Gi aK hb;replace az:=k0 (Kd.akP (aS az.out) hb);have fN:=k0 (aK);have GL:=k0 ((by rw [hg];exact (aU bl):w.heap.size≤akR));have GJ:=GL;replace HB:=k0 (aI bl hb);clear hb aK hg;have Jq:Gi.cell? ⟨akR,0,none⟩=some (.int .i64 0):=(av fN.out 0).trans rfl;have JF:=aH fN.out 0)|((with_reducible refine lf (t:=3) (p:=8) rfl ?_);refine lq (t:=3) (p:=8) (v:=?aj') (w1:=(Gi.setCell ⟨akR,0,none⟩ (.int .i64 akg))) ?hg ?ho ?hn ?hr ?_;(case ho=>rfl);(case hg=>rfl);(case hn=>rfl);(case hr=>first|(go_simp;done)|(go_simp;rfl));intro AU hw;have akf:au (Kd.S (Kd.slice 2 (Kd.int .i64)) 28 AU w.heap.size (fun _=>True) (.slice ke aE.length akK) aE):=⟨(by rw [hw];exact (by (with_reducible repeat (first|apply Kd.gI|apply Kd.gJ|apply Kd.eT));exact Kd.iK (Kd.tW (p:=⟨akR,0,none⟩) (Kd.zV az.out fN.out (by decide)) (fun _ hk=>hk.2) (.int .i64 akg)) (fun _ hk=>trivial)))⟩;have aD:au (AU.heap[akR]?=some (.cells #[.int .i64 akg] 3 (0,0))):=⟨(by rw [hw];exact (by (with_reducible repeat (first|refine ee ?_ _|refine ct ?_|refine dX ?_ _));refine nG (cs:=#[.int .i64 0]) ?_ 0 _ rfl;exact bk))⟩;have aJ:au (Below w.heap.size w AU):=⟨(by rw [hw];exact bl)⟩;clear hw;clear az;clear fN;clear HB;have az:=akf;have fN:=aD;have HB:=aJ;clear akf aD aJ;have Cl:AU.cell? ⟨akR,0,none⟩=some (.int .i64 akg):=(av fN.out 0).trans rfl;have Ct:=aH fN.out 0;have oA:(akg:Int)≤((aE.length:Int):Int):=oD;obtain ⟨i029,P7,_,QO,_⟩:=info_parts xo;have JY:aE.length≤akK:=(Kd.bY az.out).2.1;have OG:Kd.C (Kd.slice 2 (Kd.int .i64)) _ ke aE.length aE:=(Kd.bY az.out).2.2;have F3:(0:Int)≤(akg:Int):=oD;have Z_:=NS (P:=Try.prog) 22 28 .i64 Try.underlying22 P7 1 QO ke aE.length akK akg F3 oA;have CI:=Kd.L4 (m:=(akg:Int).toNat) (c:=akK) OG (by omega) JY;obtain ⟨DZ,hA29⟩:∃ A1,A1=(if akK=(akg:Int).toNat then ke else (ke:Option Addr).map (·.add ((akg:Int).toNat * 1))):=⟨_,rfl⟩;obtain ⟨c29,Jg⟩:∃ c1,c1=akK - (akg:Int).toNat:=⟨_,rfl⟩;have Fz:nA.length=aE.length - (akg:Int).toNat:=(by rw [zM.out,List.length_drop]<;>omega);rw [show (aE).drop (akg:Int).toNat=nA from zM.out.symm] at CI;replace CI:Kd.C (Kd.slice 2 (Kd.int .i64)) _ DZ nA.length nA:=(by rw [hA29];exact CI);rw [← Fz,← hA29,← Jg] at Z_;have p5:=k0 CI;have amy:=k0 (show nA.length≤c29 from by rw [Fz,Jg];exact Nat.sub_le_sub_right JY _);clear CI OG JY P7 QO Jg;have afH:=k0 Fz;have afD:=k0 hA29;clear Fz hA29;have afF:=k0 (show (akg:Int).toNat≤aE.length from by omega);replace oA:=eq_true oA)|((with_reducible refine cZ (f:=220) rfl ?_);refine c_ (some 34) rfl rfl Try.func220 (by kernel_rfl) rfl #[.slice DZ nA.length c29,.func (.func 238) #[] #[.pointer (some ⟨akR,0,none⟩)]] rfl gm ?_;(with_reducible refine (oZ.calls k2 _ _ nA akg t116 _ ?akn ?aT ?cn oF.out).mono ?_);(case akn=>exact aC (by repeat (first|(with_reducible exact p5.out)|(with_reducible refine Kd.kK ?_ _)|(with_reducible refine Kd.kY ?_ _)|(with_reducible refine Kd.jY ?_)|exact p5.out)));(case aT=>exact amy.out);(case cn=>exact by exact bk);rintro e w30 ⟨rfl,hb⟩;refine ⟨_,rfl,?_⟩;replace az:=k0 (Kd.akP (aS az.out) hb);replace fN:=k0 (akj (g:=akR) (o:=.cells #[.int .i64 akg] 3 (0,0)) bk hb);replace p5:=k0 (Kd.bA (by repeat (first|(with_reducible exact p5.out)|(with_reducible refine Kd.kK ?_ _)|(with_reducible refine Kd.kY ?_ _)|(with_reducible refine Kd.jY ?_)|exact p5.out)) hb);replace HB:=k0 (aI bl hb);(try clear hb)))
       (try simp only [Act.put,zI,zZ,zS])
       go_cut [4] (fun v4 wc=>∃ (kq:Nat) (DR:List (List Int)) (xH:Int),v4=.int .i64 xH∧au (bw.j2 kq DR xH ako (bD.length:Int) akg akg=some r)∧au (kq≤k2)∧au (Kd.S (Kd.slice 2 (Kd.int .i64)) 28 wc w.heap.size (fun _=>True) (.slice ke aE.length akK) DR)∧au (wc.heap[akR]?=some (.cells #[.int .i64 akg] 3 (0,0)))∧au (Below w.heap.size w wc))
       case first =>
        have H:=GS.out
        clear GS
        by_cases c31:t116 > 0
        case neg =>
         rw [if_neg c31] at H
         have oh:decide (0 < t116)=false:=decide_eq_false c31
         clear c31
         (first|rw [oh]|(simp only [akx,cu];rw [oh])|skip)
         have H':=k0 H
         clear H
         go_wp2
         go_meet
         case rel=>exact ⟨_,(aE),(tK),rs,(by first|exact H'|(rw [qW];exact H')),⟨by have:=akl.out;have:=bz.out;first|omega|exact Nat.le_refl _⟩,⟨by (try simp only [fE]);(with_reducible repeat (first|apply Kd.gI|apply Kd.gJ|apply Kd.eT));exact az.out⟩,⟨by (try simp only [fE]);exact bk⟩,⟨bl⟩⟩
        rw [if_pos c31] at H
        have oh:=decide_eq_true c31
        clear c31
        (first|rw [oh]|(simp only [akx,cu];rw [oh])|skip)
        obtain ⟨oT,qW⟩:∃ j_:Int,(wrap64 (akg+t116))=j_:=⟨_,rfl⟩
        replace H:(if 0≤(oT) then (if (oT) < (aE.length:Int) then (if akg < (aE.length:Int) then (bw.j2 k2 (swp aE akg (oT)) (wrap64 (-tK)) ako (bD.length:Int) akg akg) else (none)) else (none)) else (none))=some r:=by first|(rw [qW] at H;exact H)|(simp only [qW] at H ⊢;exact H)
        have ahK:(IntKind.i64.wrap (akg+t116))=oT:=(akx _).trans qW
        replace H:=iS H;obtain ⟨c33,H⟩:=H
        have BF:=decide_eq_true c33
        clear c33
        replace H:=iS H;obtain ⟨c34,H⟩:=H
        have alw:=decide_eq_true c34
        (try simp only [fE] at alw)
        clear c34
        replace H:=iS H;obtain ⟨c35,H⟩:=H
        have z_:=decide_eq_true c35
        (try simp only [fE] at z_)
        clear c35
        obtain ⟨al',td⟩:∃ y_:List (List Int),y_=(swp aE akg (oT)):=⟨_,rfl⟩
        replace H:(bw.j2 k2 al' (wrap64 (-tK)) ako (bD.length:Int) akg akg)=some r:=by first|(rw [td];with_reducible exact H)|(have ay:=(Option.bind_some _ _).symm.trans H;rw [td];with_reducible exact ay)|(have ay:=(Option.bind_some _ _).symm.trans H;with_reducible exact ay)|with_reducible exact H|(rw [td];exact H)|exact H
        have amF:=k0 td
        clear td
        have H':=k0 H
        clear H
        try go_wp2
        replace az:=k0 (Kd.eT az.out);replace fN:=k0 (ct fN.out);replace p5:=k0 (Kd.jY p5.out);replace HB:=k0 (cP HB.out)
        have pJ:0≤((oT):Int):=oD
        have pM:(oT) < (aE.length:Int):=oD
        obtain ⟨Bq,SV,Wo,e117,mI,Qq,Qa⟩:=cW (Kd.bY az.out).2.2 (oT) pJ pM
        cases e117
        obtain ⟨af_,ZP,Zm,Pb⟩:=Kd.mj az.out [] (oT) pJ (by first|exact pM|exact oD|(have e_:=(Kd.bY az.out).1;omega))
        obtain ⟨ajP,rfl,IF⟩:=Zm
        have CQ:=Pb 0 _ rfl
        rw [Nat.add_zero,show ((Kd.slice 2 (Kd.int .i64))).sz=1 from rfl,Nat.mul_one] at CQ
        replace CQ:=Option.some.inj (CQ.symm.trans mI)
        rw [CQ] at IF
        have Ua:=k0 (show Kd.R (Kd.int .i64) 2 _ _ _ _ (ah aE (oT)) from IF)
        clear CQ IF
        have Bh:=k0 mI
        clear Pb ZP
        have Ur:=k0 Qa
        have afl:=k0 Qq
        clear Qa Qq
        replace pJ:=eq_true pJ
        replace pM:=eq_true pM
        have pK:0≤(akg:Int):=oD
        have pN:akg < (aE.length:Int):=oD
        obtain ⟨Et,SW,Wp,e118,nr,Qr,Qb⟩:=cW (Kd.bY az.out).2.2 akg pK pN
        obtain rfl:Bq=Et:=(by injection e118)
        obtain ⟨aga,ZQ,Zn,Pc⟩:=Kd.mj az.out [] akg pK (by first|exact pN|exact oD|(have e_:=(Kd.bY az.out).1;omega))
        obtain ⟨ajQ,rfl,IG⟩:=Zn
        have CR:=Pc 0 _ rfl
        rw [Nat.add_zero,show ((Kd.slice 2 (Kd.int .i64))).sz=1 from rfl,Nat.mul_one] at CR
        replace CR:=Option.some.inj (CR.symm.trans nr)
        rw [CR] at IG
        have Ub:=k0 (show Kd.R (Kd.int .i64) 2 _ _ _ _ (ah aE akg) from IG)
        clear CR IG
        have Hu:=k0 nr
        clear Pc ZQ
        have Us:=k0 Qb
        have afm:=k0 Qr
        clear Qb Qr
        replace pK:=eq_true pK
        replace pN:=eq_true pN
        have vP:0≤(akg:Int):=oD
        have vT:(akg:Int) < ((aE.length:Int):Int):=oD
        obtain ⟨EX,agB,N1,Ou,YR,agw,Mp⟩:=Kd.M7 az.out (by omega)
        (first|cases N1|(injection N1 with bf dn dm;(first|subst bf|(injection bf with bf;subst bf));subst dm;clear dn))
        have Ma:=k0 Ou
        have TW:=k0 Mp
        clear Ou YR Mp
        (first|simp only [add_plain] at mI|skip)
        (first|simp only [add_plain] at nr|skip)
        obtain ⟨_,agn,Z4,OU,Pq,PS,_,_⟩:=Kd.HQ az.out [] (akg:Int) vP vT
        obtain ⟨aj2,rfl,agH⟩:=OU
        have C5:=Pq 0 _ rfl
        have PK:=PS 0
        (try simp only [show ((Kd.slice 2 (Kd.int .i64))).sz=1 from rfl,Nat.mul_one,Nat.add_zero] at C5)
        (try simp only [show ((Kd.slice 2 (Kd.int .i64))).sz=1 from rfl,Nat.mul_one,Nat.add_zero] at PK)
        (try clear OU);clear Z4 Pq PS
        replace vP:=eq_true vP
        replace vT:=eq_true vT
        have MB:=Vv az.out (akg:Int) ((oT):Int) oD (by have h_:(akg:Int) < ((aE.length:Int):Int):=oD;first|exact h_|(have e_:=(Kd.bY az.out).1;omega)|simpa using h_) oD (by have h_:((oT):Int) < ((aE.length:Int):Int):=oD;first|exact h_|(have e_:=(Kd.bY az.out).1;omega)|simpa using h_) (by first|exact Hu.out|simpa only [add_plain,lS,Nat.mul_one,Nat.zero_add,Nat.add_zero] using Hu.out) (by first|exact Bh.out|simpa only [add_plain,lS,Nat.mul_one,Nat.zero_add,Nat.add_zero] using Bh.out)
        obtain ⟨Fx,aaE⟩:=Vr az.out (akg:Int) ((oT):Int) oD (by have h_:(akg:Int) < ((aE.length:Int):Int):=oD;first|exact h_|(have e_:=(Kd.bY az.out).1;omega)|simpa using h_) oD (by have h_:((oT):Int) < ((aE.length:Int):Int):=oD;first|exact h_|(have e_:=(Kd.bY az.out).1;omega)|simpa using h_) (by first|exact Bh.out|simpa only [add_plain,lS,Nat.mul_one,Nat.zero_add,Nat.add_zero] using Bh.out)
        have Bf:=k0 MB.1
        (have h_:=Bf.out;rw [← amF.out] at h_;have MI:=k0 h_;clear h_ Bf;have Bf:=MI;clear MI)
        clear MB
        refine lJ (n:=23) (S:=fun w'=>w'.cell? ⟨akR,0,none⟩=some (.int .i64 akg)∧w'.cell? ⟨EX,((oT)).toNat,none⟩=some (.slice SV (ah aE (oT)).length Wo)∧w'.cell? ⟨EX,(akg).toNat,none⟩=some (.slice SW (ah aE akg).length Wp)) (ds:=[19,21]) (ba 23 0) (by kernel_rfl) rfl rfl ⟨(av fN.out 0).trans rfl,mI,nr⟩ (fun hHeld=>?_);refine qu bw.aeg bw.VW (fun aA dh=>?_)
        generalize w30.drew=w37 at az fN p5 HB TW Ua Ub Bf Ur Us Bh Hu PK aaE mI nr C5 Fx hHeld ⊢
        refine pu 0 (some 39) (ba 23 1) aA (h:=?_)
        refine pu 2 (some 41) (ba 23 5) aA (h:=?_)
        refine pu 4 (some 43) (ba 23 21) aA (h:=?_)
        refine pu 6 (some 45) (ba 23 85) aA (h:=?_)
        refine pu 8 (some 47) (ba 23 341) aA (h:=?_)
        refine pu 12 (some 51) (ba 23 4437) aA (h:=?_)
        refine pu 16 (some 55) (ba 23 69973) aA (h:=?_)
        refine pu 17 (some 56) (ba 23 201045) aA (h:=?_)
        refine ta 1 (some 40) (ba 23 201047) aA dh hHeld (hy:=Or.inl ⟨by rfl,by rintro w' ⟨s0,s1,s2⟩;go_simp;with_reducible rfl⟩) (h:=?_)
        refine ta 7 (some 46) (ba 23 201175) aA dh hHeld (hy:=Or.inl ⟨by rfl,by rintro w' ⟨s0,s1,s2⟩;go_simp;with_reducible rfl⟩) (h:=?_)
        refine pu 9 (some 48) (ba 23 201687) aA (h:=?_)
        refine pu 10 (some 49) (ba 23 202711) aA (h:=?_)
        refine ta 11 (some 50) (ba 23 204759) aA dh hHeld (hy:=Or.inl ⟨by rfl,by rintro w' ⟨s0,s1,s2⟩;go_simp;with_reducible rfl⟩) (h:=?_)
        refine ta 13 (some 52) (ba 23 212951) aA dh hHeld (hy:=Or.inl ⟨by rfl,by rintro w' ⟨s0,s1,s2⟩;go_simp;with_reducible rfl⟩) (h:=?_)
        refine pu 14 (some 53) (ba 23 229335) aA (h:=?_)
        refine ta 15 (some 54) (ba 23 262103) aA dh hHeld (hy:=Or.inl ⟨by rfl,by rintro w' ⟨s0,s1,s2⟩;go_simp;with_reducible rfl⟩) (h:=?_)
        refine pu 18 (some 57) (ba 23 524247) aA (h:=?_)
        refine acR (i:=3) (d:=19) (Ni:=some 42) (EU:=?gU) (l3:=(ba 23 1048575)) (a3:=?a3_) (w3:=?w3_) (ba 23 524255) (ba 23 1048535) rfl rfl rfl rfl (by kernel_rfl) (by decide) (fun hf K hK=>?A_) (fun hf K hK=>?B_) ?M_
        case A_ =>
         refine Lf (w1:=?_) (v:=?_) (by rfl) rfl ?_ ?_
         rotate_left 2
         ·go_simp
          constructor
          ·rfl
          ·rfl
         refine hK.out _ ?_
         clear hK K
         refine aky (a':=?_) ?_ ?_
         rotate_left;· show Act.put _ (some 42) _=_;simp only [Act.put,zI,zZ,zS,akx,cu];rfl
         refine pu 5 (some 44) (ba 23 524287) aA (h:=?_)
         refine rU (i:=19) (N:=none) (ba 23 1048575) rfl rfl (kF aA.out (by kernel_rfl)) (by decide) (fun K hK=>?_)
         refine pP (w1:=?_) (by rfl) rfl ?_ ?_
         rotate_left;· go_simp;rfl
         refine hK.out _ _ ?_
         clear hK K
         exact hf
        case B_ =>
         refine pP (w1:=?_) (by rfl) rfl ?_ ?_
         rotate_left;· go_simp;rfl
         refine hK.out _ _ ?_
         clear hK K
         have agJ:∀ (J8:Nat) (v_:Value),(World.setCell w37 ⟨EX,J8,none⟩ v_).cell? ⟨akR,0,none⟩=some (.int .i64 akg):=fun J8 v_=>(cell_far (p:=⟨EX,J8,none⟩) (fun h_=>(Kd.zU az.out fN.out (by decide)) (congrArg some h_)) v_).trans hHeld.1
         refine ac1 (i:=3) (Ni:=some 42) (ba 23 1048543) rfl rfl (by kernel_rfl) (fun K hK=>?_)
         refine Lf (w1:=?_) (v:=?_) (by rfl) rfl ?_ ?_
         rotate_left 2
         ·go_simp
          constructor
          ·rfl
          ·rfl
         refine hK.out _ ?_
         clear hK K
         refine aky (a':=?_) ?_ ?_
         rotate_left;· show Act.put _ (some 42) _=_;simp only [Act.put,zI,zZ,zS,akx,cu];rfl
         refine pu 5 (some 44) (ba 23 1048575) aA (h:=?_)
         exact hf
        refine pu 20 (some 58) (ba 23 2097151) aA (h:=?_)
        refine rU (i:=21) (N:=none) (ba 23 4194303) rfl rfl (kF aA.out (by kernel_rfl)) (by decide) (fun K hK=>?_)
        refine pP (w1:=?_) (by rfl) rfl ?_ ?_
        rotate_left;· go_simp;rfl
        refine hK.out _ _ ?_
        clear hK K
        refine pu 22 (some 4) (ba 23 8388607) aA (h:=?_)
        refine lC (p_ aA.out (by kernel_rfl)) ?_
        try go_wp2
        go_meet
        case rel=>exact ⟨_,(al'),(wrap64 (-tK)),rs,(by first|exact H'|(rw [qW];exact H')),⟨by have:=akl.out;have:=bz.out;first|omega|exact Nat.le_refl _⟩,⟨by (try simp only [fE]);(with_reducible repeat (first|apply Kd.gI|apply Kd.gJ|apply Kd.eT));exact Bf.out⟩,⟨by (try simp only [fE]);(with_reducible repeat (first|refine ee ?_ _|refine ct ?_|refine dX ?_ _));refine fX ?_ (by have h_:=Kd.zU az.out fN.out (by decide);intro e_;exact h_ (by rw [e_];rfl)) _;(with_reducible repeat (first|refine ee ?_ _|refine ct ?_|refine dX ?_ _));refine fX ?_ (by have h_:=Kd.zU az.out fN.out (by decide);intro e_;exact h_ (by rw [e_];rfl)) _;exact bk⟩,⟨by repeat (first|(with_reducible first|exact HB.out|apply dA|apply akz|apply cP|refine dM ?_ Ma.out|refine dM ?_ Ma.out|refine dM ?_ GJ.out)|exact HB.out)⟩⟩
       case rest =>
        clear GS
        (try clear c4);(try clear eA);(try clear c5);(try clear iW);(try clear c6);(try clear akJ);(try clear c8);(try clear c13);(try clear kQ);(try clear c14);(try clear ku);(try clear z6);(try clear c15);(try clear kR);(try clear rH);(try clear c17);(try clear oN);(try clear c22);(try clear vS);(try clear c29);(try clear oA);(try clear c31);(try clear oh);(try clear c33);(try clear BF);(try clear c34);(try clear alw);(try clear c35);(try clear z_);(try clear vP);(try clear vT);(try clear sI);(try clear Cj);(try clear Jq);(try clear Cl);(try clear alg);(try clear Cr);(try clear JF);(try clear Ct);(try clear cM);(try clear mI);(try clear nr);(try clear C5);(try clear Fx);(try clear cS);(try clear pJ);(try clear pK);(try clear vP);(try clear F2);(try clear F3);(try clear cT);(try clear pM);(try clear pN);(try clear vS);(try clear oA);(try clear vT)
        obtain ⟨kq,DR,xH,rfl,HA,zG,az,fN,HB⟩:=hcut
        have kC:=(Kd.bY az.out).1
        rw [kC] at az
        (try simp only [kC])
        (try simp only [kC] at fN)
        cases kq with
        | zero=>exact absurd HA.out (by simp [bw.j2])
        | succ Q_ =>
         have H:=HA.out
         clear HA
         simp only [bw.j2] at H
         have H':=k0 H
         clear H
         have PF:wc.cell? ⟨akR,0,none⟩=some (.int .i64 akg):=(av fN.out 0).trans rfl
         have P1:=aH fN.out 0
         go_wp2
         go_loopg [10] Q_ (fun kq v10 w'=>∃ (qy:List (List Int)) (eP:Int),v10=.int .i64 eP∧au (bw.l2 kq qy xH ako eP (bD.length:Int) akg akg=some r)∧au (kq≤Q_)∧au (Kd.S (Kd.slice 2 (Kd.int .i64)) 28 w' w.heap.size (fun _=>True) (.slice ke DR.length akK) qy)∧au (w'.heap[akR]?=some (.cells #[.int .i64 akg] 3 (0,0)))∧au (Below w.heap.size w w'))
         case atStart=>exact ⟨(DR),(wrap64 (akg+1)),rs,H',⟨Nat.le_refl _⟩,⟨by (try simp only [fE]);(try simp only [kC]);(with_reducible repeat (first|apply Kd.gI|apply Kd.gJ|apply Kd.eT));exact az.out⟩,⟨by (try simp only [fE]);(try simp only [kC]);exact bk⟩,⟨bl⟩⟩
         case round =>
          clear H'
          (try clear c4);(try clear eA);(try clear c5);(try clear iW);(try clear c6);(try clear akJ);(try clear c8);(try clear c13);(try clear kQ);(try clear c14);(try clear ku);(try clear z6);(try clear c15);(try clear kR);(try clear rH);(try clear c17);(try clear oN);(try clear c22);(try clear vS);(try clear c29);(try clear oA);(try clear c31);(try clear oh);(try clear c33);(try clear BF);(try clear c34);(try clear alw);(try clear c35);(try clear z_);(try clear vP);(try clear vT);(try clear sI);(try clear Cj);(try clear Jq);(try clear Cl);(try clear PF);(try clear alg);(try clear Cr);(try clear JF);(try clear Ct);(try clear P1);(try clear cM);(try clear mI);(try clear nr);(try clear C5);(try clear Fx);(try clear cS);(try clear pJ);(try clear pK);(try clear vP);(try clear F2);(try clear F3);(try clear cT);(try clear pM);(try clear pN);(try clear vS);(try clear oA);(try clear vT)
          obtain ⟨qy,eP,rfl,HA,gv,az,fN,HB⟩:=hrel
          have kS:=(Kd.bY az.out).1
          rw [kS] at az
          (try simp only [kS])
          (try simp only [kS] at fN)
          cases gk with
          | zero=>exact absurd HA.out (by simp [bw.l2])
          | succ k4 =>
           have H:=HA.out
           clear HA
           simp only [bw.l2] at H
           by_cases c40:eP < (qy.length:Int)
           case neg =>
            rw [if_neg c40] at H
            have alx:decide (eP < (qy.length:Int))=false:=decide_eq_false c40
            (try simp only [fE,kC,kS] at alx)
            clear c40
            replace H:=iS H;obtain ⟨c57,H⟩:=H
            have afZ:=decide_eq_true c57
            clear c57
            replace H:=iS H;obtain ⟨c58,H⟩:=H
            have WI:=decide_eq_true c58
            (try simp only [fE,kC,kS] at WI)
            clear c58
            replace H:=iS H;obtain ⟨c59,H⟩:=H
            have WJ:=decide_eq_true c59
            (try simp only [fE,kC,kS] at WJ)
            clear c59
            have H':=k0 H
            clear H
            try go_wp2
            replace az:=k0 (Kd.eT az.out);replace fN:=k0 (ct fN.out);replace HB:=k0 (cP HB.out)
            have xx:0≤(akg:Int):=oD
            have xz:akg < (qy.length:Int):=oD
            obtain ⟨amM,ae2,Wq,e120,ur,Qs,Qc⟩:=cW (Kd.bY az.out).2.2 akg xx xz
            cases e120
            obtain ⟨agc,ZR,Zo,Pe⟩:=Kd.mj az.out [] akg xx (by first|exact xz|exact oD|(have e_:=(Kd.bY az.out).1;omega))
            obtain ⟨ajR,rfl,II⟩:=Zo
            have CS:=Pe 0 _ rfl
            rw [Nat.add_zero,show ((Kd.slice 2 (Kd.int .i64))).sz=1 from rfl,Nat.mul_one] at CS
            replace CS:=Option.some.inj (CS.symm.trans ur)
            rw [CS] at II
            have Uc:=k0 (show Kd.R (Kd.int .i64) 2 _ _ _ _ (ah qy akg) from II)
            clear CS II
            have Uw:=k0 ur
            clear Pe ZR
            have Hh:=k0 Qc
            have afn:=k0 Qs
            clear Qc Qs
            replace xx:=eq_true xx
            replace xz:=eq_true xz
            have vO:0≤(akg:Int):=oD
            have vR:akg < ((ah qy akg).length:Int):=oD
            obtain ⟨HU,e121,yZ⟩:=Kd.bH (by repeat (first|(with_reducible exact Hh.out)|(with_reducible refine Kd.kK ?_ _)|(with_reducible refine Kd.kY ?_ _)|(with_reducible refine Kd.jY ?_)|exact Hh.out)) akg vO vR
            cases e121
            replace vO:=eq_true vO
            replace vR:=eq_true vR
            refine lJ (n:=8) (S:=fun w'=>w'.cell? ⟨akR,0,none⟩=some (.int .i64 akg)∧w'.cell? (amM.add (akg).toNat)=some (.slice (some HU) (ah qy akg).length Wq)∧w'.cell? (HU.add (akg).toNat)=some (.int .i64 (rd (ah qy akg) akg))) (ds:=[]) (ba 8 0) (by kernel_rfl) rfl rfl ⟨(av fN.out 0).trans rfl,ur,yZ⟩ (fun hHeld=>?_);refine qu bw.aei bw.VY (fun aA dh=>?_)
            generalize wr.drew=SB at az fN HB Uc Hh Uw ur yZ hHeld ⊢
            refine pu 0 (some 114) (ba 8 1) aA (h:=?_)
            refine ta 1 (some 115) (ba 8 3) aA dh hHeld (hy:=Or.inl ⟨by rfl,by rintro w' ⟨s0,s1,s2⟩;go_simp;with_reducible rfl⟩) (h:=?_)
            refine pu 2 (some 116) (ba 8 7) aA (h:=?_)
            refine ta 3 (some 117) (ba 8 15) aA dh hHeld (hy:=Or.inl ⟨by rfl,by rintro w' ⟨s0,s1,s2⟩;go_simp;with_reducible rfl⟩) (h:=?_)
            refine ta 4 (some 118) (ba 8 31) aA dh hHeld (hy:=Or.inl ⟨by rfl,by rintro w' ⟨s0,s1,s2⟩;go_simp;with_reducible rfl⟩) (h:=?_)
            refine pu 5 (some 119) (ba 8 63) aA (h:=?_)
            refine ta 6 (some 120) (ba 8 127) aA dh hHeld (hy:=Or.inl ⟨by rfl,by rintro w' ⟨s0,s1,s2⟩;go_simp;with_reducible rfl⟩) (h:=?_)
            refine pu 7 (some 5) (ba 8 255) aA (h:=?_)
            refine lC (p_ aA.out (by kernel_rfl)) ?_
            try go_wp2
            (try simp only [← fE,← kC,← kS])
            first|go_roundg k4|(simp only [← qW];go_roundg k4)
            case measure=>have:=akl.out;have:=bz.out;have:=zG.out;have:=gv.out;omega
            case rel=>exact ⟨(qy),(xH),(rd (ah qy akg) akg),(wrap64 (akg+1)),rs,rs,rs,(by first|exact H'|(rw [qW];exact H')),⟨by have:=akl.out;have:=bz.out;have:=zG.out;have:=gv.out;omega⟩,⟨by (try simp only [fE]);(try simp only [kC]);(try simp only [kS]);(with_reducible repeat (first|apply Kd.gI|apply Kd.gJ|apply Kd.eT));exact az.out⟩,⟨bl⟩⟩
           rw [if_pos c40] at H
           have alx:=decide_eq_true c40
           (try simp only [fE,kC,kS] at alx)
           clear c40
           have H':=k0 H
           clear H
           have Jw:wr.cell? ⟨akR,0,none⟩=some (.int .i64 akg):=(av fN.out 0).trans rfl
           have JL:=aH fN.out 0
           go_wp2
           go_loopg [11] k4 (fun kq v11 w'=>∃ (fL:List (List Int)) (jW:Int),v11=.int .i64 jW∧au (bw.l3 kq fL xH ako eP jW (bD.length:Int) akg akg=some r)∧au (kq≤k4)∧au (Kd.S (Kd.slice 2 (Kd.int .i64)) 28 w' w.heap.size (fun _=>True) (.slice ke qy.length akK) fL)∧au (w'.heap[akR]?=some (.cells #[.int .i64 akg] 3 (0,0)))∧au (Below w.heap.size w w'))
           case atStart=>exact ⟨(qy),(wrap64 (akg+1)),rs,H',⟨Nat.le_refl _⟩,⟨by (try simp only [fE]);(try simp only [kC]);(try simp only [kS]);(with_reducible repeat (first|apply Kd.gI|apply Kd.gJ|apply Kd.eT));exact az.out⟩,⟨by (try simp only [fE]);(try simp only [kC]);(try simp only [kS]);exact bk⟩,⟨bl⟩⟩
           case round =>
            clear H'
            (try clear c4);(try clear eA);(try clear c5);(try clear iW);(try clear c6);(try clear akJ);(try clear c8);(try clear c13);(try clear kQ);(try clear c14);(try clear ku);(try clear z6);(try clear c15);(try clear kR);(try clear rH);(try clear c17);(try clear oN);(try clear c22);(try clear vS);(try clear c29);(try clear oA);(try clear c31);(try clear oh);(try clear c33);(try clear BF);(try clear c34);(try clear alw);(try clear c35);(try clear z_);(try clear vP);(try clear vT);(try clear c40);(try clear alx);(try clear sI);(try clear Cj);(try clear Jq);(try clear Cl);(try clear PF);(try clear Jw);(try clear alg);(try clear Cr);(try clear JF);(try clear Ct);(try clear P1);(try clear JL);(try clear cM);(try clear mI);(try clear nr);(try clear C5);(try clear Fx);(try clear cS);(try clear pJ);(try clear pK);(try clear vP);(try clear F2);(try clear F3);(try clear cT);(try clear pM);(try clear pN);(try clear vS);(try clear oA);(try clear vT)
            obtain ⟨fL,jW,rfl,HA,Ea,az,fN,HB⟩:=hrel
            have ou:=(Kd.bY az.out).1
            rw [ou] at az
            (try simp only [ou])
            (try simp only [ou] at fN)
            cases gk with
            | zero=>exact absurd HA.out (by simp [bw.l3])
            | succ k5 =>
             have H:=HA.out
             clear HA
             simp only [bw.l3] at H
             by_cases c42:jW < (fL.length:Int)
             case neg =>
              rw [if_neg c42] at H
              have alE:decide (jW < (fL.length:Int))=false:=decide_eq_false c42
              (try simp only [fE,kC,kS,ou] at alE)
              clear c42
              have H':=k0 H
              clear H
              go_wp2
              (try simp only [← kS,← ou])
              first|go_roundg k5|(simp only [← qW];go_roundg k5)
              case measure=>have:=akl.out;have:=bz.out;have:=zG.out;have:=gv.out;have:=Ea.out;omega
              case rel=>exact ⟨(fL),(wrap64 (eP+1)),rs,(by first|exact H'|(rw [qW];exact H')),⟨by have:=akl.out;have:=bz.out;have:=zG.out;have:=gv.out;have:=Ea.out;omega⟩,⟨by (try simp only [fE]);(try simp only [kC]);(try simp only [kS]);(try simp only [ou]);(with_reducible repeat (first|apply Kd.gI|apply Kd.gJ|apply Kd.eT));exact az.out⟩,⟨by (try simp only [fE]);(try simp only [kC]);(try simp only [kS]);(try simp only [ou]);exact bk⟩,⟨bl⟩⟩
             rw [if_pos c42] at H
             have alE:=decide_eq_true c42
             (try simp only [fE,kC,kS,ou] at alE)
             clear c42
             replace H:=iS H;obtain ⟨c43,H⟩:=H
             have NB:=decide_eq_true c43
             clear c43
             replace H:=iS H;obtain ⟨c44,H⟩:=H
             have WB:=decide_eq_true c44
             (try simp only [fE,kC,kS,ou] at WB)
             clear c44
             replace H:=iS H;obtain ⟨c45,H⟩:=H
             have alN:=decide_eq_true c45
             clear c45
             replace H:=iS H;obtain ⟨c46,H⟩:=H
             have WC:=decide_eq_true c46
             (try simp only [fE,kC,kS,ou] at WC)
             clear c46
             replace H:=iS H;obtain ⟨c47,H⟩:=H
             have afW:=decide_eq_true c47
             clear c47
             replace H:=iS H;obtain ⟨c48,H⟩:=H
             have WD:=decide_eq_true c48
             (try simp only [fE,kC,kS,ou] at WD)
             clear c48
             replace H:=iS H;obtain ⟨c49,H⟩:=H
             have WE:=decide_eq_true c49
             (try simp only [fE,kC,kS,ou] at WE)
             clear c49
             replace H:=iS H;obtain ⟨c50,H⟩:=H
             have WG:=decide_eq_true c50
             (try simp only [fE,kC,kS,ou] at WG)
             clear c50
             replace H:=iS H;obtain ⟨c51,H⟩:=H
             have WH:=decide_eq_true c51
             (try simp only [fE,kC,kS,ou] at WH)
             clear c51
             by_cases c52:ako=0
             case neg =>
              rw [if_neg c52] at H
              have afX:(ako == 0)=false:=beq_eq_false_iff_ne.mpr c52
              have afY:(ako != 0)=true:=bne_iff_ne.mpr c52
              obtain ⟨Ls,De⟩:∃ y_:List Int,y_=((ah fL eP).set (jW:Int).toNat (wrap64 (Int.tdiv (wrap64 ((wrap64 ((rd (ah fL eP) jW) * (rd (ah fL akg) akg))) - (wrap64 ((rd (ah fL eP) akg) * (rd (ah fL akg) jW))))) ako))):=⟨_,rfl⟩
              replace H:(bw.l3 k5 (fL.set (eP:Int).toNat Ls) xH ako eP (wrap64 (jW+1)) (bD.length:Int) akg akg)=some r:=by first|(rw [De];with_reducible exact H)|(have ay:=(Option.bind_some _ _).symm.trans H;rw [De];with_reducible exact ay)|(have ay:=(Option.bind_some _ _).symm.trans H;with_reducible exact ay)|with_reducible exact H|(rw [De];exact H)|exact H
              have U5:=k0 De
              clear De
              obtain ⟨SP,Df⟩:∃ y_:List (List Int),y_=(fL.set (eP:Int).toNat Ls):=⟨_,rfl⟩
              replace H:(bw.l3 k5 SP xH ako eP (wrap64 (jW+1)) (bD.length:Int) akg akg)=some r:=by first|(rw [Df];with_reducible exact H)|(have ay:=(Option.bind_some _ _).symm.trans H;rw [Df];with_reducible exact ay)|(have ay:=(Option.bind_some _ _).symm.trans H;with_reducible exact ay)|with_reducible exact H|(rw [Df];exact H)|exact H
              have U6:=k0 Df
              clear Df
              have H':=k0 H
              clear H
              try go_wp2
              replace az:=k0 (Kd.eT az.out);replace fN:=k0 (ct fN.out);replace HB:=k0 (cP HB.out)
              have FW:0≤(eP:Int):=oD
              have F4:eP < (fL.length:Int):=oD
              obtain ⟨uW,ae3,amQ,e122,AI,Qt,Qd⟩:=cW (Kd.bY az.out).2.2 eP FW F4
              cases e122
              obtain ⟨agd,ZS,Zp,Pf⟩:=Kd.mj az.out [] eP FW (by first|exact F4|exact oD|(have e_:=(Kd.bY az.out).1;omega))
              obtain ⟨ajS,rfl,IJ⟩:=Zp
              have CT:=Pf 0 _ rfl
              rw [Nat.add_zero,show ((Kd.slice 2 (Kd.int .i64))).sz=1 from rfl,Nat.mul_one] at CT
              replace CT:=Option.some.inj (CT.symm.trans AI)
              rw [CT] at IJ
              have Ed:=k0 (show Kd.R (Kd.int .i64) 2 _ _ _ _ (ah fL eP) from IJ)
              clear CT IJ
              have Hv:=k0 AI
              clear Pf ZS
              have Ut:=k0 Qd
              have afo:=k0 Qt
              clear Qd Qt
              replace FW:=eq_true FW
              replace F4:=eq_true F4
              have FX:0≤(eP:Int):=oD
              have amx:eP < (fL.length:Int):=oD
              obtain ⟨VG,ae4,afK,e123,C1,Qu,Qe⟩:=cW (Kd.bY az.out).2.2 eP FX amx
              obtain rfl:uW=VG:=(by injection e123)
              obtain ⟨age,ZT,Zq,Pg⟩:=Kd.mj az.out [] eP FX (by first|exact amx|exact oD|(have e_:=(Kd.bY az.out).1;omega))
              obtain ⟨ajT,rfl,IK⟩:=Zq
              have CU:=Pg 0 _ rfl
              rw [Nat.add_zero,show ((Kd.slice 2 (Kd.int .i64))).sz=1 from rfl,Nat.mul_one] at CU
              replace CU:=Option.some.inj (CU.symm.trans C1)
              rw [CU] at IK
              have Ud:=k0 (show Kd.R (Kd.int .i64) 2 _ _ _ _ (ah fL eP) from IK)
              clear CU IK
              have Ux:=k0 C1
              clear Pg ZT
              have Hi:=k0 Qe
              have afp:=k0 Qu
              clear Qe Qu
              replace FX:=eq_true FX
              replace amx:=eq_true amx
              have bf:=Option.some.inj (AI.symm.trans C1)
              injection bf with bf dn dm
              subst bf
              subst dm
              clear dn
              have Kw:0≤(jW:Int):=oD
              have KN:jW < ((ah fL eP).length:Int):=oD
              obtain ⟨VH,e124,J3⟩:=Kd.bH (by repeat (first|(with_reducible exact Hi.out)|(with_reducible refine Kd.kK ?_ _)|(with_reducible refine Kd.kY ?_ _)|(with_reducible refine Kd.jY ?_)|exact Hi.out)) jW Kw KN
              cases e124
              replace Kw:=eq_true Kw
              replace KN:=eq_true KN
              have FY:0≤(akg:Int):=oD
              have F6:akg < (fL.length:Int):=oD
              obtain ⟨VI,ae5,Nz,e125,C2,Qv,Qf⟩:=cW (Kd.bY az.out).2.2 akg FY F6
              obtain rfl:uW=VI:=(by injection e125)
              obtain ⟨agf,ZU,Zr,Ph⟩:=Kd.mj az.out [] akg FY (by first|exact F6|exact oD|(have e_:=(Kd.bY az.out).1;omega))
              obtain ⟨ajU,rfl,IL⟩:=Zr
              have CV:=Ph 0 _ rfl
              rw [Nat.add_zero,show ((Kd.slice 2 (Kd.int .i64))).sz=1 from rfl,Nat.mul_one] at CV
              replace CV:=Option.some.inj (CV.symm.trans C2)
              rw [CV] at IL
              have Ue:=k0 (show Kd.R (Kd.int .i64) 2 _ _ _ _ (ah fL akg) from IL)
              clear CV IL
              have Uy:=k0 C2
              clear Ph ZU
              have Hj:=k0 Qf
              have afq:=k0 Qv
              clear Qf Qv
              replace FY:=eq_true FY
              replace F6:=eq_true F6
              have Ky:0≤(akg:Int):=oD
              have KO:akg < ((ah fL akg).length:Int):=oD
              obtain ⟨Br,e126,QZ⟩:=Kd.bH (by repeat (first|(with_reducible exact Hj.out)|(with_reducible refine Kd.kK ?_ _)|(with_reducible refine Kd.kY ?_ _)|(with_reducible refine Kd.jY ?_)|exact Hj.out)) akg Ky KO
              cases e126
              replace Ky:=eq_true Ky
              replace KO:=eq_true KO
              have FZ:0≤(eP:Int):=oD
              have F7:eP < (fL.length:Int):=oD
              obtain ⟨VJ,ae6,afL,e127,C3,Qw,Qg⟩:=cW (Kd.bY az.out).2.2 eP FZ F7
              obtain rfl:uW=VJ:=(by injection e127)
              obtain ⟨agh,ZV,Zs,Pj⟩:=Kd.mj az.out [] eP FZ (by first|exact F7|exact oD|(have e_:=(Kd.bY az.out).1;omega))
              obtain ⟨ajV,rfl,IM⟩:=Zs
              have CW:=Pj 0 _ rfl
              rw [Nat.add_zero,show ((Kd.slice 2 (Kd.int .i64))).sz=1 from rfl,Nat.mul_one] at CW
              replace CW:=Option.some.inj (CW.symm.trans C3)
              rw [CW] at IM
              have Uf:=k0 (show Kd.R (Kd.int .i64) 2 _ _ _ _ (ah fL eP) from IM)
              clear CW IM
              have Uz:=k0 C3
              clear Pj ZV
              have Hl:=k0 Qg
              have afr:=k0 Qw
              clear Qg Qw
              replace FZ:=eq_true FZ
              replace F7:=eq_true F7
              have bf:=Option.some.inj (AI.symm.trans C3)
              injection bf with bf dn dm
              subst bf
              subst dm
              clear dn
              have Kz:0≤(akg:Int):=oD
              have KP:akg < ((ah fL eP).length:Int):=oD
              obtain ⟨VK,e128,J4⟩:=Kd.bH (by repeat (first|(with_reducible exact Hl.out)|(with_reducible refine Kd.kK ?_ _)|(with_reducible refine Kd.kY ?_ _)|(with_reducible refine Kd.jY ?_)|exact Hl.out)) akg Kz KP
              obtain rfl:VH=VK:=(by injection e128)
              replace Kz:=eq_true Kz
              replace KP:=eq_true KP
              have F0:0≤(akg:Int):=oD
              have F8:akg < (fL.length:Int):=oD
              obtain ⟨VL,ae7,afM,e129,C4,Qx,Qh⟩:=cW (Kd.bY az.out).2.2 akg F0 F8
              obtain rfl:uW=VL:=(by injection e129)
              obtain ⟨agi,ZW,Zt,Pk⟩:=Kd.mj az.out [] akg F0 (by first|exact F8|exact oD|(have e_:=(Kd.bY az.out).1;omega))
              obtain ⟨ajW,rfl,IP⟩:=Zt
              have CX:=Pk 0 _ rfl
              rw [Nat.add_zero,show ((Kd.slice 2 (Kd.int .i64))).sz=1 from rfl,Nat.mul_one] at CX
              replace CX:=Option.some.inj (CX.symm.trans C4)
              rw [CX] at IP
              have Ug:=k0 (show Kd.R (Kd.int .i64) 2 _ _ _ _ (ah fL akg) from IP)
              clear CX IP
              have UA:=k0 C4
              clear Pk ZW
              have Ho:=k0 Qh
              have afs:=k0 Qx
              clear Qh Qx
              replace F0:=eq_true F0
              replace F8:=eq_true F8
              have bf:=Option.some.inj (C2.symm.trans C4)
              injection bf with bf dn dm
              subst bf
              subst dm
              clear dn
              have KA:0≤(jW:Int):=oD
              have KQ:jW < ((ah fL akg).length:Int):=oD
              obtain ⟨VM,e130,Q0⟩:=Kd.bH (by repeat (first|(with_reducible exact Ho.out)|(with_reducible refine Kd.kK ?_ _)|(with_reducible refine Kd.kY ?_ _)|(with_reducible refine Kd.jY ?_)|exact Ho.out)) jW KA KQ
              obtain rfl:Br=VM:=(by injection e130)
              replace KA:=eq_true KA
              replace KQ:=eq_true KQ
              have KK:0≤(jW:Int):=oD
              have K0:(jW:Int) < (((ah fL eP).length:Int):Int):=oD
              obtain ⟨amm,agC,N3,Ox,YU,agz,Ms⟩:=Kd.akT Ed.out (by omega)
              (first|cases N3|(injection N3 with bf dn dm;(first|subst bf|(injection bf with bf;subst bf));subst dm;clear dn))
              (first|simp only [add_plain] at J3|skip)
              have TR:=k0 Ox
              have TX:=k0 Ms
              clear Ox YU Ms
              (first|simp only [add_plain] at J4|skip)
              obtain ⟨abF,aaF⟩:=Kd.jD 0 Ed.out (jW:Int) KK K0
              replace KK:=eq_true KK
              replace K0:=eq_true K0
              have abn:(eP:Int) < (fL.length:Int):=(by have h_:(eP:Int) < ((fL.length:Int):Int):=oD;first|exact h_|(have e_:=(Kd.bY az.out).1;omega)|simpa only [List.length_set,List.length_set] using h_)
              obtain ⟨ajt,ago,Z5,Zh,Pr,QH,O2⟩:=Kd.zT az.out [] (eP:Int) oD (by first|exact abn|(have e_:=(Kd.bY az.out).1;omega))
              obtain ⟨aj3,rfl,aml⟩:=Zh
              have Fp:=Pr 0 _ rfl
              rw [Nat.add_zero,show ((Kd.slice 2 (Kd.int .i64))).sz=1 from rfl,Nat.mul_one] at Fp
              replace Fp:=Option.some.inj (Fp.symm.trans Hv.out)
              subst Fp
              clear Pr Z5
              replace aml:=(show Kd.R (Kd.int .i64) 2 _ _ _ _ (ah fL eP) from aml)
              have zJ:=Kd.kP aml (jW:Int) (wrap64 (Int.tdiv (wrap64 ((wrap64 ((rd (ah fL eP) jW) * (rd (ah fL akg) akg))) - (wrap64 ((rd (ah fL eP) akg) * (rd (ah fL akg) jW))))) ako))
              have UD:=k0 (Ab zJ.2 Hv.out (Ac (QH _ (aml.1 _ rfl)).2))
              rw [← U5.out] at zJ
              have afA:=k0 zJ.1
              have Hs:=O2 zJ.2 (fun k_ e_=>by injection e_ with e_;subst e_;exact aml.1 _ rfl) (x':=Ls) (Kd.rz zJ.1)
              rw [← U6.out] at Hs
              have MH:=k0 Hs
              clear zJ Hs O2 QH
              refine lJ (n:=40) (S:=fun w'=>w'.cell? ⟨akR,0,none⟩=some (.int .i64 akg)∧w'.cell? (uW.add (eP).toNat)=some (.slice (some ⟨amm,0,none⟩) (ah fL eP).length amQ)∧w'.cell? (uW.add (eP).toNat)=some (.slice (some ⟨amm,0,none⟩) (ah fL eP).length amQ)∧w'.cell? ⟨amm,(jW).toNat,none⟩=some (.int .i64 (rd (ah fL eP) jW))∧w'.cell? (uW.add (akg).toNat)=some (.slice (some Br) (ah fL akg).length Nz)∧w'.cell? (Br.add (akg).toNat)=some (.int .i64 (rd (ah fL akg) akg))∧w'.cell? (uW.add (eP).toNat)=some (.slice (some (⟨amm,0,none⟩:Addr)) (ah fL eP).length amQ)∧w'.cell? ⟨amm,(akg).toNat,none⟩=some (.int .i64 (rd (ah fL eP) akg))∧w'.cell? (uW.add (akg).toNat)=some (.slice (some Br) (ah fL akg).length Nz)∧w'.cell? (Br.add (jW).toNat)=some (.int .i64 (rd (ah fL akg) jW))) (ds:=[39]) (ba 40 0) (by kernel_rfl) rfl rfl ⟨(av fN.out 0).trans rfl,AI,C1,J3,C2,QZ,C3,J4,C4,Q0⟩ (fun hHeld=>?_);refine qu bw.aeh bw.VX (fun aA dh=>?_)
              generalize wr.drew=w54 at az fN HB TX Ed Ud Ue Uf Ug MH Ut Hi Hj Hl Ho Hv Ux Uy Uz UA UD aaF AI C1 J3 C2 QZ C3 J4 C4 Q0 abF hHeld ⊢
              refine pu 0 (some 75) (ba 40 1) aA (h:=?_)
              refine pu 1 (some 76) (ba 40 3) aA (h:=?_)
              refine pu 2 (some 77) (ba 40 7) aA (h:=?_)
              refine pu 4 (some 79) (ba 40 23) aA (h:=?_)
              refine pu 5 (some 80) (ba 40 55) aA (h:=?_)
              refine pu 6 (some 81) (ba 40 119) aA (h:=?_)
              refine pu 7 (some 82) (ba 40 247) aA (h:=?_)
              refine pu 9 (some 84) (ba 40 759) aA (h:=?_)
              refine pu 12 (some 87) (ba 40 4855) aA (h:=?_)
              refine pu 20 (some 95) (ba 40 1053431) aA (h:=?_)
              refine pu 21 (some 96) (ba 40 3150583) aA (h:=?_)
              refine pu 22 (some 97) (ba 40 7344887) aA (h:=?_)
              refine pu 27 (some 102) (ba 40 141562615) aA (h:=?_)
              refine pu 31 (some 106) (ba 40 2289046263) aA (h:=?_)
              refine pu 36 (some 111) (ba 40 71008522999) aA (h:=?_)
              refine ta 3 (some 78) (ba 40 71008523007) aA dh hHeld (hy:=Or.inl ⟨by rfl,by rintro w' ⟨s0,s1,s2,s3,s4,s5,s6,s7,s8,s9⟩;go_simp;with_reducible rfl⟩) (h:=?_)
              refine ta 8 (some 83) (ba 40 71008523263) aA dh hHeld (hy:=Or.inl ⟨by rfl,by rintro w' ⟨s0,s1,s2,s3,s4,s5,s6,s7,s8,s9⟩;go_simp;with_reducible rfl⟩) (h:=?_)
              refine pu 10 (some 85) (ba 40 71008524287) aA (h:=?_)
              refine ta 11 (some 86) (ba 40 71008526335) aA dh hHeld (hy:=Or.inl ⟨by rfl,by rintro w' ⟨s0,s1,s2,s3,s4,s5,s6,s7,s8,s9⟩;go_simp;with_reducible rfl⟩) (h:=?_)
              refine ta 13 (some 88) (ba 40 71008534527) aA dh hHeld (hy:=Or.inl ⟨by rfl,by rintro w' ⟨s0,s1,s2,s3,s4,s5,s6,s7,s8,s9⟩;go_simp;with_reducible rfl⟩) (h:=?_)
              refine pu 14 (some 89) (ba 40 71008550911) aA (h:=?_)
              refine ta 15 (some 90) (ba 40 71008583679) aA dh hHeld (hy:=Or.inl ⟨by rfl,by rintro w' ⟨s0,s1,s2,s3,s4,s5,s6,s7,s8,s9⟩;go_simp;with_reducible rfl⟩) (h:=?_)
              refine ta 16 (some 91) (ba 40 71008649215) aA dh hHeld (hy:=Or.inl ⟨by rfl,by rintro w' ⟨s0,s1,s2,s3,s4,s5,s6,s7,s8,s9⟩;go_simp;with_reducible rfl⟩) (h:=?_)
              refine pu 17 (some 92) (ba 40 71008780287) aA (h:=?_)
              refine ta 18 (some 93) (ba 40 71009042431) aA dh hHeld (hy:=Or.inl ⟨by rfl,by rintro w' ⟨s0,s1,s2,s3,s4,s5,s6,s7,s8,s9⟩;go_simp;with_reducible rfl⟩) (h:=?_)
              refine pu 19 (some 94) (ba 40 71009566719) aA (h:=?_)
              refine ta 23 (some 98) (ba 40 71017955327) aA dh hHeld (hy:=Or.inl ⟨by rfl,by rintro w' ⟨s0,s1,s2,s3,s4,s5,s6,s7,s8,s9⟩;go_simp;with_reducible rfl⟩) (h:=?_)
              refine ta 24 (some 99) (ba 40 71034732543) aA dh hHeld (hy:=Or.inl ⟨by rfl,by rintro w' ⟨s0,s1,s2,s3,s4,s5,s6,s7,s8,s9⟩;go_simp;with_reducible rfl⟩) (h:=?_)
              refine pu 25 (some 100) (ba 40 71068286975) aA (h:=?_)
              refine ta 26 (some 101) (ba 40 71135395839) aA dh hHeld (hy:=Or.inl ⟨by rfl,by rintro w' ⟨s0,s1,s2,s3,s4,s5,s6,s7,s8,s9⟩;go_simp;with_reducible rfl⟩) (h:=?_)
              refine ta 28 (some 103) (ba 40 71403831295) aA dh hHeld (hy:=Or.inl ⟨by rfl,by rintro w' ⟨s0,s1,s2,s3,s4,s5,s6,s7,s8,s9⟩;go_simp;with_reducible rfl⟩) (h:=?_)
              refine pu 29 (some 104) (ba 40 71940702207) aA (h:=?_)
              refine ta 30 (some 105) (ba 40 73014444031) aA dh hHeld (hy:=Or.inl ⟨by rfl,by rintro w' ⟨s0,s1,s2,s3,s4,s5,s6,s7,s8,s9⟩;go_simp;with_reducible rfl⟩) (h:=?_)
              refine pu 32 (some 107) (ba 40 77309411327) aA (h:=?_)
              refine ta 33 (some 108) (ba 40 85899345919) aA dh hHeld (hy:=Or.inl ⟨by rfl,by rintro w' ⟨s0,s1,s2,s3,s4,s5,s6,s7,s8,s9⟩;go_simp;with_reducible rfl⟩) (h:=?_)
              refine pu 34 (some 109) (ba 40 103079215103) aA (h:=?_)
              refine pu 35 (some 110) (ba 40 137438953471) aA (h:=?_)
              refine pu 37 (some 112) (ba 40 274877906943) aA (h:=?_)
              refine pu 38 (some 113) (ba 40 549755813887) aA (h:=?_)
              refine rU (i:=39) (N:=none) (ba 40 1099511627775) rfl rfl (kF aA.out (by kernel_rfl)) (by decide) (fun K hK=>?_)
              refine pP (w1:=?_) (by rfl) rfl ?_ ?_
              rotate_left;· go_simp;rfl
              refine hK.out _ _ ?_
              clear hK K
              refine lC (p_ aA.out (by kernel_rfl)) ?_
              try go_wp2
              (try simp only [← ou])
              first|go_roundg k5|(simp only [← qW];go_roundg k5)
              case measure=>have:=akl.out;have:=bz.out;have:=zG.out;have:=gv.out;have:=Ea.out;omega
              case rel=>exact ⟨(SP),(wrap64 (jW+1)),rs,(by first|exact H'|(rw [qW];exact H')),⟨by have:=akl.out;have:=bz.out;have:=zG.out;have:=gv.out;have:=Ea.out;omega⟩,⟨by (try simp only [fE]);(try simp only [kC]);(try simp only [kS]);(try simp only [ou]);(with_reducible repeat (first|apply Kd.gI|apply Kd.gJ|apply Kd.eT));exact MH.out⟩,⟨by (try simp only [fE]);(try simp only [kC]);(try simp only [kS]);(try simp only [ou]);(with_reducible repeat (first|refine ee ?_ _|refine ct ?_|refine dX ?_ _));refine fX ?_ (by have h_:=Kd.iD Ed.out fN.out (by decide);intro e_;exact h_ (by rw [e_];rfl)) _;exact bk⟩,⟨by repeat (first|(with_reducible first|exact HB.out|apply dA|apply akz|apply cP|refine dM ?_ TR.out|refine dM ?_ GJ.out)|exact HB.out)⟩⟩
             rw [if_pos c52] at H
             exact absurd H (by simp)
      rw [if_pos c17] at H
      have oN:=decide_eq_true c17
      clear c17
      obtain rfl:=Option.some.inj H
      go_wp2_with (first|((with_reducible refine cj (N:=8) rfl ?_);refine dJ ?hg (N:=8) ?hd (cs:=#[.int .i64 0]) (t:=3) ?hr ?_;(case hd=>rfl);(case hg=>rfl);(case hr=>first|(go_simp;done)|(go_simp;rfl));intro akR hg zq aK hb;replace az:=k0 (Kd.akP (aS az.out) hb);have fN:=k0 (aK);have GL:=k0 ((by rw [hg];exact (aU bl):w.heap.size≤akR));have GJ:=GL;replace HB:=k0 (aI bl hb);clear hb aK hg;have sI:zq.cell? ⟨akR,0,none⟩=some (.int .i64 0):=(av fN.out 0).trans rfl;have alg:=aH fN.out 0)|((with_reducible refine lf (t:=3) (p:=8) rfl ?_);refine lq (t:=3) (p:=8) (v:=?aj9) (w1:=(zq.setCell ⟨akR,0,none⟩ (.int .i64 akg))) ?hg ?ho ?hn ?hr ?_;(case ho=>rfl);(case hg=>rfl);(case hn=>rfl);(case hr=>first|(go_simp;done)|(go_simp;rfl));intro tI hw;have akf:au (Kd.S (Kd.slice 2 (Kd.int .i64)) 28 tI w.heap.size (fun _=>True) (.slice ke aE.length akK) aE):=⟨(by rw [hw];exact (by (with_reducible repeat (first|apply Kd.gI|apply Kd.gJ|apply Kd.eT));exact Kd.iK (Kd.tW (p:=⟨akR,0,none⟩) (Kd.zV az.out fN.out (by decide)) (fun _ hk=>hk.2) (.int .i64 akg)) (fun _ hk=>trivial)))⟩;have aD:au (tI.heap[akR]?=some (.cells #[.int .i64 akg] 3 (0,0))):=⟨(by rw [hw];exact (by (with_reducible repeat (first|refine ee ?_ _|refine ct ?_|refine dX ?_ _));refine nG (cs:=#[.int .i64 0]) ?_ 0 _ rfl;exact bk))⟩;have aJ:au (Below w.heap.size w tI):=⟨(by rw [hw];exact bl)⟩;clear hw;clear az;clear fN;clear HB;have az:=akf;have fN:=aD;have HB:=aJ;clear akf aD aJ;have Cj:tI.cell? ⟨akR,0,none⟩=some (.int .i64 akg):=(av fN.out 0).trans rfl;have Cr:=aH fN.out 0;have vS:(akg:Int)≤((aE.length:Int):Int):=oD;obtain ⟨i022,P6,_,QN,_⟩:=info_parts xo;have JX:aE.length≤akK:=(Kd.bY az.out).2.1;have OE:Kd.C (Kd.slice 2 (Kd.int .i64)) _ ke aE.length aE:=(Kd.bY az.out).2.2;have F2:(0:Int)≤(akg:Int):=oD;have Z9:=NS (P:=Try.prog) 22 28 .i64 Try.underlying22 P6 1 QN ke aE.length akK akg F2 vS;have CH:=Kd.L4 (m:=(akg:Int).toNat) (c:=akK) OE (by omega) JX;obtain ⟨LC,hA22⟩:∃ A1,A1=(if akK=(akg:Int).toNat then ke else (ke:Option Addr).map (·.add ((akg:Int).toNat * 1))):=⟨_,rfl⟩;obtain ⟨c22,Jf⟩:∃ c1,c1=akK - (akg:Int).toNat:=⟨_,rfl⟩;have Fy:nA.length=aE.length - (akg:Int).toNat:=(by rw [zM.out,List.length_drop]<;>omega);rw [show (aE).drop (akg:Int).toNat=nA from zM.out.symm] at CH;replace CH:Kd.C (Kd.slice 2 (Kd.int .i64)) _ LC nA.length nA:=(by rw [hA22];exact CH);rw [← Fy,← hA22,← Jf] at Z9;have p5:=k0 CH;have amy:=k0 (show nA.length≤c22 from by rw [Fy,Jf];exact Nat.sub_le_sub_right JX _);clear CH OE JX P6 QN Jf;have afG:=k0 Fy;have afC:=k0 hA22;clear Fy hA22;have afE:=k0 (show (akg:Int).toNat≤aE.length from by omega);replace vS:=eq_true vS)|((with_reducible refine cZ (f:=220) rfl ?_);refine c_ (some 34) rfl rfl Try.func220 (by kernel_rfl) rfl #[.slice LC nA.length c22,.func (.func 238) #[] #[.pointer (some ⟨akR,0,none⟩)]] rfl gm ?_;(with_reducible refine (oZ.calls k2 _ _ nA akg t116 _ ?akn ?aT ?cn oF.out).mono ?_);(case akn=>exact aC (by repeat (first|(with_reducible exact p5.out)|(with_reducible refine Kd.kK ?_ _)|(with_reducible refine Kd.kY ?_ _)|(with_reducible refine Kd.jY ?_)|exact p5.out)));(case aT=>exact amy.out);(case cn=>exact by exact bk);rintro e vW ⟨rfl,hb⟩;refine ⟨_,rfl,?_⟩;replace az:=k0 (Kd.akP (aS az.out) hb);replace fN:=k0 (akj (g:=akR) (o:=.cells #[.int .i64 akg] 3 (0,0)) bk hb);replace p5:=k0 (Kd.bA (by repeat (first|(with_reducible exact p5.out)|(with_reducible refine Kd.kK ?_ _)|(with_reducible refine Kd.kY ?_ _)|(with_reducible refine Kd.jY ?_)|exact p5.out)) hb);replace HB:=k0 (aI bl hb);(try clear hb)))
      go_ret
      exact ⟨by first|rfl|(simp [bq,bt]<;>rfl)|(simp [*,bq,bt]<;>rfl),bl⟩
   rw [if_pos c4] at H
   have eA:=decide_eq_true c4
   clear c4
   replace H:=iS H;obtain ⟨c5,H⟩:=H
   have iW:=decide_eq_true c5
   clear c5
   replace H:=iS H;obtain ⟨c6,H⟩:=H
   have akJ:=decide_eq_true c6
   clear c6
   replace H:=Option.bind_eq_some_iff.mp H
   obtain ⟨t105,ale,H⟩:=H
   replace H:(if bD.length < 5864062014805 then (bw.l0 k1 (bD ++ [t105]) 1 1 l0 (l0.length:Int) (wrap64 (ak_+1))) else (none))=some r:=H
   have A7:=k0 ale
   clear ale
   replace H:=iS H;obtain ⟨c8,H⟩:=H
   have amz:=k0 c8
   clear c8
   obtain ⟨mO,akO⟩:∃ y_:List (List Int),y_=(bD ++ [t105]):=⟨_,rfl⟩
   replace H:(bw.l0 k1 mO 1 1 l0 (l0.length:Int) (wrap64 (ak_+1)))=some r:=by first|(rw [akO];with_reducible exact H)|(have ay:=(Option.bind_some _ _).symm.trans H;rw [akO];with_reducible exact ay)|(have ay:=(Option.bind_some _ _).symm.trans H;with_reducible exact ay)|with_reducible exact H|(rw [akO];exact H)|exact H
   have alf:=k0 akO
   clear akO
   have H':=k0 H
   clear H
   have cS:0≤(ak_:Int):=oD
   have cT:ak_ < (l0.length:Int):=oD
   obtain ⟨ko,uG,uZ,e104,cM,lp,lg⟩:=cW fj.out ak_ cS cT
   cases e104
   replace cM:=hbc HB cM
   have rm:=k0 lg
   have uM:=k0 lp
   clear lg lp
   replace cS:=eq_true cS
   replace cT:=eq_true cT
   go_wp2_with (first|((with_reducible refine cZ (f:=151) rfl ?_);refine c_ (some 21) rfl rfl Try.func151 (by kernel_rfl) rfl #[.slice uG (ah l0 ak_).length uZ] rfl gm ?_;(with_reducible refine (nW.calls _ _ (ah l0 ak_) t105 _ ?akn ?aT A7.out).mono ?_);(case akn=>exact aC (Kd.bA rm.out HB.out));(case aT=>exact uM.out);rintro e w9 ⟨fY,rfl,ake,hb⟩;refine ⟨_,rfl,?_⟩;replace az:=k0 (Kd.g_ (aS az.out) (Kd.bW ake) hb);have cN:=k0 (Kd.dL ake (aU bl));replace HB:=k0 (aI bl hb);(try clear hb);(try clear ake);obtain ⟨zA,Ae,BL⟩:=Kd.eK cN.out;subst BL)|((with_reducible refine oQ (b:=.append) (xs:=#[.tmp 19,.tmp 22]) rfl ?_);at_builtin;refine Kd.Bm (Kd.slice 2 (Kd.int .i64)) (w0:=w) w.heap.size rfl (.tmp 19) (.tmp 22) 22 28 (.slice none 0 0) 24 rfl Try.underlying22 xo rfl (by decide) (by omega) u3 bD t105 [.slice zA t105.length Ae] (fun _=>True) (fun k_=>some k_=(.slice zA t105.length Ae:Value).ownBlock) rfl rfl ?aP (fun k_ jQ=>((Kd.bG (ok':=fun k_=>((fun _=>True)) k_∧some k_ ≠ (u3:Value).ownBlock) (Kd.lA (cN.out) (Kd.akQ az.out) (by decide)) (fun k_ hk=>⟨trivial,hk.2⟩))).1 k_ jQ.symm) ?aF ?aO ?aB ?aS ?aL ?_;(case aP=>exact Kd.rz (Kd.bG (Kd.si rfl (Kd.bG (ok':=fun k_=>((fun _=>True)) k_∧some k_ ≠ (u3:Value).ownBlock) (Kd.lA (cN.out) (Kd.akQ az.out) (by decide)) (fun k_ hk=>⟨trivial,hk.2⟩))) (fun _ h_=>h_)));(case aB=>exact bl);(case aF=>exact (fun _ _=>trivial));(case aO=>exact (by (with_reducible repeat (first|apply Kd.gI|apply Kd.gJ|apply Kd.eT));exact Kd.iK az.out (fun k_ hk=>⟨trivial,fun e_=>hk.2 e_⟩)));(case aS=>exact (aU bl));(case aL=>have:=amz.out;omega);intro v109 fF ho hb hg cy;rw [← alf.out] at ho;have akf:=k0 (hb);have aD:=k0 (ho);clear HB;clear az;clear cN;have HB:=akf;have zH:=aD;clear akf aD;clear ho hb hg cy))
   first|go_roundg k1|(simp only [← qW];go_roundg k1)
   case measure=>have:=akl.out;omega
   case rel=>exact ⟨(mO),(wrap64 (ak_+1)),rs,(by first|exact H'|(rw [qW];exact H')),⟨by have:=akl.out;omega⟩,⟨aS (zH.out)⟩,⟨bl⟩⟩
end Go.Proofs.Ytoebojnhchocaaa.C
/- Set with little white space, by a program. -/
