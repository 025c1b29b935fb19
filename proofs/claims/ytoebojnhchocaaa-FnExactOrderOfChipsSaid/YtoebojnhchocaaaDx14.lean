/- The functions that one law reaches, each as a Lean function, and that Go's call comes to what it says. Condition of each: that the Lean function answers (is not none). -/
import Derived.Test.YtoebojnhchocaaaDx0
import Derived.Test.YtoebojnhchocaaaDx11
import Derived.Test.YtoebojnhchocaaaDx13
namespace Go.Proofs.Ytoebojnhchocaaa.D
open Go.RowKit Go.Proofs.bR.eC Go.Proofs.bR.je Go.Proofs.bR.jO
attribute [local go_sem] max2_int min2_int max_two min_two max_three min_three max_four min_four   -- for this text's walks alone
set_option linter.unusedVariables false
set_option linter.unusedSimpArgs false
/-! ### F223: function 223 -/
mutual
def bD.l0 : Nat → List (List Int) → Int → Int → List (List Int) → Int → Int → Option (Int)
 | 0,_,_,_,_,_,_=>none
 | k+1,x3,x4,x5,gO,oJ,gx=>if gx < oJ then (if 0≤gx then (if gx < (gO.length:Int) then ((kr.f (ah gO gx)).bind fun t105=>(if x3.length < 5864062014805 then (bD.l0 k (x3 ++ [t105]) x4 x5 gO oJ (wrap64 (gx+1))) else (none))) else (none)) else (none)) else (bD.l1 k x3 x4 x5 (x3.length:Int) 0)
def bD.l1 : Nat → List (List Int) → Int → Int → Int → Int → Option (Int)
 | 0,_,_,_,_,_=>none
 | k+1,x3,x4,x5,fQ,fR=>if fR < fQ then (if 0≤fR then (if fR≤(x3.length:Int) then ((pz.f k (x3.drop (fR:Int).toNat) fR).bind fun t116=>(if t116 < 0 then (some 0) else (if t116 > 0 then (if 0≤(wrap64 (fR+t116)) then (if (wrap64 (fR+t116)) < (x3.length:Int) then (if fR < (x3.length:Int) then (bD.j2 k (swp x3 fR (wrap64 (fR+t116))) (wrap64 (-x4)) x5 fQ fR fR) else (none)) else (none)) else (none)) else (bD.j2 k x3 x4 x5 fQ fR fR)))) else (none)) else (none)) else (some (wrap64 (x4 * x5)))
def bD.j2 : Nat → List (List Int) → Int → Int → Int → Int → Int → Option (Int)
 | 0,_,_,_,_,_,_=>none
 | k+1,x3,x4,x5,fQ,fR,k8=>bD.l2 k x3 x4 x5 (wrap64 (k8+1)) fQ fR k8
def bD.l2 : Nat → List (List Int) → Int → Int → Int → Int → Int → Int → Option (Int)
 | 0,_,_,_,_,_,_,_=>none
 | k+1,x3,x4,x5,dS,fQ,fR,k8=>if dS < (x3.length:Int) then (bD.l3 k x3 x4 x5 dS (wrap64 (k8+1)) fQ fR k8) else (if 0≤k8 then (if k8 < (x3.length:Int) then (if k8 < ((ah x3 k8).length:Int) then (bD.l1 k x3 x4 (rd (ah x3 k8) k8) fQ (wrap64 (fR+1))) else (none)) else (none)) else (none))
def bD.l3 : Nat → List (List Int) → Int → Int → Int → Int → Int → Int → Int → Option (Int)
 | 0,_,_,_,_,_,_,_,_=>none
 | k+1,x3,x4,x5,dS,eO,fQ,fR,k8=>if eO < (x3.length:Int) then (if 0≤dS then (if dS < (x3.length:Int) then (if 0≤eO then (if eO < ((ah x3 dS).length:Int) then (if 0≤k8 then (if k8 < (x3.length:Int) then (if k8 < ((ah x3 k8).length:Int) then (if k8 < ((ah x3 dS).length:Int) then (if eO < ((ah x3 k8).length:Int) then (if x5=0 then (none) else (bD.l3 k (x3.set (dS:Int).toNat ((ah x3 dS).set (eO:Int).toNat (wrap64 (Int.tdiv (wrap64 ((wrap64 ((rd (ah x3 dS) eO) * (rd (ah x3 k8) k8))) - (wrap64 ((rd (ah x3 dS) k8) * (rd (ah x3 k8) eO))))) x5)))) x4 x5 dS (wrap64 (eO+1)) fQ fR k8)) else (none)) else (none)) else (none)) else (none)) else (none)) else (none)) else (none)) else (none)) else (none)) else (bD.l2 k x3 x4 x5 (wrap64 (dS+1)) fQ fR k8)
end
def bD.f (k:Nat) (l0:List (List Int)):Option (Int):=bD.l0 k (([]:List (List Int))) 1 1 l0 (l0.length:Int) 0
theorem bD.bU : ∀ k, (∀ y0 y1 y2 y3 y4 y5, aj (bD.l0 k y0 y1 y2 y3 y4 y5) (bD.l0 (k + 1) y0 y1 y2 y3 y4 y5)) ∧ (∀ y0 y1 y2 y3 y4, aj (bD.l1 k y0 y1 y2 y3 y4) (bD.l1 (k + 1) y0 y1 y2 y3 y4)) ∧ (∀ y0 y1 y2 y3 y4 y5, aj (bD.j2 k y0 y1 y2 y3 y4 y5) (bD.j2 (k + 1) y0 y1 y2 y3 y4 y5)) ∧ (∀ y0 y1 y2 y3 y4 y5 y6, aj (bD.l2 k y0 y1 y2 y3 y4 y5 y6) (bD.l2 (k + 1) y0 y1 y2 y3 y4 y5 y6)) ∧ (∀ y0 y1 y2 y3 y4 y5 y6 y7, aj (bD.l3 k y0 y1 y2 y3 y4 y5 y6 y7) (bD.l3 (k + 1) y0 y1 y2 y3 y4 y5 y6 y7))
 | 0=>⟨fun _ _ _ _ _ _ r h=>by simp [bD.l0] at h,fun _ _ _ _ _ r h=>by simp [bD.l1] at h,fun _ _ _ _ _ _ r h=>by simp [bD.j2] at h,fun _ _ _ _ _ _ _ r h=>by simp [bD.l2] at h,fun _ _ _ _ _ _ _ _ r h=>by simp [bD.l3] at h⟩
 | k+1=>by
  obtain ⟨alg,ih1,ih2,ih3,ih4⟩:=bD.bU k
  refine ⟨?_, ?_, ?_, ?_, ?_⟩ <;> intros <;> (first | unfold bD.l0 | unfold bD.l1 | unfold bD.j2 | unfold bD.l2 | unfold bD.l3) <;> repeat' first
   | (with_reducible first|exact alg _ _ _ _ _ _|exact ih1 _ _ _ _ _|exact ih2 _ _ _ _ _ _|exact ih3 _ _ _ _ _ _ _|exact ih4 _ _ _ _ _ _ _ _|exact pz.mono _ _ _|exact aj.refl _|exact aj.none _|refine aj.ite ?_ ?_|refine aj.bind ?_ (fun _=>?_))
   | exact alg _ _ _ _ _ _|exact ih1 _ _ _ _ _|exact ih2 _ _ _ _ _ _|exact ih3 _ _ _ _ _ _ _|exact ih4 _ _ _ _ _ _ _ _|exact pz.mono _ _ _|exact aj.none _|refine aj.ite ?_ ?_|refine aj.bind ?_ (fun _=>?_)
theorem bD.mono:∀ a0 k,aj (bD.f k a0) (bD.f (k+1) a0):=by
 intro a0 k
 obtain ⟨alg,ih1,ih2,ih3,ih4⟩:=bD.bU k
 unfold bD.f
 repeat' first
  | (with_reducible first|exact alg _ _ _ _ _ _|exact ih1 _ _ _ _ _|exact ih2 _ _ _ _ _ _|exact ih3 _ _ _ _ _ _ _|exact ih4 _ _ _ _ _ _ _ _|exact pz.mono _ _ _|exact aj.refl _|exact aj.none _|refine aj.ite ?_ ?_|refine aj.bind ?_ (fun _=>?_))
  | exact alg _ _ _ _ _ _|exact ih1 _ _ _ _ _|exact ih2 _ _ _ _ _ _|exact ih3 _ _ _ _ _ _ _|exact ih4 _ _ _ _ _ _ _ _|exact pz.mono _ _ _|exact aj.none _|refine aj.ite ?_ ?_|refine aj.bind ?_ (fun _=>?_)
def bD.Og:Bool × List (List Nat × List Nat):=(true,[([],[]),([],[]),([],[]),([],[]),([],[]),([3,4],[3,4]),([],[]),([],[]),([],[]),([7,8],[7,8]),([6,9],[6,9]),([10],[10]),([],[]),([],[]),([12,13],[12,13]),([14],[14]),([],[]),([16],[16]),([0,1,0,1,6,7,8,9,10,11,15],[0,1]),([18,11,0,1,6,7,8,9,10,11,15],[11,18]),([2,5,0,1,2,3,4,5,6,7,8,9,10,11,12,13,14,15,18,19],[2,5]),([20,15,19,0,1,2,3,4,5,6,7,8,9,10,11,12,13,14,15,18,19],[15,20]),([17,21,0,1,2,3,4,5,6,7,8,9,10,11,12,13,14,15,16,17,18,19,20,21],[16,17])])
def bD.Uk:List Nat:=[0,0,0,0,0,24,0,0,0,384,960,1984,0,0,12288,28672,0,65536,65475,327619,851967,1900543,4194303]
theorem bD.aeZ:gv .any (opsOf Try.f223 14)=bD.Og:=by kernel_rfl
theorem bD.an6:mN bD.Og.2 bD.Uk=true:=by kernel_rfl
def bD.Oi:Bool × List (List Nat × List Nat):=(true,[([],[]),([],[]),([0,1],[0,1]),([2],[2]),([],[]),([],[]),([],[]),([5,6],[5,6]),([7],[7]),([],[]),([8,9],[8,9]),([10],[10]),([],[]),([],[]),([12,13],[12,13]),([14],[14]),([],[]),([15,16],[15,16]),([17],[17]),([11,18],[11,18]),([],[]),([],[]),([20,21],[20,21]),([22],[22]),([],[]),([23,24],[23,24]),([25],[25]),([],[]),([],[]),([27,28],[27,28]),([29],[29]),([],[]),([30,31],[30,31]),([32],[32]),([26,33],[26,33]),([19,34],[19,34]),([],[]),([35,36],[35,36]),([3,4,0,1,2,3,4,5,6,7,8,9,10,11,12,13,14,15,16,17,18,19,20,21,22,23,24,25,26,27,28,29,30,31,32,33,34,35,36,37],[3,4]),([38,37,0,1,2,3,4,5,6,7,8,9,10,11,12,13,14,15,16,17,18,19,20,21,22,23,24,25,26,27,28,29,30,31,32,33,34,35,36,37],[37,38])])
def bD.Um:List Nat:=[0,0,3,7,0,0,0,96,224,0,992,2016,0,0,12288,28672,0,126976,258048,524256,0,0,3145728,7340032,0,32505856,66060288,0,0,402653184,939524096,0,4160749568,8455716864,17178820608,34359738336,0,137438953440,274877906943,549755813887]
theorem bD.ae1:gv .any (opsOf Try.f223 21)=bD.Oi:=by kernel_rfl
theorem bD.an8:mN bD.Oi.2 bD.Um=true:=by kernel_rfl
def bD.Oj:Bool × List (List Nat × List Nat):=(true,[([],[]),([],[]),([0,1],[0,1]),([2],[2]),([],[]),([3,4],[3,4]),([5],[5]),([6,0,1,2,3,4,5,6],[6])])
def bD.Un:List Nat:=[0,0,3,7,0,31,63,127]
theorem bD.ae2:gv .any (opsOf Try.f223 22)=bD.Oj:=by kernel_rfl
theorem bD.W3:mN bD.Oj.2 bD.Un=true:=by kernel_rfl
set_option maxHeartbeats 8000000 in
set_option maxRecDepth 100000 in
theorem bD.calls (k : Nat) (A0 : Option Addr) (c0 : Nat) (l0 : List (List Int)) (r : Int) (w : World) (cS : Kd.C (Kd.slice 2 (Kd.int .i64)) w A0 l0.length l0) (hc0 : l0.length ≤ c0) (h : bD.f k l0 = some r) :
  Calls Try.prog 223 #[.slice A0 l0.length c0] w fun e w'=>e=.returned (.int .i64 r)∧Below w.heap.size w w':=by
 have fe:=k0 cS
 have alR:=k0 hc0
 clear cS hc0
 have HB:=k0 (Below.refl w.heap.size w)
 have H:(bD.l0 k (([]:List (List Int))) 1 1 l0 (l0.length:Int) 0)=some r:=h
 clear h
 obtain ⟨jx,gf⟩:∃ y_:List (List Int),y_=(([]:List (List Int))):=⟨_,rfl⟩
 replace H:(bD.l0 k jx 1 1 l0 (l0.length:Int) 0)=some r:=by first|(rw [gf];with_reducible exact H)|(have ax:=(Option.bind_some _ _).symm.trans H;rw [gf];with_reducible exact ax)|(have ax:=(Option.bind_some _ _).symm.trans H;with_reducible exact ax)|with_reducible exact H|(rw [gf];exact H)|exact H
 have mq:=k0 gf
 clear gf
 have H':=k0 H
 clear H
 go_enter Try.func223,Try.ntmps223
 go_wp2_with (first|((with_reducible refine cj (N:=12) rfl ?_);refine Kd.Ca (Kd.slice 2 (Kd.int .i64)) _ 28 ?hg (N:=12) ?hd (xs:=([]:List (List Int))) (inner:=[]) (ok:=fun _=>True) (b9:=fun _=>True) ?hr ?hp (fun _ hk=>hk) trivial (Below.refl _ _) (Nat.le_refl _) (by simp) ?_;(case hd=>rfl);(case hg=>rfl);(case hr=>first|(go_simp;done)|(go_simp;rfl));(case hp=>exact (bW.none _ _));intro mg w2 th hb dF dG;clear dF dG;(first|rw [← mq.out] at th|(simp only [Int.reduceToNat] at th;rw [← mq.out] at th));have kU:=k0 (Kd.oR th (alk bl));replace HB:=k0 (aI bl hb);clear hb th))
 go_loopg [3,15] k (fun kq v3 Mf w'=>∃ (bC:List (List Int)) (rA:Int),Mf=.int .i64 rA∧au (bD.l0 kq bC 1 1 l0 (l0.length:Int) rA=some r)∧au (kq≤k)∧au (Kd.S (Kd.slice 2 (Kd.int .i64)) 28 w' w.heap.size (fun _=>True) v3 bC)∧au (Below w.heap.size w w'))
 case atStart=>exact ⟨(jx),(0),rs,H',⟨Nat.le_refl _⟩,⟨aS (kU.out)⟩,⟨bl⟩⟩
 case round =>
  clear H'
  obtain ⟨bC,rA,rfl,HA,alj,ald,HB⟩:=hrel
  cases gk with
  | zero=>exact absurd HA.out (by simp [bD.l0])
  | succ k1 =>
   have H:=HA.out
   clear HA
   simp only [bD.l0] at H
   by_cases c4:rA < (l0.length:Int)
   case neg =>
    rw [if_neg c4] at H
    have eD:decide (rA < (l0.length:Int))=false:=decide_eq_false c4
    clear c4
    have H':=k0 H
    clear H
    obtain ⟨ko,g_,yC⟩:=Kd.pF ald.out
    subst yC
    go_wp2
    go_loopg [4,5,27] k1 (fun kq v4 v5 Ez w'=>∃ (ale:List (List Int)) (tX:Int) (alo:Int) (alf:Int),v4=.int .i64 tX∧v5=.int .i64 alo∧Ez=.int .i64 alf∧au (bD.l1 kq ale tX alo (bC.length:Int) alf=some r)∧au (kq≤k1)∧au (Kd.S (Kd.slice 2 (Kd.int .i64)) 28 w' w.heap.size (fun _=>True) (.slice ko bC.length g_) ale)∧au (Below w.heap.size w w'))
    case atStart=>exact ⟨(bC),(1),(1),(0),rs,rs,rs,H',⟨Nat.le_refl _⟩,⟨aS (ald.out)⟩,⟨bl⟩⟩
    case round =>
     clear H'
     (try clear c4);(try clear eD);(try clear c5);(try clear alS);(try clear c6);(try clear gB);(try clear c8);(try clear cM);(try clear cT);(try clear cU)
     obtain ⟨ale,tX,alo,alf,rfl,rfl,rfl,HA,bB,ald,HB⟩:=hrel
     have fF:=(Kd.alw ald.out).1
     rw [fF] at ald
     (try simp only [fF])
     cases gk with
     | zero=>exact absurd HA.out (by simp [bD.l1])
     | succ k2 =>
      have H:=HA.out
      clear HA
      simp only [bD.l1] at H
      by_cases c13:alf < (bC.length:Int)
      case neg =>
       rw [if_neg c13] at H
       have alV:decide (alf < (bC.length:Int))=false:=decide_eq_false c13
       (try simp only [fF] at alV)
       clear c13
       obtain rfl:=Option.some.inj H
       go_wp2
       go_ret
       exact ⟨by first|rfl|(simp [bz,bA]<;>rfl)|(simp [*,bz,bA]<;>rfl),bl⟩
      rw [if_pos c13] at H
      have alV:=decide_eq_true c13
      (try simp only [fF] at alV)
      clear c13
      replace H:=iS H;obtain ⟨c14,H⟩:=H
      have kH:=eq_true c14
      have Aw:=decide_eq_true c14
      clear c14
      replace H:=iS H;obtain ⟨c15,H⟩:=H
      have jD:=eq_true c15
      have oV:=decide_eq_true c15
      (try simp only [fF] at oV)
      clear c15
      obtain ⟨ny,tD⟩:∃ y_:List (List Int),y_=(ale.drop (alf:Int).toNat):=⟨_,rfl⟩
      replace H:((pz.f k2 ny alf).bind fun t116=>(if t116 < 0 then (some 0) else (if t116 > 0 then (if 0≤(wrap64 (alf+t116)) then (if (wrap64 (alf+t116)) < (ale.length:Int) then (if alf < (ale.length:Int) then (bD.j2 k2 (swp ale alf (wrap64 (alf+t116))) (wrap64 (-tX)) alo (bC.length:Int) alf alf) else (none)) else (none)) else (none)) else (bD.j2 k2 ale tX alo (bC.length:Int) alf alf))))=some r:=by first|(rw [tD];with_reducible exact H)|(have ax:=(Option.bind_some _ _).symm.trans H;rw [tD];with_reducible exact ax)|(have ax:=(Option.bind_some _ _).symm.trans H;with_reducible exact ax)|with_reducible exact H|(rw [tD];exact H)|exact H
      have z_:=k0 tD
      clear tD
      replace H:=Option.bind_eq_some_iff.mp H
      obtain ⟨t116,al4,H⟩:=H
      replace H:(if t116 < 0 then (some 0) else (if t116 > 0 then (if 0≤(wrap64 (alf+t116)) then (if (wrap64 (alf+t116)) < (ale.length:Int) then (if alf < (ale.length:Int) then (bD.j2 k2 (swp ale alf (wrap64 (alf+t116))) (wrap64 (-tX)) alo (bC.length:Int) alf alf) else (none)) else (none)) else (none)) else (bD.j2 k2 ale tX alo (bC.length:Int) alf alf)))=some r:=H
      have oL:=k0 al4
      clear al4
      by_cases c17:t116 < 0
      case neg =>
       rw [if_neg c17] at H
       have oW:decide (t116 < 0)=false:=decide_eq_false c17
       clear c17
       have anR:=k0 H
       clear H
       go_upto_if 38 with (first|((with_reducible refine cj (N:=8) rfl ?_);refine dK ?hg (N:=8) ?hd (cs:=#[.int .i64 0]) (t:=3) ?hr ?_;(case hd=>rfl);(case hg=>rfl);(case hr=>first|(go_simp;done)|(go_simp;rfl));intro j5 hg zG aJ hb;replace ald:=k0 (Kd.kY (aS ald.out) hb);have fK:=k0 (aJ);have anK:=k0 ((by rw [hg];exact (alk bl):w.heap.size≤j5));have anI:=anK;replace HB:=k0 (aI bl hb);clear hb aJ hg;have C8:zG.cell? ⟨j5,0,none⟩=some (.int .i64 0):=(av fK.out 0).trans rfl;have Df:=aD fK.out 0)|((with_reducible refine lF (t:=3) (p:=8) rfl ?_);refine lJ (t:=3) (p:=8) (v:=?ak9) (w1:=(zG.setCell ⟨j5,0,none⟩ (.int .i64 alf))) ?hg ?ho ?hn ?hr ?_;(case ho=>rfl);(case hg=>rfl);(case hn=>rfl);(case hr=>first|(go_simp;done)|(go_simp;rfl));intro zH hw;have aE:au (Kd.S (Kd.slice 2 (Kd.int .i64)) 28 zH w.heap.size (fun _=>True) (.slice ko ale.length g_) ale):=⟨(by rw [hw];exact (by (with_reducible repeat (first|apply Kd.gK|apply Kd.alH|apply Kd.eW));exact Kd.iF (Kd.uk (p:=⟨j5,0,none⟩) (Kd.Ak ald.out fK.out (by decide)) (fun _ hk=>hk.2) (.int .i64 alf)) (fun _ hk=>trivial)))⟩;have aH:au (zH.heap[j5]?=some (.cells #[.int .i64 alf] 3 (0,0))):=⟨(by rw [hw];exact (by (with_reducible repeat (first|refine eg ?_ _|refine cw ?_|refine dV ?_ _));refine nH (cs:=#[.int .i64 0]) ?_ 0 _ rfl;exact bk))⟩;have aK:au (Below w.heap.size w zH):=⟨(by rw [hw];exact bl)⟩;clear hw;clear ald;clear fK;clear HB;have ald:=aE;have fK:=aH;have HB:=aK;clear aE aH aK;have C9:zH.cell? ⟨j5,0,none⟩=some (.int .i64 alf):=(av fK.out 0).trans rfl;have Dg:=aD fK.out 0;have oG:(alf:Int)≤((ale.length:Int):Int):=oD;obtain ⟨i029,Q5,_,RO,_⟩:=info_parts xI;have KW:ale.length≤g_:=(Kd.alw ald.out).2.1;have PU:Kd.C (Kd.slice 2 (Kd.int .i64)) _ ko ale.length ale:=(Kd.alw ald.out).2.2;have GP:(0:Int)≤(alf:Int):=oD;have aaE:=OZ (P:=Try.prog) 22 28 .i64 Try.underlying22 Q5 1 RO ko ale.length g_ alf GP oG;have Dw:=Kd.M0 (m:=(alf:Int).toNat) (c:=g_) PU (by omega) KW;obtain ⟨EM,hA29⟩:∃ A1,A1=(if g_=(alf:Int).toNat then ko else (ko:Option Addr).map (·.add ((alf:Int).toNat * 1))):=⟨_,rfl⟩;obtain ⟨c29,Ki⟩:∃ c1,c1=g_ - (alf:Int).toNat:=⟨_,rfl⟩;have Gl:ny.length=ale.length - (alf:Int).toNat:=(by rw [z_.out,List.length_drop]<;>omega);rw [show (ale).drop (alf:Int).toNat=ny from z_.out.symm] at Dw;replace Dw:Kd.C (Kd.slice 2 (Kd.int .i64)) _ EM ny.length ny:=(by rw [hA29];exact Dw);rw [← Gl,← hA29,← Ki] at aaE;have qa:=k0 Dw;have anO:=k0 (show ny.length≤c29 from by rw [Gl,Ki];exact Nat.sub_le_sub_right KW _);clear Dw PU KW Q5 RO Ki;have agq:=k0 Gl;have agm:=k0 hA29;clear Gl hA29;have ago:=k0 (show (alf:Int).toNat≤ale.length from by omega);replace oG:=eq_true oG)|((with_reducible refine dx (f:=220) rfl ?_);refine dy (some 34) rfl rfl Try.func220 (by kernel_rfl) rfl #[.slice EM ny.length c29,.func (.func 238) #[] #[.pointer (some ⟨j5,0,none⟩)]] rfl gm ?_;(with_reducible refine (pz.calls k2 _ _ ny alf t116 _ ?aT ?aU ?cy oL.out).mono ?_);(case aT=>exact aC (by repeat (first|(with_reducible exact qa.out)|(with_reducible refine Kd.kQ ?_ _)|(with_reducible refine Kd.alZ ?_ _)|(with_reducible refine Kd.jZ ?_)|exact qa.out)));(case aU=>exact anO.out);(case cy=>exact by exact bk);rintro e TB ⟨rfl,hb⟩;refine ⟨_,rfl,?_⟩;replace ald:=k0 (Kd.kY (aS ald.out) hb);replace fK:=k0 (alm (g:=j5) (o:=.cells #[.int .i64 alf] 3 (0,0)) bk hb);replace qa:=k0 (Kd.bK (by repeat (first|(with_reducible exact qa.out)|(with_reducible refine Kd.kQ ?_ _)|(with_reducible refine Kd.alZ ?_ _)|(with_reducible refine Kd.jZ ?_)|exact qa.out)) hb);replace HB:=k0 (aI bl hb);(try clear hb)))
       (try simp only [Act.put,zI,zZ,zS])
       go_cut [4] (fun v4 wc=>∃ (kq:Nat) (EE:List (List Int)) (amO:Int),v4=.int .i64 amO∧au (bD.j2 kq EE amO alo (bC.length:Int) alf alf=some r)∧au (kq≤k2)∧au (Kd.S (Kd.slice 2 (Kd.int .i64)) 28 wc w.heap.size (fun _=>True) (.slice ko ale.length g_) EE)∧au (wc.heap[j5]?=some (.cells #[.int .i64 alf] 3 (0,0)))∧au (Below w.heap.size w wc))
       case first =>
        have H:=anR.out
        clear anR
        by_cases c31:t116 > 0
        case neg =>
         rw [if_neg c31] at H
         have oh:decide (0 < t116)=false:=decide_eq_false c31
         clear c31
         (first|rw [oh]|(simp only [cl,cv];rw [oh])|skip)
         have H':=k0 H
         clear H
         go_wp2
         go_meet
         case rel=>exact ⟨_,(ale),(tX),rs,(by first|exact H'|(rw [ame];exact H')),⟨by have:=alj.out;have:=bB.out;first|omega|exact Nat.le_refl _⟩,⟨by (try simp only [fF]);(with_reducible repeat (first|apply Kd.gK|apply Kd.alH|apply Kd.eW));exact ald.out⟩,⟨by (try simp only [fF]);exact bk⟩,⟨bl⟩⟩
        rw [if_pos c31] at H
        have oh:=decide_eq_true c31
        clear c31
        (first|rw [oh]|(simp only [cl,cv];rw [oh])|skip)
        obtain ⟨o7,ame⟩:∃ j_:Int,(wrap64 (alf+t116))=j_:=⟨_,rfl⟩
        replace H:(if 0≤(o7) then (if (o7) < (ale.length:Int) then (if alf < (ale.length:Int) then (bD.j2 k2 (swp ale alf (o7)) (wrap64 (-tX)) alo (bC.length:Int) alf alf) else (none)) else (none)) else (none))=some r:=by first|(rw [ame] at H;exact H)|(simp only [ame] at H ⊢;exact H)
        have aiL:(IntKind.i64.wrap (alf+t116))=o7:=(cl _).trans ame
        replace H:=iS H;obtain ⟨c33,H⟩:=H
        have Cn:=decide_eq_true c33
        clear c33
        replace H:=iS H;obtain ⟨c34,H⟩:=H
        have vC:=decide_eq_true c34
        (try simp only [fF] at vC)
        clear c34
        replace H:=iS H;obtain ⟨c35,H⟩:=H
        have Az:=decide_eq_true c35
        (try simp only [fF] at Az)
        clear c35
        obtain ⟨wk,oB⟩:∃ y_:List (List Int),y_=(swp ale alf (o7)):=⟨_,rfl⟩
        replace H:(bD.j2 k2 wk (wrap64 (-tX)) alo (bC.length:Int) alf alf)=some r:=by first|(rw [oB];with_reducible exact H)|(have ax:=(Option.bind_some _ _).symm.trans H;rw [oB];with_reducible exact ax)|(have ax:=(Option.bind_some _ _).symm.trans H;with_reducible exact ax)|with_reducible exact H|(rw [oB];exact H)|exact H
        have anq:=k0 oB
        clear oB
        have H':=k0 H
        clear H
        try go_wp2
        replace ald:=k0 (Kd.eW ald.out);replace fK:=k0 (cw fK.out);replace qa:=k0 (Kd.jZ qa.out);replace HB:=k0 (cP HB.out)
        have nj:0≤((o7):Int):=oD
        have nr:(o7) < (ale.length:Int):=oD
        obtain ⟨yo,an1,Xu,e117,l_,Rp,Q9⟩:=cX (Kd.alw ald.out).2.2 (o7) nj nr
        cases e117
        obtain ⟨agS,aak,Z7,Qo⟩:=Kd.mB ald.out [] (o7) nj (by first|exact nr|exact oD|(have e_:=(Kd.alw ald.out).1;omega))
        obtain ⟨akO,rfl,JO⟩:=Z7
        have DD:=Qo 0 _ rfl
        rw [Nat.add_zero,show ((Kd.slice 2 (Kd.int .i64))).sz=1 from rfl,Nat.mul_one] at DD
        replace DD:=Option.some.inj (DD.symm.trans l_)
        rw [DD] at JO
        have U_:=k0 (show Kd.R (Kd.int .i64) 2 _ _ _ _ (ah ale (o7)) from JO)
        clear DD JO
        have ano:=k0 l_
        clear Qo aak
        have Vt:=k0 Q9
        have af4:=k0 Rp
        clear Q9 Rp
        replace nj:=eq_true nj
        replace nr:=eq_true nr
        have nk:0≤(alf:Int):=oD
        have nt:alf < (ale.length:Int):=oD
        obtain ⟨Al,T2,Xv,e118,mJ,Rq,Q_⟩:=cX (Kd.alw ald.out).2.2 alf nk nt
        obtain rfl:yo=Al:=(by injection e118)
        obtain ⟨agT,aal,Z8,Qp⟩:=Kd.mB ald.out [] alf nk (by first|exact nt|exact oD|(have e_:=(Kd.alw ald.out).1;omega))
        obtain ⟨akP,rfl,JP⟩:=Z8
        have DE:=Qp 0 _ rfl
        rw [Nat.add_zero,show ((Kd.slice 2 (Kd.int .i64))).sz=1 from rfl,Nat.mul_one] at DE
        replace DE:=Option.some.inj (DE.symm.trans mJ)
        rw [DE] at JP
        have Va:=k0 (show Kd.R (Kd.int .i64) 2 _ _ _ _ (ah ale alf) from JP)
        clear DE JP
        have ID:=k0 mJ
        clear Qp aal
        have Vu:=k0 Q_
        have af5:=k0 Rq
        clear Q_ Rq
        replace nk:=eq_true nk
        replace nt:=eq_true nt
        have amz:0≤(alf:Int):=oD
        have wh:(alf:Int) < ((ale.length:Int):Int):=oD
        obtain ⟨FM,sJ,FE,PG,ZA,ahc,Np⟩:=Kd.Od ald.out (by omega)
        (first|cases FE|(injection FE with bh dm di;(first|subst bh|(injection bh with bh;subst bh));subst di;clear dm))
        have M8:=k0 PG
        have UX:=k0 Np
        clear PG ZA Np
        (first|simp only [add_plain] at l_|skip)
        (first|simp only [add_plain] at mJ|skip)
        obtain ⟨_,ag5,aay,P8,QB,QW,_,_⟩:=Kd.I1 ald.out [] (alf:Int) amz wh
        obtain ⟨ak1,rfl,aho⟩:=P8
        have DR:=QB 0 _ rfl
        have QN:=QW 0
        (try simp only [show ((Kd.slice 2 (Kd.int .i64))).sz=1 from rfl,Nat.mul_one,Nat.add_zero] at DR)
        (try simp only [show ((Kd.slice 2 (Kd.int .i64))).sz=1 from rfl,Nat.mul_one,Nat.add_zero] at QN)
        (try clear P8);clear aay QB QW
        replace amz:=eq_true amz
        replace wh:=eq_true wh
        have NC:=WA ald.out (alf:Int) ((o7):Int) oD (by have h_:(alf:Int) < ((ale.length:Int):Int):=oD;first|exact h_|(have e_:=(Kd.alw ald.out).1;omega)|simpa using h_) oD (by have h_:((o7):Int) < ((ale.length:Int):Int):=oD;first|exact h_|(have e_:=(Kd.alw ald.out).1;omega)|simpa using h_) (by first|exact ID.out|simpa only [add_plain,l6,Nat.mul_one,Nat.zero_add,Nat.add_zero] using ID.out) (by first|exact ano.out|simpa only [add_plain,l6,Nat.mul_one,Nat.zero_add,Nat.add_zero] using ano.out)
        obtain ⟨Gj,aa9⟩:=Ww ald.out (alf:Int) ((o7):Int) oD (by have h_:(alf:Int) < ((ale.length:Int):Int):=oD;first|exact h_|(have e_:=(Kd.alw ald.out).1;omega)|simpa using h_) oD (by have h_:((o7):Int) < ((ale.length:Int):Int):=oD;first|exact h_|(have e_:=(Kd.alw ald.out).1;omega)|simpa using h_) (by first|exact ano.out|simpa only [add_plain,l6,Nat.mul_one,Nat.zero_add,Nat.add_zero] using ano.out)
        have ann:=k0 NC.1
        (have h_:=ann.out;rw [← anq.out] at h_;have NK:=k0 h_;clear h_ ann;have ann:=NK;clear NK)
        clear NC
        refine lU (n:=23) (S:=fun w'=>w'.cell? ⟨j5,0,none⟩=some (.int .i64 alf)∧w'.cell? ⟨FM,((o7)).toNat,none⟩=some (.slice an1 (ah ale (o7)).length Xu)∧w'.cell? ⟨FM,(alf).toNat,none⟩=some (.slice T2 (ah ale alf).length Xv)) (ds:=[19,21]) (ba 23 0) (by kernel_rfl) rfl rfl ⟨(av fK.out 0).trans rfl,l_,mJ⟩ (fun hHeld=>?_);refine pW bD.aeZ bD.an6 (fun ay cZ=>?_)
        generalize TB.drew=BC at ald fK qa HB UX U_ Va ann Vt Vu ano ID QN aa9 l_ mJ DR Gj hHeld ⊢
        refine pu 0 (some 39) (ba 23 1) ay (h:=?_)
        refine pu 2 (some 41) (ba 23 5) ay (h:=?_)
        refine pu 4 (some 43) (ba 23 21) ay (h:=?_)
        refine pu 6 (some 45) (ba 23 85) ay (h:=?_)
        refine pu 8 (some 47) (ba 23 341) ay (h:=?_)
        refine pu 12 (some 51) (ba 23 4437) ay (h:=?_)
        refine pu 16 (some 55) (ba 23 69973) ay (h:=?_)
        refine pu 17 (some 56) (ba 23 201045) ay (h:=?_)
        refine ta 1 (some 40) (ba 23 201047) ay cZ hHeld (hy:=Or.inl ⟨by rfl,by rintro w' ⟨s0,s1,s2⟩;go_simp;with_reducible rfl⟩) (h:=?_)
        refine ta 7 (some 46) (ba 23 201175) ay cZ hHeld (hy:=Or.inl ⟨by rfl,by rintro w' ⟨s0,s1,s2⟩;go_simp;with_reducible rfl⟩) (h:=?_)
        refine pu 9 (some 48) (ba 23 201687) ay (h:=?_)
        refine pu 10 (some 49) (ba 23 202711) ay (h:=?_)
        refine ta 11 (some 50) (ba 23 204759) ay cZ hHeld (hy:=Or.inl ⟨by rfl,by rintro w' ⟨s0,s1,s2⟩;go_simp;with_reducible rfl⟩) (h:=?_)
        refine ta 13 (some 52) (ba 23 212951) ay cZ hHeld (hy:=Or.inl ⟨by rfl,by rintro w' ⟨s0,s1,s2⟩;go_simp;with_reducible rfl⟩) (h:=?_)
        refine pu 14 (some 53) (ba 23 229335) ay (h:=?_)
        refine ta 15 (some 54) (ba 23 262103) ay cZ hHeld (hy:=Or.inl ⟨by rfl,by rintro w' ⟨s0,s1,s2⟩;go_simp;with_reducible rfl⟩) (h:=?_)
        refine pu 18 (some 57) (ba 23 524247) ay (h:=?_)
        refine ads (i:=3) (d:=19) (Ni:=some 42) (FI:=?jQ) (l3:=(ba 23 1048575)) (a3:=?a3_) (w3:=?w3_) (ba 23 524255) (ba 23 1048535) rfl rfl rfl rfl (by kernel_rfl) (by decide) (fun hf K hK=>?A_) (fun hf K hK=>?B_) ?M_
        case A_ =>
         refine G5 (w1:=?_) (v:=?_) (by rfl) rfl ?_ ?_
         rotate_left 2
         ·go_simp
          constructor
          ·rfl
          ·rfl
         refine hK.out _ ?_
         clear hK K
         refine cQ (a':=?_) ?_ ?_
         rotate_left;· show Act.put _ (some 42) _=_;simp only [Act.put,zI,zZ,zS,cl,cv];rfl
         refine pu 5 (some 44) (ba 23 524287) ay (h:=?_)
         refine qE (i:=19) (N:=none) (ba 23 1048575) rfl rfl (kg ay.out (by kernel_rfl)) (by decide) (fun K hK=>?_)
         refine pV (w1:=?_) (by rfl) rfl ?_ ?_
         rotate_left;· go_simp;rfl
         refine hK.out _ _ ?_
         clear hK K
         exact hf
        case B_ =>
         refine pV (w1:=?_) (by rfl) rfl ?_ ?_
         rotate_left;· go_simp;rfl
         refine hK.out _ _ ?_
         clear hK K
         have ahq:∀ (K7:Nat) (v_:Value),(World.setCell BC ⟨FM,K7,none⟩ v_).cell? ⟨j5,0,none⟩=some (.int .i64 alf):=fun K7 v_=>(cell_far (p:=⟨FM,K7,none⟩) (fun h_=>(Kd.Aj ald.out fK.out (by decide)) (congrArg some h_)) v_).trans hHeld.1
         refine adC (i:=3) (Ni:=some 42) (ba 23 1048543) rfl rfl (by kernel_rfl) (fun K hK=>?_)
         refine G5 (w1:=?_) (v:=?_) (by rfl) rfl ?_ ?_
         rotate_left 2
         ·go_simp
          constructor
          ·rfl
          ·rfl
         refine hK.out _ ?_
         clear hK K
         refine cQ (a':=?_) ?_ ?_
         rotate_left;· show Act.put _ (some 42) _=_;simp only [Act.put,zI,zZ,zS,cl,cv];rfl
         refine pu 5 (some 44) (ba 23 1048575) ay (h:=?_)
         exact hf
        refine pu 20 (some 58) (ba 23 2097151) ay (h:=?_)
        refine qE (i:=21) (N:=none) (ba 23 4194303) rfl rfl (kg ay.out (by kernel_rfl)) (by decide) (fun K hK=>?_)
        refine pV (w1:=?_) (by rfl) rfl ?_ ?_
        rotate_left;· go_simp;rfl
        refine hK.out _ _ ?_
        clear hK K
        refine pu 22 (some 4) (ba 23 8388607) ay (h:=?_)
        refine lQ (pN ay.out (by kernel_rfl)) ?_
        try go_wp2
        go_meet
        case rel=>exact ⟨_,(wk),(wrap64 (-tX)),rs,(by first|exact H'|(rw [ame];exact H')),⟨by have:=alj.out;have:=bB.out;first|omega|exact Nat.le_refl _⟩,⟨by (try simp only [fF]);(with_reducible repeat (first|apply Kd.gK|apply Kd.alH|apply Kd.eW));exact ann.out⟩,⟨by (try simp only [fF]);(with_reducible repeat (first|refine eg ?_ _|refine cw ?_|refine dV ?_ _));refine fW ?_ (by have h_:=Kd.Aj ald.out fK.out (by decide);intro e_;exact h_ (by rw [e_];rfl)) _;(with_reducible repeat (first|refine eg ?_ _|refine cw ?_|refine dV ?_ _));refine fW ?_ (by have h_:=Kd.Aj ald.out fK.out (by decide);intro e_;exact h_ (by rw [e_];rfl)) _;exact bk⟩,⟨by repeat (first|(with_reducible first|exact HB.out|apply dh|apply ek|apply cP|refine dJ ?_ M8.out|refine dJ ?_ M8.out|refine dJ ?_ anI.out)|exact HB.out)⟩⟩
       case rest =>
        clear anR
        (try clear c4);(try clear eD);(try clear c5);(try clear alS);(try clear c6);(try clear gB);(try clear c8);(try clear c13);(try clear alV);(try clear c14);(try clear kH);(try clear Aw);(try clear c15);(try clear jD);(try clear oV);(try clear c17);(try clear oW);(try clear c22);(try clear wg);(try clear c29);(try clear oG);(try clear c31);(try clear oh);(try clear c33);(try clear Cn);(try clear c34);(try clear vC);(try clear c35);(try clear Az);(try clear amz);(try clear wh);(try clear sS);(try clear yQ);(try clear C8);(try clear C9);(try clear amk);(try clear yU);(try clear Df);(try clear Dg);(try clear cM);(try clear l_);(try clear mJ);(try clear DR);(try clear Gj);(try clear cT);(try clear nj);(try clear nk);(try clear amz);(try clear GO);(try clear GP);(try clear cU);(try clear nr);(try clear nt);(try clear wg);(try clear oG);(try clear wh)
        obtain ⟨kq,EE,amO,rfl,HA,zW,ald,fK,HB⟩:=hcut
        have kK:=(Kd.alw ald.out).1
        rw [kK] at ald
        (try simp only [kK])
        (try simp only [kK] at fK)
        cases kq with
        | zero=>exact absurd HA.out (by simp [bD.j2])
        | succ R6 =>
         have H:=HA.out
         clear HA
         simp only [bD.j2] at H
         have H':=k0 H
         clear H
         have QJ:wc.cell? ⟨j5,0,none⟩=some (.int .i64 alf):=(av fK.out 0).trans rfl
         have QZ:=aD fK.out 0
         go_wp2
         go_loopg [10] R6 (fun kq v10 w'=>∃ (qI:List (List Int)) (eR:Int),v10=.int .i64 eR∧au (bD.l2 kq qI amO alo eR (bC.length:Int) alf alf=some r)∧au (kq≤R6)∧au (Kd.S (Kd.slice 2 (Kd.int .i64)) 28 w' w.heap.size (fun _=>True) (.slice ko EE.length g_) qI)∧au (w'.heap[j5]?=some (.cells #[.int .i64 alf] 3 (0,0)))∧au (Below w.heap.size w w'))
         case atStart=>exact ⟨(EE),(wrap64 (alf+1)),rs,H',⟨Nat.le_refl _⟩,⟨by (try simp only [fF]);(try simp only [kK]);(with_reducible repeat (first|apply Kd.gK|apply Kd.alH|apply Kd.eW));exact ald.out⟩,⟨by (try simp only [fF]);(try simp only [kK]);exact bk⟩,⟨bl⟩⟩
         case round =>
          clear H'
          (try clear c4);(try clear eD);(try clear c5);(try clear alS);(try clear c6);(try clear gB);(try clear c8);(try clear c13);(try clear alV);(try clear c14);(try clear kH);(try clear Aw);(try clear c15);(try clear jD);(try clear oV);(try clear c17);(try clear oW);(try clear c22);(try clear wg);(try clear c29);(try clear oG);(try clear c31);(try clear oh);(try clear c33);(try clear Cn);(try clear c34);(try clear vC);(try clear c35);(try clear Az);(try clear amz);(try clear wh);(try clear sS);(try clear yQ);(try clear C8);(try clear C9);(try clear QJ);(try clear amk);(try clear yU);(try clear Df);(try clear Dg);(try clear QZ);(try clear cM);(try clear l_);(try clear mJ);(try clear DR);(try clear Gj);(try clear cT);(try clear nj);(try clear nk);(try clear amz);(try clear GO);(try clear GP);(try clear cU);(try clear nr);(try clear nt);(try clear wg);(try clear oG);(try clear wh)
          obtain ⟨qI,eR,rfl,HA,fH,ald,fK,HB⟩:=hrel
          have alX:=(Kd.alw ald.out).1
          rw [alX] at ald
          (try simp only [alX])
          (try simp only [alX] at fK)
          cases gk with
          | zero=>exact absurd HA.out (by simp [bD.l2])
          | succ k4 =>
           have H:=HA.out
           clear HA
           simp only [bD.l2] at H
           by_cases c40:eR < (qI.length:Int)
           case neg =>
            rw [if_neg c40] at H
            have uu:decide (eR < (qI.length:Int))=false:=decide_eq_false c40
            (try simp only [fF,kK,alX] at uu)
            clear c40
            replace H:=iS H;obtain ⟨c57,H⟩:=H
            have agH:=decide_eq_true c57
            clear c57
            replace H:=iS H;obtain ⟨c58,H⟩:=H
            have XL:=decide_eq_true c58
            (try simp only [fF,kK,alX] at XL)
            clear c58
            replace H:=iS H;obtain ⟨c59,H⟩:=H
            have XM:=decide_eq_true c59
            (try simp only [fF,kK,alX] at XM)
            clear c59
            have H':=k0 H
            clear H
            try go_wp2
            replace ald:=k0 (Kd.eW ald.out);replace fK:=k0 (cw fK.out);replace HB:=k0 (cP HB.out)
            have xP:0≤(alf:Int):=oD
            have xS:alf < (qI.length:Int):=oD
            obtain ⟨I5,afJ,Xw,e120,uG,Rs,Ra⟩:=cX (Kd.alw ald.out).2.2 alf xP xS
            cases e120
            obtain ⟨agV,aam,Z9,Qr⟩:=Kd.mB ald.out [] alf xP (by first|exact xS|exact oD|(have e_:=(Kd.alw ald.out).1;omega))
            obtain ⟨akQ,rfl,JQ⟩:=Z9
            have DF:=Qr 0 _ rfl
            rw [Nat.add_zero,show ((Kd.slice 2 (Kd.int .i64))).sz=1 from rfl,Nat.mul_one] at DF
            replace DF:=Option.some.inj (DF.symm.trans uG)
            rw [DF] at JQ
            have Vb:=k0 (show Kd.R (Kd.int .i64) 2 _ _ _ _ (ah qI alf) from JQ)
            clear DF JQ
            have Vy:=k0 uG
            clear Qr aam
            have Ir:=k0 Ra
            have af6:=k0 Rs
            clear Ra Rs
            replace xP:=eq_true xP
            replace xS:=eq_true xS
            have amy:0≤(alf:Int):=oD
            have we:alf < ((ah qI alf).length:Int):=oD
            obtain ⟨I6,e121,zh⟩:=Kd.bJ (by repeat (first|(with_reducible exact Ir.out)|(with_reducible refine Kd.kQ ?_ _)|(with_reducible refine Kd.alZ ?_ _)|(with_reducible refine Kd.jZ ?_)|exact Ir.out)) alf amy we
            cases e121
            replace amy:=eq_true amy
            replace we:=eq_true we
            refine lU (n:=8) (S:=fun w'=>w'.cell? ⟨j5,0,none⟩=some (.int .i64 alf)∧w'.cell? (I5.add (alf).toNat)=some (.slice (some I6) (ah qI alf).length Xw)∧w'.cell? (I6.add (alf).toNat)=some (.int .i64 (rd (ah qI alf) alf))) (ds:=[]) (ba 8 0) (by kernel_rfl) rfl rfl ⟨(av fK.out 0).trans rfl,uG,zh⟩ (fun hHeld=>?_);refine pW bD.ae2 bD.W3 (fun ay cZ=>?_)
            generalize wr.drew=w60 at ald fK HB Vb Ir Vy uG zh hHeld ⊢
            refine pu 0 (some 114) (ba 8 1) ay (h:=?_)
            refine ta 1 (some 115) (ba 8 3) ay cZ hHeld (hy:=Or.inl ⟨by rfl,by rintro w' ⟨s0,s1,s2⟩;go_simp;with_reducible rfl⟩) (h:=?_)
            refine pu 2 (some 116) (ba 8 7) ay (h:=?_)
            refine ta 3 (some 117) (ba 8 15) ay cZ hHeld (hy:=Or.inl ⟨by rfl,by rintro w' ⟨s0,s1,s2⟩;go_simp;with_reducible rfl⟩) (h:=?_)
            refine ta 4 (some 118) (ba 8 31) ay cZ hHeld (hy:=Or.inl ⟨by rfl,by rintro w' ⟨s0,s1,s2⟩;go_simp;with_reducible rfl⟩) (h:=?_)
            refine pu 5 (some 119) (ba 8 63) ay (h:=?_)
            refine ta 6 (some 120) (ba 8 127) ay cZ hHeld (hy:=Or.inl ⟨by rfl,by rintro w' ⟨s0,s1,s2⟩;go_simp;with_reducible rfl⟩) (h:=?_)
            refine pu 7 (some 5) (ba 8 255) ay (h:=?_)
            refine lQ (pN ay.out (by kernel_rfl)) ?_
            try go_wp2
            (try simp only [← fF,← kK,← alX])
            first|go_roundg k4|(simp only [← ame];go_roundg k4)
            case measure=>have:=alj.out;have:=bB.out;have:=zW.out;have:=fH.out;omega
            case rel=>exact ⟨(qI),(amO),(rd (ah qI alf) alf),(wrap64 (alf+1)),rs,rs,rs,(by first|exact H'|(rw [ame];exact H')),⟨by have:=alj.out;have:=bB.out;have:=zW.out;have:=fH.out;omega⟩,⟨by (try simp only [fF]);(try simp only [kK]);(try simp only [alX]);(with_reducible repeat (first|apply Kd.gK|apply Kd.alH|apply Kd.eW));exact ald.out⟩,⟨bl⟩⟩
           rw [if_pos c40] at H
           have uu:=decide_eq_true c40
           (try simp only [fF,kK,alX] at uu)
           clear c40
           have H':=k0 H
           clear H
           have aaP:wr.cell? ⟨j5,0,none⟩=some (.int .i64 alf):=(av fK.out 0).trans rfl
           have abk:=aD fK.out 0
           go_wp2
           go_loopg [11] k4 (fun kq v11 w'=>∃ (fI:List (List Int)) (jW:Int),v11=.int .i64 jW∧au (bD.l3 kq fI amO alo eR jW (bC.length:Int) alf alf=some r)∧au (kq≤k4)∧au (Kd.S (Kd.slice 2 (Kd.int .i64)) 28 w' w.heap.size (fun _=>True) (.slice ko qI.length g_) fI)∧au (w'.heap[j5]?=some (.cells #[.int .i64 alf] 3 (0,0)))∧au (Below w.heap.size w w'))
           case atStart=>exact ⟨(qI),(wrap64 (alf+1)),rs,H',⟨Nat.le_refl _⟩,⟨by (try simp only [fF]);(try simp only [kK]);(try simp only [alX]);(with_reducible repeat (first|apply Kd.gK|apply Kd.alH|apply Kd.eW));exact ald.out⟩,⟨by (try simp only [fF]);(try simp only [kK]);(try simp only [alX]);exact bk⟩,⟨bl⟩⟩
           case round =>
            clear H'
            (try clear c4);(try clear eD);(try clear c5);(try clear alS);(try clear c6);(try clear gB);(try clear c8);(try clear c13);(try clear alV);(try clear c14);(try clear kH);(try clear Aw);(try clear c15);(try clear jD);(try clear oV);(try clear c17);(try clear oW);(try clear c22);(try clear wg);(try clear c29);(try clear oG);(try clear c31);(try clear oh);(try clear c33);(try clear Cn);(try clear c34);(try clear vC);(try clear c35);(try clear Az);(try clear amz);(try clear wh);(try clear c40);(try clear uu);(try clear sS);(try clear yQ);(try clear C8);(try clear C9);(try clear QJ);(try clear aaP);(try clear amk);(try clear yU);(try clear Df);(try clear Dg);(try clear QZ);(try clear abk);(try clear cM);(try clear l_);(try clear mJ);(try clear DR);(try clear Gj);(try clear cT);(try clear nj);(try clear nk);(try clear amz);(try clear GO);(try clear GP);(try clear cU);(try clear nr);(try clear nt);(try clear wg);(try clear oG);(try clear wh)
            obtain ⟨fI,jW,rfl,HA,E1,ald,fK,HB⟩:=hrel
            have ox:=(Kd.alw ald.out).1
            rw [ox] at ald
            (try simp only [ox])
            (try simp only [ox] at fK)
            cases gk with
            | zero=>exact absurd HA.out (by simp [bD.l3])
            | succ k5 =>
             have H:=HA.out
             clear HA
             simp only [bD.l3] at H
             by_cases c42:jW < (fI.length:Int)
             case neg =>
              rw [if_neg c42] at H
              have wX:decide (jW < (fI.length:Int))=false:=decide_eq_false c42
              (try simp only [fF,kK,alX,ox] at wX)
              clear c42
              have H':=k0 H
              clear H
              go_wp2
              (try simp only [← alX,← ox])
              first|go_roundg k5|(simp only [← ame];go_roundg k5)
              case measure=>have:=alj.out;have:=bB.out;have:=zW.out;have:=fH.out;have:=E1.out;omega
              case rel=>exact ⟨(fI),(wrap64 (eR+1)),rs,(by first|exact H'|(rw [ame];exact H')),⟨by have:=alj.out;have:=bB.out;have:=zW.out;have:=fH.out;have:=E1.out;omega⟩,⟨by (try simp only [fF]);(try simp only [kK]);(try simp only [alX]);(try simp only [ox]);(with_reducible repeat (first|apply Kd.gK|apply Kd.alH|apply Kd.eW));exact ald.out⟩,⟨by (try simp only [fF]);(try simp only [kK]);(try simp only [alX]);(try simp only [ox]);exact bk⟩,⟨bl⟩⟩
             rw [if_pos c42] at H
             have wX:=decide_eq_true c42
             (try simp only [fF,kK,alX,ox] at wX)
             clear c42
             replace H:=iS H;obtain ⟨c43,H⟩:=H
             have OK:=decide_eq_true c43
             clear c43
             replace H:=iS H;obtain ⟨c44,H⟩:=H
             have XF:=decide_eq_true c44
             (try simp only [fF,kK,alX,ox] at XF)
             clear c44
             replace H:=iS H;obtain ⟨c45,H⟩:=H
             have agD:=decide_eq_true c45
             clear c45
             replace H:=iS H;obtain ⟨c46,H⟩:=H
             have XG:=decide_eq_true c46
             (try simp only [fF,kK,alX,ox] at XG)
             clear c46
             replace H:=iS H;obtain ⟨c47,H⟩:=H
             have agE:=decide_eq_true c47
             clear c47
             replace H:=iS H;obtain ⟨c48,H⟩:=H
             have XH:=decide_eq_true c48
             (try simp only [fF,kK,alX,ox] at XH)
             clear c48
             replace H:=iS H;obtain ⟨c49,H⟩:=H
             have XI:=decide_eq_true c49
             (try simp only [fF,kK,alX,ox] at XI)
             clear c49
             replace H:=iS H;obtain ⟨c50,H⟩:=H
             have XJ:=decide_eq_true c50
             (try simp only [fF,kK,alX,ox] at XJ)
             clear c50
             replace H:=iS H;obtain ⟨c51,H⟩:=H
             have XK:=decide_eq_true c51
             (try simp only [fF,kK,alX,ox] at XK)
             clear c51
             by_cases c52:alo=0
             case neg =>
              rw [if_neg c52] at H
              have agF:(alo == 0)=false:=beq_eq_false_iff_ne.mpr c52
              have agG:(alo != 0)=true:=bne_iff_ne.mpr c52
              obtain ⟨Mr,anv⟩:∃ y_:List Int,y_=((ah fI eR).set (jW:Int).toNat (wrap64 (Int.tdiv (wrap64 ((wrap64 ((rd (ah fI eR) jW) * (rd (ah fI alf) alf))) - (wrap64 ((rd (ah fI eR) alf) * (rd (ah fI alf) jW))))) alo))):=⟨_,rfl⟩
              replace H:(bD.l3 k5 (fI.set (eR:Int).toNat Mr) amO alo eR (wrap64 (jW+1)) (bC.length:Int) alf alf)=some r:=by first|(rw [anv];with_reducible exact H)|(have ax:=(Option.bind_some _ _).symm.trans H;rw [anv];with_reducible exact ax)|(have ax:=(Option.bind_some _ _).symm.trans H;with_reducible exact ax)|with_reducible exact H|(rw [anv];exact H)|exact H
              have V7:=k0 anv
              clear anv
              obtain ⟨TV,D3⟩:∃ y_:List (List Int),y_=(fI.set (eR:Int).toNat Mr):=⟨_,rfl⟩
              replace H:(bD.l3 k5 TV amO alo eR (wrap64 (jW+1)) (bC.length:Int) alf alf)=some r:=by first|(rw [D3];with_reducible exact H)|(have ax:=(Option.bind_some _ _).symm.trans H;rw [D3];with_reducible exact ax)|(have ax:=(Option.bind_some _ _).symm.trans H;with_reducible exact ax)|with_reducible exact H|(rw [D3];exact H)|exact H
              have V8:=k0 D3
              clear D3
              have H':=k0 H
              clear H
              try go_wp2
              replace ald:=k0 (Kd.eW ald.out);replace fK:=k0 (cw fK.out);replace HB:=k0 (cP HB.out)
              have GJ:0≤(eR:Int):=oD
              have GQ:eR < (fI.length:Int):=oD
              obtain ⟨vt,afK,Ja,e122,Bm,Rt,Rb⟩:=cX (Kd.alw ald.out).2.2 eR GJ GQ
              cases e122
              obtain ⟨agW,aan,Z_,Qs⟩:=Kd.mB ald.out [] eR GJ (by first|exact GQ|exact oD|(have e_:=(Kd.alw ald.out).1;omega))
              obtain ⟨akR,rfl,JR⟩:=Z_
              have DG:=Qs 0 _ rfl
              rw [Nat.add_zero,show ((Kd.slice 2 (Kd.int .i64))).sz=1 from rfl,Nat.mul_one] at DG
              replace DG:=Option.some.inj (DG.symm.trans Bm)
              rw [DG] at JR
              have E4:=k0 (show Kd.R (Kd.int .i64) 2 _ _ _ _ (ah fI eR) from JR)
              clear DG JR
              have IE:=k0 Bm
              clear Qs aan
              have Vv:=k0 Rb
              have af7:=k0 Rt
              clear Rb Rt
              replace GJ:=eq_true GJ
              replace GQ:=eq_true GQ
              have xQ:0≤(eR:Int):=oD
              have xT:eR < (fI.length:Int):=oD
              obtain ⟨Am,afL,agt,e123,xG,Ru,Rc⟩:=cX (Kd.alw ald.out).2.2 eR xQ xT
              obtain rfl:vt=Am:=(by injection e123)
              obtain ⟨agX,aao,aaa,Qt⟩:=Kd.mB ald.out [] eR xQ (by first|exact xT|exact oD|(have e_:=(Kd.alw ald.out).1;omega))
              obtain ⟨akS,rfl,JS⟩:=aaa
              have DH:=Qt 0 _ rfl
              rw [Nat.add_zero,show ((Kd.slice 2 (Kd.int .i64))).sz=1 from rfl,Nat.mul_one] at DH
              replace DH:=Option.some.inj (DH.symm.trans xG)
              rw [DH] at JS
              have Vc:=k0 (show Kd.R (Kd.int .i64) 2 _ _ _ _ (ah fI eR) from JS)
              clear DH JS
              have Vz:=k0 xG
              clear Qt aao
              have Iu:=k0 Rc
              have af8:=k0 Ru
              clear Rc Ru
              replace xQ:=eq_true xQ
              replace xT:=eq_true xT
              have bh:=Option.some.inj (Bm.symm.trans xG)
              injection bh with bh dm di
              subst bh
              subst di
              clear dm
              have zv:0≤(jW:Int):=oD
              have zy:jW < ((ah fI eR).length:Int):=oD
              obtain ⟨am5,e124,Bn⟩:=Kd.bJ (by repeat (first|(with_reducible exact Iu.out)|(with_reducible refine Kd.kQ ?_ _)|(with_reducible refine Kd.alZ ?_ _)|(with_reducible refine Kd.jZ ?_)|exact Iu.out)) jW zv zy
              cases e124
              replace zv:=eq_true zv
              replace zy:=eq_true zy
              have GK:0≤(alf:Int):=oD
              have anB:alf < (fI.length:Int):=oD
              obtain ⟨WK,afM,OH,e125,DO,Rv,Rd⟩:=cX (Kd.alw ald.out).2.2 alf GK anB
              obtain rfl:vt=WK:=(by injection e125)
              obtain ⟨agY,aap,aab,Qu⟩:=Kd.mB ald.out [] alf GK (by first|exact anB|exact oD|(have e_:=(Kd.alw ald.out).1;omega))
              obtain ⟨akT,rfl,JT⟩:=aab
              have ant:=Qu 0 _ rfl
              rw [Nat.add_zero,show ((Kd.slice 2 (Kd.int .i64))).sz=1 from rfl,Nat.mul_one] at ant
              replace ant:=Option.some.inj (ant.symm.trans DO)
              rw [ant] at JT
              have Vd:=k0 (show Kd.R (Kd.int .i64) 2 _ _ _ _ (ah fI alf) from JT)
              clear ant JT
              have VA:=k0 DO
              clear Qu aap
              have Iv:=k0 Rd
              have af9:=k0 Rv
              clear Rd Rv
              replace GK:=eq_true GK
              replace anB:=eq_true anB
              have Ly:0≤(alf:Int):=oD
              have LP:alf < ((ah fI alf).length:Int):=oD
              obtain ⟨Cd,e126,RW⟩:=Kd.bJ (by repeat (first|(with_reducible exact Iv.out)|(with_reducible refine Kd.kQ ?_ _)|(with_reducible refine Kd.alZ ?_ _)|(with_reducible refine Kd.jZ ?_)|exact Iv.out)) alf Ly LP
              cases e126
              replace Ly:=eq_true Ly
              replace LP:=eq_true LP
              have GL:0≤(eR:Int):=oD
              have GS:eR < (fI.length:Int):=oD
              obtain ⟨WL,afN,agu,e127,DP,Rw,Re⟩:=cX (Kd.alw ald.out).2.2 eR GL GS
              obtain rfl:vt=WL:=(by injection e127)
              obtain ⟨agZ,aaq,aac,Qv⟩:=Kd.mB ald.out [] eR GL (by first|exact GS|exact oD|(have e_:=(Kd.alw ald.out).1;omega))
              obtain ⟨akU,rfl,JU⟩:=aac
              have DJ:=Qv 0 _ rfl
              rw [Nat.add_zero,show ((Kd.slice 2 (Kd.int .i64))).sz=1 from rfl,Nat.mul_one] at DJ
              replace DJ:=Option.some.inj (DJ.symm.trans DP)
              rw [DJ] at JU
              have Ve:=k0 (show Kd.R (Kd.int .i64) 2 _ _ _ _ (ah fI eR) from JU)
              clear DJ JU
              have VB:=k0 DP
              clear Qv aaq
              have Iw:=k0 Re
              have af':=k0 Rw
              clear Re Rw
              replace GL:=eq_true GL
              replace GS:=eq_true GS
              have bh:=Option.some.inj (Bm.symm.trans DP)
              injection bh with bh dm di
              subst bh
              subst di
              clear dm
              have LA:0≤(alf:Int):=oD
              have LQ:alf < ((ah fI eR).length:Int):=oD
              obtain ⟨WM,e128,K2⟩:=Kd.bJ (by repeat (first|(with_reducible exact Iw.out)|(with_reducible refine Kd.kQ ?_ _)|(with_reducible refine Kd.alZ ?_ _)|(with_reducible refine Kd.jZ ?_)|exact Iw.out)) alf LA LQ
              obtain rfl:am5=WM:=(by injection e128)
              replace LA:=eq_true LA
              replace LQ:=eq_true LQ
              have GM:0≤(alf:Int):=oD
              have GU:alf < (fI.length:Int):=oD
              obtain ⟨WN,afO,agv,e129,DQ,Rx,Rf⟩:=cX (Kd.alw ald.out).2.2 alf GM GU
              obtain rfl:vt=WN:=(by injection e129)
              obtain ⟨ag0,aar,aad,Qw⟩:=Kd.mB ald.out [] alf GM (by first|exact GU|exact oD|(have e_:=(Kd.alw ald.out).1;omega))
              obtain ⟨akV,rfl,JV⟩:=aad
              have DK:=Qw 0 _ rfl
              rw [Nat.add_zero,show ((Kd.slice 2 (Kd.int .i64))).sz=1 from rfl,Nat.mul_one] at DK
              replace DK:=Option.some.inj (DK.symm.trans DQ)
              rw [DK] at JV
              have Vf:=k0 (show Kd.R (Kd.int .i64) 2 _ _ _ _ (ah fI alf) from JV)
              clear DK JV
              have VC:=k0 DQ
              clear Qw aar
              have Ix:=k0 Rf
              have af_:=k0 Rx
              clear Rf Rx
              replace GM:=eq_true GM
              replace GU:=eq_true GU
              have bh:=Option.some.inj (DO.symm.trans DQ)
              injection bh with bh dm di
              subst bh
              subst di
              clear dm
              have LB:0≤(jW:Int):=oD
              have LR:jW < ((ah fI alf).length:Int):=oD
              obtain ⟨WO,e130,RX⟩:=Kd.bJ (by repeat (first|(with_reducible exact Ix.out)|(with_reducible refine Kd.kQ ?_ _)|(with_reducible refine Kd.alZ ?_ _)|(with_reducible refine Kd.jZ ?_)|exact Ix.out)) jW LB LR
              obtain rfl:Cd=WO:=(by injection e130)
              replace LB:=eq_true LB
              replace LR:=eq_true LR
              have LM:0≤(jW:Int):=oD
              have L2:(jW:Int) < (((ah fI eR).length:Int):Int):=oD
              obtain ⟨CO,ahj,Pb,PK,ZD,ahf,Ns⟩:=Kd.lp E4.out (by omega)
              (first|cases Pb|(injection Pb with bh dm di;(first|subst bh|(injection bh with bh;subst bh));subst di;clear dm))
              (first|simp only [add_plain] at Bn|skip)
              have UR:=k0 PK
              have UY:=k0 Ns
              clear PK ZD Ns
              (first|simp only [add_plain] at K2|skip)
              obtain ⟨acf,aa'⟩:=Kd.jB 0 E4.out (jW:Int) LM L2
              replace LM:=eq_true LM
              replace L2:=eq_true L2
              have abV:(eR:Int) < (fI.length:Int):=(by have h_:(eR:Int) < ((fI.length:Int):Int):=oD;first|exact h_|(have e_:=(Kd.alw ald.out).1;omega)|simpa only [List.length_set,List.length_set] using h_)
              obtain ⟨ako,ag6,aaz,Z2,QC,RH,Qf⟩:=Kd.Ai ald.out [] (eR:Int) oD (by first|exact abV|(have e_:=(Kd.alw ald.out).1;omega))
              obtain ⟨ak2,rfl,CM⟩:=Z2
              have Gc:=QC 0 _ rfl
              rw [Nat.add_zero,show ((Kd.slice 2 (Kd.int .i64))).sz=1 from rfl,Nat.mul_one] at Gc
              replace Gc:=Option.some.inj (Gc.symm.trans IE.out)
              subst Gc
              clear QC aaz
              replace CM:=(show Kd.R (Kd.int .i64) 2 _ _ _ _ (ah fI eR) from CM)
              have z1:=Kd.kW CM (jW:Int) (wrap64 (Int.tdiv (wrap64 ((wrap64 ((rd (ah fI eR) jW) * (rd (ah fI alf) alf))) - (wrap64 ((rd (ah fI eR) alf) * (rd (ah fI alf) jW))))) alo))
              have VF:=k0 (am6 z1.2 IE.out (am7 (RH _ (CM.1 _ rfl)).2))
              rw [← V7.out] at z1
              have agj:=k0 z1.1
              have IB:=Qf z1.2 (fun k_ e_=>by injection e_ with e_;subst e_;exact CM.1 _ rfl) (x':=Mr) (Kd.rJ z1.1)
              rw [← V8.out] at IB
              have NJ:=k0 IB
              clear z1 IB Qf RH
              refine lU (n:=40) (S:=fun w'=>w'.cell? ⟨j5,0,none⟩=some (.int .i64 alf)∧w'.cell? (vt.add (eR).toNat)=some (.slice (some ⟨CO,0,none⟩) (ah fI eR).length Ja)∧w'.cell? (vt.add (eR).toNat)=some (.slice (some ⟨CO,0,none⟩) (ah fI eR).length Ja)∧w'.cell? ⟨CO,(jW).toNat,none⟩=some (.int .i64 (rd (ah fI eR) jW))∧w'.cell? (vt.add (alf).toNat)=some (.slice (some Cd) (ah fI alf).length OH)∧w'.cell? (Cd.add (alf).toNat)=some (.int .i64 (rd (ah fI alf) alf))∧w'.cell? (vt.add (eR).toNat)=some (.slice (some (⟨CO,0,none⟩:Addr)) (ah fI eR).length Ja)∧w'.cell? ⟨CO,(alf).toNat,none⟩=some (.int .i64 (rd (ah fI eR) alf))∧w'.cell? (vt.add (alf).toNat)=some (.slice (some Cd) (ah fI alf).length OH)∧w'.cell? (Cd.add (jW).toNat)=some (.int .i64 (rd (ah fI alf) jW))) (ds:=[39]) (ba 40 0) (by kernel_rfl) rfl rfl ⟨(av fK.out 0).trans rfl,Bm,xG,Bn,DO,RW,DP,K2,DQ,RX⟩ (fun hHeld=>?_);refine pW bD.ae1 bD.an8 (fun ay cZ=>?_)
              generalize wr.drew=w54 at ald fK HB UY E4 Vc Vd Ve Vf NJ Vv Iu Iv Iw Ix IE Vz VA VB VC VF aa' Bm xG Bn DO RW DP K2 DQ RX acf hHeld ⊢
              refine pu 0 (some 75) (ba 40 1) ay (h:=?_)
              refine pu 1 (some 76) (ba 40 3) ay (h:=?_)
              refine pu 2 (some 77) (ba 40 7) ay (h:=?_)
              refine pu 4 (some 79) (ba 40 23) ay (h:=?_)
              refine pu 5 (some 80) (ba 40 55) ay (h:=?_)
              refine pu 6 (some 81) (ba 40 119) ay (h:=?_)
              refine pu 7 (some 82) (ba 40 247) ay (h:=?_)
              refine pu 9 (some 84) (ba 40 759) ay (h:=?_)
              refine pu 12 (some 87) (ba 40 4855) ay (h:=?_)
              refine pu 20 (some 95) (ba 40 1053431) ay (h:=?_)
              refine pu 21 (some 96) (ba 40 3150583) ay (h:=?_)
              refine pu 22 (some 97) (ba 40 7344887) ay (h:=?_)
              refine pu 27 (some 102) (ba 40 141562615) ay (h:=?_)
              refine pu 31 (some 106) (ba 40 2289046263) ay (h:=?_)
              refine pu 36 (some 111) (ba 40 71008522999) ay (h:=?_)
              refine ta 3 (some 78) (ba 40 71008523007) ay cZ hHeld (hy:=Or.inl ⟨by rfl,by rintro w' ⟨s0,s1,s2,s3,s4,s5,s6,s7,s8,s9⟩;go_simp;with_reducible rfl⟩) (h:=?_)
              refine ta 8 (some 83) (ba 40 71008523263) ay cZ hHeld (hy:=Or.inl ⟨by rfl,by rintro w' ⟨s0,s1,s2,s3,s4,s5,s6,s7,s8,s9⟩;go_simp;with_reducible rfl⟩) (h:=?_)
              refine pu 10 (some 85) (ba 40 71008524287) ay (h:=?_)
              refine ta 11 (some 86) (ba 40 71008526335) ay cZ hHeld (hy:=Or.inl ⟨by rfl,by rintro w' ⟨s0,s1,s2,s3,s4,s5,s6,s7,s8,s9⟩;go_simp;with_reducible rfl⟩) (h:=?_)
              refine ta 13 (some 88) (ba 40 71008534527) ay cZ hHeld (hy:=Or.inl ⟨by rfl,by rintro w' ⟨s0,s1,s2,s3,s4,s5,s6,s7,s8,s9⟩;go_simp;with_reducible rfl⟩) (h:=?_)
              refine pu 14 (some 89) (ba 40 71008550911) ay (h:=?_)
              refine ta 15 (some 90) (ba 40 71008583679) ay cZ hHeld (hy:=Or.inl ⟨by rfl,by rintro w' ⟨s0,s1,s2,s3,s4,s5,s6,s7,s8,s9⟩;go_simp;with_reducible rfl⟩) (h:=?_)
              refine ta 16 (some 91) (ba 40 71008649215) ay cZ hHeld (hy:=Or.inl ⟨by rfl,by rintro w' ⟨s0,s1,s2,s3,s4,s5,s6,s7,s8,s9⟩;go_simp;with_reducible rfl⟩) (h:=?_)
              refine pu 17 (some 92) (ba 40 71008780287) ay (h:=?_)
              refine ta 18 (some 93) (ba 40 71009042431) ay cZ hHeld (hy:=Or.inl ⟨by rfl,by rintro w' ⟨s0,s1,s2,s3,s4,s5,s6,s7,s8,s9⟩;go_simp;with_reducible rfl⟩) (h:=?_)
              refine pu 19 (some 94) (ba 40 71009566719) ay (h:=?_)
              refine ta 23 (some 98) (ba 40 71017955327) ay cZ hHeld (hy:=Or.inl ⟨by rfl,by rintro w' ⟨s0,s1,s2,s3,s4,s5,s6,s7,s8,s9⟩;go_simp;with_reducible rfl⟩) (h:=?_)
              refine ta 24 (some 99) (ba 40 71034732543) ay cZ hHeld (hy:=Or.inl ⟨by rfl,by rintro w' ⟨s0,s1,s2,s3,s4,s5,s6,s7,s8,s9⟩;go_simp;with_reducible rfl⟩) (h:=?_)
              refine pu 25 (some 100) (ba 40 71068286975) ay (h:=?_)
              refine ta 26 (some 101) (ba 40 71135395839) ay cZ hHeld (hy:=Or.inl ⟨by rfl,by rintro w' ⟨s0,s1,s2,s3,s4,s5,s6,s7,s8,s9⟩;go_simp;with_reducible rfl⟩) (h:=?_)
              refine ta 28 (some 103) (ba 40 71403831295) ay cZ hHeld (hy:=Or.inl ⟨by rfl,by rintro w' ⟨s0,s1,s2,s3,s4,s5,s6,s7,s8,s9⟩;go_simp;with_reducible rfl⟩) (h:=?_)
              refine pu 29 (some 104) (ba 40 71940702207) ay (h:=?_)
              refine ta 30 (some 105) (ba 40 73014444031) ay cZ hHeld (hy:=Or.inl ⟨by rfl,by rintro w' ⟨s0,s1,s2,s3,s4,s5,s6,s7,s8,s9⟩;go_simp;with_reducible rfl⟩) (h:=?_)
              refine pu 32 (some 107) (ba 40 77309411327) ay (h:=?_)
              refine ta 33 (some 108) (ba 40 85899345919) ay cZ hHeld (hy:=Or.inl ⟨by rfl,by rintro w' ⟨s0,s1,s2,s3,s4,s5,s6,s7,s8,s9⟩;go_simp;with_reducible rfl⟩) (h:=?_)
              refine pu 34 (some 109) (ba 40 103079215103) ay (h:=?_)
              refine pu 35 (some 110) (ba 40 137438953471) ay (h:=?_)
              refine pu 37 (some 112) (ba 40 274877906943) ay (h:=?_)
              refine pu 38 (some 113) (ba 40 549755813887) ay (h:=?_)
              refine qE (i:=39) (N:=none) (ba 40 1099511627775) rfl rfl (kg ay.out (by kernel_rfl)) (by decide) (fun K hK=>?_)
              refine pV (w1:=?_) (by rfl) rfl ?_ ?_
              rotate_left;· go_simp;rfl
              refine hK.out _ _ ?_
              clear hK K
              refine lQ (pN ay.out (by kernel_rfl)) ?_
              try go_wp2
              (try simp only [← ox])
              first|go_roundg k5|(simp only [← ame];go_roundg k5)
              case measure=>have:=alj.out;have:=bB.out;have:=zW.out;have:=fH.out;have:=E1.out;omega
              case rel=>exact ⟨(TV),(wrap64 (jW+1)),rs,(by first|exact H'|(rw [ame];exact H')),⟨by have:=alj.out;have:=bB.out;have:=zW.out;have:=fH.out;have:=E1.out;omega⟩,⟨by (try simp only [fF]);(try simp only [kK]);(try simp only [alX]);(try simp only [ox]);(with_reducible repeat (first|apply Kd.gK|apply Kd.alH|apply Kd.eW));exact NJ.out⟩,⟨by (try simp only [fF]);(try simp only [kK]);(try simp only [alX]);(try simp only [ox]);(with_reducible repeat (first|refine eg ?_ _|refine cw ?_|refine dV ?_ _));refine fW ?_ (by have h_:=Kd.gY E4.out fK.out (by decide);intro e_;exact h_ (by rw [e_];rfl)) _;exact bk⟩,⟨by repeat (first|(with_reducible first|exact HB.out|apply dh|apply ek|apply cP|refine dJ ?_ UR.out|refine dJ ?_ anI.out)|exact HB.out)⟩⟩
             rw [if_pos c52] at H
             exact absurd H (by simp)
      rw [if_pos c17] at H
      have oW:=decide_eq_true c17
      clear c17
      obtain rfl:=Option.some.inj H
      go_wp2_with (first|((with_reducible refine cj (N:=8) rfl ?_);refine dK ?hg (N:=8) ?hd (cs:=#[.int .i64 0]) (t:=3) ?hr ?_;(case hd=>rfl);(case hg=>rfl);(case hr=>first|(go_simp;done)|(go_simp;rfl));intro j5 hg zF aJ hb;replace ald:=k0 (Kd.kY (aS ald.out) hb);have fK:=k0 (aJ);have anK:=k0 ((by rw [hg];exact (alk bl):w.heap.size≤j5));have anI:=anK;replace HB:=k0 (aI bl hb);clear hb aJ hg;have sS:zF.cell? ⟨j5,0,none⟩=some (.int .i64 0):=(av fK.out 0).trans rfl;have amk:=aD fK.out 0)|((with_reducible refine lF (t:=3) (p:=8) rfl ?_);refine lJ (t:=3) (p:=8) (v:=?ak8) (w1:=(zF.setCell ⟨j5,0,none⟩ (.int .i64 alf))) ?hg ?ho ?hn ?hr ?_;(case ho=>rfl);(case hg=>rfl);(case hn=>rfl);(case hr=>first|(go_simp;done)|(go_simp;rfl));intro BA hw;have aE:au (Kd.S (Kd.slice 2 (Kd.int .i64)) 28 BA w.heap.size (fun _=>True) (.slice ko ale.length g_) ale):=⟨(by rw [hw];exact (by (with_reducible repeat (first|apply Kd.gK|apply Kd.alH|apply Kd.eW));exact Kd.iF (Kd.uk (p:=⟨j5,0,none⟩) (Kd.Ak ald.out fK.out (by decide)) (fun _ hk=>hk.2) (.int .i64 alf)) (fun _ hk=>trivial)))⟩;have aH:au (BA.heap[j5]?=some (.cells #[.int .i64 alf] 3 (0,0))):=⟨(by rw [hw];exact (by (with_reducible repeat (first|refine eg ?_ _|refine cw ?_|refine dV ?_ _));refine nH (cs:=#[.int .i64 0]) ?_ 0 _ rfl;exact bk))⟩;have aK:au (Below w.heap.size w BA):=⟨(by rw [hw];exact bl)⟩;clear hw;clear ald;clear fK;clear HB;have ald:=aE;have fK:=aH;have HB:=aK;clear aE aH aK;have yQ:BA.cell? ⟨j5,0,none⟩=some (.int .i64 alf):=(av fK.out 0).trans rfl;have yU:=aD fK.out 0;have wg:(alf:Int)≤((ale.length:Int):Int):=oD;obtain ⟨i022,Q4,_,RN,_⟩:=info_parts xI;have KV:ale.length≤g_:=(Kd.alw ald.out).2.1;have PT:Kd.C (Kd.slice 2 (Kd.int .i64)) _ ko ale.length ale:=(Kd.alw ald.out).2.2;have GO:(0:Int)≤(alf:Int):=oD;have aaD:=OZ (P:=Try.prog) 22 28 .i64 Try.underlying22 Q4 1 RN ko ale.length g_ alf GO wg;have Dv:=Kd.M0 (m:=(alf:Int).toNat) (c:=g_) PT (by omega) KV;obtain ⟨Mz,hA22⟩:∃ A1,A1=(if g_=(alf:Int).toNat then ko else (ko:Option Addr).map (·.add ((alf:Int).toNat * 1))):=⟨_,rfl⟩;obtain ⟨c22,Kh⟩:∃ c1,c1=g_ - (alf:Int).toNat:=⟨_,rfl⟩;have Gk:ny.length=ale.length - (alf:Int).toNat:=(by rw [z_.out,List.length_drop]<;>omega);rw [show (ale).drop (alf:Int).toNat=ny from z_.out.symm] at Dv;replace Dv:Kd.C (Kd.slice 2 (Kd.int .i64)) _ Mz ny.length ny:=(by rw [hA22];exact Dv);rw [← Gk,← hA22,← Kh] at aaD;have qa:=k0 Dv;have anO:=k0 (show ny.length≤c22 from by rw [Gk,Kh];exact Nat.sub_le_sub_right KV _);clear Dv PT KV Q4 RN Kh;have agp:=k0 Gk;have agl:=k0 hA22;clear Gk hA22;have agn:=k0 (show (alf:Int).toNat≤ale.length from by omega);replace wg:=eq_true wg)|((with_reducible refine dx (f:=220) rfl ?_);refine dy (some 34) rfl rfl Try.func220 (by kernel_rfl) rfl #[.slice Mz ny.length c22,.func (.func 238) #[] #[.pointer (some ⟨j5,0,none⟩)]] rfl gm ?_;(with_reducible refine (pz.calls k2 _ _ ny alf t116 _ ?aT ?aU ?cy oL.out).mono ?_);(case aT=>exact aC (by repeat (first|(with_reducible exact qa.out)|(with_reducible refine Kd.kQ ?_ _)|(with_reducible refine Kd.alZ ?_ _)|(with_reducible refine Kd.jZ ?_)|exact qa.out)));(case aU=>exact anO.out);(case cy=>exact by exact bk);rintro e ank ⟨rfl,hb⟩;refine ⟨_,rfl,?_⟩;replace ald:=k0 (Kd.kY (aS ald.out) hb);replace fK:=k0 (alm (g:=j5) (o:=.cells #[.int .i64 alf] 3 (0,0)) bk hb);replace qa:=k0 (Kd.bK (by repeat (first|(with_reducible exact qa.out)|(with_reducible refine Kd.kQ ?_ _)|(with_reducible refine Kd.alZ ?_ _)|(with_reducible refine Kd.jZ ?_)|exact qa.out)) hb);replace HB:=k0 (aI bl hb);(try clear hb)))
      go_ret
      exact ⟨by first|rfl|(simp [bz,bA]<;>rfl)|(simp [*,bz,bA]<;>rfl),bl⟩
   rw [if_pos c4] at H
   have eD:=decide_eq_true c4
   clear c4
   replace H:=iS H;obtain ⟨c5,H⟩:=H
   have alS:=decide_eq_true c5
   clear c5
   replace H:=iS H;obtain ⟨c6,H⟩:=H
   have gB:=decide_eq_true c6
   clear c6
   replace H:=Option.bind_eq_some_iff.mp H
   obtain ⟨t105,wu,H⟩:=H
   replace H:(if bC.length < 5864062014805 then (bD.l0 k1 (bC ++ [t105]) 1 1 l0 (l0.length:Int) (wrap64 (rA+1))) else (none))=some r:=H
   have A7:=k0 wu
   clear wu
   replace H:=iS H;obtain ⟨c8,H⟩:=H
   have IJ:=k0 c8
   clear c8
   obtain ⟨mQ,alM⟩:∃ y_:List (List Int),y_=(bC ++ [t105]):=⟨_,rfl⟩
   replace H:(bD.l0 k1 mQ 1 1 l0 (l0.length:Int) (wrap64 (rA+1)))=some r:=by first|(rw [alM];with_reducible exact H)|(have ax:=(Option.bind_some _ _).symm.trans H;rw [alM];with_reducible exact ax)|(have ax:=(Option.bind_some _ _).symm.trans H;with_reducible exact ax)|with_reducible exact H|(rw [alM];exact H)|exact H
   have sA:=k0 alM
   clear alM
   have H':=k0 H
   clear H
   have cT:0≤(rA:Int):=oD
   have cU:rA < (l0.length:Int):=oD
   obtain ⟨kF,uV,vw,e104,cM,al0,lH⟩:=cX fe.out rA cT cU
   cases e104
   replace cM:=hbc HB cM
   have rG:=k0 lH
   have amv:=k0 al0
   clear lH al0
   replace cT:=eq_true cT
   replace cU:=eq_true cU
   go_wp2_with (first|((with_reducible refine dx (f:=151) rfl ?_);refine dy (some 21) rfl rfl Try.func151 (by kernel_rfl) rfl #[.slice uV (ah l0 rA).length vw] rfl gm ?_;(with_reducible refine (kr.calls _ _ (ah l0 rA) t105 _ ?aT ?aU A7.out).mono ?_);(case aT=>exact aC (Kd.bK rG.out HB.out));(case aU=>exact amv.out);rintro e w9 ⟨fY,rfl,aM,hb⟩;refine ⟨_,rfl,?_⟩;replace ald:=k0 (Kd.kE (aS ald.out) (Kd.cn aM) hb);have cO:=k0 (Kd.dI aM (alk bl));replace HB:=k0 (aI bl hb);(try clear hb);(try clear aM);obtain ⟨zP,am8,Cx⟩:=Kd.eF cO.out;subst Cx)|((with_reducible refine ot (b:=.append) (xs:=#[.tmp 19,.tmp 22]) rfl ?_);at_builtin;refine Kd.ans (Kd.slice 2 (Kd.int .i64)) (w0:=w) w.heap.size rfl (.tmp 19) (.tmp 22) 22 28 (.slice none 0 0) 24 rfl Try.underlying22 xI rfl (by decide) (by omega) u3 bC t105 [.slice zP t105.length am8] (fun _=>True) (fun k_=>some k_=(.slice zP t105.length am8:Value).ownBlock) rfl rfl ?aP (fun k_ j7=>((Kd.alq (ok':=fun k_=>((fun _=>True)) k_∧some k_ ≠ (u3:Value).ownBlock) (Kd.mV (cO.out) (Kd.lq ald.out) (by decide)) (fun k_ hk=>⟨trivial,hk.2⟩))).1 k_ j7.symm) ?aF ?aO ?aB ?aS ?aL ?_;(case aP=>exact Kd.rJ (Kd.alq (Kd.vq rfl (Kd.alq (ok':=fun k_=>((fun _=>True)) k_∧some k_ ≠ (u3:Value).ownBlock) (Kd.mV (cO.out) (Kd.lq ald.out) (by decide)) (fun k_ hk=>⟨trivial,hk.2⟩))) (fun _ h_=>h_)));(case aB=>exact bl);(case aF=>exact (fun _ _=>trivial));(case aO=>exact (by (with_reducible repeat (first|apply Kd.gK|apply Kd.alH|apply Kd.eW));exact Kd.iF ald.out (fun k_ hk=>⟨trivial,fun e_=>hk.2 e_⟩)));(case aS=>exact (alk bl));(case aL=>have:=IJ.out;omega);intro v109 gw ho hb hg bX;rw [← sA.out] at ho;have aE:=k0 (hb);have aH:=k0 (ho);clear HB;clear ald;clear cO;have HB:=aE;have zY:=aH;clear aE aH;clear ho hb hg bX))
   first|go_roundg k1|(simp only [← ame];go_roundg k1)
   case measure=>have:=alj.out;omega
   case rel=>exact ⟨(mQ),(wrap64 (rA+1)),rs,(by first|exact H'|(rw [ame];exact H')),⟨by have:=alj.out;omega⟩,⟨aS (zY.out)⟩,⟨bl⟩⟩
end Go.Proofs.Ytoebojnhchocaaa.D
/- Set with little white space, by a program. -/
