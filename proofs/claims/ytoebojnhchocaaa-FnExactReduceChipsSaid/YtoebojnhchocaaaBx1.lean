/- The functions that one law reaches, each as a Lean function, and that Go's call comes to what it says. Condition of each: that the Lean function answers (is not none). -/
import Derived.Test.YtoebojnhchocaaaBx0
namespace Go.Proofs.Ytoebojnhchocaaa.B
open Go.RowKit Go.Proofs.bC.eg Go.Proofs.bC.iZ Go.Proofs.bC.jr
attribute [local go_sem] max2_int min2_int max_two min_two max_three min_three max_four min_four   -- for this text's walks alone
set_option linter.unusedVariables false
set_option linter.unusedSimpArgs false
/-! ### F18: function 18 -/
def fN.l0 : Nat → List Int → List Int → Int → Option (Bool)
 | 0,_,_,_=>none
 | k+1,x0,x1,x5=>if x5 < (x0.length:Int) then (if 0≤x5 then (if x5 < (x1.length:Int) then (if (rd x0 x5)=(rd x1 x5) then (fN.l0 k x0 x1 (wrap64 (x5+1))) else (some false)) else (none)) else (none)) else (some true)
def fN.f (k:Nat) (l0:List Int) (l1:List Int):Option (Bool):=if (l0.length:Int)=(l1.length:Int) then (fN.l0 k l0 l1 0) else (some false)
theorem fN.cj : ∀ k, (∀ y0 y1 y2, aj (fN.l0 k y0 y1 y2) (fN.l0 (k + 1) y0 y1 y2))
 | 0=>fun _ _ _ r h=>by simp [fN.l0] at h
 | k+1=>by
  have ali:=fN.cj k
  ·intro y0 y1 y2
   unfold fN.l0
   repeat' first
    | (with_reducible first|exact ali _ _ _|exact aj.refl _|exact aj.none _|refine aj.ite ?_ ?_|refine aj.bind ?_ (fun _=>?_))
    | exact ali _ _ _|exact aj.none _|refine aj.ite ?_ ?_|refine aj.bind ?_ (fun _=>?_)
theorem fN.mono:∀ a0 a1 k,aj (fN.f k a0 a1) (fN.f (k+1) a0 a1):=by
 intro a0 a1 k
 have ali:=fN.cj k
 unfold fN.f
 repeat' first
  | (with_reducible first|exact ali _ _ _|exact aj.refl _|exact aj.none _|refine aj.ite ?_ ?_|refine aj.bind ?_ (fun _=>?_))
  | exact ali _ _ _|exact aj.none _|refine aj.ite ?_ ?_|refine aj.bind ?_ (fun _=>?_)
set_option maxHeartbeats 8000000 in
set_option maxRecDepth 100000 in
theorem fN.calls (k : Nat) (A0 : Option Addr) (c0 : Nat) (l0 : List Int) (A1 : Option Addr) (c1 : Nat) (l1 : List Int) (r : Bool) (w : World) (cI : Kd.C (Kd.int .i64) w A0 l0.length l0) (hc0 : l0.length ≤ c0) (cE : Kd.C (Kd.int .i64) w A1 l1.length l1) (dW : l1.length ≤ c1) (h : fN.f k l0 l1 = some r) :
  Calls Try.prog 18 #[.slice A0 l0.length c0,.slice A1 l1.length c1] w fun e w'=>e=.returned (.bool r)∧als w w':=by
 have eA:=k0 cI
 have kP:=k0 hc0
 clear cI hc0
 have eP:=k0 cE
 have nk:=k0 dW
 clear cE dW
 have H:(if (l0.length:Int)=(l1.length:Int) then (fN.l0 k l0 l1 0) else (some false))=some r:=h
 clear h
 by_cases c3:(l0.length:Int)=(l1.length:Int)
 case neg =>
  rw [if_neg c3] at H
  have ja:((l0.length:Int) == (l1.length:Int))=false:=beq_eq_false_iff_ne.mpr c3
  have ov:((l0.length:Int) != (l1.length:Int))=true:=bne_iff_ne.mpr c3
  have Cn:(l0.length == l1.length)=false:=by first|simpa using c3|(simp at c3 ⊢;omega)
  obtain rfl:=Option.some.inj H
  go_enter Try.func18,Try.ntmps18
  go_wp2
  repeat (go_quiet (fail);try go_wp2)
  go_ret
  exact ⟨by first|rfl|(simp;done)|(simp [*];done),by repeat (first|exact als.refl _|apply als.step)⟩
 rw [if_pos c3] at H
 have ja:((l0.length:Int) == (l1.length:Int))=true:=beq_iff_eq.mpr c3
 have ov:((l0.length:Int) != (l1.length:Int))=false:=bne_eq_false_iff_eq.mpr c3
 have Cn:(l0.length == l1.length)=true:=by first|simpa using c3|(simp at c3 ⊢;omega)
 clear c3
 have H':=k0 H
 clear H
 go_enter Try.func18,Try.ntmps18
 go_wp2
 repeat (go_quiet (fail);try go_wp2)
 go_loopg [5] k (fun kq v5 w'=>∃ (aI:Int),v5=.int .i64 aI∧ak (fN.l0 kq l0 l1 aI=some r)∧ak (kq≤k)∧als w w')
 case atStart=>exact ⟨(0),rs,H',⟨Nat.le_refl _⟩,by repeat (first|exact als.refl _|apply als.step)⟩
 case round =>
  clear H'
  (try clear c3);(try clear ja);(try clear ov);(try clear Cn)
  obtain ⟨aI,rfl,HA,aM,⟨m1,rfl⟩⟩:=hrel
  cases gk with
  | zero=>exact absurd HA.out (by simp [fN.l0])
  | succ k1 =>
   have H:=HA.out
   clear HA
   simp only [fN.l0] at H
   by_cases c4:aI < (l0.length:Int)
   case neg =>
    rw [if_neg c4] at H
    have eV:decide (aI < (l0.length:Int))=false:=decide_eq_false c4
    clear c4
    obtain rfl:=Option.some.inj H
    go_wp2
    repeat (go_quiet (fail);try go_wp2)
    go_ret
    exact ⟨by first|rfl|(simp;done)|(simp [*];done),by repeat (first|exact als.refl _|apply als.step)⟩
   rw [if_pos c4] at H
   have eV:=decide_eq_true c4
   clear c4
   replace H:=iS H;obtain ⟨c5,H⟩:=H
   have jb:=decide_eq_true c5
   clear c5
   replace H:=iS H;obtain ⟨c6,H⟩:=H
   have jk:=decide_eq_true c6
   clear c6
   by_cases c7:(rd l0 aI)=(rd l1 aI)
   case neg =>
    rw [if_neg c7] at H
    have iz:((rd l0 aI) == (rd l1 aI))=false:=beq_eq_false_iff_ne.mpr c7
    have AV:((rd l0 aI) != (rd l1 aI))=true:=bne_iff_ne.mpr c7
    obtain rfl:=Option.some.inj H
    have fY:0≤(aI:Int):=oD
    have fZ:aI < (l0.length:Int):=oD
    obtain ⟨sY,e101,rK⟩:=Kd.bS eA.out aI fY fZ
    cases e101
    replace fY:=eq_true fY
    replace fZ:=eq_true fZ
    have eR:0≤(aI:Int):=oD
    have eS:aI < (l1.length:Int):=oD
    obtain ⟨rj,e102,jd⟩:=Kd.bS eP.out aI eR eS
    cases e102
    replace eR:=eq_true eR
    replace eS:=eq_true eS
    go_wp2
    repeat (go_quiet (fail);try go_wp2)
    go_ret
    exact ⟨by first|rfl|(simp;done)|(simp [*];done),by repeat (first|exact als.refl _|apply als.step)⟩
   rw [if_pos c7] at H
   have iz:((rd l0 aI) == (rd l1 aI))=true:=beq_iff_eq.mpr c7
   have AV:((rd l0 aI) != (rd l1 aI))=false:=bne_eq_false_iff_eq.mpr c7
   clear c7
   have H':=k0 H
   clear H
   have fY:0≤(aI:Int):=oD
   have fZ:aI < (l0.length:Int):=oD
   obtain ⟨sY,e101,rK⟩:=Kd.bS eA.out aI fY fZ
   cases e101
   replace fY:=eq_true fY
   replace fZ:=eq_true fZ
   have eR:0≤(aI:Int):=oD
   have eS:aI < (l1.length:Int):=oD
   obtain ⟨rj,e102,jd⟩:=Kd.bS eP.out aI eR eS
   cases e102
   replace eR:=eq_true eR
   replace eS:=eq_true eS
   go_wp2
   repeat (go_quiet (fail);try go_wp2)
   go_roundg k1
   case measure=>have:=aM.out;omega
   case rel=>exact ⟨(wrap64 (aI+1)),rs,H',⟨by have:=aM.out;omega⟩,by repeat (first|exact als.refl _|apply als.step)⟩
/-! ### F21: function 21 -/
def iy.l0 : Nat → List Int → Int → Int → Option (Int × List Int)
 | 0,_,_,_=>none
 | k+1,x0,x1,x5=>if x5 < (x0.length:Int) then (if 0≤x5 then (iy.l0 k (x0.set (x5:Int).toNat x1) (wrap64 (x1+1)) (wrap64 (x5+1))) else (none)) else (some (x1,x0))
def iy.f (k:Nat) (l0:List Int) (a1:Int):Option (Int × List Int):=iy.l0 k l0 a1 0
theorem iy.cj : ∀ k, (∀ y0 y1 y2, aj (iy.l0 k y0 y1 y2) (iy.l0 (k + 1) y0 y1 y2))
 | 0=>fun _ _ _ r h=>by simp [iy.l0] at h
 | k+1=>by
  have ali:=iy.cj k
  ·intro y0 y1 y2
   unfold iy.l0
   repeat' first
    | (with_reducible first|exact ali _ _ _|exact aj.refl _|exact aj.none _|refine aj.ite ?_ ?_|refine aj.bind ?_ (fun _=>?_))
    | exact ali _ _ _|exact aj.none _|refine aj.ite ?_ ?_|refine aj.bind ?_ (fun _=>?_)
theorem iy.mono:∀ a0 a1 k,aj (iy.f k a0 a1) (iy.f (k+1) a0 a1):=by
 intro a0 a1 k
 have ali:=iy.cj k
 unfold iy.f
 repeat' first
  | (with_reducible first|exact ali _ _ _|exact aj.refl _|exact aj.none _|refine aj.ite ?_ ?_|refine aj.bind ?_ (fun _=>?_))
  | exact ali _ _ _|exact aj.none _|refine aj.ite ?_ ?_|refine aj.bind ?_ (fun _=>?_)
set_option maxHeartbeats 8000000 in
set_option maxRecDepth 100000 in
theorem iy.calls (k : Nat) (iY : Nat → Prop) (vn : Value) (l0 : List Int) (a1 : Int) (r1 : Int) (r2 : List Int) (w0 w : World) (hB : Below w0.heap.size w0 w) (aY : Kd.R (Kd.int .i64) 2 w w0.heap.size iY vn l0) (h : iy.f k l0 a1 = some (r1, r2)) :
  Calls Try.prog 21 #[vn,.int .i64 a1] w fun e w'=>e=.returned (.int .i64 r1)∧Kd.R (Kd.int .i64) 2 w' w0.heap.size (fun k_=>(iY k_∨w.heap.size≤k_)) vn r2∧Below w0.heap.size w0 w'∧Kept w w' (fun k_=>iY k_):=by
 have ES:=k0 (show Kd.R (Kd.int .i64) 2 w w0.heap.size (fun k_=>(iY k_∨w.heap.size≤k_)) vn l0 from Kd.bx aY (fun k_ hk=>(.inl hk)))
 have HK:=k0 (Kept.refl w (fun k_=>iY k_))
 have Vx:=k0 hB.size
 have HB:=k0 hB
 clear hB
 have H:(iy.l0 k l0 a1 0)=some (r1,r2):=h
 clear h
 have H':=k0 H
 clear H
 go_enter Try.func21,Try.ntmps21
 go_wp2
 go_loopg [1,5] k (fun kq v1 v5 w'=>∃ (alV:List Int) (kf:Int) (aI:Int),v1=.int .i64 kf∧v5=.int .i64 aI∧ak (iy.l0 kq alV kf aI=some (r1,r2))∧ak (kq≤k)∧ak (Kd.R (Kd.int .i64) 2 w' w0.heap.size (fun k_=>(iY k_∨w.heap.size≤k_)) vn alV)∧ak (Kept w w' (fun k_=>iY k_))∧ak (Below w0.heap.size w0 w'))
 case atStart=>exact ⟨(l0),(a1),(0),rs,rs,H',⟨Nat.le_refl _⟩,⟨aR (ES.out)⟩,⟨by repeat (first|(with_reducible first|exact HK.out|apply Kept.alloc|apply Kept.drewN|apply Kept.drew)|exact HK.out)⟩,⟨bl⟩⟩
 case round =>
  clear H'
  obtain ⟨alV,kf,aI,rfl,rfl,HA,aM,kR,HK,HB⟩:=hrel
  cases gk with
  | zero=>exact absurd HA.out (by simp [iy.l0])
  | succ k1 =>
   have H:=HA.out
   clear HA
   simp only [iy.l0] at H
   by_cases c3:aI < (alV.length:Int)
   case neg =>
    rw [if_neg c3] at H
    have ja:decide (aI < (alV.length:Int))=false:=decide_eq_false c3
    clear c3
    simp only [Option.some.injEq,Prod.mk.injEq] at H
    obtain ⟨rfl,rfl⟩:=H
    obtain ⟨Ul,Fu,vZ⟩:=Kd.fh kR.out
    subst vZ
    go_wp2
    go_ret
    exact ⟨by first|rfl|(simp [bA,bB]<;>rfl)|(simp [*,bA,bB]<;>rfl),by (with_reducible repeat (first|apply Kd.bO|apply Kd.bR|apply Kd.alp));exact kR.out,bl,by repeat (first|(with_reducible first|exact HK.out|apply Kept.alloc|apply Kept.drewN|apply Kept.drew)|exact HK.out)⟩
   rw [if_pos c3] at H
   have ja:=decide_eq_true c3
   clear c3
   replace H:=iS H;obtain ⟨c4,H⟩:=H
   have eV:=decide_eq_true c4
   clear c4
   obtain ⟨iJ,fy⟩:∃ y_:List Int,y_=(alV.set (aI:Int).toNat kf):=⟨_,rfl⟩
   replace H:(iy.l0 k1 iJ (wrap64 (kf+1)) (wrap64 (aI+1)))=some (r1,r2):=by first|(rw [fy];with_reducible exact H)|(have ax:=(Option.bind_some _ _).symm.trans H;rw [fy];with_reducible exact ax)|(have ax:=(Option.bind_some _ _).symm.trans H;with_reducible exact ax)|with_reducible exact H|(rw [fy];exact H)|exact H
   have lz:=k0 fy
   clear fy
   have H':=k0 H
   clear H
   obtain ⟨Ao6,xD,Fz⟩:=Kd.fh kR.out
   subst Fz
   have p5:0≤(aI:Int):=oD
   have q5:(aI:Int) < ((alV.length:Int):Int):=oD
   obtain ⟨CH,co5,O_,PE,Z2,cl5,EK⟩:=Kd.kT kR.out (by omega)
   (first|cases O_|(injection O_ with aW aly c_;(first|subst aW|(injection aW with aW;subst aW));subst c_;clear aly))
   have UT:=k0 PE
   have GG5:=k0 EK
   clear PE Z2 EK
   have af6:=k0 (show (iY CH∨w.heap.size≤CH) from (kR.out.1 _ rfl))
   obtain ⟨aj',ah6⟩:=Kd.js 0 kR.out (aI:Int) p5 q5
   replace p5:=eq_true p5
   replace q5:=eq_true q5
   have Ib:=Kd.kr kR.out (aI:Int) kf
   go_wp2_with (first|((with_reducible refine kW (t:=2) (p:=15) rfl ?_);refine alT (t:=2) (p:=15) (v:=?ak') (w1:=(wr.setCell ⟨CH,(aI:Int).toNat,none⟩ (.int .i64 kf))) ?hg ?ho ?hn ?hr ?_;(case ho=>rfl);(case hg=>rfl);(case hn=>rfl);(case hr=>first|(go_simp;done)|(go_simp;rfl));intro w8 hw;have hg:wr.grownBy w8 (some CH):=(by rw [hw];exact Ib.2);have dO:Kd.R (Kd.int .i64) 2 w8 w0.heap.size (fun k_=>(iY k_∨w.heap.size≤k_)) (.slice (some ⟨CH,0,none⟩) alV.length xD) iJ:=(by rw [hw,lz.out];exact Ib.1);clear Ib;replace HB:=k0 ((by rw [hw];exact dI (HB.out) UT.out:Below w0.heap.size w0 w8));replace HK:=k0 (Kept.S5 (S:=(fun k_=>iY k_)) hg (by repeat (first|(with_reducible first|exact HK.out|apply Kept.alloc|apply Kept.drewN|apply Kept.drew)|exact HK.out)) (fun k_ e_=>(kR.out.1 k_ e_)));replace kR:=k0 (dO);clear hg hw dO))
   go_roundg k1
   case measure=>have:=aM.out;omega
   case rel=>exact ⟨(iJ),(wrap64 (kf+1)),(wrap64 (aI+1)),rs,rs,H',⟨by have:=aM.out;omega⟩,⟨aR (kR.out)⟩,⟨by repeat (first|(with_reducible first|exact HK.out|apply Kept.alloc|apply Kept.drewN|apply Kept.drew)|exact HK.out)⟩,⟨bl⟩⟩
/-! ### F22: function 22 -/
def jK.l0 : Nat → List Int → Int → Int → Option (Int)
 | 0,_,_,_=>none
 | k+1,x0,x1,x5=>if x5 < (x0.length:Int) then (if 0≤x5 then (if (rd x0 x5)=x1 then (jK.l0 k x0 (wrap64 (x1+1)) (wrap64 (x5+1))) else (some (-1))) else (none)) else (some x1)
def jK.f (k:Nat) (l0:List Int) (a1:Int):Option (Int):=jK.l0 k l0 a1 0
theorem jK.cj : ∀ k, (∀ y0 y1 y2, aj (jK.l0 k y0 y1 y2) (jK.l0 (k + 1) y0 y1 y2))
 | 0=>fun _ _ _ r h=>by simp [jK.l0] at h
 | k+1=>by
  have ali:=jK.cj k
  ·intro y0 y1 y2
   unfold jK.l0
   repeat' first
    | (with_reducible first|exact ali _ _ _|exact aj.refl _|exact aj.none _|refine aj.ite ?_ ?_|refine aj.bind ?_ (fun _=>?_))
    | exact ali _ _ _|exact aj.none _|refine aj.ite ?_ ?_|refine aj.bind ?_ (fun _=>?_)
theorem jK.mono:∀ a0 a1 k,aj (jK.f k a0 a1) (jK.f (k+1) a0 a1):=by
 intro a0 a1 k
 have ali:=jK.cj k
 unfold jK.f
 repeat' first
  | (with_reducible first|exact ali _ _ _|exact aj.refl _|exact aj.none _|refine aj.ite ?_ ?_|refine aj.bind ?_ (fun _=>?_))
  | exact ali _ _ _|exact aj.none _|refine aj.ite ?_ ?_|refine aj.bind ?_ (fun _=>?_)
set_option maxHeartbeats 8000000 in
set_option maxRecDepth 100000 in
theorem jK.calls (k : Nat) (A0 : Option Addr) (c0 : Nat) (l0 : List Int) (a1 : Int) (r : Int) (w : World) (cI : Kd.C (Kd.int .i64) w A0 l0.length l0) (hc0 : l0.length ≤ c0) (h : jK.f k l0 a1 = some r) :
  Calls Try.prog 22 #[.slice A0 l0.length c0,.int .i64 a1] w fun e w'=>e=.returned (.int .i64 r)∧als w w':=by
 have eA:=k0 cI
 have kP:=k0 hc0
 clear cI hc0
 have H:(jK.l0 k l0 a1 0)=some r:=h
 clear h
 have H':=k0 H
 clear H
 go_enter Try.func22,Try.ntmps22
 go_wp2
 go_loopg [1,5] k (fun kq v1 v5 w'=>∃ (kf:Int) (aI:Int),v1=.int .i64 kf∧v5=.int .i64 aI∧ak (jK.l0 kq l0 kf aI=some r)∧ak (kq≤k)∧als w w')
 case atStart=>exact ⟨(a1),(0),rs,rs,H',⟨Nat.le_refl _⟩,by repeat (first|exact als.refl _|apply als.step)⟩
 case round =>
  clear H'
  obtain ⟨kf,aI,rfl,rfl,HA,aM,⟨m1,rfl⟩⟩:=hrel
  cases gk with
  | zero=>exact absurd HA.out (by simp [jK.l0])
  | succ k1 =>
   have H:=HA.out
   clear HA
   simp only [jK.l0] at H
   by_cases c3:aI < (l0.length:Int)
   case neg =>
    rw [if_neg c3] at H
    have ja:decide (aI < (l0.length:Int))=false:=decide_eq_false c3
    clear c3
    obtain rfl:=Option.some.inj H
    go_wp2
    go_ret
    exact ⟨by first|rfl|(simp;done)|(simp [*];done),by repeat (first|exact als.refl _|apply als.step)⟩
   rw [if_pos c3] at H
   have ja:=decide_eq_true c3
   clear c3
   replace H:=iS H;obtain ⟨c4,H⟩:=H
   have eV:=decide_eq_true c4
   clear c4
   by_cases c5:(rd l0 aI)=kf
   case neg =>
    rw [if_neg c5] at H
    have jb:((rd l0 aI) == kf)=false:=beq_eq_false_iff_ne.mpr c5
    have vU:((rd l0 aI) != kf)=true:=bne_iff_ne.mpr c5
    obtain rfl:=Option.some.inj H
    have fY:0≤(aI:Int):=oD
    have fZ:aI < (l0.length:Int):=oD
    obtain ⟨sY,e101,rK⟩:=Kd.bS eA.out aI fY fZ
    cases e101
    replace fY:=eq_true fY
    replace fZ:=eq_true fZ
    go_wp2
    go_ret
    exact ⟨by first|rfl|(simp;done)|(simp [*];done),by repeat (first|exact als.refl _|apply als.step)⟩
   rw [if_pos c5] at H
   have jb:((rd l0 aI) == kf)=true:=beq_iff_eq.mpr c5
   have vU:((rd l0 aI) != kf)=false:=bne_eq_false_iff_eq.mpr c5
   clear c5
   have H':=k0 H
   clear H
   have fY:0≤(aI:Int):=oD
   have fZ:aI < (l0.length:Int):=oD
   obtain ⟨sY,e101,rK⟩:=Kd.bS eA.out aI fY fZ
   cases e101
   replace fY:=eq_true fY
   replace fZ:=eq_true fZ
   go_wp2
   go_roundg k1
   case measure=>have:=aM.out;omega
   case rel=>exact ⟨(wrap64 (kf+1)),(wrap64 (aI+1)),rs,rs,H',⟨by have:=aM.out;omega⟩,by repeat (first|exact als.refl _|apply als.step)⟩
/-! ### F156: function 156 -/
def yB.f (l0:List Int) (a1:Int):Option (Int):=if (wrap64 (a1 - (l0.length:Int))) < 0 then (some (-1)) else (some (wrap64 (a1 - (l0.length:Int))))
set_option maxHeartbeats 8000000 in
set_option maxRecDepth 100000 in
theorem yB.calls (A0 : Option Addr) (c0 : Nat) (l0 : List Int) (a1 : Int) (r : Int) (w : World) (cI : Kd.C (Kd.int .i64) w A0 l0.length l0) (hc0 : l0.length ≤ c0) (h : yB.f l0 a1 = some r) :
  Calls Try.prog 156 #[.slice A0 l0.length c0,.int .i64 a1] w fun e w'=>e=.returned (.int .i64 r)∧als w w':=by
 have eA:=k0 cI
 have kP:=k0 hc0
 clear cI hc0
 have H:(if (wrap64 (a1 - (l0.length:Int))) < 0 then (some (-1)) else (some (wrap64 (a1 - (l0.length:Int)))))=some r:=h
 clear h
 by_cases c3:(wrap64 (a1 - (l0.length:Int))) < 0
 case neg =>
  rw [if_neg c3] at H
  have ja:decide ((wrap64 (a1 - (l0.length:Int))) < 0)=false:=decide_eq_false c3
  clear c3
  obtain rfl:=Option.some.inj H
  go_enter Try.func156,Try.ntmps156
  go_wp2
  go_ret
  exact ⟨by first|rfl|(simp;done)|(simp [*];done),by repeat (first|exact als.refl _|apply als.step)⟩
 rw [if_pos c3] at H
 have ja:=decide_eq_true c3
 clear c3
 obtain rfl:=Option.some.inj H
 go_enter Try.func156,Try.ntmps156
 go_wp2
 go_ret
 exact ⟨by first|rfl|(simp;done)|(simp [*];done),by repeat (first|exact als.refl _|apply als.step)⟩
/-! ### F79: function 79 -/
def iC.l0 : Nat → List (List Int) → Int → Int → Option (Int)
 | 0,_,_,_=>none
 | k+1,x0,x1,x5=>if x5 < (x0.length:Int) then (if 0≤x5 then ((yB.f (ag x0 x5) x1).bind fun t102=>(if t102 < 0 then (some (-1)) else (iC.l0 k x0 t102 (wrap64 (x5+1))))) else (none)) else (some x1)
def iC.f (k:Nat) (l0:List (List Int)) (a1:Int):Option (Int):=if (wrap64 (a1 - (l0.length:Int))) < 0 then (some (-1)) else (iC.l0 k l0 (wrap64 (a1 - (l0.length:Int))) 0)
theorem iC.cj : ∀ k, (∀ y0 y1 y2, aj (iC.l0 k y0 y1 y2) (iC.l0 (k + 1) y0 y1 y2))
 | 0=>fun _ _ _ r h=>by simp [iC.l0] at h
 | k+1=>by
  have ali:=iC.cj k
  ·intro y0 y1 y2
   unfold iC.l0
   repeat' first
    | (with_reducible first|exact ali _ _ _|exact aj.refl _|exact aj.none _|refine aj.ite ?_ ?_|refine aj.bind ?_ (fun _=>?_))
    | exact ali _ _ _|exact aj.none _|refine aj.ite ?_ ?_|refine aj.bind ?_ (fun _=>?_)
theorem iC.mono:∀ a0 a1 k,aj (iC.f k a0 a1) (iC.f (k+1) a0 a1):=by
 intro a0 a1 k
 have ali:=iC.cj k
 unfold iC.f
 repeat' first
  | (with_reducible first|exact ali _ _ _|exact aj.refl _|exact aj.none _|refine aj.ite ?_ ?_|refine aj.bind ?_ (fun _=>?_))
  | exact ali _ _ _|exact aj.none _|refine aj.ite ?_ ?_|refine aj.bind ?_ (fun _=>?_)
set_option maxHeartbeats 8000000 in
set_option maxRecDepth 100000 in
theorem iC.calls (k : Nat) (A0 : Option Addr) (c0 : Nat) (l0 : List (List Int)) (a1 : Int) (r : Int) (w : World) (cI : Kd.C (Kd.slice 2 (Kd.int .i64)) w A0 l0.length l0) (hc0 : l0.length ≤ c0) (h : iC.f k l0 a1 = some r) :
  Calls Try.prog 79 #[.slice A0 l0.length c0,.int .i64 a1] w fun e w'=>e=.returned (.int .i64 r)∧als w w':=by
 have eA:=k0 cI
 have kP:=k0 hc0
 clear cI hc0
 have H:(if (wrap64 (a1 - (l0.length:Int))) < 0 then (some (-1)) else (iC.l0 k l0 (wrap64 (a1 - (l0.length:Int))) 0))=some r:=h
 clear h
 by_cases c3:(wrap64 (a1 - (l0.length:Int))) < 0
 case neg =>
  rw [if_neg c3] at H
  have ja:decide ((wrap64 (a1 - (l0.length:Int))) < 0)=false:=decide_eq_false c3
  clear c3
  have H':=k0 H
  clear H
  go_enter Try.func79,Try.ntmps79
  go_wp2
  go_loopg [1,5] k (fun kq v1 v5 w'=>∃ (kf:Int) (aI:Int),v1=.int .i64 kf∧v5=.int .i64 aI∧ak (iC.l0 kq l0 kf aI=some r)∧ak (kq≤k)∧als w w')
  case atStart=>exact ⟨(wrap64 (a1 - (l0.length:Int))),(0),rs,rs,H',⟨Nat.le_refl _⟩,by repeat (first|exact als.refl _|apply als.step)⟩
  case round =>
   clear H'
   (try clear c3);(try clear ja)
   obtain ⟨kf,aI,rfl,rfl,HA,aM,⟨m1,rfl⟩⟩:=hrel
   cases gk with
   | zero=>exact absurd HA.out (by simp [iC.l0])
   | succ k1 =>
    have H:=HA.out
    clear HA
    simp only [iC.l0] at H
    by_cases c4:aI < (l0.length:Int)
    case neg =>
     rw [if_neg c4] at H
     have eV:decide (aI < (l0.length:Int))=false:=decide_eq_false c4
     clear c4
     obtain rfl:=Option.some.inj H
     go_wp2
     go_ret
     exact ⟨by first|rfl|(simp;done)|(simp [*];done),by repeat (first|exact als.refl _|apply als.step)⟩
    rw [if_pos c4] at H
    have eV:=decide_eq_true c4
    clear c4
    replace H:=iS H;obtain ⟨c5,H⟩:=H
    have jb:=decide_eq_true c5
    clear c5
    replace H:=Option.bind_eq_some_iff.mp H
    obtain ⟨t102,wZ,H⟩:=H
    replace H:(if t102 < 0 then (some (-1)) else (iC.l0 k1 l0 t102 (wrap64 (aI+1))))=some r:=H
    have A6:=k0 wZ
    clear wZ
    by_cases c7:t102 < 0
    case neg =>
     rw [if_neg c7] at H
     have iz:decide (t102 < 0)=false:=decide_eq_false c7
     clear c7
     have H':=k0 H
     clear H
     have fY:0≤(aI:Int):=oD
     have fZ:aI < (l0.length:Int):=oD
     obtain ⟨sY,BH,Ch,e101,rK,tO,tI⟩:=cZ eA.out aI fY fZ
     cases e101
     have sV:=k0 tI
     have sQ:=k0 tO
     clear tI tO
     replace fY:=eq_true fY
     replace fZ:=eq_true fZ
     go_wp2_with (first|((with_reducible refine fo (f:=156) rfl ?_);refine fq (some 23) rfl rfl Try.func156 (by kernel_rfl) rfl #[.slice BH (ag l0 aI).length Ch,.int .i64 kf] rfl gm ?_;(with_reducible refine (yB.calls _ _ (ag l0 aI) kf t102 _ ?bt ?bu A6.out).mono ?_);(case bt=>exact aC sV.out);(case bu=>exact sQ.out);rintro e w' ⟨rfl,⟨nd,rfl⟩⟩;refine ⟨_,rfl,?_⟩))
     go_roundg k1
     case measure=>have:=aM.out;omega
     case rel=>exact ⟨(t102),(wrap64 (aI+1)),rs,rs,H',⟨by have:=aM.out;omega⟩,by repeat (first|exact als.refl _|apply als.step)⟩
    rw [if_pos c7] at H
    have iz:=decide_eq_true c7
    clear c7
    obtain rfl:=Option.some.inj H
    have fY:0≤(aI:Int):=oD
    have fZ:aI < (l0.length:Int):=oD
    obtain ⟨sY,BH,Ch,e101,rK,tO,tI⟩:=cZ eA.out aI fY fZ
    cases e101
    have sV:=k0 tI
    have sQ:=k0 tO
    clear tI tO
    replace fY:=eq_true fY
    replace fZ:=eq_true fZ
    go_wp2_with (first|((with_reducible refine fo (f:=156) rfl ?_);refine fq (some 23) rfl rfl Try.func156 (by kernel_rfl) rfl #[.slice BH (ag l0 aI).length Ch,.int .i64 kf] rfl gm ?_;(with_reducible refine (yB.calls _ _ (ag l0 aI) kf t102 _ ?bt ?bu A6.out).mono ?_);(case bt=>exact aC sV.out);(case bu=>exact sQ.out);rintro e w' ⟨rfl,⟨nd,rfl⟩⟩;refine ⟨_,rfl,?_⟩))
    go_ret
    exact ⟨by first|rfl|(simp;done)|(simp [*];done),by repeat (first|exact als.refl _|apply als.step)⟩
 rw [if_pos c3] at H
 have ja:=decide_eq_true c3
 clear c3
 obtain rfl:=Option.some.inj H
 go_enter Try.func79,Try.ntmps79
 go_wp2
 go_ret
 exact ⟨by first|rfl|(simp;done)|(simp [*];done),by repeat (first|exact als.refl _|apply als.step)⟩
/-! ### F23: function 23 -/
def qi.f (k:Nat) (af:Int) (aa:List (List Int)) (a1:Int):Option (Int):=(iC.f k aa a1).bind fun t102=>(if t102 < 0 then (some (-1)) else (some t102))
theorem qi.mono:∀ a0 a1 a2 k,aj (qi.f k a0 a1 a2) (qi.f (k+1) a0 a1 a2):=by
 intro a0 a1 a2 k
 unfold qi.f
 repeat' first
  | (with_reducible first|exact iC.mono _ _ _|exact aj.refl _|exact aj.none _|refine aj.ite ?_ ?_|refine aj.bind ?_ (fun _=>?_))
  | exact iC.mono _ _ _|exact aj.none _|refine aj.ite ?_ ?_|refine aj.bind ?_ (fun _=>?_)
set_option maxHeartbeats 8000000 in
set_option maxRecDepth 100000 in
theorem qi.calls (k : Nat) (af : Int) (au : Option Addr) (aq : Nat) (aa : List (List Int)) (a1 : Int) (r : Int) (w : World) (cl : Kd.C (Kd.slice 2 (Kd.int .i64)) w au aa.length aa) (cn : aa.length ≤ aq) (h : qi.f k af aa a1 = some r) :
  Calls Try.prog 23 #[.agg #[.int .i64 af,.slice au aa.length aq],.int .i64 a1] w fun e w'=>e=.returned (.int .i64 r)∧Below w.heap.size w w':=by
 have abZ:=Try.underlying24
 have alx:=k0 cl
 have di:=k0 cn
 clear cl cn
 have HB:=k0 (Below.refl w.heap.size w)
 have H:((iC.f k aa a1).bind fun t102=>(if t102 < 0 then (some (-1)) else (some t102)))=some r:=h
 clear h
 replace H:=Option.bind_eq_some_iff.mp H
 obtain ⟨t102,qh,H⟩:=H
 replace H:(if t102 < 0 then (some (-1)) else (some t102))=some r:=H
 have A3:=k0 qh
 clear qh
 by_cases c4:t102 < 0
 case neg =>
  rw [if_neg c4] at H
  have eV:decide (t102 < 0)=false:=decide_eq_false c4
  clear c4
  obtain rfl:=Option.some.inj H
  go_enter Try.func23,Try.ntmps23
  go_wp2_with (first|((with_reducible refine cy (N:=2) rfl ?_);refine ec ?hg (N:=2) ?hd (cs:=#[.int .i64 af,.slice au aa.length aq]) (t:=24) ?hr ?_;(case hd=>rfl);(case hg=>rfl);(case hr=>first|(go_simp;done)|(go_simp;rfl));intro ai hg w7 aJ hb;have ah:=k0 (aJ);have cr:=k0 ((by rw [hg];exact (aU bl):w.heap.size≤ai));have eL:=cr;replace HB:=k0 (aG bl hb);clear hb aJ hg;have xS:w7.cell? ⟨ai,0,none⟩=some (.int .i64 af):=(av ah.out 0).trans rfl;have xT:w7.cell? ⟨ai,1,none⟩=some (.slice au aa.length aq):=(av ah.out 1).trans rfl;have xY:=ale ah.out 0;have xZ:=ale ah.out 1)|((with_reducible refine fo (f:=79) rfl ?_);refine fq (some 8) rfl rfl Try.func79 (by kernel_rfl) rfl #[.slice au aa.length aq,.int .i64 a1] rfl gm ?_;(with_reducible refine (iC.calls k _ _ aa a1 t102 _ ?bt ?bu A3.out).mono ?_);(case bt=>exact aC (Kd.bI alx.out HB.out));(case bu=>exact di.out);rintro e w' ⟨rfl,⟨nd,rfl⟩⟩;refine ⟨_,rfl,?_⟩))
  go_ret
  exact ⟨by first|rfl|(simp [bA,bB]<;>rfl)|(simp [*,bA,bB]<;>rfl),bl⟩
 rw [if_pos c4] at H
 have eV:=decide_eq_true c4
 clear c4
 obtain rfl:=Option.some.inj H
 go_enter Try.func23,Try.ntmps23
 go_wp2_with (first|((with_reducible refine cy (N:=2) rfl ?_);refine ec ?hg (N:=2) ?hd (cs:=#[.int .i64 af,.slice au aa.length aq]) (t:=24) ?hr ?_;(case hd=>rfl);(case hg=>rfl);(case hr=>first|(go_simp;done)|(go_simp;rfl));intro ai hg w5 aJ hb;have ah:=k0 (aJ);have cr:=k0 ((by rw [hg];exact (aU bl):w.heap.size≤ai));have eL:=cr;replace HB:=k0 (aG bl hb);clear hb aJ hg;have amE:w5.cell? ⟨ai,0,none⟩=some (.int .i64 af):=(av ah.out 0).trans rfl;have wu:w5.cell? ⟨ai,1,none⟩=some (.slice au aa.length aq):=(av ah.out 1).trans rfl;have wE:=ale ah.out 0;have wF:=ale ah.out 1)|((with_reducible refine fo (f:=79) rfl ?_);refine fq (some 8) rfl rfl Try.func79 (by kernel_rfl) rfl #[.slice au aa.length aq,.int .i64 a1] rfl gm ?_;(with_reducible refine (iC.calls k _ _ aa a1 t102 _ ?bt ?bu A3.out).mono ?_);(case bt=>exact aC (Kd.bI alx.out HB.out));(case bu=>exact di.out);rintro e w' ⟨rfl,⟨nd,rfl⟩⟩;refine ⟨_,rfl,?_⟩))
 go_ret
 exact ⟨by first|rfl|(simp [bA,bB]<;>rfl)|(simp [*,bA,bB]<;>rfl),bl⟩
end Go.Proofs.Ytoebojnhchocaaa.B
/- Set with little white space, by a program. -/
