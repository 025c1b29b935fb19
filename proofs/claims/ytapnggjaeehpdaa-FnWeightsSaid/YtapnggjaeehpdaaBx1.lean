/- Go's calls come to what the Lean functions say. Condition of each: that the Lean function answers. -/
import Derived.Test.YtapnggjaeehpdaaBx0
namespace Go.Proofs.Ytapnggjaeehpdaa.B
open Go.RowKit Go.Proofs.bz.dI Go.Proofs.bz.iY Go.Proofs.bz.jn
attribute [local go_sem] max2_int min2_int max_two min_two max_three min_three max_four min_four
set_option linter.unusedVariables false
set_option linter.unusedSimpArgs false
set_option maxHeartbeats 8000000
set_option maxRecDepth 100000
/-! ### F5: function 5 -/
def F5.f (l0:List Int):Option (Bool):=some (decide ((l0.length:Int) > 4096))
theorem F5.calls (A0 : Option Addr) (c0 : Nat) (l0 : List Int) (r : Bool) (w : World) (bX : Kd.C (Kd.int .u8) w A0 l0.length l0) (hc0 : l0.length ≤ c0) (h : F5.f l0 = some r) :
  Calls Try.prog 5 #[.slice A0 l0.length c0] w fun e w'=>e=.returned (.bool r)∧iV w w':=by
 have dh:=k0 bX
 have gG:=k0 hc0
 clear bX hc0
 unfold F5.f at h
 have H:=h
 clear h
 obtain rfl:=Option.some.inj H
 go_enter Try.func5,Try.ntmps5
 go_wp2
 go_ret
 exact ⟨rs,dW⟩
/-! ### F9: function 9 -/
def F9.l0 : Nat → List Int → List Int → Int → Option (Bool)
 | 0,_,_,_=>none
 | k+1,x0,x1,x5=>if x5 < (x0.length:Int) then (if 0≤x5 then (if x5 < (x1.length:Int) then (if (rd x0 x5)=(rd x1 x5) then (F9.l0 k x0 x1 (wrap64 (x5+1))) else (some false)) else (none)) else (none)) else (some true)
def F9.f (k:Nat) (l0:List Int) (l1:List Int):Option (Bool):=if (l0.length:Int)=(l1.length:Int) then (F9.l0 k l0 l1 0) else (some false)
theorem F9.calls (k : Nat) (A0 : Option Addr) (c0 : Nat) (l0 : List Int) (A1 : Option Addr) (c1 : Nat) (l1 : List Int) (r : Bool) (w : World) (bX : Kd.C (Kd.int .i64) w A0 l0.length l0) (hc0 : l0.length ≤ c0) (gl : Kd.C (Kd.int .i64) w A1 l1.length l1) (iQ : l1.length ≤ c1) (h : F9.f k l0 l1 = some r) :
  Calls Try.prog 9 #[.slice A0 l0.length c0,.slice A1 l1.length c1] w fun e w'=>e=.returned (.bool r)∧iV w w':=by
 have dh:=k0 bX
 have gG:=k0 hc0
 clear bX hc0
 have iM:=k0 gl
 have yE:=k0 iQ
 clear gl iQ
 unfold F9.f at h
 have H:=h
 clear h
 by_cases c3:(l0.length:Int)=(l1.length:Int)
 case neg =>
  rw [if_neg c3] at H
  have lC:=beq_eq_false_iff_ne.mpr c3
  have vU:=bne_iff_ne.mpr c3
  have aef:(l0.length == l1.length)=false:=by first|simpa using c3|(simp at c3 ⊢;omega)
  obtain rfl:=Option.some.inj H
  go_enter Try.func9,Try.ntmps9
  go_wp2
  repeat (go_quiet (fail);try go_wp2)
  go_ret
  exact ⟨rs,dW⟩
 rw [if_pos c3] at H
 have lC:=beq_iff_eq.mpr c3
 have vU:=bne_eq_false_iff_eq.mpr c3
 have aef:(l0.length == l1.length)=true:=by first|simpa using c3|(simp at c3 ⊢;omega)
 clear c3
 have H':=k0 H
 clear H
 go_enter Try.func9,Try.ntmps9
 go_wp2
 repeat (go_quiet (fail);try go_wp2)
 go_loopg [5] k (fun kq v5 w'=>∃ (aD:Int),v5=.int .i64 aD∧af (F9.l0 kq l0 l1 aD=some r)∧af (kq≤k)∧iV w w')
 case atStart=>exact ⟨(0),rs,H',⟨Nat.le_refl _⟩,dW⟩
 case round =>
  clear H'
  obtain ⟨aD,rfl,HA,as3,⟨m1,rfl⟩⟩:=hrel
  cases gk with
  | zero=>exact absurd HA.z (by simp [F9.l0])
  | succ k1 =>
   have H:=HA.z
   clear HA
   simp only [F9.l0] at H
   replace H:=iC H;obtain ⟨gI,H⟩|⟨gI,H⟩:=H
   case inl =>
    obtain rfl:=Option.some.inj H
    go_wp2
    repeat (go_quiet (fail);try go_wp2)
    go_ret
    exact ⟨rs,dW⟩
   replace H:=iS H;obtain ⟨c5,H⟩:=H
   have gJ:=decide_eq_true c5
   clear c5
   replace H:=iS H;obtain ⟨c6,H⟩:=H
   have iP:=decide_eq_true c6
   clear c6
   replace H:=iE H;obtain ⟨c7,pn,au5,H⟩|⟨pn,au5,H⟩:=H
   case inl =>
    obtain rfl:=Option.some.inj H
    obtain ⟨atK,atL⟩:=iN aD (l0.length:Int)
    obtain ⟨ry,e101,pJ⟩:=Kd.bK dh.z aD atK atL
    cases e101
    replace atK:=eT atK
    replace atL:=eT atL
    obtain ⟨cW,cX⟩:=iN aD (l1.length:Int)
    obtain ⟨lA,e102,eP⟩:=Kd.bK iM.z aD cW cX
    cases e102
    replace cW:=eT cW
    replace cX:=eT cX
    go_wp2
    repeat (go_quiet (fail);try go_wp2)
    go_ret
    exact ⟨rs,dW⟩
   have H':=k0 H
   clear H
   obtain ⟨atK,atL⟩:=iN aD (l0.length:Int)
   obtain ⟨ry,e101,pJ⟩:=Kd.bK dh.z aD atK atL
   cases e101
   replace atK:=eT atK
   replace atL:=eT atL
   obtain ⟨cW,cX⟩:=iN aD (l1.length:Int)
   obtain ⟨lA,e102,eP⟩:=Kd.bK iM.z aD cW cX
   cases e102
   replace cW:=eT cW
   replace cX:=eT cX
   go_wp2
   repeat (go_quiet (fail);try go_wp2)
   go_roundg k1
   case measure=>have:=as3.z;omega
   case rel=>exact ⟨(wrap64 (aD+1)),rs,H',⟨by have:=as3.z;omega⟩,dW⟩
/-- A state of type 103 at block g of W; what its slices lead to came in by w0. -/
def ag (w0 W:World) (g:Nat) (f0:List Int) (f1:Int) (f2:Int):Prop:=∃ A0 c0,W.heap[g]?=some (.cells #[.slice A0 f0.length c0,.int .i64 f1,.int .u64 f2] 103 (0,0))∧w0.heap.size≤g∧Kd.C (Kd.int .u8) w0 A0 f0.length f0
theorem ag.grown {w0 W:World} {g:Nat} {f0:List Int} {f1:Int} {f2:Int} {W1:World} {row:Option Nat} (h:ag w0 W g f0 f1 f2) (hw:W.grownBy W1 row) (hne:some g ≠ row):ag w0 W1 g f0 f1 f2:=by
 obtain ⟨A0,c0,hb,hg,bX⟩:=h
 exact ⟨A0,c0,fL hb hw hne,hg,bX⟩
theorem ag.arW {w0 W:World} {g:Nat} {f0:List Int} {f1:Int} {f2:Int} {α:Type} {d:Kd α} {e:Nat} {base:Nat} {ok:Nat→Prop} {v:Value} {xs:List α} (h:ag w0 W g f0 f1 f2) (ho:Kd.N d e W base ok v xs) (ht:e ≠ 103):some g ≠ v.ownBlock:=by
 obtain ⟨A0,c0,hb,hg,bX⟩:=h
 exact Kd.aco ho hb ht
theorem ag.fresh {w0 W:World} {g:Nat} {f0:List Int} {f1:Int} {f2:Int} (h:ag w0 W g f0 f1 f2):∀ k,W.heap.size≤k→k ≠ g:=by
 obtain ⟨A0,c0,hb,hg,bX⟩:=h
 exact Kd.qK hb
theorem ag.kept {w0 W:World} {g:Nat} {f0:List Int} {f1:Int} {f2:Int} {W1:World} {S:Nat→Prop} (h:ag w0 W g f0 f1 f2) (hk:Kept W W1 S) (hne:¬ S g):ag w0 W1 g f0 f1 f2:=by
 obtain ⟨A0,c0,hb,hg,bX⟩:=h
 exact ⟨A0,c0,adD hb hk hne,hg,bX⟩
theorem ag.below {w0 W:World} {g:Nat} {f0:List Int} {f1:Int} {f2:Int} {W1:World} (h:ag w0 W g f0 f1 f2) (hw:Below W.heap.size W W1):ag w0 W1 g f0 f1 f2:=h.grown (VV hw none) (by simp)
theorem ag.alloc {w0 W:World} {g:Nat} {f0:List Int} {f1:Int} {f2:Int} (h:ag w0 W g f0 f1 f2) (o:Obj):ag w0 (W.alloc o) g f0 f1 f2:=h.below (eH (Below.refl _ _) o)
theorem ag.drewN {w0 W:World} {g:Nat} {f0:List Int} {f1:Int} {f2:Int} (h:ag w0 W g f0 f1 f2) (m:Nat):ag w0 (W.drewN m) g f0 f1 f2:=h
theorem ag.drew {w0 W:World} {g:Nat} {f0:List Int} {f1:Int} {f2:Int} (h:ag w0 W g f0 f1 f2):ag w0 W.drew g f0 f1 f2:=h
theorem ag.at_ {w0 W:World} {g:Nat} {f0:List Int} {f1:Int} {f2:Int} {w':World} {m:Nat} (hq:W.drewN m=w') (h:ag w0 W g f0 f1 f2):ag w0 w' g f0 f1 f2:=by subst hq;exact ag.drewN h m
theorem ag.apart {w0 W:World} {g:Nat} {f0:List Int} {f1:Int} {f2:Int} {α:Type} {d:Kd α} {e:Nat} {base:Nat} {ok:Nat→Prop} {v:Value} {xs:List α} (h:ag w0 W g f0 f1 f2) (ho:d.R e W base ok v xs) (ht:∀ q,q ∈ e :: d.E→q ≠ 103):d.R e W base (fun k=>ok k∧k ≠ g) v xs:=by
 obtain ⟨A0,c0,hb,hg,bX⟩:=h
 exact Kd.FY ho hb ht
theorem ag.lK {w0 W:World} {g:Nat} {f0:List Int} {f1:Int} {f2:Int} {α:Type} {d:Kd α} {e:Nat} {base:Nat} {ok:Nat→Prop} {v:Value} {xs:List α} (h:ag w0 W g f0 f1 f2) (ho:d.R e W base ok v xs) (ht:e ≠ 103):some g ≠ v.ownBlock:=by
 obtain ⟨A0,c0,hb,hg,bX⟩:=h
 exact Kd.jh ho hb ht
theorem ag.anr {w0 W:World} {g:Nat} {f0:List Int} {f1:Int} {f2:Int} {α:Type} {d:Kd α} {e:Nat} {base:Nat} {ok:Nat→Prop} {v:Value} {xs:List α} (h:ag w0 W g f0 f1 f2) (ho:d.Q e W base ok v xs) (ht:∀ q,q ∈ e :: d.E→q ≠ 103):d.Q e W base (fun k=>ok k∧k ≠ g) v xs:=by
 obtain ⟨A0,c0,hb,hg,bX⟩:=h
 exact Kd.acz ho hb ht
theorem ag.arX {w0 W:World} {g:Nat} {f0:List Int} {f1:Int} {f2:Int} {α:Type} {d:Kd α} {e:Nat} {base:Nat} {ok:Nat→Prop} {v:Value} {xs:List α} (h:ag w0 W g f0 f1 f2) (ho:d.Q e W base ok v xs) (ht:e ≠ 103):some g ≠ v.ownBlock:=by
 obtain ⟨A0,c0,hb,hg,bX⟩:=h
 exact Kd.acv ho hb ht
theorem ag.p6 {w0 W:World} {g:Nat} {f0:List Int} {f1:Int} {f2:Int} {α:Type} {d:Kd α} {e:Nat} {base:Nat} {ok:Nat→Prop} {v:Value} {xs:List α} (h:ag w0 W g f0 f1 f2) (ho:d.S e W base ok v xs) (ht:∀ q,q ∈ e :: d.E→q ≠ 103):d.S e W base (fun k=>ok k∧k ≠ g) v xs:=by
 obtain ⟨A0,c0,hb,hg,bX⟩:=h
 exact Kd.Af ho hb ht
theorem ag.CZ {w0 W:World} {g:Nat} {f0:List Int} {f1:Int} {f2:Int} {α:Type} {d:Kd α} {e:Nat} {base:Nat} {ok:Nat→Prop} {v:Value} {xs:List α} (h:ag w0 W g f0 f1 f2) (ho:d.S e W base ok v xs) (ht:e ≠ 103):some g ≠ v.ownBlock:=by
 obtain ⟨A0,c0,hb,hg,bX⟩:=h
 exact Kd.mX ho hb ht
theorem ag.lt {w0 W:World} {g:Nat} {f0:List Int} {f1:Int} {f2:Int} (h:ag w0 W g f0 f1 f2):g < W.heap.size:=by
 obtain ⟨A0,c0,hb,hg,bX⟩:=h
 exact lX hb
theorem ag.ge {w0 W:World} {g:Nat} {f0:List Int} {f1:Int} {f2:Int} (h:ag w0 W g f0 f1 f2):w0.heap.size≤g:=by
 obtain ⟨A0,c0,hb,hg,bX⟩:=h
 exact hg
theorem ag.avj {w0 W:World} {g:Nat} {f0:List Int} {f1:Int} {f2:Int} {a:Nat} {cs:Array Value} {t:TypeId} {fr:Nat × Nat} (h:ag w0 W g f0 f1 f2) (hU:W.heap[a]?=some (.cells cs t fr)) (ht:t ≠ 103):g ≠ a:=by
 obtain ⟨A0,c0,hb,hg,bX⟩:=h
 rintro rfl
 rw [hb] at hU
 injection hU with hU
 injection hU with _ ht2
 exact ht ht2.symm
theorem ag.far {w0 W:World} {g:Nat} {f0:List Int} {f1:Int} {f2:Int} {p:Addr} (h:ag w0 W g f0 f1 f2) (hne:g ≠ p.block) (u:Value):ag w0 (W.setCell p u) g f0 f1 f2:=by
 obtain ⟨A0,c0,hb,hg,bX⟩:=h
 exact ⟨A0,c0,yU hb hne u,hg,bX⟩
theorem UE {W:World} {g:Nat} {A0:Option Addr} {c0:Nat} {f0:List Int} {f1:Int} {f2:Int} (h:W.heap[g]?=some (.cells #[.slice A0 f0.length c0,.int .i64 f1,.int .u64 f2] 103 (0,0))):W.cell? ⟨g,0,none⟩=some (.slice A0 f0.length c0):=(dY h 0).trans rfl
theorem UF {W:World} {g:Nat} {A0:Option Addr} {c0:Nat} {f0:List Int} {f1:Int} {f2:Int} (h:W.heap[g]?=some (.cells #[.slice A0 f0.length c0,.int .i64 f1,.int .u64 f2] 103 (0,0))):W.cell? ⟨g,1,none⟩=some (.int .i64 f1):=(dY h 1).trans rfl
theorem ag.ake {w0 W:World} {g:Nat} {f0:List Int} {f1:Int} {f2:Int} (h:ag w0 W g f0 f1 f2) (x:Int):ag w0 (W.setCell ⟨g,1,none⟩ (.int .i64 x)) g f0 x f2:=by
 obtain ⟨A0,c0,hb,hg,bX⟩:=h
 exact ⟨A0,c0,by simpa using JJ hb 1 (.int .i64 x),hg,bX⟩
theorem UG {W:World} {g:Nat} {A0:Option Addr} {c0:Nat} {f0:List Int} {f1:Int} {f2:Int} (h:W.heap[g]?=some (.cells #[.slice A0 f0.length c0,.int .i64 f1,.int .u64 f2] 103 (0,0))):W.cell? ⟨g,2,none⟩=some (.int .u64 f2):=(dY h 2).trans rfl
theorem ag.akf {w0 W:World} {g:Nat} {f0:List Int} {f1:Int} {f2:Int} (h:ag w0 W g f0 f1 f2) (x:Int):ag w0 (W.setCell ⟨g,2,none⟩ (.int .u64 x)) g f0 f1 x:=by
 obtain ⟨A0,c0,hb,hg,bX⟩:=h
 exact ⟨A0,c0,by simpa using JJ hb 2 (.int .u64 x),hg,bX⟩
theorem ag.new (w0 W:World) (A0:Option Addr) (c0:Nat) (f0:List Int) (f1:Int) (f2:Int) (hB:Below w0.heap.size w0 W) (bX:Kd.C (Kd.int .u8) w0 A0 f0.length f0):ag w0 (W.alloc (.cells #[.slice A0 f0.length c0,.int .i64 f1,.int .u64 f2] 103)) W.heap.size f0 f1 f2:=⟨A0,c0,by simpa using heap_alloc_new W _,hB.size,bX⟩
theorem aA {w0 W W1:World} {g:Nat} {f0 Vw:List Int} {f1 Vx:Int} {f2 Vy:Int} (h:ag w0 W g f0 f1 f2) (k:ag w0 W g f0 f1 f2→ag w0 W1 g Vw Vx Vy:=by intro h;repeat (first|(with_reducible first|exact h|apply ag.alloc|apply ag.drewN|apply ag.drew|apply ag.ake|apply ag.akf|refine ag.far ?_ (af.z (by assumption)) _)|exact h)):ag w0 W1 g Vw Vx Vy:=k h
/-! ### F47: function 47 -/
def je.l0 : Nat → List Int → Int → List Int → Int → Int → Option (List Int × Int × Int)
 | 0,_,_,_,_,_=>none
 | k+1,x0,x4,cn,cF,RP=>if x4 < (x0.length:Int) then (if x4 < 4096 then (if 0≤x4 then (je.l0 k x0 (wrap64 (x4+1)) cn cF (IntKind.u64.wrap ((IntKind.u64.wrap ((IntKind.u64.wrap (RP * 1099511628211))+(IntKind.u64.wrap (rd x0 x4))))+109))) else (none)) else (some (cn,cF,RP))) else (some (cn,cF,RP))
def je.f (k:Nat) (l0:List Int):Option (List Int × Int × Int):=je.l0 k l0 0 l0 0 (IntKind.u64.wrap (12981+(IntKind.u64.wrap ((l0.length:Int)))))
def je.T5:Bool × List (List Nat × List Nat):=(true,[([],[]),([],[]),([1],[1]),([2],[2]),([3],[3]),([4],[4]),([],[]),([],[]),([6,7],[6,7]),([8],[8]),([9],[9]),([5,10],[5,10]),([11],[11]),([0,0,1,2,3,4,5,6,7,8,9,10,11,12],[0]),([13,0,1,2,3,4,5,6,7,8,9,10,11,12],[13]),([14,12,0,1,2,3,4,5,6,7,8,9,10,11,12],[12,14])])
def je.B5:List Nat:=[0,0,2,6,14,30,0,0,192,448,960,2046,4094,8191,16383,32767]
theorem je.Bl:eB .any (opsOf Try.f47 5)=je.T5:=by kernel_rfl
theorem je.Aj:ie je.T5.2 je.B5=true:=by kernel_rfl
theorem je.calls (k : Nat) (A0 : Option Addr) (c0 : Nat) (l0 : List Int) (r1 : List Int) (r2 : Int) (r3 : Int) (w0 w : World) (hB : Below w0.heap.size w0 w) (bX : Kd.C (Kd.int .u8) w0 A0 l0.length l0) (hc0 : l0.length ≤ c0) (h : je.f k l0 = some (r1, r2, r3)) :
  Calls Try.prog 47 #[.slice A0 l0.length c0] w fun e w'=>∃ g_:Nat,e=.returned (.pointer (some ⟨g_,0,none⟩))∧ag w0 w' g_ r1 r2 r3∧Below w0.heap.size w0 w'∧Below w.heap.size w w':=by
 have arC:=Try.underlying103
 have dh:=k0 bX
 have gG:=k0 hc0
 clear bX hc0
 have sR:=k0 (Below.refl w.heap.size w)
 have jg:=k0 hB.size
 have HB:=k0 hB
 clear hB
 unfold je.f at h
 have H:=h
 clear h
 have H':=k0 H
 clear H
 go_enter Try.func47,Try.ntmps47
 go_wp2_with (first|(refine aX (N:=11) rfl ?_;refine eJ 11 #[.slice A0 l0.length c0,.int .i64 0,.int .u64 (IntKind.u64.wrap (12981+(IntKind.u64.wrap ((l0.length:Int)))))] 103 ?_;intro ay hg w2 aY hb;replace HB:=bW hb;have aa:=k0 aY;have bn:=k0 ((by rw [hg];exact (as8 (aL sR.z)):w.heap.size≤ay));have cG:=k0 ((Nat.le_trans jg.z (by rw [hg];exact (as8 (aL sR.z)):w.heap.size≤ay):w0.heap.size≤ay));replace sR:=k0 (cu sR.z hb);clear hb aY hg))
 go_loopg [4] k (fun kq v4 w'=>∃ (kz:Int) (Dd:Int),v4=.int .i64 kz∧af (je.l0 kq l0 kz l0 0 Dd=some (r1,r2,r3))∧af (kq≤k)∧af (w'.heap[ay]?=some (.cells #[(.slice A0 l0.length c0),.int .i64 0,.int .u64 Dd] 103 (0,0)))∧af (Below w.heap.size w w')∧af (Below w0.heap.size w0 w'))
 case atStart=>exact ⟨(0),(IntKind.u64.wrap (12981+(IntKind.u64.wrap ((l0.length:Int))))),rs,H',⟨Nat.le_refl _⟩,⟨bk⟩,⟨aL sR.z⟩,⟨bl⟩⟩
 case round =>
  clear H'
  obtain ⟨kz,Dd,rfl,HA,as3,aa,sR,HB⟩:=hrel
  cases gk with
  | zero=>exact absurd HA.z (by simp [je.l0])
  | succ k1 =>
   have H:=HA.z
   clear HA
   simp only [je.l0] at H
   replace H:=iC H;obtain ⟨lC,H⟩|⟨lC,H⟩:=H
   case inl =>
    simp only [Option.some.injEq,Prod.mk.injEq] at H
    obtain ⟨rfl,rfl,rfl⟩:=H
    go_wp2
    go_ret
    exact ⟨_,rfl,(show ag w0 _ ay l0 0 Dd from ⟨_,_,by (with_reducible repeat (first|refine o_ ?_ _|refine dg ?_|refine atW ?_ _));exact aa.z,cG.z,dh.z⟩),bl,aL sR.z⟩
   replace H:=iC H;obtain ⟨gI,H⟩|⟨gI,H⟩:=H
   case inl =>
    simp only [Option.some.injEq,Prod.mk.injEq] at H
    obtain ⟨rfl,rfl,rfl⟩:=H
    go_wp2
    go_ret
    exact ⟨_,rfl,(show ag w0 _ ay l0 0 Dd from ⟨_,_,by (with_reducible repeat (first|refine o_ ?_ _|refine dg ?_|refine atW ?_ _));exact aa.z,cG.z,dh.z⟩),bl,aL sR.z⟩
   replace H:=iS H;obtain ⟨c5,H⟩:=H
   have gJ:=decide_eq_true c5
   clear c5
   have H':=k0 H
   clear H
   try go_wp2
   have fC:=k0 (dg aa.z)
   have fD:=k0 (eZ HB.z)
   clear aa
   clear HB
   have aa:=fC
   have HB:=fD
   have YQ:=k0 (eZ sR.z)
   clear sR
   have sR:=YQ
   clear YQ
   clear fC fD
   obtain ⟨cW,cX⟩:=iN kz (l0.length:Int)
   obtain ⟨lA,e102,eP⟩:=Kd.bK dh.z kz cW cX
   have AW:=eP
   cases e102
   replace eP:=Bc HB.z eP
   replace cW:=eT cW
   replace cX:=eT cX
   refine atG (n:=16) (S:=fun w'=>w'.cell? ⟨ay,0,none⟩=some (.slice (some lA) l0.length c0)∧w'.cell? ⟨ay,1,none⟩=some (.int .i64 0)∧w'.cell? ⟨ay,2,none⟩=some (.int .u64 Dd)∧w'.cell? (lA.add (kz).toNat)=some (.int .u8 (rd l0 kz))) (ds:=[15]) (ba 16 0) (by kernel_rfl) rfl rfl ⟨dU aa,ej aa,UD aa,((HB.z.cell (World.block_lt_of_cell? w0 _ AW)).trans AW)⟩ (fun hHeld=>?_);refine jX je.Bl je.Aj (fun aj bP=>?_)
   generalize wr.drew=w6 at aa HB sR eP hHeld ⊢
   refine pu 0 (some 22) (ba 16 1) aj (h:=?_)
   refine pu 1 (some 23) (ba 16 3) aj (h:=?_)
   refine pu 2 (some 24) (ba 16 7) aj (h:=?_)
   refine pu 3 (some 25) (ba 16 15) aj (h:=?_)
   refine pu 6 (some 28) (ba 16 79) aj (h:=?_)
   refine pu 7 (some 29) (ba 16 207) aj (h:=?_)
   refine pu 8 (some 30) (ba 16 463) aj (h:=?_)
   refine IV 4 (some 26) (ba 16 479) aj bP hHeld (h:=?_)
   refine pu 5 (some 27) (ba 16 511) aj (h:=?_)
   refine IV 9 (some 31) (ba 16 1023) aj bP hHeld (h:=?_)
   refine pu 10 (some 32) (ba 16 2047) aj (h:=?_)
   refine pu 11 (some 33) (ba 16 4095) aj (h:=?_)
   refine pu 12 (some 34) (ba 16 8191) aj (h:=?_)
   refine pu 13 (some 35) (ba 16 16383) aj (h:=?_)
   refine pu 14 (some 36) (ba 16 32767) aj (h:=?_)
   refine oK (i:=15) (N:=none) (ba 16 65535) rfl rfl (atq aj.out (by kernel_rfl)) (by decide) (fun K hK=>?_)
   have hs7:=UD aa
   have apI:=bF aa 2
   refine lf (w1:=?_) (by rfl) rfl ?_ ?_
   rotate_left;· go_simp;rfl
   refine hK.out _ _ ?_
   clear hK K
   refine gY (jU aj.out (by kernel_rfl)) ?_
   try go_wp2
   go_roundg k1
   case measure=>have:=as3.z;omega
   case rel=>exact ⟨(wrap64 (kz+1)),(IntKind.u64.wrap ((IntKind.u64.wrap ((IntKind.u64.wrap (Dd * 1099511628211))+(IntKind.u64.wrap (rd l0 kz))))+109)),rs,H',⟨by have:=as3.z;omega⟩,⟨kZ⟩,⟨aL sR.z⟩,⟨bl⟩⟩
/-! ### F49: function 49 -/
def cw.f (asZ:List Int) (bB:Int) (ate:Int) (a1:Int):Option (Int × Int × Int):=if a1 < 1 then (some (0,bB,ate)) else (if bB < (asZ.length:Int) then (if 0≤bB then (if a1=0 then (none) else (some (Int.tmod (wrap64 ((wrap64 (Go.bits .and .u64 ((IntKind.u64.wrap ((IntKind.u64.wrap (ate * 6364136223846793005))+1442695040888963407)) / 2147483648) 1073741823))+(wrap64 (rd asZ bB)))) a1,wrap64 (bB+1),IntKind.u64.wrap ((IntKind.u64.wrap (ate * 6364136223846793005))+1442695040888963407)))) else (none)) else (if a1=0 then (none) else (some (Int.tmod (wrap64 (Go.bits .and .u64 ((IntKind.u64.wrap ((IntKind.u64.wrap (ate * 6364136223846793005))+1442695040888963407)) / 2147483648) 1073741823)) a1,bB,IntKind.u64.wrap ((IntKind.u64.wrap (ate * 6364136223846793005))+1442695040888963407)))))
theorem cw.calls (g : Nat) (asZ : List Int) (bB : Int) (ate : Int) (a1 : Int) (r1 : Int) (r2 : Int) (r3 : Int) (w0 w : World) (hI : ag w0 w g asZ bB ate) (hB : Below w0.heap.size w0 w) (h : cw.f asZ bB ate a1 = some (r1, r2, r3)) :
  Calls Try.prog 49 #[.pointer (some ⟨g,0,none⟩),.int .i64 a1] w fun e w'=>e=.returned (.int .i64 r1)∧ag w0 w' g asZ r2 r3∧Below w0.heap.size w0 w'∧bx w w' g none:=by
 have ah:=k0 hI
 have HK:=k0 (bx.refl w g none)
 have HL:=k0 hB.size
 clear hI
 have jg:=k0 hB.size
 have HB:=k0 hB
 clear hB
 unfold cw.f at h
 have H:=h
 clear h
 replace H:=iC H;obtain ⟨lC,H⟩|⟨lC,H⟩:=H
 case inl =>
  replace H:=iC H;obtain ⟨gI,H⟩|⟨gI,H⟩:=H
  case inl =>
   by_cases c8:a1=0
   case neg =>
    rw [if_neg c8] at H
    have kX:=beq_eq_false_iff_ne.mpr c8
    have tj:=bne_iff_ne.mpr c8
    simp only [Option.some.injEq,Prod.mk.injEq] at H
    obtain ⟨rfl,rfl,rfl⟩:=H
    obtain ⟨alX,an2,DJ,ag7,ang⟩:=ah.z
    have apm:=UE DJ
    have apn:=UF DJ
    have apo:=UG DJ
    have ap3:=fA DJ 1
    have ap4:=fA DJ 2
    clear DJ ag7
    go_enter Try.func49,Try.ntmps49
    go_wp2
    repeat (go_quiet (fail);try go_wp2)
    go_ret
    exact ⟨eR,aA ah.z,aG (ag.ge ah.z) HB.z,aK HK.z⟩
   rw [if_pos c8] at H
   exact absurd H (by simp)
  replace H:=iS H;obtain ⟨c5,H⟩:=H
  have gJ:=decide_eq_true c5
  clear c5
  by_cases c6:a1=0
  case neg =>
   rw [if_neg c6] at H
   have iP:=beq_eq_false_iff_ne.mpr c6
   have mY:=bne_iff_ne.mpr c6
   simp only [Option.some.injEq,Prod.mk.injEq] at H
   obtain ⟨rfl,rfl,rfl⟩:=H
   obtain ⟨alW,an1,DI,ag6,abC⟩:=ah.z
   have apj:=UE DI
   have apk:=UF DI
   have apl:=UG DI
   have ap1:=fA DI 1
   have ap2:=fA DI 2
   clear DI ag6
   obtain ⟨atK,atL⟩:=iN bB (asZ.length:Int)
   obtain ⟨ry,e101,pJ⟩:=Kd.bK abC bB atK atL
   cases e101
   have Kj:ry.block ≠ g:=Nat.ne_of_lt (Nat.lt_of_lt_of_le (by have:=World.block_lt_of_cell? _ _ pJ;first|rwa [add_block] at this|exact this) (ag.ge ah.z))
   replace pJ:=Bc HB.z pJ
   replace pJ:=(cell_far (p:=⟨g,2,none⟩) (by first|(rw [add_block];exact Kj)|(show (Addr.add _ _).block ≠ _;rw [add_block];exact Kj)|exact Kj) (.int .u64 (IntKind.u64.wrap ((IntKind.u64.wrap (ate * 6364136223846793005))+1442695040888963407)))).trans pJ
   (try have arK:=fun (n_:Nat)=>(show (((w.drewN n_).setCell ⟨g,2,none⟩ (.int .u64 (IntKind.u64.wrap ((IntKind.u64.wrap (ate * 6364136223846793005))+1442695040888963407))))).cell? _=some _ from pJ))
   clear Kj
   replace atK:=eT atK
   replace atL:=eT atL
   go_enter Try.func49,Try.ntmps49
   go_wp2
   repeat (go_quiet (fail);try go_wp2)
   go_ret
   exact ⟨eR,aA ah.z,aG (ag.ge ah.z) HB.z,aK HK.z⟩
  rw [if_pos c6] at H
  exact absurd H (by simp)
 simp only [Option.some.injEq,Prod.mk.injEq] at H
 obtain ⟨rfl,rfl,rfl⟩:=H
 go_enter Try.func49,Try.ntmps49
 go_wp2
 repeat (go_quiet (fail);try go_wp2)
 go_ret
 exact ⟨eR,aA ah.z,aG (ag.ge ah.z) HB.z,aK HK.z⟩
/-! ### F51: function 51 -/
def gD.f (asZ:List Int) (bB:Int) (ate:Int) (l1:List Int):Option (Int × Int × Int):=(cw.f asZ bB ate (l1.length:Int)).bind fun vS=>(if 0≤vS.1 then (if vS.1 < (l1.length:Int) then (some (rd l1 vS.1,vS.2.1,vS.2.2)) else (none)) else (none))
theorem gD.calls (g : Nat) (asZ : List Int) (bB : Int) (ate : Int) (A1 : Option Addr) (c1 : Nat) (l1 : List Int) (r1 : Int) (r2 : Int) (r3 : Int) (w0 w : World) (hI : ag w0 w g asZ bB ate) (hB : Below w0.heap.size w0 w) (gl : Kd.C (Kd.int .i64) w A1 l1.length l1) (iQ : l1.length ≤ c1) (Pm : ∀ ad, A1 = some ad → 0 < l1.length → ad.block ≠ g) (h : gD.f asZ bB ate l1 = some (r1, r2, r3)) :
  Calls Try.prog 51 #[.pointer (some ⟨g,0,none⟩),.slice A1 l1.length c1] w fun e w'=>e=.returned (.int .i64 r1)∧ag w0 w' g asZ r2 r3∧Below w0.heap.size w0 w'∧bx w w' g none:=by
 have iM:=k0 gl
 have yE:=k0 iQ
 clear gl iQ
 have ah:=k0 hI
 have HK:=k0 (bx.refl w g none)
 have HL:=k0 hB.size
 clear hI
 have jg:=k0 hB.size
 have HB:=k0 hB
 clear hB
 unfold gD.f at h
 have H:=h
 clear h
 replace H:=bS H;obtain ⟨⟨t101,t102,t103⟩,A3,H⟩:=H
 dsimp only at H
 replace H:=iS H;obtain ⟨c4,H⟩:=H
 have gI:=decide_eq_true c4
 clear c4
 replace H:=iS H;obtain ⟨c5,H⟩:=H
 have gJ:=decide_eq_true c5
 clear c5
 simp only [Option.some.injEq,Prod.mk.injEq] at H
 obtain ⟨rfl,rfl,rfl⟩:=H
 go_enter Try.func51,Try.ntmps51
 go_wp2_with (first|(refine aT (f:=49) rfl ?_;refine gC (some 9) Try.func49 #[.pointer (some ⟨g,0,none⟩),.int .i64 (l1.length:Int)] ?_;(with_reducible refine (cw.calls g asZ bB ate (l1.length:Int) t101 t102 t103 w0 _ ?av ?ax A3.z).mono ?_);(case av=>exact aA ah.z);(case ax=>exact aG (ag.ge ah.z) HB.z);rintro e w6 ⟨rfl,hi,hb,hk⟩;refine ⟨_,rfl,?_⟩;replace HK:=atm HK hk;replace HB:=k0 hb;replace ah:=k0 hi;obtain ⟨cC,cD⟩:=iN t101 (l1.length:Int);obtain ⟨jE,e104,cM⟩:=Kd.bK iM.z t101 cC cD;cases e104;replace cM:=ah' HK.z cM (by first|(rw [add_block];exact Pm _ rfl (by omega))|exact Pm _ rfl (by omega)|exact Pm jE rfl (by omega));replace cC:=eT cC;replace cD:=eT cD))
 go_ret
 exact ⟨eR,aA ah.z,aG (ag.ge ah.z) HB.z,aK HK.z⟩
/-! ### F105: function 105 -/
def rT.f (l0:List Int):Option (List Int):=(some (([]:List Int):List Int)).bind fun atN=>(if atN.length+l0.length < 17592186044416 then (some (atN ++ l0)) else (none))
theorem rT.calls (A0 : Option Addr) (c0 : Nat) (l0 : List Int) (r : List Int) (w : World) (bX : Kd.C (Kd.int .i64) w A0 l0.length l0) (hc0 : l0.length ≤ c0) (h : rT.f l0 = some r) :
  Calls Try.prog 105 #[.slice A0 l0.length c0] w fun e w'=>∃ ati:Value,e=.returned (ati)∧Kd.R (Kd.int .i64) 2 w' w.heap.size (fun _=>True) ati r∧Below w.heap.size w w':=by
 have dh:=k0 bX
 have gG:=k0 hc0
 clear bX hc0
 have HB:=k0 (Below.refl w.heap.size w)
 unfold rT.f at h
 have H:=h
 clear h
 obtain ⟨atN,gH⟩:=nY (([]:List Int):List Int)
 replace H:(if atN.length+l0.length < 17592186044416 then (some (atN ++ l0)) else (none))=some r:=rH gH.z H
 replace H:=iS H;obtain ⟨c2,H⟩:=H
 have Nf:=k0 c2
 clear c2
 obtain ⟨mA,mW⟩:=nY (atN ++ l0:List Int)
 replace H:(some mA)=some r:=rH mW.z H
 obtain rfl:=Option.some.inj H
 go_enter Try.func105,Try.ntmps105
 go_wp2_with (first|(refine aX (N:=3) rfl ?_;refine jM 2 (N:=3) (xs:=([]:List Int)) (inner:=[]) (aJ.none _ _) ?_;intro nO w3 fM hb bR atf;clear bR atf;(first|rw [← gH.z] at fM|(simp only [Int.reduceToNat] at fM;rw [← gH.z] at fM));have eV:=k0 (Kd.cg fM (as8 bl));replace HB:=bW hb;clear hb fM)|((with_reducible refine ji (b:=.append) (xs:=#[.tmp 3,.tmp 4]) rfl ?_);at_builtin;refine Kd.TA (Kd.int .i64) (w0:=w) w.heap.size rfl (.tmp 3) (.tmp 4) 29 2 (.int .i64 0) 8 rfl Try.underlying29 ju rfl (by decide) (by omega) nO atN l0 _ _ _ (fun _=>True) (fun _=>False) rfl rfl ?aO ?aR (fun _ _ h=>h) (fun _ h=>h.elim) ?aF ?aB ?aS ?aL ?_;(case aR=>repeat (first|exact (Kd.bL dh.z HB.z)|(with_reducible refine Kd.jO ?_ _)|(with_reducible refine Kd.jP ?_ _)|(with_reducible refine Kd.ij ?_)));(case aB=>exact bl);(case aF=>exact (fun _ _=>trivial));(case aO=>exact (aR eV.z));(case aS=>exact (as8 bl));(case aL=>have:=Nf.out;omega);intro qV w5 ho hb hg a_;rw [← mW.z] at ho;replace HB:=k0 hb;have dG:=k0 ho;clear eV;clear ho hb hg a_))
 go_ret
 exact ⟨_,eR,aR dG.z,bl⟩
end Go.Proofs.Ytapnggjaeehpdaa.B
/- Set with little white space, by a program. -/
