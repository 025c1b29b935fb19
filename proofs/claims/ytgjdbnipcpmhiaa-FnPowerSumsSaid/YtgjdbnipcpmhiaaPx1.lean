/- Go's calls come to what the Lean functions say. Condition of each: that the Lean function answers. -/
import Derived.Test.YtgjdbnipcpmhiaaPx0
namespace Go.Proofs.Ytgjdbnipcpmhiaa.P
open Go.RowKit Go.Proofs.YtgjdbnipcpmhiaaW.PrintWords Go.Proofs.YtgjdbnipcpmhiaaW.PrintLast Go.Proofs.YtgjdbnipcpmhiaaW.PrintMore
attribute [local go_sem] max2_int min2_int max_two min_two max_three min_three max_four min_four
set_option linter.unusedVariables false
set_option linter.unusedSimpArgs false
set_option maxHeartbeats 8000000
set_option maxRecDepth 100000
/-! ### F5: function 5 -/
def F5.f (l0:List Int):Option (Bool):=some (decide ((l0.length:Int) > 4096))
theorem F5.calls (A0 : Option Addr) (c0 : Nat) (l0 : List Int) (r : Bool) (w : World) (hr0 : Kd.C (Kd.int .u8) w A0 l0.length l0) (hc0 : l0.length ≤ c0) (h : F5.f l0 = some r) :
  Calls Try.prog 5 #[.slice A0 l0.length c0] w fun e w'=>e=.returned (.bool r)∧Drawn0 w w':=by
 have HR0:=k0 hr0
 have HC0:=k0 hc0
 clear hr0 hc0
 unfold F5.f at h
 have H:=h
 clear h
 obtain rfl:=Option.some.inj H
 go_enter Try.func5,Try.ntmps5
 go_wp2
 go_ret
 exact ⟨rs,dW⟩
/-! ### F13: function 13 -/
def F13.l0 : Nat → List Int → List Int → Int → Option (Bool)
 | 0,_,_,_=>none
 | k+1,x0,x1,x5=>if x5 < (x0.length:Int) then (if 0≤x5 then (if x5 < (x1.length:Int) then (if (rd x0 x5)=(rd x1 x5) then (F13.l0 k x0 x1 (wrap64 (x5+1))) else (some false)) else (none)) else (none)) else (some true)
def F13.f (k:Nat) (l0:List Int) (l1:List Int):Option (Bool):=if (l0.length:Int)=(l1.length:Int) then (F13.l0 k l0 l1 0) else (some false)
theorem F13.calls (k : Nat) (A0 : Option Addr) (c0 : Nat) (l0 : List Int) (A1 : Option Addr) (c1 : Nat) (l1 : List Int) (r : Bool) (w : World) (hr0 : Kd.C (Kd.int .i64) w A0 l0.length l0) (hc0 : l0.length ≤ c0) (hr1 : Kd.C (Kd.int .i64) w A1 l1.length l1) (hc1 : l1.length ≤ c1) (h : F13.f k l0 l1 = some r) :
  Calls Try.prog 13 #[.slice A0 l0.length c0,.slice A1 l1.length c1] w fun e w'=>e=.returned (.bool r)∧Drawn0 w w':=by
 have HR0:=k0 hr0
 have HC0:=k0 hc0
 clear hr0 hc0
 have HR1:=k0 hr1
 have HC1:=k0 hc1
 clear hr1 hc1
 unfold F13.f at h
 have H:=h
 clear h
 by_cases c3:(l0.length:Int)=(l1.length:Int)
 case neg =>
  rw [if_neg c3] at H
  have c3b0:=beq_eq_false_iff_ne.mpr c3
  have c3b1:=bne_iff_ne.mpr c3
  have c3b2:(l0.length == l1.length)=false:=by first|simpa using c3|(simp at c3 ⊢;omega)
  obtain rfl:=Option.some.inj H
  go_enter Try.func13,Try.ntmps13
  go_wp2
  repeat (go_quiet (fail);try go_wp2)
  go_ret
  exact ⟨rs,dW⟩
 rw [if_pos c3] at H
 have c3b0:=beq_iff_eq.mpr c3
 have c3b1:=bne_eq_false_iff_eq.mpr c3
 have c3b2:(l0.length == l1.length)=true:=by first|simpa using c3|(simp at c3 ⊢;omega)
 clear c3
 have H':=k0 H
 clear H
 go_enter Try.func13,Try.ntmps13
 go_wp2
 repeat (go_quiet (fail);try go_wp2)
 go_loopg [5] k (fun kq v5 w'=>∃ (x5_1:Int),v5=.int .i64 x5_1∧Aside0 (F13.l0 kq l0 l1 x5_1=some r)∧Aside0 (kq≤k)∧Drawn0 w w')
 case atStart=>exact ⟨(0),rs,H',⟨Nat.le_refl _⟩,dW⟩
 case round =>
  clear H'
  obtain ⟨x5_1,rfl,HA,HK1,⟨m1,rfl⟩⟩:=hrel
  cases gk with
  | zero=>exact absurd HA.z (by simp [F13.l0])
  | succ k1 =>
   have H:=HA.z
   clear HA
   simp only [F13.l0] at H
   replace H:=iC H;obtain ⟨c4b0,H⟩|⟨c4b0,H⟩:=H
   case inl =>
    obtain rfl:=Option.some.inj H
    go_wp2
    repeat (go_quiet (fail);try go_wp2)
    go_ret
    exact ⟨rs,dW⟩
   replace H:=iS H;obtain ⟨c5,H⟩:=H
   have c5b0:=decide_eq_true c5
   clear c5
   replace H:=iS H;obtain ⟨c6,H⟩:=H
   have c6b0:=decide_eq_true c6
   clear c6
   replace H:=iE H;obtain ⟨c7,c7b0,c7b1,H⟩|⟨c7b0,c7b1,H⟩:=H
   case inl =>
    obtain rfl:=Option.some.inj H
    obtain ⟨p101,q101⟩:=iN x5_1 (l0.length:Int)
    obtain ⟨ad101,e101,hx101_0⟩:=Kd.at_int HR0.z x5_1 p101 q101
    cases e101
    replace p101:=eT p101
    replace q101:=eT q101
    obtain ⟨p102,q102⟩:=iN x5_1 (l1.length:Int)
    obtain ⟨ad102,e102,hx102_0⟩:=Kd.at_int HR1.z x5_1 p102 q102
    cases e102
    replace p102:=eT p102
    replace q102:=eT q102
    go_wp2
    repeat (go_quiet (fail);try go_wp2)
    go_ret
    exact ⟨rs,dW⟩
   have H':=k0 H
   clear H
   obtain ⟨p101,q101⟩:=iN x5_1 (l0.length:Int)
   obtain ⟨ad101,e101,hx101_0⟩:=Kd.at_int HR0.z x5_1 p101 q101
   cases e101
   replace p101:=eT p101
   replace q101:=eT q101
   obtain ⟨p102,q102⟩:=iN x5_1 (l1.length:Int)
   obtain ⟨ad102,e102,hx102_0⟩:=Kd.at_int HR1.z x5_1 p102 q102
   cases e102
   replace p102:=eT p102
   replace q102:=eT q102
   go_wp2
   repeat (go_quiet (fail);try go_wp2)
   go_roundg k1
   case measure=>have:=HK1.z;omega
   case rel=>exact ⟨(wrap64 (x5_1+1)),rs,H',⟨by have:=HK1.z;omega⟩,dW⟩
/-- A state of type 89 at block g of W; what its slices lead to came in by w0. -/
def IsS89 (w0 W:World) (g:Nat) (f0:List Int) (f1:Int) (f2:Int):Prop:=∃ A0 c0,W.heap[g]?=some (.cells #[.slice A0 f0.length c0,.int .i64 f1,.int .u64 f2] 89 (0,0))∧w0.heap.size≤g∧Kd.C (Kd.int .u8) w0 A0 f0.length f0
theorem IsS89.grown {w0 W:World} {g:Nat} {f0:List Int} {f1:Int} {f2:Int} {W1:World} {row:Option Nat} (h:IsS89 w0 W g f0 f1 f2) (hw:W.grownBy W1 row) (hne:some g ≠ row):IsS89 w0 W1 g f0 f1 f2:=by
 obtain ⟨A0,c0,hb,hg,hr0⟩:=h
 exact ⟨A0,c0,blk_grown hb hw hne,hg,hr0⟩
theorem IsS89.own_neN {w0 W:World} {g:Nat} {f0:List Int} {f1:Int} {f2:Int} {α:Type} {d:Kd α} {e:Nat} {base:Nat} {ok:Nat→Prop} {v:Value} {xs:List α} (h:IsS89 w0 W g f0 f1 f2) (ho:Kd.N d e W base ok v xs) (ht:e ≠ 89):some g ≠ v.ownBlock:=by
 obtain ⟨A0,c0,hb,hg,hr0⟩:=h
 exact Kd.N_ne ho hb ht
theorem IsS89.fresh {w0 W:World} {g:Nat} {f0:List Int} {f1:Int} {f2:Int} (h:IsS89 w0 W g f0 f1 f2):∀ k,W.heap.size≤k→k ≠ g:=by
 obtain ⟨A0,c0,hb,hg,hr0⟩:=h
 exact Kd.freshB hb
theorem IsS89.kept {w0 W:World} {g:Nat} {f0:List Int} {f1:Int} {f2:Int} {W1:World} {S:Nat→Prop} (h:IsS89 w0 W g f0 f1 f2) (hk:Kept W W1 S) (hne:¬ S g):IsS89 w0 W1 g f0 f1 f2:=by
 obtain ⟨A0,c0,hb,hg,hr0⟩:=h
 exact ⟨A0,c0,blk_kept hb hk hne,hg,hr0⟩
theorem IsS89.below {w0 W:World} {g:Nat} {f0:List Int} {f1:Int} {f2:Int} {W1:World} (h:IsS89 w0 W g f0 f1 f2) (hw:Below W.heap.size W W1):IsS89 w0 W1 g f0 f1 f2:=h.grown (grown_of_below hw none) (by simp)
theorem IsS89.alloc {w0 W:World} {g:Nat} {f0:List Int} {f1:Int} {f2:Int} (h:IsS89 w0 W g f0 f1 f2) (o:Obj):IsS89 w0 (W.alloc o) g f0 f1 f2:=h.below (below_alloc (Below.refl _ _) o)
theorem IsS89.drewN {w0 W:World} {g:Nat} {f0:List Int} {f1:Int} {f2:Int} (h:IsS89 w0 W g f0 f1 f2) (m:Nat):IsS89 w0 (W.drewN m) g f0 f1 f2:=h
theorem IsS89.drew {w0 W:World} {g:Nat} {f0:List Int} {f1:Int} {f2:Int} (h:IsS89 w0 W g f0 f1 f2):IsS89 w0 W.drew g f0 f1 f2:=h
theorem IsS89.at_ {w0 W:World} {g:Nat} {f0:List Int} {f1:Int} {f2:Int} {w':World} {m:Nat} (hq:W.drewN m=w') (h:IsS89 w0 W g f0 f1 f2):IsS89 w0 w' g f0 f1 f2:=by subst hq;exact IsS89.drewN h m
theorem IsS89.apart {w0 W:World} {g:Nat} {f0:List Int} {f1:Int} {f2:Int} {α:Type} {d:Kd α} {e:Nat} {base:Nat} {ok:Nat→Prop} {v:Value} {xs:List α} (h:IsS89 w0 W g f0 f1 f2) (ho:d.R e W base ok v xs) (ht:∀ q,q ∈ e :: d.E→q ≠ 89):d.R e W base (fun k=>ok k∧k ≠ g) v xs:=by
 obtain ⟨A0,c0,hb,hg,hr0⟩:=h
 exact Kd.R_types ho hb ht
theorem IsS89.own_ne {w0 W:World} {g:Nat} {f0:List Int} {f1:Int} {f2:Int} {α:Type} {d:Kd α} {e:Nat} {base:Nat} {ok:Nat→Prop} {v:Value} {xs:List α} (h:IsS89 w0 W g f0 f1 f2) (ho:d.R e W base ok v xs) (ht:e ≠ 89):some g ≠ v.ownBlock:=by
 obtain ⟨A0,c0,hb,hg,hr0⟩:=h
 exact Kd.R_ne ho hb ht
theorem IsS89.apartQ {w0 W:World} {g:Nat} {f0:List Int} {f1:Int} {f2:Int} {α:Type} {d:Kd α} {e:Nat} {base:Nat} {ok:Nat→Prop} {v:Value} {xs:List α} (h:IsS89 w0 W g f0 f1 f2) (ho:d.Q e W base ok v xs) (ht:∀ q,q ∈ e :: d.E→q ≠ 89):d.Q e W base (fun k=>ok k∧k ≠ g) v xs:=by
 obtain ⟨A0,c0,hb,hg,hr0⟩:=h
 exact Kd.Q_types ho hb ht
theorem IsS89.own_neQ {w0 W:World} {g:Nat} {f0:List Int} {f1:Int} {f2:Int} {α:Type} {d:Kd α} {e:Nat} {base:Nat} {ok:Nat→Prop} {v:Value} {xs:List α} (h:IsS89 w0 W g f0 f1 f2) (ho:d.Q e W base ok v xs) (ht:e ≠ 89):some g ≠ v.ownBlock:=by
 obtain ⟨A0,c0,hb,hg,hr0⟩:=h
 exact Kd.Q_ne ho hb ht
theorem IsS89.apartS {w0 W:World} {g:Nat} {f0:List Int} {f1:Int} {f2:Int} {α:Type} {d:Kd α} {e:Nat} {base:Nat} {ok:Nat→Prop} {v:Value} {xs:List α} (h:IsS89 w0 W g f0 f1 f2) (ho:d.S e W base ok v xs) (ht:∀ q,q ∈ e :: d.E→q ≠ 89):d.S e W base (fun k=>ok k∧k ≠ g) v xs:=by
 obtain ⟨A0,c0,hb,hg,hr0⟩:=h
 exact Kd.S_types ho hb ht
theorem IsS89.own_neS {w0 W:World} {g:Nat} {f0:List Int} {f1:Int} {f2:Int} {α:Type} {d:Kd α} {e:Nat} {base:Nat} {ok:Nat→Prop} {v:Value} {xs:List α} (h:IsS89 w0 W g f0 f1 f2) (ho:d.S e W base ok v xs) (ht:e ≠ 89):some g ≠ v.ownBlock:=by
 obtain ⟨A0,c0,hb,hg,hr0⟩:=h
 exact Kd.S_ne ho hb ht
theorem IsS89.lt {w0 W:World} {g:Nat} {f0:List Int} {f1:Int} {f2:Int} (h:IsS89 w0 W g f0 f1 f2):g < W.heap.size:=by
 obtain ⟨A0,c0,hb,hg,hr0⟩:=h
 exact blk_lt hb
theorem IsS89.ge {w0 W:World} {g:Nat} {f0:List Int} {f1:Int} {f2:Int} (h:IsS89 w0 W g f0 f1 f2):w0.heap.size≤g:=by
 obtain ⟨A0,c0,hb,hg,hr0⟩:=h
 exact hg
theorem IsS89.ne_blk {w0 W:World} {g:Nat} {f0:List Int} {f1:Int} {f2:Int} {a:Nat} {cs:Array Value} {t:TypeId} {fr:Nat × Nat} (h:IsS89 w0 W g f0 f1 f2) (hb2:W.heap[a]?=some (.cells cs t fr)) (ht:t ≠ 89):g ≠ a:=by
 obtain ⟨A0,c0,hb,hg,hr0⟩:=h
 rintro rfl
 rw [hb] at hb2
 injection hb2 with hb2
 injection hb2 with _ ht2
 exact ht ht2.symm
theorem IsS89.far {w0 W:World} {g:Nat} {f0:List Int} {f1:Int} {f2:Int} {p:Addr} (h:IsS89 w0 W g f0 f1 f2) (hne:g ≠ p.block) (u:Value):IsS89 w0 (W.setCell p u) g f0 f1 f2:=by
 obtain ⟨A0,c0,hb,hg,hr0⟩:=h
 exact ⟨A0,c0,blk_far hb hne u,hg,hr0⟩
theorem cellS89_0 {W:World} {g:Nat} {A0:Option Addr} {c0:Nat} {f0:List Int} {f1:Int} {f2:Int} (h:W.heap[g]?=some (.cells #[.slice A0 f0.length c0,.int .i64 f1,.int .u64 f2] 89 (0,0))):W.cell? ⟨g,0,none⟩=some (.slice A0 f0.length c0):=(blk_cell h 0).trans rfl
theorem cellS89_1 {W:World} {g:Nat} {A0:Option Addr} {c0:Nat} {f0:List Int} {f1:Int} {f2:Int} (h:W.heap[g]?=some (.cells #[.slice A0 f0.length c0,.int .i64 f1,.int .u64 f2] 89 (0,0))):W.cell? ⟨g,1,none⟩=some (.int .i64 f1):=(blk_cell h 1).trans rfl
theorem IsS89.set_1 {w0 W:World} {g:Nat} {f0:List Int} {f1:Int} {f2:Int} (h:IsS89 w0 W g f0 f1 f2) (x:Int):IsS89 w0 (W.setCell ⟨g,1,none⟩ (.int .i64 x)) g f0 x f2:=by
 obtain ⟨A0,c0,hb,hg,hr0⟩:=h
 exact ⟨A0,c0,by simpa using blk_set hb 1 (.int .i64 x),hg,hr0⟩
theorem cellS89_2 {W:World} {g:Nat} {A0:Option Addr} {c0:Nat} {f0:List Int} {f1:Int} {f2:Int} (h:W.heap[g]?=some (.cells #[.slice A0 f0.length c0,.int .i64 f1,.int .u64 f2] 89 (0,0))):W.cell? ⟨g,2,none⟩=some (.int .u64 f2):=(blk_cell h 2).trans rfl
theorem IsS89.set_2 {w0 W:World} {g:Nat} {f0:List Int} {f1:Int} {f2:Int} (h:IsS89 w0 W g f0 f1 f2) (x:Int):IsS89 w0 (W.setCell ⟨g,2,none⟩ (.int .u64 x)) g f0 f1 x:=by
 obtain ⟨A0,c0,hb,hg,hr0⟩:=h
 exact ⟨A0,c0,by simpa using blk_set hb 2 (.int .u64 x),hg,hr0⟩
theorem IsS89.new (w0 W:World) (A0:Option Addr) (c0:Nat) (f0:List Int) (f1:Int) (f2:Int) (hB:Below w0.heap.size w0 W) (hr0:Kd.C (Kd.int .u8) w0 A0 f0.length f0):IsS89 w0 (W.alloc (.cells #[.slice A0 f0.length c0,.int .i64 f1,.int .u64 f2] 89)) W.heap.size f0 f1 f2:=⟨A0,c0,by simpa using heap_alloc_new W _,hB.size,hr0⟩
theorem aIsS89 {w0 W W1:World} {g:Nat} {f0 f0':List Int} {f1 f1':Int} {f2 f2':Int} (h:IsS89 w0 W g f0 f1 f2) (k:IsS89 w0 W g f0 f1 f2→IsS89 w0 W1 g f0' f1' f2':=by intro h;repeat (first|(with_reducible first|exact h|apply IsS89.alloc|apply IsS89.drewN|apply IsS89.drew|apply IsS89.set_1|apply IsS89.set_2|refine IsS89.far ?_ (Aside0.z (by assumption)) _)|exact h)):IsS89 w0 W1 g f0' f1' f2':=k h
/-! ### F37: function 37 -/
def F37.l0 : Nat → List Int → Int → List Int → Int → Int → Option (List Int × Int × Int)
 | 0,_,_,_,_,_=>none
 | k+1,x0,x4,x102000,x102001,x102002=>if x4 < (x0.length:Int) then (if x4 < 4096 then (if 0≤x4 then (F37.l0 k x0 (wrap64 (x4+1)) x102000 x102001 (IntKind.u64.wrap ((IntKind.u64.wrap ((IntKind.u64.wrap (x102002 * 1099511628211))+(IntKind.u64.wrap (rd x0 x4))))+109))) else (none)) else (some (x102000,x102001,x102002))) else (some (x102000,x102001,x102002))
def F37.f (k:Nat) (l0:List Int):Option (List Int × Int × Int):=F37.l0 k l0 0 l0 0 (IntKind.u64.wrap (12981+(IntKind.u64.wrap ((l0.length:Int)))))
def F37.T5:Bool × List (List Nat × List Nat):=(true,[([],[]),([],[]),([1],[1]),([2],[2]),([3],[3]),([4],[4]),([],[]),([],[]),([6,7],[6,7]),([8],[8]),([9],[9]),([5,10],[5,10]),([11],[11]),([0,0,1,2,3,4,5,6,7,8,9,10,11,12],[0]),([13,0,1,2,3,4,5,6,7,8,9,10,11,12],[13]),([14,12,0,1,2,3,4,5,6,7,8,9,10,11,12],[12,14])])
def F37.B5:List Nat:=[0,0,2,6,14,30,0,0,192,448,960,2046,4094,8191,16383,32767]
theorem F37.tab5:rtab .any (opsOf Try.f37 5)=F37.T5:=by kernel_rfl
theorem F37.bits5:waitsOk F37.T5.2 F37.B5=true:=by kernel_rfl
theorem F37.calls (k : Nat) (A0 : Option Addr) (c0 : Nat) (l0 : List Int) (r1 : List Int) (r2 : Int) (r3 : Int) (w0 w : World) (hB : Below w0.heap.size w0 w) (hr0 : Kd.C (Kd.int .u8) w0 A0 l0.length l0) (hc0 : l0.length ≤ c0) (h : F37.f k l0 = some (r1, r2, r3)) :
  Calls Try.prog 37 #[.slice A0 l0.length c0] w fun e w'=>∃ g_:Nat,e=.returned (.pointer (some ⟨g_,0,none⟩))∧IsS89 w0 w' g_ r1 r2 r3∧Below w0.heap.size w0 w'∧Below w.heap.size w w':=by
 have hu89:=Try.underlying89
 have HR0:=k0 hr0
 have HC0:=k0 hc0
 clear hr0 hc0
 have HBW:=k0 (Below.refl w.heap.size w)
 have HW0:=k0 hB.size
 have HB:=k0 hB
 clear hB
 unfold F37.f at h
 have H:=h
 clear h
 have H':=k0 H
 clear H
 go_enter Try.func37,Try.ntmps37
 go_wp2_with (first|(refine gate_dst (N:=11) rfl ?_;refine bxe 11 #[.slice A0 l0.length c0,.int .i64 0,.int .u64 (IntKind.u64.wrap (12981+(IntKind.u64.wrap ((l0.length:Int)))))] 89 ?_;intro gb101 hg w2 hbox hb;replace HB:=bW hb;have BK101:=k0 hbox;have GW101:=k0 ((by rw [hg];exact (below_size (aL HBW.z)):w.heap.size≤gb101));have GE101:=k0 ((Nat.le_trans HW0.z (by rw [hg];exact (below_size (aL HBW.z)):w.heap.size≤gb101):w0.heap.size≤gb101));replace HBW:=k0 (below_step HBW.z hb);clear hb hbox hg))
 go_loopg [4] k (fun kq v4 w'=>∃ (x4_1:Int) (x102002_1:Int),v4=.int .i64 x4_1∧Aside0 (F37.l0 kq l0 x4_1 l0 0 x102002_1=some (r1,r2,r3))∧Aside0 (kq≤k)∧Aside0 (w'.heap[gb101]?=some (.cells #[(.slice A0 l0.length c0),.int .i64 0,.int .u64 x102002_1] 89 (0,0)))∧Aside0 (Below w.heap.size w w')∧Aside0 (Below w0.heap.size w0 w'))
 case atStart=>exact ⟨(0),(IntKind.u64.wrap (12981+(IntKind.u64.wrap ((l0.length:Int))))),rs,H',⟨Nat.le_refl _⟩,⟨bk⟩,⟨aL HBW.z⟩,⟨bl⟩⟩
 case round =>
  clear H'
  obtain ⟨x4_1,x102002_1,rfl,HA,HK1,BK101,HBW,HB⟩:=hrel
  cases gk with
  | zero=>exact absurd HA.z (by simp [F37.l0])
  | succ k1 =>
   have H:=HA.z
   clear HA
   simp only [F37.l0] at H
   replace H:=iC H;obtain ⟨c3b0,H⟩|⟨c3b0,H⟩:=H
   case inl =>
    simp only [Option.some.injEq,Prod.mk.injEq] at H
    obtain ⟨rfl,rfl,rfl⟩:=H
    go_wp2
    go_ret
    exact ⟨_,rfl,(show IsS89 w0 _ gb101 l0 0 x102002_1 from ⟨_,_,by (with_reducible repeat (first|refine blk_drewN ?_ _|refine blk_drew ?_|refine blk_alloc ?_ _));exact BK101.z,GE101.z,HR0.z⟩),bl,aL HBW.z⟩
   replace H:=iC H;obtain ⟨c4b0,H⟩|⟨c4b0,H⟩:=H
   case inl =>
    simp only [Option.some.injEq,Prod.mk.injEq] at H
    obtain ⟨rfl,rfl,rfl⟩:=H
    go_wp2
    go_ret
    exact ⟨_,rfl,(show IsS89 w0 _ gb101 l0 0 x102002_1 from ⟨_,_,by (with_reducible repeat (first|refine blk_drewN ?_ _|refine blk_drew ?_|refine blk_alloc ?_ _));exact BK101.z,GE101.z,HR0.z⟩),bl,aL HBW.z⟩
   replace H:=iS H;obtain ⟨c5,H⟩:=H
   have c5b0:=decide_eq_true c5
   clear c5
   have H':=k0 H
   clear H
   try go_wp2
   have n0_:=k0 (blk_drew BK101.z)
   have n1_:=k0 (below_drew1 HB.z)
   clear BK101
   clear HB
   have BK101:=n0_
   have HB:=n1_
   have nW_:=k0 (below_drew1 HBW.z)
   clear HBW
   have HBW:=nW_
   clear nW_
   clear n0_ n1_
   obtain ⟨p102,q102⟩:=iN x4_1 (l0.length:Int)
   obtain ⟨ad102,e102,hx102_0⟩:=Kd.at_int HR0.z x4_1 p102 q102
   have hw102_0:=hx102_0
   cases e102
   replace hx102_0:=pw_cell_below HB.z hx102_0
   replace p102:=eT p102
   replace q102:=eT q102
   refine start_ (n:=16) (S:=fun w'=>w'.cell? ⟨gb101,0,none⟩=some (.slice (some ad102) l0.length c0)∧w'.cell? ⟨gb101,1,none⟩=some (.int .i64 0)∧w'.cell? ⟨gb101,2,none⟩=some (.int .u64 x102002_1)∧w'.cell? (ad102.add (x4_1).toNat)=some (.int .u8 (rd l0 x4_1))) (ds:=[15]) (ba 16 0) (by kernel_rfl) rfl rfl ⟨ce0 BK101,ce1 BK101,ce2 BK101,((HB.z.cell (World.block_lt_of_cell? w0 _ hw102_0)).trans hw102_0)⟩ (fun hHeld=>?_);refine with_tabW F37.tab5 F37.bits5 (fun HT_ HW_=>?_)
   generalize wr.drew=w6 at BK101 HB HBW hx102_0 hHeld ⊢
   refine pu 0 (some 22) (ba 16 1) HT_ (h:=?_)
   refine pu 1 (some 23) (ba 16 3) HT_ (h:=?_)
   refine pu 2 (some 24) (ba 16 7) HT_ (h:=?_)
   refine pu 3 (some 25) (ba 16 15) HT_ (h:=?_)
   refine pu 6 (some 28) (ba 16 79) HT_ (h:=?_)
   refine pu 7 (some 29) (ba 16 207) HT_ (h:=?_)
   refine pu 8 (some 30) (ba 16 463) HT_ (h:=?_)
   refine zT4 4 (some 26) (ba 16 479) HT_ HW_ hHeld (h:=?_)
   refine pu 5 (some 27) (ba 16 511) HT_ (h:=?_)
   refine zT4 9 (some 31) (ba 16 1023) HT_ HW_ hHeld (h:=?_)
   refine pu 10 (some 32) (ba 16 2047) HT_ (h:=?_)
   refine pu 11 (some 33) (ba 16 4095) HT_ (h:=?_)
   refine pu 12 (some 34) (ba 16 8191) HT_ (h:=?_)
   refine pu 13 (some 35) (ba 16 16383) HT_ (h:=?_)
   refine pu 14 (some 36) (ba 16 32767) HT_ (h:=?_)
   refine last_ (i:=15) (N:=none) (ba 16 65535) rfl rfl (one_of HT_.out (by kernel_rfl)) (by decide) (fun K hK=>?_)
   have hs7:=ce2 BK101
   have hfs7:=bF BK101 2
   refine skip_ (w1:=?_) (by rfl) rfl ?_ ?_
   rotate_left;· go_simp;rfl
   refine hK.out _ _ ?_
   clear hK K
   refine done_ (done_of HT_.out (by kernel_rfl)) ?_
   try go_wp2
   go_roundg k1
   case measure=>have:=HK1.z;omega
   case rel=>exact ⟨(wrap64 (x4_1+1)),(IntKind.u64.wrap ((IntKind.u64.wrap ((IntKind.u64.wrap (x102002_1 * 1099511628211))+(IntKind.u64.wrap (rd l0 x4_1))))+109)),rs,H',⟨by have:=HK1.z;omega⟩,⟨kZ⟩,⟨aL HBW.z⟩,⟨bl⟩⟩
/-! ### F60: function 60 -/
def F60.f (s0_0:List Int) (s0_1:Int) (s0_2:Int) (a1:Int):Option (Int × Int × Int):=if a1 < 1 then (some (0,s0_1,s0_2)) else (if s0_1 < (s0_0.length:Int) then (if 0≤s0_1 then (if a1=0 then (none) else (some (Int.tmod (wrap64 ((wrap64 (Go.bits .and .u64 ((IntKind.u64.wrap ((IntKind.u64.wrap (s0_2 * 6364136223846793005))+1442695040888963407)) / 2147483648) 1073741823))+(wrap64 (rd s0_0 s0_1)))) a1,wrap64 (s0_1+1),IntKind.u64.wrap ((IntKind.u64.wrap (s0_2 * 6364136223846793005))+1442695040888963407)))) else (none)) else (if a1=0 then (none) else (some (Int.tmod (wrap64 (Go.bits .and .u64 ((IntKind.u64.wrap ((IntKind.u64.wrap (s0_2 * 6364136223846793005))+1442695040888963407)) / 2147483648) 1073741823)) a1,s0_1,IntKind.u64.wrap ((IntKind.u64.wrap (s0_2 * 6364136223846793005))+1442695040888963407)))))
theorem F60.calls (g : Nat) (s0_0 : List Int) (s0_1 : Int) (s0_2 : Int) (a1 : Int) (r1 : Int) (r2 : Int) (r3 : Int) (w0 w : World) (hI : IsS89 w0 w g s0_0 s0_1 s0_2) (hB : Below w0.heap.size w0 w) (h : F60.f s0_0 s0_1 s0_2 a1 = some (r1, r2, r3)) :
  Calls Try.prog 60 #[.pointer (some ⟨g,0,none⟩),.int .i64 a1] w fun e w'=>e=.returned (.int .i64 r1)∧IsS89 w0 w' g s0_0 r2 r3∧Below w0.heap.size w0 w'∧KeepBut w w' g none:=by
 have HI0:=k0 hI
 have HK:=k0 (KeepBut.refl w g none)
 have HL:=k0 hB.size
 clear hI
 have HW0:=k0 hB.size
 have HB:=k0 hB
 clear hB
 unfold F60.f at h
 have H:=h
 clear h
 replace H:=iC H;obtain ⟨c3b0,H⟩|⟨c3b0,H⟩:=H
 case inl =>
  replace H:=iC H;obtain ⟨c4b0,H⟩|⟨c4b0,H⟩:=H
  case inl =>
   by_cases c8:a1=0
   case neg =>
    rw [if_neg c8] at H
    have c8b0:=beq_eq_false_iff_ne.mpr c8
    have c8b1:=bne_iff_ne.mpr c8
    simp only [Option.some.injEq,Prod.mk.injEq] at H
    obtain ⟨rfl,rfl,rfl⟩:=H
    obtain ⟨ASz9_0,cSz9_0,HGz9,hgz9,HSz9_0⟩:=HI0.z
    have hcz9_0:=cellS89_0 HGz9
    have hcz9_1:=cellS89_1 HGz9
    have hcz9_2:=cellS89_2 HGz9
    have hfz9_1:=blk_frozen HGz9 1
    have hfz9_2:=blk_frozen HGz9 2
    clear HGz9 hgz9
    go_enter Try.func60,Try.ntmps60
    go_wp2
    repeat (go_quiet (fail);try go_wp2)
    go_ret
    exact ⟨eR,aIsS89 HI0.z,aG (IsS89.ge HI0.z) HB.z,aK HK.z⟩
   rw [if_pos c8] at H
   exact absurd H (by simp)
  replace H:=iS H;obtain ⟨c5,H⟩:=H
  have c5b0:=decide_eq_true c5
  clear c5
  by_cases c6:a1=0
  case neg =>
   rw [if_neg c6] at H
   have c6b0:=beq_eq_false_iff_ne.mpr c6
   have c6b1:=bne_iff_ne.mpr c6
   simp only [Option.some.injEq,Prod.mk.injEq] at H
   obtain ⟨rfl,rfl,rfl⟩:=H
   obtain ⟨ASz7_0,cSz7_0,HGz7,hgz7,HSz7_0⟩:=HI0.z
   have hcz7_0:=cellS89_0 HGz7
   have hcz7_1:=cellS89_1 HGz7
   have hcz7_2:=cellS89_2 HGz7
   have hfz7_1:=blk_frozen HGz7 1
   have hfz7_2:=blk_frozen HGz7 2
   clear HGz7 hgz7
   obtain ⟨p101,q101⟩:=iN s0_1 (s0_0.length:Int)
   obtain ⟨ad101,e101,hx101_0⟩:=Kd.at_int HSz7_0 s0_1 p101 q101
   cases e101
   have hn101_0:ad101.block ≠ g:=Nat.ne_of_lt (Nat.lt_of_lt_of_le (by have:=World.block_lt_of_cell? _ _ hx101_0;first|rwa [add_block] at this|exact this) (IsS89.ge HI0.z))
   replace hx101_0:=pw_cell_below HB.z hx101_0
   replace hx101_0:=(cell_far (p:=⟨g,2,none⟩) (by first|(rw [add_block];exact hn101_0)|(show (Addr.add _ _).block ≠ _;rw [add_block];exact hn101_0)|exact hn101_0) (.int .u64 (IntKind.u64.wrap ((IntKind.u64.wrap (s0_2 * 6364136223846793005))+1442695040888963407)))).trans hx101_0
   (try have hy101_0:=fun (n_:Nat)=>(show (((w.drewN n_).setCell ⟨g,2,none⟩ (.int .u64 (IntKind.u64.wrap ((IntKind.u64.wrap (s0_2 * 6364136223846793005))+1442695040888963407))))).cell? _=some _ from hx101_0))
   clear hn101_0
   replace p101:=eT p101
   replace q101:=eT q101
   go_enter Try.func60,Try.ntmps60
   go_wp2
   repeat (go_quiet (fail);try go_wp2)
   go_ret
   exact ⟨eR,aIsS89 HI0.z,aG (IsS89.ge HI0.z) HB.z,aK HK.z⟩
  rw [if_pos c6] at H
  exact absurd H (by simp)
 simp only [Option.some.injEq,Prod.mk.injEq] at H
 obtain ⟨rfl,rfl,rfl⟩:=H
 go_enter Try.func60,Try.ntmps60
 go_wp2
 repeat (go_quiet (fail);try go_wp2)
 go_ret
 exact ⟨eR,aIsS89 HI0.z,aG (IsS89.ge HI0.z) HB.z,aK HK.z⟩
end Go.Proofs.Ytgjdbnipcpmhiaa.P
/- Set with little white space, by a program. -/
