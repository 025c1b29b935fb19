/- The functions that one law reaches, each as a Lean function, and that Go's call comes to what it says. Condition of each: that the Lean function answers (is not none). -/
import Derived.Test.YtoebojnhchocaaaGx0
namespace Go.Proofs.Ytoebojnhchocaaa.G
open Go.RowKit Go.Proofs.cx.fq Go.Proofs.cx.jX Go.Proofs.cx.lu
attribute [local go_sem] max2_int min2_int max_two min_two max_three min_three max_four min_four   -- for this text's walks alone
set_option linter.unusedVariables false
set_option linter.unusedSimpArgs false
set_option maxHeartbeats 8000000
set_option maxRecDepth 100000
/-! ### F40: function 40 -/
def rP.f (l0:List Int):Option (Bool):=some (decide ((l0.length:Int) > 4096))
theorem rP.calls (A0 : Option Addr) (c0 : Nat) (l0 : List Int) (r : Bool) (w : World) (cL : Kd.C (Kd.int .u8) w A0 l0.length l0) (hc0 : l0.length ≤ c0) (h : rP.f l0 = some r) :
  Calls Try.prog 40 #[.slice A0 l0.length c0] w fun e w'=>e=.returned (.bool r)∧aod w w':=by
 have dh:=k0 cL
 have fI:=k0 hc0
 clear cL hc0
 have H:(some (decide ((l0.length:Int) > 4096)))=some r:=h
 clear h
 obtain rfl:=Option.some.inj H
 go_enter Try.func40,Try.ntmps40
 go_wp2
 go_ret
 exact ⟨rs,dW⟩
/-- A state of type 146 at block g of W; what its slices lead to came in by w0. -/
def af (w0 W:World) (g:Nat) (f0:List Int) (f1:Int) (f2:Int):Prop:=∃ A0 c0,W.heap[g]?=some (.cells #[.slice A0 f0.length c0,.int .i64 f1,.int .u64 f2] 146 (0,0))∧w0.heap.size≤g∧Kd.C (Kd.int .u8) w0 A0 f0.length f0
theorem af.grown {w0 W:World} {g:Nat} {f0:List Int} {f1:Int} {f2:Int} {W1:World} {row:Option Nat} (h:af w0 W g f0 f1 f2) (hw:W.grownBy W1 row) (hne:some g ≠ row):af w0 W1 g f0 f1 f2:=by
 obtain ⟨A0,c0,hb,hg,cL⟩:=h
 exact ⟨A0,c0,gh hb hw hne,hg,cL⟩
theorem af.amY {w0 W:World} {g:Nat} {f0:List Int} {f1:Int} {f2:Int} {α:Type} {d:Kd α} {e:Nat} {base:Nat} {ok:Nat→Prop} {v:Value} {xs:List α} (h:af w0 W g f0 f1 f2) (ho:Kd.N d e W base ok v xs) (ht:e ≠ 146):some g ≠ v.ownBlock:=by
 obtain ⟨A0,c0,hb,hg,cL⟩:=h
 exact Kd.Wb ho hb ht
theorem af.fresh {w0 W:World} {g:Nat} {f0:List Int} {f1:Int} {f2:Int} (h:af w0 W g f0 f1 f2):∀ k,W.heap.size≤k→k ≠ g:=by
 obtain ⟨A0,c0,hb,hg,cL⟩:=h
 exact Kd.oG hb
theorem af.kept {w0 W:World} {g:Nat} {f0:List Int} {f1:Int} {f2:Int} {W1:World} {S:Nat→Prop} (h:af w0 W g f0 f1 f2) (hk:Kept W W1 S) (hne:¬ S g):af w0 W1 g f0 f1 f2:=by
 obtain ⟨A0,c0,hb,hg,cL⟩:=h
 exact ⟨A0,c0,Xr hb hk hne,hg,cL⟩
theorem af.below {w0 W:World} {g:Nat} {f0:List Int} {f1:Int} {f2:Int} {W1:World} (h:af w0 W g f0 f1 f2) (hw:Below W.heap.size W W1):af w0 W1 g f0 f1 f2:=h.grown (PF hw none) (by simp)
theorem af.alloc {w0 W:World} {g:Nat} {f0:List Int} {f1:Int} {f2:Int} (h:af w0 W g f0 f1 f2) (o:Obj):af w0 (W.alloc o) g f0 f1 f2:=h.below (bn (Below.refl _ _) o)
theorem af.drewN {w0 W:World} {g:Nat} {f0:List Int} {f1:Int} {f2:Int} (h:af w0 W g f0 f1 f2) (m:Nat):af w0 (W.drewN m) g f0 f1 f2:=h
theorem af.drew {w0 W:World} {g:Nat} {f0:List Int} {f1:Int} {f2:Int} (h:af w0 W g f0 f1 f2):af w0 W.drew g f0 f1 f2:=h
theorem af.at_ {w0 W:World} {g:Nat} {f0:List Int} {f1:Int} {f2:Int} {w':World} {m:Nat} (hq:W.drewN m=w') (h:af w0 W g f0 f1 f2):af w0 w' g f0 f1 f2:=by subst hq;exact af.drewN h m
theorem af.apart {w0 W:World} {g:Nat} {f0:List Int} {f1:Int} {f2:Int} {α:Type} {d:Kd α} {e:Nat} {base:Nat} {ok:Nat→Prop} {v:Value} {xs:List α} (h:af w0 W g f0 f1 f2) (ho:d.R e W base ok v xs) (ht:∀ q,q ∈ e :: d.E→q ≠ 146):d.R e W base (fun k=>ok k∧k ≠ g) v xs:=by
 obtain ⟨A0,c0,hb,hg,cL⟩:=h
 exact Kd.z7 ho hb ht
theorem af.wH {w0 W:World} {g:Nat} {f0:List Int} {f1:Int} {f2:Int} {α:Type} {d:Kd α} {e:Nat} {base:Nat} {ok:Nat→Prop} {v:Value} {xs:List α} (h:af w0 W g f0 f1 f2) (ho:d.R e W base ok v xs) (ht:e ≠ 146):some g ≠ v.ownBlock:=by
 obtain ⟨A0,c0,hb,hg,cL⟩:=h
 exact Kd.iM ho hb ht
theorem af.agF {w0 W:World} {g:Nat} {f0:List Int} {f1:Int} {f2:Int} {α:Type} {d:Kd α} {e:Nat} {base:Nat} {ok:Nat→Prop} {v:Value} {xs:List α} (h:af w0 W g f0 f1 f2) (ho:d.Q e W base ok v xs) (ht:∀ q,q ∈ e :: d.E→q ≠ 146):d.Q e W base (fun k=>ok k∧k ≠ g) v xs:=by
 obtain ⟨A0,c0,hb,hg,cL⟩:=h
 exact Kd.Wr ho hb ht
theorem af.amZ {w0 W:World} {g:Nat} {f0:List Int} {f1:Int} {f2:Int} {α:Type} {d:Kd α} {e:Nat} {base:Nat} {ok:Nat→Prop} {v:Value} {xs:List α} (h:af w0 W g f0 f1 f2) (ho:d.Q e W base ok v xs) (ht:e ≠ 146):some g ≠ v.ownBlock:=by
 obtain ⟨A0,c0,hb,hg,cL⟩:=h
 exact Kd.Wo ho hb ht
theorem af.nW {w0 W:World} {g:Nat} {f0:List Int} {f1:Int} {f2:Int} {α:Type} {d:Kd α} {e:Nat} {base:Nat} {ok:Nat→Prop} {v:Value} {xs:List α} (h:af w0 W g f0 f1 f2) (ho:d.S e W base ok v xs) (ht:∀ q,q ∈ e :: d.E→q ≠ 146):d.S e W base (fun k=>ok k∧k ≠ g) v xs:=by
 obtain ⟨A0,c0,hb,hg,cL⟩:=h
 exact Kd.xu ho hb ht
theorem af.yH {w0 W:World} {g:Nat} {f0:List Int} {f1:Int} {f2:Int} {α:Type} {d:Kd α} {e:Nat} {base:Nat} {ok:Nat→Prop} {v:Value} {xs:List α} (h:af w0 W g f0 f1 f2) (ho:d.S e W base ok v xs) (ht:e ≠ 146):some g ≠ v.ownBlock:=by
 obtain ⟨A0,c0,hb,hg,cL⟩:=h
 exact Kd.kD ho hb ht
theorem af.lt {w0 W:World} {g:Nat} {f0:List Int} {f1:Int} {f2:Int} (h:af w0 W g f0 f1 f2):g < W.heap.size:=by
 obtain ⟨A0,c0,hb,hg,cL⟩:=h
 exact nX hb
theorem af.ge {w0 W:World} {g:Nat} {f0:List Int} {f1:Int} {f2:Int} (h:af w0 W g f0 f1 f2):w0.heap.size≤g:=by
 obtain ⟨A0,c0,hb,hg,cL⟩:=h
 exact hg
theorem af.tO {w0 W:World} {g:Nat} {f0:List Int} {f1:Int} {f2:Int} {a:Nat} {cs:Array Value} {t:TypeId} {fr:Nat × Nat} (h:af w0 W g f0 f1 f2) (iU:W.heap[a]?=some (.cells cs t fr)) (ht:t ≠ 146):g ≠ a:=by
 obtain ⟨A0,c0,hb,hg,cL⟩:=h
 rintro rfl
 rw [hb] at iU
 injection iU with iU
 injection iU with _ ap6
 exact ht ap6.symm
theorem af.dM {w0 W:World} {g:Nat} {f0:List Int} {f1:Int} {f2:Int} {p:Addr} (h:af w0 W g f0 f1 f2) (hne:g ≠ p.block) (u:Value):af w0 (W.setCell p u) g f0 f1 f2:=by
 obtain ⟨A0,c0,hb,hg,cL⟩:=h
 exact ⟨A0,c0,anU hb hne u,hg,cL⟩
theorem OC {W:World} {g:Nat} {A0:Option Addr} {c0:Nat} {f0:List Int} {f1:Int} {f2:Int} (h:W.heap[g]?=some (.cells #[.slice A0 f0.length c0,.int .i64 f1,.int .u64 f2] 146 (0,0))):W.cell? ⟨g,0,none⟩=some (.slice A0 f0.length c0):=(eX h 0).trans rfl
theorem OD {W:World} {g:Nat} {A0:Option Addr} {c0:Nat} {f0:List Int} {f1:Int} {f2:Int} (h:W.heap[g]?=some (.cells #[.slice A0 f0.length c0,.int .i64 f1,.int .u64 f2] 146 (0,0))):W.cell? ⟨g,1,none⟩=some (.int .i64 f1):=(eX h 1).trans rfl
theorem af.gq {w0 W:World} {g:Nat} {f0:List Int} {f1:Int} {f2:Int} (h:af w0 W g f0 f1 f2) (x:Int):af w0 (W.setCell ⟨g,1,none⟩ (.int .i64 x)) g f0 x f2:=by
 obtain ⟨A0,c0,hb,hg,cL⟩:=h
 exact ⟨A0,c0,by simpa using ES hb 1 (.int .i64 x),hg,cL⟩
theorem OE {W:World} {g:Nat} {A0:Option Addr} {c0:Nat} {f0:List Int} {f1:Int} {f2:Int} (h:W.heap[g]?=some (.cells #[.slice A0 f0.length c0,.int .i64 f1,.int .u64 f2] 146 (0,0))):W.cell? ⟨g,2,none⟩=some (.int .u64 f2):=(eX h 2).trans rfl
theorem af.gu {w0 W:World} {g:Nat} {f0:List Int} {f1:Int} {f2:Int} (h:af w0 W g f0 f1 f2) (x:Int):af w0 (W.setCell ⟨g,2,none⟩ (.int .u64 x)) g f0 f1 x:=by
 obtain ⟨A0,c0,hb,hg,cL⟩:=h
 exact ⟨A0,c0,by simpa using ES hb 2 (.int .u64 x),hg,cL⟩
theorem af.new (w0 W:World) (A0:Option Addr) (c0:Nat) (f0:List Int) (f1:Int) (f2:Int) (hB:Below w0.heap.size w0 W) (cL:Kd.C (Kd.int .u8) w0 A0 f0.length f0):af w0 (W.alloc (.cells #[.slice A0 f0.length c0,.int .i64 f1,.int .u64 f2] 146)) W.heap.size f0 f1 f2:=⟨A0,c0,by simpa using heap_alloc_new W _,hB.size,cL⟩
theorem bB {w0 W W1:World} {g:Nat} {f0 Pm:List Int} {f1 Pn:Int} {f2 Po:Int} (h:af w0 W g f0 f1 f2) (k:af w0 W g f0 f1 f2→af w0 W1 g Pm Pn Po:=by intro h;repeat (first|(with_reducible first|exact h|apply af.alloc|apply af.drewN|apply af.drew|apply af.gq|apply af.gu|refine af.dM ?_ (ak.z (by assumption)) _)|exact h)):af w0 W1 g Pm Pn Po:=k h
/-! ### F110: function 110 -/
def eT.l0 : Nat → List Int → Int → List Int → Int → Int → Option (List Int × Int × Int)
 | 0,_,_,_,_,_=>none
 | k+1,x0,x4,iN,iy,LZ=>if x4 < (x0.length:Int) then (if x4 < 4096 then (if 0≤x4 then (eT.l0 k x0 (wrap64 (x4+1)) iN iy (IntKind.u64.wrap ((IntKind.u64.wrap ((IntKind.u64.wrap (LZ * 1099511628211))+(IntKind.u64.wrap (rd x0 x4))))+109))) else (none)) else (some (iN,iy,LZ))) else (some (iN,iy,LZ))
def eT.f (k:Nat) (l0:List Int):Option (List Int × Int × Int):=eT.l0 k l0 0 l0 0 (IntKind.u64.wrap (12981+(IntKind.u64.wrap ((l0.length:Int)))))
theorem eT.cC : ∀ k, (∀ y0 y1 y2 y3 y4, ag (eT.l0 k y0 y1 y2 y3 y4) (eT.l0 (k + 1) y0 y1 y2 y3 y4))
 | 0=>fun _ _ _ _ _ r h=>by simp [eT.l0] at h
 | k+1=>by
  have a_:=eT.cC k
  ·intro y0 y1 y2 y3 y4
   unfold eT.l0
   repeat' first
    | (with_reducible first|exact a_ _ _ _ _ _|exact ag.refl _|exact ag.none _|refine ag.ite ?_ ?_|refine ag.bind ?_ (fun _=>?_))
    | exact a_ _ _ _ _ _|exact ag.none _|refine ag.ite ?_ ?_|refine ag.bind ?_ (fun _=>?_)
theorem eT.mono:∀ a0 k,ag (eT.f k a0) (eT.f (k+1) a0):=by
 intro a0 k
 have a_:=eT.cC k
 unfold eT.f
 repeat' first
  | (with_reducible first|exact a_ _ _ _ _ _|exact ag.refl _|exact ag.none _|refine ag.ite ?_ ?_|refine ag.bind ?_ (fun _=>?_))
  | exact a_ _ _ _ _ _|exact ag.none _|refine ag.ite ?_ ?_|refine ag.bind ?_ (fun _=>?_)
def eT.T5:Bool × List (List Nat × List Nat):=(true,[([],[]),([],[]),([1],[1]),([2],[2]),([3],[3]),([4],[4]),([],[]),([],[]),([6,7],[6,7]),([8],[8]),([9],[9]),([5,10],[5,10]),([11],[11]),([0,0,1,2,3,4,5,6,7,8,9,10,11,12],[0]),([13,0,1,2,3,4,5,6,7,8,9,10,11,12],[13]),([14,12,0,1,2,3,4,5,6,7,8,9,10,11,12],[12,14])])
def eT.B5:List Nat:=[0,0,2,6,14,30,0,0,192,448,960,2046,4094,8191,16383,32767]
theorem eT.apn:fh .any (opsOf Try.f110 5)=eT.T5:=by kernel_rfl
theorem eT.xz:kN eT.T5.2 eT.B5=true:=by kernel_rfl
theorem eT.calls (k : Nat) (A0 : Option Addr) (c0 : Nat) (l0 : List Int) (r1 : List Int) (r2 : Int) (r3 : Int) (w0 w : World) (hB : Below w0.heap.size w0 w) (cL : Kd.C (Kd.int .u8) w0 A0 l0.length l0) (hc0 : l0.length ≤ c0) (h : eT.f k l0 = some (r1, r2, r3)) :
  Calls Try.prog 110 #[.slice A0 l0.length c0] w fun e w'=>∃ g_:Nat,e=.returned (.pointer (some ⟨g_,0,none⟩))∧af w0 w' g_ r1 r2 r3∧Below w0.heap.size w0 w'∧Below w.heap.size w w':=by
 have amQ:=Try.underlying146
 have dh:=k0 cL
 have fI:=k0 hc0
 clear cL hc0
 have qy:=k0 (Below.refl w.heap.size w)
 have ki:=k0 hB.size
 have HB:=k0 hB
 clear hB
 have H:(eT.l0 k l0 0 l0 0 (IntKind.u64.wrap (12981+(IntKind.u64.wrap ((l0.length:Int))))))=some (r1,r2,r3):=h
 clear h
 have H':=k0 H
 clear H
 go_enter Try.func110,Try.ntmps110
 go_wp2_with (first|((with_reducible refine bN (N:=11) rfl ?_);refine cE 11 #[.slice A0 l0.length c0,.int .i64 0,.int .u64 (IntKind.u64.wrap (12981+(IntKind.u64.wrap ((l0.length:Int)))))] 146 ?_;intro aW hg w2 aG hb;replace HB:=k0 (anH bl hb);have aa:=k0 (aG);have cu:=k0 ((by rw [hg];exact (anG (aL qy.z)):w.heap.size≤aW));have anQ:=k0 ((Nat.le_trans ki.z (by rw [hg];exact (anG (aL qy.z)):w.heap.size≤aW):w0.heap.size≤aW));replace qy:=k0 (anH qy.z hb);clear hb aG hg))
 go_loopg [4] k (fun kq v4 w'=>∃ (bD:Int) (wR:Int),v4=.int .i64 bD∧ak (eT.l0 kq l0 bD l0 0 wR=some (r1,r2,r3))∧ak (kq≤k)∧ak (w'.heap[aW]?=some (.cells #[(.slice A0 l0.length c0),.int .i64 0,.int .u64 wR] 146 (0,0)))∧ak (Below w.heap.size w w')∧ak (Below w0.heap.size w0 w'))
 case atStart=>exact ⟨(0),(IntKind.u64.wrap (12981+(IntKind.u64.wrap ((l0.length:Int))))),rs,H',⟨Nat.le_refl _⟩,⟨bk⟩,⟨aL qy.z⟩,⟨bl⟩⟩
 case round =>
  clear H'
  obtain ⟨bD,wR,rfl,HA,bH,aa,qy,HB⟩:=hrel
  cases gk with
  | zero=>exact absurd HA.z (by simp [eT.l0])
  | succ k1 =>
   have H:=HA.z
   clear HA
   simp only [eT.l0] at H
   by_cases c3:bD < (l0.length:Int)
   case neg =>
    rw [if_neg c3] at H
    have jZ:decide (bD < (l0.length:Int))=false:=decide_eq_false c3
    clear c3
    simp only [Option.some.injEq,Prod.mk.injEq] at H
    obtain ⟨rfl,rfl,rfl⟩:=H
    go_wp2
    go_ret
    exact ⟨_,rfl,(show af w0 _ aW l0 0 wR from ⟨_,_,by (with_reducible repeat (first|refine anF ?_ _|refine aH ?_|refine aI ?_ _));exact aa.z,anQ.z,dh.z⟩),bl,aL qy.z⟩
   rw [if_pos c3] at H
   have jZ:=decide_eq_true c3
   clear c3
   by_cases c4:bD < 4096
   case neg =>
    rw [if_neg c4] at H
    have gT:decide (bD < 4096)=false:=decide_eq_false c4
    clear c4
    simp only [Option.some.injEq,Prod.mk.injEq] at H
    obtain ⟨rfl,rfl,rfl⟩:=H
    go_wp2
    go_ret
    exact ⟨_,rfl,(show af w0 _ aW l0 0 wR from ⟨_,_,by (with_reducible repeat (first|refine anF ?_ _|refine aH ?_|refine aI ?_ _));exact aa.z,anQ.z,dh.z⟩),bl,aL qy.z⟩
   rw [if_pos c4] at H
   have gT:=decide_eq_true c4
   clear c4
   replace H:=iS H;obtain ⟨c5,H⟩:=H
   have aoo:=decide_eq_true c5
   clear c5
   have H':=k0 H
   clear H
   try go_wp2
   have av:=k0 (aH aa.z)
   have ax:=k0 (anS HB.z)
   clear aa
   clear HB
   have aa:=av
   have HB:=ax
   have SX:=k0 (anS qy.z)
   clear qy
   have qy:=SX
   clear SX
   clear av ax
   have eI:0≤(bD:Int):=oD
   have eK:bD < (l0.length:Int):=oD
   obtain ⟨nV,e102,jD⟩:=Kd.cm dh.z bD eI eK
   have Sd:=jD
   cases e102
   replace jD:=apy HB.z jD
   replace eI:=eq_true eI
   replace eK:=eq_true eK
   refine oO (n:=16) (S:=fun w'=>w'.cell? ⟨aW,0,none⟩=some (.slice (some nV) l0.length c0)∧w'.cell? ⟨aW,1,none⟩=some (.int .i64 0)∧w'.cell? ⟨aW,2,none⟩=some (.int .u64 wR)∧w'.cell? (nV.add (bD).toNat)=some (.int .u8 (rd l0 bD))) (ds:=[15]) (ba 16 0) (by kernel_rfl) rfl rfl ⟨aX aa,aY aa,OB aa,((HB.z.cell (World.block_lt_of_cell? w0 _ Sd)).trans Sd)⟩ (fun hHeld=>?_);refine qt eT.apn eT.xz (fun anM eE=>?_)
   generalize wr.drew=w6 at aa HB qy jD hHeld ⊢
   refine pu 0 (some 22) (ba 16 1) anM (h:=?_)
   refine pu 1 (some 23) (ba 16 3) anM (h:=?_)
   refine pu 2 (some 24) (ba 16 7) anM (h:=?_)
   refine pu 3 (some 25) (ba 16 15) anM (h:=?_)
   refine pu 6 (some 28) (ba 16 79) anM (h:=?_)
   refine pu 7 (some 29) (ba 16 207) anM (h:=?_)
   refine pu 8 (some 30) (ba 16 463) anM (h:=?_)
   refine ta 4 (some 26) (ba 16 479) anM eE hHeld (hy:=Or.inl ⟨by rfl,by rintro w' ⟨s0,s1,s2,s3⟩;go_simp;with_reducible rfl⟩) (h:=?_)
   refine pu 5 (some 27) (ba 16 511) anM (h:=?_)
   refine ta 9 (some 31) (ba 16 1023) anM eE hHeld (hy:=Or.inl ⟨by rfl,by rintro w' ⟨s0,s1,s2,s3⟩;go_simp;with_reducible rfl⟩) (h:=?_)
   refine pu 10 (some 32) (ba 16 2047) anM (h:=?_)
   refine pu 11 (some 33) (ba 16 4095) anM (h:=?_)
   refine pu 12 (some 34) (ba 16 8191) anM (h:=?_)
   refine pu 13 (some 35) (ba 16 16383) anM (h:=?_)
   refine pu 14 (some 36) (ba 16 32767) anM (h:=?_)
   refine rC (i:=15) (N:=none) (ba 16 65535) rfl rfl (j7 anM.out (by kernel_rfl)) (by decide) (fun K hK=>?_)
   have hs7:=OB aa
   have ajn:=bF aa 2
   refine sZ (w1:=?_) (by rfl) rfl ?_ ?_
   rotate_left;· go_simp;rfl
   refine hK.out _ _ ?_
   clear hK K
   refine o_ (qF anM.out (by kernel_rfl)) ?_
   try go_wp2
   go_roundg k1
   case measure=>have:=bH.z;omega
   case rel=>exact ⟨(wrap64 (bD+1)),(IntKind.u64.wrap ((IntKind.u64.wrap ((IntKind.u64.wrap (wR * 1099511628211))+(IntKind.u64.wrap (rd l0 bD))))+109)),rs,H',⟨by have:=bH.z;omega⟩,⟨by (with_reducible repeat (first|refine anF ?_ _|refine aH ?_|refine aI ?_ _));refine anV (cs:=#[.slice (some nV) l0.length c0,.int .i64 0,.int .u64 wR]) ?_ 2 _ rfl;exact bk⟩,⟨aL qy.z⟩,⟨bl⟩⟩
/-! ### F112: function 112 -/
def dn.f (anK:List Int) (cD:Int) (cI:Int) (a1:Int):Option (Int × Int × Int):=if a1 < 1 then (some (0,cD,cI)) else (if cD < (anK.length:Int) then (if 0≤cD then (if a1=0 then (none) else (some (Int.tmod (wrap64 ((wrap64 (Go.bits .and .u64 ((IntKind.u64.wrap ((IntKind.u64.wrap (cI * 6364136223846793005))+1442695040888963407)) / 2147483648) 1073741823))+(wrap64 (rd anK cD)))) a1,wrap64 (cD+1),IntKind.u64.wrap ((IntKind.u64.wrap (cI * 6364136223846793005))+1442695040888963407)))) else (none)) else (if a1=0 then (none) else (some (Int.tmod (wrap64 (Go.bits .and .u64 ((IntKind.u64.wrap ((IntKind.u64.wrap (cI * 6364136223846793005))+1442695040888963407)) / 2147483648) 1073741823)) a1,cD,IntKind.u64.wrap ((IntKind.u64.wrap (cI * 6364136223846793005))+1442695040888963407)))))
theorem dn.calls (g : Nat) (anK : List Int) (cD : Int) (cI : Int) (a1 : Int) (r1 : Int) (r2 : Int) (r3 : Int) (w0 w : World) (hI : af w0 w g anK cD cI) (hB : Below w0.heap.size w0 w) (h : dn.f anK cD cI a1 = some (r1, r2, r3)) :
  Calls Try.prog 112 #[.pointer (some ⟨g,0,none⟩),.int .i64 a1] w fun e w'=>e=.returned (.int .i64 r1)∧af w0 w' g anK r2 r3∧Below w0.heap.size w0 w'∧aM w w' g none:=by
 have aj:=k0 hI
 have HK:=k0 (aM.refl w g none)
 have HL:=k0 hB.size
 clear hI
 have ki:=k0 hB.size
 have HB:=k0 hB
 clear hB
 have H:(if a1 < 1 then (some (0,cD,cI)) else (if cD < (anK.length:Int) then (if 0≤cD then (if a1=0 then (none) else (some (Int.tmod (wrap64 ((wrap64 (Go.bits .and .u64 ((IntKind.u64.wrap ((IntKind.u64.wrap (cI * 6364136223846793005))+1442695040888963407)) / 2147483648) 1073741823))+(wrap64 (rd anK cD)))) a1,wrap64 (cD+1),IntKind.u64.wrap ((IntKind.u64.wrap (cI * 6364136223846793005))+1442695040888963407)))) else (none)) else (if a1=0 then (none) else (some (Int.tmod (wrap64 (Go.bits .and .u64 ((IntKind.u64.wrap ((IntKind.u64.wrap (cI * 6364136223846793005))+1442695040888963407)) / 2147483648) 1073741823)) a1,cD,IntKind.u64.wrap ((IntKind.u64.wrap (cI * 6364136223846793005))+1442695040888963407))))))=some (r1,r2,r3):=h
 clear h
 by_cases c3:a1 < 1
 case neg =>
  rw [if_neg c3] at H
  have jZ:decide (a1 < 1)=false:=decide_eq_false c3
  clear c3
  by_cases c4:cD < (anK.length:Int)
  case neg =>
   rw [if_neg c4] at H
   have gT:decide (cD < (anK.length:Int))=false:=decide_eq_false c4
   clear c4
   by_cases c8:a1=0
   case neg =>
    rw [if_neg c8] at H
    have p8:(a1 == 0)=false:=beq_eq_false_iff_ne.mpr c8
    have ao5:(a1 != 0)=true:=bne_iff_ne.mpr c8
    simp only [Option.some.injEq,Prod.mk.injEq] at H
    obtain ⟨rfl,rfl,rfl⟩:=H
    obtain ⟨afG,aha,zM,abO,agy⟩:=aj.z
    have JG:=OC zM
    have JH:=OD zM
    have aji:=OE zM
    have JV:=lC zM 1
    have akJ:=lC zM 2
    clear zM abO
    go_enter Try.func112,Try.ntmps112
    go_wp2
    repeat (go_quiet (fail);try go_wp2)
    go_ret
    exact ⟨eR,bB aj.z,by repeat (first|(with_reducible first|exact HB.z|apply bn|apply bq|apply anS|refine az ?_ (af.ge aj.z))|exact HB.z),aK HK.z⟩
   rw [if_pos c8] at H
   exact absurd H (by simp)
  rw [if_pos c4] at H
  have gT:=decide_eq_true c4
  clear c4
  replace H:=iS H;obtain ⟨c5,H⟩:=H
  have aoo:=decide_eq_true c5
  clear c5
  by_cases c6:a1=0
  case neg =>
   rw [if_neg c6] at H
   have iD:(a1 == 0)=false:=beq_eq_false_iff_ne.mpr c6
   have oF:(a1 != 0)=true:=bne_iff_ne.mpr c6
   simp only [Option.some.injEq,Prod.mk.injEq] at H
   obtain ⟨rfl,rfl,rfl⟩:=H
   obtain ⟨afF,ag_,zL,abN,VC⟩:=aj.z
   have Qq:=OC zL
   have Qr:=OD zL
   have ai7:=OE zL
   have QO:=lC zL 1
   have akw:=lC zL 2
   clear zL abN
   have ep:0≤(cD:Int):=oD
   have er:cD < (anK.length:Int):=oD
   obtain ⟨lA,e101,kF⟩:=Kd.cm VC cD ep er
   cases e101
   have Fp:lA.block ≠ g:=Nat.ne_of_lt (Nat.lt_of_lt_of_le (by have:=World.block_lt_of_cell? _ _ kF;first|rwa [add_block] at this|exact this) (af.ge aj.z))
   replace kF:=apy HB.z kF
   replace kF:=(cell_far (p:=⟨g,2,none⟩) (by first|(rw [add_block];exact Fp)|(show (Addr.add _ _).block ≠ _;rw [add_block];exact Fp)|exact Fp) (.int .u64 (IntKind.u64.wrap ((IntKind.u64.wrap (cI * 6364136223846793005))+1442695040888963407)))).trans kF
   (try have amT:=fun (n_:Nat)=>(show (((w.drewN n_).setCell ⟨g,2,none⟩ (.int .u64 (IntKind.u64.wrap ((IntKind.u64.wrap (cI * 6364136223846793005))+1442695040888963407))))).cell? _=some _ from kF))
   clear Fp
   replace ep:=eq_true ep
   replace er:=eq_true er
   go_enter Try.func112,Try.ntmps112
   go_wp2
   repeat (go_quiet (fail);try go_wp2)
   go_ret
   exact ⟨eR,bB aj.z,by repeat (first|(with_reducible first|exact HB.z|apply bn|apply bq|apply anS|refine az ?_ (af.ge aj.z))|exact HB.z),aK HK.z⟩
  rw [if_pos c6] at H
  exact absurd H (by simp)
 rw [if_pos c3] at H
 have jZ:=decide_eq_true c3
 clear c3
 simp only [Option.some.injEq,Prod.mk.injEq] at H
 obtain ⟨rfl,rfl,rfl⟩:=H
 go_enter Try.func112,Try.ntmps112
 go_wp2
 repeat (go_quiet (fail);try go_wp2)
 go_ret
 exact ⟨eR,bB aj.z,by repeat (first|(with_reducible first|exact HB.z|apply bn|apply bq|apply anS|refine az ?_ (af.ge aj.z))|exact HB.z),aK HK.z⟩
/-! ### F202: function 202 -/
def kR.f (anK:List Int) (cD:Int) (cI:Int) (l1:List Int):Option (Int × Int × Int):=(dn.f anK cD cI (l1.length:Int)).bind fun aoU=>(if 0≤aoU.1 then (if aoU.1 < (l1.length:Int) then (some (rd l1 aoU.1,aoU.2.1,aoU.2.2)) else (none)) else (none))
theorem kR.calls (g : Nat) (anK : List Int) (cD : Int) (cI : Int) (A1 : Option Addr) (c1 : Nat) (l1 : List Int) (r1 : Int) (r2 : Int) (r3 : Int) (w0 w : World) (hI : af w0 w g anK cD cI) (hB : Below w0.heap.size w0 w) (jK : Kd.C (Kd.int .i64) w A1 l1.length l1) (jJ : l1.length ≤ c1) (JK : ∀ ad, A1 = some ad → 0 < l1.length → ad.block ≠ g) (h : kR.f anK cD cI l1 = some (r1, r2, r3)) :
  Calls Try.prog 202 #[.pointer (some ⟨g,0,none⟩),.slice A1 l1.length c1] w fun e w'=>e=.returned (.int .i64 r1)∧af w0 w' g anK r2 r3∧Below w0.heap.size w0 w'∧aM w w' g none:=by
 have iQ:=k0 jK
 have td:=k0 jJ
 clear jK jJ
 have aj:=k0 hI
 have HK:=k0 (aM.refl w g none)
 have HL:=k0 hB.size
 clear hI
 have ki:=k0 hB.size
 have HB:=k0 hB
 clear hB
 have H:((dn.f anK cD cI (l1.length:Int)).bind fun aoU=>(if 0≤aoU.1 then (if aoU.1 < (l1.length:Int) then (some (rd l1 aoU.1,aoU.2.1,aoU.2.2)) else (none)) else (none)))=some (r1,r2,r3):=h
 clear h
 replace H:=Option.bind_eq_some_iff.mp H
 obtain ⟨⟨t101,t102,t103⟩,fS,H⟩:=H
 replace H:(if 0≤t101 then (if t101 < (l1.length:Int) then (some (rd l1 t101,t102,t103)) else (none)) else (none))=some (r1,r2,r3):=H
 have A3:=k0 fS
 clear fS
 replace H:=iS H;obtain ⟨c4,H⟩:=H
 have gT:=decide_eq_true c4
 clear c4
 replace H:=iS H;obtain ⟨c5,H⟩:=H
 have aoo:=decide_eq_true c5
 clear c5
 simp only [Option.some.injEq,Prod.mk.injEq] at H
 obtain ⟨rfl,rfl,rfl⟩:=H
 go_enter Try.func202,Try.ntmps202
 go_wp2_with (first|((with_reducible refine bS (f:=112) rfl ?_);refine gC (some 9) Try.func112 #[.pointer (some ⟨g,0,none⟩),.int .i64 (l1.length:Int)] ?_;(with_reducible refine (dn.calls g anK cD cI (l1.length:Int) t101 t102 t103 w0 _ ?aA ?anD A3.z).mono ?_);(case aA=>repeat (first|(with_reducible first|exact aj.z|apply af.alloc|apply af.drewN|apply af.drew|apply af.gq|apply af.gu)|exact aj.z));(case anD=>repeat (first|(with_reducible first|exact HB.z|apply bn|apply bq|apply anS|refine az ?_ (af.ge aj.z))|exact HB.z));rintro e w6 ⟨rfl,hi,hb,hk⟩;refine ⟨_,rfl,?_⟩;replace HK:=k0 (aM.trans (aK HK.z) hk (.inl rfl));replace HB:=k0 (hb);replace aj:=k0 (hi);have eJ:0≤(t101:Int):=oD;have eL:t101 < (l1.length:Int):=oD;obtain ⟨jY,e104,eF⟩:=Kd.cm iQ.z t101 eJ eL;cases e104;replace eF:=acX HK.z eF (by first|(rw [add_block];exact JK _ rfl (by omega))|exact JK _ rfl (by omega)|exact JK jY rfl (by omega));replace eJ:=eq_true eJ;replace eL:=eq_true eL))
 go_ret
 exact ⟨eR,bB aj.z,by repeat (first|(with_reducible first|exact HB.z|apply bn|apply bq|apply anS|refine az ?_ (af.ge aj.z))|exact HB.z),aK HK.z⟩
/-! ### F173: function 173 -/
def mG.f (l0:List Int):Option (List Int):=(some (([]:List Int):List Int)).bind fun iH=>(if iH.length+l0.length < 17592186044416 then (some (iH ++ l0)) else (none))
theorem mG.calls (A0 : Option Addr) (c0 : Nat) (l0 : List Int) (r : List Int) (w : World) (cL : Kd.C (Kd.int .i64) w A0 l0.length l0) (hc0 : l0.length ≤ c0) (h : mG.f l0 = some r) :
  Calls Try.prog 173 #[.slice A0 l0.length c0] w fun e w'=>∃ dw:Value,e=.returned (dw)∧Kd.R (Kd.int .i64) 2 w' w.heap.size (fun _=>True) dw r∧Below w.heap.size w w':=by
 have dh:=k0 cL
 have fI:=k0 hc0
 clear cL hc0
 have HB:=k0 (Below.refl w.heap.size w)
 have H:((some (([]:List Int):List Int)).bind fun iH=>(if iH.length+l0.length < 17592186044416 then (some (iH ++ l0)) else (none)))=some r:=h
 clear h
 obtain ⟨iH,jh⟩:∃ y_:List Int,y_=(([]:List Int)):=⟨_,rfl⟩
 replace H:(if iH.length+l0.length < 17592186044416 then (some (iH ++ l0)) else (none))=some r:=rH jh H
 have kW:=k0 jh
 clear jh
 replace H:=iS H;obtain ⟨c2,H⟩:=H
 have ap0:=k0 c2
 clear c2
 obtain ⟨qT,pH⟩:∃ y_:List Int,y_=(iH ++ l0):=⟨_,rfl⟩
 replace H:(some qT)=some r:=rH pH H
 have vN:=k0 pH
 clear pH
 obtain rfl:=Option.some.inj H
 go_enter Try.func173,Try.ntmps173
 go_wp2_with (first|((with_reducible refine bN (N:=3) rfl ?_);refine Kd.jd (Kd.int .i64) _ 2 ?hg (N:=3) ?hd (xs:=([]:List Int)) (inner:=[]) (ok:=fun _=>True) (anX:=fun _=>True) ?hr ?hp (fun _ hk=>hk) trivial (Below.refl _ _) (Nat.le_refl _) (by simp) ?_;(case hd=>rfl);(case hg=>rfl);(case hr=>first|(go_simp;done)|(go_simp;rfl));(case hp=>exact (bu.none _ _));intro aoK w3 gG hb c_ dc;clear c_ dc;(first|rw [← kW.z] at gG|(simp only [Int.reduceToNat] at gG;rw [← kW.z] at gG));have jQ:=k0 (Kd.cH gG (anG bl));replace HB:=k0 (anH bl hb);clear hb gG)|((with_reducible refine aoi (b:=.append) (xs:=#[.tmp 3,.tmp 4]) rfl ?_);at_builtin;refine Kd.EI (Kd.int .i64) (w0:=w) w.heap.size rfl (.tmp 3) (.tmp 4) 28 2 (.int .i64 0) 8 rfl Try.underlying28 aoj rfl (by decide) (by omega) aoK iH l0 _ _ _ (fun _=>True) (fun _=>False) rfl rfl ?aO ?aR (fun _ _ h=>h) (fun _ h=>h.elim) ?aF ?aB ?aS ?aL ?_;(case aR=>repeat (first|exact (Kd.dU dh.z HB.z)|(with_reducible refine Kd.hJ ?_ _)|(with_reducible refine Kd.aoc ?_ _)|(with_reducible refine Kd.gO ?_)));(case aB=>exact bl);(case aF=>exact (fun _ _=>trivial));(case aO=>exact (aR jQ.z));(case aS=>exact (anG bl));(case aL=>have:=ap0.out;omega);intro v105 w5 ho hb hg bz;rw [← vN.z] at ho;have av:=k0 (hb);have ax:=k0 (ho);clear HB;clear jQ;have HB:=av;have kS:=ax;clear av ax;clear ho hb hg bz))
 go_ret
 exact ⟨_,eR,by (with_reducible repeat (first|apply Kd.b_|apply Kd.bZ|apply Kd.bP));exact kS.z,bl⟩
/-! ### F231: function 231 -/
def eO.l0 : Nat → Int → Int → List (List Int) → Int → List (List Int) → Option (Int × (List (List Int)))
 | 0,_,_,_,_,_=>none
 | k+1,x4,iN,iy,gV,iz=>if x4 < (iy.length:Int) then (if 0≤x4 then ((mG.f (ai iy x4)).bind fun t108=>(if iz.length < 5864062014805 then (eO.l0 k (wrap64 (x4+1)) iN iy gV (iz ++ [t108])) else (none))) else (none)) else (some (gV,iz))
def eO.f (k:Nat) (au:Int) (ah:List (List Int)):Option (Int × (List (List Int))):=eO.l0 k 0 au ah au (([]:List (List Int)))
theorem eO.cC : ∀ k, (∀ y0 y1 y2 y3 y4, ag (eO.l0 k y0 y1 y2 y3 y4) (eO.l0 (k + 1) y0 y1 y2 y3 y4))
 | 0=>fun _ _ _ _ _ r h=>by simp [eO.l0] at h
 | k+1=>by
  have a_:=eO.cC k
  ·intro y0 y1 y2 y3 y4
   unfold eO.l0
   repeat' first
    | (with_reducible first|exact a_ _ _ _ _ _|exact ag.refl _|exact ag.none _|refine ag.ite ?_ ?_|refine ag.bind ?_ (fun _=>?_))
    | exact a_ _ _ _ _ _|exact ag.none _|refine ag.ite ?_ ?_|refine ag.bind ?_ (fun _=>?_)
theorem eO.mono:∀ a0 a1 k,ag (eO.f k a0 a1) (eO.f (k+1) a0 a1):=by
 intro a0 a1 k
 have a_:=eO.cC k
 unfold eO.f
 repeat' first
  | (with_reducible first|exact a_ _ _ _ _ _|exact ag.refl _|exact ag.none _|refine ag.ite ?_ ?_|refine ag.bind ?_ (fun _=>?_))
  | exact a_ _ _ _ _ _|exact ag.none _|refine ag.ite ?_ ?_|refine ag.bind ?_ (fun _=>?_)
def eO.T5:Bool × List (List Nat × List Nat):=(true,[([],[]),([0],[0]),([],[]),([2],[2]),([],[]),([3,4],[3,4]),([5],[5]),([6],[6]),([7],[7]),([1,8,7],[1,8]),([0,1,2,3,4,5,6,7,8,9],[]),([10,9,9,0,1,2,3,4,5,6,7,8,9],[9,10])])
def eO.B5:List Nat:=[0,1,0,4,0,28,60,124,252,511,1023,2047]
theorem eO.apn:fh .any (opsOf Try.f231 5)=eO.T5:=by kernel_rfl
theorem eO.xz:kN eO.T5.2 eO.B5=true:=by kernel_rfl
theorem eO.calls (k : Nat) (au : Int) (bJ : Option Addr) (bI : Nat) (ah : List (List Int)) (r1 : Int) (r2 : List (List Int)) (w : World) (eS : Kd.C (Kd.slice 2 (Kd.int .i64)) w bJ ah.length ah) (eY : ah.length ≤ bI) (h : eO.f k au ah = some (r1, r2)) :
  Calls Try.prog 231 #[.agg #[.int .i64 au,.slice bJ ah.length bI]] w fun e w'=>∃ iw:Value,e=.returned (.agg #[.int .i64 r1,iw])∧Kd.S (Kd.slice 2 (Kd.int .i64)) 28 w' w.heap.size (fun _=>True) iw r2∧Below w.heap.size w w':=by
 have jS:=Try.underlying31
 have dP:=k0 eS
 have f_:=k0 eY
 clear eS eY
 have HB:=k0 (Below.refl w.heap.size w)
 have H:(eO.l0 k 0 au ah au (([]:List (List Int))))=some (r1,r2):=h
 clear h
 obtain ⟨zk,yg⟩:∃ y_:List (List Int),y_=(([]:List (List Int))):=⟨_,rfl⟩
 replace H:(eO.l0 k 0 au ah au zk)=some (r1,r2):=rH yg H
 have BJ:=k0 yg
 clear yg
 have H':=k0 H
 clear H
 go_enter Try.func231,Try.ntmps231
 go_wp2_with (first|((with_reducible refine bN (N:=1) rfl ?_);refine cE 1 #[.int .i64 au,.slice bJ ah.length bI] 31 ?_;intro aW hg w2 aG hb;have aa:=k0 (aG);have cu:=gW hg (anG bl);have anQ:=cu;replace HB:=k0 (anH bl hb);clear hb aG hg)|((with_reducible refine bN (N:=2) rfl ?_);refine cE 2 #[.int .i64 0,.slice none 0 0] 31 ?_;intro dJ hg w3 aG hb;have bp:=k0 (aG);have mI:=gW hg (anG bl);have gQ:=mI;replace HB:=k0 (anH bl hb);have iB:=nL hg aa;have aof:=nG iB;replace aa:=kB aa hb;clear hb aG hg;have abW:=iB.z;have ab9:=aof.z;have uG:=aX aa;have uH:=aY aa;have uI:=bF aa 0;have uJ:=bF aa 1)|((with_reducible refine bN (N:=7) rfl ?_);refine Kd.z_ (Kd.slice 2 (Kd.int .i64)) _ 28 ?hg (N:=7) ?hd (xs:=([]:List (List Int))) (inner:=[]) (ok:=fun _=>True) (anX:=fun _=>True) ?hr ?hp (fun _ hk=>hk) trivial (Below.refl _ _) (Nat.le_refl _) (by simp) ?_;(case hd=>rfl);(case hg=>rfl);(case hr=>first|(go_simp;done)|(go_simp;rfl));(case hp=>exact (bu.none _ _));intro aoZ w6 mz hb c_ dc;clear c_ dc;(first|rw [← BJ.z] at mz|(simp only [Int.reduceToNat] at mz;rw [← BJ.z] at mz));have av:=k0 (Kd.gD mz (anG bl));have ax:=kB aa hb;have ay:=kB bp hb;have anC:=k0 (anH bl hb);clear aa;clear bp;clear HB;have cZ:=av;have aa:=ax;have bp:=ay;have HB:=anC;clear av ax ay anC;clear hb mz;obtain ⟨vD,wh,Cs⟩:=Kd.eH cZ.z;subst Cs)|((with_reducible refine bN (N:=3) rfl ?_);refine cE 3 #[.int .i64 0,.slice none 0 0] 31 ?_;intro bW hg w9 aG hb;have av:=k0 (Kd.kn (aS cZ.z) hb);have ax:=kB aa hb;have ay:=kB bp hb;have anC:=k0 (anH bl hb);have aD:=k0 (aG);have anE:=k0 ((by rw [hg];exact (anG bl):w.heap.size≤bW));have anP:=k0 ((by rw [hg];exact (anG bl):w.heap.size≤bW));have bL:=nL hg aa;have b6:=nG bL;have cM:=nL hg bp;have fe:=nG cM;clear cZ;clear aa;clear bp;clear HB;have cZ:=av;have aa:=ax;have bp:=ay;have HB:=anC;have aJ:=aD;have zH:=anE;have G0:=anP;have xg:=bL;have ED:=b6;have zX:=cM;have ap3:=fe;clear av ax ay anC aD anE anP bL b6 cM fe;clear hb aG hg;have JZ:=ED.z;have J3:=xg.z;have abS:=ap3.z;have ab5:=zX.z;have aaH:=aX aJ;have aaI:=aY aJ;have abj:=bF aJ 0;have abk:=bF aJ 1))
 go_loopg [4] k (fun kq v4 w'=>∃ (bD:Int) (vk:List (List Int)) (u107001:Value),v4=.int .i64 bD∧ak (eO.l0 kq bD au ah au vk=some (r1,r2))∧ak (kq≤k)∧ak (Kd.S (Kd.slice 2 (Kd.int .i64)) 28 w' w.heap.size (fun _=>True) u107001 vk)∧ak (w'.heap[aW]?=some (sO au bJ ah bI 31))∧ak (w'.heap[dJ]?=some (.cells #[.int .i64 0,(.slice none 0 0)] 31 (0,0)))∧ak (w'.heap[bW]?=some (.cells #[.int .i64 au,u107001] 31 (0,0)))∧ak (Below w.heap.size w w'))
 case atStart=>exact ⟨(0),(zk),(.slice vD zk.length wh),rs,H',⟨Nat.le_refl _⟩,⟨aS (Kd.anW (gS 1 (.slice vD zk.length wh) (gS 0 (.int .i64 au) (tS cZ aJ))) (fun _ hk=>trivial))⟩,⟨by (with_reducible repeat (first|refine anF ?_ _|refine aH ?_|refine aI ?_ _));refine anU ?_ xg.z _;(with_reducible repeat (first|refine anF ?_ _|refine aH ?_|refine aI ?_ _));refine anU ?_ xg.z _;exact bk⟩,⟨by (with_reducible repeat (first|refine anF ?_ _|refine aH ?_|refine aI ?_ _));refine anU ?_ zX.z _;(with_reducible repeat (first|refine anF ?_ _|refine aH ?_|refine aI ?_ _));refine anU ?_ zX.z _;exact bk⟩,⟨by (with_reducible repeat (first|refine anF ?_ _|refine aH ?_|refine aI ?_ _));refine anV (cs:=#[.int .i64 au,.slice none 0 0]) ?_ 1 _ rfl;(with_reducible repeat (first|refine anF ?_ _|refine aH ?_|refine aI ?_ _));refine anV (cs:=#[.int .i64 0,.slice none 0 0]) ?_ 0 _ rfl;exact bk⟩,⟨bl⟩⟩
 case round =>
  clear H'
  obtain ⟨bD,vk,u107001,rfl,HA,bH,anL,aa,bp,aJ,HB⟩:=hrel
  cases gk with
  | zero=>exact absurd HA.z (by simp [eO.l0])
  | succ k1 =>
   have H:=HA.z
   clear HA
   simp only [eO.l0] at H
   by_cases c13:bD < (ah.length:Int)
   case neg =>
    rw [if_neg c13] at H
    have aoJ:decide (bD < (ah.length:Int))=false:=decide_eq_false c13
    clear c13
    simp only [Option.some.injEq,Prod.mk.injEq] at H
    obtain ⟨rfl,rfl⟩:=H
    have De:=iB.z
    have Df:=aof.z
    have ald:=xg.z
    have al':=ED.z
    have ait:=aX aa
    have aiu:=aY aa
    have ajU:=bF aa 0
    have ajV:=bF aa 1
    have abV:=ap3.z
    have ab8:=zX.z
    have CP:=aX aJ
    have CQ:=aY aJ
    have CX:=bF aJ 0
    have CY:=bF aJ 1
    have aix:=aX bp
    have aiy:=aY bp
    have ajY:=bF bp 0
    have ajZ:=bF bp 1
    obtain ⟨Bm,Cg,Cq⟩:=Kd.eH anL.z
    subst Cq
    go_wp2
    refine bodyPost_ret (results_cell_row rfl _ _ dJ 31 #[.int .i64 au,.slice Bm vk.length Cg] (0,0) _ rfl (by (with_reducible repeat (first|refine anF ?_ _|refine aH ?_|refine aI ?_ _));refine anV (cs:=#[.int .i64 au,.slice none 0 0]) ?_ 1 _ rfl;(with_reducible repeat (first|refine anF ?_ _|refine aH ?_|refine aI ?_ _));refine anV (cs:=#[.int .i64 0,.slice none 0 0]) ?_ 0 _ rfl;exact bk) Try.underlying31 rfl (by kernel_rfl)) rfl ?_
    exact ⟨_,eR,by (with_reducible repeat (first|apply Kd.di|apply Kd.dm|apply Kd.cS));exact Kd.anW (gS 1 (.slice Bm vk.length Cg) (gS 0 (.int .i64 au) (tS anL bp))) (fun _ hk=>trivial),bl⟩
   rw [if_pos c13] at H
   have aoJ:=decide_eq_true c13
   clear c13
   replace H:=iS H;obtain ⟨c14,H⟩:=H
   have qC:=decide_eq_true c14
   clear c14
   replace H:=Option.bind_eq_some_iff.mp H
   obtain ⟨t108,qV,H⟩:=H
   replace H:(if vk.length < 5864062014805 then (eO.l0 k1 (wrap64 (bD+1)) au ah au (vk ++ [t108])) else (none))=some (r1,r2):=H
   have Uk:=k0 qV
   clear qV
   replace H:=iS H;obtain ⟨c16,H⟩:=H
   have xd:=k0 c16
   clear c16
   obtain ⟨qv,ym⟩:∃ y_:List (List Int),y_=(vk ++ [t108]):=⟨_,rfl⟩
   replace H:(eO.l0 k1 (wrap64 (bD+1)) au ah au qv)=some (r1,r2):=rH ym H
   have EG:=k0 ym
   clear ym
   have H':=k0 H
   clear H
   have Fu:=iB.z
   have Fv:=aof.z
   have J0:=xg.z
   have J4:=ED.z
   have CL:=aX aa
   have CM:=aY aa
   have CT:=bF aa 0
   have CU:=bF aa 1
   try go_wp2
   replace anL:=k0 (Kd.cS anL.z);replace aa:=k0 (aH aa.z);replace bp:=k0 (aH bp.z);replace aJ:=k0 (aH aJ.z);replace HB:=k0 (anS HB.z)
   have jM:0≤(bD:Int):=oD
   have jN:bD < (ah.length:Int):=oD
   obtain ⟨lR,zo,xD,e107,jL,qh,qf⟩:=fu dP.z bD jM jN
   have tK:=jL
   cases e107
   replace jL:=hbc HB jL
   have q8:=k0 qf
   have Bx:=k0 qh
   clear qf qh
   replace jM:=eq_true jM
   replace jN:=eq_true jN
   refine oO (n:=12) (S:=fun w'=>w'.cell? ⟨bW,0,none⟩=some (.int .i64 au)∧w'.cell? ⟨bW,1,none⟩=some (u107001)∧w'.cell? ⟨aW,0,none⟩=some (.int .i64 au)∧w'.cell? ⟨aW,1,none⟩=some (.slice (some lR) ah.length bI)∧w'.cell? (lR.add (bD).toNat)=some (.slice zo (ai ah bD).length xD)) (ds:=[11]) (ba 12 0) (by kernel_rfl) rfl rfl ⟨aX aJ,aY aJ,aX aa,aY aa,(hbc HB tK)⟩ (fun hHeld=>?_);refine qt eO.apn eO.xz (fun anM eE=>?_)
   generalize wr.drew=zf at anL aa bp aJ HB q8 jL hHeld ⊢
   refine pu 0 (some 16) (ba 12 1) anM (h:=?_)
   refine pu 2 (some 18) (ba 12 5) anM (h:=?_)
   refine pu 4 (some 20) (ba 12 21) anM (h:=?_)
   refine ta 1 (some 17) (ba 12 23) anM eE hHeld (hy:=Or.inl ⟨by rfl,by rintro w' ⟨s0,s1,s2,s3,s4⟩;go_simp;with_reducible rfl⟩) (h:=?_)
   refine ta 3 (some 19) (ba 12 31) anM eE hHeld (hy:=Or.inl ⟨by rfl,by rintro w' ⟨s0,s1,s2,s3,s4⟩;go_simp;with_reducible rfl⟩) (h:=?_)
   refine pu 5 (some 21) (ba 12 63) anM (h:=?_)
   refine ta 6 (some 22) (ba 12 127) anM eE hHeld (hy:=Or.inl ⟨by rfl,by rintro w' ⟨s0,s1,s2,s3,s4⟩;go_simp;with_reducible rfl⟩) (h:=?_)
   refine nF (i:=7) (N:=some 23) (ba 12 255) rfl rfl (j7 anM.out (by kernel_rfl)) (by decide) (fun K hK=>?_)
   refine uE Try.func173 (by kernel_rfl) rfl #[.slice zo (ai ah bD).length xD] (by rfl) rfl rfl gm ?_
   with_reducible refine (mG.calls _ _ (ai ah bD) t108 _ ?aA ?anD Uk.z).mono ?_
   (case aA=>exact aC (Kd.dU q8.z HB.z))
   (case anD=>exact Bx.z)
   rintro e w21 ⟨v109,rfl,aq,hb⟩
   refine ⟨_,rfl,?_⟩
   have av:=k0 (Kd.an6 (aS anL.z) (Kd.aU aq) hb)
   have ax:=k0 (Kd.cH aq (anG bl))
   have ay:=kB aa hb
   have anC:=kB bp hb
   have aD:=kB aJ hb
   have anE:=k0 (anH bl hb)
   clear anL
   clear aa
   clear bp
   clear aJ
   clear HB
   have anL:=av
   have rQ:=ax
   have aa:=ay
   have bp:=anC
   have aJ:=aD
   have HB:=anE
   clear av ax ay anC aD anE
   obtain ⟨MI,OV,Pf⟩:=Kd.cK rQ.z
   (first|subst Pf|(injection Pf with ig aoq ij;have aor:=ig.symm;have aos:=ij.symm;clear ig aoq ij;subst aor;subst aos))
   refine hK.out _ _ ⟨aX aJ,aY aJ,aX aa,aY aa,(hbc HB tK)⟩ (fun hHeld=>?_)
   clear hK K
   refine mY (a':=?_) ?_ ?_
   rotate_left;· show Act.put _ (some 23) _=_;simp only [Act.put,zI,zZ,zS,dX,eZ];rfl
   refine nF (i:=8) (N:=some 24) (ba 12 511) rfl rfl (j7 anM.out (by kernel_rfl)) (by decide) (fun K hK=>?_)
   refine ao2 (w1:=?_) (v:=?_) (by rfl) rfl ?_ ?_
   rotate_left 2
   ·go_simp
    constructor
    ·rfl
    ·rfl
   refine hK.out _ _ ⟨(eX (aI aJ.z _) 0).trans rfl,(eX (aI aJ.z _) 1).trans rfl,(eX (aI aa.z _) 0).trans rfl,(eX (aI aa.z _) 1).trans rfl,(World.cell?_alloc_lt _ _ _ (World.block_lt_of_cell? _ _ ((hbc HB tK)))).trans ((hbc HB tK))⟩ (fun hHeld=>?_)
   clear hK K
   refine mY (a':=?_) ?_ ?_
   rotate_left;· show Act.put _ (some 24) _=_;simp only [Act.put,zI,zZ,zS,dX,eZ];rfl
   refine nF (i:=9) (N:=some 25) (ba 12 1023) rfl rfl (j7 anM.out (by kernel_rfl)) (by decide) (fun K hK=>?_)
   refine Kd.Ic (Kd.slice 2 (Kd.int .i64)) (w0:=w) w.heap.size (by rfl) (.tmp 17) (.tmp 24) 22 28 (.slice none 0 0) 24 rfl Try.underlying22 qI rfl (by decide) (by omega) u107001 vk t108 [.slice MI t108.length OV] (fun _=>True) (fun k_=>some k_=(.slice MI t108.length OV:Value).ownBlock) rfl rfl ?aP (fun k_ b9=>((Kd.aT (ok':=fun k_=>((fun _=>True)) k_∧some k_ ≠ (u107001:Value).ownBlock) (Kd.jx (rQ.z) (Kd.iR anL.z) (by decide)) (fun k_ hk=>⟨trivial,hk.2⟩))).1 k_ b9.symm) ?aF ?aO ?aB ?aS ?aL ?_
   (case aP=>exact Kd.lg (Kd.aT (Kd.oB rfl (Kd.aT (ok':=fun k_=>((fun _=>True)) k_∧some k_ ≠ (u107001:Value).ownBlock) (Kd.jx (rQ.z) (Kd.iR anL.z) (by decide)) (fun k_ hk=>⟨trivial,hk.2⟩))) (fun _ h_=>h_)))
   (case aB=>exact bl)
   (case aF=>exact (fun _ _=>trivial))
   (case aO=>exact (by (with_reducible repeat (first|apply Kd.di|apply Kd.dm|apply Kd.cS));exact Kd.anW anL.z (fun k_ hk=>⟨trivial,fun e_=>hk.2 e_⟩)))
   (case aS=>exact (anG bl))
   (case aL=>have:=xd.out;omega)
   intro DW tT ho hb hg bz
   rw [← EG.z] at ho
   have av:=k0 (gh (aB aa.z) hg (Kd.kD anL.z aa.z (by decide)))
   have ax:=k0 (gh (aB bp.z) hg (Kd.kD anL.z bp.z (by decide)))
   have ay:=k0 (gh (aB aJ.z) hg (Kd.kD anL.z aJ.z (by decide)))
   have anC:=k0 (hb)
   have aD:=k0 (ho)
   clear aa
   clear bp
   clear aJ
   clear HB
   clear anL
   clear rQ
   have aa:=av
   have bp:=ax
   have aJ:=ay
   have HB:=anC
   have oW:=aD
   clear av ax ay anC aD
   clear ho hb hg bz
   obtain ⟨GS,E1,E6⟩:=Kd.eH oW.z
   (first|subst E6|(injection E6 with ig aoq ij;have aor:=ig.symm;have aos:=ij.symm;clear ig aoq ij;subst aor;subst aos))
   refine hK.out _ _ ⟨aX aJ,aY aJ,aX aa,aY aa,(hbc HB tK)⟩ (fun hHeld=>?_)
   clear hK K
   refine mY (a':=?_) ?_ ?_
   rotate_left;· show Act.put _ (some 25) _=_;simp only [Act.put,zI,zZ,zS,dX,eZ];rfl
   refine pu 10 (some 26) (ba 12 2047) anM (h:=?_)
   refine rC (i:=11) (N:=none) (ba 12 4095) rfl rfl (j7 anM.out (by kernel_rfl)) (by decide) (fun K hK=>?_)
   have amO:=aY aJ
   have ajl:=bF aJ 1
   have amK:=xg.z
   have amL:=zX.z
   have akR:=ED.z
   have akS:=ap3.z
   refine sZ (w1:=?_) (by rfl) rfl ?_ ?_
   rotate_left;· go_simp;rfl
   refine hK.out _ _ ?_
   clear hK K
   refine o_ (qF anM.out (by kernel_rfl)) ?_
   try go_wp2
   go_roundg k1
   case measure=>have:=bH.z;omega
   case rel=>exact ⟨(wrap64 (bD+1)),(qv),(.slice GS qv.length E1),rs,H',⟨by have:=bH.z;omega⟩,⟨aS (Kd.anW (gS 1 (.slice GS qv.length E1) (tS oW aJ)) (fun _ hk=>trivial))⟩,⟨by (with_reducible repeat (first|refine anF ?_ _|refine aH ?_|refine aI ?_ _));refine anU ?_ xg.z _;exact bk⟩,⟨by (with_reducible repeat (first|refine anF ?_ _|refine aH ?_|refine aI ?_ _));refine anU ?_ zX.z _;exact bk⟩,⟨by (with_reducible repeat (first|refine anF ?_ _|refine aH ?_|refine aI ?_ _));refine anV (cs:=#[.int .i64 au,u107001]) ?_ 1 _ rfl;exact bk⟩,⟨bl⟩⟩
end Go.Proofs.Ytoebojnhchocaaa.G
/- Set with little white space, by a program. -/
