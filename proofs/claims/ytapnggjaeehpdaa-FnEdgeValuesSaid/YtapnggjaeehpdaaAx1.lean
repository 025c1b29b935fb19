/- The functions that one law reaches, each as a Lean function, and that Go's call comes to what it says. Condition of each: that the Lean function answers (is not none). -/
import Derived.Test.YtapnggjaeehpdaaAx0
namespace Go.Proofs.Ytapnggjaeehpdaa.A
open Go.RowKit Go.Proofs.bB.dI Go.Proofs.bB.ark Go.Proofs.bB.jd
attribute [local go_sem] max2_int min2_int max_two min_two max_three min_three max_four min_four   -- for this text's walks alone
set_option linter.unusedVariables false
set_option linter.unusedSimpArgs false
set_option maxHeartbeats 8000000
set_option maxRecDepth 100000
/-! ### F5: function 5 -/
def F5.f (l0:List Int):Option (Bool):=some (decide ((l0.length:Int) > 4096))
theorem F5.calls (A0 : Option Addr) (c0 : Nat) (l0 : List Int) (r : Bool) (w : World) (bZ : Kd.C (Kd.int .u8) w A0 l0.length l0) (hc0 : l0.length ≤ c0) (h : F5.f l0 = some r) :
  Calls Try.prog 5 #[.slice A0 l0.length c0] w fun e w'=>e=.returned (.bool r)∧eX w w':=by
 have cP:=k0 bZ
 have fq:=k0 hc0
 clear bZ hc0
 unfold F5.f at h
 have H:=h
 clear h
 obtain rfl:=Option.some.inj H
 go_enter Try.func5,Try.ntmps5
 go_wp2
 go_ret
 exact ⟨rs,dW⟩
/-- A state of type 103 at block g of W; what its slices lead to came in by w0. -/
def aj (w0 W:World) (g:Nat) (f0:List Int) (f1:Int) (f2:Int):Prop:=∃ A0 c0,W.heap[g]?=some (.cells #[.slice A0 f0.length c0,.int .i64 f1,.int .u64 f2] 103 (0,0))∧w0.heap.size≤g∧Kd.C (Kd.int .u8) w0 A0 f0.length f0
theorem aj.grown {w0 W:World} {g:Nat} {f0:List Int} {f1:Int} {f2:Int} {W1:World} {row:Option Nat} (h:aj w0 W g f0 f1 f2) (hw:W.grownBy W1 row) (hne:some g ≠ row):aj w0 W1 g f0 f1 f2:=by
 obtain ⟨A0,c0,hb,hg,bZ⟩:=h
 exact ⟨A0,c0,aq2 hb hw hne,hg,bZ⟩
theorem aj.ao6 {w0 W:World} {g:Nat} {f0:List Int} {f1:Int} {f2:Int} {α:Type} {d:Kd α} {e:Nat} {base:Nat} {ok:Nat→Prop} {v:Value} {xs:List α} (h:aj w0 W g f0 f1 f2) (ho:Kd.N d e W base ok v xs) (ht:e ≠ 103):some g ≠ v.ownBlock:=by
 obtain ⟨A0,c0,hb,hg,bZ⟩:=h
 exact Kd.QE ho hb ht
theorem aj.fresh {w0 W:World} {g:Nat} {f0:List Int} {f1:Int} {f2:Int} (h:aj w0 W g f0 f1 f2):∀ k,W.heap.size≤k→k ≠ g:=by
 obtain ⟨A0,c0,hb,hg,bZ⟩:=h
 exact Kd.ig hb
theorem aj.kept {w0 W:World} {g:Nat} {f0:List Int} {f1:Int} {f2:Int} {W1:World} {S:Nat→Prop} (h:aj w0 W g f0 f1 f2) (hk:Kept W W1 S) (hne:¬ S g):aj w0 W1 g f0 f1 f2:=by
 obtain ⟨A0,c0,hb,hg,bZ⟩:=h
 exact ⟨A0,c0,ab4 hb hk hne,hg,bZ⟩
theorem aj.below {w0 W:World} {g:Nat} {f0:List Int} {f1:Int} {f2:Int} {W1:World} (h:aj w0 W g f0 f1 f2) (hw:Below W.heap.size W W1):aj w0 W1 g f0 f1 f2:=h.grown (Tt hw none) (by simp)
theorem aj.alloc {w0 W:World} {g:Nat} {f0:List Int} {f1:Int} {f2:Int} (h:aj w0 W g f0 f1 f2) (o:Obj):aj w0 (W.alloc o) g f0 f1 f2:=h.below (eu (Below.refl _ _) o)
theorem aj.drewN {w0 W:World} {g:Nat} {f0:List Int} {f1:Int} {f2:Int} (h:aj w0 W g f0 f1 f2) (m:Nat):aj w0 (W.drewN m) g f0 f1 f2:=h
theorem aj.drew {w0 W:World} {g:Nat} {f0:List Int} {f1:Int} {f2:Int} (h:aj w0 W g f0 f1 f2):aj w0 W.drew g f0 f1 f2:=h
theorem aj.at_ {w0 W:World} {g:Nat} {f0:List Int} {f1:Int} {f2:Int} {w':World} {m:Nat} (hq:W.drewN m=w') (h:aj w0 W g f0 f1 f2):aj w0 w' g f0 f1 f2:=by subst hq;exact aj.drewN h m
theorem aj.apart {w0 W:World} {g:Nat} {f0:List Int} {f1:Int} {f2:Int} {α:Type} {d:Kd α} {e:Nat} {base:Nat} {ok:Nat→Prop} {v:Value} {xs:List α} (h:aj w0 W g f0 f1 f2) (ho:d.R e W base ok v xs) (ht:∀ q,q ∈ e :: d.E→q ≠ 103):d.R e W base (fun k=>ok k∧k ≠ g) v xs:=by
 obtain ⟨A0,c0,hb,hg,bZ⟩:=h
 exact Kd.GW ho hb ht
theorem aj.tE {w0 W:World} {g:Nat} {f0:List Int} {f1:Int} {f2:Int} {α:Type} {d:Kd α} {e:Nat} {base:Nat} {ok:Nat→Prop} {v:Value} {xs:List α} (h:aj w0 W g f0 f1 f2) (ho:d.R e W base ok v xs) (ht:e ≠ 103):some g ≠ v.ownBlock:=by
 obtain ⟨A0,c0,hb,hg,bZ⟩:=h
 exact Kd.aro ho hb ht
theorem aj.al' {w0 W:World} {g:Nat} {f0:List Int} {f1:Int} {f2:Int} {α:Type} {d:Kd α} {e:Nat} {base:Nat} {ok:Nat→Prop} {v:Value} {xs:List α} (h:aj w0 W g f0 f1 f2) (ho:d.Q e W base ok v xs) (ht:∀ q,q ∈ e :: d.E→q ≠ 103):d.Q e W base (fun k=>ok k∧k ≠ g) v xs:=by
 obtain ⟨A0,c0,hb,hg,bZ⟩:=h
 exact Kd.aa_ ho hb ht
theorem aj.ao7 {w0 W:World} {g:Nat} {f0:List Int} {f1:Int} {f2:Int} {α:Type} {d:Kd α} {e:Nat} {base:Nat} {ok:Nat→Prop} {v:Value} {xs:List α} (h:aj w0 W g f0 f1 f2) (ho:d.Q e W base ok v xs) (ht:e ≠ 103):some g ≠ v.ownBlock:=by
 obtain ⟨A0,c0,hb,hg,bZ⟩:=h
 exact Kd.aa8 ho hb ht
theorem aj.oZ {w0 W:World} {g:Nat} {f0:List Int} {f1:Int} {f2:Int} {α:Type} {d:Kd α} {e:Nat} {base:Nat} {ok:Nat→Prop} {v:Value} {xs:List α} (h:aj w0 W g f0 f1 f2) (ho:d.S e W base ok v xs) (ht:∀ q,q ∈ e :: d.E→q ≠ 103):d.S e W base (fun k=>ok k∧k ≠ g) v xs:=by
 obtain ⟨A0,c0,hb,hg,bZ⟩:=h
 exact Kd.xO ho hb ht
theorem aj.AA {w0 W:World} {g:Nat} {f0:List Int} {f1:Int} {f2:Int} {α:Type} {d:Kd α} {e:Nat} {base:Nat} {ok:Nat→Prop} {v:Value} {xs:List α} (h:aj w0 W g f0 f1 f2) (ho:d.S e W base ok v xs) (ht:e ≠ 103):some g ≠ v.ownBlock:=by
 obtain ⟨A0,c0,hb,hg,bZ⟩:=h
 exact Kd.arl ho hb ht
theorem aj.lt {w0 W:World} {g:Nat} {f0:List Int} {f1:Int} {f2:Int} (h:aj w0 W g f0 f1 f2):g < W.heap.size:=by
 obtain ⟨A0,c0,hb,hg,bZ⟩:=h
 exact ar' hb
theorem aj.ge {w0 W:World} {g:Nat} {f0:List Int} {f1:Int} {f2:Int} (h:aj w0 W g f0 f1 f2):w0.heap.size≤g:=by
 obtain ⟨A0,c0,hb,hg,bZ⟩:=h
 exact hg
theorem aj.qo {w0 W:World} {g:Nat} {f0:List Int} {f1:Int} {f2:Int} {a:Nat} {cs:Array Value} {t:TypeId} {fr:Nat × Nat} (h:aj w0 W g f0 f1 f2) (eU:W.heap[a]?=some (.cells cs t fr)) (ht:t ≠ 103):g ≠ a:=by
 obtain ⟨A0,c0,hb,hg,bZ⟩:=h
 rintro rfl
 rw [hb] at eU
 injection eU with eU
 injection eU with _ ht2
 exact ht ht2.symm
theorem aj.far {w0 W:World} {g:Nat} {f0:List Int} {f1:Int} {f2:Int} {p:Addr} (h:aj w0 W g f0 f1 f2) (hne:g ≠ p.block) (u:Value):aj w0 (W.setCell p u) g f0 f1 f2:=by
 obtain ⟨A0,c0,hb,hg,bZ⟩:=h
 exact ⟨A0,c0,s7 hb hne u,hg,bZ⟩
theorem Sh {W:World} {g:Nat} {A0:Option Addr} {c0:Nat} {f0:List Int} {f1:Int} {f2:Int} (h:W.heap[g]?=some (.cells #[.slice A0 f0.length c0,.int .i64 f1,.int .u64 f2] 103 (0,0))):W.cell? ⟨g,0,none⟩=some (.slice A0 f0.length c0):=(fI h 0).trans rfl
theorem Si {W:World} {g:Nat} {A0:Option Addr} {c0:Nat} {f0:List Int} {f1:Int} {f2:Int} (h:W.heap[g]?=some (.cells #[.slice A0 f0.length c0,.int .i64 f1,.int .u64 f2] 103 (0,0))):W.cell? ⟨g,1,none⟩=some (.int .i64 f1):=(fI h 1).trans rfl
theorem aj.aiK {w0 W:World} {g:Nat} {f0:List Int} {f1:Int} {f2:Int} (h:aj w0 W g f0 f1 f2) (x:Int):aj w0 (W.setCell ⟨g,1,none⟩ (.int .i64 x)) g f0 x f2:=by
 obtain ⟨A0,c0,hb,hg,bZ⟩:=h
 exact ⟨A0,c0,by simpa using G5 hb 1 (.int .i64 x),hg,bZ⟩
theorem Sj {W:World} {g:Nat} {A0:Option Addr} {c0:Nat} {f0:List Int} {f1:Int} {f2:Int} (h:W.heap[g]?=some (.cells #[.slice A0 f0.length c0,.int .i64 f1,.int .u64 f2] 103 (0,0))):W.cell? ⟨g,2,none⟩=some (.int .u64 f2):=(fI h 2).trans rfl
theorem aj.aiL {w0 W:World} {g:Nat} {f0:List Int} {f1:Int} {f2:Int} (h:aj w0 W g f0 f1 f2) (x:Int):aj w0 (W.setCell ⟨g,2,none⟩ (.int .u64 x)) g f0 f1 x:=by
 obtain ⟨A0,c0,hb,hg,bZ⟩:=h
 exact ⟨A0,c0,by simpa using G5 hb 2 (.int .u64 x),hg,bZ⟩
theorem aj.new (w0 W:World) (A0:Option Addr) (c0:Nat) (f0:List Int) (f1:Int) (f2:Int) (hB:Below w0.heap.size w0 W) (bZ:Kd.C (Kd.int .u8) w0 A0 f0.length f0):aj w0 (W.alloc (.cells #[.slice A0 f0.length c0,.int .i64 f1,.int .u64 f2] 103)) W.heap.size f0 f1 f2:=⟨A0,c0,by simpa using heap_alloc_new W _,hB.size,bZ⟩
theorem aqy {w0 W W1:World} {g:Nat} {f0 S5:List Int} {f1 S6:Int} {f2 S7:Int} (h:aj w0 W g f0 f1 f2) (k:aj w0 W g f0 f1 f2→aj w0 W1 g S5 S6 S7:=by intro h;repeat (first|(with_reducible first|exact h|apply aj.alloc|apply aj.drewN|apply aj.drew|apply aj.aiK|apply aj.aiL|refine aj.far ?_ (ai.z (by assumption)) _)|exact h)):aj w0 W1 g S5 S6 S7:=k h
/-! ### F47: function 47 -/
def aq5.l0 : Nat → List Int → Int → List Int → Int → Int → Option (List Int × Int × Int)
 | 0,_,_,_,_,_=>none
 | k+1,x0,x4,dx,cF,OX=>if x4 < (x0.length:Int) then (if x4 < 4096 then (if 0≤x4 then (aq5.l0 k x0 (wrap64 (x4+1)) dx cF (IntKind.u64.wrap ((IntKind.u64.wrap ((IntKind.u64.wrap (OX * 1099511628211))+(IntKind.u64.wrap (rd x0 x4))))+109))) else (none)) else (some (dx,cF,OX))) else (some (dx,cF,OX))
def aq5.f (k:Nat) (l0:List Int):Option (List Int × Int × Int):=aq5.l0 k l0 0 l0 0 (IntKind.u64.wrap (12981+(IntKind.u64.wrap ((l0.length:Int)))))
def aq5.T5:Bool × List (List Nat × List Nat):=(true,[([],[]),([],[]),([1],[1]),([2],[2]),([3],[3]),([4],[4]),([],[]),([],[]),([6,7],[6,7]),([8],[8]),([9],[9]),([5,10],[5,10]),([11],[11]),([0,0,1,2,3,4,5,6,7,8,9,10,11,12],[0]),([13,0,1,2,3,4,5,6,7,8,9,10,11,12],[13]),([14,12,0,1,2,3,4,5,6,7,8,9,10,11,12],[12,14])])
def aq5.B5:List Nat:=[0,0,2,6,14,30,0,0,192,448,960,2046,4094,8191,16383,32767]
theorem aq5.Oy:eH .any (opsOf Try.f47 5)=aq5.T5:=by kernel_rfl
theorem aq5.Lm:iL aq5.T5.2 aq5.B5=true:=by kernel_rfl
theorem aq5.calls (k : Nat) (A0 : Option Addr) (c0 : Nat) (l0 : List Int) (r1 : List Int) (r2 : Int) (r3 : Int) (w0 w : World) (hB : Below w0.heap.size w0 w) (bZ : Kd.C (Kd.int .u8) w0 A0 l0.length l0) (hc0 : l0.length ≤ c0) (h : aq5.f k l0 = some (r1, r2, r3)) :
  Calls Try.prog 47 #[.slice A0 l0.length c0] w fun e w'=>∃ g_:Nat,e=.returned (.pointer (some ⟨g_,0,none⟩))∧aj w0 w' g_ r1 r2 r3∧Below w0.heap.size w0 w'∧Below w.heap.size w w':=by
 have aoP:=Try.underlying103
 have cP:=k0 bZ
 have fq:=k0 hc0
 clear bZ hc0
 have ar6:=k0 (Below.refl w.heap.size w)
 have jv:=k0 hB.size
 have HB:=k0 hB
 clear hB
 unfold aq5.f at h
 have H:=h
 clear h
 have H':=k0 H
 clear H
 go_enter Try.func47,Try.ntmps47
 go_wp2_with (first|(refine aqI (N:=11) rfl ?_;refine fu 11 #[.slice A0 l0.length c0,.int .i64 0,.int .u64 (IntKind.u64.wrap (12981+(IntKind.u64.wrap ((l0.length:Int)))))] 103 ?_;intro aA hg w2 bq hb;replace HB:=bW hb;have aa:=k0 (bq);have aqF:=k0 ((by rw [hg];exact (aqG (aL ar6.z)):w.heap.size≤aA));have aqR:=k0 ((Nat.le_trans jv.z (by rw [hg];exact (aqG (aL ar6.z)):w.heap.size≤aA):w0.heap.size≤aA));replace ar6:=k0 (dc ar6.z hb);clear hb bq hg))
 go_loopg [4] k (fun kq v4 w'=>∃ (bR:Int) (asT:Int),v4=.int .i64 bR∧ai (aq5.l0 kq l0 bR l0 0 asT=some (r1,r2,r3))∧ai (kq≤k)∧ai (w'.heap[aA]?=some (.cells #[(.slice A0 l0.length c0),.int .i64 0,.int .u64 asT] 103 (0,0)))∧ai (Below w.heap.size w w')∧ai (Below w0.heap.size w0 w'))
 case atStart=>exact ⟨(0),(IntKind.u64.wrap (12981+(IntKind.u64.wrap ((l0.length:Int))))),rs,H',⟨Nat.le_refl _⟩,⟨bk⟩,⟨aL ar6.z⟩,⟨bl⟩⟩
 case round =>
  clear H'
  obtain ⟨bR,asT,rfl,HA,aI,aa,ar6,HB⟩:=hrel
  cases gk with
  | zero=>exact absurd HA.z (by simp [aq5.l0])
  | succ k1 =>
   have H:=HA.z
   clear HA
   simp only [aq5.l0] at H
   replace H:=iC H;obtain ⟨ia,H⟩|⟨ia,H⟩:=H
   case inl =>
    simp only [Option.some.injEq,Prod.mk.injEq] at H
    obtain ⟨rfl,rfl,rfl⟩:=H
    go_wp2
    go_ret
    exact ⟨_,rfl,(show aj w0 _ aA l0 0 asT from ⟨_,_,by (with_reducible repeat (first|refine arL ?_ _|refine cJ ?_|refine iW ?_ _));exact aa.z,aqR.z,cP.z⟩),bl,aL ar6.z⟩
   replace H:=iC H;obtain ⟨ej,H⟩|⟨ej,H⟩:=H
   case inl =>
    simp only [Option.some.injEq,Prod.mk.injEq] at H
    obtain ⟨rfl,rfl,rfl⟩:=H
    go_wp2
    go_ret
    exact ⟨_,rfl,(show aj w0 _ aA l0 0 asT from ⟨_,_,by (with_reducible repeat (first|refine arL ?_ _|refine cJ ?_|refine iW ?_ _));exact aa.z,aqR.z,cP.z⟩),bl,aL ar6.z⟩
   replace H:=iS H;obtain ⟨c5,H⟩:=H
   have gD:=decide_eq_true c5
   clear c5
   have H':=k0 H
   clear H
   try go_wp2
   have fX:=k0 (cJ aa.z)
   have fY:=k0 (aqW HB.z)
   clear aa
   clear HB
   have aa:=fX
   have HB:=fY
   have Wg:=k0 (aqW ar6.z)
   clear ar6
   have ar6:=Wg
   clear Wg
   clear fX fY
   obtain ⟨cT,cU⟩:=iN bR (l0.length:Int)
   obtain ⟨nZ,e102,fB⟩:=Kd.bM cP.z bR cT cU
   have Vz:=fB
   cases e102
   replace fB:=yP HB.z fB
   replace cT:=eT cT
   replace cU:=eT cU
   refine gz (n:=16) (S:=fun w'=>w'.cell? ⟨aA,0,none⟩=some (.slice (some nZ) l0.length c0)∧w'.cell? ⟨aA,1,none⟩=some (.int .i64 0)∧w'.cell? ⟨aA,2,none⟩=some (.int .u64 asT)∧w'.cell? (nZ.add (bR).toNat)=some (.int .u8 (rd l0 bR))) (ds:=[15]) (ba 16 0) (by kernel_rfl) rfl rfl ⟨cH aa,cE aa,Sg aa,((HB.z.cell (World.block_lt_of_cell? w0 _ Vz)).trans Vz)⟩ (fun hHeld=>?_);refine hJ aq5.Oy aq5.Lm (fun ak bE=>?_)
   generalize wr.drew=w6 at aa HB ar6 fB hHeld ⊢
   refine pu 0 (some 22) (ba 16 1) ak (h:=?_)
   refine pu 1 (some 23) (ba 16 3) ak (h:=?_)
   refine pu 2 (some 24) (ba 16 7) ak (h:=?_)
   refine pu 3 (some 25) (ba 16 15) ak (h:=?_)
   refine pu 6 (some 28) (ba 16 79) ak (h:=?_)
   refine pu 7 (some 29) (ba 16 207) ak (h:=?_)
   refine pu 8 (some 30) (ba 16 463) ak (h:=?_)
   refine ta 4 (some 26) (ba 16 479) ak bE hHeld (hy:=Or.inl ⟨by rfl,by rintro w' ⟨s0,s1,s2,s3⟩;go_simp;with_reducible rfl⟩) (h:=?_)
   refine pu 5 (some 27) (ba 16 511) ak (h:=?_)
   refine ta 9 (some 31) (ba 16 1023) ak bE hHeld (hy:=Or.inl ⟨by rfl,by rintro w' ⟨s0,s1,s2,s3⟩;go_simp;with_reducible rfl⟩) (h:=?_)
   refine pu 10 (some 32) (ba 16 2047) ak (h:=?_)
   refine pu 11 (some 33) (ba 16 4095) ak (h:=?_)
   refine pu 12 (some 34) (ba 16 8191) ak (h:=?_)
   refine pu 13 (some 35) (ba 16 16383) ak (h:=?_)
   refine pu 14 (some 36) (ba 16 32767) ak (h:=?_)
   refine tD (i:=15) (N:=none) (ba 16 65535) rfl rfl (dU ak.out (by kernel_rfl)) (by decide) (fun K hK=>?_)
   have hs7:=Sg aa
   have aob:=bF aa 2
   refine oz (w1:=?_) (by rfl) rfl ?_ ?_
   rotate_left;· go_simp;rfl
   refine hK.out _ _ ?_
   clear hK K
   refine gx (gZ ak.out (by kernel_rfl)) ?_
   try go_wp2
   go_roundg k1
   case measure=>have:=aI.z;omega
   case rel=>exact ⟨(wrap64 (bR+1)),(IntKind.u64.wrap ((IntKind.u64.wrap ((IntKind.u64.wrap (asT * 1099511628211))+(IntKind.u64.wrap (rd l0 bR))))+109)),rs,H',⟨by have:=aI.z;omega⟩,⟨kZ⟩,⟨aL ar6.z⟩,⟨bl⟩⟩
/-! ### F49: function 49 -/
def dK.f (aJ:List Int) (bQ:Int) (bT:Int) (a1:Int):Option (Int × Int × Int):=if a1 < 1 then (some (0,bQ,bT)) else (if bQ < (aJ.length:Int) then (if 0≤bQ then (if a1=0 then (none) else (some (Int.tmod (wrap64 ((wrap64 (Go.bits .and .u64 ((IntKind.u64.wrap ((IntKind.u64.wrap (bT * 6364136223846793005))+1442695040888963407)) / 2147483648) 1073741823))+(wrap64 (rd aJ bQ)))) a1,wrap64 (bQ+1),IntKind.u64.wrap ((IntKind.u64.wrap (bT * 6364136223846793005))+1442695040888963407)))) else (none)) else (if a1=0 then (none) else (some (Int.tmod (wrap64 (Go.bits .and .u64 ((IntKind.u64.wrap ((IntKind.u64.wrap (bT * 6364136223846793005))+1442695040888963407)) / 2147483648) 1073741823)) a1,bQ,IntKind.u64.wrap ((IntKind.u64.wrap (bT * 6364136223846793005))+1442695040888963407)))))
theorem dK.calls (g : Nat) (aJ : List Int) (bQ : Int) (bT : Int) (a1 : Int) (r1 : Int) (r2 : Int) (r3 : Int) (w0 w : World) (hI : aj w0 w g aJ bQ bT) (hB : Below w0.heap.size w0 w) (h : dK.f aJ bQ bT a1 = some (r1, r2, r3)) :
  Calls Try.prog 49 #[.pointer (some ⟨g,0,none⟩),.int .i64 a1] w fun e w'=>e=.returned (.int .i64 r1)∧aj w0 w' g aJ r2 r3∧Below w0.heap.size w0 w'∧aqB w w' g none:=by
 have av:=k0 hI
 have HK:=k0 (aqB.refl w g none)
 have HL:=k0 hB.size
 clear hI
 have jv:=k0 hB.size
 have HB:=k0 hB
 clear hB
 unfold dK.f at h
 have H:=h
 clear h
 replace H:=iC H;obtain ⟨ia,H⟩|⟨ia,H⟩:=H
 case inl =>
  replace H:=iC H;obtain ⟨ej,H⟩|⟨ej,H⟩:=H
  case inl =>
   by_cases c8:a1=0
   case neg =>
    rw [if_neg c8] at H
    have r7:=beq_eq_false_iff_ne.mpr c8
    have wN:=bne_iff_ne.mpr c8
    simp only [Option.some.injEq,Prod.mk.injEq] at H
    obtain ⟨rfl,rfl,rfl⟩:=H
    obtain ⟨aki,amO,Bn,afU,alM⟩:=av.z
    have anX:=Sh Bn
    have anY:=Si Bn
    have anZ:=Sj Bn
    have aog:=gY Bn 1
    have aoh:=gY Bn 2
    clear Bn afU
    go_enter Try.func49,Try.ntmps49
    go_wp2
    repeat (go_quiet (fail);try go_wp2)
    go_ret
    exact ⟨eR,aqy av.z,aG (aj.ge av.z) HB.z,aK HK.z⟩
   rw [if_pos c8] at H
   exact absurd H (by simp)
  replace H:=iS H;obtain ⟨c5,H⟩:=H
  have gD:=decide_eq_true c5
  clear c5
  by_cases c6:a1=0
  case neg =>
   rw [if_neg c6] at H
   have fN:=beq_eq_false_iff_ne.mpr c6
   have lJ:=bne_iff_ne.mpr c6
   simp only [Option.some.injEq,Prod.mk.injEq] at H
   obtain ⟨rfl,rfl,rfl⟩:=H
   obtain ⟨akh,amN,Bm,afT,ZN⟩:=av.z
   have anU:=Sh Bm
   have anV:=Si Bm
   have anW:=Sj Bm
   have aoe:=gY Bm 1
   have aof:=gY Bm 2
   clear Bm afT
   obtain ⟨dY,dZ⟩:=iN bQ (aJ.length:Int)
   obtain ⟨ny,e101,lQ⟩:=Kd.bM ZN bQ dY dZ
   cases e101
   have HQ:ny.block ≠ g:=Nat.ne_of_lt (Nat.lt_of_lt_of_le (by have:=World.block_lt_of_cell? _ _ lQ;first|rwa [add_block] at this|exact this) (aj.ge av.z))
   replace lQ:=yP HB.z lQ
   replace lQ:=(cell_far (p:=⟨g,2,none⟩) (by first|(rw [add_block];exact HQ)|(show (Addr.add _ _).block ≠ _;rw [add_block];exact HQ)|exact HQ) (.int .u64 (IntKind.u64.wrap ((IntKind.u64.wrap (bT * 6364136223846793005))+1442695040888963407)))).trans lQ
   (try have aoY:=fun (n_:Nat)=>(show (((w.drewN n_).setCell ⟨g,2,none⟩ (.int .u64 (IntKind.u64.wrap ((IntKind.u64.wrap (bT * 6364136223846793005))+1442695040888963407))))).cell? _=some _ from lQ))
   clear HQ
   replace dY:=eT dY
   replace dZ:=eT dZ
   go_enter Try.func49,Try.ntmps49
   go_wp2
   repeat (go_quiet (fail);try go_wp2)
   go_ret
   exact ⟨eR,aqy av.z,aG (aj.ge av.z) HB.z,aK HK.z⟩
  rw [if_pos c6] at H
  exact absurd H (by simp)
 simp only [Option.some.injEq,Prod.mk.injEq] at H
 obtain ⟨rfl,rfl,rfl⟩:=H
 go_enter Try.func49,Try.ntmps49
 go_wp2
 go_ret
 exact ⟨eR,aqy av.z,aG (aj.ge av.z) HB.z,aK HK.z⟩
/-! ### F51: function 51 -/
def jo.f (aJ:List Int) (bQ:Int) (bT:Int) (l1:List Int):Option (Int × Int × Int):=(dK.f aJ bQ bT (l1.length:Int)).bind fun o4=>(if 0≤o4.1 then (if o4.1 < (l1.length:Int) then (some (rd l1 o4.1,o4.2.1,o4.2.2)) else (none)) else (none))
theorem jo.calls (g : Nat) (aJ : List Int) (bQ : Int) (bT : Int) (A1 : Option Addr) (c1 : Nat) (l1 : List Int) (r1 : Int) (r2 : Int) (r3 : Int) (w0 w : World) (hI : aj w0 w g aJ bQ bT) (hB : Below w0.heap.size w0 w) (arC : Kd.C (Kd.int .i64) w A1 l1.length l1) (ql : l1.length ≤ c1) (MP : ∀ ad, A1 = some ad → 0 < l1.length → ad.block ≠ g) (h : jo.f aJ bQ bT l1 = some (r1, r2, r3)) :
  Calls Try.prog 51 #[.pointer (some ⟨g,0,none⟩),.slice A1 l1.length c1] w fun e w'=>e=.returned (.int .i64 r1)∧aj w0 w' g aJ r2 r3∧Below w0.heap.size w0 w'∧aqB w w' g none:=by
 have ue:=k0 arC
 have J6:=k0 ql
 clear arC ql
 have av:=k0 hI
 have HK:=k0 (aqB.refl w g none)
 have HL:=k0 hB.size
 clear hI
 have jv:=k0 hB.size
 have HB:=k0 hB
 clear hB
 unfold jo.f at h
 have H:=h
 clear h
 replace H:=bS H;obtain ⟨⟨t101,t102,t103⟩,A3,H⟩:=H
 dsimp only at H
 replace H:=iS H;obtain ⟨c4,H⟩:=H
 have ej:=decide_eq_true c4
 clear c4
 replace H:=iS H;obtain ⟨c5,H⟩:=H
 have gD:=decide_eq_true c5
 clear c5
 simp only [Option.some.injEq,Prod.mk.injEq] at H
 obtain ⟨rfl,rfl,rfl⟩:=H
 go_enter Try.func51,Try.ntmps51
 go_wp2_with (first|(refine aqz (f:=49) rfl ?_;refine gC (some 9) Try.func49 #[.pointer (some ⟨g,0,none⟩),.int .i64 (l1.length:Int)] ?_;(with_reducible refine (dK.calls g aJ bQ bT (l1.length:Int) t101 t102 t103 w0 _ ?aq ?au A3.z).mono ?_);(case aq=>exact aqy av.z);(case au=>exact aG (aj.ge av.z) HB.z);rintro e w6 ⟨rfl,hi,hb,hk⟩;refine ⟨_,rfl,?_⟩;replace HK:=k0 (aqB.trans (aK HK.z) hk (.inl rfl));replace HB:=k0 (hb);replace av:=k0 (hi);obtain ⟨dm,aqT⟩:=iN t101 (l1.length:Int);obtain ⟨jw,e104,dz⟩:=Kd.bM ue.z t101 dm aqT;cases e104;replace dz:=agL HK.z dz (by first|(rw [add_block];exact MP _ rfl (by omega))|exact MP _ rfl (by omega)|exact MP jw rfl (by omega));replace dm:=eT dm;replace aqT:=eT aqT))
 go_ret
 exact ⟨eR,aqy av.z,aG (aj.ge av.z) HB.z,aK HK.z⟩
/-! ### F105: function 105 -/
def nQ.f (l0:List Int):Option (List Int):=(some (([]:List Int):List Int)).bind fun mq=>(if mq.length+l0.length < 17592186044416 then (some (mq ++ l0)) else (none))
theorem nQ.calls (A0 : Option Addr) (c0 : Nat) (l0 : List Int) (r : List Int) (w : World) (bZ : Kd.C (Kd.int .i64) w A0 l0.length l0) (hc0 : l0.length ≤ c0) (h : nQ.f l0 = some r) :
  Calls Try.prog 105 #[.slice A0 l0.length c0] w fun e w'=>∃ cR:Value,e=.returned (cR)∧Kd.R (Kd.int .i64) 2 w' w.heap.size (fun _=>True) cR r∧Below w.heap.size w w':=by
 have cP:=k0 bZ
 have fq:=k0 hc0
 clear bZ hc0
 have HB:=k0 (Below.refl w.heap.size w)
 unfold nQ.f at h
 have H:=h
 clear h
 obtain ⟨mq,kQ⟩:=nY (([]:List Int):List Int)
 replace H:(if mq.length+l0.length < 17592186044416 then (some (mq ++ l0)) else (none))=some r:=rH kQ.z H
 replace H:=iS H;obtain ⟨c2,H⟩:=H
 have KK:=k0 c2
 clear c2
 obtain ⟨kI,jW⟩:=nY (mq ++ l0:List Int)
 replace H:(some kI)=some r:=rH jW.z H
 obtain rfl:=Option.some.inj H
 go_enter Try.func105,Try.ntmps105
 go_wp2_with (first|(refine aqI (N:=3) rfl ?_;refine Kd.gw (Kd.int .i64) _ 2 ?hg (N:=3) ?hd (xs:=([]:List Int)) (inner:=[]) (ok:=fun _=>True) (bw:=fun _=>True) ?hr ?hp (fun _ hk=>hk) trivial (Below.refl _ _) (Nat.le_refl _) (by simp) ?_;(case hd=>rfl);(case hg=>rfl);(case hr=>first|(go_simp;done)|(go_simp;rfl));(case hp=>exact (aH.none _ _));intro tM w3 mO hb bH bI;clear bH bI;(first|rw [← kQ.z] at mO|(simp only [Int.reduceToNat] at mO;rw [← kQ.z] at mO));have mC:=k0 (Kd.cA mO (aqG bl));replace HB:=bW hb;clear hb mO)|((with_reducible refine ars (b:=.append) (xs:=#[.tmp 3,.tmp 4]) rfl ?_);at_builtin;refine Kd.Q5 (Kd.int .i64) (w0:=w) w.heap.size rfl (.tmp 3) (.tmp 4) 29 2 (.int .i64 0) 8 rfl Try.underlying29 lS rfl (by decide) (by omega) tM mq l0 _ _ _ (fun _=>True) (fun _=>False) rfl rfl ?aO ?aR (fun _ _ h=>h) (fun _ h=>h.elim) ?aF ?aB ?aS ?aL ?_;(case aR=>repeat (first|exact (Kd.aqN cP.z HB.z)|(with_reducible refine Kd.fP ?_ _)|(with_reducible refine Kd.fQ ?_ _)|(with_reducible refine Kd.fk ?_)));(case aB=>exact bl);(case aF=>exact (fun _ _=>trivial));(case aO=>exact (aR mC.z));(case aS=>exact (aqG bl));(case aL=>have:=KK.out;omega);intro wj w5 ho hb hg bg;rw [← jW.z] at ho;replace HB:=k0 (hb);have fF:=k0 (ho);clear mC;clear ho hb hg bg))
 go_ret
 exact ⟨_,eR,aR fF.z,bl⟩
/-! ### F126: function 126 -/
def ir.l0 : Nat → Int → Int → List (List Int) → Int → List (List Int) → Option (Int × (List (List Int)))
 | 0,_,_,_,_,_=>none
 | k+1,x4,dx,cF,Xm,OZ=>if x4 < (cF.length:Int) then (if 0≤x4 then ((nQ.f (ah cF x4)).bind fun t108=>(if OZ.length < 5864062014805 then (ir.l0 k (wrap64 (x4+1)) dx cF Xm (OZ ++ [t108])) else (none))) else (none)) else (some (Xm,OZ))
def ir.f (k:Nat) (ag:Int) (af:List (List Int)):Option (Int × (List (List Int))):=ir.l0 k 0 ag af ag (([]:List (List Int)))
def ir.T5:Bool × List (List Nat × List Nat):=(true,[([],[]),([0],[0]),([],[]),([2],[2]),([],[]),([3,4],[3,4]),([5],[5]),([6],[6]),([7],[7]),([1,8,7],[1,8]),([0,1,2,3,4,5,6,7,8,9],[]),([10,9,9,0,1,2,3,4,5,6,7,8,9],[9,10])])
def ir.B5:List Nat:=[0,1,0,4,0,28,60,124,252,511,1023,2047]
theorem ir.Oy:eH .any (opsOf Try.f126 5)=ir.T5:=by kernel_rfl
theorem ir.Lm:iL ir.T5.2 ir.B5=true:=by kernel_rfl
theorem ir.calls (k : Nat) (ag : Int) (az : Option Addr) (ay : Nat) (af : List (List Int)) (r1 : Int) (r2 : List (List Int)) (w : World) (aqO : Kd.C (Kd.slice 2 (Kd.int .i64)) w az af.length af) (bG : af.length ≤ ay) (h : ir.f k ag af = some (r1, r2)) :
  Calls Try.prog 126 #[.agg #[.int .i64 ag,.slice az af.length ay]] w fun e w'=>∃ fK:Value,e=.returned (.agg #[.int .i64 r1,fK])∧Kd.S (Kd.slice 2 (Kd.int .i64)) 29 w' w.heap.size (fun _=>True) fK r2∧Below w.heap.size w w':=by
 have eE:=Try.underlying26
 have aW:=k0 aqO
 have bh:=k0 bG
 clear aqO bG
 have HB:=k0 (Below.refl w.heap.size w)
 unfold ir.f at h
 have H:=h
 clear h
 obtain ⟨oG,nu⟩:=nY (([]:List (List Int)):List (List Int))
 replace H:(ir.l0 k 0 ag af ag oG)=some (r1,r2):=rH nu.z H
 have H':=k0 H
 clear H
 go_enter Try.func126,Try.ntmps126
 go_wp2_with (first|(refine aqI (N:=1) rfl ?_;refine cz 1 #[.int .i64 ag,.slice az af.length ay] 26 bl ?_;intro aA w2 aa aqF HB;have aqR:=aqF)|(refine aqI (N:=2) rfl ?_;refine fu 2 #[.int .i64 0,.slice none 0 0] 26 ?_;intro dG hg w3 bq hb;have bL:=k0 (bq);have ni:=gW hg (aqG bl);have vI:=ni;replace HB:=bW hb;have gL:=nL hg aa;have wG:=nG gL;replace aa:=kB aa hb;clear hb bq hg;obtain ⟨_,_⟩:=nE gL;obtain ⟨_,_,_,_⟩:=aqA aa)|(refine aqI (N:=7) rfl ?_;refine Kd.zP (Kd.slice 2 (Kd.int .i64)) _ 29 ?hg (N:=7) ?hd (xs:=([]:List (List Int))) (inner:=[]) (ok:=fun _=>True) (bw:=fun _=>True) ?hr ?hp (fun _ hk=>hk) trivial (Below.refl _ _) (Nat.le_refl _) (by simp) ?_;(case hd=>rfl);(case hg=>rfl);(case hr=>first|(go_simp;done)|(go_simp;rfl));(case hp=>exact (aH.none _ _));intro mT w6 kY hb bH bI;clear bH bI;(first|rw [← nu.z] at kY|(simp only [Int.reduceToNat] at kY;rw [← nu.z] at kY));have b8:=k0 (Kd.fT kY (aqG bl));replace aa:=kB aa hb;replace bL:=kB bL hb;replace HB:=bW hb;clear hb kY;obtain ⟨wu,wP,rfl⟩:=Kd.dL b8.z)|(refine aqI (N:=3) rfl ?_;refine fu 3 #[.int .i64 0,.slice none 0 0] 26 ?_;intro Cf hg w9 bq hb;replace b8:=iG b8 hb;have arA:=k0 (bq);have Y4:=gW hg (aqG bl);have akP:=Y4;replace HB:=bW hb;have GM:=nL hg aa;replace aa:=kB aa hb;have QD:=nG GM;have QC:=nL hg bL;replace bL:=kB bL hb;have KP:=nG QC;clear hb bq hg;obtain ⟨_,_⟩:=nE QD;obtain ⟨_,_⟩:=nE KP;obtain ⟨_,_,_,_⟩:=aqA arA))
 go_loopg [4] k (fun kq v4 w'=>∃ (bR:Int) (asU:List (List Int)) (u107001:Value),v4=.int .i64 bR∧ai (ir.l0 kq bR ag af ag asU=some (r1,r2))∧ai (kq≤k)∧ai (Kd.S (Kd.slice 2 (Kd.int .i64)) 29 w' w.heap.size (fun _=>True) u107001 asU)∧ai (w'.heap[aA]?=some (sO ag az af ay 26))∧ai (w'.heap[dG]?=some (.cells #[.int .i64 0,(.slice none 0 0)] 26 (0,0)))∧ai (w'.heap[Cf]?=some (.cells #[.int .i64 ag,u107001] 26 (0,0)))∧ai (Below w.heap.size w w'))
 case atStart=>exact ⟨(0),(oG),(.slice wu oG.length wP),rs,H',⟨Nat.le_refl _⟩,⟨aS (Kd.b6 (gS 1 (.slice wu oG.length wP) (gS 0 (.int .i64 ag) (tS b8 arA))) (fun _ hk=>trivial))⟩,⟨kZ⟩,⟨kZ⟩,⟨kZ⟩,⟨bl⟩⟩
 case round =>
  clear H'
  obtain ⟨bR,asU,u107001,rfl,HA,aI,ru,aa,bL,arA,HB⟩:=hrel
  cases gk with
  | zero=>exact absurd HA.z (by simp [ir.l0])
  | succ k1 =>
   have H:=HA.z
   clear HA
   simp only [ir.l0] at H
   replace H:=iC H;obtain ⟨arT,H⟩|⟨arT,H⟩:=H
   case inl =>
    simp only [Option.some.injEq,Prod.mk.injEq] at H
    obtain ⟨rfl,rfl⟩:=H
    obtain ⟨_,_⟩:=nE gL
    obtain ⟨_,_⟩:=nE GM
    obtain ⟨_,_,_,_⟩:=aqA aa
    obtain ⟨_,_⟩:=nE KP
    obtain ⟨_,_,_,_⟩:=aqA arA
    obtain ⟨_,_,_,_⟩:=aqA bL
    obtain ⟨JT,LV,rfl⟩:=Kd.dL ru.z
    go_wp2
    refine bodyPost_ret (results_cell_row rfl _ _ dG 26 #[.int .i64 ag,.slice JT asU.length LV] (0,0) _ rfl kZ Try.underlying26 rfl (by kernel_rfl)) rfl ?_
    exact ⟨_,eR,aS (Kd.b6 (gS 1 (.slice JT asU.length LV) (gS 0 (.int .i64 ag) (tS ru bL))) (fun _ hk=>trivial)),bl⟩
   replace H:=iS H;obtain ⟨c14,H⟩:=H
   have mH:=decide_eq_true c14
   clear c14
   replace H:=bS H;obtain ⟨t108,Gk,H⟩:=H
   replace H:=iS H;obtain ⟨c16,H⟩:=H
   have wE:=k0 c16
   clear c16
   obtain ⟨zh,Dx⟩:=nY (asU ++ [t108]:List (List Int))
   replace H:(ir.l0 k1 (wrap64 (bR+1)) ag af ag zh)=some (r1,r2):=rH Dx.z H
   have H':=k0 H
   clear H
   obtain ⟨_,_⟩:=nE gL
   obtain ⟨_,_⟩:=nE GM
   obtain ⟨_,_,_,_⟩:=aqA aa
   try go_wp2
   replace ru:=k0 (Kd.gf ru.z);replace aa:=k0 (cJ aa.z);replace bL:=k0 (cJ bL.z);replace arA:=k0 (cJ arA.z);replace HB:=k0 (aqW HB.z)
   obtain ⟨arI,lg⟩:=iN bR (af.length:Int)
   obtain ⟨rB,C1,DN,e107,mP,uM,uG⟩:=cD aW.z bR arI lg
   have Fv:=mP
   cases e107
   replace mP:=hbc HB mP
   have xK:=k0 uG
   have Gw:=k0 uM
   clear uG uM
   replace arI:=eT arI
   replace lg:=eT lg
   refine gz (n:=12) (S:=fun w'=>w'.cell? ⟨Cf,0,none⟩=some (.int .i64 ag)∧w'.cell? ⟨Cf,1,none⟩=some (u107001)∧w'.cell? ⟨aA,0,none⟩=some (.int .i64 ag)∧w'.cell? ⟨aA,1,none⟩=some (.slice (some rB) af.length ay)∧w'.cell? (rB.add (bR).toNat)=some (.slice C1 (ah af bR).length DN)) (ds:=[11]) (ba 12 0) (by kernel_rfl) rfl rfl ⟨cH arA,cE arA,cH aa,cE aa,(hbc HB Fv)⟩ (fun hHeld=>?_);refine hJ ir.Oy ir.Lm (fun ak bE=>?_)
   generalize wr.drew=wm at ru aa bL arA HB xK mP hHeld ⊢
   refine pu 0 (some 16) (ba 12 1) ak (h:=?_)
   refine pu 2 (some 18) (ba 12 5) ak (h:=?_)
   refine pu 4 (some 20) (ba 12 21) ak (h:=?_)
   refine ta 1 (some 17) (ba 12 23) ak bE hHeld (hy:=Or.inl ⟨by rfl,by rintro w' ⟨s0,s1,s2,s3,s4⟩;go_simp;with_reducible rfl⟩) (h:=?_)
   refine ta 3 (some 19) (ba 12 31) ak bE hHeld (hy:=Or.inl ⟨by rfl,by rintro w' ⟨s0,s1,s2,s3,s4⟩;go_simp;with_reducible rfl⟩) (h:=?_)
   refine pu 5 (some 21) (ba 12 63) ak (h:=?_)
   refine ta 6 (some 22) (ba 12 127) ak bE hHeld (hy:=Or.inl ⟨by rfl,by rintro w' ⟨s0,s1,s2,s3,s4⟩;go_simp;with_reducible rfl⟩) (h:=?_)
   refine eG (i:=7) (N:=some 23) (ba 12 255) rfl rfl (dU ak.out (by kernel_rfl)) (by decide) (fun K hK=>?_)
   refine iy Try.func105 (by kernel_rfl) rfl #[.slice C1 (ah af bR).length DN] (by rfl) rfl rfl gm ?_
   with_reducible refine (nQ.calls _ _ (ah af bR) t108 _ ?aq ?au Gk.z).mono ?_
   (case aq=>exact aC (Kd.aqN xK.z HB.z))
   (case au=>exact Gw.z)
   rintro e vw ⟨ar1,rfl,aD,hb⟩
   refine ⟨_,rfl,?_⟩
   replace ru:=iw ru (Kd.cm aD) hb;have kN:=k0 (Kd.cA aD (aqG bl));replace aa:=kB aa hb;replace bL:=kB bL hb;replace arA:=kB arA hb;replace HB:=bW hb
   obtain ⟨Gq,Hr,Ee⟩:=Kd.cy kN.z
   (first|subst Ee|(injection Ee with gh jY fU;have jZ:=gh.symm;have arq:=fU.symm;clear gh jY fU;subst jZ;subst arq))
   refine hK.out _ _ ⟨cH arA,cE arA,cH aa,cE aa,(hbc HB Fv)⟩ (fun hHeld=>?_)
   clear hK K
   refine eV (a':=?_) ?_ ?_
   rotate_left;· show Act.put _ (some 23) _=_;simp only [Act.put,zI,zZ,zS,bJ,ck];rfl
   refine eG (i:=8) (N:=some 24) (ba 12 511) rfl rfl (dU ak.out (by kernel_rfl)) (by decide) (fun K hK=>?_)
   refine F4 (w1:=?_) (v:=?_) (by rfl) rfl ?_ ?_
   rotate_left 2
   ·go_simp
    constructor
    ·rfl
    ·rfl
   refine hK.out _ _ ⟨(fI (iW arA.z _) 0).trans rfl,(fI (iW arA.z _) 1).trans rfl,(fI (iW aa.z _) 0).trans rfl,(fI (iW aa.z _) 1).trans rfl,(World.cell?_alloc_lt _ _ _ (World.block_lt_of_cell? _ _ ((hbc HB Fv)))).trans ((hbc HB Fv))⟩ (fun hHeld=>?_)
   clear hK K
   refine eV (a':=?_) ?_ ?_
   rotate_left;· show Act.put _ (some 24) _=_;simp only [Act.put,zI,zZ,zS,bJ,ck];rfl
   refine eG (i:=9) (N:=some 25) (ba 12 1023) rfl rfl (dU ak.out (by kernel_rfl)) (by decide) (fun K hK=>?_)
   refine Kd.Rb (Kd.slice 2 (Kd.int .i64)) (w0:=w) w.heap.size (by rfl) (.tmp 17) (.tmp 24) 24 29 (.slice none 0 0) 24 rfl Try.underlying24 o_ rfl (by decide) (by omega) u107001 asU t108 [.slice Gq t108.length Hr] (fun _=>True) (fun k_=>some k_=(.slice Gq t108.length Hr:Value).ownBlock) rfl rfl ?aP (fun k_ aqJ=>((Kd.aqM (ok':=fun k_=>((fun _=>True)) k_∧some k_ ≠ (u107001:Value).ownBlock) (Kd.aq' (kN.z) (Kd.fH ru.z) (by decide)) (fun k_ hk=>⟨trivial,hk.2⟩))).1 k_ aqJ.symm) ?aF ?aO ?aB ?aS ?aL ?_
   (case aP=>exact Kd.lD (Kd.aqM (Kd.oV rfl (Kd.aqM (ok':=fun k_=>((fun _=>True)) k_∧some k_ ≠ (u107001:Value).ownBlock) (Kd.aq' (kN.z) (Kd.fH ru.z) (by decide)) (fun k_ hk=>⟨trivial,hk.2⟩))) (fun _ h_=>h_)))
   (case aB=>exact bl)
   (case aF=>exact (fun _ _=>trivial))
   (case aO=>exact (aS (Kd.b6 ru.z (fun k_ hk=>⟨trivial,fun e_=>hk.2 e_⟩))))
   (case aS=>exact (aqG bl))
   (case aL=>have:=wE.out;omega)
   intro ape nN ho hb hg bg
   rw [← Dx.z] at ho
   replace aa:=k0 (aq2 (aB aa.z) hg (Kd.arl ru.z aa.z (by decide)));replace bL:=k0 (aq2 (aB bL.z) hg (Kd.arl ru.z bL.z (by decide)));replace arA:=k0 (aq2 (aB arA.z) hg (Kd.arl ru.z arA.z (by decide)));replace HB:=k0 (hb);have P7:=k0 (ho);clear ru kN
   clear ho hb hg bg
   obtain ⟨Pm,uw,Ef⟩:=Kd.dL P7.z
   (first|subst Ef|(injection Ef with gh jY fU;have jZ:=gh.symm;have arq:=fU.symm;clear gh jY fU;subst jZ;subst arq))
   refine hK.out _ _ ⟨cH arA,cE arA,cH aa,cE aa,(hbc HB Fv)⟩ (fun hHeld=>?_)
   clear hK K
   refine eV (a':=?_) ?_ ?_
   rotate_left;· show Act.put _ (some 25) _=_;simp only [Act.put,zI,zZ,zS,bJ,ck];rfl
   refine pu 10 (some 26) (ba 12 2047) ak (h:=?_)
   refine tD (i:=11) (N:=none) (ba 12 4095) rfl rfl (dU ak.out (by kernel_rfl)) (by decide) (fun K hK=>?_)
   have aoL:=cE arA
   have an9:=bF arA 1
   have aoF:=GM.z
   have afZ:=QC.z
   have aoy:=QD.z
   have afY:=KP.z
   refine oz (w1:=?_) (by rfl) rfl ?_ ?_
   rotate_left;· go_simp;rfl
   refine hK.out _ _ ?_
   clear hK K
   refine gx (gZ ak.out (by kernel_rfl)) ?_
   try go_wp2
   go_roundg k1
   case measure=>have:=aI.z;omega
   case rel=>exact ⟨(wrap64 (bR+1)),(zh),(.slice Pm zh.length uw),rs,H',⟨by have:=aI.z;omega⟩,⟨aS (Kd.b6 (gS 1 (.slice Pm zh.length uw) (tS P7 arA)) (fun _ hk=>trivial))⟩,⟨kZ⟩,⟨kZ⟩,⟨kZ⟩,⟨bl⟩⟩
end Go.Proofs.Ytapnggjaeehpdaa.A
/- Set with little white space, by a program. -/
