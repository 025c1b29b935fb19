/- Go's calls come to what the Lean functions say. Condition of each: that the Lean function answers. -/
import Derived.Test.YtapnggjaeehpdaaBx0
import Derived.Test.YtapnggjaeehpdaaBx3
import Derived.Test.YtapnggjaeehpdaaBx4
import Derived.Test.YtapnggjaeehpdaaBx13
import Derived.Test.YtapnggjaeehpdaaBx18
namespace Go.Proofs.Ytapnggjaeehpdaa.B
open Go.RowKit Go.Proofs.bz.dI Go.Proofs.bz.iY Go.Proofs.bz.jn
attribute [local go_sem] max2_int min2_int max_two min_two max_three min_three max_four min_four
set_option linter.unusedVariables false
set_option linter.unusedSimpArgs false
set_option maxHeartbeats 8000000
set_option maxRecDepth 100000
/-! ### F91: function 91 -/
theorem mul_one (n:Nat) (hn:n < 4294967296) (w:World):Calls Try.prog 124 #[.int .u64 1,.int .u64 n] w fun e w'=>e=.returned (.tuple #[.int .u64 0,.int .u64 n])∧w'=w:=by
 have m1:bits .and .u64 (1:Int) 4294967295=1:=by rfl
 have m2:=Mul64.maskN n (by omega)
 rw [Nat.mod_eq_of_lt hn] at m2
 have m3:(1:Int) / 4294967296=0:=by decide
 have m4:(n:Int) / 4294967296=0:=by omega
 have m5:=Mul64.wrapN n (by omega)
 have m6:bits .and .u64 (0:Int) 4294967295=0:=by rfl
 have m7:IntKind.u64.wrap 0=0:=by rfl
 go_enter Try.func124,Try.ntmps124
 go_wp2
 go_ret2
 exact ⟨rfl,rfl⟩
def zq (x:Int) (n m g:Nat) (wr:World):Prop:=∃ cur:Array Value,wr.heap[g]?=some (.cells cur 2 (0,0))∧cur.size=n∧cur.toList.take m=List.replicate m (.int .i64 x)
theorem Lg {x:Int} {n m g:Nat} {wr:World} (h:zq x n m g wr):zq x n m g wr.drew:=h
theorem Ig {x:Int} {n m g:Nat} {wr:World} (h:zq x n m g wr) (j:Nat) (hj:j < n):(wr.cell? ⟨g,j,none⟩).isSome=true∧wr.frozen? ⟨g,j,none⟩=false∧(j < m→wr.cell? ⟨g,j,none⟩=some (.int .i64 x)):=by
 obtain ⟨cur,h1,h2,h3⟩:=h
 refine ⟨?_,fA h1 j,fun hm=>?_⟩
 ·rw [dY h1 j,Array.getElem?_eq_getElem (by omega)];rfl
 ·rw [dY h1 j]
  have h4:(cur.toList.take m)[j]?=some (.int .i64 x):=by rw [h3,List.getElem?_replicate,if_pos hm]
  rw [List.getElem?_take,if_pos hm] at h4
  simpa using h4
theorem Y9 {x:Int} {n m g k:Nat} {wr:World} (h:zq x n m g wr) (hk:m+k≤n):zq x n (m+k) g (wr.setCells g m (List.replicate k (.int .i64 x))):=by
 obtain ⟨cur,h1,h2,h3⟩:=h
 obtain ⟨cur',h4,h5,h6⟩:=Q9 (List.replicate k (.int .i64 x)) m wr cur h1 (by rw [List.length_replicate];omega)
 refine ⟨cur',h4,by omega,?_⟩
 rw [h6,h3,List.length_replicate,List.append_assoc,List.take_append,List.length_replicate,List.take_of_length_le (by rw [List.length_replicate];omega),List.take_append,List.length_replicate,List.take_of_length_le (by rw [List.length_replicate];omega)]
 rw [show m+k - m - k=0 by omega,List.take_zero,List.append_nil,List.replicate_append_replicate]
theorem NJ {g : Nat} {w0 : World} (hg : w0.heap.size ≤ g) : ∀ (vs : List Value) (o : Nat) (w : World), Below w0.heap.size w0 w → Below w0.heap.size w0 (w.setCells g o vs)
 | [],_,_,h=>h
 | v :: r,o,w,h=>NJ hg r (o+1) _ (o9 h hg)
theorem aj2 (x : Int) (n : Nat) (hn : n ≤ 1048576) (A : Option Addr) (c : Nat) (w : World) (hr : Kd.C (Kd.int .i64) w A 1 [x]) :
  Calls Try.prog 91 #[.slice A 1 c,.int .i64 n] w fun e w'=>∃ v,e=.returned v∧Kd.R (Kd.int .i64) 2 w' w.heap.size (fun _=>True) v (List.replicate n x)∧Below w.heap.size w w':=by
 obtain ⟨ad,e,hcell⟩:=Kd.bK hr 0 (by omega) (by simp)
 cases e
 obtain ⟨kf,Py⟩:∃ kf,kf=Nat.min 1 n:=⟨_,rfl⟩
 have h1:kf≤n∧kf≤1∧(n=0∨1≤kf):=by rw [Py];simp only [Nat.min_def];split<;>omega
 have hmul:=fun w=>mul_one n (by omega) w
 have HM:=k0 hmul
 clear hmul
 have hmk:=ajL (P:=Try.prog) 29 2 .i64 8 Try.underlying29 ju (by decide) n (by omega)
 have hneg:decide ((n:Int) < 0)=false:=decide_eq_false (by omega)
 have aqo:decide ((n:Int) > 9223372036854775807)=false:=decide_eq_false (by omega)
 have w1:=Mul64.wrapN n (by omega)
 obtain ⟨W0,GR⟩:∃ W0,W0=w.alloc (.cells (madeCells #[.int .i64 0] n) 2):=⟨_,rfl⟩
 have V_:W0.heap[w.heap.size]?=some (.cells (madeCells #[.int .i64 0] n) 2 (0,0)):=by rw [GR];exact heap_alloc_new w _
 have bX:zq x n 0 w.heap.size W0:=⟨_,V_,size_madeCells _ _,by simp⟩
 have OU:Below w.heap.size w W0:=by rw [GR];exact eH (Below.refl _ _) _
 have hsz:(Try.prog.info? 2).map (·.size)=some 1:=by
  obtain ⟨i0,ED,_,hs,_⟩:=info_parts ju
  rw [ED];simp [hs]
 have hsrc:W0.cell? ad=some (.int .i64 x):=by
  have h0:ad.add (0:Int).toNat=ad:=by cases ad;simp [Addr.add]
  have h:=(OU.cell (World.block_lt_of_cell? w _ hcell)).trans hcell
  rw [h0] at h
  exact h
 have Pd:∀ ty,(Builtin.copy_ #[29,29] ty #[.slice (some ⟨w.heap.size,0,none⟩) n n,.slice (some ad) 1 c]).run Try.prog W0=.ok (goInt kf) (W0.setCells w.heap.size 0 (List.replicate kf (.int .i64 x))):=fun ty=>by
  have h := run_copy_cells (P := Try.prog) W0 29 29 ty 2 w.heap.size 0 n n ad 1 c (List.replicate kf (.int .i64 x)) Try.underlying29 hsz (by rw [List.length_replicate]; exact Py)
   (fun j v hj=>by
    have hj2:j < kf:=by have:=(List.getElem?_eq_some_iff.1 hj).1;simpa using this
    rw [List.getElem?_replicate,if_pos hj2] at hj
    injection hj with hj
    obtain rfl:j=0:=by omega
    rw [← hj]
    simpa [Addr.add] using hsrc) (fun j hj=>by rw [Nat.zero_add];exact (Ig bX j (by rw [List.length_replicate] at hj;omega)).1) (fun j hj=>by rw [Nat.zero_add];exact (Ig bX j (by rw [List.length_replicate] at hj;omega)).2.1) (fun v hv=>by rw [List.eq_of_mem_replicate hv];rfl)
  rwa [List.length_replicate] at h
 have iM:=k0 (show zq x n kf w.heap.size _ from by have h:=Y9 (k:=kf) bX (by omega);rwa [Nat.zero_add] at h)
 have dw:=k0 (NJ (g:=w.heap.size) (Nat.le_refl _) (List.replicate kf (.int .i64 x)) 0 W0 OU)
 rw [GR] at Pd
 rw [GR] at iM dw
 clear GR V_ bX OU hsrc W0
 have S6:=k0 hsz
 have gG:=k0 Pd
 clear hsz Pd Py
 go_enter Try.func91,Try.ntmps91
 go_wp2_with (first|(go_at_call 124;refine (HM.out _).mono ?_;rintro e w_ ⟨rfl,h_⟩;rw [h_];clear h_ w_)|(at_builtin;refine wpList_copy_runI _ rfl _ _ 29 29 rfl _ _ rfl rfl (gG.z _) ?_)|(simp only [gG.z];done)|(rw [gG.z]))
 generalize O3:(w.alloc (Obj.cells (madeCells #[Value.int IntKind.i64 0] n) 2)).setCells w.heap.size 0 (List.replicate kf (Value.int IntKind.i64 x))=W1
 have VZ:zq x n kf w.heap.size W1:=by rw [← O3];exact iM.z
 have VW:Below w.heap.size w W1:=by rw [← O3];exact dw.z
 clear iM dw gG O3 HM hmk
 have iM:=k0 VZ
 have dw:=k0 VW
 clear VZ VW
 go_loopw [8] (fun v wr=>∃ m:Nat,(n=0∨1≤m)∧m≤n∧v=.int .i64 m∧af (zq x n m w.heap.size wr)∧af (Below w.heap.size w wr)) (fun v _=>n - (intOf v).toNat)
 case atStart=>exact ⟨kf,h1.2.2,h1.1,rfl,iM,dw⟩
 case round =>
  obtain ⟨m,pH,hmn,rfl,HR,HB⟩:=hrel
  by_cases hlt:m < n
  case neg =>
   have hnm:m=n:=by omega
   subst hnm
   have hb:decide ((m:Int) < (m:Int))=false:=decide_eq_false (by omega)
   go_wp2
   go_ret
   obtain ⟨cur,e1,e2,e3⟩:=HR.z
   refine ⟨_,rfl,Kd.TF ⟨?_,.inr ⟨w.heap.size,m,cur,?_,Nat.le_refl _,e1,?_,?_,?_,?_⟩⟩ (fun _ _=>trivial),HB.z⟩
   ·simp [mH]
   ·simp
   ·rw [List.length_replicate];exact Nat.le_refl _
   ·unfold maxLen;omega
   ·omega
   ·rw [List.length_replicate,Nat.mul_one,e3];simp [mH]
  have hb:decide ((m:Int) < (n:Int))=true:=decide_eq_true (by omega)
  replace pH:1≤m:=by omega
  have rG:(0:Int)≤(m:Int):=by omega
  have AR:(m:Int)≤(n:Int):=by omega
  have PE:¬ (n=m):=by omega
  have hq4:m≤n:=hmn
  obtain ⟨k,hk⟩:∃ k,k=Nat.min m (n - m):=⟨_,rfl⟩
  have Kh:1≤k∧m+k≤n:=by rw [hk];simp only [Nat.min_def];split<;>omega
  have hkm:k≤m:=by rw [hk];simp only [Nat.min_def];split<;>omega
  have WC:∀ ty,(Builtin.copy_ #[29,29] ty #[.slice (some ⟨w.heap.size,m,none⟩) (n - m) (n - m),.slice (some ⟨w.heap.size,0,none⟩) m n]).run Try.prog wr.drew=.ok (goInt k) (wr.drew.setCells w.heap.size m (List.replicate k (.int .i64 x))):=fun ty=>by
   have h := run_copy_cells (P := Try.prog) wr.drew 29 29 ty 2 w.heap.size m (n - m) (n - m) ⟨w.heap.size, 0, none⟩ m n (List.replicate k (.int .i64 x)) Try.underlying29 S6.out (by rw [List.length_replicate]; exact hk)
    (fun j v hj=>by
     have hj2:j < k:=by have:=(List.getElem?_eq_some_iff.1 hj).1;simpa using this
     rw [List.getElem?_replicate,if_pos hj2] at hj
     injection hj with hj
     rw [← hj]
     have h5:=(Ig (Lg HR.z) j (by omega)).2.2 (by omega)
     rw [Addr.add_lit,Nat.zero_add]
     exact h5)
    (fun j hj=>(Ig (Lg HR.z) (m+j) (by rw [List.length_replicate] at hj;omega)).1)
    (fun j hj=>(Ig (Lg HR.z) (m+j) (by rw [List.length_replicate] at hj;omega)).2.1)
    (fun v hv=>by rw [List.eq_of_mem_replicate hv];rfl)
   rwa [List.length_replicate] at h
  have HC:=k0 WC
  have iX:=k0 (Y9 (k:=k) (Lg HR.z) Kh.2)
  have dF:=k0 (NJ (g:=w.heap.size) (Nat.le_refl _) (List.replicate k (.int .i64 x)) m wr.drew (yT HB.z))
  have hw1:IntKind.i64.wrap ((m:Int)+(k:Int))=((m+k:Nat):Int):=by rw [IntKind.wrap_i64];omega
  clear WC hk hlt HR HB iM dw S6
  have mixed:Try.prog.follows Departure.mixedOrders=true:=by kernel_rfl
  go_wp2
  go_region_law_o (refine step_copy_runI rfl _ _ 29 29 rfl _ _ (by simp [Act.eval,Act.put]) (by simp [Act.eval,Act.put]) (HC.z _) ?_)
  go_wp2
  go_simp
  go_roundw
  case rel=>exact ⟨m+k,by omega,Kh.2,by omega,iX⟩
  case measure=>simp [intOf];omega
def BL.f (l0:List Int) (a1:Int):Option (List Int):=if l0.length=1∧0≤a1∧a1≤1048576 then some (List.replicate a1.toNat (rd l0 0)) else none
theorem BL.calls (A0 : Option Addr) (c0 : Nat) (l0 : List Int) (a1 : Int) (r : List Int) (w : World) (bX : Kd.C (Kd.int .i64) w A0 l0.length l0) (hc0 : l0.length ≤ c0) (h : BL.f l0 a1 = some r) :
  Calls Try.prog 91 #[.slice A0 l0.length c0,.int .i64 a1] w fun e w'=>∃ ati:Value,e=.returned (ati)∧Kd.R (Kd.int .i64) 2 w' w.heap.size (fun _=>True) ati r∧Below w.heap.size w w':=by
 unfold BL.f at h
 by_cases c2:l0.length=1∧0≤a1∧a1≤1048576
 case neg =>
  rw [if_neg c2] at h
  exact absurd h (by simp)
 rw [if_pos c2] at h
 obtain rfl:=Option.some.inj h
 obtain ⟨x,rfl⟩:=List.length_eq_one_iff.1 c2.1
 obtain ⟨n,rfl⟩:∃ n:Nat,a1=n:=⟨a1.toNat,by omega⟩
 exact aj2 x n (by omega) A0 c0 w bX
/-! ### F39: function 39 -/
def BG.f (k:Nat) (a0:Int) (aE:Int) (az:List (List Int)) (a2:Int):Option (List Int × Int):=(zX.f k a0 aE az a2).bind fun t102=>(if t102=0 then ((BL.f (([a2]:List Int)) (wrap64 (2 * (az.length:Int)))).bind fun t106=>(some (t106,0))) else (some (([]:List Int),t102)))
theorem BG.calls (k : Nat) (a0 : Int) (aE : Int) (atb : Option Addr) (atc : Nat) (az : List (List Int)) (a2 : Int) (r1 : List Int) (r2 : Int) (w : World) (iB : Kd.C (Kd.slice 2 (Kd.int .i64)) w atb az.length az) (iz : az.length ≤ atc) (h : BG.f k a0 aE az a2 = some (r1, r2)) :
  Calls Try.prog 39 #[.int .i64 a0,.agg #[.int .i64 aE,.slice atb az.length atc],.int .i64 a2] w fun e w'=>∃ ati:Value,e=.returned (.tuple #[ati,.int .i64 r2])∧Kd.R (Kd.int .i64) 2 w' w.heap.size (fun _=>True) ati r1∧Below w.heap.size w w':=by
 have gV:=Try.underlying26
 have ep:=k0 iB
 have eo:=k0 iz
 clear iB iz
 have HB:=k0 (Below.refl w.heap.size w)
 unfold BG.f at h
 have H:=h
 clear h
 replace H:=bS H;obtain ⟨t102,A4,H⟩:=H
 replace H:=iE H;obtain ⟨c5,gJ,rA,H⟩|⟨gJ,rA,H⟩:=H
 case inl =>
  obtain ⟨rfl,rfl⟩:=mT H
  go_enter Try.func39,Try.ntmps39
  go_wp2_with (first|(refine aX (N:=4) rfl ?_;refine dL 4 #[.int .i64 aE,.slice atb az.length atc] 26 bl ?_;intro ay sF aa bn HB;have cG:=bn;obtain ⟨_,_,_,_⟩:=as9 aa)|(refine aT (f:=90) rfl ?_;refine gC (some 12) Try.func90 #[.int .i64 a0,.agg #[.int .i64 aE,.slice atb az.length atc],.int .i64 a2] ?_;(with_reducible refine (zX.calls k a0 aE _ _ az a2 t102 _ ?av ?ax A4.z).mono ?_);(case av=>exact aC (Kd.bL ep.z HB.z));(case ax=>exact eo.z);rintro e yq ⟨rfl,hb⟩;refine ⟨_,rfl,?_⟩;replace aa:=kB aa hb;replace HB:=bW hb))
  go_ret2
  exact ⟨_,eR,by first|exact Kd.rZ _ _ _ _ _|exact Kd.xR _ _ _ _ _|exact Kd.xX _ _ _ _ _|exact Kd.xV _ _ _ _ _|exact Kd.xW _ _ _ _ _,bl⟩
 obtain ⟨xA,vK⟩:=nY (([a2]:List Int):List Int)
 replace H:((BL.f xA (wrap64 (2 * (az.length:Int)))).bind fun t106=>(some (t106,0)))=some (r1,r2):=rH vK.z H
 replace H:=bS H;obtain ⟨t106,A6,H⟩:=H
 obtain ⟨rfl,rfl⟩:=mT H
 go_enter Try.func39,Try.ntmps39
 go_wp2_with (first|(refine aX (N:=4) rfl ?_;refine dL 4 #[.int .i64 aE,.slice atb az.length atc] 26 bl ?_;intro ay w7 aa bn HB;have cG:=bn;obtain ⟨_,_,_,_⟩:=as9 aa)|(refine aT (f:=90) rfl ?_;refine gC (some 12) Try.func90 #[.int .i64 a0,.agg #[.int .i64 aE,.slice atb az.length atc],.int .i64 a2] ?_;(with_reducible refine (zX.calls k a0 aE _ _ az a2 t102 _ ?av ?ax A4.z).mono ?_);(case av=>exact aC (Kd.bL ep.z HB.z));(case ax=>exact eo.z);rintro e w9 ⟨rfl,hb⟩;refine ⟨_,rfl,?_⟩;replace aa:=kB aa hb;replace HB:=bW hb)|(refine aX (N:=17) rfl ?_;refine jM 2 (N:=17) (xs:=([a2]:List Int)) (inner:=[.int .i64 a2]) (aJ.one (show Kd.M (Kd.int .i64) _ _ _ a2 [.int .i64 a2] from rfl) (aJ.none _ _)) ?_;intro xj pT Ht hb bR atf;clear bR atf;(first|rw [← vK.z] at Ht|(simp only [Int.reduceToNat] at Ht;rw [← vK.z] at Ht));have jf:=k0 (Kd.cg Ht (as8 bl));replace aa:=kB aa hb;replace HB:=bW hb;clear hb Ht;obtain ⟨_,_,_,_⟩:=as9 aa;obtain ⟨gu,gj,rfl⟩:=Kd.b9 jf.z)|(refine aT (f:=91) rfl ?_;refine gC (some 22) Try.func91 #[.slice gu xA.length gj,.int .i64 (wrap64 (2 * (az.length:Int)))] ?_;(with_reducible refine (BL.calls _ _ xA (wrap64 (2 * (az.length:Int))) t106 _ ?av ?ax A6.z).mono ?_);(case av=>exact aC ((Kd.bD jf.z).2.2));(case ax=>exact (Kd.bD jf.z).2.1);rintro e vk ⟨Iq,rfl,as2,hb⟩;refine ⟨_,rfl,?_⟩;have kS:=k0 (Kd.cg (Kd.cU as2 (Kd.bV (aR jf.z))) (as8 bl));replace jf:=eO jf (Kd.bh as2) hb;replace aa:=kB aa hb;replace HB:=bW hb))
 go_ret2
 exact ⟨_,eR,aR (Kd.aH kS.z (fun _ hk=>trivial)),bl⟩
/-! ### F92: function 92 -/
def zY.f (k:Nat) (a0:Int) (aE:Int) (az:List (List Int)) (a2:Int):Option (Int):=(dR.f k aE az).bind fun t102=>(if t102=true then ((mB.f k a0).bind fun t103=>(if t103=true then ((eY.f a2 0 (wrap64 (a0 - 1))).bind fun t104=>(if t104=true then (some 0) else (some 2))) else (some 2))) else (some 1))
theorem zY.calls (k : Nat) (a0 : Int) (aE : Int) (atb : Option Addr) (atc : Nat) (az : List (List Int)) (a2 : Int) (r : Int) (w : World) (iB : Kd.C (Kd.slice 2 (Kd.int .i64)) w atb az.length az) (iz : az.length ≤ atc) (h : zY.f k a0 aE az a2 = some r) :
  Calls Try.prog 92 #[.int .i64 a0,.agg #[.int .i64 aE,.slice atb az.length atc],.int .i64 a2] w fun e w'=>e=.returned (.int .i64 r)∧Below w.heap.size w w':=by
 have gV:=Try.underlying26
 have ep:=k0 iB
 have eo:=k0 iz
 clear iB iz
 have HB:=k0 (Below.refl w.heap.size w)
 unfold zY.f at h
 have H:=h
 clear h
 replace H:=bS H;obtain ⟨t102,A4,H⟩:=H
 cases t102
 case false =>
  replace H:=iF H
  obtain rfl:=Option.some.inj H
  go_enter Try.func92,Try.ntmps92
  go_wp2_with (first|(refine aX (N:=4) rfl ?_;refine dL 4 #[.int .i64 aE,.slice atb az.length atc] 26 bl ?_;intro ay C_ aa bn HB;have cG:=bn;obtain ⟨_,_,_,_⟩:=as9 aa)|(refine aT (f:=68) rfl ?_;refine gC (some 9) Try.func68 #[.agg #[.int .i64 aE,.slice atb az.length atc]] ?_;(with_reducible refine (dR.calls k aE _ _ az false _ ?av ?ax A4.z).mono ?_);(case av=>exact aC (Kd.bL ep.z HB.z));(case ax=>exact eo.z);rintro e Lw ⟨rfl,hb⟩;refine ⟨_,rfl,?_⟩;replace aa:=kB aa hb;replace HB:=bW hb))
  go_ret
  exact ⟨eR,bl⟩
 replace H:=iT H
 replace H:=bS H;obtain ⟨t103,A6,H⟩:=H
 cases t103
 case false =>
  replace H:=iF H
  obtain rfl:=Option.some.inj H
  go_enter Try.func92,Try.ntmps92
  go_wp2_with (first|(refine aX (N:=4) rfl ?_;refine dL 4 #[.int .i64 aE,.slice atb az.length atc] 26 bl ?_;intro ay yp aa bn HB;have cG:=bn;obtain ⟨_,_,_,_⟩:=as9 aa)|(refine aT (f:=68) rfl ?_;refine gC (some 9) Try.func68 #[.agg #[.int .i64 aE,.slice atb az.length atc]] ?_;(with_reducible refine (dR.calls k aE _ _ az true _ ?av ?ax A4.z).mono ?_);(case av=>exact aC (Kd.bL ep.z HB.z));(case ax=>exact eo.z);rintro e Fc ⟨rfl,hb⟩;refine ⟨_,rfl,?_⟩;replace aa:=kB aa hb;replace HB:=bW hb)|(refine aT (f:=119) rfl ?_;refine gC (some 13) Try.func119 #[.int .i64 a0] ?_;(with_reducible refine (mB.calls k a0 false _ A6.z).mono ?_);rintro e w' ⟨rfl,⟨nd,rfl⟩⟩;refine ⟨_,rfl,?_⟩))
  go_ret
  exact ⟨eR,bl⟩
 replace H:=iT H
 replace H:=bS H;obtain ⟨t104,A8,H⟩:=H
 cases t104
 case false =>
  replace H:=iF H
  obtain rfl:=Option.some.inj H
  go_enter Try.func92,Try.ntmps92
  go_wp2_with (first|(refine aX (N:=4) rfl ?_;refine dL 4 #[.int .i64 aE,.slice atb az.length atc] 26 bl ?_;intro ay rK aa bn HB;have cG:=bn;obtain ⟨_,_,_,_⟩:=as9 aa)|(refine aT (f:=68) rfl ?_;refine gC (some 9) Try.func68 #[.agg #[.int .i64 aE,.slice atb az.length atc]] ?_;(with_reducible refine (dR.calls k aE _ _ az true _ ?av ?ax A4.z).mono ?_);(case av=>exact aC (Kd.bL ep.z HB.z));(case ax=>exact eo.z);rintro e sF ⟨rfl,hb⟩;refine ⟨_,rfl,?_⟩;replace aa:=kB aa hb;replace HB:=bW hb)|(refine aT (f:=119) rfl ?_;refine gC (some 13) Try.func119 #[.int .i64 a0] ?_;(with_reducible refine (mB.calls k a0 true _ A6.z).mono ?_);rintro e w' ⟨rfl,⟨nd,rfl⟩⟩;refine ⟨_,rfl,?_⟩)|(go_at_call 61;(with_reducible refine (eY.calls a2 0 (wrap64 (a0 - 1)) false _ A8.z).mono ?_);rintro e w' ⟨rfl,⟨nd,rfl⟩⟩))
  go_ret
  exact ⟨eR,bl⟩
 replace H:=iT H
 obtain rfl:=Option.some.inj H
 go_enter Try.func92,Try.ntmps92
 go_wp2_with (first|(refine aX (N:=4) rfl ?_;refine dL 4 #[.int .i64 aE,.slice atb az.length atc] 26 bl ?_;intro ay pT aa bn HB;have cG:=bn;obtain ⟨_,_,_,_⟩:=as9 aa)|(refine aT (f:=68) rfl ?_;refine gC (some 9) Try.func68 #[.agg #[.int .i64 aE,.slice atb az.length atc]] ?_;(with_reducible refine (dR.calls k aE _ _ az true _ ?av ?ax A4.z).mono ?_);(case av=>exact aC (Kd.bL ep.z HB.z));(case ax=>exact eo.z);rintro e auL ⟨rfl,hb⟩;refine ⟨_,rfl,?_⟩;replace aa:=kB aa hb;replace HB:=bW hb)|(refine aT (f:=119) rfl ?_;refine gC (some 13) Try.func119 #[.int .i64 a0] ?_;(with_reducible refine (mB.calls k a0 true _ A6.z).mono ?_);rintro e w' ⟨rfl,⟨nd,rfl⟩⟩;refine ⟨_,rfl,?_⟩)|(go_at_call 61;(with_reducible refine (eY.calls a2 0 (wrap64 (a0 - 1)) true _ A8.z).mono ?_);rintro e w' ⟨rfl,⟨nd,rfl⟩⟩))
 go_ret
 exact ⟨eR,bl⟩
/-! ### F40: function 40 -/
def oZ.l0 : Nat → Int → List Int → Int → Int → List (List Int) → Option (List Int × Int)
 | 0,_,_,_,_,_=>none
 | k+1,x2,x9,eS,cn,cF=>if eS < (wrap64 (2 * (cF.length:Int))) then (if x9.length < 17592186044416 then (oZ.l0 k x2 (x9 ++ [x2]) (wrap64 (eS+1)) cn cF) else (none)) else (some (x9,0))
def oZ.f (k:Nat) (a0:Int) (aE:Int) (az:List (List Int)) (a2:Int):Option (List Int × Int):=(zY.f k a0 aE az a2).bind fun t102=>(if t102=0 then (oZ.l0 k a2 (([]:List Int)) 0 aE az) else (some (([]:List Int),t102)))
theorem oZ.calls (k : Nat) (a0 : Int) (aE : Int) (atb : Option Addr) (atc : Nat) (az : List (List Int)) (a2 : Int) (r1 : List Int) (r2 : Int) (w : World) (iB : Kd.C (Kd.slice 2 (Kd.int .i64)) w atb az.length az) (iz : az.length ≤ atc) (h : oZ.f k a0 aE az a2 = some (r1, r2)) :
  Calls Try.prog 40 #[.int .i64 a0,.agg #[.int .i64 aE,.slice atb az.length atc],.int .i64 a2] w fun e w'=>∃ ati:Value,e=.returned (.tuple #[ati,.int .i64 r2])∧Kd.R (Kd.int .i64) 2 w' w.heap.size (fun _=>True) ati r1∧Below w.heap.size w w':=by
 have gV:=Try.underlying26
 have ep:=k0 iB
 have eo:=k0 iz
 clear iB iz
 have HB:=k0 (Below.refl w.heap.size w)
 unfold oZ.f at h
 have H:=h
 clear h
 replace H:=bS H;obtain ⟨t102,A4,H⟩:=H
 replace H:=iE H;obtain ⟨c5,gJ,rA,H⟩|⟨gJ,rA,H⟩:=H
 case inl =>
  obtain ⟨rfl,rfl⟩:=mT H
  go_enter Try.func40,Try.ntmps40
  go_wp2_with (first|(refine aX (N:=4) rfl ?_;refine dL 4 #[.int .i64 aE,.slice atb az.length atc] 26 bl ?_;intro ay yp aa bn HB;have cG:=bn;obtain ⟨_,_,_,_⟩:=as9 aa)|(refine aT (f:=92) rfl ?_;refine gC (some 14) Try.func92 #[.int .i64 a0,.agg #[.int .i64 aE,.slice atb az.length atc],.int .i64 a2] ?_;(with_reducible refine (zY.calls k a0 aE _ _ az a2 t102 _ ?av ?ax A4.z).mono ?_);(case av=>exact aC (Kd.bL ep.z HB.z));(case ax=>exact eo.z);rintro e Fc ⟨rfl,hb⟩;refine ⟨_,rfl,?_⟩;replace aa:=kB aa hb;replace HB:=bW hb))
  go_ret2
  exact ⟨_,eR,by first|exact Kd.rZ _ _ _ _ _|exact Kd.xR _ _ _ _ _|exact Kd.xX _ _ _ _ _|exact Kd.xV _ _ _ _ _|exact Kd.xW _ _ _ _ _,bl⟩
 obtain ⟨xA,vK⟩:=nY (([]:List Int):List Int)
 replace H:(oZ.l0 k a2 xA 0 aE az)=some (r1,r2):=rH vK.z H
 have H':=k0 H
 clear H
 go_enter Try.func40,Try.ntmps40
 go_wp2_with (first|(refine aX (N:=4) rfl ?_;refine dL 4 #[.int .i64 aE,.slice atb az.length atc] 26 bl ?_;intro ay w6 aa bn HB;have cG:=bn;obtain ⟨_,_,_,_⟩:=as9 aa)|(refine aT (f:=92) rfl ?_;refine gC (some 14) Try.func92 #[.int .i64 a0,.agg #[.int .i64 aE,.slice atb az.length atc],.int .i64 a2] ?_;(with_reducible refine (zY.calls k a0 aE _ _ az a2 t102 _ ?av ?ax A4.z).mono ?_);(case av=>exact aC (Kd.bL ep.z HB.z));(case ax=>exact eo.z);rintro e w8 ⟨rfl,hb⟩;refine ⟨_,rfl,?_⟩;replace aa:=kB aa hb;replace HB:=bW hb)|(refine aX (N:=18) rfl ?_;refine jM 2 (N:=18) (xs:=([]:List Int)) (inner:=[]) (aJ.none _ _) ?_;intro xj w9 uH hb bR atf;clear bR atf;(first|rw [← vK.z] at uH|(simp only [Int.reduceToNat] at uH;rw [← vK.z] at uH));have jf:=k0 (Kd.cg uH (as8 bl));replace aa:=kB aa hb;replace HB:=bW hb;clear hb uH))
 go_loopg [9,10] k (fun kq v9 v10 w'=>∃ (jL:List Int) (ID:Int),v10=.int .i64 ID∧af (oZ.l0 kq a2 jL ID aE az=some (r1,r2))∧af (kq≤k)∧af (Kd.R (Kd.int .i64) 2 w' w.heap.size (fun _=>True) v9 jL)∧af (w'.heap[ay]?=some (sO aE atb az atc 26))∧af (Below w.heap.size w w'))
 case atStart=>exact ⟨(xA),(0),rs,H',⟨Nat.le_refl _⟩,⟨aR (jf.z)⟩,⟨bk⟩,⟨bl⟩⟩
 case round =>
  clear H'
  obtain ⟨jL,ID,rfl,HA,as3,vD,aa,HB⟩:=hrel
  cases gk with
  | zero=>exact absurd HA.z (by simp [oZ.l0])
  | succ k1 =>
   have H:=HA.z
   clear HA
   simp only [oZ.l0] at H
   replace H:=iC H;obtain ⟨kW,H⟩|⟨kW,H⟩:=H
   case inl =>
    obtain ⟨rfl,rfl⟩:=mT H
    obtain ⟨_,_,_,_⟩:=as9 aa
    go_wp2
    go_ret2
    exact ⟨_,eR,aR vD.z,bl⟩
   replace H:=iS H;obtain ⟨c12,H⟩:=H
   have Nc:=k0 c12
   clear c12
   obtain ⟨yA,xT⟩:=nY (jL ++ [a2]:List Int)
   replace H:(oZ.l0 k1 a2 yA (wrap64 (ID+1)) aE az)=some (r1,r2):=rH xT.z H
   have H':=k0 H
   clear H
   obtain ⟨_,_,_,_⟩:=as9 aa
   go_wp2_with (first|((with_reducible refine ji (b:=.append) (xs:=#[.tmp 27,.tmp 29]) rfl ?_);at_builtin;refine Kd.oh (Kd.int .i64) (w0:=w) w.heap.size rfl (.tmp 27) (.tmp 29) 29 2 (.int .i64 0) 8 rfl Try.underlying29 ju rfl (by decide) (by omega) u9 jL a2 [.int .i64 a2] (fun _=>True) (fun _=>False) rfl rfl ?aP (fun _ hk=>hk.elim) ?aF ?aO ?aB ?aS ?aL ?_;(case aP=>exact rfl);(case aB=>exact bl);(case aF=>exact (fun _ _=>trivial));(case aO=>exact (aR vD.z));(case aS=>exact (as8 bl));(case aL=>have:=Nc.out;omega);intro Iq vk ho hb hg a_;rw [← xT.z] at ho;replace aa:=k0 (fL (aB aa.z) hg (Kd.jh vD.z aa.z (by decide)));replace HB:=k0 hb;have kS:=k0 ho;clear vD;clear ho hb hg a_))
   go_roundg k1
   case measure=>have:=as3.z;omega
   case rel=>exact ⟨(yA),(wrap64 (ID+1)),rs,H',⟨by have:=as3.z;omega⟩,⟨aR (kS.z)⟩,⟨bk⟩,⟨bl⟩⟩
end Go.Proofs.Ytapnggjaeehpdaa.B
/- Set with little white space, by a program. -/
