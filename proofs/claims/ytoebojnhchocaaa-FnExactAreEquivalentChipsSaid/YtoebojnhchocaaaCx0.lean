/- The functions that one law reaches, each as a Lean function, and that Go's call comes to what it says. Condition of each: that the Lean function answers (is not none). -/
import Derived.Test.YtoebojnhchocaaaProg
import Derived.Below
import Derived.Deep.Draws
import Derived.Deep.AppendLies
import Derived.Maps.AppendAt
import Derived.OwnWalk
import Derived.Laws.BytesArg
import Derived.Laws.MakeOwn
import Derived.Laws.OwnMore
import Derived.Deep.OwnRows
import Derived.Tactics
import Derived.Lib.ConvBytes
import Derived.Laws.Slices
import Derived.WalkKit
import Derived.KernelRfl
import Derived.RowKit3
import Derived.Deep.LoopGhost
import Derived.Deep.QuietTactic
import Derived.BigQuiet
import Derived.WideLaws
import Derived.Deep.DeepCutAuto
import Derived.Deep.CutBlock
import Derived.Deep.RegionHeld3
import Derived.Laws.Rows
import Derived.Lib.AppendStr
import Derived.ArgAppend
import Derived.Laws.IdiomCopy
import Derived.OrdersHeld
import Derived.Laws.BitsLemmas
import Derived.RowKit
import Derived.Lib.SliceRun
import Derived.Deep.RegionLaw
import Derived.Shelf.Bits.Mul64
import Derived.Shelf.Spec.SlicesInsertGrow
import Derived.Test.YtoebojnhchocaaaCWWords
import Derived.Test.YtoebojnhchocaaaCWLast
import Derived.Test.YtoebojnhchocaaaCWTab
import Derived.Test.YtoebojnhchocaaaCWWords
import Derived.Test.YtoebojnhchocaaaCWLast
import Derived.Test.YtoebojnhchocaaaCWApart
import Derived.Test.YtoebojnhchocaaaCWArr
import Derived.Test.YtoebojnhchocaaaCWApart
import Derived.Test.YtoebojnhchocaaaCWArr
import Derived.Test.YtoebojnhchocaaaCWFoot
import Derived.Test.YtoebojnhchocaaaCWKept
import Derived.Test.YtoebojnhchocaaaCWShare
import Derived.Test.YtoebojnhchocaaaCWN
import Derived.Test.YtoebojnhchocaaaCWN
import Derived.Test.YtoebojnhchocaaaCWAt
import Derived.Test.YtoebojnhchocaaaCWRepsOne
import Derived.Test.YtoebojnhchocaaaCWGuard
import Derived.Test.YtoebojnhchocaaaCWNEv
import Derived.Test.YtoebojnhchocaaaCWMore
namespace Go.Proofs.Ytoebojnhchocaaa.C
open Go.RowKit Go.Proofs.bI.en Go.Proofs.bI.je Go.Proofs.bI.jC
attribute [local go_sem] max2_int min2_int max_two min_two max_three min_three max_four min_four   -- for this text's walks alone
set_option linter.unusedVariables false
set_option linter.unusedSimpArgs false
def Oa : Option Int → Value
 | none=>.nilIface
 | some c=>.iface 0 (.int .i64 c)
theorem bq:Oa none=.nilIface:=rfl
theorem bt (c:Int):Oa (some c)=.iface 0 (.int .i64 c):=rfl
theorem lH:(Try.prog.info? 2).map (fun i=>(i.zero,i.size,i.bytes))=some (some (.int .i64 0),1,8):=by kernel_rfl
theorem xo:(Try.prog.info? 28).map (fun i=>(i.zero,i.size,i.bytes))=some (some (.slice none 0 0),1,24):=by kernel_rfl
-- the values' own types
def ah (xs:List (List Int)) (i:Int):(List Int):=xs.getD i.toNat ([]:List Int)
theorem cW {w:World} {A:Option Addr} {n:Nat} {xs:List (List Int)} (h:Kd.C (Kd.slice 2 (Kd.int .i64)) w A n xs) (i:Int) (h0:0≤i) (h1:i < n):∃ ad A0 c0,A=some ad∧w.cell? (ad.add i.toNat)=some (.slice A0 (ah xs i).length c0)∧(ah xs i).length≤c0∧(Kd.int .i64).C w A0 (ah xs i).length (ah xs i):=by
 obtain ⟨ad,c,e,_,hK,hc0⟩:=Kd.Tn h ([]:List Int) i h0 h1
 have hc:∀ j u,c[j]?=some u→w.cell? (ad.add (i.toNat * 1+j))=some u:=hc0
 obtain ⟨A0,c0,rfl,l0,g0⟩:=hK
 exact ⟨ad,A0,c0,e,by have hq:=hc 0 _ rfl;rwa [Nat.mul_one,Nat.add_zero] at hq,l0,g0⟩
/-! ### small words for the contracts proved by hand -/
theorem zI {α:Type} (l:List α) (i:Nat) (a:α):l.toArray.setIfInBounds i a=(l.set i a).toArray:=List.setIfInBounds_toArray l i a
theorem zZ {α:Type} (a b:α) (l:List α):(a :: l).set 0 b=b :: l:=List.set_cons_zero
theorem zS {α:Type} (a b:α) (l:List α) (n:Nat):(a :: l).set (n+1) b=a :: l.set n b:=List.set_cons_succ
def idxFrom (p : Int → Bool) : List Int → Nat → Int
 | [],_=>-1
 | x :: xs,k=>if p x then k else idxFrom p xs (k+1)
theorem FA (p:Int→Bool) (l:List Int) (k:Nat) (h:k < l.length):idxFrom p (l.drop k) k=if p (rd l k) then (k:Int) else idxFrom p (l.drop (k+1)) (k+1):=by
 rw [List.drop_eq_getElem_cons h,idxFrom,rd,Int.toNat_natCast,List.getD_eq_getElem?_getD,List.getElem?_eq_getElem h];rfl
theorem Q5 (p:Int→Bool) (l:List Int) (k:Nat):decide (0≤idxFrom p l k)=l.any p:=by
 induction l generalizing k with
 | nil=>simp [idxFrom]
 | cons x xs ih =>
  rw [idxFrom,List.any_cons]
  cases p x with
  | true=>simp
  | false=>simp;rw [← ih (k+1)]
def mJ (p : List Int → Option Bool) : List (List Int) → Nat → Option Int
 | [],_=>some (-1)
 | x :: xs,k=>(p x).bind fun b=>if b=true then some (k:Int) else mJ p xs (k+1)
abbrev KL (e:Nat):Kd (List Int):=Kd.slice e (Kd.int .i64)
theorem mid (lo m s:Nat) (h:lo≤s):∃ q,lo≤q∧q≤s∧(∀ k,k < m→lo≤k→k < s→k < q)∧(∀ k,m≤k→lo≤k→k < s→q≤k):=by
 by_cases h1:m≤lo
 ·exact ⟨lo,by omega,h,fun k _ _ _=>by omega,fun k _ h2 _=>h2⟩
 ·by_cases h2 : m ≤ s
  ·exact ⟨m,by omega,h2,fun k h _ _=>h,fun k h _ _=>h⟩
  ·exact ⟨s,h,by omega,fun k _ _ h=>h,fun k h3 _ h4=>by omega⟩
/-- What a slot holds is the value that lies in a whole at an index. -/
def iC (w:World) (V:Value) (j:Int) (u:Value):Prop:=∃ ad n c,V=.slice (some ad) n c∧0≤j∧j < (n:Int)∧w.cell? (ad.add j.toNat)=some u
theorem iC.below {w w1:World} {V:Value} {j:Int} {u:Value} (h:iC w V j u) (hb:Below w.heap.size w w1):iC w1 V j u:=by
 obtain ⟨ad,n,c,e,h0,h1,hc⟩:=h
 exact ⟨ad,n,c,e,h0,h1,Dy hb hc⟩
theorem rP {w:World} {V:Value} {j:Int} {u:Value} (h:iC w V j u):0≤j:=by
 obtain ⟨ad,n,c,e,h0,h1,hc⟩:=h
 exact h0
theorem mF {w:World} {A:Option Addr} {n c:Nat} {j:Int} {u:Value} (h:iC w (.slice A n c) j u):j < (n:Int):=by
 obtain ⟨ad,n,c,e,h0,h1,hc⟩:=h
 injection e with _ e2 _
 subst e2
 exact h1
theorem iC.alloc {w:World} {V:Value} {j:Int} {u:Value} (h:iC w V j u) (o:Obj):iC (w.alloc o) V j u:=h.below (dA (Below.refl _ _) o)
theorem iC.drew {w:World} {V:Value} {j:Int} {u:Value} (h:iC w V j u):iC w.drew V j u:=h.below (wE (Below.refl _ _))
theorem iC.drewN {w:World} {V:Value} {j:Int} {u:Value} (h:iC w V j u) (m:Nat):iC (w.drewN m) V j u:=h.below (akz (Below.refl _ _) m)
theorem E5 {w:World} {ad:Addr} {n c:Nat} {j:Int} {u v:Value} (h:iC w (.slice (some ad) n c) j u) (hc:w.cell? (ad.add j.toNat)=some v):u=v:=by
 obtain ⟨VD,n',c',e,_,_,h'⟩:=h
 injection e with e1 _ _
 injection e1 with e1
 subst e1
 exact Option.some.inj (h'.symm.trans hc)
theorem iC.set {w:World} {V:Value} {j:Int} {u:Value} (h:iC w V j u) {e e' g off:Nat} {x v:Value} (hP:∀ k,V.ownBlock=some k→∃ cells,w.heap[k]?=some (.cells cells e (0,0))) (hx:∀ k,v.ownBlock=some k→∃ cells,w.heap[k]?=some (.cells cells e' (0,0))) (hv:v.ownBlock=some g) (hne:e ≠ e'):iC (w.setCell ⟨g,off,none⟩ x) V j u:=by
 obtain ⟨ad,n,c,rfl,h0,h1,hc⟩:=h
 refine ⟨ad,n,c,rfl,h0,h1,?_⟩
 rw [cell_far]
 ·exact hc
 ·rw [add_block]
  intro h_
  obtain ⟨c1,h1⟩:=hP ad.block (by simp [Value.ownBlock])
  obtain ⟨c2,h2⟩:=hx ad.block (by rw [hv];exact congrArg some h_.symm)
  rw [h1] at h2
  injection h2 with h2
  injection h2 with _ h2
  exact hne h2
theorem Nf {w:World} {g t:Nat} {l:List Bool} (h:w.heap[g]?=some (.cells (l.map Value.bool).toArray t (0,0))) (i:Int) (h0:0≤i) (h1:i < (l.length:Int)):w.cell? ⟨g,i.toNat,none⟩=some (.bool (nP false l i)):=by
 rw [av h i.toNat,nP,List.getD_eq_getElem?_getD,List.getElem?_eq_getElem (by omega:i.toNat < l.length)]
 simp [List.getElem?_eq_getElem (by omega:i.toNat < l.length)]
theorem Ac {ad:Addr} {n c k i:Nat} (h:some k ≠ (Value.slice (some ad) n c).ownBlock):some (ad.add i).block ≠ some k:=by
 rw [add_block]
 intro e
 exact h (by rw [← e];simp [Value.ownBlock])
def swp (xs:List (List Int)) (i j:Int):List (List Int):=(xs.set i.toNat (xs.getD j.toNat [])).set j.toNat (xs.getD i.toNat [])
theorem K8 (xs:List (List Int)) (i j:Int):(swp xs i j).length=xs.length:=by simp [swp]
def nv (i j m:Nat):Nat:=if m=j then i else if m=i then j else m
theorem adY (i j m:Nat):nv i j (nv i j m)=m:=by unfold nv;(repeat' split)<;>simp_all
theorem K6 {i j m n:Nat} (hi:i < n) (hj:j < n) (hm:m < n):nv i j m < n:=by unfold nv;(repeat' split)<;>assumption
theorem Sd {α:Type} (l:List α) (i j m:Nat) (hi:i < l.length) (hj:j < l.length) (hm:m < l.length) (a b:α) (ha:a=l[j]) (hb:b=l[i]):((l.set i a).set j b)[m]?=some (l[nv i j m]'(K6 hi hj hm)):=by
 subst ha;subst hb
 rw [List.getElem?_set]
 unfold nv
 by_cases h1:m=j
 ·subst h1;simp [hm]
 ·rw [if_neg (Ne.symm h1), List.getElem?_set]
  by_cases h2:m=i
  ·subst h2;simp [h1,hi]
  ·rw [if_neg (Ne.symm h2)];simp [h1,h2,hm]
theorem Vr {ei e base n cap g : Nat} {ok : Nat → Prop} {W : World} {xs : List (List Int)} (h : Kd.S (KL ei) e W base ok (.slice (some ⟨g, 0, none⟩) n cap) xs) (i j : Int) (rS : 0 ≤ i) (hi : i < n) (hj0 : 0 ≤ j) (hj : j < n) {vj : Value}
  (J0:W.cell? ⟨g,j.toNat,none⟩=some vj):(W.setCell ⟨g,i.toNat,none⟩ vj).cell? ⟨g,j.toNat,none⟩=some vj∧(W.setCell ⟨g,i.toNat,none⟩ vj).frozen? ⟨g,j.toNat,none⟩=false:=by
 obtain ⟨_,_,_,_,hfr⟩:=Kd.Em (Kd.qL h) [] j hj0 hj
 have PN:=hfr 0
 rw [show (KL ei).sz=1 from rfl,Nat.mul_one,Nat.add_zero] at PN
 obtain ⟨vi,CZ⟩:∃ vi,W.cell? ⟨g,i.toNat,none⟩=some vi:=by
  obtain ⟨c,hcl,_,pG,_⟩:=Kd.Em (Kd.qL h) [] i rS hi
  have hc0:0 < c.length:=by rw [hcl];exact Nat.one_pos
  have h2:=pG 0 c[0] (List.getElem?_eq_getElem hc0)
  rw [show (KL ei).sz=1 from rfl,Nat.mul_one,Nat.add_zero] at h2
  exact ⟨_,h2⟩
 have hsz:(KL ei).sz=1:=rfl
 have hn:n=xs.length:=by have:=(Kd.bY h).1;exact this
 obtain ⟨f,hR⟩:=h
 obtain ⟨hok,inner,ho,hr⟩:=hR
 have hlen:inner.length=xs.length:=by have:=hr.1;rw [List.length_zipIdx] at this;rw [this];show xs.length * 1=_;omega
 have hgo:some g=(Value.slice (some ⟨g,0,none⟩) n cap).ownBlock:=by simp [Value.ownBlock]
 rw [List.length_zipIdx] at ho
 have hcell:∀ m (hm:m < inner.length),W.cell? ⟨g,m,none⟩=some inner[m]:=by
  intro m hm
  have:=ho.cells (g:=g) hgo.symm m inner[m] (List.getElem?_eq_getElem hm)
  rwa [add_plain] at this
 have hone:∀ m (hm:m < inner.length),inner[m].oneCell'=true:=by
  intro m hm
  have hm':m < xs.length:=by omega
  have h1:=hr.2 m (xs[m],m) (Kd.tM (List.getElem?_eq_getElem hm'))
  refine (KL ei).lz ((KL ei).jN h1) _ ?_
  have:(inner.drop (m * 1)).take 1=[inner[m]]:=by rw [Nat.mul_one,List.drop_eq_getElem_cons hm];rfl
  show inner[m] ∈ (inner.drop (m * 1)).take 1
  rw [this];exact List.mem_singleton.2 rfl
 have Fa:i.toNat < inner.length:=by omega
 have yJ:j.toNat < inner.length:=by omega
 have Iy:vi=inner[i.toNat]:=by have:=(hcell i.toNat Fa).symm.trans CZ;injection this with this;exact this.symm
 have wN:vj=inner[j.toNat]:=by have:=(hcell j.toNat yJ).symm.trans J0;injection this with this;exact this.symm
 have yU:(Kd.raw 1).R e W base (fun _=>True) (.slice (some ⟨g,0,none⟩) n cap) (inner.map fun u=>[u]):=by
  refine ⟨fun _ _=>trivial,inner,?_,?_,fun m p hm=>?_⟩
  ·rw [List.length_map,hlen];exact ho
  ·rw [List.length_map];show inner.length=inner.length * 1;omega
  ·rw [List.getElem?_map] at hm
   obtain ⟨u,hu,rfl⟩:=Option.map_eq_some_iff.1 hm
   obtain ⟨hml,rfl⟩:=List.getElem?_eq_some_iff.1 hu
   have:(inner.drop (m * 1)).take 1=[inner[m]]:=by rw [Nat.mul_one,List.drop_eq_getElem_cons hml];rfl
   show (inner.drop (m * 1)).take 1=[inner[m]]∧((inner.drop (m * 1)).take 1).length=1∧∀ u ∈ (inner.drop (m * 1)).take 1,u.oneCell'=true
   rw [this]
   exact ⟨rfl,rfl,fun u hu=>by rw [List.mem_singleton.1 hu];exact hone m hml⟩
 have s1:=Kd.Ep yU i rS hi (c:=[vi]) (seg:=[vj]) (j:=0) (x':=[vj]) (cA:=fun _=>False) rfl (fun q u hu=>by
   cases q with
   | zero=>simp at hu;subst hu;show W.cell? ⟨g,i.toNat * 1+0,none⟩=_;rw [Nat.mul_one,Nat.add_zero];exact CZ
   | succ q=>simp at hu) (Nat.le_refl 1) ⟨rfl,rfl,fun u hu=>by
    rw [List.mem_singleton.1 hu,wN];exact hone _ yJ⟩ (fun _ hk=>hk.elim)
 have e1:W.setCells g (i.toNat * (Kd.raw 1).sz+0) [vj]=W.setCell ⟨g,i.toNat,none⟩ vj:=by
  show W.setCell ⟨g,i.toNat * 1+0,none⟩ vj=_
  rw [Nat.mul_one,Nat.add_zero]
 rw [e1] at s1
 obtain ⟨s1,g1⟩:=s1
 have J1:(W.setCell ⟨g,i.toNat,none⟩ vj).cell? ⟨g,j.toNat,none⟩=some vj:=by
  obtain ⟨_,tj,vH,cQ⟩:=id s1
  have JP:tj.length=inner.length:=by
   have:=cQ.1;rw [List.length_set,List.length_map] at this;rw [this];show inner.length * 1=_;omega
  have:=cQ.2 j.toNat [inner[j.toNat]] (by
   rw [List.getElem?_set]
   by_cases hij:i.toNat=j.toNat
   ·rw [if_pos hij,if_pos (by rw [List.length_map];omega),wN]
   ·rw [if_neg hij,List.getElem?_map,List.getElem?_eq_getElem yJ];rfl)
  have h2:(tj.drop (j.toNat * 1)).take 1=[inner[j.toNat]]:=this.1
  have h3:tj[j.toNat]?=some inner[j.toNat]:=by
   have yH:j.toNat < tj.length:=by omega
   rw [Nat.mul_one,List.drop_eq_getElem_cons yH] at h2
   have:tj[j.toNat]=inner[j.toNat]:=by injection h2
   rw [List.getElem?_eq_getElem yH,this]
  have h4:=vH.cells (g:=g) hgo.symm j.toNat _ h3
  rw [add_plain] at h4
  rw [h4,wN]
 exact ⟨J1,(World.frozen?_setCell _ _ _ _).trans PN⟩
theorem Vv {ei e base n cap g : Nat} {ok : Nat → Prop} {W : World} {xs : List (List Int)} (h : Kd.S (KL ei) e W base ok (.slice (some ⟨g, 0, none⟩) n cap) xs) (i j : Int) (rS : 0 ≤ i) (hi : i < n) (hj0 : 0 ≤ j) (hj : j < n) {vi vj : Value}
  (CZ:W.cell? ⟨g,i.toNat,none⟩=some vi) (J0:W.cell? ⟨g,j.toNat,none⟩=some vj) :
  Kd.S (KL ei) e ((W.setCell ⟨g,i.toNat,none⟩ vj).setCell ⟨g,j.toNat,none⟩ vi) base ok (.slice (some ⟨g,0,none⟩) n cap) (swp xs i j)∧W.grownBy ((W.setCell ⟨g,i.toNat,none⟩ vj).setCell ⟨g,j.toNat,none⟩ vi) (some g):=by
 have hsz:(KL ei).sz=1:=rfl
 have hn:n=xs.length:=by have:=(Kd.bY h).1;exact this
 obtain ⟨f,hR⟩:=h
 obtain ⟨hok,inner,ho,hr⟩:=hR
 have hlen:inner.length=xs.length:=by have:=hr.1;rw [List.length_zipIdx] at this;rw [this];show xs.length * 1=_;omega
 have hgo:some g=(Value.slice (some ⟨g,0,none⟩) n cap).ownBlock:=by simp [Value.ownBlock]
 rw [List.length_zipIdx] at ho
 have hcell:∀ m (hm:m < inner.length),W.cell? ⟨g,m,none⟩=some inner[m]:=by
  intro m hm
  have:=ho.cells (g:=g) hgo.symm m inner[m] (List.getElem?_eq_getElem hm)
  rwa [add_plain] at this
 have hone:∀ m (hm:m < inner.length),inner[m].oneCell'=true:=by
  intro m hm
  have hm':m < xs.length:=by omega
  have h1:=hr.2 m (xs[m],m) (Kd.tM (List.getElem?_eq_getElem hm'))
  refine (KL ei).lz ((KL ei).jN h1) _ ?_
  have:(inner.drop (m * 1)).take 1=[inner[m]]:=by rw [Nat.mul_one,List.drop_eq_getElem_cons hm];rfl
  show inner[m] ∈ (inner.drop (m * 1)).take 1
  rw [this];exact List.mem_singleton.2 rfl
 have Fa:i.toNat < inner.length:=by omega
 have yJ:j.toNat < inner.length:=by omega
 have Iy:vi=inner[i.toNat]:=by have:=(hcell i.toNat Fa).symm.trans CZ;injection this with this;exact this.symm
 have wN:vj=inner[j.toNat]:=by have:=(hcell j.toNat yJ).symm.trans J0;injection this with this;exact this.symm
 have yU:(Kd.raw 1).R e W base (fun _=>True) (.slice (some ⟨g,0,none⟩) n cap) (inner.map fun u=>[u]):=by
  refine ⟨fun _ _=>trivial,inner,?_,?_,fun m p hm=>?_⟩
  ·rw [List.length_map,hlen];exact ho
  ·rw [List.length_map];show inner.length=inner.length * 1;omega
  ·rw [List.getElem?_map] at hm
   obtain ⟨u,hu,rfl⟩:=Option.map_eq_some_iff.1 hm
   obtain ⟨hml,rfl⟩:=List.getElem?_eq_some_iff.1 hu
   have:(inner.drop (m * 1)).take 1=[inner[m]]:=by rw [Nat.mul_one,List.drop_eq_getElem_cons hml];rfl
   show (inner.drop (m * 1)).take 1=[inner[m]]∧((inner.drop (m * 1)).take 1).length=1∧∀ u ∈ (inner.drop (m * 1)).take 1,u.oneCell'=true
   rw [this]
   exact ⟨rfl,rfl,fun u hu=>by rw [List.mem_singleton.1 hu];exact hone m hml⟩
 have s1:=Kd.Ep yU i rS hi (c:=[vi]) (seg:=[vj]) (j:=0) (x':=[vj]) (cA:=fun _=>False) rfl (fun q u hu=>by
   cases q with
   | zero=>simp at hu;subst hu;show W.cell? ⟨g,i.toNat * 1+0,none⟩=_;rw [Nat.mul_one,Nat.add_zero];exact CZ
   | succ q=>simp at hu) (Nat.le_refl 1) ⟨rfl,rfl,fun u hu=>by
    rw [List.mem_singleton.1 hu,wN];exact hone _ yJ⟩ (fun _ hk=>hk.elim)
 have e1:W.setCells g (i.toNat * (Kd.raw 1).sz+0) [vj]=W.setCell ⟨g,i.toNat,none⟩ vj:=by
  show W.setCell ⟨g,i.toNat * 1+0,none⟩ vj=_
  rw [Nat.mul_one,Nat.add_zero]
 rw [e1] at s1
 obtain ⟨s1,g1⟩:=s1
 have J1:(W.setCell ⟨g,i.toNat,none⟩ vj).cell? ⟨g,j.toNat,none⟩=some vj:=by
  obtain ⟨_,tj,vH,cQ⟩:=id s1
  have JP:tj.length=inner.length:=by
   have:=cQ.1;rw [List.length_set,List.length_map] at this;rw [this];show inner.length * 1=_;omega
  have:=cQ.2 j.toNat [inner[j.toNat]] (by
   rw [List.getElem?_set]
   by_cases hij:i.toNat=j.toNat
   ·rw [if_pos hij,if_pos (by rw [List.length_map];omega),wN]
   ·rw [if_neg hij,List.getElem?_map,List.getElem?_eq_getElem yJ];rfl)
  have h2:(tj.drop (j.toNat * 1)).take 1=[inner[j.toNat]]:=this.1
  have h3:tj[j.toNat]?=some inner[j.toNat]:=by
   have yH:j.toNat < tj.length:=by omega
   rw [Nat.mul_one,List.drop_eq_getElem_cons yH] at h2
   have:tj[j.toNat]=inner[j.toNat]:=by injection h2
   rw [List.getElem?_eq_getElem yH,this]
  have h4:=vH.cells (g:=g) hgo.symm j.toNat _ h3
  rw [add_plain] at h4
  rw [h4,wN]
 have s2:=Kd.Ep s1 j hj0 hj (c:=[vj]) (seg:=[vi]) (j:=0) (x':=[vi]) (cA:=fun _=>False) rfl (fun q u hu=>by
   cases q with
   | zero=>simp at hu;subst hu;show World.cell? _ ⟨g,j.toNat * 1+0,none⟩=_;rw [Nat.mul_one,Nat.add_zero];exact J1
   | succ q=>simp at hu) (Nat.le_refl 1) ⟨rfl,rfl,fun u hu=>by
    rw [List.mem_singleton.1 hu,Iy];exact hone _ Fa⟩ (fun _ hk=>hk.elim)
 have e2:(W.setCell ⟨g,i.toNat,none⟩ vj).setCells g (j.toNat * (Kd.raw 1).sz+0) [vi]=(W.setCell ⟨g,i.toNat,none⟩ vj).setCell ⟨g,j.toNat,none⟩ vi:=by
  show World.setCell _ ⟨g,j.toNat * 1+0,none⟩ vi=_
  rw [Nat.mul_one,Nat.add_zero]
 rw [e2] at s2
 obtain ⟨s2,g2⟩:=s2
 have hg:W.grownBy ((W.setCell ⟨g,i.toNat,none⟩ vj).setCell ⟨g,j.toNat,none⟩ vi) (some g):=by
  obtain ⟨a1,a2,a3,a4,a5⟩:=g1
  obtain ⟨b1,b2,b3,b4,b5⟩:=g2
  exact ⟨b1.trans a1,b2.trans a2,b3.trans a3,Nat.le_trans a4 b4,fun k hk hne=>(b5 k (Nat.lt_of_lt_of_le hk a4) hne).trans (a5 k hk hne)⟩
 refine ⟨?_,hg⟩
 obtain ⟨_,Dk,qj,nj⟩:=s2
 rw [List.length_set,List.length_set,List.length_map] at qj
 have Fc:Dk.length=inner.length:=by
  have:=nj.1;rw [List.length_set,List.length_set,List.length_map] at this;rw [this];show inner.length * 1=_;omega
 refine ⟨fun k=>nv i.toNat j.toNat (f k),hok,Dk,?_,?_,fun m p hm=>?_⟩
 ·rw [List.length_zipIdx,K8,← hlen];exact qj
 ·rw [List.length_zipIdx,K8,Fc,hlen];show _=xs.length * 1;omega
 ·rw [List.getElem?_zipIdx, Nat.zero_add] at hm
  obtain ⟨q,hq,rfl⟩:=Option.map_eq_some_iff.1 hm
  have hml:m < xs.length:=by
   have:=(List.getElem?_eq_some_iff.1 hq).1
   rwa [K8] at this
  have uq:i.toNat < xs.length:=by omega
  have Fb:j.toNat < xs.length:=by omega
  have yT:q=xs[nv i.toNat j.toNat m]'(K6 uq Fb hml):=by
   have:=Sd xs i.toNat j.toNat m uq Fb hml (xs.getD j.toNat []) (xs.getD i.toNat []) (by simp [List.getD_eq_getElem?_getD,Fb]) (by simp [List.getD_eq_getElem?_getD,uq])
   unfold swp at hq
   rw [this] at hq
   injection hq with hq
   exact hq.symm
  have hs:=K6 uq Fb hml
  have hold:=hr.2 (nv i.toNat j.toNat m) (xs[nv i.toNat j.toNat m],nv i.toNat j.toNat m) (Kd.tM (List.getElem?_eq_getElem hs))
  have nc:=(nj.2 m [inner[nv i.toNat j.toNat m]'(by omega)] (by
   rw [Sd (inner.map fun u=>[u]) i.toNat j.toNat m (by rw [List.length_map];omega) (by rw [List.length_map];omega) (by rw [List.length_map];omega) [vj] [vi] (by simp [wN]) (by simp [Iy])]
   simp)).1
  have hcells:(Dk.drop (m * (KL ei).sz)).take (KL ei).sz=(inner.drop (nv i.toNat j.toNat m * (KL ei).sz)).take (KL ei).sz:=by
   have h1:(inner.drop (nv i.toNat j.toNat m * 1)).take 1=[inner[nv i.toNat j.toNat m]'(by omega)]:=by
    rw [Nat.mul_one,List.drop_eq_getElem_cons (by omega)];rfl
   show (Dk.drop (m * 1)).take 1=(inner.drop (nv i.toNat j.toNat m * 1)).take 1
   rw [h1];exact nc
  show (KL ei).M _ base _ q ((Dk.drop (m * (KL ei).sz)).take (KL ei).sz)
  rw [hcells,yT]
  refine (KL ei).gQ (fun k hk=>?_) ((KL ei).kZ (w1:=(W.setCell ⟨g,i.toNat,none⟩ vj).setCell ⟨g,j.toNat,none⟩ vi) (fun k hk=>hg.block k hk.2.2.1 (fun he=>hk.1.1.2 (by rw [he];exact hgo))) ((KL ei).mb hold))
  exact ⟨hk.1.1,by
   have h1:f k=nv i.toNat j.toNat m:=hk.1.2
   show nv i.toNat j.toNat (f k)=m
   rw [h1,adY]⟩
theorem acR {P : Program} {ops : Array Oper} {Q : Exit → Act → World → Prop} {md : Region.Mode} {S : World → Prop} {ds : List Nat} {i d : Nat} {Ni : Option Tmp} {oi od : Oper} {fuel EU : Nat} {l l3 : Array Bool} {a a3 : Act} {w w3 : World} (li ld : Array Bool) (hi : ops[i]? = some oi) (hd : ops[d]? = some od) (ym : oi.dst = Ni) (Zv : od.dst = none)
  (hc:(Region.ready md ops l == [i,d] && l.setIfInBounds i true == li && l.setIfInBounds d true == ld)=true) (hdd:d ∈ ds)
  (h1:eN P md ops Q S ds EU l3 a3 w3→∀ K:Act→World→Prop,Shut (∀ a',eN P md ops Q S ds fuel li a' w→K a' w)→if Region.wanted oi (yielded ops a.tmps)=true then Oper.wp P oi a w K Q else K (a.put Ni undef) w)
  (h2:eN P md ops Q S ds EU l3 a3 w3→∀ K:Act→World→Prop,Shut (∀ a' w',eN P md ops Q S ds fuel ld a' w'→K a' w')→if Region.wanted od (yielded ops a.tmps)=true then Oper.wp P od a w K Q else K (a.put none undef) w)
  (h:eN P md ops Q S ds EU l3 a3 w3):eN P md ops Q S ds (fuel+1) l a w:=by
 subst ym
 simp only [Bool.and_eq_true,beq_iff_eq] at hc
 obtain ⟨⟨h3,h4⟩,h5⟩:=hc
 subst h4
 subst h5
 refine AW h3 (by simp) (fun j hj=>?_)
 rcases List.mem_cons.1 hj with rfl|hj
 ·exact wpOp_step hi (fun K hK=>h1 h K (fun a' hW=>hK a' w ⟨fun _ hs=>hs,hW⟩))
 ·obtain rfl := List.mem_singleton.1 hj
  rw [← Zv] at h2
  exact wpOp_step hd (fun K hK=>h2 h K (fun a' w' hW=>hK a' w' ⟨fun hn=>absurd hdd hn,hW⟩))
theorem ac1 {P : Program} {ops : Array Oper} {Q : Exit → Act → World → Prop} {md : Region.Mode} {S : World → Prop} {ds : List Nat} {i : Nat} {Ni : Option Tmp} {oi : Oper} {fuel : Nat} {l : Array Bool} {a : Act} {w : World} (li : Array Bool) (hi : ops[i]? = some oi) (ym : oi.dst = Ni) (hc : xB md ops l li i = true)
  (h1:∀ K:Act→World→Prop,Shut (∀ a',eN P md ops Q S ds fuel li a' w→K a' w)→if Region.wanted oi (yielded ops a.tmps)=true then Oper.wp P oi a w K Q else K (a.put Ni undef) w):eN P md ops Q S ds (fuel+1) l a w:=by
 subst ym
 simp only [xB,Bool.and_eq_true,beq_iff_eq] at hc
 obtain ⟨h3,h4⟩:=hc
 subst h4
 refine AW h3 (by simp) (fun j hj=>?_)
 obtain rfl:=List.mem_singleton.1 hj
 exact wpOp_step hi (fun K hK=>h1 K (fun a' hW=>hK a' w ⟨fun _ hs=>hs,hW⟩))
theorem VT {w W:World} {g j:Nat} {v:Value} (h:Below w.heap.size w W) (hg:au (w.heap.size≤g)):Below w.heap.size w (W.setCell ⟨g,j,none⟩ v):=dM h hg.out
theorem bl {b:Nat} {w0 w:World} (h:Below b w0 w:=by repeat (first|(with_reducible first|exact HB.out|apply dA|apply akz|apply cP|refine VT ?_ (by assumption))|exact HB.out)):Below b w0 w:=h
theorem bk {w:World} {g:Nat} {o:Obj} (h:w.heap[g]?=some o:=by (with_reducible repeat (first|refine ee ?_ _|refine ct ?_|refine dX ?_ _));exact au.out (by assumption)):w.heap[g]?=some o:=h
theorem oD {p:Prop} [Decidable p] (h:decide p=true:=by first|(with_reducible assumption)|assumption):p:=of_decide_eq_true h
theorem gm {α:Type} {a b:α} (h:a=b:=by (try simp only [List.map_toArray,List.map_cons,List.map_nil]);first|done|rfl|(simp only [List.length_drop,List.length_take];rfl)):a=b:=h
theorem rs {α:Type} {a b:α} (h:a=b:=by first|rfl|(simp;done)|(simp [*];done)):a=b:=h
theorem hbc {w w':World} {a:Addr} {v:Value} (B:au (Below w.heap.size w w')) (h:w.cell? a=some v):w'.cell? a=some v:=(B.out.cell (World.block_lt_of_cell? w _ h)).trans h
/-! ### short words -/
def amV : Nat → Nat → List Bool
 | 0,_=>[]
 | n+1,b=>Nat.beq (b % 2) 1 :: amV n (b / 2)
/-- A row of bools, as the bits of a number. -/
def ba (n b:Nat):Array Bool:=⟨amV n b⟩
theorem pu {P : Program} {md : Region.Mode} {ops : Array Oper} {Q : Exit → Act → World → Prop} {S : World → Prop} {ds : List Nat} {T : Bool × List (List Nat × List Nat)} {oi : Oper} {v : Value} {fuel : Nat} {l : Array Bool} {a a' : Act} {w : World} (i : Nat) (N : Option Tmp) (l' : Array Bool) (HT : au (gF md ops = T)) (hi : ops[i]? = some oi := by exact rfl) (hN : oi.dst = N := by exact rfl) (hc : amN T l.toList l'.toList i = true := by kernel_rfl)
  (hQ:∀ c a w,Q (.panic c) (a.put oi.dst v) w→Q (.panic c) a w:=by exact (fun _ _ _ h=>h)) (hy:Yields P ops oi v a:=by refine Or.inl ⟨by rfl,?_⟩;intro w';go_simp;with_reducible rfl) (ha:a.put N v=a':=by simp only [Act.put,zI,zZ,zS,akx,cu];rfl) (h:eN P md ops Q S ds fuel l' a' w):eN P md ops Q S ds (fuel+1) l a w :=
 lZ l' hi hN (VP HT.out hc) hQ hy ha h
theorem ta {P : Program} {md : Region.Mode} {ops : Array Oper} {Q : Exit → Act → World → Prop} {S : World → Prop} {ds B : List Nat} {T : Bool × List (List Nat × List Nat)} {oi : Oper} {v : Value} {fuel : Nat} {l : Array Bool} {a a' : Act} {w : World} (i : Nat) (N : Option Tmp) (l' : Array Bool) (HT : au (gF md ops = T)) (HW : au (akZ T.2 B = true)) (hS : S w) (hi : ops[i]? = some oi := by exact rfl) (hN : oi.dst = N := by exact rfl) (hc : Lb T B ds l.toList l'.toList i = true := by kernel_rfl)
  (hQ:∀ c a w,Q (.panic c) (a.put oi.dst v) w→Q (.panic c) a w:=by exact (fun _ _ _ h=>h)) (hy:YieldsIf P ops S oi v a) (ha:a.put N v=a':=by simp only [Act.put,zI,zZ,zS,akx,cu];rfl) (h:eN P md ops Q S ds fuel l' a' w):eN P md ops Q S ds (fuel+1) l a w :=
 l5 l' hi hN (aen HT.out HW.out hc) hQ hy hS ha h
theorem iS {α:Type} {p:Prop} [Decidable p] {x:Option α} {r:α} (h:(if p then x else none)=some r):p∧x=some r:=by
 by_cases c:p
 ·rw [if_pos c] at h;exact ⟨c,h⟩
 ·rw [if_neg c] at h;exact absurd h (by simp)
theorem aR {α:Type} {d:Kd α} {e b:Nat} {ok:Nat→Prop} {v:Value} {xs:List α} {w w1:World} (h:Kd.R d e w b ok v xs) (g:Kd.R d e w b ok v xs→Kd.R d e w1 b ok v xs:=by intro h;(with_reducible repeat (first|apply Kd.bN|apply Kd.bQ|apply Kd.bn));exact h):Kd.R d e w1 b ok v xs:=g h
theorem aS {α:Type} {d:Kd α} {e b:Nat} {ok:Nat→Prop} {v:Value} {xs:List α} {w w1:World} (h:Kd.S d e w b ok v xs) (g:Kd.S d e w b ok v xs→Kd.S d e w1 b ok v xs:=by intro h;(with_reducible repeat (first|apply Kd.gI|apply Kd.gJ|apply Kd.eT));exact h):Kd.S d e w1 b ok v xs:=g h
theorem aV {α:Type} {d:Kd α} {e b:Nat} {ok:Nat→Prop} {v:Value} {xs:List α} {w w1:World} (h:Kd.V d e w b ok v xs) (g:Kd.V d e w b ok v xs→Kd.V d e w1 b ok v xs:=by intro h;(with_reducible repeat (first|apply Kd.Vx|apply Kd.Vy|apply Kd.amK));exact h):Kd.V d e w1 b ok v xs:=g h
theorem aN {α:Type} {d:Kd α} {e b:Nat} {ok:Nat→Prop} {v:Value} {xs:List α} {w w1:World} (h:Kd.N d e w b ok v xs) (g:Kd.N d e w b ok v xs→Kd.N d e w1 b ok v xs:=by intro h;(with_reducible repeat (first|apply Kd.US|apply Kd.UU|apply Kd.MS));exact h):Kd.N d e w1 b ok v xs:=g h
theorem aQ {α:Type} {d:Kd α} {e b:Nat} {ok:Nat→Prop} {v:Value} {xs:List α} {w w1:World} (h:Kd.Q d e w b ok v xs) (g:Kd.Q d e w b ok v xs→Kd.Q d e w1 b ok v xs:=by intro h;(with_reducible repeat (first|apply Kd.U'|apply Kd.Vb|apply Kd.Va));exact h):Kd.Q d e w1 b ok v xs:=g h
theorem aC {α:Type} {d:Kd α} {n:Nat} {A:Option Addr} {xs:List α} {w w1:World} (h:Kd.C d w A n xs) (g:Kd.C d w A n xs→Kd.C d w1 A n xs:=by intro h;repeat (first|exact h|(with_reducible refine Kd.kK ?_ _)|(with_reducible refine Kd.kY ?_ _)|(with_reducible refine Kd.jY ?_))):Kd.C d w1 A n xs:=g h
abbrev sO (a:Int) (A:Option Addr) {α:Type} (l:List α) (c t:Nat):Obj:=.cells #[.int .i64 a,.slice A l.length c] t (0,0)
theorem k0 {p:Prop} (h:p):au p:=au.mk h
end Go.Proofs.Ytoebojnhchocaaa.C
/- Set with little white space, by a program. -/
