/- The functions that one law reaches, each as a Lean function, and that Go's call comes to what it says. Condition of each: that the Lean function answers (is not none). -/
import Derived.Test.YtoebojnhchocaaaProg
import Derived.Below
import Derived.Deep.Draws
import Derived.Deep.AppendLies
import Derived.Maps.AppendAt
import Derived.OwnWalk
import Derived.Laws.BytesArg
import Derived.Laws.MakeOwn
import Derived.Laws.OwnMore
import Derived.Deep.OwnRows
import Derived.Tactics
import Derived.Lib.ConvBytes
import Derived.Laws.Slices
import Derived.WalkKit
import Derived.KernelRfl
import Derived.RowKit3
import Derived.Deep.LoopGhost
import Derived.Deep.QuietTactic
import Derived.BigQuiet
import Derived.WideLaws
import Derived.Deep.DeepCutAuto
import Derived.Deep.CutBlock
import Derived.Deep.RegionHeld3
import Derived.Laws.Rows
import Derived.Lib.AppendStr
import Derived.ArgAppend
import Derived.Laws.IdiomCopy
import Derived.OrdersHeld
import Derived.Laws.BitsLemmas
import Derived.RowKit
import Derived.Lib.SliceRun
import Derived.Deep.RegionLaw
import Derived.Shelf.Bits.Mul64
import Derived.Shelf.Spec.SlicesInsertGrow
import Derived.Test.YtoebojnhchocaaaDWWords
import Derived.Test.YtoebojnhchocaaaDWLast
import Derived.Test.YtoebojnhchocaaaDWTab
import Derived.Test.YtoebojnhchocaaaDWWords
import Derived.Test.YtoebojnhchocaaaDWLast
import Derived.Test.YtoebojnhchocaaaDWApart
import Derived.Test.YtoebojnhchocaaaDWArr
import Derived.Test.YtoebojnhchocaaaDWApart
import Derived.Test.YtoebojnhchocaaaDWArr
import Derived.Test.YtoebojnhchocaaaDWFoot
import Derived.Test.YtoebojnhchocaaaDWKept
import Derived.Test.YtoebojnhchocaaaDWShare
import Derived.Test.YtoebojnhchocaaaDWN
import Derived.Test.YtoebojnhchocaaaDWN
import Derived.Test.YtoebojnhchocaaaDWAt
import Derived.Test.YtoebojnhchocaaaDWRepsOne
import Derived.Test.YtoebojnhchocaaaDWGuard
import Derived.Test.YtoebojnhchocaaaDWNEv
import Derived.Test.YtoebojnhchocaaaDWMore
namespace Go.Proofs.Ytoebojnhchocaaa.D
open Go.RowKit Go.Proofs.bR.eC Go.Proofs.bR.je Go.Proofs.bR.jO
attribute [local go_sem] max2_int min2_int max_two min_two max_three min_three max_four min_four   -- for this text's walks alone
set_option linter.unusedVariables false
set_option linter.unusedSimpArgs false
def Pk : Option Int → Value
 | none=>.nilIface
 | some c=>.iface 0 (.int .i64 c)
theorem bz:Pk none=.nilIface:=rfl
theorem bA (c:Int):Pk (some c)=.iface 0 (.int .i64 c):=rfl
theorem alU:(Try.prog.info? 2).map (fun i=>(i.zero,i.size,i.bytes))=some (some (.int .i64 0),1,8):=by kernel_rfl
theorem xI:(Try.prog.info? 28).map (fun i=>(i.zero,i.size,i.bytes))=some (some (.slice none 0 0),1,24):=by kernel_rfl
-- the values' own types
def ah (xs:List (List Int)) (i:Int):(List Int):=xs.getD i.toNat ([]:List Int)
theorem cX {w:World} {A:Option Addr} {n:Nat} {xs:List (List Int)} (h:Kd.C (Kd.slice 2 (Kd.int .i64)) w A n xs) (i:Int) (h0:0≤i) (h1:i < n):∃ ad A0 c0,A=some ad∧w.cell? (ad.add i.toNat)=some (.slice A0 (ah xs i).length c0)∧(ah xs i).length≤c0∧(Kd.int .i64).C w A0 (ah xs i).length (ah xs i):=by
 obtain ⟨ad,c,e,_,hK,hc0⟩:=Kd.Up h ([]:List Int) i h0 h1
 have hc:∀ j u,c[j]?=some u→w.cell? (ad.add (i.toNat * 1+j))=some u:=hc0
 obtain ⟨A0,c0,rfl,l0,g0⟩:=hK
 exact ⟨ad,A0,c0,e,by have hq:=hc 0 _ rfl;rwa [Nat.mul_one,Nat.add_zero] at hq,l0,g0⟩
/-! ### small words for the contracts proved by hand -/
theorem zI {α:Type} (l:List α) (i:Nat) (a:α):l.toArray.setIfInBounds i a=(l.set i a).toArray:=List.setIfInBounds_toArray l i a
theorem zZ {α:Type} (a b:α) (l:List α):(a :: l).set 0 b=b :: l:=List.set_cons_zero
theorem zS {α:Type} (a b:α) (l:List α) (n:Nat):(a :: l).set (n+1) b=a :: l.set n b:=List.set_cons_succ
def idxFrom (p : Int → Bool) : List Int → Nat → Int
 | [],_=>-1
 | x :: xs,k=>if p x then k else idxFrom p xs (k+1)
theorem Bo (p:Int→Bool) (l:List Int) (k:Nat) (h:k < l.length):idxFrom p (l.drop k) k=if p (rd l k) then (k:Int) else idxFrom p (l.drop (k+1)) (k+1):=by
 rw [List.drop_eq_getElem_cons h,idxFrom,rd,Int.toNat_natCast,List.getD_eq_getElem?_getD,List.getElem?_eq_getElem h];rfl
theorem K4 (p:Int→Bool) (l:List Int) (k:Nat):decide (0≤idxFrom p l k)=l.any p:=by
 induction l generalizing k with
 | nil=>simp [idxFrom]
 | cons x xs ih =>
  rw [idxFrom,List.any_cons]
  cases p x with
  | true=>simp
  | false=>simp;rw [← ih (k+1)]
def nL (p : List Int → Option Bool) : List (List Int) → Nat → Option Int
 | [],_=>some (-1)
 | x :: xs,k=>(p x).bind fun b=>if b=true then some (k:Int) else nL p xs (k+1)
abbrev KL (e:Nat):Kd (List Int):=Kd.slice e (Kd.int .i64)
theorem mid (lo m s:Nat) (h:lo≤s):∃ q,lo≤q∧q≤s∧(∀ k,k < m→lo≤k→k < s→k < q)∧(∀ k,m≤k→lo≤k→k < s→q≤k):=by
 by_cases h1:m≤lo
 ·exact ⟨lo,by omega,h,fun k _ _ _=>by omega,fun k _ h2 _=>h2⟩
 ·by_cases h2 : m ≤ s
  ·exact ⟨m,by omega,h2,fun k h _ _=>h,fun k h _ _=>h⟩
  ·exact ⟨s,h,by omega,fun k _ _ h=>h,fun k h3 _ h4=>by omega⟩
/-- What a slot holds is the value that lies in a whole at an index. -/
def iu (w:World) (V:Value) (j:Int) (u:Value):Prop:=∃ ad n c,V=.slice (some ad) n c∧0≤j∧j < (n:Int)∧w.cell? (ad.add j.toNat)=some u
theorem iu.below {w w1:World} {V:Value} {j:Int} {u:Value} (h:iu w V j u) (hb:Below w.heap.size w w1):iu w1 V j u:=by
 obtain ⟨ad,n,c,e,h0,h1,hc⟩:=h
 exact ⟨ad,n,c,e,h0,h1,El hb hc⟩
theorem amg {w:World} {V:Value} {j:Int} {u:Value} (h:iu w V j u):0≤j:=by
 obtain ⟨ad,n,c,e,h0,h1,hc⟩:=h
 exact h0
theorem mH {w:World} {A:Option Addr} {n c:Nat} {j:Int} {u:Value} (h:iu w (.slice A n c) j u):j < (n:Int):=by
 obtain ⟨ad,n,c,e,h0,h1,hc⟩:=h
 injection e with _ e2 _
 subst e2
 exact h1
theorem iu.alloc {w:World} {V:Value} {j:Int} {u:Value} (h:iu w V j u) (o:Obj):iu (w.alloc o) V j u:=h.below (dh (Below.refl _ _) o)
theorem iu.drew {w:World} {V:Value} {j:Int} {u:Value} (h:iu w V j u):iu w.drew V j u:=h.below (wS (Below.refl _ _))
theorem iu.drewN {w:World} {V:Value} {j:Int} {u:Value} (h:iu w V j u) (m:Nat):iu (w.drewN m) V j u:=h.below (ek (Below.refl _ _) m)
theorem FV {w:World} {ad:Addr} {n c:Nat} {j:Int} {u v:Value} (h:iu w (.slice (some ad) n c) j u) (hc:w.cell? (ad.add j.toNat)=some v):u=v:=by
 obtain ⟨WH,n',c',e,_,_,h'⟩:=h
 injection e with e1 _ _
 injection e1 with e1
 subst e1
 exact Option.some.inj (h'.symm.trans hc)
theorem iu.set {w:World} {V:Value} {j:Int} {u:Value} (h:iu w V j u) {e e' g off:Nat} {x v:Value} (hP:∀ k,V.ownBlock=some k→∃ cells,w.heap[k]?=some (.cells cells e (0,0))) (hx:∀ k,v.ownBlock=some k→∃ cells,w.heap[k]?=some (.cells cells e' (0,0))) (hv:v.ownBlock=some g) (hne:e ≠ e'):iu (w.setCell ⟨g,off,none⟩ x) V j u:=by
 obtain ⟨ad,n,c,rfl,h0,h1,hc⟩:=h
 refine ⟨ad,n,c,rfl,h0,h1,?_⟩
 rw [cell_far]
 ·exact hc
 ·rw [add_block]
  intro h_
  obtain ⟨c1,h1⟩:=hP ad.block (by simp [Value.ownBlock])
  obtain ⟨c2,h2⟩:=hx ad.block (by rw [hv];exact congrArg some h_.symm)
  rw [h1] at h2
  injection h2 with h2
  injection h2 with _ h2
  exact hne h2
theorem Om {w:World} {g t:Nat} {l:List Bool} (h:w.heap[g]?=some (.cells (l.map Value.bool).toArray t (0,0))) (i:Int) (h0:0≤i) (h1:i < (l.length:Int)):w.cell? ⟨g,i.toNat,none⟩=some (.bool (nQ false l i)):=by
 rw [av h i.toNat,nQ,List.getD_eq_getElem?_getD,List.getElem?_eq_getElem (by omega:i.toNat < l.length)]
 simp [List.getElem?_eq_getElem (by omega:i.toNat < l.length)]
theorem am7 {ad:Addr} {n c k i:Nat} (h:some k ≠ (Value.slice (some ad) n c).ownBlock):some (ad.add i).block ≠ some k:=by
 rw [add_block]
 intro e
 exact h (by rw [← e];simp [Value.ownBlock])
def swp (xs:List (List Int)) (i j:Int):List (List Int):=(xs.set i.toNat (xs.getD j.toNat [])).set j.toNat (xs.getD i.toNat [])
theorem L_ (xs:List (List Int)) (i j:Int):(swp xs i j).length=xs.length:=by simp [swp]
def nu (i j m:Nat):Nat:=if m=j then i else if m=i then j else m
theorem aeD (i j m:Nat):nu i j (nu i j m)=m:=by unfold nu;(repeat' split)<;>simp_all
theorem L8 {i j m n:Nat} (hi:i < n) (hj:j < n) (hm:m < n):nu i j m < n:=by unfold nu;(repeat' split)<;>assumption
theorem Te {α:Type} (l:List α) (i j m:Nat) (hi:i < l.length) (hj:j < l.length) (hm:m < l.length) (a b:α) (ha:a=l[j]) (hb:b=l[i]):((l.set i a).set j b)[m]?=some (l[nu i j m]'(L8 hi hj hm)):=by
 subst ha;subst hb
 rw [List.getElem?_set]
 unfold nu
 by_cases h1:m=j
 ·subst h1;simp [hm]
 ·rw [if_neg (Ne.symm h1), List.getElem?_set]
  by_cases h2:m=i
  ·subst h2;simp [h1,hi]
  ·rw [if_neg (Ne.symm h2)];simp [h1,h2,hm]
theorem Ww {ei e base n cap g : Nat} {ok : Nat → Prop} {W : World} {xs : List (List Int)} (h : Kd.S (KL ei) e W base ok (.slice (some ⟨g, 0, none⟩) n cap) xs) (i j : Int) (r7 : 0 ≤ i) (hi : i < n) (hj0 : 0 ≤ j) (hj : j < n) {vj : Value}
  (KZ:W.cell? ⟨g,j.toNat,none⟩=some vj):(W.setCell ⟨g,i.toNat,none⟩ vj).cell? ⟨g,j.toNat,none⟩=some vj∧(W.setCell ⟨g,i.toNat,none⟩ vj).frozen? ⟨g,j.toNat,none⟩=false:=by
 obtain ⟨_,_,_,_,hfr⟩:=Kd.Fg (Kd.qU h) [] j hj0 hj
 have QT:=hfr 0
 rw [show (KL ei).sz=1 from rfl,Nat.mul_one,Nat.add_zero] at QT
 obtain ⟨vi,DM⟩:∃ vi,W.cell? ⟨g,i.toNat,none⟩=some vi:=by
  obtain ⟨c,hcl,_,pQ,_⟩:=Kd.Fg (Kd.qU h) [] i r7 hi
  have hc0:0 < c.length:=by rw [hcl];exact Nat.one_pos
  have h2:=pQ 0 c[0] (List.getElem?_eq_getElem hc0)
  rw [show (KL ei).sz=1 from rfl,Nat.mul_one,Nat.add_zero] at h2
  exact ⟨_,h2⟩
 have hsz:(KL ei).sz=1:=rfl
 have hn:n=xs.length:=by have:=(Kd.alw h).1;exact this
 obtain ⟨f,hR⟩:=h
 obtain ⟨hok,inner,ho,hr⟩:=hR
 have hlen:inner.length=xs.length:=by have:=hr.1;rw [List.length_zipIdx] at this;rw [this];show xs.length * 1=_;omega
 have hgo:some g=(Value.slice (some ⟨g,0,none⟩) n cap).ownBlock:=by simp [Value.ownBlock]
 rw [List.length_zipIdx] at ho
 have hcell:∀ m (hm:m < inner.length),W.cell? ⟨g,m,none⟩=some inner[m]:=by
  intro m hm
  have:=ho.cells (g:=g) hgo.symm m inner[m] (List.getElem?_eq_getElem hm)
  rwa [add_plain] at this
 have hone:∀ m (hm:m < inner.length),inner[m].oneCell'=true:=by
  intro m hm
  have hm':m < xs.length:=by omega
  have h1:=hr.2 m (xs[m],m) (Kd.tZ (List.getElem?_eq_getElem hm'))
  refine (KL ei).lf ((KL ei).jd h1) _ ?_
  have:(inner.drop (m * 1)).take 1=[inner[m]]:=by rw [Nat.mul_one,List.drop_eq_getElem_cons hm];rfl
  show inner[m] ∈ (inner.drop (m * 1)).take 1
  rw [this];exact List.mem_singleton.2 rfl
 have F0:i.toNat < inner.length:=by omega
 have amV:j.toNat < inner.length:=by omega
 have JI:vi=inner[i.toNat]:=by have:=(hcell i.toNat F0).symm.trans DM;injection this with this;exact this.symm
 have amH:vj=inner[j.toNat]:=by have:=(hcell j.toNat amV).symm.trans KZ;injection this with this;exact this.symm
 have ze:(Kd.raw 1).R e W base (fun _=>True) (.slice (some ⟨g,0,none⟩) n cap) (inner.map fun u=>[u]):=by
  refine ⟨fun _ _=>trivial,inner,?_,?_,fun m p hm=>?_⟩
  ·rw [List.length_map,hlen];exact ho
  ·rw [List.length_map];show inner.length=inner.length * 1;omega
  ·rw [List.getElem?_map] at hm
   obtain ⟨u,hu,rfl⟩:=Option.map_eq_some_iff.1 hm
   obtain ⟨hml,rfl⟩:=List.getElem?_eq_some_iff.1 hu
   have:(inner.drop (m * 1)).take 1=[inner[m]]:=by rw [Nat.mul_one,List.drop_eq_getElem_cons hml];rfl
   show (inner.drop (m * 1)).take 1=[inner[m]]∧((inner.drop (m * 1)).take 1).length=1∧∀ u ∈ (inner.drop (m * 1)).take 1,u.oneCell'=true
   rw [this]
   exact ⟨rfl,rfl,fun u hu=>by rw [List.mem_singleton.1 hu];exact hone m hml⟩
 have s1:=Kd.Fi ze i r7 hi (c:=[vi]) (seg:=[vj]) (j:=0) (x':=[vj]) (b9:=fun _=>False) rfl (fun q u hu=>by
   cases q with
   | zero=>simp at hu;subst hu;show W.cell? ⟨g,i.toNat * 1+0,none⟩=_;rw [Nat.mul_one,Nat.add_zero];exact DM
   | succ q=>simp at hu) (Nat.le_refl 1) ⟨rfl,rfl,fun u hu=>by
    rw [List.mem_singleton.1 hu,amH];exact hone _ amV⟩ (fun _ hk=>hk.elim)
 have e1:W.setCells g (i.toNat * (Kd.raw 1).sz+0) [vj]=W.setCell ⟨g,i.toNat,none⟩ vj:=by
  show W.setCell ⟨g,i.toNat * 1+0,none⟩ vj=_
  rw [Nat.mul_one,Nat.add_zero]
 rw [e1] at s1
 obtain ⟨s1,g1⟩:=s1
 have K0:(W.setCell ⟨g,i.toNat,none⟩ vj).cell? ⟨g,j.toNat,none⟩=some vj:=by
  obtain ⟨_,tI,vQ,c_⟩:=id s1
  have KO:tI.length=inner.length:=by
   have:=c_.1;rw [List.length_set,List.length_map] at this;rw [this];show inner.length * 1=_;omega
  have:=c_.2 j.toNat [inner[j.toNat]] (by
   rw [List.getElem?_set]
   by_cases hij:i.toNat=j.toNat
   ·rw [if_pos hij,if_pos (by rw [List.length_map];omega),amH]
   ·rw [if_neg hij,List.getElem?_map,List.getElem?_eq_getElem amV];rfl)
  have h2:(tI.drop (j.toNat * 1)).take 1=[inner[j.toNat]]:=this.1
  have h3:tI[j.toNat]?=some inner[j.toNat]:=by
   have yZ:j.toNat < tI.length:=by omega
   rw [Nat.mul_one,List.drop_eq_getElem_cons yZ] at h2
   have:tI[j.toNat]=inner[j.toNat]:=by injection h2
   rw [List.getElem?_eq_getElem yZ,this]
  have h4:=vQ.cells (g:=g) hgo.symm j.toNat _ h3
  rw [add_plain] at h4
  rw [h4,amH]
 exact ⟨K0,(World.frozen?_setCell _ _ _ _).trans QT⟩
theorem WA {ei e base n cap g : Nat} {ok : Nat → Prop} {W : World} {xs : List (List Int)} (h : Kd.S (KL ei) e W base ok (.slice (some ⟨g, 0, none⟩) n cap) xs) (i j : Int) (r7 : 0 ≤ i) (hi : i < n) (hj0 : 0 ≤ j) (hj : j < n) {vi vj : Value}
  (DM:W.cell? ⟨g,i.toNat,none⟩=some vi) (KZ:W.cell? ⟨g,j.toNat,none⟩=some vj) :
  Kd.S (KL ei) e ((W.setCell ⟨g,i.toNat,none⟩ vj).setCell ⟨g,j.toNat,none⟩ vi) base ok (.slice (some ⟨g,0,none⟩) n cap) (swp xs i j)∧W.grownBy ((W.setCell ⟨g,i.toNat,none⟩ vj).setCell ⟨g,j.toNat,none⟩ vi) (some g):=by
 have hsz:(KL ei).sz=1:=rfl
 have hn:n=xs.length:=by have:=(Kd.alw h).1;exact this
 obtain ⟨f,hR⟩:=h
 obtain ⟨hok,inner,ho,hr⟩:=hR
 have hlen:inner.length=xs.length:=by have:=hr.1;rw [List.length_zipIdx] at this;rw [this];show xs.length * 1=_;omega
 have hgo:some g=(Value.slice (some ⟨g,0,none⟩) n cap).ownBlock:=by simp [Value.ownBlock]
 rw [List.length_zipIdx] at ho
 have hcell:∀ m (hm:m < inner.length),W.cell? ⟨g,m,none⟩=some inner[m]:=by
  intro m hm
  have:=ho.cells (g:=g) hgo.symm m inner[m] (List.getElem?_eq_getElem hm)
  rwa [add_plain] at this
 have hone:∀ m (hm:m < inner.length),inner[m].oneCell'=true:=by
  intro m hm
  have hm':m < xs.length:=by omega
  have h1:=hr.2 m (xs[m],m) (Kd.tZ (List.getElem?_eq_getElem hm'))
  refine (KL ei).lf ((KL ei).jd h1) _ ?_
  have:(inner.drop (m * 1)).take 1=[inner[m]]:=by rw [Nat.mul_one,List.drop_eq_getElem_cons hm];rfl
  show inner[m] ∈ (inner.drop (m * 1)).take 1
  rw [this];exact List.mem_singleton.2 rfl
 have F0:i.toNat < inner.length:=by omega
 have amV:j.toNat < inner.length:=by omega
 have JI:vi=inner[i.toNat]:=by have:=(hcell i.toNat F0).symm.trans DM;injection this with this;exact this.symm
 have amH:vj=inner[j.toNat]:=by have:=(hcell j.toNat amV).symm.trans KZ;injection this with this;exact this.symm
 have ze:(Kd.raw 1).R e W base (fun _=>True) (.slice (some ⟨g,0,none⟩) n cap) (inner.map fun u=>[u]):=by
  refine ⟨fun _ _=>trivial,inner,?_,?_,fun m p hm=>?_⟩
  ·rw [List.length_map,hlen];exact ho
  ·rw [List.length_map];show inner.length=inner.length * 1;omega
  ·rw [List.getElem?_map] at hm
   obtain ⟨u,hu,rfl⟩:=Option.map_eq_some_iff.1 hm
   obtain ⟨hml,rfl⟩:=List.getElem?_eq_some_iff.1 hu
   have:(inner.drop (m * 1)).take 1=[inner[m]]:=by rw [Nat.mul_one,List.drop_eq_getElem_cons hml];rfl
   show (inner.drop (m * 1)).take 1=[inner[m]]∧((inner.drop (m * 1)).take 1).length=1∧∀ u ∈ (inner.drop (m * 1)).take 1,u.oneCell'=true
   rw [this]
   exact ⟨rfl,rfl,fun u hu=>by rw [List.mem_singleton.1 hu];exact hone m hml⟩
 have s1:=Kd.Fi ze i r7 hi (c:=[vi]) (seg:=[vj]) (j:=0) (x':=[vj]) (b9:=fun _=>False) rfl (fun q u hu=>by
   cases q with
   | zero=>simp at hu;subst hu;show W.cell? ⟨g,i.toNat * 1+0,none⟩=_;rw [Nat.mul_one,Nat.add_zero];exact DM
   | succ q=>simp at hu) (Nat.le_refl 1) ⟨rfl,rfl,fun u hu=>by
    rw [List.mem_singleton.1 hu,amH];exact hone _ amV⟩ (fun _ hk=>hk.elim)
 have e1:W.setCells g (i.toNat * (Kd.raw 1).sz+0) [vj]=W.setCell ⟨g,i.toNat,none⟩ vj:=by
  show W.setCell ⟨g,i.toNat * 1+0,none⟩ vj=_
  rw [Nat.mul_one,Nat.add_zero]
 rw [e1] at s1
 obtain ⟨s1,g1⟩:=s1
 have K0:(W.setCell ⟨g,i.toNat,none⟩ vj).cell? ⟨g,j.toNat,none⟩=some vj:=by
  obtain ⟨_,tI,vQ,c_⟩:=id s1
  have KO:tI.length=inner.length:=by
   have:=c_.1;rw [List.length_set,List.length_map] at this;rw [this];show inner.length * 1=_;omega
  have:=c_.2 j.toNat [inner[j.toNat]] (by
   rw [List.getElem?_set]
   by_cases hij:i.toNat=j.toNat
   ·rw [if_pos hij,if_pos (by rw [List.length_map];omega),amH]
   ·rw [if_neg hij,List.getElem?_map,List.getElem?_eq_getElem amV];rfl)
  have h2:(tI.drop (j.toNat * 1)).take 1=[inner[j.toNat]]:=this.1
  have h3:tI[j.toNat]?=some inner[j.toNat]:=by
   have yZ:j.toNat < tI.length:=by omega
   rw [Nat.mul_one,List.drop_eq_getElem_cons yZ] at h2
   have:tI[j.toNat]=inner[j.toNat]:=by injection h2
   rw [List.getElem?_eq_getElem yZ,this]
  have h4:=vQ.cells (g:=g) hgo.symm j.toNat _ h3
  rw [add_plain] at h4
  rw [h4,amH]
 have s2:=Kd.Fi s1 j hj0 hj (c:=[vj]) (seg:=[vi]) (j:=0) (x':=[vi]) (b9:=fun _=>False) rfl (fun q u hu=>by
   cases q with
   | zero=>simp at hu;subst hu;show World.cell? _ ⟨g,j.toNat * 1+0,none⟩=_;rw [Nat.mul_one,Nat.add_zero];exact K0
   | succ q=>simp at hu) (Nat.le_refl 1) ⟨rfl,rfl,fun u hu=>by
    rw [List.mem_singleton.1 hu,JI];exact hone _ F0⟩ (fun _ hk=>hk.elim)
 have e2:(W.setCell ⟨g,i.toNat,none⟩ vj).setCells g (j.toNat * (Kd.raw 1).sz+0) [vi]=(W.setCell ⟨g,i.toNat,none⟩ vj).setCell ⟨g,j.toNat,none⟩ vi:=by
  show World.setCell _ ⟨g,j.toNat * 1+0,none⟩ vi=_
  rw [Nat.mul_one,Nat.add_zero]
 rw [e2] at s2
 obtain ⟨s2,g2⟩:=s2
 have hg:W.grownBy ((W.setCell ⟨g,i.toNat,none⟩ vj).setCell ⟨g,j.toNat,none⟩ vi) (some g):=by
  obtain ⟨a1,a2,a3,a4,a5⟩:=g1
  obtain ⟨b1,b2,b3,b4,b5⟩:=g2
  exact ⟨b1.trans a1,b2.trans a2,b3.trans a3,Nat.le_trans a4 b4,fun k hk hne=>(b5 k (Nat.lt_of_lt_of_le hk a4) hne).trans (a5 k hk hne)⟩
 refine ⟨?_,hg⟩
 obtain ⟨_,D8,qz,o5⟩:=s2
 rw [List.length_set,List.length_set,List.length_map] at qz
 have F2:D8.length=inner.length:=by
  have:=o5.1;rw [List.length_set,List.length_set,List.length_map] at this;rw [this];show inner.length * 1=_;omega
 refine ⟨fun k=>nu i.toNat j.toNat (f k),hok,D8,?_,?_,fun m p hm=>?_⟩
 ·rw [List.length_zipIdx,L_,← hlen];exact qz
 ·rw [List.length_zipIdx,L_,F2,hlen];show _=xs.length * 1;omega
 ·rw [List.getElem?_zipIdx, Nat.zero_add] at hm
  obtain ⟨q,hq,rfl⟩:=Option.map_eq_some_iff.1 hm
  have hml:m < xs.length:=by
   have:=(List.getElem?_eq_some_iff.1 hq).1
   rwa [L_] at this
  have yY:i.toNat < xs.length:=by omega
  have F1:j.toNat < xs.length:=by omega
  have zc:q=xs[nu i.toNat j.toNat m]'(L8 yY F1 hml):=by
   have:=Te xs i.toNat j.toNat m yY F1 hml (xs.getD j.toNat []) (xs.getD i.toNat []) (by simp [List.getD_eq_getElem?_getD,F1]) (by simp [List.getD_eq_getElem?_getD,yY])
   unfold swp at hq
   rw [this] at hq
   injection hq with hq
   exact hq.symm
  have hs:=L8 yY F1 hml
  have hold:=hr.2 (nu i.toNat j.toNat m) (xs[nu i.toNat j.toNat m],nu i.toNat j.toNat m) (Kd.tZ (List.getElem?_eq_getElem hs))
  have uy:=(o5.2 m [inner[nu i.toNat j.toNat m]'(by omega)] (by
   rw [Te (inner.map fun u=>[u]) i.toNat j.toNat m (by rw [List.length_map];omega) (by rw [List.length_map];omega) (by rw [List.length_map];omega) [vj] [vi] (by simp [amH]) (by simp [JI])]
   simp)).1
  have hcells:(D8.drop (m * (KL ei).sz)).take (KL ei).sz=(inner.drop (nu i.toNat j.toNat m * (KL ei).sz)).take (KL ei).sz:=by
   have h1:(inner.drop (nu i.toNat j.toNat m * 1)).take 1=[inner[nu i.toNat j.toNat m]'(by omega)]:=by
    rw [Nat.mul_one,List.drop_eq_getElem_cons (by omega)];rfl
   show (D8.drop (m * 1)).take 1=(inner.drop (nu i.toNat j.toNat m * 1)).take 1
   rw [h1];exact uy
  show (KL ei).M _ base _ q ((D8.drop (m * (KL ei).sz)).take (KL ei).sz)
  rw [hcells,zc]
  refine (KL ei).gJ (fun k hk=>?_) ((KL ei).lg (w1:=(W.setCell ⟨g,i.toNat,none⟩ vj).setCell ⟨g,j.toNat,none⟩ vi) (fun k hk=>hg.block k hk.2.2.1 (fun he=>hk.1.1.2 (by rw [he];exact hgo))) ((KL ei).lX hold))
  exact ⟨hk.1.1,by
   have h1:f k=nu i.toNat j.toNat m:=hk.1.2
   show nu i.toNat j.toNat (f k)=m
   rw [h1,aeD]⟩
theorem ads {P : Program} {ops : Array Oper} {Q : Exit → Act → World → Prop} {md : Region.Mode} {S : World → Prop} {ds : List Nat} {i d : Nat} {Ni : Option Tmp} {oi od : Oper} {fuel FI : Nat} {l l3 : Array Bool} {a a3 : Act} {w w3 : World} (li ld : Array Bool) (hi : ops[i]? = some oi) (hd : ops[d]? = some od) (yH : oi.dst = Ni) (hNd : od.dst = none)
  (hc:(Region.ready md ops l == [i,d] && l.setIfInBounds i true == li && l.setIfInBounds d true == ld)=true) (hdd:d ∈ ds)
  (h1:eN P md ops Q S ds FI l3 a3 w3→∀ K:Act→World→Prop,Shut (∀ a',eN P md ops Q S ds fuel li a' w→K a' w)→if Region.wanted oi (yielded ops a.tmps)=true then Oper.wp P oi a w K Q else K (a.put Ni undef) w)
  (h2:eN P md ops Q S ds FI l3 a3 w3→∀ K:Act→World→Prop,Shut (∀ a' w',eN P md ops Q S ds fuel ld a' w'→K a' w')→if Region.wanted od (yielded ops a.tmps)=true then Oper.wp P od a w K Q else K (a.put none undef) w)
  (h:eN P md ops Q S ds FI l3 a3 w3):eN P md ops Q S ds (fuel+1) l a w:=by
 subst yH
 simp only [Bool.and_eq_true,beq_iff_eq] at hc
 obtain ⟨⟨h3,h4⟩,h5⟩:=hc
 subst h4
 subst h5
 refine BF h3 (by simp) (fun j hj=>?_)
 rcases List.mem_cons.1 hj with rfl|hj
 ·exact wpOp_step hi (fun K hK=>h1 h K (fun a' hW=>hK a' w ⟨fun _ hs=>hs,hW⟩))
 ·obtain rfl := List.mem_singleton.1 hj
  rw [← hNd] at h2
  exact wpOp_step hd (fun K hK=>h2 h K (fun a' w' hW=>hK a' w' ⟨fun hn=>absurd hdd hn,hW⟩))
theorem adC {P : Program} {ops : Array Oper} {Q : Exit → Act → World → Prop} {md : Region.Mode} {S : World → Prop} {ds : List Nat} {i : Nat} {Ni : Option Tmp} {oi : Oper} {fuel : Nat} {l : Array Bool} {a : Act} {w : World} (li : Array Bool) (hi : ops[i]? = some oi) (yH : oi.dst = Ni) (hc : xV md ops l li i = true)
  (h1:∀ K:Act→World→Prop,Shut (∀ a',eN P md ops Q S ds fuel li a' w→K a' w)→if Region.wanted oi (yielded ops a.tmps)=true then Oper.wp P oi a w K Q else K (a.put Ni undef) w):eN P md ops Q S ds (fuel+1) l a w:=by
 subst yH
 simp only [xV,Bool.and_eq_true,beq_iff_eq] at hc
 obtain ⟨h3,h4⟩:=hc
 subst h4
 refine BF h3 (by simp) (fun j hj=>?_)
 obtain rfl:=List.mem_singleton.1 hj
 exact wpOp_step hi (fun K hK=>h1 K (fun a' hW=>hK a' w ⟨fun _ hs=>hs,hW⟩))
theorem WX {w W:World} {g j:Nat} {v:Value} (h:Below w.heap.size w W) (hg:au (w.heap.size≤g)):Below w.heap.size w (W.setCell ⟨g,j,none⟩ v):=dJ h hg.out
theorem bl {b:Nat} {w0 w:World} (h:Below b w0 w:=by repeat (first|(with_reducible first|exact HB.out|apply dh|apply ek|apply cP|refine WX ?_ (by assumption))|exact HB.out)):Below b w0 w:=h
theorem bk {w:World} {g:Nat} {o:Obj} (h:w.heap[g]?=some o:=by (with_reducible repeat (first|refine eg ?_ _|refine cw ?_|refine dV ?_ _));exact au.out (by assumption)):w.heap[g]?=some o:=h
theorem oD {p:Prop} [Decidable p] (h:decide p=true:=by first|(with_reducible assumption)|assumption):p:=of_decide_eq_true h
theorem gm {α:Type} {a b:α} (h:a=b:=by (try simp only [List.map_toArray,List.map_cons,List.map_nil]);first|done|rfl|(simp only [List.length_drop,List.length_take];rfl)):a=b:=h
theorem rs {α:Type} {a b:α} (h:a=b:=by first|rfl|(simp;done)|(simp [*];done)):a=b:=h
theorem hbc {w w':World} {a:Addr} {v:Value} (B:au (Below w.heap.size w w')) (h:w.cell? a=some v):w'.cell? a=some v:=(B.out.cell (World.block_lt_of_cell? w _ h)).trans h
/-! ### short words -/
def Ot : Nat → Nat → List Bool
 | 0,_=>[]
 | n+1,b=>Nat.beq (b % 2) 1 :: Ot n (b / 2)
/-- A row of bools, as the bits of a number. -/
def ba (n b:Nat):Array Bool:=⟨Ot n b⟩
theorem pu {P : Program} {md : Region.Mode} {ops : Array Oper} {Q : Exit → Act → World → Prop} {S : World → Prop} {ds : List Nat} {T : Bool × List (List Nat × List Nat)} {oi : Oper} {v : Value} {fuel : Nat} {l : Array Bool} {a a' : Act} {w : World} (i : Nat) (N : Option Tmp) (l' : Array Bool) (HT : au (gv md ops = T)) (hi : ops[i]? = some oi := by exact rfl) (hN : oi.dst = N := by exact rfl) (hc : I7 T l.toList l'.toList i = true := by kernel_rfl)
  (hQ:∀ c a w,Q (.panic c) (a.put oi.dst v) w→Q (.panic c) a w:=by exact (fun _ _ _ h=>h)) (hy:Yields P ops oi v a:=by refine Or.inl ⟨by rfl,?_⟩;intro w';go_simp;with_reducible rfl) (ha:a.put N v=a':=by simp only [Act.put,zI,zZ,zS,cl,cv];rfl) (h:eN P md ops Q S ds fuel l' a' w):eN P md ops Q S ds (fuel+1) l a w :=
 mM l' hi hN (WS HT.out hc) hQ hy ha h
theorem ta {P : Program} {md : Region.Mode} {ops : Array Oper} {Q : Exit → Act → World → Prop} {S : World → Prop} {ds B : List Nat} {T : Bool × List (List Nat × List Nat)} {oi : Oper} {v : Value} {fuel : Nat} {l : Array Bool} {a a' : Act} {w : World} (i : Nat) (N : Option Tmp) (l' : Array Bool) (HT : au (gv md ops = T)) (HW : au (mN T.2 B = true)) (hS : S w) (hi : ops[i]? = some oi := by exact rfl) (hN : oi.dst = N := by exact rfl) (hc : Md T B ds l.toList l'.toList i = true := by kernel_rfl)
  (hQ:∀ c a w,Q (.panic c) (a.put oi.dst v) w→Q (.panic c) a w:=by exact (fun _ _ _ h=>h)) (hy:YieldsIf P ops S oi v a) (ha:a.put N v=a':=by simp only [Act.put,zI,zZ,zS,cl,cv];rfl) (h:eN P md ops Q S ds fuel l' a' w):eN P md ops Q S ds (fuel+1) l a w :=
 nv l' hi hN (ae7 HT.out HW.out hc) hQ hy hS ha h
theorem iS {α:Type} {p:Prop} [Decidable p] {x:Option α} {r:α} (h:(if p then x else none)=some r):p∧x=some r:=by
 by_cases c:p
 ·rw [if_pos c] at h;exact ⟨c,h⟩
 ·rw [if_neg c] at h;exact absurd h (by simp)
theorem aR {α:Type} {d:Kd α} {e b:Nat} {ok:Nat→Prop} {v:Value} {xs:List α} {w w1:World} (h:Kd.R d e w b ok v xs) (g:Kd.R d e w b ok v xs→Kd.R d e w1 b ok v xs:=by intro h;(with_reducible repeat (first|apply Kd.bH|apply Kd.bL|apply Kd.bn));exact h):Kd.R d e w1 b ok v xs:=g h
theorem aS {α:Type} {d:Kd α} {e b:Nat} {ok:Nat→Prop} {v:Value} {xs:List α} {w w1:World} (h:Kd.S d e w b ok v xs) (g:Kd.S d e w b ok v xs→Kd.S d e w1 b ok v xs:=by intro h;(with_reducible repeat (first|apply Kd.gK|apply Kd.alH|apply Kd.eW));exact h):Kd.S d e w1 b ok v xs:=g h
theorem aV {α:Type} {d:Kd α} {e b:Nat} {ok:Nat→Prop} {v:Value} {xs:List α} {w w1:World} (h:Kd.V d e w b ok v xs) (g:Kd.V d e w b ok v xs→Kd.V d e w1 b ok v xs:=by intro h;(with_reducible repeat (first|apply Kd.I2|apply Kd.I3|apply Kd.Fl));exact h):Kd.V d e w1 b ok v xs:=g h
theorem aN {α:Type} {d:Kd α} {e b:Nat} {ok:Nat→Prop} {v:Value} {xs:List α} {w w1:World} (h:Kd.N d e w b ok v xs) (g:Kd.N d e w b ok v xs→Kd.N d e w1 b ok v xs:=by intro h;(with_reducible repeat (first|apply Kd.Fb|apply Kd.Fc|apply Kd.z8));exact h):Kd.N d e w1 b ok v xs:=g h
theorem aQ {α:Type} {d:Kd α} {e b:Nat} {ok:Nat→Prop} {v:Value} {xs:List α} {w w1:World} (h:Kd.Q d e w b ok v xs) (g:Kd.Q d e w b ok v xs→Kd.Q d e w1 b ok v xs:=by intro h;(with_reducible repeat (first|apply Kd.Wc|apply Kd.Wf|apply Kd.We));exact h):Kd.Q d e w1 b ok v xs:=g h
theorem aC {α:Type} {d:Kd α} {n:Nat} {A:Option Addr} {xs:List α} {w w1:World} (h:Kd.C d w A n xs) (g:Kd.C d w A n xs→Kd.C d w1 A n xs:=by intro h;repeat (first|exact h|(with_reducible refine Kd.kQ ?_ _)|(with_reducible refine Kd.alZ ?_ _)|(with_reducible refine Kd.jZ ?_))):Kd.C d w1 A n xs:=g h
abbrev sO (a:Int) (A:Option Addr) {α:Type} (l:List α) (c t:Nat):Obj:=.cells #[.int .i64 a,.slice A l.length c] t (0,0)
theorem k0 {p:Prop} (h:p):au p:=au.mk h
end Go.Proofs.Ytoebojnhchocaaa.D
/- Set with little white space, by a program. -/
