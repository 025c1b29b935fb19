/- Go's calls come to what the Lean functions say. Condition of each: that the Lean function answers. -/
import Derived.Test.YtapnggjaeehpdaaProg
import Derived.Below
import Derived.Deep.Draws
import Derived.Deep.AppendLies
import Derived.Maps.AppendAt
import Derived.OwnWalk
import Derived.Laws.BytesArg
import Derived.Laws.MakeOwn
import Derived.Laws.OwnMore
import Derived.Deep.OwnRows
import Derived.Tactics
import Derived.Lib.ConvBytes
import Derived.Laws.Slices
import Derived.WalkKit
import Derived.KernelRfl
import Derived.RowKit3
import Derived.Deep.LoopGhost
import Derived.Deep.QuietTactic
import Derived.BigQuiet
import Derived.WideLaws
import Derived.Deep.DeepCutAuto
import Derived.Deep.CutBlock
import Derived.Deep.RegionHeld3
import Derived.Laws.Rows
import Derived.Lib.AppendStr
import Derived.ArgAppend
import Derived.Laws.IdiomCopy
import Derived.OrdersHeld
import Derived.Laws.BitsLemmas
import Derived.RowKit
import Derived.Lib.SliceRun
import Derived.Deep.RegionLaw
import Derived.Shelf.Bits.Mul64
import Derived.Shelf.Spec.SlicesInsert
import Derived.Test.YtapnggjaeehpdaaBWWords
import Derived.Test.YtapnggjaeehpdaaBWLast
import Derived.Test.YtapnggjaeehpdaaBWTab
import Derived.Test.YtapnggjaeehpdaaBWWords
import Derived.Test.YtapnggjaeehpdaaBWLast
import Derived.Test.YtapnggjaeehpdaaBWApart
import Derived.Test.YtapnggjaeehpdaaBWWords
import Derived.Test.YtapnggjaeehpdaaBWApart
import Derived.Test.YtapnggjaeehpdaaBWWords
import Derived.Test.YtapnggjaeehpdaaBWFoot
import Derived.Test.YtapnggjaeehpdaaBWKept
import Derived.Test.YtapnggjaeehpdaaBWShare
import Derived.Test.YtapnggjaeehpdaaBWN
import Derived.Test.YtapnggjaeehpdaaBWRepsOne
import Derived.Test.YtapnggjaeehpdaaBWGuard
import Derived.Test.YtapnggjaeehpdaaBWN
import Derived.Test.YtapnggjaeehpdaaBWMore
namespace Go.Proofs.bz.dI
theorem af.z {p:Prop} (h:af p):p:=h.out
end Go.Proofs.bz.dI
namespace Go.Proofs.Ytapnggjaeehpdaa.B
open Go.RowKit Go.Proofs.bz.dI Go.Proofs.bz.iY Go.Proofs.bz.jn
attribute [local go_sem] max2_int min2_int max_two min_two max_three min_three max_four min_four
set_option linter.unusedVariables false
set_option linter.unusedSimpArgs false
def Vs : Option Int → Value
 | none=>.nilIface
 | some c=>.iface 0 (.int .i64 c)
theorem kG:Vs none=.nilIface:=rfl
theorem kH (c:Int):Vs (some c)=.iface 0 (.int .i64 c):=rfl
theorem ju:(Try.prog.info? 2).map (fun i=>(i.zero,i.size,i.bytes))=some (some (.int .i64 0),1,8):=by kernel_rfl
theorem Yf:(Try.prog.info? 9).map (fun i=>(i.zero,i.size,i.bytes))=some (some (.string ⟨#[]⟩),1,16):=by kernel_rfl
theorem sB:(Try.prog.info? 29).map (fun i=>(i.zero,i.size,i.bytes))=some (some (.slice none 0 0),1,24):=by kernel_rfl
-- the values' own types
def ai (xs:List (List Int)) (i:Int):(List Int):=xs.getD i.toNat ([]:List Int)
theorem b8 {w:World} {A:Option Addr} {n:Nat} {xs:List (List Int)} (h:Kd.C (Kd.slice 2 (Kd.int .i64)) w A n xs) (i:Int) (h0:0≤i) (h1:i < n):∃ ad A0 c0,A=some ad∧w.cell? (ad.add i.toNat)=some (.slice A0 (ai xs i).length c0)∧(ai xs i).length≤c0∧(Kd.int .i64).C w A0 (ai xs i).length (ai xs i):=by
 obtain ⟨ad,c,e,_,hK,hc0⟩:=Kd.aap h ([]:List Int) i h0 h1
 have hc:∀ j u,c[j]?=some u→w.cell? (ad.add (i.toNat * 1+j))=some u:=hc0
 obtain ⟨A0,c0,rfl,l0,g0⟩:=hK
 exact ⟨ad,A0,c0,e,by have hq:=hc 0 _ rfl;rwa [Nat.mul_one,Nat.add_zero] at hq,l0,g0⟩
/-! ### small words for the contracts proved by hand -/
theorem zI {α:Type} (l:List α) (i:Nat) (a:α):l.toArray.setIfInBounds i a=(l.set i a).toArray:=List.setIfInBounds_toArray l i a
theorem zZ {α:Type} (a b:α) (l:List α):(a :: l).set 0 b=b :: l:=List.set_cons_zero
theorem zS {α:Type} (a b:α) (l:List α) (n:Nat):(a :: l).set (n+1) b=a :: l.set n b:=List.set_cons_succ
def l_ (p : Int → Bool) : List Int → Nat → Int
 | [],_=>-1
 | x :: xs,k=>if p x then k else l_ p xs (k+1)
theorem KI (p:Int→Bool) (l:List Int) (k:Nat) (h:k < l.length):l_ p (l.drop k) k=if p (rd l k) then (k:Int) else l_ p (l.drop (k+1)) (k+1):=by
 rw [List.drop_eq_getElem_cons h,l_,rd,Int.toNat_natCast,List.getD_eq_getElem?_getD,List.getElem?_eq_getElem h];rfl
theorem Ye (p:Int→Bool) (l:List Int) (k:Nat):decide (0≤l_ p l k)=l.any p:=by
 induction l generalizing k with
 | nil=>simp [l_]
 | cons x xs ih =>
  rw [l_,List.any_cons]
  cases p x with
  | true=>simp
  | false=>simp;rw [← ih (k+1)]
abbrev KL (e:Nat):Kd (List Int):=Kd.slice e (Kd.int .i64)
theorem mid (lo m s:Nat) (h:lo≤s):∃ q,lo≤q∧q≤s∧(∀ k,k < m→lo≤k→k < s→k < q)∧(∀ k,m≤k→lo≤k→k < s→q≤k):=by
 by_cases h1:m≤lo
 ·exact ⟨lo,by omega,h,fun k _ _ _=>by omega,fun k _ h2 _=>h2⟩
 ·by_cases h2 : m ≤ s
  ·exact ⟨m,by omega,h2,fun k h _ _=>h,fun k h _ _=>h⟩
  ·exact ⟨s,h,by omega,fun k _ _ h=>h,fun k h3 _ h4=>by omega⟩
/-- What a slot holds is the value that lies in a whole at an index. -/
def cx (w:World) (V:Value) (j:Int) (u:Value):Prop:=∃ ad n c,V=.slice (some ad) n c∧0≤j∧j < (n:Int)∧w.cell? (ad.add j.toNat)=some u
theorem cx.below {w w1:World} {V:Value} {j:Int} {u:Value} (h:cx w V j u) (hb:Below w.heap.size w w1):cx w1 V j u:=by
 obtain ⟨ad,n,c,e,h0,h1,hc⟩:=h
 exact ⟨ad,n,c,e,h0,h1,Bc hb hc⟩
theorem eW {w:World} {V:Value} {j:Int} {u:Value} (h:cx w V j u):0≤j:=by
 obtain ⟨ad,n,c,e,h0,h1,hc⟩:=h
 exact h0
theorem ct {w:World} {A:Option Addr} {n c:Nat} {j:Int} {u:Value} (h:cx w (.slice A n c) j u):j < (n:Int):=by
 obtain ⟨ad,n,c,e,h0,h1,hc⟩:=h
 injection e with _ e2 _
 subst e2
 exact h1
theorem cx.alloc {w:World} {V:Value} {j:Int} {u:Value} (h:cx w V j u) (o:Obj):cx (w.alloc o) V j u:=h.below (eH (Below.refl _ _) o)
theorem cx.drew {w:World} {V:Value} {j:Int} {u:Value} (h:cx w V j u):cx w.drew V j u:=h.below (yT (Below.refl _ _))
theorem cx.drewN {w:World} {V:Value} {j:Int} {u:Value} (h:cx w V j u) (m:Nat):cx (w.drewN m) V j u:=h.below (atz (Below.refl _ _) m)
theorem qL {w:World} {ad:Addr} {n c:Nat} {j:Int} {u v:Value} (h:cx w (.slice (some ad) n c) j u) (hc:w.cell? (ad.add j.toNat)=some v):u=v:=by
 obtain ⟨ad',n',c',e,_,_,h'⟩:=h
 injection e with e1 _ _
 injection e1 with e1
 subst e1
 exact Option.some.inj (h'.symm.trans hc)
theorem afH (x:List (List Int)) (i:Nat) (y:List Int) (h:i < x.length):(x.set i y).getD i []=y:=by
 rw [List.getD_eq_getElem?_getD,List.getElem?_set_self h]
 rfl
theorem cx.set {w:World} {V:Value} {j:Int} {u:Value} (h:cx w V j u) {e e' g off:Nat} {x v:Value} (hP:∀ k,V.ownBlock=some k→∃ cells,w.heap[k]?=some (.cells cells e (0,0))) (hx:∀ k,v.ownBlock=some k→∃ cells,w.heap[k]?=some (.cells cells e' (0,0))) (hv:v.ownBlock=some g) (hne:e ≠ e'):cx (w.setCell ⟨g,off,none⟩ x) V j u:=by
 obtain ⟨ad,n,c,rfl,h0,h1,hc⟩:=h
 refine ⟨ad,n,c,rfl,h0,h1,?_⟩
 rw [cell_far]
 ·exact hc
 ·rw [add_block]
  intro h_
  obtain ⟨c1,h1⟩:=hP ad.block (by simp [Value.ownBlock])
  obtain ⟨c2,h2⟩:=hx ad.block (by rw [hv];exact congrArg some h_.symm)
  rw [h1] at h2
  injection h2 with h2
  injection h2 with _ h2
  exact hne h2
theorem vV {ad:Addr} {n c k i:Nat} (h:some k ≠ (Value.slice (some ad) n c).ownBlock):some (ad.add i).block ≠ some k:=by
 rw [add_block]
 intro e
 exact h (by rw [← e];simp [Value.ownBlock])
def swp (xs:List (List Int)) (i j:Int):List (List Int):=(xs.set i.toNat (xs.getD j.toNat [])).set j.toNat (xs.getD i.toNat [])
theorem Rg (xs:List (List Int)) (i j:Int):(swp xs i j).length=xs.length:=by simp [swp]
def oP (i j m:Nat):Nat:=if m=j then i else if m=i then j else m
theorem akg (i j m:Nat):oP i j (oP i j m)=m:=by unfold oP;(repeat' split)<;>simp_all
theorem Ra {i j m n:Nat} (hi:i < n) (hj:j < n) (hm:m < n):oP i j m < n:=by unfold oP;(repeat' split)<;>assumption
theorem Zd {α:Type} (l:List α) (i j m:Nat) (hi:i < l.length) (hj:j < l.length) (hm:m < l.length) (a b:α) (ha:a=l[j]) (hb:b=l[i]):((l.set i a).set j b)[m]?=some (l[oP i j m]'(Ra hi hj hm)):=by
 subst ha;subst hb
 rw [List.getElem?_set]
 unfold oP
 by_cases h1:m=j
 ·subst h1;simp [hm]
 ·rw [if_neg (Ne.symm h1), List.getElem?_set]
  by_cases h2:m=i
  ·subst h2;simp [h1,hi]
  ·rw [if_neg (Ne.symm h2)];simp [h1,h2,hm]
theorem acM {ei e base n cap g : Nat} {ok : Nat → Prop} {W : World} {xs : List (List Int)} (h : Kd.S (KL ei) e W base ok (.slice (some ⟨g, 0, none⟩) n cap) xs) (i j : Int) (ED : 0 ≤ i) (hi : i < n) (hj0 : 0 ≤ j) (hj : j < n) {vj : Value}
  (PI:W.cell? ⟨g,j.toNat,none⟩=some vj):(W.setCell ⟨g,i.toNat,none⟩ vj).cell? ⟨g,j.toNat,none⟩=some vj∧(W.setCell ⟨g,i.toNat,none⟩ vj).frozen? ⟨g,j.toNat,none⟩=false:=by
 obtain ⟨_,_,_,_,hfr⟩:=Kd.FV (Kd.auz h) [] j hj0 hj
 have WS:=hfr 0
 rw [show (KL ei).sz=1 from rfl,Nat.mul_one,Nat.add_zero] at WS
 obtain ⟨vi,avH⟩:∃ vi,W.cell? ⟨g,i.toNat,none⟩=some vi:=by
  obtain ⟨c,uE,_,rE,_⟩:=Kd.FV (Kd.auz h) [] i ED hi
  have hc0:0 < c.length:=by rw [uE];exact Nat.one_pos
  have h2:=rE 0 c[0] (List.getElem?_eq_getElem hc0)
  rw [show (KL ei).sz=1 from rfl,Nat.mul_one,Nat.add_zero] at h2
  exact ⟨_,h2⟩
 have hsz:(KL ei).sz=1:=rfl
 have hn:n=xs.length:=by have:=(Kd.as4 h).1;exact this
 obtain ⟨f,hR⟩:=h
 obtain ⟨hok,inner,ho,hr⟩:=hR
 have hlen:inner.length=xs.length:=by have:=hr.1;rw [List.length_zipIdx] at this;rw [this];show xs.length * 1=_;omega
 have hgo:some g=(Value.slice (some ⟨g,0,none⟩) n cap).ownBlock:=by simp [Value.ownBlock]
 rw [List.length_zipIdx] at ho
 have hcell:∀ m (hm:m < inner.length),W.cell? ⟨g,m,none⟩=some inner[m]:=by
  intro m hm
  have:=ho.cells (g:=g) hgo.symm m inner[m] (List.getElem?_eq_getElem hm)
  rwa [add_plain] at this
 have hone:∀ m (hm:m < inner.length),inner[m].oneCell'=true:=by
  intro m hm
  have hm':m < xs.length:=by omega
  have h1:=hr.2 m (xs[m],m) (Kd.xD (List.getElem?_eq_getElem hm'))
  refine (KL ei).aui ((KL ei).atV h1) _ ?_
  have:(inner.drop (m * 1)).take 1=[inner[m]]:=by rw [Nat.mul_one,List.drop_eq_getElem_cons hm];rfl
  show inner[m] ∈ (inner.drop (m * 1)).take 1
  rw [this];exact List.mem_singleton.2 rfl
 have avP:i.toNat < inner.length:=by omega
 have CI:j.toNat < inner.length:=by omega
 have Ou:vi=inner[i.toNat]:=by have:=(hcell i.toNat avP).symm.trans avH;injection this with this;exact this.symm
 have Ax:vj=inner[j.toNat]:=by have:=(hcell j.toNat CI).symm.trans PI;injection this with this;exact this.symm
 have y8:(Kd.raw 1).R e W base (fun _=>True) (.slice (some ⟨g,0,none⟩) n cap) (inner.map fun u=>[u]):=by
  refine ⟨fun _ _=>trivial,inner,?_,?_,fun m p hm=>?_⟩
  ·rw [List.length_map,hlen];exact ho
  ·rw [List.length_map];show inner.length=inner.length * 1;omega
  ·rw [List.getElem?_map] at hm
   obtain ⟨u,hu,rfl⟩:=Option.map_eq_some_iff.1 hm
   obtain ⟨hml,rfl⟩:=List.getElem?_eq_some_iff.1 hu
   have:(inner.drop (m * 1)).take 1=[inner[m]]:=by rw [Nat.mul_one,List.drop_eq_getElem_cons hml];rfl
   show (inner.drop (m * 1)).take 1=[inner[m]]∧((inner.drop (m * 1)).take 1).length=1∧∀ u ∈ (inner.drop (m * 1)).take 1,u.oneCell'=true
   rw [this]
   exact ⟨rfl,rfl,fun u hu=>by rw [List.mem_singleton.1 hu];exact hone m hml⟩
 have s1:=Kd.Jz y8 i ED hi (c:=[vi]) (seg:=[vj]) (j:=0) (x':=[vj]) (cm:=fun _=>False) rfl (fun q u hu=>by
   cases q with
   | zero=>simp at hu;subst hu;show W.cell? ⟨g,i.toNat * 1+0,none⟩=_;rw [Nat.mul_one,Nat.add_zero];exact avH
   | succ q=>simp at hu) (Nat.le_refl 1) ⟨rfl,rfl,fun u hu=>by
    rw [List.mem_singleton.1 hu,Ax];exact hone _ CI⟩ (fun _ hk=>hk.elim)
 have e1:W.setCells g (i.toNat * (Kd.raw 1).sz+0) [vj]=W.setCell ⟨g,i.toNat,none⟩ vj:=by
  show W.setCell ⟨g,i.toNat * 1+0,none⟩ vj=_
  rw [Nat.mul_one,Nat.add_zero]
 rw [e1] at s1
 obtain ⟨s1,g1⟩:=s1
 have PJ:(W.setCell ⟨g,i.toNat,none⟩ vj).cell? ⟨g,j.toNat,none⟩=some vj:=by
  obtain ⟨_,wS,k8,gl⟩:=id s1
  have tD:wS.length=inner.length:=by
   have:=gl.1;rw [List.length_set,List.length_map] at this;rw [this];show inner.length * 1=_;omega
  have:=gl.2 j.toNat [inner[j.toNat]] (by
   rw [List.getElem?_set]
   by_cases hij:i.toNat=j.toNat
   ·rw [if_pos hij,if_pos (by rw [List.length_map];omega),Ax]
   ·rw [if_neg hij,List.getElem?_map,List.getElem?_eq_getElem CI];rfl)
  have h2:(wS.drop (j.toNat * 1)).take 1=[inner[j.toNat]]:=this.1
  have h3:wS[j.toNat]?=some inner[j.toNat]:=by
   have yc:j.toNat < wS.length:=by omega
   rw [Nat.mul_one,List.drop_eq_getElem_cons yc] at h2
   have:wS[j.toNat]=inner[j.toNat]:=by injection h2
   rw [List.getElem?_eq_getElem yc,this]
  have h4:=k8.cells (g:=g) hgo.symm j.toNat _ h3
  rw [add_plain] at h4
  rw [h4,Ax]
 exact ⟨PJ,(World.frozen?_setCell _ _ _ _).trans WS⟩
theorem acQ {ei e base n cap g : Nat} {ok : Nat → Prop} {W : World} {xs : List (List Int)} (h : Kd.S (KL ei) e W base ok (.slice (some ⟨g, 0, none⟩) n cap) xs) (i j : Int) (ED : 0 ≤ i) (hi : i < n) (hj0 : 0 ≤ j) (hj : j < n) {vi vj : Value}
  (avH:W.cell? ⟨g,i.toNat,none⟩=some vi) (PI:W.cell? ⟨g,j.toNat,none⟩=some vj) :
  Kd.S (KL ei) e ((W.setCell ⟨g,i.toNat,none⟩ vj).setCell ⟨g,j.toNat,none⟩ vi) base ok (.slice (some ⟨g,0,none⟩) n cap) (swp xs i j)∧W.grownBy ((W.setCell ⟨g,i.toNat,none⟩ vj).setCell ⟨g,j.toNat,none⟩ vi) (some g):=by
 have hsz:(KL ei).sz=1:=rfl
 have hn:n=xs.length:=by have:=(Kd.as4 h).1;exact this
 obtain ⟨f,hR⟩:=h
 obtain ⟨hok,inner,ho,hr⟩:=hR
 have hlen:inner.length=xs.length:=by have:=hr.1;rw [List.length_zipIdx] at this;rw [this];show xs.length * 1=_;omega
 have hgo:some g=(Value.slice (some ⟨g,0,none⟩) n cap).ownBlock:=by simp [Value.ownBlock]
 rw [List.length_zipIdx] at ho
 have hcell:∀ m (hm:m < inner.length),W.cell? ⟨g,m,none⟩=some inner[m]:=by
  intro m hm
  have:=ho.cells (g:=g) hgo.symm m inner[m] (List.getElem?_eq_getElem hm)
  rwa [add_plain] at this
 have hone:∀ m (hm:m < inner.length),inner[m].oneCell'=true:=by
  intro m hm
  have hm':m < xs.length:=by omega
  have h1:=hr.2 m (xs[m],m) (Kd.xD (List.getElem?_eq_getElem hm'))
  refine (KL ei).aui ((KL ei).atV h1) _ ?_
  have:(inner.drop (m * 1)).take 1=[inner[m]]:=by rw [Nat.mul_one,List.drop_eq_getElem_cons hm];rfl
  show inner[m] ∈ (inner.drop (m * 1)).take 1
  rw [this];exact List.mem_singleton.2 rfl
 have avP:i.toNat < inner.length:=by omega
 have CI:j.toNat < inner.length:=by omega
 have Ou:vi=inner[i.toNat]:=by have:=(hcell i.toNat avP).symm.trans avH;injection this with this;exact this.symm
 have Ax:vj=inner[j.toNat]:=by have:=(hcell j.toNat CI).symm.trans PI;injection this with this;exact this.symm
 have y8:(Kd.raw 1).R e W base (fun _=>True) (.slice (some ⟨g,0,none⟩) n cap) (inner.map fun u=>[u]):=by
  refine ⟨fun _ _=>trivial,inner,?_,?_,fun m p hm=>?_⟩
  ·rw [List.length_map,hlen];exact ho
  ·rw [List.length_map];show inner.length=inner.length * 1;omega
  ·rw [List.getElem?_map] at hm
   obtain ⟨u,hu,rfl⟩:=Option.map_eq_some_iff.1 hm
   obtain ⟨hml,rfl⟩:=List.getElem?_eq_some_iff.1 hu
   have:(inner.drop (m * 1)).take 1=[inner[m]]:=by rw [Nat.mul_one,List.drop_eq_getElem_cons hml];rfl
   show (inner.drop (m * 1)).take 1=[inner[m]]∧((inner.drop (m * 1)).take 1).length=1∧∀ u ∈ (inner.drop (m * 1)).take 1,u.oneCell'=true
   rw [this]
   exact ⟨rfl,rfl,fun u hu=>by rw [List.mem_singleton.1 hu];exact hone m hml⟩
 have s1:=Kd.Jz y8 i ED hi (c:=[vi]) (seg:=[vj]) (j:=0) (x':=[vj]) (cm:=fun _=>False) rfl (fun q u hu=>by
   cases q with
   | zero=>simp at hu;subst hu;show W.cell? ⟨g,i.toNat * 1+0,none⟩=_;rw [Nat.mul_one,Nat.add_zero];exact avH
   | succ q=>simp at hu) (Nat.le_refl 1) ⟨rfl,rfl,fun u hu=>by
    rw [List.mem_singleton.1 hu,Ax];exact hone _ CI⟩ (fun _ hk=>hk.elim)
 have e1:W.setCells g (i.toNat * (Kd.raw 1).sz+0) [vj]=W.setCell ⟨g,i.toNat,none⟩ vj:=by
  show W.setCell ⟨g,i.toNat * 1+0,none⟩ vj=_
  rw [Nat.mul_one,Nat.add_zero]
 rw [e1] at s1
 obtain ⟨s1,g1⟩:=s1
 have PJ:(W.setCell ⟨g,i.toNat,none⟩ vj).cell? ⟨g,j.toNat,none⟩=some vj:=by
  obtain ⟨_,wS,k8,gl⟩:=id s1
  have tD:wS.length=inner.length:=by
   have:=gl.1;rw [List.length_set,List.length_map] at this;rw [this];show inner.length * 1=_;omega
  have:=gl.2 j.toNat [inner[j.toNat]] (by
   rw [List.getElem?_set]
   by_cases hij:i.toNat=j.toNat
   ·rw [if_pos hij,if_pos (by rw [List.length_map];omega),Ax]
   ·rw [if_neg hij,List.getElem?_map,List.getElem?_eq_getElem CI];rfl)
  have h2:(wS.drop (j.toNat * 1)).take 1=[inner[j.toNat]]:=this.1
  have h3:wS[j.toNat]?=some inner[j.toNat]:=by
   have yc:j.toNat < wS.length:=by omega
   rw [Nat.mul_one,List.drop_eq_getElem_cons yc] at h2
   have:wS[j.toNat]=inner[j.toNat]:=by injection h2
   rw [List.getElem?_eq_getElem yc,this]
  have h4:=k8.cells (g:=g) hgo.symm j.toNat _ h3
  rw [add_plain] at h4
  rw [h4,Ax]
 have s2:=Kd.Jz s1 j hj0 hj (c:=[vj]) (seg:=[vi]) (j:=0) (x':=[vi]) (cm:=fun _=>False) rfl (fun q u hu=>by
   cases q with
   | zero=>simp at hu;subst hu;show World.cell? _ ⟨g,j.toNat * 1+0,none⟩=_;rw [Nat.mul_one,Nat.add_zero];exact PJ
   | succ q=>simp at hu) (Nat.le_refl 1) ⟨rfl,rfl,fun u hu=>by
    rw [List.mem_singleton.1 hu,Ou];exact hone _ avP⟩ (fun _ hk=>hk.elim)
 have e2:(W.setCell ⟨g,i.toNat,none⟩ vj).setCells g (j.toNat * (Kd.raw 1).sz+0) [vi]=(W.setCell ⟨g,i.toNat,none⟩ vj).setCell ⟨g,j.toNat,none⟩ vi:=by
  show World.setCell _ ⟨g,j.toNat * 1+0,none⟩ vi=_
  rw [Nat.mul_one,Nat.add_zero]
 rw [e2] at s2
 obtain ⟨s2,g2⟩:=s2
 have hg:W.grownBy ((W.setCell ⟨g,i.toNat,none⟩ vj).setCell ⟨g,j.toNat,none⟩ vi) (some g):=by
  obtain ⟨a1,a2,a3,a4,a5⟩:=g1
  obtain ⟨b1,b2,b3,b4,b5⟩:=g2
  exact ⟨b1.trans a1,b2.trans a2,b3.trans a3,Nat.le_trans a4 b4,fun k hk hne=>(b5 k (Nat.lt_of_lt_of_le hk a4) hne).trans (a5 k hk hne)⟩
 refine ⟨?_,hg⟩
 obtain ⟨_,avK,auj,atQ⟩:=s2
 rw [List.length_set,List.length_set,List.length_map] at auj
 have PA:avK.length=inner.length:=by
  have:=atQ.1;rw [List.length_set,List.length_set,List.length_map] at this;rw [this];show inner.length * 1=_;omega
 refine ⟨fun k=>oP i.toNat j.toNat (f k),hok,avK,?_,?_,fun m p hm=>?_⟩
 ·rw [List.length_zipIdx,Rg,← hlen];exact auj
 ·rw [List.length_zipIdx,Rg,PA,hlen];show _=xs.length * 1;omega
 ·rw [List.getElem?_zipIdx, Nat.zero_add] at hm
  obtain ⟨q,hq,rfl⟩:=Option.map_eq_some_iff.1 hm
  have hml:m < xs.length:=by
   have:=(List.getElem?_eq_some_iff.1 hq).1
   rwa [Rg] at this
  have Ke:i.toNat < xs.length:=by omega
  have Kg:j.toNat < xs.length:=by omega
  have AR:q=xs[oP i.toNat j.toNat m]'(Ra Ke Kg hml):=by
   have:=Zd xs i.toNat j.toNat m Ke Kg hml (xs.getD j.toNat []) (xs.getD i.toNat []) (by simp [List.getD_eq_getElem?_getD,Kg]) (by simp [List.getD_eq_getElem?_getD,Ke])
   unfold swp at hq
   rw [this] at hq
   injection hq with hq
   exact hq.symm
  have hs:=Ra Ke Kg hml
  have hold:=hr.2 (oP i.toNat j.toNat m) (xs[oP i.toNat j.toNat m],oP i.toNat j.toNat m) (Kd.xD (List.getElem?_eq_getElem hs))
  have at4:=(atQ.2 m [inner[oP i.toNat j.toNat m]'(by omega)] (by
   rw [Zd (inner.map fun u=>[u]) i.toNat j.toNat m (by rw [List.length_map];omega) (by rw [List.length_map];omega) (by rw [List.length_map];omega) [vj] [vi] (by simp [Ax]) (by simp [Ou])]
   simp)).1
  have hcells:(avK.drop (m * (KL ei).sz)).take (KL ei).sz=(inner.drop (oP i.toNat j.toNat m * (KL ei).sz)).take (KL ei).sz:=by
   have h1:(inner.drop (oP i.toNat j.toNat m * 1)).take 1=[inner[oP i.toNat j.toNat m]'(by omega)]:=by
    rw [Nat.mul_one,List.drop_eq_getElem_cons (by omega)];rfl
   show (avK.drop (m * 1)).take 1=(inner.drop (oP i.toNat j.toNat m * 1)).take 1
   rw [h1];exact at4
  show (KL ei).M _ base _ q ((avK.drop (m * (KL ei).sz)).take (KL ei).sz)
  rw [hcells,AR]
  refine (KL ei).gX (fun k hk=>?_) ((KL ei).oc (w1:=(W.setCell ⟨g,i.toNat,none⟩ vj).setCell ⟨g,j.toNat,none⟩ vi) (fun k hk=>hg.block k hk.2.2.1 (fun he=>hk.1.1.2 (by rw [he];exact hgo))) ((KL ei).oa hold))
  exact ⟨hk.1.1,by
   have h1:f k=oP i.toNat j.toNat m:=hk.1.2
   show oP i.toNat j.toNat (f k)=m
   rw [h1,akg]⟩
/-- A literal of one row of the call's own: as the append of that row to nothing. -/
theorem acJ {P : Program} {ops : Array Oper} {rest : List Oper} {o : Oper} {a : Act} {Q : Exit → Act → World → Prop} {α : Type} (d : Kd α) {w0 W : World} (base e : Nat) (hgd : o.guard = none) {N : Tmp} (hd : o.dst = some N) (p : α) (cs : List Value) (ok cm : Nat → Prop)
  (hrun:(execOp a.eval o).run P W=.ok (.value (.slice (some ⟨W.heap.size,0,none⟩) 1 1)) (W.alloc (.cells cs.toArray e))) (hp:d.M W base cm p cs) (mJ:∀ k,cm k→ok k∧some k ≠ (Value.slice none 0 0).ownBlock) (at5:∀ k,W.heap.size≤k→ok k) (HB:Below base w0 W) (hbase:base≤W.heap.size)
  (h:∀ v1 w1,Kd.S d e w1 base ok v1 [p]→Below base w0 w1→W.grownBy w1 (Value.slice none 0 0).ownBlock→(v1.ownBlock=(Value.slice none 0 0).ownBlock∨∃ b,v1.ownBlock=some b∧W.heap.size≤b)→wpList P ops Q rest (a.put o.dst v1) w1):wpList P ops Q (o :: rest) a W:=by
 have hl:=d.aum (d.atV hp)
 refine Kd.acL d base e hgd hd (xs:=[p]) (inner:=cs) (ok:=ok) (fun j k=>j=0∧cm k) hrun (by simp [hl]) (fun j x hx=>?_) (fun i j k hi hj=>hi.1.trans hj.1.symm) (fun j k hk=>(mJ k hk.2).1) (at5 _ (Nat.le_refl _)) HB hbase (by simp) (fun v1 w1 hs hb hg a_=>h v1 w1 hs hb hg (.inr a_))
 cases j with
 | zero =>
  have:x=p:=by simpa using hx.symm
  subst this
  rw [Nat.zero_mul,List.drop_zero,← hl,List.take_length]
  exact d.gX (fun k hk=>⟨rfl,hk⟩) hp
 | succ j=>simp at hx
theorem NI {w W:World} {g j:Nat} {v:Value} (h:Below w.heap.size w W) (hg:af (w.heap.size≤g)):Below w.heap.size w (W.setCell ⟨g,j,none⟩ v):=o9 h hg.out
theorem bl {b:Nat} {w0 w:World} (h:Below b w0 w:=by repeat (first|(with_reducible first|exact HB.out|apply eH|apply atz|apply eZ|refine NI ?_ (by assumption))|exact HB.out)):Below b w0 w:=h
theorem bk {w:World} {g:Nat} {o:Obj} (h:w.heap[g]?=some o:=by (with_reducible repeat (first|refine o_ ?_ _|refine dg ?_|refine atW ?_ _));exact af.out (by assumption)):w.heap[g]?=some o:=h
theorem oD {p:Prop} [Decidable p] (h:decide p=true:=by first|(with_reducible assumption)|assumption):p:=of_decide_eq_true h
theorem gm {α:Type} {a b:α} (h:a=b:=by (try simp only [List.map_toArray,List.map_cons,List.map_nil]);first|done|rfl|(simp only [List.length_drop,List.length_take];rfl)):a=b:=h
theorem rs {α:Type} {a b:α} (h:a=b:=by first|rfl|(simp;done)|(simp [*];done)):a=b:=h
theorem hbc {w w':World} {a:Addr} {v:Value} (B:af (Below w.heap.size w w')) (h:w.cell? a=some v):w'.cell? a=some v:=(B.out.cell (World.block_lt_of_cell? w _ h)).trans h
/-! ### short words -/
def Uc : Nat → Nat → List Bool
 | 0,_=>[]
 | n+1,b=>Nat.beq (b % 2) 1 :: Uc n (b / 2)
/-- A row of bools, as the bits of a number. -/
def ba (n b:Nat):Array Bool:=⟨Uc n b⟩
theorem pu {P : Program} {md : Region.Mode} {ops : Array Oper} {Q : Exit → Act → World → Prop} {S : World → Prop} {ds : List Nat} {T : Bool × List (List Nat × List Nat)} {oi : Oper} {v : Value} {fuel : Nat} {l : Array Bool} {a a' : Act} {w : World} (i : Nat) (N : Option Tmp) (l' : Array Bool) (HT : af (eB md ops = T)) (hi : ops[i]? = some oi := by exact rfl) (hN : oi.dst = N := by exact rfl) (hc : NG T l.toList l'.toList i = true := by kernel_rfl)
  (hQ:∀ c a w,Q (.panic c) (a.put oi.dst v) w→Q (.panic c) a w:=by exact (fun _ _ _ h=>h)) (hy:Yields P ops oi v a:=by refine Or.inl ⟨by rfl,?_⟩;intro w';go_simp;with_reducible rfl) (ha:a.put N v=a':=by simp only [Act.put,zI,zZ,zS,bp,bH];rfl) (h:fO P md ops Q S ds fuel l' a' w):fO P md ops Q S ds (fuel+1) l a w :=
 jc l' hi hN (ada HT.out hc) hQ hy ha h
theorem ta {P : Program} {md : Region.Mode} {ops : Array Oper} {Q : Exit → Act → World → Prop} {S : World → Prop} {ds B : List Nat} {T : Bool × List (List Nat × List Nat)} {oi : Oper} {v : Value} {fuel : Nat} {l : Array Bool} {a a' : Act} {w : World} (i : Nat) (N : Option Tmp) (l' : Array Bool) (HT : af (eB md ops = T)) (HW : af (ie T.2 B = true)) (hS : S w) (hi : ops[i]? = some oi := by exact rfl) (hN : oi.dst = N := by exact rfl) (hc : Bm T B ds l.toList l'.toList i = true := by kernel_rfl)
  (hQ:∀ c a w,Q (.panic c) (a.put oi.dst v) w→Q (.panic c) a w:=by exact (fun _ _ _ h=>h)) (hy:YieldsIf P ops S oi v a) (ha:a.put N v=a':=by simp only [Act.put,zI,zZ,zS,bp,bH];rfl) (h:fO P md ops Q S ds fuel l' a' w):fO P md ops Q S ds (fuel+1) l a w :=
 oQ l' hi hN (E9 HT.out HW.out hc) hQ hy hS ha h
theorem iS {α:Type} {p:Prop} [Decidable p] {x:Option α} {r:α} (h:(if p then x else none)=some r):p∧x=some r:=by
 by_cases c:p
 ·rw [if_pos c] at h;exact ⟨c,h⟩
 ·rw [if_neg c] at h;exact absurd h (by simp)
theorem aR {α:Type} {d:Kd α} {e b:Nat} {ok:Nat→Prop} {v:Value} {xs:List α} {w w1:World} (h:Kd.R d e w b ok v xs) (g:Kd.R d e w b ok v xs→Kd.R d e w1 b ok v xs:=by intro h;(with_reducible repeat (first|apply Kd.kT|apply Kd.kU|apply Kd.di));exact h):Kd.R d e w1 b ok v xs:=g h
theorem aS {α:Type} {d:Kd α} {e b:Nat} {ok:Nat→Prop} {v:Value} {xs:List α} {w w1:World} (h:Kd.S d e w b ok v xs) (g:Kd.S d e w b ok v xs→Kd.S d e w1 b ok v xs:=by intro h;(with_reducible repeat (first|apply Kd.gQ|apply Kd.atB|apply Kd.dK));exact h):Kd.S d e w1 b ok v xs:=g h
theorem aV {α:Type} {d:Kd α} {e b:Nat} {ok:Nat→Prop} {v:Value} {xs:List α} {w w1:World} (h:Kd.V d e w b ok v xs) (g:Kd.V d e w b ok v xs→Kd.V d e w1 b ok v xs:=by intro h;(with_reducible repeat (first|apply Kd.avU|apply Kd.T6|apply Kd.vQ));exact h):Kd.V d e w1 b ok v xs:=g h
theorem aN {α:Type} {d:Kd α} {e b:Nat} {ok:Nat→Prop} {v:Value} {xs:List α} {w w1:World} (h:Kd.N d e w b ok v xs) (g:Kd.N d e w b ok v xs→Kd.N d e w1 b ok v xs:=by intro h;(with_reducible repeat (first|apply Kd.ack|apply Kd.acn|apply Kd.acm));exact h):Kd.N d e w1 b ok v xs:=g h
theorem aQ {α:Type} {d:Kd α} {e b:Nat} {ok:Nat→Prop} {v:Value} {xs:List α} {w w1:World} (h:Kd.Q d e w b ok v xs) (g:Kd.Q d e w b ok v xs→Kd.Q d e w1 b ok v xs:=by intro h;(with_reducible repeat (first|apply Kd.acq|apply Kd.acs|apply Kd.acr));exact h):Kd.Q d e w1 b ok v xs:=g h
theorem aC {α:Type} {d:Kd α} {n:Nat} {A:Option Addr} {xs:List α} {w w1:World} (h:Kd.C d w A n xs) (g:Kd.C d w A n xs→Kd.C d w1 A n xs:=by intro h;repeat (first|exact h|(with_reducible refine Kd.jO ?_ _)|(with_reducible refine Kd.jP ?_ _)|(with_reducible refine Kd.ij ?_))):Kd.C d w1 A n xs:=g h
abbrev sO (a:Int) (A:Option Addr) {α:Type} (l:List α) (c t:Nat):Obj:=.cells #[.int .i64 a,.slice A l.length c] t (0,0)
theorem k0 {p:Prop} (h:p):af p:=af.mk h
theorem aB {w w1:World} {g:Nat} {o:Obj} (h:w.heap[g]?=some o) (k:w.heap[g]?=some o→w1.heap[g]?=some o:=by intro h;(with_reducible repeat (first|refine o_ ?_ _|refine dg ?_|refine atW ?_ _));exact h):w1.heap[g]?=some o:=k h
theorem kB {w0 w w1:World} {g:Nat} {o:Obj} (h:af (w0.heap[g]?=some o)) (hb:Below w.heap.size w w1) (k:w0.heap[g]?=some o→w.heap[g]?=some o:=by intro h;(with_reducible repeat (first|refine o_ ?_ _|refine dg ?_|refine atW ?_ _));exact h):af (w1.heap[g]?=some o):=⟨ck (k h.out) hb⟩
theorem nL {w0 w:World} {g g':Nat} {o:Obj} (hg:g'=w.heap.size) (h:af (w0.heap[g]?=some o)) (k:w0.heap[g]?=some o→w.heap[g]?=some o:=by intro h;(with_reducible repeat (first|refine o_ ?_ _|refine dg ?_|refine atW ?_ _));exact h):af (g ≠ g'):=⟨by rw [hg];exact Nat.ne_of_lt (lX (k h.out))⟩
theorem nG {a b:Nat} (h:af (a ≠ b)):af (b ≠ a):=⟨h.out.symm⟩
theorem gW {n m g:Nat} (hg:g=m) (h:n≤m):af (n≤g):=⟨by rw [hg];exact h⟩
theorem dU {w:World} {g:Nat} {a:Value} {l:List Value} {t:TypeId} (h:af (w.heap[g]?=some (.cells (a :: l).toArray t (0,0)))):w.cell? ⟨g,0,none⟩=some a:=(dY h.out 0).trans (by simp)
theorem ej {w:World} {g:Nat} {a b:Value} {l:List Value} {t:TypeId} (h:af (w.heap[g]?=some (.cells (a :: b :: l).toArray t (0,0)))):w.cell? ⟨g,1,none⟩=some b:=(dY h.out 1).trans (by simp)
theorem UD {w:World} {g:Nat} {a b c:Value} {l:List Value} {t:TypeId} (h:af (w.heap[g]?=some (.cells (a :: b :: c :: l).toArray t (0,0)))):w.cell? ⟨g,2,none⟩=some c:=(dY h.out 2).trans (by simp)
theorem bF {w:World} {g:Nat} {t:TypeId} {cs:Array Value} (h:af (w.heap[g]?=some (.cells cs t (0,0)))) (i:Nat):w.frozen? ⟨g,i,none⟩=false:=fA h.out i
theorem eR {p:Prop} (h:p:=by first|rfl|(simp [kG,kH]<;>rfl)|(simp [*,kG,kH]<;>rfl)):p:=h
theorem dW {w w':World} (h:iV w w':=by repeat (first|exact iV.refl _|apply iV.step)):iV w w':=h
theorem dN {p:Prop} (h:p:=by first|exact ⟨rfl,_,World.drewN_drewN _ _ _⟩|exact ⟨rfl,_,Eq.trans (World.drewN_drewN _ _ _) (congrArg (World.drewN _) (Nat.add_assoc _ _ _))⟩):p:=h
theorem aK {w W W1:World} {g:Nat} {row:Option Nat} (h:bx w W g row) (k:bx w W g row→bx w W1 g row:=by intro h;repeat (first|(with_reducible first|exact h|apply bx.Zc|apply ah_|apply wU|apply ah9|refine aia ?_ (af.out (by assumption)) _)|exact h)):bx w W1 g row:=k h
theorem aL {b:Nat} {w W W1:World} (h:Below b w W) (k:Below b w W→Below b w W1:=by intro h;repeat (first|(with_reducible first|exact h|apply eH|apply atz|apply eZ|refine NI ?_ (by assumption))|exact h)):Below b w W1:=k h
theorem rH {α:Type} {y e:α} {p q:Prop} (hy:y=e) (H:p) (k:y=e→p→q:=by intro hy H;first|(rw [hy];with_reducible exact H)|(have Md:=(Option.bind_some _ _).symm.trans H;rw [hy];with_reducible exact Md)|(have Md:=(Option.bind_some _ _).symm.trans H;with_reducible exact Md)|with_reducible exact H|(rw [hy];exact H)|exact H):q:=k hy H
theorem eJ {P : Program} {ops : Array Oper} {rest : List Oper} {o : Oper} {a : Act} {Q : Exit → Act → World → Prop} {W : World} (N : Tmp) (cs : Array Value) (t : TypeId)
  (h:∀ g,g=W.heap.size→∀ w1,w1.heap[g]?=some (.cells cs t (0,0))→Below W.heap.size W w1→wpList P ops Q rest (a.put o.dst (.pointer (some ⟨g,0,none⟩))) w1) (hd:o.dst=some N:=by exact rfl) (hgd:o.guard=none:=by exact rfl)
  (hrun:(execOp a.eval o).run P W=.ok (.value (.pointer (some ⟨W.heap.size,0,none⟩))) (W.alloc (.cells cs t (0,0))):=by first|(go_simp;done)|(go_simp;rfl)):wpList P ops Q (o :: rest) a W:=Uh hgd hd hrun h
theorem gC {P : Program} {ops : Array Oper} {Q : Exit → Act → World → Prop} {rest : List Oper} {oi : Oper} {a : Act} {w : World} (N : Option Tmp) {f : FuncId} {fn : Func} {Ua : Array Operand} {ts : Array TypeId} (hf : P.funcs[f]? = some fn) (args : Array Value)
  (h : Calls P f args w fun e w' => ∃ v, e = .returned v ∧ wpList P ops Q rest (a.put N v) w') (hd : oi.dst = N := by exact rfl) (hg : oi.guard = none := by exact rfl) (hop : oi.op = .call { callee := .value (.func f), args := Ua, argTypes := ts } := by exact rfl) (hname : (fn.name == "runtime.NumGoroutine") = false := by kernel_rfl) (hb : fn.body.isSome = true := by exact rfl)
  (hargs:Ua.map a.eval=args:=by (try simp only [List.map_toArray,List.map_cons,List.map_nil]);first|done|rfl|(simp only [List.length_drop,List.length_take];rfl)):wpList P ops Q (oi :: rest) a w:=GK N hd hg hf hname hb args hop hargs h
theorem tS {α:Type} {d:Kd α} {e b:Nat} {ok:Nat→Prop} {v:Value} {xs:List α} {w:World} {g t:Nat} {cells:Array Value} (h:af (Kd.S d e w b ok v xs)) (hb:af (w.heap[g]?=some (.cells cells t (0,0)))) (ht:∀ q,q ∈ e :: d.E→q ≠ t:=by decide):Kd.S d e w b (fun k=>ok k∧k ≠ g) v xs:=Kd.Af h.out hb.out ht
theorem gS {α:Type} {d:Kd α} {e b:Nat} {ok:Nat→Prop} {v:Value} {xs:List α} {w:World} {g:Nat} (i:Nat) (u:Value) (h:Kd.S d e w b (fun k=>ok k∧k ≠ g) v xs):Kd.S d e (w.setCell ⟨g,i,none⟩ u) b (fun k=>ok k∧k ≠ g) v xs:=Kd.lW h (p:=⟨g,i,none⟩) (fun _ hk=>hk.2) u
theorem tR {α:Type} {d:Kd α} {e b:Nat} {ok:Nat→Prop} {v:Value} {xs:List α} {w:World} {g t:Nat} {cells:Array Value} (h:af (Kd.R d e w b ok v xs)) (hb:af (w.heap[g]?=some (.cells cells t (0,0)))) (ht:∀ q,q ∈ e :: d.E→q ≠ t:=by decide):Kd.R d e w b (fun k=>ok k∧k ≠ g) v xs:=Kd.FY h.out hb.out ht
theorem gR {α:Type} {d:Kd α} {e b:Nat} {ok:Nat→Prop} {v:Value} {xs:List α} {w:World} {g:Nat} (i:Nat) (u:Value) (h:Kd.R d e w b (fun k=>ok k∧k ≠ g) v xs):Kd.R d e (w.setCell ⟨g,i,none⟩ u) b (fun k=>ok k∧k ≠ g) v xs:=Kd.D9 h (p:=⟨g,i,none⟩) (fun _ hk=>hk.2) u
theorem bS {α β:Type} {x:Option α} {f:α→Option β} {r:β} (h:x.bind f=some r):∃ a,af (x=some a)∧f a=some r:=by
 obtain ⟨a,h1,h2⟩:=Option.bind_eq_some_iff.mp h
 exact ⟨a,⟨h1⟩,h2⟩
theorem iF {α:Type} {a b c:α} (h:(if false=true then a else b)=c):b=c:=by simpa using h
theorem iT {α:Type} {a b c:α} (h:(if true=true then a else b)=c):a=c:=by simpa using h
theorem uD {w:World} {g:Nat} {a:Value} {l:List Value} {t:TypeId} (h:af (w.heap[g]?=some (.cells (a :: l).toArray t (0,0)))):w.cell? ⟨g,0,none⟩=some a∧w.frozen? ⟨g,0,none⟩=false:=⟨(dY h.out 0).trans (by simp),fA h.out 0⟩
theorem as9 {w:World} {g:Nat} {a b:Value} {l:List Value} {t:TypeId} (h:af (w.heap[g]?=some (.cells (a :: b :: l).toArray t (0,0)))):w.cell? ⟨g,0,none⟩=some a∧w.cell? ⟨g,1,none⟩=some b∧w.frozen? ⟨g,0,none⟩=false∧w.frozen? ⟨g,1,none⟩=false:=⟨(dY h.out 0).trans (by simp),(dY h.out 1).trans (by simp),fA h.out 0,fA h.out 1⟩
theorem JH {w:World} {g:Nat} {o:Obj} (h:w.heap[g]?=some o) {p:Addr} (hp:af (g ≠ p.block)) (u:Value):(w.setCell p u).heap[g]?=some o:=(Below.heap_setCell w p u g hp.out).trans h
theorem kF {w0 w w1:World} {g:Nat} {o:Obj} (h:af (w0.heap[g]?=some o)) (hb:Below w.heap.size w w1) (k:w0.heap[g]?=some o→w.heap[g]?=some o:=by intro h;repeat (first|(with_reducible first|exact h|refine o_ ?_ _|refine dg ?_|refine atW ?_ _|refine JH ?_ (by assumption) _)|exact h)):af (w1.heap[g]?=some o):=⟨ck (k h.out) hb⟩
theorem kP {w0 w w1:World} {g:Nat} {o:Obj} (o':Obj) (h:af (w0.heap[g]?=some o)) (hb:Below w.heap.size w w1) (k:w0.heap[g]?=some o→w.heap[g]?=some o':=by intro h;repeat (first|(with_reducible first|refine o_ ?_ _|refine dg ?_|refine atW ?_ _)|exact h|apply NM|refine JH ?_ (by assumption) _|exact rfl)):af (w1.heap[g]?=some o'):=⟨ck (k h.out) hb⟩
theorem iC {α:Type} {p:Prop} [Decidable p] {x y z:α} (h:(if p then x else y)=z):(decide p=false∧y=z)∨(decide p=true∧x=z):=by
 by_cases c:p
 ·rw [if_pos c] at h;exact .inr ⟨decide_eq_true c,h⟩
 ·rw [if_neg c] at h;exact .inl ⟨decide_eq_false c,h⟩
theorem iE {α β:Type} [BEq β] [LawfulBEq β] {a b:β} [Decidable (a=b)] {x y z:α} (h:(if a=b then x else y)=z):(¬ a=b∧(a == b)=false∧(a != b)=true∧y=z)∨((a == b)=true∧(a != b)=false∧x=z):=by
 by_cases c:a=b
 ·rw [if_pos c] at h;exact .inr ⟨beq_iff_eq.mpr c,bne_eq_false_iff_eq.mpr c,h⟩
 ·rw [if_neg c] at h;exact .inl ⟨c,beq_eq_false_iff_ne.mpr c,bne_iff_ne.mpr c,h⟩
theorem bW {w W w1:World} (hb:Below W.heap.size W w1) (h:Below w.heap.size w W:=by exact bl):af (Below w.heap.size w w1):=⟨cu h hb⟩
theorem eT {p:Prop} (h:p):p=True:=eq_true h
theorem iN (i n:Int) (p:0≤i:=by exact oD) (q:i < n:=by exact oD):0≤i∧i < n:=⟨p,q⟩
theorem dL {P : Program} {ops : Array Oper} {rest : List Oper} {o : Oper} {a : Act} {Q : Exit → Act → World → Prop} {W w : World} (N : Tmp) (cs : Array Value) (t : TypeId) (hB : Below w.heap.size w W)
  (h:∀ g w1,af (w1.heap[g]?=some (.cells cs t (0,0)))→af (w.heap.size≤g)→af (Below w.heap.size w w1)→wpList P ops Q rest (a.put o.dst (.pointer (some ⟨g,0,none⟩))) w1) (hd:o.dst=some N:=by exact rfl) (hgd:o.guard=none:=by exact rfl)
  (hrun:(execOp a.eval o).run P W=.ok (.value (.pointer (some ⟨W.heap.size,0,none⟩))) (W.alloc (.cells cs t (0,0))):=by first|(go_simp;done)|(go_simp;rfl)):wpList P ops Q (o :: rest) a W:=Uh hgd hd hrun fun g hg w1 hb hbl=>h g w1 ⟨hb⟩ ⟨by rw [hg];exact as8 hB⟩ ⟨cu hB hbl⟩
theorem kK {w0 w w1:World} {g g':Nat} {row:Option Nat} {o:Obj} (hk:bx w w1 g row) (h:af (w0.heap[g']?=some o)) (hn:af (g' ≠ g)) (hr:some g' ≠ row:=by simp) (k:w0.heap[g']?=some o→w.heap[g']?=some o:=by intro h;(with_reducible repeat (first|refine o_ ?_ _|refine dg ?_|refine atW ?_ _));exact h):af (w1.heap[g']?=some o):=⟨bx.blk hk (k h.out) hn.out hr⟩
theorem nY {α:Type} (x:α):∃ y,af (y=x):=⟨_,⟨rfl⟩⟩
theorem nE {a b:Nat} (h:af (a ≠ b)):a ≠ b∧b ≠ a:=⟨h.out,h.out.symm⟩
theorem oL {p:Prop} (h:p:=by first|omega|exact Nat.le_refl _):p:=h
theorem kZ {p:Prop} (h:p:=by repeat (first|(with_reducible first|refine o_ ?_ _|refine dg ?_|refine atW ?_ _|exact af.out (by assumption)|apply NM|refine JH ?_ (by assumption) _)|exact af.out (by assumption)|apply NM|refine JH ?_ (by assumption) _|exact rfl)):p:=h
theorem aG {b g:Nat} {w W W1:World} (hge:b≤g) (h:Below b w W) (k:b≤g→Below b w W→Below b w W1:=by intro hge h;repeat (first|(with_reducible first|exact h|apply eH|apply atz|apply eZ|refine o9 ?_ hge|refine NI ?_ (by assumption))|exact h|refine o9 ?_ hge)):Below b w W1:=k hge h
theorem fR {α:Type} {d:Kd α} {e b:Nat} {ok:Nat→Prop} {v:Value} {xs:List α} {w w1:World} (h:af (Kd.R d e w b ok v xs)) (k:Kd.R d e w b ok v xs→Kd.R d e w1 b ok v xs:=by intro h;repeat (first|(with_reducible first|exact h|apply Kd.kT|apply Kd.kU|apply Kd.di)|exact h|refine Kd.D9 ?_ (fun _ hk=>by (repeat (first|exact hk|exact hk.2|exact hk.2.1|exact hk.2.2|exact Nat.ne_of_lt hk|replace hk:=hk.1))) _)):Kd.R d e w1 b ok v xs:=k h.out
theorem eI {α:Type} {d:Kd α} {e b:Nat} {ok:Nat→Prop} {v:Value} {xs:List α} {w W w1:World} (h:af (Kd.R d e w b ok v xs)) (hb:Below W.heap.size W w1) (k:Kd.R d e w b ok v xs→Kd.R d e W b ok v xs:=by exact fun h=>fR ⟨h⟩):af (Kd.R d e w1 b ok v xs):=⟨Kd.vO (k h.out) hb⟩
theorem eO {α:Type} {d:Kd α} {e b:Nat} {ok:Nat→Prop} {u v:Value} {xs:List α} {w W w1:World} (h:af (Kd.R d e w b ok u xs)) (hl:∀ k,v.ownBlock=some k→W.heap.size≤k) (hb:Below W.heap.size W w1) (k:Kd.R d e w b ok u xs→Kd.R d e W b ok u xs:=by exact fun h=>fR ⟨h⟩):af (Kd.R d e w1 b (fun k=>ok k∧some k ≠ v.ownBlock) u xs):=⟨Kd.yQ (k h.out) hl hb⟩
theorem nN {α:Type} {d:Kd α} {e b:Nat} {ok:Nat→Prop} {v:Value} {xs:List α} {w w1:World} {g t:Nat} {cells:Array Value} (h:af (Kd.R d e w b ok v xs)) (hb:af (w.heap[g]?=some (.cells cells t (0,0)))) (ht:∀ q,q ∈ e :: d.E→q ≠ t:=by decide) (k:Kd.R d e w b (fun k=>ok k∧k ≠ g) v xs→Kd.R d e w1 b (fun k=>ok k∧k ≠ g) v xs:=by exact fun h=>fR ⟨h⟩):Kd.R d e w1 b ok v xs:=Kd.aH (k (Kd.FY h.out hb.out ht)) (fun _ h=>h.1)
theorem Lo {α:Type} {d:Kd α} {e b:Nat} {ok:Nat→Prop} {A:Option Addr} {n c:Nat} {xs:List α} {w w1:World} {g t:Nat} {cells:Array Value} (h:af (Kd.R d e w b ok (.slice A n c) xs)) (hb:af (w.heap[g]?=some (.cells cells t (0,0)))) (ht:∀ q,q ∈ e :: d.E→q ≠ t:=by decide) (k:Kd.R d e w b (fun k=>ok k∧k ≠ g) (.slice A n c) xs→Kd.R d e w1 b (fun k=>ok k∧k ≠ g) (.slice A n c) xs:=by exact fun h=>fR ⟨h⟩):Kd.C d w1 A xs.length xs:=(Kd.bD (k (Kd.FY h.out hb.out ht))).2.2
theorem fS {α:Type} {d:Kd α} {e b:Nat} {ok:Nat→Prop} {v:Value} {xs:List α} {w w1:World} (h:af (Kd.S d e w b ok v xs)) (k:Kd.S d e w b ok v xs→Kd.S d e w1 b ok v xs:=by intro h;repeat (first|(with_reducible first|exact h|apply Kd.gQ|apply Kd.atB|apply Kd.dK)|exact h|refine Kd.lW ?_ (fun _ hk=>by (repeat (first|exact hk|exact hk.2|exact hk.2.1|exact hk.2.2|exact Nat.ne_of_lt hk|replace hk:=hk.1))) _)):Kd.S d e w1 b ok v xs:=k h.out
theorem nF {α:Type} {d:Kd α} {e b:Nat} {ok:Nat→Prop} {v:Value} {xs:List α} {w W w1:World} (h:af (Kd.S d e w b ok v xs)) (hb:Below W.heap.size W w1) (k:Kd.S d e w b ok v xs→Kd.S d e W b ok v xs:=by exact fun h=>fS ⟨h⟩):af (Kd.S d e w1 b ok v xs):=⟨Kd.Ea (k h.out) hb⟩
theorem kg {α:Type} {d:Kd α} {e b:Nat} {ok:Nat→Prop} {u v:Value} {xs:List α} {w W w1:World} (h:af (Kd.S d e w b ok u xs)) (hl:∀ k,v.ownBlock=some k→W.heap.size≤k) (hb:Below W.heap.size W w1) (k:Kd.S d e w b ok u xs→Kd.S d e W b ok u xs:=by exact fun h=>fS ⟨h⟩):af (Kd.S d e w1 b (fun k=>ok k∧some k ≠ v.ownBlock) u xs):=⟨Kd.TK (k h.out) hl hb⟩
theorem Lm {α:Type} {d:Kd α} {e b:Nat} {ok:Nat→Prop} {v:Value} {xs:List α} {w w1:World} {g t:Nat} {cells:Array Value} (h:af (Kd.S d e w b ok v xs)) (hb:af (w.heap[g]?=some (.cells cells t (0,0)))) (ht:∀ q,q ∈ e :: d.E→q ≠ t:=by decide) (k:Kd.S d e w b (fun k=>ok k∧k ≠ g) v xs→Kd.S d e w1 b (fun k=>ok k∧k ≠ g) v xs:=by exact fun h=>fS ⟨h⟩):Kd.S d e w1 b ok v xs:=Kd.bQ (k (Kd.Af h.out hb.out ht)) (fun _ h=>h.1)
theorem fV {α:Type} {d:Kd α} {e b:Nat} {ok:Nat→Prop} {v:Value} {xs:List α} {w w1:World} (h:af (Kd.V d e w b ok v xs)) (k:Kd.V d e w b ok v xs→Kd.V d e w1 b ok v xs:=by intro h;repeat (first|(with_reducible first|exact h|apply Kd.avU|apply Kd.T6|apply Kd.vQ)|exact h|refine Kd.iO ?_ (fun _ hk=>by (repeat (first|exact hk|exact hk.2|exact hk.2.1|exact hk.2.2|exact Nat.ne_of_lt hk|replace hk:=hk.1))) _)):Kd.V d e w1 b ok v xs:=k h.out
theorem rV {α:Type} {d:Kd α} {e b:Nat} {ok:Nat→Prop} {A:Option Addr} {n c:Nat} {xs:List α} {w w1:World} (h:af (Kd.V d e w b ok (.slice A n c) xs)) (k:Kd.V d e w b ok (.slice A n c) xs→Kd.V d e w1 b ok (.slice A n c) xs:=by exact fun h=>fV ⟨h⟩):Kd.C d w1 A xs.length xs:=(Kd.gT (k h.out)).2.2
theorem au1 {α:Type} {d:Kd α} {e b:Nat} {ok:Nat→Prop} {v:Value} {xs:List α} {w W w1:World} (h:af (Kd.V d e w b ok v xs)) (hb:Below W.heap.size W w1) (k:Kd.V d e w b ok v xs→Kd.V d e W b ok v xs:=by exact fun h=>fV ⟨h⟩):af (Kd.V d e w1 b ok v xs):=⟨Kd.avV (k h.out) hb⟩
theorem atZ {α:Type} {d:Kd α} {e b:Nat} {ok:Nat→Prop} {v:Value} {xs:List α} {w W w1:World} {g:Nat} (h:af (Kd.V d e w b ok v xs)) (hg:g=W.heap.size) (hb:Below W.heap.size W w1) (k:Kd.V d e w b ok v xs→Kd.V d e W b ok v xs:=by exact fun h=>fV ⟨h⟩):af (Kd.V d e w1 b (fun k=>ok k∧k ≠ g) v xs):=⟨Kd.avV (Kd.acT (k h.out) g (Nat.le_of_eq hg.symm)) hb⟩
theorem fl {α:Type} {d:Kd α} {e b:Nat} {ok:Nat→Prop} {u v:Value} {xs:List α} {w W w1:World} (h:af (Kd.V d e w b ok u xs)) (hl:∀ k,v.ownBlock=some k→W.heap.size≤k) (hb:Below W.heap.size W w1) (k:Kd.V d e w b ok u xs→Kd.V d e W b ok u xs:=by exact fun h=>fV ⟨h⟩):af (Kd.V d e w1 b (fun k=>ok k∧some k ≠ v.ownBlock) u xs):=⟨Kd.acS (k h.out) hl hb⟩
theorem jM {P : Program} {ops : Array Oper} {rest : List Oper} {o : Oper} {a : Act} {Q : Exit → Act → World → Prop} {W : World} (e : Nat) {N : Tmp} {xs : List Int} {inner : List Value} (nH : aJ ((Kd.int .i64).M W W.heap.size (fun _ => True)) (Kd.int .i64).sz xs inner)
  (h:∀ v1 w1,Kd.R (Kd.int .i64) e w1 W.heap.size (fun _=>True) v1 xs→Below W.heap.size W w1→W.grownBy w1 none→(∃ b,v1.ownBlock=some b∧W.heap.size≤b)→wpList P ops Q rest (a.put o.dst v1) w1) (hd:o.dst=some N:=by exact rfl) (hgd:o.guard=none:=by exact rfl)
  (hrun:(execOp a.eval o).run P W=.ok (.value (.slice (some ⟨W.heap.size,0,none⟩) xs.length xs.length)) (W.alloc (.cells inner.toArray e)):=by first|(go_simp;done)|(go_simp;rfl)) (hm:xs.length≤9223372036854775807:=by simp):wpList P ops Q (o :: rest) a W :=
 Kd.B1 (Kd.int .i64) _ e hgd hd hrun nH (fun _ hk=>hk) trivial (Below.refl _ _) (Nat.le_refl _) hm h
theorem LU {P : Program} {ops : Array Oper} {o : Oper} {a : Act} {Q : Exit → Act → World → Prop} {Kc : Act → World → Prop} {W : World} (e : Nat) {N : Tmp} {xs : List Int} {inner : List Value} (nH : aJ ((Kd.int .i64).M W W.heap.size (fun _ => True)) (Kd.int .i64).sz xs inner)
  (h:∀ v1 w1,Kd.R (Kd.int .i64) e w1 W.heap.size (fun _=>True) v1 xs→Below W.heap.size W w1→W.grownBy w1 none→(∃ b,v1.ownBlock=some b∧W.heap.size≤b)→Kc (a.put o.dst v1) w1) (hd:o.dst=some N:=by exact rfl) (hgd:Region.wanted o (yielded ops a.tmps)=true:=by exact rfl)
  (hrun:(execOp a.eval o).run P W=.ok (.value (.slice (some ⟨W.heap.size,0,none⟩) xs.length xs.length)) (W.alloc (.cells inner.toArray e)):=by first|(go_simp;done)|(go_simp;rfl)) (hm:xs.length≤9223372036854775807:=by simp):if Region.wanted o (yielded ops a.tmps)=true then Oper.wp P o a W Kc Q else Kc (a.put o.dst undef) W :=
 Kd.TE (Kd.int .i64) _ e hgd hd hrun nH (fun _ hk=>hk) trivial (Below.refl _ _) (Nat.le_refl _) hm h
theorem atm {w W W1 W2:World} {g:Nat} {row:Option Nat} (h:af (bx w W g row)) (hk:bx W1 W2 g row) (k:bx w W g row→bx w W1 g row:=by exact fun h=>aK h):af (bx w W2 g row):=⟨bx.trans (k h.out) hk (.inl rfl)⟩
theorem eC {w W W1 W2:World} {g:Nat} (h:af (bx w W g none)) (hb:Below W1.heap.size W1 W2) (k:bx w W g none→bx w W1 g none:=by exact fun h=>aK h):af (bx w W2 g none):=⟨bx.trans (k h.out) (bx.Qf hb g none) (.inl rfl)⟩
theorem mT {α β:Type} {a c:α} {b d:β} (h:some (a,b)=some (c,d)):a=c∧b=d:=by simpa using h
theorem t_ {P : Program} {md : Region.Mode} {ops : Array Oper} {Q : Exit → Act → World → Prop} {S : World → Prop} {ds B : List Nat} {T : Bool × List (List Nat × List Nat)} {oi : Oper} {v : Value} {fuel : Nat} {l : Array Bool} {a a' : Act} {w : World} (i : Nat) (N : Option Tmp) (l' : Array Bool) (HT : af (eB md ops = T)) (HW : af (ie T.2 B = true)) (hS : S w) (hi : ops[i]? = some oi := by exact rfl) (hN : oi.dst = N := by exact rfl) (hc : Bm T B ds l.toList l'.toList i = true := by kernel_rfl)
  (hQ:∀ c a w,Q (.panic c) (a.put oi.dst v) w→Q (.panic c) a w:=by exact (fun _ _ _ h=>h)) (hy:YieldsIf P ops S oi v a:=by refine Or.inl ⟨by rfl,?_⟩;rintro w' ⟨s0,s1⟩;go_simp;with_reducible rfl) (ha:a.put N v=a':=by simp only [Act.put,zI,zZ,zS,bp,bH];rfl) (h:fO P md ops Q S ds fuel l' a' w):fO P md ops Q S ds (fuel+1) l a w :=
 oQ l' hi hN (E9 HT.out HW.out hc) hQ hy hS ha h
theorem jA {P : Program} {md : Region.Mode} {ops : Array Oper} {Q : Exit → Act → World → Prop} {S : World → Prop} {ds B : List Nat} {T : Bool × List (List Nat × List Nat)} {oi : Oper} {v : Value} {fuel : Nat} {l : Array Bool} {a a' : Act} {w : World} (i : Nat) (N : Option Tmp) (l' : Array Bool) (HT : af (eB md ops = T)) (HW : af (ie T.2 B = true)) (hS : S w) (hi : ops[i]? = some oi := by exact rfl) (hN : oi.dst = N := by exact rfl) (hc : Bm T B ds l.toList l'.toList i = true := by kernel_rfl)
  (hQ:∀ c a w,Q (.panic c) (a.put oi.dst v) w→Q (.panic c) a w:=by exact (fun _ _ _ h=>h)) (hy:YieldsIf P ops S oi v a:=by refine Or.inl ⟨by rfl,?_⟩;rintro w' ⟨s0,s1,s2⟩;go_simp;with_reducible rfl) (ha:a.put N v=a':=by simp only [Act.put,zI,zZ,zS,bp,bH];rfl) (h:fO P md ops Q S ds fuel l' a' w):fO P md ops Q S ds (fuel+1) l a w :=
 oQ l' hi hN (E9 HT.out HW.out hc) hQ hy hS ha h
theorem IV {P : Program} {md : Region.Mode} {ops : Array Oper} {Q : Exit → Act → World → Prop} {S : World → Prop} {ds B : List Nat} {T : Bool × List (List Nat × List Nat)} {oi : Oper} {v : Value} {fuel : Nat} {l : Array Bool} {a a' : Act} {w : World} (i : Nat) (N : Option Tmp) (l' : Array Bool) (HT : af (eB md ops = T)) (HW : af (ie T.2 B = true)) (hS : S w) (hi : ops[i]? = some oi := by exact rfl) (hN : oi.dst = N := by exact rfl) (hc : Bm T B ds l.toList l'.toList i = true := by kernel_rfl)
  (hQ:∀ c a w,Q (.panic c) (a.put oi.dst v) w→Q (.panic c) a w:=by exact (fun _ _ _ h=>h)) (hy:YieldsIf P ops S oi v a:=by refine Or.inl ⟨by rfl,?_⟩;rintro w' ⟨s0,s1,s2,s3⟩;go_simp;with_reducible rfl) (ha:a.put N v=a':=by simp only [Act.put,zI,zZ,zS,bp,bH];rfl) (h:fO P md ops Q S ds fuel l' a' w):fO P md ops Q S ds (fuel+1) l a w :=
 oQ l' hi hN (E9 HT.out HW.out hc) hQ hy hS ha h
theorem pV {P : Program} {md : Region.Mode} {ops : Array Oper} {Q : Exit → Act → World → Prop} {S : World → Prop} {ds B : List Nat} {T : Bool × List (List Nat × List Nat)} {oi : Oper} {v : Value} {fuel : Nat} {l : Array Bool} {a a' : Act} {w : World} (i : Nat) (N : Option Tmp) (l' : Array Bool) (HT : af (eB md ops = T)) (HW : af (ie T.2 B = true)) (hS : S w) (hi : ops[i]? = some oi := by exact rfl) (hN : oi.dst = N := by exact rfl) (hc : Bm T B ds l.toList l'.toList i = true := by kernel_rfl)
  (hQ:∀ c a w,Q (.panic c) (a.put oi.dst v) w→Q (.panic c) a w:=by exact (fun _ _ _ h=>h)) (hy:YieldsIf P ops S oi v a:=by refine Or.inl ⟨by rfl,?_⟩;rintro w' ⟨s0,s1,s2,s3,s4⟩;go_simp;with_reducible rfl) (ha:a.put N v=a':=by simp only [Act.put,zI,zZ,zS,bp,bH];rfl) (h:fO P md ops Q S ds fuel l' a' w):fO P md ops Q S ds (fuel+1) l a w :=
 oQ l' hi hN (E9 HT.out HW.out hc) hQ hy hS ha h
theorem Fk {P : Program} {md : Region.Mode} {ops : Array Oper} {Q : Exit → Act → World → Prop} {S : World → Prop} {ds B : List Nat} {T : Bool × List (List Nat × List Nat)} {oi : Oper} {v : Value} {fuel : Nat} {l : Array Bool} {a a' : Act} {w : World} (i : Nat) (N : Option Tmp) (l' : Array Bool) (HT : af (eB md ops = T)) (HW : af (ie T.2 B = true)) (hS : S w) (hi : ops[i]? = some oi := by exact rfl) (hN : oi.dst = N := by exact rfl) (hc : Bm T B ds l.toList l'.toList i = true := by kernel_rfl)
  (hQ:∀ c a w,Q (.panic c) (a.put oi.dst v) w→Q (.panic c) a w:=by exact (fun _ _ _ h=>h)) (hy:YieldsIf P ops S oi v a:=by refine Or.inl ⟨by rfl,?_⟩;rintro w' ⟨s0,s1,s2,s3,s4,s5⟩;go_simp;with_reducible rfl) (ha:a.put N v=a':=by simp only [Act.put,zI,zZ,zS,bp,bH];rfl) (h:fO P md ops Q S ds fuel l' a' w):fO P md ops Q S ds (fuel+1) l a w :=
 oQ l' hi hN (E9 HT.out HW.out hc) hQ hy hS ha h
end Go.Proofs.Ytapnggjaeehpdaa.B
/- Set with little white space, by a program. -/
