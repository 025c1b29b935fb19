/- Words on rows, worlds and walks that the texts of one law use (chosen by a program out of the seat's printed words). No condition beyond each theorem's own. -/
import Derived.Test.YtoebojnhchocaaaGWShare
import Derived.Test.YtoebojnhchocaaaGWApart
import Derived.Test.YtoebojnhchocaaaGWWords
namespace Go.Proofs.cx.fq
open Go.RowKit
namespace Kd
/-- The cells one behind the other, element by element. -/
def chunks (sz:Nat) (n:Nat) (inner:List Value):List (List Value):=(List.range n).map fun j=>(inner.drop (j * sz)).take sz
theorem Ce (sz n:Nat) (inner:List Value):(chunks sz n inner).length=n:=by simp [chunks]
theorem Yz {sz n:Nat} {inner:List Value} {j:Nat} (hj:j < n):(chunks sz n inner)[j]?=some ((inner.drop (j * sz)).take sz):=by simp [chunks,hj]
theorem OH {sz n:Nat} {inner:List Value} {j:Nat} {c:List Value} (h:(chunks sz n inner)[j]?=some c):c=(inner.drop (j * sz)).take sz:=by
 have hj:j < n:=by have:=(List.getElem?_eq_some_iff.1 h).1;rwa [Ce] at this
 rw [Yz hj] at h
 injection h with h
 exact h.symm
theorem aeA {α:Type} {Rr:α→List Value→Prop} {sz:Nat} {xs:List α} {inner:List Value} (h:bu Rr sz xs inner) (hR:∀ x c,Rr x c→c.length=sz∧∀ u ∈ c,u.oneCell'=true):bu (fun x cs=>cs=x∧cs.length=sz∧∀ u ∈ cs,u.oneCell'=true) sz (chunks sz xs.length inner) inner:=by
 refine ⟨by rw [Ce];exact h.1,fun j p hj=>?_⟩
 have hjl:j < xs.length:=by have:=(List.getElem?_eq_some_iff.1 hj).1;rwa [Ce] at this
 have hp:=OH hj
 exact ⟨hp.symm,hR _ _ (h.2 j _ (List.getElem?_eq_getElem hjl))⟩
section
variable {α:Type} {d:Kd α} {e base n cc g:Nat} {ok ok' anX S:Nat→Prop} {w w1 W W1:World} {A:Option Addr} {u v v1:Value} {xs:List α} {x:α} {c:List Value}
/-- Element i of a row that is read: its cells, and what they lead to, in ok. -/
theorem UN (h : F d W ok A n xs) (z : α) (i : Int) (h0 : 0 ≤ i) (h1 : i < n) :
  ∃ ad c,A=some ad∧c.length=d.sz∧FK d W ok (xs.getD i.toNat z) c∧(∀ j u,c[j]?=some u→W.cell? (ad.add (i.toNat * d.sz+j))=some u)∧(0 < d.sz→ok ad.block):=by
 obtain ⟨ad,c,rfl,pz,hK,mP⟩:=Ek (MY h) z i h0 h1
 have hin:0 < d.sz→ok ad.block:=by
  intro hs
  by_cases hk:ok ad.block
  ·exact hk
  ·obtain ⟨W', h2, h3⟩ := Y4 W ad.block
   obtain ⟨Ih,c',he,aas,_,Jv⟩:=Ek (h W' (fun k hk' _=>h2 k (fun e=>hk (e ▸ hk')))) z i h0 h1
   injection he with he
   subst he
   have h4:=Jv 0 _ (List.getElem?_eq_getElem (by omega))
   rw [h3 _ (add_block _ _)] at h4
   cases h4
 refine ⟨ad,c,rfl,pz,fun W' hW=>?_,mP,hin⟩
 obtain ⟨Ih,c',he,aas,hK',Jv⟩:=Ek (h W' hW) z i h0 h1
 injection he with he
 subst he
 have hc:c=c':=by
  apply List.ext_getElem?
  intro j
  by_cases hj:j < d.sz
  ·have hb:W'.heap[ad.block]?=W.heap[ad.block]?:=by
    have h5:=mP j _ (List.getElem?_eq_getElem (by omega))
    have h6:=World.block_lt_of_cell? W _ h5
    rw [add_block] at h6
    exact hW _ (hin (by omega)) h6
   have h5:=mP j _ (List.getElem?_eq_getElem (by omega))
   have h6:=Jv j _ (List.getElem?_eq_getElem (by omega))
   have h7:W'.cell? (ad.add (i.toNat * d.sz+j))=W.cell? (ad.add (i.toNat * d.sz+j)):=by simp [World.cell?,add_block,hb]
   rw [h7,h5] at h6
   rw [List.getElem?_eq_getElem (by omega),List.getElem?_eq_getElem (by omega)]
   exact h6
  ·rw [List.getElem?_eq_none (by omega),List.getElem?_eq_none (by omega)]
 rw [hc]
 exact hK'
/-- A row of elements (type e) of the call's own; what the elements lead to is only read, and is not this row. -/
def N {α:Type} (d:Kd α) (e:Nat) (w:World) (base:Nat) (ok:Nat→Prop) (v:Value) (xs:List α):Prop :=
 (∀ k,v.ownBlock=some k→ok k)∧∃ rows:List (List Value),rows.length=xs.length∧(raw d.sz).R e w base (fun k=>some k=v.ownBlock) v rows∧∀ (j:Nat) (x:α) (c:List Value),xs[j]?=some x→rows[j]?=some c→FK d w (fun k=>ok k∧some k ≠ v.ownBlock) x c
theorem Wt (h:d.R e w base ok v xs):N d e w base ok v xs:=by
 obtain ⟨h0,inner,ho,hr⟩:=h
 refine ⟨h0,chunks d.sz xs.length inner,Ce _ _ _,⟨fun k hk=>hk.symm,inner,by rw [Ce];exact ho,aeA hr (fun x c hp=>⟨d.nQ (d.kj hp),d.nR (d.kj hp)⟩)⟩,fun j x c hx hc=>?_⟩
 rw [OH hc]
 exact UE (hr.2 j x hx)
theorem rV (d:Kd α) (e:Nat) (w:World) (base:Nat) (ok:Nat→Prop):N d e w base ok (.slice none 0 0) []:=Wt (ny _ _ _ _ _)
/-- By types: the row itself is none of a block of another type (its elements' blocks may be: they are told by ok). -/
theorem Wb (h:N d e w base ok v xs) {t:Nat} {cells:Array Value} (hb:w.heap[g]?=some (.cells cells t (0,0))) (ht:e ≠ t):some g ≠ v.ownBlock:=by
 obtain ⟨_,rows,_,hR,_⟩:=h
 exact iM hR hb ht
theorem Wc (h:N d e w base ok v xs) (hm:∀ k,ok k→k < w.heap.size→w1.heap[k]?=w.heap[k]?):N d e w1 base ok v xs:=by
 obtain ⟨h0,rows,hl,hR,hf⟩:=h
 exact ⟨h0,rows,hl,vS hR (fun k hk hlt=>hm k (h0 k hk.symm) hlt),fun j x c hx hc=>UF (hf j x c hx hc) (fun k hk hlt=>hm k hk.1 hlt)⟩
theorem HS (h:N d e w base ok v xs) (hb:Below w.heap.size w w1):N d e w1 base ok v xs:=Wc h (fun k _ hk=>hb.block k hk)
theorem V9 (h:N d e w base ok v xs) (o:Obj):N d e (w.alloc o) base ok v xs:=HS h (bn (Below.refl _ _) o)
theorem V_ (h:N d e w base ok v xs):N d e w.drew base ok v xs:=HS h (uq (Below.refl _ _))
theorem Wa (h:N d e w base ok v xs) (m:Nat):N d e (w.drewN m) base ok v xs:=HS h (bq (Below.refl _ _) m)
end
end Kd
end Go.Proofs.cx.fq
/- Set with little white space, by a program. -/
