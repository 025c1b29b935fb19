/- Words on rows, worlds and walks that the texts of one law use (chosen by a program out of the seat's printed words). No condition beyond each theorem's own. -/
import Derived.Test.YtapnggjaeehpdaaAWShare
import Derived.Test.YtapnggjaeehpdaaAWApart
import Derived.Test.YtapnggjaeehpdaaAWWords
namespace Go.Proofs.bB.dI
open Go.RowKit
namespace Kd
/-- The cells one behind the other, element by element. -/
def chunks (sz:Nat) (n:Nat) (inner:List Value):List (List Value):=(List.range n).map fun j=>(inner.drop (j * sz)).take sz
theorem D1 (sz n:Nat) (inner:List Value):(chunks sz n inner).length=n:=by simp [chunks]
theorem adx {sz n:Nat} {inner:List Value} {j:Nat} (hj:j < n):(chunks sz n inner)[j]?=some ((inner.drop (j * sz)).take sz):=by simp [chunks,hj]
theorem Sm {sz n:Nat} {inner:List Value} {j:Nat} {c:List Value} (h:(chunks sz n inner)[j]?=some c):c=(inner.drop (j * sz)).take sz:=by
 have hj:j < n:=by have:=(List.getElem?_eq_some_iff.1 h).1;rwa [D1] at this
 rw [adx hj] at h
 injection h with h
 exact h.symm
theorem aik {α:Type} {Rr:α→List Value→Prop} {sz:Nat} {xs:List α} {inner:List Value} (h:aH Rr sz xs inner) (hR:∀ x c,Rr x c→c.length=sz∧∀ u ∈ c,u.oneCell'=true):aH (fun x cs=>cs=x∧cs.length=sz∧∀ u ∈ cs,u.oneCell'=true) sz (chunks sz xs.length inner) inner:=by
 refine ⟨by rw [D1];exact h.1,fun j p hj=>?_⟩
 have hjl:j < xs.length:=by have:=(List.getElem?_eq_some_iff.1 hj).1;rwa [D1] at this
 have hp:=Sm hj
 exact ⟨hp.symm,hR _ _ (h.2 j _ (List.getElem?_eq_getElem hjl))⟩
section
variable {α:Type} {d:Kd α} {e base n cc g:Nat} {ok ok' bw S:Nat→Prop} {w w1 W W1:World} {A:Option Addr} {u v v1:Value} {xs:List α} {x:α} {c:List Value}
/-- A row of elements (type e) of the call's own; what the elements lead to is only read, and is not this row. -/
def N {α:Type} (d:Kd α) (e:Nat) (w:World) (base:Nat) (ok:Nat→Prop) (v:Value) (xs:List α):Prop :=
 (∀ k,v.ownBlock=some k→ok k)∧∃ rows:List (List Value),rows.length=xs.length∧(raw d.sz).R e w base (fun k=>some k=v.ownBlock) v rows∧∀ (j:Nat) (x:α) (c:List Value),xs[j]?=some x→rows[j]?=some c→FK d w (fun k=>ok k∧some k ≠ v.ownBlock) x c
theorem aid {sz:Nat} {rows:List (List Value)} (h:(raw sz).R e w base ok v rows):(raw sz).R e w base (fun k=>some k=v.ownBlock) v rows:=oV rfl h
theorem aic {sz:Nat} {rows:List (List Value)} (h:(raw sz).R e w base ok v rows):(raw sz).R e w base (fun _=>True) v rows:=aqM h (fun _ _=>trivial)
theorem Q3 (h:d.R e w base ok v xs):N d e w base ok v xs:=by
 obtain ⟨h0,inner,ho,hr⟩:=h
 refine ⟨h0,chunks d.sz xs.length inner,D1 _ _ _,⟨fun k hk=>hk.symm,inner,by rw [D1];exact ho,aik hr (fun x c hp=>⟨d.oT (d.jJ hp),d.mD (d.jJ hp)⟩)⟩,fun j x c hx hc=>?_⟩
 rw [Sm hc]
 exact YC (hr.2 j x hx)
theorem S_N (h:Kd.S d e w base ok v xs):N d e w base ok v xs:=Q3 (qH h)
theorem sX (d:Kd α) (e:Nat) (w:World) (base:Nat) (ok:Nat→Prop):N d e w base ok (.slice none 0 0) []:=Q3 (p6 _ _ _ _ _)
/-- By types: the row itself is none of a block of another type (its elements' blocks may be: they are told by ok). -/
theorem QE (h:N d e w base ok v xs) {t:Nat} {cells:Array Value} (hb:w.heap[g]?=some (.cells cells t (0,0))) (ht:e ≠ t):some g ≠ v.ownBlock:=by
 obtain ⟨_,rows,_,hR,_⟩:=h
 exact aro hR hb ht
theorem GR {base':Nat} (h:N d e w base ok v xs) (hb:base'≤base):N d e w base' ok v xs:=by
 obtain ⟨h0,rows,hl,hR,hf⟩:=h
 exact ⟨h0,rows,hl,cA hR hb,hf⟩
theorem aa3 (h:N d e w base ok v xs) (hm:∀ k,ok k→k < w.heap.size→w1.heap[k]?=w.heap[k]?):N d e w1 base ok v xs:=by
 obtain ⟨h0,rows,hl,hR,hf⟩:=h
 exact ⟨h0,rows,hl,BL hR (fun k hk hlt=>hm k (h0 k hk.symm) hlt),fun j x c hx hc=>Pz (hf j x c hx hc) (fun k hk hlt=>hm k hk.1 hlt)⟩
theorem KS (h:N d e w base ok v xs) (hb:Below w.heap.size w w1):N d e w1 base ok v xs:=aa3 h (fun k _ hk=>hb.block k hk)
theorem KR (h:N d e w base ok v xs) (o:Obj):N d e (w.alloc o) base ok v xs:=KS h (eu (Below.refl _ _) o)
theorem KT (h:N d e w base ok v xs):N d e w.drew base ok v xs:=KS h (xR (Below.refl _ _))
theorem KU (h:N d e w base ok v xs) (m:Nat):N d e (w.drewN m) base ok v xs:=KS h (fh (Below.refl _ _) m)
theorem QF (h:N d e w base ok v xs):∃ A c,v=.slice A xs.length c:=by
 obtain ⟨_,rows,hl,hR,_⟩:=h
 obtain ⟨A,c,he⟩:=cy hR
 exact ⟨A,c,by rw [he,hl]⟩
theorem KV {n c:Nat} (h:N d e w base ok (.slice A n c) xs):n=xs.length∧n≤c∧d.C w A xs.length xs:=by
 obtain ⟨_,rows,hl,hR,hf⟩:=h
 obtain ⟨hn,hc,hC⟩:=aqP hR
 refine ⟨by omega,hc,?_⟩
 rw [hl] at hC
 refine ⟨rfl,hC.2.1,fun hp=>?_⟩
 obtain ⟨ad,he,hcell⟩:=hC.2.2 hp
 refine ⟨ad,he,fun j p hj=>?_⟩
 have hjl:j < rows.length:=by have:=(List.getElem?_eq_some_iff.1 hj).1;omega
 obtain ⟨c',arU,hK,o7⟩:=hcell j _ (List.getElem?_eq_getElem hjl)
 have hk:=J1 (hf j p _ hj (List.getElem?_eq_getElem hjl))
 refine ⟨c',arU,?_,o7⟩
 rw [show c'=rows[j] from hK.1]
 exact hk
end
end Kd
end Go.Proofs.bB.dI
/- Set with little white space, by a program. -/
