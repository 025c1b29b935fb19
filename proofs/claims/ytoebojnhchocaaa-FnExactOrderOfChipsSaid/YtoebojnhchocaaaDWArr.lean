/- Words on rows, worlds and walks that the texts of one law use (chosen by a program out of the seat's printed words). No condition beyond each theorem's own. -/
import Derived.Test.YtoebojnhchocaaaDWWords
namespace Go.Proofs.bR.eC
open Go.RowKit
namespace Kd
theorem aer {α:Type} {R:α→List Value→Prop} {size:Nat} {ps:List α} {cs:List Value} (h:bW R size ps cs) (hs0:0 < size) (hR:∀ p c,R p c→∀ u ∈ c,u.oneCell'=true):∀ u ∈ cs,u.oneCell'=true:=by
 intro u hu
 obtain ⟨q,hq,rfl⟩:=List.mem_iff_getElem.1 hu
 have Du:q / size < ps.length:=by
  rw [Nat.div_lt_iff_lt_mul hs0,← h.1]
  exact hq
 refine hR _ _ (h.2 (q / size) _ (List.getElem?_eq_getElem Du)) _ ?_
 rw [List.mem_iff_getElem?]
 refine ⟨q % size,?_⟩
 rw [List.getElem?_take,if_pos (Nat.mod_lt _ hs0),List.getElem?_drop,Nat.mul_comm,Nat.div_add_mod,List.getElem?_eq_getElem hq]
/-- An array of n elements of kind d. -/
def arr {α:Type} (n:Nat) (d:Kd α) (hs:0 < d.sz):Kd (List α) where
 sz:=n * d.sz
 E:=d.E
 K:=fun w xs cs=>xs.length=n∧bW (d.K w) d.sz xs cs
 M:=fun w base ok xs cs=>xs.length=n∧bW (d.M w base ok) d.sz xs cs
 nG:=fun h=>by rw [← h.1];exact h.2.1
 lf:=fun h=>aer h.2 hs (fun _ _ hk=>d.lf hk)
 qQ:=fun hb h=>⟨h.1,h.2.jH (fun _ _ hk=>d.qQ hb hk)⟩
 jd:=fun h=>⟨h.1,h.2.jH (fun _ _ hk=>d.jd hk)⟩
 gJ:=fun hok h=>⟨h.1,h.2.jH (fun _ _ hk=>d.gJ hok hk)⟩
 lX:=fun h=>⟨h.1,h.2.jH (fun _ _ hk=>d.lX hk)⟩
 lg:=fun hm h=>⟨h.1,h.2.jH (fun _ _ hk=>d.lg hm hk)⟩
 qR:=fun hb h=>⟨h.1,h.2.jH (fun _ _ hk=>d.qR hb hk)⟩
section
variable {α:Type} {n:Nat} {d:Kd α} {hs:0 < d.sz} {w:World} {base:Nat} {ok:Nat→Prop} {xs:List α} {cs:List Value}
theorem Aq (h:(arr n d hs).K w xs cs):xs.length=n:=h.1
end
section
variable {α:Type} {n:Nat} {enc:α→Value} {h1:∀ x,(enc x).oneCell'=true} {hs:0 < (scalar enc h1).sz} {w:World} {base:Nat} {ok:Nat→Prop} {xs:List α} {cs:List Value}
theorem aeq (h:bW (fun (x:α) (cs:List Value)=>cs=[enc x]) 1 xs cs):cs=fl enc xs:=by
 apply List.ext_getElem?
 intro j
 have hl:=h.1
 rw [Nat.mul_one] at hl
 rcases Nat.lt_or_ge j xs.length with hj|hj
 ·have h2 := h.2 j _ (List.getElem?_eq_getElem hj)
  have hj':j < cs.length:=by omega
  rw [Nat.mul_one,List.drop_eq_getElem_cons hj'] at h2
  have h5:=congrArg List.head? h2
  rw [List.take_succ_cons] at h5
  have h4:cs[j]=enc xs[j]:=Option.some.inj h5
  rw [List.getElem?_eq_getElem hj',h4]
  simp [fl,List.getElem?_eq_getElem hj]
 ·rw [List.getElem?_eq_none (by omega),List.getElem?_eq_none (by rw [JA];omega)]
/-- An array of scalars: its cells are the elements'. -/
theorem On (h:(arr n (scalar enc h1) hs).K w xs cs):xs.length=n∧cs=fl enc xs:=⟨h.1,aeq h.2⟩
end
end Kd
end Go.Proofs.bR.eC
/- Set with little white space, by a program. -/
