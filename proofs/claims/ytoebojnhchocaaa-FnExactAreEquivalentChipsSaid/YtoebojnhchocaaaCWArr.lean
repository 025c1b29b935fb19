/- Words on rows, worlds and walks that the texts of one law use (chosen by a program out of the seat's printed words). No condition beyond each theorem's own. -/
import Derived.Test.YtoebojnhchocaaaCWWords
namespace Go.Proofs.bI.en
open Go.RowKit
namespace Kd
theorem adL {α:Type} {R:α→List Value→Prop} {size:Nat} {ps:List α} {cs:List Value} (h:bS R size ps cs) (hs0:0 < size) (hR:∀ p c,R p c→∀ u ∈ c,u.oneCell'=true):∀ u ∈ cs,u.oneCell'=true:=by
 intro u hu
 obtain ⟨q,hq,rfl⟩:=List.mem_iff_getElem.1 hu
 have CG:q / size < ps.length:=by
  rw [Nat.div_lt_iff_lt_mul hs0,← h.1]
  exact hq
 refine hR _ _ (h.2 (q / size) _ (List.getElem?_eq_getElem CG)) _ ?_
 rw [List.mem_iff_getElem?]
 refine ⟨q % size,?_⟩
 rw [List.getElem?_take,if_pos (Nat.mod_lt _ hs0),List.getElem?_drop,Nat.mul_comm,Nat.div_add_mod,List.getElem?_eq_getElem hq]
/-- An array of n elements of kind d. -/
def arr {α:Type} (n:Nat) (d:Kd α) (hs:0 < d.sz):Kd (List α) where
 sz:=n * d.sz
 E:=d.E
 K:=fun w xs cs=>xs.length=n∧bS (d.K w) d.sz xs cs
 M:=fun w base ok xs cs=>xs.length=n∧bS (d.M w base ok) d.sz xs cs
 nZ:=fun h=>by rw [← h.1];exact h.2.1
 lz:=fun h=>adL h.2 hs (fun _ _ hk=>d.lz hk)
 qI:=fun hb h=>⟨h.1,h.2.jT (fun _ _ hk=>d.qI hb hk)⟩
 jN:=fun h=>⟨h.1,h.2.jT (fun _ _ hk=>d.jN hk)⟩
 gQ:=fun hok h=>⟨h.1,h.2.jT (fun _ _ hk=>d.gQ hok hk)⟩
 mb:=fun h=>⟨h.1,h.2.jT (fun _ _ hk=>d.mb hk)⟩
 kZ:=fun hm h=>⟨h.1,h.2.jT (fun _ _ hk=>d.kZ hm hk)⟩
 qJ:=fun hb h=>⟨h.1,h.2.jT (fun _ _ hk=>d.qJ hb hk)⟩
section
variable {α:Type} {n:Nat} {d:Kd α} {hs:0 < d.sz} {w:World} {base:Nat} {ok:Nat→Prop} {xs:List α} {cs:List Value}
theorem zX (h:(arr n d hs).K w xs cs):xs.length=n:=h.1
end
section
variable {α:Type} {n:Nat} {enc:α→Value} {h1:∀ x,(enc x).oneCell'=true} {hs:0 < (scalar enc h1).sz} {w:World} {base:Nat} {ok:Nat→Prop} {xs:List α} {cs:List Value}
theorem adJ (h:bS (fun (x:α) (cs:List Value)=>cs=[enc x]) 1 xs cs):cs=fl enc xs:=by
 apply List.ext_getElem?
 intro j
 have hl:=h.1
 rw [Nat.mul_one] at hl
 rcases Nat.lt_or_ge j xs.length with hj|hj
 ·have h2 := h.2 j _ (List.getElem?_eq_getElem hj)
  have hj':j < cs.length:=by omega
  rw [Nat.mul_one,List.drop_eq_getElem_cons hj'] at h2
  have h5:=congrArg List.head? h2
  rw [List.take_succ_cons] at h5
  have h4:cs[j]=enc xs[j]:=Option.some.inj h5
  rw [List.getElem?_eq_getElem hj',h4]
  simp [fl,List.getElem?_eq_getElem hj]
 ·rw [List.getElem?_eq_none (by omega),List.getElem?_eq_none (by rw [Iv];omega)]
/-- An array of scalars: its cells are the elements'. -/
theorem Ng (h:(arr n (scalar enc h1) hs).K w xs cs):xs.length=n∧cs=fl enc xs:=⟨h.1,adJ h.2⟩
end
end Kd
end Go.Proofs.bI.en
/- Set with little white space, by a program. -/
