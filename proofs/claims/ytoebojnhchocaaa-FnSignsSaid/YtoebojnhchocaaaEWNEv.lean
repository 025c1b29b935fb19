/- Words on rows, worlds and walks that the texts of one law use (chosen by a program out of the seat's printed words). No condition beyond each theorem's own. -/
import Derived.Test.YtoebojnhchocaaaEWN
namespace Go.Proofs.bY.apf
open Go.RowKit
namespace Kd
section
variable {α:Type} {d:Kd α} {e base n cap g:Nat} {ok ok' b_:Nat→Prop} {w w1 W:World} {v v1:Value} {xs ys:List α}
/-- What was made just now. -/
theorem Ws {rows : List (List Value)} (hR : (raw d.sz).R e w1 base (fun k => k = W.heap.size) v1 rows) (hg : W.grownBy w1 none) (ao1 : ∃ b, v1.ownBlock = some b ∧ W.heap.size ≤ b) (hl : rows.length = xs.length) (hf : ∀ (j : Nat) (x : α) (c : List Value), xs[j]? = some x → rows[j]? = some c → FK d W b_ x c)
  (hok:∀ k,b_ k→ok k) (lM:ok W.heap.size):N d e w1 base ok v1 xs:=by
 obtain ⟨b,hb,hle⟩:=ao1
 refine ⟨fun k hk=>by rw [hR.1 k hk];exact lM,rows,hl,aeQ hR,fun j x c hx hc=>?_⟩
 refine Ve (N8 (Vd (hf j x c hx hc)) (fun k hk hlt=>hg.block k hlt (by simp))) (fun k hk=>⟨hok k hk.1,fun he=>?_⟩)
 rw [hb] at he
 injection he with he
 have:=hk.2
 omega
end
section
variable {P:Program} {ops:Array Oper} {rest:List Oper} {o:Oper} {a:Act} {Q:Exit→Act→World→Prop} {Kc:Act→World→Prop} {α:Type}
/-- A literal '[]T{..}': inner its cells; what the elements lead to is okp. -/
theorem Dv (d : Kd α) {w0 W : World} (base e : Nat) (hgd : o.guard = none) {N' : Tmp} (_hd : o.dst = some N') {xs : List α} {inner : List Value} {ok b_ : Nat → Prop}
  (hrun:(execOp a.eval o).run P W=.ok (.value (.slice (some ⟨W.heap.size,0,none⟩) xs.length xs.length)) (W.alloc (.cells inner.toArray e)))
  (qT:bh (FK d W b_) d.sz xs inner) (hok:∀ k,b_ k→ok k) (lM:ok W.heap.size) (HB:Below base w0 W) (hbase:base≤W.heap.size) (hm:xs.length≤9223372036854775807)
  (h:∀ v1 w1,N d e w1 base ok v1 xs→Below base w0 w1→W.grownBy w1 none→(∃ b,v1.ownBlock=some b∧W.heap.size≤b)→wpList P ops Q rest (a.put o.dst v1) w1) :
  wpList P ops Q (o :: rest) a W:=by
 refine jr (raw d.sz) base e hgd _hd (xs:=chunks d.sz xs.length inner) (inner:=inner) (ok:=fun k=>k=W.heap.size) (b_:=fun _=>False) (by rw [BG];exact hrun) (aeY qT (fun y c hk=>⟨d.apM (IZ hk),d.pE (IZ hk)⟩)) (fun _ hk=>hk.elim) rfl HB hbase (by rw [BG];exact hm) ?_
 intro v1 w1 hr hb hg ao1
 exact h v1 w1 (Ws hr hg ao1 (BG _ _ _) (fun j y c hy hc=>by rw [PN hc];exact qT.2 j y hy) hok lM) hb hg ao1
end
end Kd
end Go.Proofs.bY.apf
/- Set with little white space, by a program. -/
