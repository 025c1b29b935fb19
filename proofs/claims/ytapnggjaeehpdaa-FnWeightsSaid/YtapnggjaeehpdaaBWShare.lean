/- Words on rows, worlds and walks that the texts of one law use (chosen by a program out of the seat's printed words). No condition beyond each theorem's own. -/
import Derived.Test.YtapnggjaeehpdaaBWKept
namespace Go.Proofs.bz.dI
open Go.RowKit
/-- P holds in W and in every world that has W's blocks of ok. -/
def lu (P:World→Prop) (W:World) (ok:Nat→Prop):Prop:=∀ W':World,(∀ k,ok k→k < W.heap.size→W'.heap[k]?=W.heap[k]?)→P W'
theorem agS {W W1:World} {k:Nat} (h:W1.heap[k]?=W.heap[k]?) (hlt:k < W.heap.size):k < W1.heap.size:=by
 rw [Array.getElem?_eq_getElem hlt] at h
 exact (Array.getElem?_eq_some_iff.1 h).1
namespace lu
variable {P Q:World→Prop} {W W1:World} {ok ok':Nat→Prop}
theorem now (h:lu P W ok):P W:=h W (fun _ _ _=>rfl)
theorem mono (h:lu P W ok) (hok:∀ k,ok k→ok' k):lu P W ok':=fun W' hW=>h W' (fun k hk hlt=>hW k (hok k hk) hlt)
theorem bound (h:lu P W ok):lu P W (fun k=>ok k∧k < W.heap.size):=fun W' hW=>h W' (fun k hk hlt=>hW k ⟨hk,hlt⟩ hlt)
theorem step (h:lu P W ok) (hm:∀ k,ok k→k < W.heap.size→W1.heap[k]?=W.heap[k]?):lu P W1 ok:=fun W' hW=>h W' (fun k hk hlt=>(hW k hk (agS (hm k hk hlt) hlt)).trans (hm k hk hlt))
theorem imp (h:lu P W ok) (hi:∀ W',P W'→Q W'):lu Q W ok:=fun W' hW=>hi W' (h W' hW)
/-- Moved, and still elder than what is new since W. -/
theorem old (h:lu P W ok) (hb:Below W.heap.size W W1):lu P W1 (fun k=>ok k∧k < W.heap.size):=(h.bound).step (fun k _ hlt=>hb.block k hlt)
end lu
namespace Kd
/-- A row that is only read: what it leads to lies in ok. -/
def F {α:Type} (d:Kd α) (W:World) (ok:Nat→Prop) (A:Option Addr) (n:Nat) (xs:List α):Prop:=lu (fun W=>d.C W A n xs) W ok
/-- An element's cells: what they lead to lies in ok. -/
def FK {α:Type} (d:Kd α) (W:World) (ok:Nat→Prop) (x:α) (c:List Value):Prop:=lu (fun W=>d.K W x c) W ok
section
variable {α β:Type} {d:Kd α} {e base n n' cc g N:Nat} {ok ok' cm S:Nat→Prop} {w w0 w1 W W1:World} {A A':Option Addr} {u v v1:Value} {xs:List α} {xs':List β} {d':Kd β} {x:α} {c:List Value}
theorem aaD (h:F d W ok A n xs):d.C W A n xs:=lu.now h
theorem DB (h:F d W ok A n xs) (hok:∀ k,ok k→ok' k):F d W ok' A n xs:=lu.mono h hok
theorem Ma (h:F d W ok A n xs):F d W (fun k=>ok k∧k < W.heap.size) A n xs:=lu.bound h
theorem Mb (h:F d W ok A n xs) (hm:∀ k,ok k→k < W.heap.size→W1.heap[k]?=W.heap[k]?):F d W1 ok A n xs:=lu.step h hm
theorem aaB (h:F d W ok A n xs) (hi:∀ W',d.C W' A n xs→d'.C W' A' n' xs'):F d' W ok A' n' xs':=lu.imp h hi
theorem I7 (h:F d W ok A n xs) (hb:Below W.heap.size W W1):F d W1 ok A n xs:=Mb h (fun k _ hlt=>hb.block k hlt)
theorem aav (h:F d W ok A n xs) (o:Obj):F d (W.alloc o) ok A n xs:=I7 h (eH (Below.refl _ _) o)
theorem aaw (h:F d W ok A n xs):F d W.drew ok A n xs:=I7 h (yT (Below.refl _ _))
theorem aax (h:F d W ok A n xs) (m:Nat):F d (W.drewN m) ok A n xs:=I7 h (atz (Below.refl _ _) m)
theorem aaA (h:F d W ok A n xs) {p:Addr} (hok:∀ k,ok k→k ≠ p.block) (u:Value):F d (W.setCell p u) ok A n xs:=Mb h (fun k hk _=>Below.heap_setCell W p u k (hok k hk))
theorem Sf (h:F d W ok A n xs) (hk:bx W W1 g none) (hok:∀ k,ok k→k ≠ g):F d W1 ok A n xs:=Mb h (fun k ho hlt=>hk.2 k hlt (hok k ho) (by simp))
theorem aaC (d:Kd α) (W:World) (ok:Nat→Prop):F d W ok none ([]:List α).length []:=fun W' _=>aaq d W'
/-- A new row's block is none of an elder one's. -/
theorem aay (h:F d W ok A n xs) (hbase:∀ k,v.ownBlock=some k→W.heap.size≤k) (hb:Below W.heap.size W W1):F d W1 (fun k=>ok k∧some k ≠ v.ownBlock) A n xs :=
 DB (lu.old h hb) (fun k hk=>⟨hk.1,fun he=>by have:=hbase k he.symm;have:=hk.2;omega⟩)
theorem aaz (h:F d W ok A n xs) (a:Nat) (ha:W.heap.size≤a):F d W (fun k=>ok k∧k ≠ a) A n xs:=DB (Ma h) (fun k hk=>⟨hk.1,by have:=hk.2;omega⟩)
/-- Behind an append to v (it left v1): what lies apart from v lies apart from v1. -/
theorem aau (h:F d W (fun k=>ok k∧some k ≠ v.ownBlock) A n xs) (hg:W.grownBy W1 v.ownBlock) (a_:v1.ownBlock=v.ownBlock∨∃ b,v1.ownBlock=some b∧W.heap.size≤b):F d W1 (fun k=>ok k∧some k ≠ v1.ownBlock) A n xs:=by
 refine DB (lu.step (Ma h) (fun k hk hlt=>hg.block k hlt hk.1.2)) (fun k hk=>⟨hk.1.1,?_⟩)
 rcases a_ with a_|⟨b,hb,hle⟩
 ·rw [a_];exact hk.1.2
 ·rw [hb]
  intro he
  injection he with he
  have:=hk.2
  omega
theorem aaE (h:F d W ok A n xs) (hb:Below W.heap.size W W1):F d W1 (fun k=>ok k∧k < W.heap.size) A n xs:=lu.old h hb
theorem aaF (h:F d W (fun k=>ok k∧k ≠ g) A n xs) (hk:bx W W1 g none):F d W1 (fun k=>ok k∧k < W.heap.size) A n xs :=
 DB (Sf (Ma h) hk (fun _ hk=>hk.1.2)) (fun _ hk=>⟨hk.1.1,hk.2⟩)
theorem aaH (h:F d W1 (fun k=>ok k∧k < N) A n xs) (hbase:∀ k,v.ownBlock=some k→N≤k):F d W1 (fun k=>(ok k∧some k ≠ v.ownBlock)∧k < N) A n xs :=
 DB h (fun k hk=>⟨⟨hk.1,fun he=>Nat.lt_irrefl _ (Nat.lt_of_lt_of_le hk.2 (hbase k he.symm))⟩,hk.2⟩)
theorem R_F (h:d.R e W base ok (.slice A n cc) xs):F d W ok A n xs:=fun W' hW=>by
 have h2:=bD (B2 h hW)
 rw [h2.1]
 exact h2.2.2
theorem aat (h:FK d W ok x c) (hm:∀ k,ok k→k < W.heap.size→W1.heap[k]?=W.heap[k]?):FK d W1 ok x c:=lu.step h hm
theorem aas (h:d.M W base ok x c):FK d W ok x c:=fun _ hW=>d.atV (Nl h hW)
end
end Kd
end Go.Proofs.bz.dI
/- Set with little white space, by a program. -/
