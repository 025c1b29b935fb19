/- Words on rows, worlds and walks that the texts of one law use (chosen by a program out of the seat's printed words). No condition beyond each theorem's own. -/
import Derived.Test.YtapnggjaeehpdaaAWKept
namespace Go.Proofs.bB.dI
open Go.RowKit
/-- P holds in W and in every world that has W's blocks of ok. -/
def jG (P:World→Prop) (W:World) (ok:Nat→Prop):Prop:=∀ W':World,(∀ k,ok k→k < W.heap.size→W'.heap[k]?=W.heap[k]?)→P W'
theorem afI {W W1:World} {k:Nat} (h:W1.heap[k]?=W.heap[k]?) (hlt:k < W.heap.size):k < W1.heap.size:=by
 rw [Array.getElem?_eq_getElem hlt] at h
 exact (Array.getElem?_eq_some_iff.1 h).1
namespace jG
variable {P Q:World→Prop} {W W1:World} {ok ok':Nat→Prop}
theorem now (h:jG P W ok):P W:=h W (fun _ _ _=>rfl)
theorem mono (h:jG P W ok) (hok:∀ k,ok k→ok' k):jG P W ok':=fun W' hW=>h W' (fun k hk hlt=>hW k (hok k hk) hlt)
theorem bound (h:jG P W ok):jG P W (fun k=>ok k∧k < W.heap.size):=fun W' hW=>h W' (fun k hk hlt=>hW k ⟨hk,hlt⟩ hlt)
theorem step (h:jG P W ok) (hm:∀ k,ok k→k < W.heap.size→W1.heap[k]?=W.heap[k]?):jG P W1 ok:=fun W' hW=>h W' (fun k hk hlt=>(hW k hk (afI (hm k hk hlt) hlt)).trans (hm k hk hlt))
theorem imp (h:jG P W ok) (hi:∀ W',P W'→Q W'):jG Q W ok:=fun W' hW=>hi W' (h W' hW)
/-- Moved, and still elder than what is new since W. -/
theorem old (h:jG P W ok) (hb:Below W.heap.size W W1):jG P W1 (fun k=>ok k∧k < W.heap.size):=(h.bound).step (fun k _ hlt=>hb.block k hlt)
end jG
namespace Kd
/-- A row that is only read: what it leads to lies in ok. -/
def F {α:Type} (d:Kd α) (W:World) (ok:Nat→Prop) (A:Option Addr) (n:Nat) (xs:List α):Prop:=jG (fun W=>d.C W A n xs) W ok
/-- An element's cells: what they lead to lies in ok. -/
def FK {α:Type} (d:Kd α) (W:World) (ok:Nat→Prop) (x:α) (c:List Value):Prop:=jG (fun W=>d.K W x c) W ok
section
variable {α β:Type} {d:Kd α} {e base n n' cc g N:Nat} {ok ok' bw S:Nat→Prop} {w w0 w1 W W1:World} {A A':Option Addr} {u v v1:Value} {xs:List α} {xs':List β} {d':Kd β} {x:α} {c:List Value}
theorem YM (h:F d W ok A n xs):d.C W A n xs:=jG.now h
theorem C9 (h:F d W ok A n xs) (hok:∀ k,ok k→ok' k):F d W ok' A n xs:=jG.mono h hok
theorem PB (h:F d W ok A n xs):F d W (fun k=>ok k∧k < W.heap.size) A n xs:=jG.bound h
theorem J2 (h:F d W ok A n xs) (hm:∀ k,ok k→k < W.heap.size→W1.heap[k]?=W.heap[k]?):F d W1 ok A n xs:=jG.step h hm
theorem PE (h:F d W ok A n xs) (hi:∀ W',d.C W' A n xs→d'.C W' A' n' xs'):F d' W ok A' n' xs':=jG.imp h hi
theorem Gu (h:F d W ok A n xs) (hb:Below W.heap.size W W1):F d W1 ok A n xs:=J2 h (fun k _ hlt=>hb.block k hlt)
theorem PA (h:F d W ok A n xs) (o:Obj):F d (W.alloc o) ok A n xs:=Gu h (eu (Below.refl _ _) o)
theorem PC (h:F d W ok A n xs):F d W.drew ok A n xs:=Gu h (xR (Below.refl _ _))
theorem PD (h:F d W ok A n xs) (m:Nat):F d (W.drewN m) ok A n xs:=Gu h (fh (Below.refl _ _) m)
theorem YJ (h:F d W ok A n xs) {p:Addr} (hok:∀ k,ok k→k ≠ p.block) (u:Value):F d (W.setCell p u) ok A n xs:=J2 h (fun k hk _=>Below.heap_setCell W p u k (hok k hk))
theorem YK (h:F d W ok A n xs) (hk:aqB W W1 g none) (hok:∀ k,ok k→k ≠ g):F d W1 ok A n xs:=J2 h (fun k ho hlt=>hk.2 k hlt (hok k ho) (by simp))
theorem YL (d:Kd α) (W:World) (ok:Nat→Prop):F d W ok none ([]:List α).length []:=fun W' _=>J0 d W'
/-- A new row's block is none of an elder one's. -/
theorem YH (h:F d W ok A n xs) (hbase:∀ k,v.ownBlock=some k→W.heap.size≤k) (hb:Below W.heap.size W W1):F d W1 (fun k=>ok k∧some k ≠ v.ownBlock) A n xs :=
 C9 (jG.old h hb) (fun k hk=>⟨hk.1,fun he=>by have:=hbase k he.symm;have:=hk.2;omega⟩)
theorem YI (h:F d W ok A n xs) (a:Nat) (ha:W.heap.size≤a):F d W (fun k=>ok k∧k ≠ a) A n xs:=C9 (PB h) (fun k hk=>⟨hk.1,by have:=hk.2;omega⟩)
/-- Behind an append to v (it left v1): what lies apart from v lies apart from v1. -/
theorem YF (h:F d W (fun k=>ok k∧some k ≠ v.ownBlock) A n xs) (hg:W.grownBy W1 v.ownBlock) (bg:v1.ownBlock=v.ownBlock∨∃ b,v1.ownBlock=some b∧W.heap.size≤b):F d W1 (fun k=>ok k∧some k ≠ v1.ownBlock) A n xs:=by
 refine C9 (jG.step (PB h) (fun k hk hlt=>hg.block k hlt hk.1.2)) (fun k hk=>⟨hk.1.1,?_⟩)
 rcases bg with bg|⟨b,hb,hle⟩
 ·rw [bg];exact hk.1.2
 ·rw [hb]
  intro he
  injection he with he
  have:=hk.2
  omega
theorem Q2 (h:d.R e W base ok (.slice A n cc) xs):F d W ok A n xs:=fun W' hW=>by
 have h2:=aqP (BL h hW)
 rw [h2.1]
 exact h2.2.2
/-- The same of an element's cells. -/
theorem J1 (h:FK d W ok x c):d.K W x c:=jG.now h
theorem YB (h:FK d W ok x c) (hok:∀ k,ok k→ok' k):FK d W ok' x c:=jG.mono h hok
theorem YA (h:FK d W ok x c):FK d W (fun k=>ok k∧k < W.heap.size) x c:=jG.bound h
theorem Pz (h:FK d W ok x c) (hm:∀ k,ok k→k < W.heap.size→W1.heap[k]?=W.heap[k]?):FK d W1 ok x c:=jG.step h hm
theorem YC (h:d.M W base ok x c):FK d W ok x c:=fun _ hW=>d.jJ (KM h hW)
end
end Kd
end Go.Proofs.bB.dI
/- Set with little white space, by a program. -/
