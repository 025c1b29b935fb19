/- Words on rows, worlds and walks that the texts of one law use (chosen by a program out of the seat's printed words). No condition beyond each theorem's own. -/
import Derived.Test.YtoebojnhchocaaaBWKept
namespace Go.Proofs.bC.eg
open Go.RowKit
/-- P holds in W and in every world that has W's blocks of ok. -/
def kN (P:World→Prop) (W:World) (ok:Nat→Prop):Prop:=∀ W':World,(∀ k,ok k→k < W.heap.size→W'.heap[k]?=W.heap[k]?)→P W'
theorem aa' {W W1:World} {k:Nat} (h:W1.heap[k]?=W.heap[k]?) (hlt:k < W.heap.size):k < W1.heap.size:=by
 rw [Array.getElem?_eq_getElem hlt] at h
 exact (Array.getElem?_eq_some_iff.1 h).1
namespace kN
variable {P Q:World→Prop} {W W1:World} {ok ok':Nat→Prop}
theorem now (h:kN P W ok):P W:=h W (fun _ _ _=>rfl)
theorem mono (h:kN P W ok) (hok:∀ k,ok k→ok' k):kN P W ok':=fun W' hW=>h W' (fun k hk hlt=>hW k (hok k hk) hlt)
theorem bound (h:kN P W ok):kN P W (fun k=>ok k∧k < W.heap.size):=fun W' hW=>h W' (fun k hk hlt=>hW k ⟨hk,hlt⟩ hlt)
theorem step (h:kN P W ok) (hm:∀ k,ok k→k < W.heap.size→W1.heap[k]?=W.heap[k]?):kN P W1 ok:=fun W' hW=>h W' (fun k hk hlt=>(hW k hk (aa' (hm k hk hlt) hlt)).trans (hm k hk hlt))
theorem imp (h:kN P W ok) (hi:∀ W',P W'→Q W'):kN Q W ok:=fun W' hW=>hi W' (h W' hW)
/-- Moved, and still elder than what is new since W. -/
theorem old (h:kN P W ok) (hb:Below W.heap.size W W1):kN P W1 (fun k=>ok k∧k < W.heap.size):=(h.bound).step (fun k _ hlt=>hb.block k hlt)
end kN
namespace Kd
/-- A row that is only read: what it leads to lies in ok. -/
def F {α:Type} (d:Kd α) (W:World) (ok:Nat→Prop) (A:Option Addr) (n:Nat) (xs:List α):Prop:=kN (fun W=>d.C W A n xs) W ok
/-- An element's cells: what they lead to lies in ok. -/
def FK {α:Type} (d:Kd α) (W:World) (ok:Nat→Prop) (x:α) (c:List Value):Prop:=kN (fun W=>d.K W x c) W ok
section
variable {α β:Type} {d:Kd α} {e base n n' cc g N:Nat} {ok ok' cC S:Nat→Prop} {w w0 w1 W W1:World} {A A':Option Addr} {u v v1:Value} {xs:List α} {xs':List β} {d':Kd β} {x:α} {c:List Value}
theorem UJ (h:F d W ok A n xs):d.C W A n xs:=kN.now h
theorem Hy (h:F d W ok A n xs) (hok:∀ k,ok k→ok' k):F d W ok' A n xs:=kN.mono h hok
theorem UD (h:F d W ok A n xs):F d W (fun k=>ok k∧k < W.heap.size) A n xs:=kN.bound h
theorem UK (h:F d W ok A n xs) (hm:∀ k,ok k→k < W.heap.size→W1.heap[k]?=W.heap[k]?):F d W1 ok A n xs:=kN.step h hm
theorem EF (h:F d W ok A n xs) (hb:Below W.heap.size W W1):F d W1 ok A n xs:=UK h (fun k _ hlt=>hb.block k hlt)
theorem UC (h:F d W ok A n xs) (o:Obj):F d (W.alloc o) ok A n xs:=EF h (bL (Below.refl _ _) o)
theorem UE (h:F d W ok A n xs):F d W.drew ok A n xs:=EF h (xw (Below.refl _ _))
theorem UF (h:F d W ok A n xs) (m:Nat):F d (W.drewN m) ok A n xs:=EF h (bX (Below.refl _ _) m)
theorem UI (d:Kd α) (W:World) (ok:Nat→Prop):F d W ok none ([]:List α).length []:=fun W' _=>Ho d W'
/-- A new row's block is none of an elder one's. -/
theorem UG (h:F d W ok A n xs) (hbase:∀ k,v.ownBlock=some k→W.heap.size≤k) (hb:Below W.heap.size W W1):F d W1 (fun k=>ok k∧some k ≠ v.ownBlock) A n xs :=
 Hy (kN.old h hb) (fun k hk=>⟨hk.1,fun he=>by have:=hbase k he.symm;have:=hk.2;omega⟩)
theorem UH (h:F d W ok A n xs) (a:Nat) (ha:W.heap.size≤a):F d W (fun k=>ok k∧k ≠ a) A n xs:=Hy (UD h) (fun k hk=>⟨hk.1,by have:=hk.2;omega⟩)
/-- What came in, a row of the call's own. -/
theorem MP (hd:Heap d) (h:d.C w A n xs):F d w (fun k=>k < w.heap.size) A n xs:=fun _ hW=>hd.C (fun k hlt=>hW k hlt hlt) h
/-- The same of an element's cells. -/
theorem Hr (h:FK d W ok x c):d.K W x c:=kN.now h
theorem Hq (h:FK d W ok x c) (hok:∀ k,ok k→ok' k):FK d W ok' x c:=kN.mono h hok
theorem MZ (h:FK d W ok x c):FK d W (fun k=>ok k∧k < W.heap.size) x c:=kN.bound h
theorem M0 (h:FK d W ok x c) (hm:∀ k,ok k→k < W.heap.size→W1.heap[k]?=W.heap[k]?):FK d W1 ok x c:=kN.step h hm
theorem UB (h:d.M W base ok x c):FK d W ok x c:=fun _ hW=>d.jU (IC h hW)
end
end Kd
end Go.Proofs.bC.eg
/- Set with little white space, by a program. -/
