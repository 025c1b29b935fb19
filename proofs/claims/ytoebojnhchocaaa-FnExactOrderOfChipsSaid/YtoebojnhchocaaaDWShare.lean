/- Words on rows, worlds and walks that the texts of one law use (chosen by a program out of the seat's printed words). No condition beyond each theorem's own. -/
import Derived.Test.YtoebojnhchocaaaDWKept
namespace Go.Proofs.bR.eC
open Go.RowKit
/-- P holds in W and in every world that has W's blocks of ok. -/
def kR (P:World→Prop) (W:World) (ok:Nat→Prop):Prop:=∀ W':World,(∀ k,ok k→k < W.heap.size→W'.heap[k]?=W.heap[k]?)→P W'
theorem aa3 {W W1:World} {k:Nat} (h:W1.heap[k]?=W.heap[k]?) (hlt:k < W.heap.size):k < W1.heap.size:=by
 rw [Array.getElem?_eq_getElem hlt] at h
 exact (Array.getElem?_eq_some_iff.1 h).1
namespace kR
variable {P Q:World→Prop} {W W1:World} {ok ok':Nat→Prop}
theorem now (h:kR P W ok):P W:=h W (fun _ _ _=>rfl)
theorem mono (h:kR P W ok) (hok:∀ k,ok k→ok' k):kR P W ok':=fun W' hW=>h W' (fun k hk hlt=>hW k (hok k hk) hlt)
theorem bound (h:kR P W ok):kR P W (fun k=>ok k∧k < W.heap.size):=fun W' hW=>h W' (fun k hk hlt=>hW k ⟨hk,hlt⟩ hlt)
theorem step (h:kR P W ok) (hm:∀ k,ok k→k < W.heap.size→W1.heap[k]?=W.heap[k]?):kR P W1 ok:=fun W' hW=>h W' (fun k hk hlt=>(hW k hk (aa3 (hm k hk hlt) hlt)).trans (hm k hk hlt))
theorem imp (h:kR P W ok) (hi:∀ W',P W'→Q W'):kR Q W ok:=fun W' hW=>hi W' (h W' hW)
/-- Moved, and still elder than what is new since W. -/
theorem old (h:kR P W ok) (hb:Below W.heap.size W W1):kR P W1 (fun k=>ok k∧k < W.heap.size):=(h.bound).step (fun k _ hlt=>hb.block k hlt)
end kR
namespace Kd
/-- A row that is only read: what it leads to lies in ok. -/
def F {α:Type} (d:Kd α) (W:World) (ok:Nat→Prop) (A:Option Addr) (n:Nat) (xs:List α):Prop:=kR (fun W=>d.C W A n xs) W ok
/-- An element's cells: what they lead to lies in ok. -/
def FK {α:Type} (d:Kd α) (W:World) (ok:Nat→Prop) (x:α) (c:List Value):Prop:=kR (fun W=>d.K W x c) W ok
section
variable {α β:Type} {d:Kd α} {e base n n' cc g N:Nat} {ok ok' b9 S:Nat→Prop} {w w0 w1 W W1:World} {A A':Option Addr} {u v v1:Value} {xs:List α} {xs':List β} {d':Kd β} {x:α} {c:List Value}
theorem UH (h:F d W ok A n xs):d.C W A n xs:=kR.now h
theorem HE (h:F d W ok A n xs) (hok:∀ k,ok k→ok' k):F d W ok' A n xs:=kR.mono h hok
theorem UB (h:F d W ok A n xs):F d W (fun k=>ok k∧k < W.heap.size) A n xs:=kR.bound h
theorem UI (h:F d W ok A n xs) (hm:∀ k,ok k→k < W.heap.size→W1.heap[k]?=W.heap[k]?):F d W1 ok A n xs:=kR.step h hm
theorem ET (h:F d W ok A n xs) (hb:Below W.heap.size W W1):F d W1 ok A n xs:=UI h (fun k _ hlt=>hb.block k hlt)
theorem UA (h:F d W ok A n xs) (o:Obj):F d (W.alloc o) ok A n xs:=ET h (dh (Below.refl _ _) o)
theorem UC (h:F d W ok A n xs):F d W.drew ok A n xs:=ET h (wS (Below.refl _ _))
theorem UD (h:F d W ok A n xs) (m:Nat):F d (W.drewN m) ok A n xs:=ET h (ek (Below.refl _ _) m)
theorem UG (d:Kd α) (W:World) (ok:Nat→Prop):F d W ok none ([]:List α).length []:=fun W' _=>anC d W'
/-- A new row's block is none of an elder one's. -/
theorem UE (h:F d W ok A n xs) (hbase:∀ k,v.ownBlock=some k→W.heap.size≤k) (hb:Below W.heap.size W W1):F d W1 (fun k=>ok k∧some k ≠ v.ownBlock) A n xs :=
 HE (kR.old h hb) (fun k hk=>⟨hk.1,fun he=>by have:=hbase k he.symm;have:=hk.2;omega⟩)
theorem UF (h:F d W ok A n xs) (a:Nat) (ha:W.heap.size≤a):F d W (fun k=>ok k∧k ≠ a) A n xs:=HE (UB h) (fun k hk=>⟨hk.1,by have:=hk.2;omega⟩)
theorem Wl (h:d.R e W base ok (.slice A n cc) xs):F d W ok A n xs:=fun W' hW=>by
 have h2:=bx (anr h hW)
 rw [h2.1]
 exact h2.2.2
/-- The same of an element's cells. -/
theorem anF (h:FK d W ok x c):d.K W x c:=kR.now h
theorem anE (h:FK d W ok x c) (hok:∀ k,ok k→ok' k):FK d W ok' x c:=kR.mono h hok
theorem M5 (h:FK d W ok x c):FK d W (fun k=>ok k∧k < W.heap.size) x c:=kR.bound h
theorem M6 (h:FK d W ok x c) (hm:∀ k,ok k→k < W.heap.size→W1.heap[k]?=W.heap[k]?):FK d W1 ok x c:=kR.step h hm
theorem Uz (h:d.M W base ok x c):FK d W ok x c:=fun _ hW=>d.jd (IK h hW)
end
end Kd
end Go.Proofs.bR.eC
/- Set with little white space, by a program. -/
