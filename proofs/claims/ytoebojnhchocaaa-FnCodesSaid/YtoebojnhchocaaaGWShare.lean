/- Words on rows, worlds and walks that the texts of one law use (chosen by a program out of the seat's printed words). No condition beyond each theorem's own. -/
import Derived.Test.YtoebojnhchocaaaGWKept
namespace Go.Proofs.cx.fq
open Go.RowKit
/-- P holds in W and in every world that has W's blocks of ok. -/
def aop (P:World→Prop) (W:World) (ok:Nat→Prop):Prop:=∀ W':World,(∀ k,ok k→k < W.heap.size→W'.heap[k]?=W.heap[k]?)→P W'
theorem aa_ {W W1:World} {k:Nat} (h:W1.heap[k]?=W.heap[k]?) (hlt:k < W.heap.size):k < W1.heap.size:=by
 rw [Array.getElem?_eq_getElem hlt] at h
 exact (Array.getElem?_eq_some_iff.1 h).1
namespace aop
variable {P Q:World→Prop} {W W1:World} {ok ok':Nat→Prop}
theorem now (h:aop P W ok):P W:=h W (fun _ _ _=>rfl)
theorem mono (h:aop P W ok) (hok:∀ k,ok k→ok' k):aop P W ok':=fun W' hW=>h W' (fun k hk hlt=>hW k (hok k hk) hlt)
theorem bound (h:aop P W ok):aop P W (fun k=>ok k∧k < W.heap.size):=fun W' hW=>h W' (fun k hk hlt=>hW k ⟨hk,hlt⟩ hlt)
theorem step (h:aop P W ok) (hm:∀ k,ok k→k < W.heap.size→W1.heap[k]?=W.heap[k]?):aop P W1 ok:=fun W' hW=>h W' (fun k hk hlt=>(hW k hk (aa_ (hm k hk hlt) hlt)).trans (hm k hk hlt))
theorem imp (h:aop P W ok) (hi:∀ W',P W'→Q W'):aop Q W ok:=fun W' hW=>hi W' (h W' hW)
/-- Moved, and still elder than what is new since W. -/
theorem old (h:aop P W ok) (hb:Below W.heap.size W W1):aop P W1 (fun k=>ok k∧k < W.heap.size):=(h.bound).step (fun k _ hlt=>hb.block k hlt)
end aop
namespace Kd
/-- A row that is only read: what it leads to lies in ok. -/
def F {α:Type} (d:Kd α) (W:World) (ok:Nat→Prop) (A:Option Addr) (n:Nat) (xs:List α):Prop:=aop (fun W=>d.C W A n xs) W ok
/-- An element's cells: what they lead to lies in ok. -/
def FK {α:Type} (d:Kd α) (W:World) (ok:Nat→Prop) (x:α) (c:List Value):Prop:=aop (fun W=>d.K W x c) W ok
section
variable {α β:Type} {d:Kd α} {e base n n' cc g N:Nat} {ok ok' anX S:Nat→Prop} {w w0 w1 W W1:World} {A A':Option Addr} {u v v1:Value} {xs:List α} {xs':List β} {d':Kd β} {x:α} {c:List Value}
theorem MY (h:F d W ok A n xs):d.C W A n xs:=aop.now h
theorem zG (h:F d W ok A n xs) (hok:∀ k,ok k→ok' k):F d W ok' A n xs:=aop.mono h hok
theorem GY (h:F d W ok A n xs):F d W (fun k=>ok k∧k < W.heap.size) A n xs:=aop.bound h
theorem GZ (h:F d W ok A n xs) (hm:∀ k,ok k→k < W.heap.size→W1.heap[k]?=W.heap[k]?):F d W1 ok A n xs:=aop.step h hm
theorem UO (h:F d W ok A n xs) (hi:∀ W',d.C W' A n xs→d'.C W' A' n' xs'):F d' W ok A' n' xs':=aop.imp h hi
theorem En (h:F d W ok A n xs) (hb:Below W.heap.size W W1):F d W1 ok A n xs:=GZ h (fun k _ hlt=>hb.block k hlt)
theorem UH (h:F d W ok A n xs) (o:Obj):F d (W.alloc o) ok A n xs:=En h (bn (Below.refl _ _) o)
theorem UI (h:F d W ok A n xs):F d W.drew ok A n xs:=En h (uq (Below.refl _ _))
theorem UJ (h:F d W ok A n xs) (m:Nat):F d (W.drewN m) ok A n xs:=En h (bq (Below.refl _ _) m)
theorem UM (h:F d W ok A n xs) {p:Addr} (hok:∀ k,ok k→k ≠ p.block) (u:Value):F d (W.setCell p u) ok A n xs:=GZ h (fun k hk _=>Below.heap_setCell W p u k (hok k hk))
theorem MX (h:F d W ok A n xs) (hk:aM W W1 g none) (hok:∀ k,ok k→k ≠ g):F d W1 ok A n xs:=GZ h (fun k ho hlt=>hk.2 k hlt (hok k ho) (by simp))
theorem UP (d:Kd α) (W:World) (ok:Nat→Prop):F d W ok none ([]:List α).length []:=fun W' _=>UC d W'
/-- A new row's block is none of an elder one's. -/
theorem UK (h:F d W ok A n xs) (hbase:∀ k,v.ownBlock=some k→W.heap.size≤k) (hb:Below W.heap.size W W1):F d W1 (fun k=>ok k∧some k ≠ v.ownBlock) A n xs :=
 zG (aop.old h hb) (fun k hk=>⟨hk.1,fun he=>by have:=hbase k he.symm;have:=hk.2;omega⟩)
theorem UL (h:F d W ok A n xs) (a:Nat) (ha:W.heap.size≤a):F d W (fun k=>ok k∧k ≠ a) A n xs:=zG (GY h) (fun k hk=>⟨hk.1,by have:=hk.2;omega⟩)
/-- Behind an append to v (it left v1): what lies apart from v lies apart from v1. -/
theorem UG (h:F d W (fun k=>ok k∧some k ≠ v.ownBlock) A n xs) (hg:W.grownBy W1 v.ownBlock) (bz:v1.ownBlock=v.ownBlock∨∃ b,v1.ownBlock=some b∧W.heap.size≤b):F d W1 (fun k=>ok k∧some k ≠ v1.ownBlock) A n xs:=by
 refine zG (aop.step (GY h) (fun k hk hlt=>hg.block k hlt hk.1.2)) (fun k hk=>⟨hk.1.1,?_⟩)
 rcases bz with bz|⟨b,hb,hle⟩
 ·rw [bz];exact hk.1.2
 ·rw [hb]
  intro he
  injection he with he
  have:=hk.2
  omega
theorem UQ (h:F d W (fun k=>ok k∧k ≠ g) A n xs) (hk:aM W W1 g none):F d W1 (fun k=>ok k∧k < W.heap.size) A n xs :=
 zG (MX (GY h) hk (fun _ hk=>hk.1.2)) (fun _ hk=>⟨hk.1.1,hk.2⟩)
theorem US (h:F d W1 (fun k=>ok k∧k < N) A n xs) (hbase:∀ k,v.ownBlock=some k→N≤k):F d W1 (fun k=>(ok k∧some k ≠ v.ownBlock)∧k < N) A n xs :=
 zG h (fun k hk=>⟨⟨hk.1,fun he=>Nat.lt_irrefl _ (Nat.lt_of_lt_of_le hk.2 (hbase k he.symm))⟩,hk.2⟩)
theorem Ws (h:d.R e W base ok (.slice A n cc) xs):F d W ok A n xs:=fun W' hW=>by
 have h2:=anT (vS h hW)
 rw [h2.1]
 exact h2.2.2
/-- The same of an element's cells. -/
theorem UD (h:FK d W ok x c):d.K W x c:=aop.now h
theorem UF (h:FK d W ok x c) (hm:∀ k,ok k→k < W.heap.size→W1.heap[k]?=W.heap[k]?):FK d W1 ok x c:=aop.step h hm
theorem UE (h:d.M W base ok x c):FK d W ok x c:=fun _ hW=>d.kj (ap2 h hW)
/-- A block that is emptied reads no more. -/
theorem Y4 (W:World) (g:Nat):∃ W':World,(∀ k,k ≠ g→W'.heap[k]?=W.heap[k]?)∧∀ a:Addr,a.block=g→W'.cell? a=none:=by
 refine ⟨{ W with heap:=W.heap.setIfInBounds g (.cells #[] 0) },fun k hk=>by simp [Ne.symm hk],fun a ha=>?_⟩
 subst ha
 by_cases hlt:a.block < W.heap.size
 ·simp [World.cell?,hlt]
 ·simp [World.cell?,hlt]
end
end Kd
end Go.Proofs.cx.fq
/- Set with little white space, by a program. -/
