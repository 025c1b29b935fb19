/- The functions that one law reaches, each as a Lean function, and that Go's call comes to what it says. Condition of each: that the Lean function answers (is not none). -/
import Derived.Test.YtbfmnhgpmpnglaaProg
import Derived.Below
import Derived.Deep.Draws
import Derived.Deep.AppendLies
import Derived.Maps.AppendAt
import Derived.OwnWalk
import Derived.Laws.BytesArg
import Derived.Laws.MakeOwn
import Derived.Laws.OwnMore
import Derived.Deep.OwnRows
import Derived.Tactics
import Derived.Lib.ConvBytes
import Derived.Laws.Slices
import Derived.WalkKit
import Derived.KernelRfl
import Derived.RowKit3
import Derived.Deep.LoopGhost
import Derived.Deep.QuietTactic
import Derived.BigQuiet
import Derived.WideLaws
import Derived.Deep.DeepCutAuto
import Derived.Deep.CutBlock
import Derived.Deep.RegionHeld3
import Derived.Laws.Rows
import Derived.Lib.AppendStr
import Derived.ArgAppend
import Derived.Laws.IdiomCopy
import Derived.OrdersHeld
import Derived.Laws.BitsLemmas
import Derived.RowKit
import Derived.Lib.SliceRun
import Derived.Deep.RegionLaw
import Derived.Test.YtbfmnhgpmpnglaaCWWords
import Derived.Test.YtbfmnhgpmpnglaaCWLast
import Derived.Test.YtbfmnhgpmpnglaaCWTab
import Derived.Test.YtbfmnhgpmpnglaaCWWords
import Derived.Test.YtbfmnhgpmpnglaaCWLast
import Derived.Test.YtbfmnhgpmpnglaaCWApart
import Derived.Test.YtbfmnhgpmpnglaaCWArr
import Derived.Test.YtbfmnhgpmpnglaaCWApart
import Derived.Test.YtbfmnhgpmpnglaaCWArr
import Derived.Test.YtbfmnhgpmpnglaaCWFoot
import Derived.Test.YtbfmnhgpmpnglaaCWKept
import Derived.Test.YtbfmnhgpmpnglaaCWShare
import Derived.Test.YtbfmnhgpmpnglaaCWN
import Derived.Test.YtbfmnhgpmpnglaaCWN
import Derived.Test.YtbfmnhgpmpnglaaCWAt
import Derived.Test.YtbfmnhgpmpnglaaCWRepsOne
import Derived.Test.YtbfmnhgpmpnglaaCWGuard
import Derived.Test.YtbfmnhgpmpnglaaCWNEv
import Derived.Test.YtbfmnhgpmpnglaaCWMore
namespace Go.Proofs.Ytbfmnhgpmpnglaa.C
open Go.RowKit Go.Proofs.YtbfmnhgpmpnglaaW.PrintWords Go.Proofs.YtbfmnhgpmpnglaaW.PrintLast Go.Proofs.YtbfmnhgpmpnglaaW.PrintMore
attribute [local go_sem] max2_int min2_int max_two min_two max_three min_three max_four min_four   -- for this text's walks alone
set_option linter.unusedVariables false
set_option linter.unusedSimpArgs false



def errW : Option Int → Value
  | none => .nilIface
  | some c => .iface 0 (.int .i64 c)
theorem errW_none : errW none = .nilIface := rfl
theorem errW_some (c : Int) : errW (some c) = .iface 0 (.int .i64 c) := rfl

theorem info2 : (Try.prog.info? 2).map (fun i => (i.zero, i.size, i.bytes)) = some (some (.int .i64 0), 1, 8) := by kernel_rfl
theorem info34 : (Try.prog.info? 34).map (fun i => (i.zero, i.size, i.bytes)) = some (some (.slice none 0 0), 1, 24) := by kernel_rfl
-- the values' own types
def rd_L1 (xs : List (List Int)) (i : Int) : (List Int) := xs.getD i.toNat ([] : List Int)
theorem at_L1 {w : World} {A : Option Addr} {n : Nat} {xs : List (List Int)} (h : Kd.C (Kd.slice 2 (Kd.int .i64)) w A n xs) (i : Int) (h0 : 0 ≤ i) (h1 : i < n) : ∃ ad A0 c0, A = some ad ∧ w.cell? (ad.add i.toNat) = some (.slice A0 (rd_L1 xs i).length c0) ∧ (rd_L1 xs i).length ≤ c0 ∧ (Kd.int .i64).C w A0 (rd_L1 xs i).length (rd_L1 xs i) := by
  obtain ⟨ad, c, e, _, hK, hc0⟩ := Kd.C_get h ([] : List Int) i h0 h1
  have hc : ∀ j u, c[j]? = some u → w.cell? (ad.add (i.toNat * 1 + j)) = some u := hc0
  obtain ⟨A0, c0, rfl, l0, g0⟩ := hK
  exact ⟨ad, A0, c0, e, by have hq := hc 0 _ rfl; rwa [Nat.mul_one, Nat.add_zero] at hq, l0, g0⟩


/-! ### small words for the contracts proved by hand -/
theorem zI {α : Type} (l : List α) (i : Nat) (a : α) : l.toArray.setIfInBounds i a = (l.set i a).toArray := List.setIfInBounds_toArray l i a
theorem zZ {α : Type} (a b : α) (l : List α) : (a :: l).set 0 b = b :: l := List.set_cons_zero
theorem zS {α : Type} (a b : α) (l : List α) (n : Nat) : (a :: l).set (n + 1) b = a :: l.set n b := List.set_cons_succ
def idxFrom (p : Int → Bool) : List Int → Nat → Int
  | [], _ => -1
  | x :: xs, k => if p x then k else idxFrom p xs (k+1)
theorem idxFrom_drop (p : Int → Bool) (l : List Int) (k : Nat) (h : k < l.length) : idxFrom p (l.drop k) k = if p (rd l k) then (k:Int) else idxFrom p (l.drop (k+1)) (k+1) := by
  rw [List.drop_eq_getElem_cons h, idxFrom, rd, Int.toNat_natCast, List.getD_eq_getElem?_getD, List.getElem?_eq_getElem h]; rfl
theorem idxFrom_any (p : Int → Bool) (l : List Int) (k : Nat) : decide (0 ≤ idxFrom p l k) = l.any p := by
  induction l generalizing k with
  | nil => simp [idxFrom]
  | cons x xs ih =>
    rw [idxFrom, List.any_cons]
    cases p x with
    | true => simp
    | false => simp; rw [← ih (k+1)]
def idxM (p : List Int → Option Bool) : List (List Int) → Nat → Option Int
  | [], _ => some (-1)
  | x :: xs, k => (p x).bind fun b => if b = true then some (k : Int) else idxM p xs (k + 1)
/-- What a slot holds is the value that lies in a whole at an index. -/
def HdrOf (w : World) (V : Value) (j : Int) (u : Value) : Prop := ∃ ad n c, V = .slice (some ad) n c ∧ 0 ≤ j ∧ j < (n : Int) ∧ w.cell? (ad.add j.toNat) = some u
theorem HdrOf.below {w w1 : World} {V : Value} {j : Int} {u : Value} (h : HdrOf w V j u) (hb : Below w.heap.size w w1) : HdrOf w1 V j u := by
  obtain ⟨ad, n, c, e, h0, h1, hc⟩ := h
  exact ⟨ad, n, c, e, h0, h1, pw_cell_below hb hc⟩
theorem hdr_lo {w : World} {V : Value} {j : Int} {u : Value} (h : HdrOf w V j u) : 0 ≤ j := by
  obtain ⟨ad, n, c, e, h0, h1, hc⟩ := h
  exact h0
theorem hdr_hi {w : World} {A : Option Addr} {n c : Nat} {j : Int} {u : Value} (h : HdrOf w (.slice A n c) j u) : j < (n : Int) := by
  obtain ⟨ad, n, c, e, h0, h1, hc⟩ := h
  injection e with _ e2 _
  subst e2
  exact h1
theorem HdrOf.alloc {w : World} {V : Value} {j : Int} {u : Value} (h : HdrOf w V j u) (o : Obj) : HdrOf (w.alloc o) V j u := h.below (below_alloc (Below.refl _ _) o)
theorem HdrOf.drew {w : World} {V : Value} {j : Int} {u : Value} (h : HdrOf w V j u) : HdrOf w.drew V j u := h.below (below_drew (Below.refl _ _))
theorem HdrOf.drewN {w : World} {V : Value} {j : Int} {u : Value} (h : HdrOf w V j u) (m : Nat) : HdrOf (w.drewN m) V j u := h.below (pw_below_drewN (Below.refl _ _) m)
theorem hdr_eq {w : World} {ad : Addr} {n c : Nat} {j : Int} {u v : Value} (h : HdrOf w (.slice (some ad) n c) j u) (hc : w.cell? (ad.add j.toNat) = some v) : u = v := by
  obtain ⟨ad', n', c', e, _, _, h'⟩ := h
  injection e with e1 _ _
  injection e1 with e1
  subst e1
  exact Option.some.inj (h'.symm.trans hc)
theorem HdrOf.set {w : World} {V : Value} {j : Int} {u : Value} (h : HdrOf w V j u) {e e' g off : Nat} {x v : Value} (hP : ∀ k, V.ownBlock = some k → ∃ cells, w.heap[k]? = some (.cells cells e (0, 0))) (hx : ∀ k, v.ownBlock = some k → ∃ cells, w.heap[k]? = some (.cells cells e' (0, 0))) (hv : v.ownBlock = some g) (hne : e ≠ e') : HdrOf (w.setCell ⟨g, off, none⟩ x) V j u := by
  obtain ⟨ad, n, c, rfl, h0, h1, hc⟩ := h
  refine ⟨ad, n, c, rfl, h0, h1, ?_⟩
  rw [cell_far]
  · exact hc
  · rw [add_block]
    intro h_
    obtain ⟨c1, h1⟩ := hP ad.block (by simp [Value.ownBlock])
    obtain ⟨c2, h2⟩ := hx ad.block (by rw [hv]; exact congrArg some h_.symm)
    rw [h1] at h2
    injection h2 with h2
    injection h2 with _ h2
    exact hne h2
theorem cell_ne {ad : Addr} {n c k i : Nat} (h : some k ≠ (Value.slice (some ad) n c).ownBlock) : some (ad.add i).block ≠ some k := by
  rw [add_block]
  intro e
  exact h (by rw [← e]; simp [Value.ownBlock])

theorem below_setA {w W : World} {g j : Nat} {v : Value} (h : Below w.heap.size w W) (hg : Aside0 (w.heap.size ≤ g)) : Below w.heap.size w (W.setCell ⟨g, j, none⟩ v) := below_set h hg.out
theorem bl {b : Nat} {w0 w : World} (h : Below b w0 w := by repeat (first | (with_reducible first | exact HB.out | apply below_alloc | apply pw_below_drewN | apply below_drew1 | refine below_setA ?_ (by assumption)) | exact HB.out)) : Below b w0 w := h
theorem bk {w : World} {g : Nat} {o : Obj} (h : w.heap[g]? = some o := by (with_reducible repeat (first | refine blk_drewN ?_ _ | refine blk_drew ?_ | refine blk_alloc ?_ _)); exact Aside0.out (by assumption)) : w.heap[g]? = some o := h
theorem oD {p : Prop} [Decidable p] (h : decide p = true := by first | (with_reducible assumption) | assumption) : p := of_decide_eq_true h
theorem gm {α : Type} {a b : α} (h : a = b := by (try simp only [List.map_toArray, List.map_cons, List.map_nil]); first | done | rfl | (simp only [List.length_drop, List.length_take]; rfl)) : a = b := h
theorem rs {α : Type} {a b : α} (h : a = b := by first | rfl | (simp; done) | (simp [*]; done)) : a = b := h
theorem hbc {w w' : World} {a : Addr} {v : Value} (B : Aside0 (Below w.heap.size w w')) (h : w.cell? a = some v) : w'.cell? a = some v := (B.out.cell (World.block_lt_of_cell? w _ h)).trans h

end Go.Proofs.Ytbfmnhgpmpnglaa.C
