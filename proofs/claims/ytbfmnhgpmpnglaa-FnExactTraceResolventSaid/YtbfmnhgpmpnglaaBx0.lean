/- The functions that one law reaches, each as a Lean function, and that Go's call comes to what it says. Condition of each: that the Lean function answers (is not none). -/
import Derived.Test.YtbfmnhgpmpnglaaProg
import Derived.Below
import Derived.Deep.Draws
import Derived.Deep.AppendLies
import Derived.Maps.AppendAt
import Derived.OwnWalk
import Derived.Laws.BytesArg
import Derived.Laws.MakeOwn
import Derived.Laws.OwnMore
import Derived.Deep.OwnRows
import Derived.Tactics
import Derived.Lib.ConvBytes
import Derived.Laws.Slices
import Derived.WalkKit
import Derived.KernelRfl
import Derived.RowKit3
import Derived.Deep.LoopGhost
import Derived.Deep.QuietTactic
import Derived.BigQuiet
import Derived.WideLaws
import Derived.Deep.DeepCutAuto
import Derived.Deep.CutBlock
import Derived.Deep.RegionHeld3
import Derived.Laws.Rows
import Derived.Lib.AppendStr
import Derived.ArgAppend
import Derived.Laws.IdiomCopy
import Derived.OrdersHeld
import Derived.Laws.BitsLemmas
import Derived.RowKit
import Derived.Lib.SliceRun
import Derived.Deep.RegionLaw
import Derived.Test.YtbfmnhgpmpnglaaBWWords
import Derived.Test.YtbfmnhgpmpnglaaBWLast
import Derived.Test.YtbfmnhgpmpnglaaBWTab
import Derived.Test.YtbfmnhgpmpnglaaBWWords
import Derived.Test.YtbfmnhgpmpnglaaBWLast
import Derived.Test.YtbfmnhgpmpnglaaBWApart
import Derived.Test.YtbfmnhgpmpnglaaBWWords
import Derived.Test.YtbfmnhgpmpnglaaBWApart
import Derived.Test.YtbfmnhgpmpnglaaBWWords
import Derived.Test.YtbfmnhgpmpnglaaBWFoot
import Derived.Test.YtbfmnhgpmpnglaaBWKept
import Derived.Test.YtbfmnhgpmpnglaaBWShare
import Derived.Test.YtbfmnhgpmpnglaaBWN
import Derived.Test.YtbfmnhgpmpnglaaBWRepsOne
import Derived.Test.YtbfmnhgpmpnglaaBWGuard
import Derived.Test.YtbfmnhgpmpnglaaBWNEv
import Derived.Test.YtbfmnhgpmpnglaaBWMore
namespace Go.Proofs.Ytbfmnhgpmpnglaa.B
open Go.RowKit Go.Proofs.YtbfmnhgpmpnglaaW.PrintWords Go.Proofs.YtbfmnhgpmpnglaaW.PrintLast Go.Proofs.YtbfmnhgpmpnglaaW.PrintMore
attribute [local go_sem] max2_int min2_int max_two min_two max_three min_three max_four min_four   -- for this text's walks alone
set_option linter.unusedVariables false
set_option linter.unusedSimpArgs false



def errW : Option Int → Value
  | none => .nilIface
  | some c => .iface 0 (.int .i64 c)
theorem errW_none : errW none = .nilIface := rfl
theorem errW_some (c : Int) : errW (some c) = .iface 0 (.int .i64 c) := rfl

theorem info2 : (Try.prog.info? 2).map (fun i => (i.zero, i.size, i.bytes)) = some (some (.int .i64 0), 1, 8) := by kernel_rfl
theorem info34 : (Try.prog.info? 34).map (fun i => (i.zero, i.size, i.bytes)) = some (some (.slice none 0 0), 1, 24) := by kernel_rfl
-- the values' own types
def rd_L1 (xs : List (List Int)) (i : Int) : (List Int) := xs.getD i.toNat ([] : List Int)
theorem at_L1 {w : World} {A : Option Addr} {n : Nat} {xs : List (List Int)} (h : Kd.C (Kd.slice 2 (Kd.int .i64)) w A n xs) (i : Int) (h0 : 0 ≤ i) (h1 : i < n) : ∃ ad A0 c0, A = some ad ∧ w.cell? (ad.add i.toNat) = some (.slice A0 (rd_L1 xs i).length c0) ∧ (rd_L1 xs i).length ≤ c0 ∧ (Kd.int .i64).C w A0 (rd_L1 xs i).length (rd_L1 xs i) := by
  obtain ⟨ad, c, e, _, hK, hc0⟩ := Kd.C_get h ([] : List Int) i h0 h1
  have hc : ∀ j u, c[j]? = some u → w.cell? (ad.add (i.toNat * 1 + j)) = some u := hc0
  obtain ⟨A0, c0, rfl, l0, g0⟩ := hK
  exact ⟨ad, A0, c0, e, by have hq := hc 0 _ rfl; rwa [Nat.mul_one, Nat.add_zero] at hq, l0, g0⟩


/-! ### small words for the contracts proved by hand -/
theorem zI {α : Type} (l : List α) (i : Nat) (a : α) : l.toArray.setIfInBounds i a = (l.set i a).toArray := List.setIfInBounds_toArray l i a
theorem zZ {α : Type} (a b : α) (l : List α) : (a :: l).set 0 b = b :: l := List.set_cons_zero
theorem zS {α : Type} (a b : α) (l : List α) (n : Nat) : (a :: l).set (n + 1) b = a :: l.set n b := List.set_cons_succ
def idxM (p : List Int → Option Bool) : List (List Int) → Nat → Option Int
  | [], _ => some (-1)
  | x :: xs, k => (p x).bind fun b => if b = true then some (k : Int) else idxM p xs (k + 1)
abbrev KL (e : Nat) : Kd (List Int) := Kd.slice e (Kd.int .i64)
/-- What a slot holds is the value that lies in a whole at an index. -/
def HdrOf (w : World) (V : Value) (j : Int) (u : Value) : Prop := ∃ ad n c, V = .slice (some ad) n c ∧ 0 ≤ j ∧ j < (n : Int) ∧ w.cell? (ad.add j.toNat) = some u
theorem HdrOf.below {w w1 : World} {V : Value} {j : Int} {u : Value} (h : HdrOf w V j u) (hb : Below w.heap.size w w1) : HdrOf w1 V j u := by
  obtain ⟨ad, n, c, e, h0, h1, hc⟩ := h
  exact ⟨ad, n, c, e, h0, h1, pw_cell_below hb hc⟩
theorem hdr_lo {w : World} {V : Value} {j : Int} {u : Value} (h : HdrOf w V j u) : 0 ≤ j := by
  obtain ⟨ad, n, c, e, h0, h1, hc⟩ := h
  exact h0
theorem hdr_hi {w : World} {A : Option Addr} {n c : Nat} {j : Int} {u : Value} (h : HdrOf w (.slice A n c) j u) : j < (n : Int) := by
  obtain ⟨ad, n, c, e, h0, h1, hc⟩ := h
  injection e with _ e2 _
  subst e2
  exact h1
theorem HdrOf.alloc {w : World} {V : Value} {j : Int} {u : Value} (h : HdrOf w V j u) (o : Obj) : HdrOf (w.alloc o) V j u := h.below (below_alloc (Below.refl _ _) o)
theorem HdrOf.drew {w : World} {V : Value} {j : Int} {u : Value} (h : HdrOf w V j u) : HdrOf w.drew V j u := h.below (below_drew (Below.refl _ _))
theorem HdrOf.drewN {w : World} {V : Value} {j : Int} {u : Value} (h : HdrOf w V j u) (m : Nat) : HdrOf (w.drewN m) V j u := h.below (pw_below_drewN (Below.refl _ _) m)
theorem hdr_eq {w : World} {ad : Addr} {n c : Nat} {j : Int} {u v : Value} (h : HdrOf w (.slice (some ad) n c) j u) (hc : w.cell? (ad.add j.toNat) = some v) : u = v := by
  obtain ⟨ad', n', c', e, _, _, h'⟩ := h
  injection e with e1 _ _
  injection e1 with e1
  subst e1
  exact Option.some.inj (h'.symm.trans hc)
theorem HdrOf.set {w : World} {V : Value} {j : Int} {u : Value} (h : HdrOf w V j u) {e e' g off : Nat} {x v : Value} (hP : ∀ k, V.ownBlock = some k → ∃ cells, w.heap[k]? = some (.cells cells e (0, 0))) (hx : ∀ k, v.ownBlock = some k → ∃ cells, w.heap[k]? = some (.cells cells e' (0, 0))) (hv : v.ownBlock = some g) (hne : e ≠ e') : HdrOf (w.setCell ⟨g, off, none⟩ x) V j u := by
  obtain ⟨ad, n, c, rfl, h0, h1, hc⟩ := h
  refine ⟨ad, n, c, rfl, h0, h1, ?_⟩
  rw [cell_far]
  · exact hc
  · rw [add_block]
    intro h_
    obtain ⟨c1, h1⟩ := hP ad.block (by simp [Value.ownBlock])
    obtain ⟨c2, h2⟩ := hx ad.block (by rw [hv]; exact congrArg some h_.symm)
    rw [h1] at h2
    injection h2 with h2
    injection h2 with _ h2
    exact hne h2
theorem cell_ne_ty {w : World} {e e' : Nat} {ad : Addr} {n c i : Nat} {v : Value} (hP : ∀ k, (Value.slice (some ad) n c).ownBlock = some k → ∃ cells, w.heap[k]? = some (.cells cells e (0, 0))) (hx : ∀ k, v.ownBlock = some k → ∃ cells, w.heap[k]? = some (.cells cells e' (0, 0))) (h : e ≠ e') : some (ad.add i).block ≠ v.ownBlock := by
  rw [add_block]
  intro h_
  obtain ⟨c1, h1⟩ := hP ad.block (by simp [Value.ownBlock])
  obtain ⟨c2, h2⟩ := hx ad.block h_.symm
  rw [h1] at h2
  injection h2 with h2
  injection h2 with _ h2
  exact h h2
theorem cell_ne {ad : Addr} {n c k i : Nat} (h : some k ≠ (Value.slice (some ad) n c).ownBlock) : some (ad.add i).block ≠ some k := by
  rw [add_block]
  intro e
  exact h (by rw [← e]; simp [Value.ownBlock])

def swp (xs : List (List Int)) (i j : Int) : List (List Int) := (xs.set i.toNat (xs.getD j.toNat [])).set j.toNat (xs.getD i.toNat [])
theorem swp_length (xs : List (List Int)) (i j : Int) : (swp xs i j).length = xs.length := by simp [swp]
def sgm (i j m : Nat) : Nat := if m = j then i else if m = i then j else m
theorem sgm_sgm (i j m : Nat) : sgm i j (sgm i j m) = m := by unfold sgm; (repeat' split) <;> simp_all
theorem sgm_lt {i j m n : Nat} (hi : i < n) (hj : j < n) (hm : m < n) : sgm i j m < n := by unfold sgm; (repeat' split) <;> assumption
theorem set_set_get {α : Type} (l : List α) (i j m : Nat) (hi : i < l.length) (hj : j < l.length) (hm : m < l.length) (a b : α) (ha : a = l[j]) (hb : b = l[i]) : ((l.set i a).set j b)[m]? = some (l[sgm i j m]'(sgm_lt hi hj hm)) := by
  subst ha; subst hb
  rw [List.getElem?_set]
  unfold sgm
  by_cases h1 : m = j
  · subst h1; simp [hm]
  · rw [if_neg (Ne.symm h1), List.getElem?_set]
    by_cases h2 : m = i
    · subst h2; simp [h1, hi]
    · rw [if_neg (Ne.symm h2)]; simp [h1, h2, hm]
theorem S_mid {ei e base n cap g : Nat} {ok : Nat → Prop} {W : World} {xs : List (List Int)} (h : Kd.S (KL ei) e W base ok (.slice (some ⟨g, 0, none⟩) n cap) xs) (i j : Int) (hi0 : 0 ≤ i) (hi : i < n) (hj0 : 0 ≤ j) (hj : j < n) {vj : Value}
    (hvj : W.cell? ⟨g, j.toNat, none⟩ = some vj) : (W.setCell ⟨g, i.toNat, none⟩ vj).cell? ⟨g, j.toNat, none⟩ = some vj ∧ (W.setCell ⟨g, i.toNat, none⟩ vj).frozen? ⟨g, j.toNat, none⟩ = false := by
  obtain ⟨_, _, _, _, hfr⟩ := Kd.R_elem (Kd.S_R h) [] j hj0 hj
  have hfj := hfr 0
  rw [show (KL ei).sz = 1 from rfl, Nat.mul_one, Nat.add_zero] at hfj
  obtain ⟨vi, hvi⟩ : ∃ vi, W.cell? ⟨g, i.toNat, none⟩ = some vi := by
    obtain ⟨c, hcl, _, hcc, _⟩ := Kd.R_elem (Kd.S_R h) [] i hi0 hi
    have hc0 : 0 < c.length := by rw [hcl]; exact Nat.one_pos
    have h2 := hcc 0 c[0] (List.getElem?_eq_getElem hc0)
    rw [show (KL ei).sz = 1 from rfl, Nat.mul_one, Nat.add_zero] at h2
    exact ⟨_, h2⟩
  have hsz : (KL ei).sz = 1 := rfl
  have hn : n = xs.length := by have := (Kd.S_reads' h).1; exact this
  obtain ⟨f, hR⟩ := h
  obtain ⟨hok, inner, ho, hr⟩ := hR
  have hlen : inner.length = xs.length := by have := hr.1; rw [List.length_zipIdx] at this; rw [this]; show xs.length * 1 = _; omega
  have hgo : some g = (Value.slice (some ⟨g, 0, none⟩) n cap).ownBlock := by simp [Value.ownBlock]
  rw [List.length_zipIdx] at ho
  have hcell : ∀ m (hm : m < inner.length), W.cell? ⟨g, m, none⟩ = some inner[m] := by
    intro m hm
    have := ho.cells (g := g) hgo.symm m inner[m] (List.getElem?_eq_getElem hm)
    rwa [add_plain] at this
  have hone : ∀ m (hm : m < inner.length), inner[m].oneCell' = true := by
    intro m hm
    have hm' : m < xs.length := by omega
    have h1 := hr.2 m (xs[m], m) (Kd.zip_at (List.getElem?_eq_getElem hm'))
    refine (KL ei).K_one ((KL ei).K_of_M h1) _ ?_
    have : (inner.drop (m * 1)).take 1 = [inner[m]] := by rw [Nat.mul_one, List.drop_eq_getElem_cons hm]; rfl
    show inner[m] ∈ (inner.drop (m * 1)).take 1
    rw [this]; exact List.mem_singleton.2 rfl
  have hii : i.toNat < inner.length := by omega
  have hjj : j.toNat < inner.length := by omega
  have evi : vi = inner[i.toNat] := by have := (hcell i.toNat hii).symm.trans hvi; injection this with this; exact this.symm
  have evj : vj = inner[j.toNat] := by have := (hcell j.toNat hjj).symm.trans hvj; injection this with this; exact this.symm
  have hraw : (Kd.raw 1).R e W base (fun _ => True) (.slice (some ⟨g, 0, none⟩) n cap) (inner.map fun u => [u]) := by
    refine ⟨fun _ _ => trivial, inner, ?_, ?_, fun m p hm => ?_⟩
    · rw [List.length_map, hlen]; exact ho
    · rw [List.length_map]; show inner.length = inner.length * 1; omega
    · rw [List.getElem?_map] at hm
      obtain ⟨u, hu, rfl⟩ := Option.map_eq_some_iff.1 hm
      obtain ⟨hml, rfl⟩ := List.getElem?_eq_some_iff.1 hu
      have : (inner.drop (m * 1)).take 1 = [inner[m]] := by rw [Nat.mul_one, List.drop_eq_getElem_cons hml]; rfl
      show (inner.drop (m * 1)).take 1 = [inner[m]] ∧ ((inner.drop (m * 1)).take 1).length = 1 ∧ ∀ u ∈ (inner.drop (m * 1)).take 1, u.oneCell' = true
      rw [this]
      exact ⟨rfl, rfl, fun u hu => by rw [List.mem_singleton.1 hu]; exact hone m hml⟩
  have s1 := Kd.R_seg hraw i hi0 hi (c := [vi]) (seg := [vj]) (j := 0) (x' := [vj]) (okp := fun _ => False) rfl (fun q u hu => by
      cases q with
      | zero => simp at hu; subst hu; show W.cell? ⟨g, i.toNat * 1 + 0, none⟩ = _; rw [Nat.mul_one, Nat.add_zero]; exact hvi
      | succ q => simp at hu) (Nat.le_refl 1) ⟨rfl, rfl, fun u hu => by
        rw [List.mem_singleton.1 hu, evj]; exact hone _ hjj⟩ (fun _ hk => hk.elim)
  have e1 : W.setCells g (i.toNat * (Kd.raw 1).sz + 0) [vj] = W.setCell ⟨g, i.toNat, none⟩ vj := by
    show W.setCell ⟨g, i.toNat * 1 + 0, none⟩ vj = _
    rw [Nat.mul_one, Nat.add_zero]
  rw [e1] at s1
  obtain ⟨s1, g1⟩ := s1
  have hvj2 : (W.setCell ⟨g, i.toNat, none⟩ vj).cell? ⟨g, j.toNat, none⟩ = some vj := by
    obtain ⟨_, inner1, ho1, hr1⟩ := id s1
    have hl1 : inner1.length = inner.length := by
      have := hr1.1; rw [List.length_set, List.length_map] at this; rw [this]; show inner.length * 1 = _; omega
    have := hr1.2 j.toNat [inner[j.toNat]] (by
      rw [List.getElem?_set]
      by_cases hij : i.toNat = j.toNat
      · rw [if_pos hij, if_pos (by rw [List.length_map]; omega), evj]
      · rw [if_neg hij, List.getElem?_map, List.getElem?_eq_getElem hjj]; rfl)
    have h2 : (inner1.drop (j.toNat * 1)).take 1 = [inner[j.toNat]] := this.1
    have h3 : inner1[j.toNat]? = some inner[j.toNat] := by
      have hj1 : j.toNat < inner1.length := by omega
      rw [Nat.mul_one, List.drop_eq_getElem_cons hj1] at h2
      have : inner1[j.toNat] = inner[j.toNat] := by injection h2
      rw [List.getElem?_eq_getElem hj1, this]
    have h4 := ho1.cells (g := g) hgo.symm j.toNat _ h3
    rw [add_plain] at h4
    rw [h4, evj]
  exact ⟨hvj2, (World.frozen?_setCell _ _ _ _).trans hfj⟩
theorem S_swap {ei e base n cap g : Nat} {ok : Nat → Prop} {W : World} {xs : List (List Int)} (h : Kd.S (KL ei) e W base ok (.slice (some ⟨g, 0, none⟩) n cap) xs) (i j : Int) (hi0 : 0 ≤ i) (hi : i < n) (hj0 : 0 ≤ j) (hj : j < n) {vi vj : Value}
    (hvi : W.cell? ⟨g, i.toNat, none⟩ = some vi) (hvj : W.cell? ⟨g, j.toNat, none⟩ = some vj) :
    Kd.S (KL ei) e ((W.setCell ⟨g, i.toNat, none⟩ vj).setCell ⟨g, j.toNat, none⟩ vi) base ok (.slice (some ⟨g, 0, none⟩) n cap) (swp xs i j) ∧ W.grownBy ((W.setCell ⟨g, i.toNat, none⟩ vj).setCell ⟨g, j.toNat, none⟩ vi) (some g) := by
  have hsz : (KL ei).sz = 1 := rfl
  have hn : n = xs.length := by have := (Kd.S_reads' h).1; exact this
  obtain ⟨f, hR⟩ := h
  obtain ⟨hok, inner, ho, hr⟩ := hR
  have hlen : inner.length = xs.length := by have := hr.1; rw [List.length_zipIdx] at this; rw [this]; show xs.length * 1 = _; omega
  have hgo : some g = (Value.slice (some ⟨g, 0, none⟩) n cap).ownBlock := by simp [Value.ownBlock]
  rw [List.length_zipIdx] at ho
  have hcell : ∀ m (hm : m < inner.length), W.cell? ⟨g, m, none⟩ = some inner[m] := by
    intro m hm
    have := ho.cells (g := g) hgo.symm m inner[m] (List.getElem?_eq_getElem hm)
    rwa [add_plain] at this
  have hone : ∀ m (hm : m < inner.length), inner[m].oneCell' = true := by
    intro m hm
    have hm' : m < xs.length := by omega
    have h1 := hr.2 m (xs[m], m) (Kd.zip_at (List.getElem?_eq_getElem hm'))
    refine (KL ei).K_one ((KL ei).K_of_M h1) _ ?_
    have : (inner.drop (m * 1)).take 1 = [inner[m]] := by rw [Nat.mul_one, List.drop_eq_getElem_cons hm]; rfl
    show inner[m] ∈ (inner.drop (m * 1)).take 1
    rw [this]; exact List.mem_singleton.2 rfl
  have hii : i.toNat < inner.length := by omega
  have hjj : j.toNat < inner.length := by omega
  have evi : vi = inner[i.toNat] := by have := (hcell i.toNat hii).symm.trans hvi; injection this with this; exact this.symm
  have evj : vj = inner[j.toNat] := by have := (hcell j.toNat hjj).symm.trans hvj; injection this with this; exact this.symm
  have hraw : (Kd.raw 1).R e W base (fun _ => True) (.slice (some ⟨g, 0, none⟩) n cap) (inner.map fun u => [u]) := by
    refine ⟨fun _ _ => trivial, inner, ?_, ?_, fun m p hm => ?_⟩
    · rw [List.length_map, hlen]; exact ho
    · rw [List.length_map]; show inner.length = inner.length * 1; omega
    · rw [List.getElem?_map] at hm
      obtain ⟨u, hu, rfl⟩ := Option.map_eq_some_iff.1 hm
      obtain ⟨hml, rfl⟩ := List.getElem?_eq_some_iff.1 hu
      have : (inner.drop (m * 1)).take 1 = [inner[m]] := by rw [Nat.mul_one, List.drop_eq_getElem_cons hml]; rfl
      show (inner.drop (m * 1)).take 1 = [inner[m]] ∧ ((inner.drop (m * 1)).take 1).length = 1 ∧ ∀ u ∈ (inner.drop (m * 1)).take 1, u.oneCell' = true
      rw [this]
      exact ⟨rfl, rfl, fun u hu => by rw [List.mem_singleton.1 hu]; exact hone m hml⟩
  have s1 := Kd.R_seg hraw i hi0 hi (c := [vi]) (seg := [vj]) (j := 0) (x' := [vj]) (okp := fun _ => False) rfl (fun q u hu => by
      cases q with
      | zero => simp at hu; subst hu; show W.cell? ⟨g, i.toNat * 1 + 0, none⟩ = _; rw [Nat.mul_one, Nat.add_zero]; exact hvi
      | succ q => simp at hu) (Nat.le_refl 1) ⟨rfl, rfl, fun u hu => by
        rw [List.mem_singleton.1 hu, evj]; exact hone _ hjj⟩ (fun _ hk => hk.elim)
  have e1 : W.setCells g (i.toNat * (Kd.raw 1).sz + 0) [vj] = W.setCell ⟨g, i.toNat, none⟩ vj := by
    show W.setCell ⟨g, i.toNat * 1 + 0, none⟩ vj = _
    rw [Nat.mul_one, Nat.add_zero]
  rw [e1] at s1
  obtain ⟨s1, g1⟩ := s1
  have hvj2 : (W.setCell ⟨g, i.toNat, none⟩ vj).cell? ⟨g, j.toNat, none⟩ = some vj := by
    obtain ⟨_, inner1, ho1, hr1⟩ := id s1
    have hl1 : inner1.length = inner.length := by
      have := hr1.1; rw [List.length_set, List.length_map] at this; rw [this]; show inner.length * 1 = _; omega
    have := hr1.2 j.toNat [inner[j.toNat]] (by
      rw [List.getElem?_set]
      by_cases hij : i.toNat = j.toNat
      · rw [if_pos hij, if_pos (by rw [List.length_map]; omega), evj]
      · rw [if_neg hij, List.getElem?_map, List.getElem?_eq_getElem hjj]; rfl)
    have h2 : (inner1.drop (j.toNat * 1)).take 1 = [inner[j.toNat]] := this.1
    have h3 : inner1[j.toNat]? = some inner[j.toNat] := by
      have hj1 : j.toNat < inner1.length := by omega
      rw [Nat.mul_one, List.drop_eq_getElem_cons hj1] at h2
      have : inner1[j.toNat] = inner[j.toNat] := by injection h2
      rw [List.getElem?_eq_getElem hj1, this]
    have h4 := ho1.cells (g := g) hgo.symm j.toNat _ h3
    rw [add_plain] at h4
    rw [h4, evj]
  have s2 := Kd.R_seg s1 j hj0 hj (c := [vj]) (seg := [vi]) (j := 0) (x' := [vi]) (okp := fun _ => False) rfl (fun q u hu => by
      cases q with
      | zero => simp at hu; subst hu; show World.cell? _ ⟨g, j.toNat * 1 + 0, none⟩ = _; rw [Nat.mul_one, Nat.add_zero]; exact hvj2
      | succ q => simp at hu) (Nat.le_refl 1) ⟨rfl, rfl, fun u hu => by
        rw [List.mem_singleton.1 hu, evi]; exact hone _ hii⟩ (fun _ hk => hk.elim)
  have e2 : (W.setCell ⟨g, i.toNat, none⟩ vj).setCells g (j.toNat * (Kd.raw 1).sz + 0) [vi] = (W.setCell ⟨g, i.toNat, none⟩ vj).setCell ⟨g, j.toNat, none⟩ vi := by
    show World.setCell _ ⟨g, j.toNat * 1 + 0, none⟩ vi = _
    rw [Nat.mul_one, Nat.add_zero]
  rw [e2] at s2
  obtain ⟨s2, g2⟩ := s2
  have hg : W.grownBy ((W.setCell ⟨g, i.toNat, none⟩ vj).setCell ⟨g, j.toNat, none⟩ vi) (some g) := by
    obtain ⟨a1, a2, a3, a4, a5⟩ := g1
    obtain ⟨b1, b2, b3, b4, b5⟩ := g2
    exact ⟨b1.trans a1, b2.trans a2, b3.trans a3, Nat.le_trans a4 b4, fun k hk hne => (b5 k (Nat.lt_of_lt_of_le hk a4) hne).trans (a5 k hk hne)⟩
  refine ⟨?_, hg⟩
  obtain ⟨_, inner2, ho2, hr2⟩ := s2
  rw [List.length_set, List.length_set, List.length_map] at ho2
  have hl2 : inner2.length = inner.length := by
    have := hr2.1; rw [List.length_set, List.length_set, List.length_map] at this; rw [this]; show inner.length * 1 = _; omega
  refine ⟨fun k => sgm i.toNat j.toNat (f k), hok, inner2, ?_, ?_, fun m p hm => ?_⟩
  · rw [List.length_zipIdx, swp_length, ← hlen]; exact ho2
  · rw [List.length_zipIdx, swp_length, hl2, hlen]; show _ = xs.length * 1; omega
  · rw [List.getElem?_zipIdx, Nat.zero_add] at hm
    obtain ⟨q, hq, rfl⟩ := Option.map_eq_some_iff.1 hm
    have hml : m < xs.length := by
      have := (List.getElem?_eq_some_iff.1 hq).1
      rwa [swp_length] at this
    have hix : i.toNat < xs.length := by omega
    have hjx : j.toNat < xs.length := by omega
    have hq2 : q = xs[sgm i.toNat j.toNat m]'(sgm_lt hix hjx hml) := by
      have := set_set_get xs i.toNat j.toNat m hix hjx hml (xs.getD j.toNat []) (xs.getD i.toNat []) (by simp [List.getD_eq_getElem?_getD, hjx]) (by simp [List.getD_eq_getElem?_getD, hix])
      unfold swp at hq
      rw [this] at hq
      injection hq with hq
      exact hq.symm
    have hs := sgm_lt hix hjx hml
    have hold := hr.2 (sgm i.toNat j.toNat m) (xs[sgm i.toNat j.toNat m], sgm i.toNat j.toNat m) (Kd.zip_at (List.getElem?_eq_getElem hs))
    have hc2 := (hr2.2 m [inner[sgm i.toNat j.toNat m]'(by omega)] (by
      rw [set_set_get (inner.map fun u => [u]) i.toNat j.toNat m (by rw [List.length_map]; omega) (by rw [List.length_map]; omega) (by rw [List.length_map]; omega) [vj] [vi] (by simp [evj]) (by simp [evi])]
      simp)).1
    have hcells : (inner2.drop (m * (KL ei).sz)).take (KL ei).sz = (inner.drop (sgm i.toNat j.toNat m * (KL ei).sz)).take (KL ei).sz := by
      have h1 : (inner.drop (sgm i.toNat j.toNat m * 1)).take 1 = [inner[sgm i.toNat j.toNat m]'(by omega)] := by
        rw [Nat.mul_one, List.drop_eq_getElem_cons (by omega)]; rfl
      show (inner2.drop (m * 1)).take 1 = (inner.drop (sgm i.toNat j.toNat m * 1)).take 1
      rw [h1]; exact hc2
    show (KL ei).M _ base _ q ((inner2.drop (m * (KL ei).sz)).take (KL ei).sz)
    rw [hcells, hq2]
    refine (KL ei).M_mono (fun k hk => ?_) ((KL ei).M_move (w1 := (W.setCell ⟨g, i.toNat, none⟩ vj).setCell ⟨g, j.toNat, none⟩ vi) (fun k hk => hg.block k hk.2.2.1 (fun he => hk.1.1.2 (by rw [he]; exact hgo))) ((KL ei).M_bound hold))
    exact ⟨hk.1.1, by
      have h1 : f k = sgm i.toNat j.toNat m := hk.1.2
      show sgm i.toNat j.toNat (f k) = m
      rw [h1, sgm_sgm]⟩
theorem late2_ {P : Program} {ops : Array Oper} {Q : Exit → Act → World → Prop} {md : Region.Mode} {S : World → Prop} {ds : List Nat} {i d : Nat} {Ni : Option Tmp} {oi od : Oper} {fuel fuel3 : Nat} {l l3 : Array Bool} {a a3 : Act} {w w3 : World} (li ld : Array Bool) (hi : ops[i]? = some oi) (hd : ops[d]? = some od) (hNi : oi.dst = Ni) (hNd : od.dst = none)
    (hc : (Region.ready md ops l == [i, d] && l.setIfInBounds i true == li && l.setIfInBounds d true == ld) = true) (hdd : d ∈ ds)
    (h1 : wpAnyLast P md ops Q S ds fuel3 l3 a3 w3 → ∀ K : Act → World → Prop, Shut (∀ a', wpAnyLast P md ops Q S ds fuel li a' w → K a' w) → if Region.wanted oi (yielded ops a.tmps) = true then Oper.wp P oi a w K Q else K (a.put Ni undef) w)
    (h2 : wpAnyLast P md ops Q S ds fuel3 l3 a3 w3 → ∀ K : Act → World → Prop, Shut (∀ a' w', wpAnyLast P md ops Q S ds fuel ld a' w' → K a' w') → if Region.wanted od (yielded ops a.tmps) = true then Oper.wp P od a w K Q else K (a.put none undef) w)
    (h : wpAnyLast P md ops Q S ds fuel3 l3 a3 w3) : wpAnyLast P md ops Q S ds (fuel + 1) l a w := by
  subst hNi
  simp only [Bool.and_eq_true, beq_iff_eq] at hc
  obtain ⟨⟨h3, h4⟩, h5⟩ := hc
  subst h4
  subst h5
  refine wpAnyLast_ready h3 (by simp) (fun j hj => ?_)
  rcases List.mem_cons.1 hj with rfl | hj
  · exact wpOp_step hi (fun K hK => h1 h K (fun a' hW => hK a' w ⟨fun _ hs => hs, hW⟩))
  · obtain rfl := List.mem_singleton.1 hj
    rw [← hNd] at h2
    exact wpOp_step hd (fun K hK => h2 h K (fun a' w' hW => hK a' w' ⟨fun hn => absurd hdd hn, hW⟩))
theorem lone_ {P : Program} {ops : Array Oper} {Q : Exit → Act → World → Prop} {md : Region.Mode} {S : World → Prop} {ds : List Nat} {i : Nat} {Ni : Option Tmp} {oi : Oper} {fuel : Nat} {l : Array Bool} {a : Act} {w : World} (li : Array Bool) (hi : ops[i]? = some oi) (hNi : oi.dst = Ni) (hc : readyB md ops l li i = true)
    (h1 : ∀ K : Act → World → Prop, Shut (∀ a', wpAnyLast P md ops Q S ds fuel li a' w → K a' w) → if Region.wanted oi (yielded ops a.tmps) = true then Oper.wp P oi a w K Q else K (a.put Ni undef) w) : wpAnyLast P md ops Q S ds (fuel + 1) l a w := by
  subst hNi
  simp only [readyB, Bool.and_eq_true, beq_iff_eq] at hc
  obtain ⟨h3, h4⟩ := hc
  subst h4
  refine wpAnyLast_ready h3 (by simp) (fun j hj => ?_)
  obtain rfl := List.mem_singleton.1 hj
  exact wpOp_step hi (fun K hK => h1 K (fun a' hW => hK a' w ⟨fun _ hs => hs, hW⟩))
theorem below_setA {w W : World} {g j : Nat} {v : Value} (h : Below w.heap.size w W) (hg : Aside0 (w.heap.size ≤ g)) : Below w.heap.size w (W.setCell ⟨g, j, none⟩ v) := below_set h hg.out
theorem bl {b : Nat} {w0 w : World} (h : Below b w0 w := by repeat (first | (with_reducible first | exact HB.out | apply below_alloc | apply pw_below_drewN | apply below_drew1 | refine below_setA ?_ (by assumption)) | exact HB.out)) : Below b w0 w := h
theorem bk {w : World} {g : Nat} {o : Obj} (h : w.heap[g]? = some o := by (with_reducible repeat (first | refine blk_drewN ?_ _ | refine blk_drew ?_ | refine blk_alloc ?_ _)); exact Aside0.out (by assumption)) : w.heap[g]? = some o := h
theorem oD {p : Prop} [Decidable p] (h : decide p = true := by first | (with_reducible assumption) | assumption) : p := of_decide_eq_true h
theorem gm {α : Type} {a b : α} (h : a = b := by (try simp only [List.map_toArray, List.map_cons, List.map_nil]); first | done | rfl | (simp only [List.length_drop, List.length_take]; rfl)) : a = b := h
theorem rs {α : Type} {a b : α} (h : a = b := by first | rfl | (simp; done) | (simp [*]; done)) : a = b := h
theorem hbc {w w' : World} {a : Addr} {v : Value} (B : Aside0 (Below w.heap.size w w')) (h : w.cell? a = some v) : w'.cell? a = some v := (B.out.cell (World.block_lt_of_cell? w _ h)).trans h

end Go.Proofs.Ytbfmnhgpmpnglaa.B
