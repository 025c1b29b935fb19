/- The functions that one law reaches, each as a Lean function, and that Go's call comes to what it says. Condition of each: that the Lean function answers (is not none). -/
import Derived.Test.YtjgdibhalmcigaaProg
import Derived.Below
import Derived.Deep.Draws
import Derived.Deep.AppendLies
import Derived.Maps.AppendAt
import Derived.OwnWalk
import Derived.Laws.BytesArg
import Derived.Laws.MakeOwn
import Derived.Laws.OwnMore
import Derived.Deep.OwnRows
import Derived.Tactics
import Derived.Lib.ConvBytes
import Derived.Laws.Slices
import Derived.WalkKit
import Derived.KernelRfl
import Derived.RowKit3
import Derived.Deep.LoopGhost
import Derived.Deep.QuietTactic
import Derived.BigQuiet
import Derived.WideLaws
import Derived.Deep.DeepCutAuto
import Derived.Deep.CutBlock
import Derived.Deep.RegionHeld3
import Derived.Laws.Rows
import Derived.Lib.AppendStr
import Derived.ArgAppend
import Derived.Laws.IdiomCopy
import Derived.OrdersHeld
import Derived.Laws.BitsLemmas
import Derived.RowKit
import Derived.Lib.SliceRun
import Derived.Deep.RegionLaw
import Derived.Test.YtjgdibhalmcigaaWWords
import Derived.Test.YtjgdibhalmcigaaWLast
import Derived.Test.YtjgdibhalmcigaaWTab
import Derived.Test.YtjgdibhalmcigaaWQPut
import Derived.Test.YtjgdibhalmcigaaWApart
import Derived.Test.YtjgdibhalmcigaaWArr
import Derived.Test.YtjgdibhalmcigaaWZeros
import Derived.Test.YtjgdibhalmcigaaWFoot
import Derived.Test.YtjgdibhalmcigaaWKept
import Derived.Test.YtjgdibhalmcigaaWShare
import Derived.Test.YtjgdibhalmcigaaWN
import Derived.Test.YtjgdibhalmcigaaWRepsOne
import Derived.Test.YtjgdibhalmcigaaWGuard
import Derived.Test.YtjgdibhalmcigaaWNEv
import Derived.Test.YtjgdibhalmcigaaWMore
namespace Go.Proofs.Ytjgdibhalmcigaa.A
open Go.RowKit Go.Proofs.YtjgdibhalmcigaaW.PrintWords Go.Proofs.YtjgdibhalmcigaaW.PrintLast Go.Proofs.YtjgdibhalmcigaaW.PrintMore
attribute [local go_sem] max2_int min2_int max_two min_two max_three min_three max_four min_four   -- for this text's walks alone
set_option linter.unusedVariables false
set_option linter.unusedSimpArgs false



def errW : Option Int → Value
  | none => .nilIface
  | some c => .iface 0 (.int .i64 c)
theorem errW_none : errW none = .nilIface := rfl
theorem errW_some (c : Int) : errW (some c) = .iface 0 (.int .i64 c) := rfl

theorem info2 : (Try.prog.info? 2).map (fun i => (i.zero, i.size, i.bytes)) = some (some (.int .i64 0), 1, 8) := by kernel_rfl
theorem info32 : (Try.prog.info? 32).map (fun i => (i.zero, i.size, i.bytes)) = some (some (.slice none 0 0), 1, 24) := by kernel_rfl
-- the values' own types
def rd_L1 (xs : List (List Int)) (i : Int) : (List Int) := xs.getD i.toNat ([] : List Int)
theorem at_L1 {w : World} {A : Option Addr} {n : Nat} {xs : List (List Int)} (h : Kd.C (Kd.slice 2 (Kd.int .i64)) w A n xs) (i : Int) (h0 : 0 ≤ i) (h1 : i < n) : ∃ ad A0 c0, A = some ad ∧ w.cell? (ad.add i.toNat) = some (.slice A0 (rd_L1 xs i).length c0) ∧ (rd_L1 xs i).length ≤ c0 ∧ (Kd.int .i64).C w A0 (rd_L1 xs i).length (rd_L1 xs i) := by
  obtain ⟨ad, c, e, _, hK, hc0⟩ := Kd.C_get h ([] : List Int) i h0 h1
  have hc : ∀ j u, c[j]? = some u → w.cell? (ad.add (i.toNat * 1 + j)) = some u := hc0
  obtain ⟨A0, c0, rfl, l0, g0⟩ := hK
  exact ⟨ad, A0, c0, e, by have hq := hc 0 _ rfl; rwa [Nat.mul_one, Nat.add_zero] at hq, l0, g0⟩


/-! ### small words for the contracts proved by hand -/
theorem zI {α : Type} (l : List α) (i : Nat) (a : α) : l.toArray.setIfInBounds i a = (l.set i a).toArray := List.setIfInBounds_toArray l i a
theorem zZ {α : Type} (a b : α) (l : List α) : (a :: l).set 0 b = b :: l := List.set_cons_zero
theorem zS {α : Type} (a b : α) (l : List α) (n : Nat) : (a :: l).set (n + 1) b = a :: l.set n b := List.set_cons_succ
theorem bcell {W w1 : World} (hb : Below W.heap.size W w1) : (∀ b o, b < W.heap.size → w1.cell? ⟨b, o, none⟩ = W.cell? ⟨b, o, none⟩) ∧ (∀ b o, b < W.heap.size → w1.frozen? ⟨b, o, none⟩ = W.frozen? ⟨b, o, none⟩) :=
  ⟨fun b o h => hb.cell (p := ⟨b, o, none⟩) h, fun b o h => hb.frozen (p := ⟨b, o, none⟩) h⟩
def idxFrom (p : Int → Bool) : List Int → Nat → Int
  | [], _ => -1
  | x :: xs, k => if p x then k else idxFrom p xs (k+1)
theorem idxFrom_drop (p : Int → Bool) (l : List Int) (k : Nat) (h : k < l.length) : idxFrom p (l.drop k) k = if p (rd l k) then (k:Int) else idxFrom p (l.drop (k+1)) (k+1) := by
  rw [List.drop_eq_getElem_cons h, idxFrom, rd, Int.toNat_natCast, List.getD_eq_getElem?_getD, List.getElem?_eq_getElem h]; rfl
theorem idxFrom_any (p : Int → Bool) (l : List Int) (k : Nat) : decide (0 ≤ idxFrom p l k) = l.any p := by
  induction l generalizing k with
  | nil => simp [idxFrom]
  | cons x xs ih =>
    rw [idxFrom, List.any_cons]
    cases p x with
    | true => simp
    | false => simp; rw [← ih (k+1)]
def rdL (xs : List (List Int)) (i : Int) : List Int := xs.getD i.toNat []
def idxM (p : List Int → Option Bool) : List (List Int) → Nat → Option Int
  | [], _ => some (-1)
  | x :: xs, k => (p x).bind fun b => if b = true then some (k : Int) else idxM p xs (k + 1)
theorem idxM_mono {p q : List Int → Option Bool} (h : ∀ x r, p x = some r → q x = some r) : ∀ (l : List (List Int)) (k : Nat) (r : Int), idxM p l k = some r → idxM q l k = some r
  | [], _, _, e => e
  | x :: xs, k, r, e => by
    simp only [idxM] at e ⊢
    obtain ⟨b, hb, e⟩ := Option.bind_eq_some_iff.mp e
    rw [h x b hb, Option.bind_some]
    cases b with
    | true => exact e
    | false =>
      simp only [Bool.false_eq_true, if_false] at e ⊢
      exact idxM_mono h xs (k + 1) r e
abbrev KL (e : Nat) : Kd (List Int) := Kd.slice e (Kd.int .i64)
/-- An inner row, by its address; and what becomes of the whole where that row alone is written. -/
theorem S_inner {e ei base n c : Nat} {ok : Nat → Prop} {w : World} {A : Option Addr} {xs : List (List Int)} (h : Kd.S (KL ei) e w base ok (.slice A n c) xs) (i : Int) (h0 : 0 ≤ i) (h1 : i < n) :
    ∃ (ad : Addr) (Ai : Option Addr) (ci : Nat), A = some ad ∧ w.cell? (ad.add i.toNat) = some (.slice Ai (rdL xs i).length ci) ∧ (rdL xs i).length ≤ ci ∧ (Kd.int .i64).C w Ai (rdL xs i).length (rdL xs i) ∧
      Kd.R (Kd.int .i64) ei w base (fun k => some k = (Value.slice Ai (rdL xs i).length ci).ownBlock) (.slice Ai (rdL xs i).length ci) (rdL xs i) ∧ (∀ k, some k = (Value.slice Ai (rdL xs i).length ci).ownBlock → ok k) ∧
      ∀ {w1 : World} {x' : List Int} {ok' : Nat → Prop}, w.grownBy w1 (Value.slice Ai (rdL xs i).length ci).ownBlock → Kd.R (Kd.int .i64) ei w1 base ok' (.slice Ai (rdL xs i).length ci) x' → Kd.S (KL ei) e w1 base ok (.slice A n c) (xs.set i.toNat x') := by
  have hl := (Kd.S_reads' h).1
  obtain ⟨g, cap, hv, _⟩ := Kd.S_form h (by omega)
  injection hv with hA _ _
  subst hA
  obtain ⟨oki, cs, hcl, hM, hcc, hoki, hput⟩ := Kd.S_borrow h ([] : List Int) i h0 h1
  obtain ⟨v, rfl, hR⟩ := hM
  have hcell := hcc 0 v rfl
  obtain ⟨Ai, ci, rfl, hci, hCi⟩ := Kd.R_reads hR
  have hR0 : ∀ k, some k = (Value.slice Ai (xs.getD i.toNat []).length ci).ownBlock → oki k := fun k hk => hR.1 k hk.symm
  refine ⟨_, Ai, ci, rfl, ?_, hci, hCi, Kd.R_tight rfl hR, fun k hk => (hoki k (hR0 k hk)).1, fun hg hR1 => ?_⟩
  · rw [show (Kd.slice ei (Kd.int .i64)).sz = 1 from rfl, Nat.mul_one, Nat.add_zero] at hcell; exact hcell
  · exact hput hg (fun k hk => hR0 k hk.symm) (Kd.M_row (Kd.R_mono (Kd.R_tight rfl hR1) (fun k hk => hR0 k hk)))
theorem grown_of_kept {w0 w w1 : World} {v : Value} (hB : Below w0.heap.size w0 w) (hB1 : Below w0.heap.size w0 w1) (hk : Kept w w1 (fun k => some k = v.ownBlock)) : w.grownBy w1 v.ownBlock :=
  ⟨hB1.os.trans hB.os.symm, hB1.tape.trans hB.tape.symm, hB1.output.trans hB.output.symm, hk.1, fun i hi hne => hk.2 i hi (fun e => hne e)⟩
theorem mid (lo m s : Nat) (h : lo ≤ s) : ∃ q, lo ≤ q ∧ q ≤ s ∧ (∀ k, k < m → lo ≤ k → k < s → k < q) ∧ (∀ k, m ≤ k → lo ≤ k → k < s → q ≤ k) := by
  by_cases h1 : m ≤ lo
  case neg =>
    by_cases h2 : m ≤ s
    case neg =>
      exact ⟨s, h, by omega, fun k _ _ h => h, fun k h3 _ h4 => by omega⟩
    exact ⟨m, by omega, h2, fun k h _ _ => h, fun k h _ _ => h⟩
  exact ⟨lo, by omega, h, fun k _ _ _ => by omega, fun k _ h2 _ => h2⟩
/-- What a slot holds is the value that lies in a whole at an index. -/
def HdrOf (w : World) (V : Value) (j : Int) (u : Value) : Prop := ∃ ad n c, V = .slice (some ad) n c ∧ 0 ≤ j ∧ j < (n : Int) ∧ w.cell? (ad.add j.toNat) = some u
theorem HdrOf.below {w w1 : World} {V : Value} {j : Int} {u : Value} (h : HdrOf w V j u) (hb : Below w.heap.size w w1) : HdrOf w1 V j u := by
  obtain ⟨ad, n, c, e, h0, h1, hc⟩ := h
  exact ⟨ad, n, c, e, h0, h1, pw_cell_below hb hc⟩
theorem hdr_lo {w : World} {V : Value} {j : Int} {u : Value} (h : HdrOf w V j u) : 0 ≤ j := by
  obtain ⟨ad, n, c, e, h0, h1, hc⟩ := h
  exact h0
theorem hdr_hi {w : World} {A : Option Addr} {n c : Nat} {j : Int} {u : Value} (h : HdrOf w (.slice A n c) j u) : j < (n : Int) := by
  obtain ⟨ad, n, c, e, h0, h1, hc⟩ := h
  injection e with _ e2 _
  subst e2
  exact h1
theorem HdrOf.alloc {w : World} {V : Value} {j : Int} {u : Value} (h : HdrOf w V j u) (o : Obj) : HdrOf (w.alloc o) V j u := h.below (below_alloc (Below.refl _ _) o)
theorem HdrOf.drew {w : World} {V : Value} {j : Int} {u : Value} (h : HdrOf w V j u) : HdrOf w.drew V j u := h.below (below_drew (Below.refl _ _))
theorem HdrOf.drewN {w : World} {V : Value} {j : Int} {u : Value} (h : HdrOf w V j u) (m : Nat) : HdrOf (w.drewN m) V j u := h.below (pw_below_drewN (Below.refl _ _) m)
theorem hdr_eq {w : World} {ad : Addr} {n c : Nat} {j : Int} {u v : Value} (h : HdrOf w (.slice (some ad) n c) j u) (hc : w.cell? (ad.add j.toNat) = some v) : u = v := by
  obtain ⟨ad', n', c', e, _, _, h'⟩ := h
  injection e with e1 _ _
  injection e1 with e1
  subst e1
  exact Option.some.inj (h'.symm.trans hc)
theorem getD_set_own (x : List (List Int)) (i : Nat) (y : List Int) (h : i < x.length) : (x.set i y).getD i [] = y := by
  rw [List.getD_eq_getElem?_getD, List.getElem?_set_self h]
  rfl
theorem HdrOf.set {w : World} {V : Value} {j : Int} {u : Value} (h : HdrOf w V j u) {e e' g off : Nat} {x v : Value} (hP : ∀ k, V.ownBlock = some k → ∃ cells, w.heap[k]? = some (.cells cells e (0, 0))) (hx : ∀ k, v.ownBlock = some k → ∃ cells, w.heap[k]? = some (.cells cells e' (0, 0))) (hv : v.ownBlock = some g) (hne : e ≠ e') : HdrOf (w.setCell ⟨g, off, none⟩ x) V j u := by
  obtain ⟨ad, n, c, rfl, h0, h1, hc⟩ := h
  refine ⟨ad, n, c, rfl, h0, h1, ?_⟩
  rw [cell_far]
  · exact hc
  · rw [add_block]; intro h_; obtain ⟨c1, h1⟩ := hP ad.block (by simp [Value.ownBlock]); obtain ⟨c2, h2⟩ := hx ad.block (by rw [hv]; exact congrArg some h_.symm); rw [h1] at h2; injection h2 with h2; injection h2 with _ h2; exact hne h2
theorem arr_at {w : World} {g t : Nat} {l : List Bool} (h : w.heap[g]? = some (.cells (l.map Value.bool).toArray t (0, 0))) (i : Int) (h0 : 0 ≤ i) (h1 : i < (l.length : Int)) : w.cell? ⟨g, i.toNat, none⟩ = some (.bool (rdOf false l i)) := by
  rw [blk_cell h i.toNat, rdOf, List.getD_eq_getElem?_getD, List.getElem?_eq_getElem (by omega : i.toNat < l.length)]
  simp [List.getElem?_eq_getElem (by omega : i.toNat < l.length)]
theorem S_lendR {w : World} {e ei base n cap : Nat} {ok : Nat → Prop} {ad : Addr} {xs : List (List Int)} (h : Kd.S (Kd.slice ei (Kd.int .i64)) e w base ok (.slice (some ad) n cap) xs) (i : Int) (h0 : 0 ≤ i) (h1 : i < n) {u : Value} (hx : w.cell? (ad.add i.toNat) = some u) :
    ∃ okE : Nat → Prop, Kd.R (Kd.int .i64) ei w base okE u (xs.getD i.toNat []) ∧ (∀ k, okE k → k < w.heap.size ∧ some k ≠ (Value.slice (some ad) n cap).ownBlock) ∧ Kd.H (Kd.slice ei (Kd.int .i64)) e w base (fun k => k < w.heap.size) (.slice (some ad) n cap) xs i okE [u] := by
  obtain ⟨g, rfl⟩ := Kd.R_head (Kd.S_R h)
  obtain ⟨oki, c, hcl, hM, hcc, hoki, hH⟩ := Kd.S_lend (Kd.S_bound h) ([] : List Int) i h0 h1
  obtain ⟨v, rfl, hR⟩ := hM
  have hv := hcc 0 _ rfl
  rw [Nat.add_zero, show (Kd.slice ei (Kd.int .i64)).sz = 1 from rfl, Nat.mul_one] at hv
  rw [add_plain] at hx
  obtain rfl := Option.some.inj (hv.symm.trans hx)
  refine ⟨oki, hR, fun k hk => ⟨(hoki k hk).1.2.2.1, fun he => (hoki k hk).2 ?_⟩, Kd.H_mono hH (fun k hk => hk.2.2.1)⟩
  simpa [Value.ownBlock] using he
theorem H_slice {α : Type} {d : Kd α} {e base : Nat} {ok oki : Nat → Prop} {w : World} {v : Value} {xs : List α} {i : Int} {c : List Value} (h : Kd.H d e w base ok v xs i oki c) : ∃ A c', v = .slice A xs.length c' := by
  obtain ⟨_, f, hR⟩ := h
  have h2 := Kd.R_slice hR
  rwa [List.length_zipIdx] at h2
theorem H_setBox {α : Type} {d : Kd α} {e base : Nat} {ok oki : Nat → Prop} {w : World} {v : Value} {xs : List α} {i : Int} {c : List Value} (h : Kd.H d e w base ok v xs i oki c) {g t : Nat} {cells : Array Value} (hb : w.heap[g]? = some (.cells cells t (0, 0))) (ht : ∀ q, q ∈ e :: d.E → q ≠ t) (j : Nat) (u : Value) : Kd.H d e (w.setCell ⟨g, j, none⟩ u) base ok v xs i oki c := by
  obtain ⟨ho, f, hR⟩ := h
  exact ⟨ho, f, Kd.R_set hR hb ht j u⟩
open Classical in
/-- append to a row that has a hole: the hole's cells stay. -/
theorem H_append_step {P : Program} {ops : Array Oper} {o : Oper} {a : Act} {Q : Exit → Act → World → Prop} {Kc : Act → World → Prop} {α : Type} (d : Kd α) {w0 W : World} (base : Nat) (hw : Region.wanted o (yielded ops a.tmps) = true) (s x : Operand) (t e : TypeId) (z : Value) (bytes : Nat)
    (ho : o.op = .call { callee := .builtin .append, args := #[s, x], argTypes := #[t, t] })
    (ht : P.underlying t = some (.slice e)) (hinfo : (P.info? e).map (fun i => (i.zero, i.size, i.bytes)) = some (some z, d.sz, bytes)) (hz : z.cells.size = d.sz) (hs0 : 0 < d.sz) (hb0 : 0 < bytes)
    (v : Value) (xs : List α) (p : α) (cs : List Value) (ok okp : Nat → Prop) (i : Int) (oki : Nat → Prop) (c : List Value) (hib : ∀ k, oki k → k < W.heap.size) (hi : i.toNat < xs.length) (hs : a.eval s = v) (hx : a.eval x = .slice (some ⟨W.heap.size, 0, none⟩) 1 1) (hp : d.M W base okp p cs) (hokp : ∀ k, okp k → ok k ∧ some k ≠ v.ownBlock) (hfresh : ∀ k, W.heap.size ≤ k → ok k)
    (HO : Kd.H d e W base (fun k => ok k ∧ ¬ okp k) v xs i oki c) (HB : Below base w0 W) (hbase : base ≤ W.heap.size) (hl : (xs.length + 1) * bytes ≤ 140737488355328)
    (h : ∀ v1 w1, Kd.H d e w1 base ok v1 (xs ++ [p]) i oki c → Below base w0 w1 → W.grownBy w1 v.ownBlock → (v1.ownBlock = v.ownBlock ∨ ∃ b, v1.ownBlock = some b ∧ W.heap.size ≤ b) → Kc (a.put o.dst v1) w1) :
    if Region.wanted o (yielded ops a.tmps) = true then Oper.wp P o a (W.alloc (.cells cs.toArray e)) Kc Q else Kc (a.put o.dst undef) (W.alloc (.cells cs.toArray e)) := by
  obtain ⟨hoo, f, hR⟩ := HO
  have hR' : (Kd.gap (fun k => if okp k then xs.length else f k) d i.toNat c).R e W base (fun k => ok k ∧ ¬ oki k) v xs.zipIdx := by
    obtain ⟨h0, inner, hown, hr⟩ := hR
    exact ⟨fun k hk => ⟨(h0 k hk).1.1, (h0 k hk).2⟩, inner, hown, hr.1, fun j q hj => ⟨fun hx => (hr.2 j q hj).1 hx, fun hx => d.M_mono (fun k hk => ⟨⟨⟨hk.1.1.1.1, hk.1.1.2⟩, hk.1.2⟩, (if_neg hk.1.1.1.2).trans hk.2⟩) ((hr.2 j q hj).2 hx)⟩⟩
  refine Kd.R_append_step (Kd.gap (fun k => if okp k then xs.length else f k) d i.toNat c) base hw s x t e z bytes ho ht hinfo hz hs0 hb0 v xs.zipIdx (p, xs.length) cs (fun k => ok k ∧ ¬ oki k) okp hs hx ⟨fun hx => absurd hx (show xs.length ≠ i.toNat by omega), fun _ => d.M_mono (fun k hk => ⟨hk, if_pos hk⟩) hp⟩ (fun k hk => ⟨⟨(hokp k hk).1, fun h2 => (hoo k h2).2 hk⟩, (hokp k hk).2⟩) (fun k hk => ⟨hfresh k hk, fun h2 => absurd (hib k h2) (by omega)⟩) hR' HB hbase (by rw [List.length_zipIdx]; exact hl) ?_
  intro v1 w1 hr
  rw [← Kd.zip_snoc] at hr
  exact h v1 w1 ⟨fun k hk => (hoo k hk).1, _, hr⟩
theorem cell_ne_ty {w : World} {e e' : Nat} {ad : Addr} {n c i : Nat} {v : Value} (hP : ∀ k, (Value.slice (some ad) n c).ownBlock = some k → ∃ cells, w.heap[k]? = some (.cells cells e (0, 0))) (hx : ∀ k, v.ownBlock = some k → ∃ cells, w.heap[k]? = some (.cells cells e' (0, 0))) (h : e ≠ e') : some (ad.add i).block ≠ v.ownBlock := by
  rw [add_block]
  intro h_
  obtain ⟨c1, h1⟩ := hP ad.block (by simp [Value.ownBlock])
  obtain ⟨c2, h2⟩ := hx ad.block h_.symm
  rw [h1] at h2
  injection h2 with h2
  injection h2 with _ h2
  exact h h2
theorem cell_ne {ad : Addr} {n c k i : Nat} (h : some k ≠ (Value.slice (some ad) n c).ownBlock) : some (ad.add i).block ≠ some k := by
  rw [add_block]
  intro e
  exact h (by rw [← e]; simp [Value.ownBlock])


end Go.Proofs.Ytjgdibhalmcigaa.A
