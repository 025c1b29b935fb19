/- The functions that one law reaches, each as a Lean function, and that Go's call comes to what it says. Condition of each: that the Lean function answers (is not none). -/
import Derived.Test.YtbfmnhgpmpnglaaCx0
namespace Go.Proofs.Ytbfmnhgpmpnglaa.C
open Go.RowKit Go.Proofs.YtbfmnhgpmpnglaaW.PrintWords Go.Proofs.YtbfmnhgpmpnglaaW.PrintLast Go.Proofs.YtbfmnhgpmpnglaaW.PrintMore
attribute [local go_sem] max2_int min2_int max_two min_two max_three min_three max_four min_four   -- for this text's walks alone
set_option linter.unusedVariables false
set_option linter.unusedSimpArgs false

/-! ### spec_l10Burn: function 50 -/
theorem eight8 (l : List Bool) (h : l.length = 8) : ∃ b0 b1 b2 b3 b4 b5 b6 b7, l = [b0, b1, b2, b3, b4, b5, b6, b7] := by
  match l, h with
  | [b0, b1, b2, b3, b4, b5, b6, b7], _ => exact ⟨b0, b1, b2, b3, b4, b5, b6, b7, rfl⟩
theorem arr_own {w : World} {t : Nat} (xs : List Bool) (hm : xs.length ≤ 9223372036854775807 := by decide) : Kd.R Kd.bool t (w.alloc (.cells (xs.map Value.bool).toArray t (0, 0))) w.heap.size (fun _ => True) (.slice (some ⟨w.heap.size, 0, none⟩) xs.length xs.length) xs := by
  refine Kd.R_of_own ?_ (fun _ _ => trivial)
  have h2 := World.ownsRow_lit (base := w.heap.size) (e := t) (size := 1) w (xs.map Value.bool).toArray xs.length (Nat.le_refl _) (by simpa [maxLen] using hm) (by simp)
  simpa [encs] using h2
theorem arr_len {w : World} {t g base : Nat} {ok : Nat → Prop} {v : Value} {xs : List Bool} (hv : v = .slice (some ⟨g, 0, none⟩) 8 8) (h : Kd.R Kd.bool t w base ok v xs) : xs.length = 8 := by
  subst hv
  have := (Kd.R_reads' h).1
  omega
theorem arr_rd {w : World} {t g base : Nat} {ok : Nat → Prop} {v : Value} {xs : List Bool} (hv : v = .slice (some ⟨g, 0, none⟩) 8 8) (h : Kd.R Kd.bool t w base ok v xs) (i : Int) (h0 : 0 ≤ i) (h1 : i < (xs.length : Int)) : w.cell? ⟨g, i.toNat, none⟩ = some (.bool (rdOf false xs i)) := by
  have hl := arr_len hv h
  subst hv
  exact (Kd.R_celln false h i h0 (by omega)).1
theorem arr_cells {w : World} {t g base : Nat} {ok : Nat → Prop} {v : Value} {b0 b1 b2 b3 b4 b5 b6 b7 : Bool} (hv : v = .slice (some ⟨g, 0, none⟩) 8 8) (h : Kd.R Kd.bool t w base ok v [b0, b1, b2, b3, b4, b5, b6, b7]) : w.cell? ⟨g, 0, none⟩ = some (.bool b0) ∧ w.cell? ⟨g, 1, none⟩ = some (.bool b1) ∧ w.cell? ⟨g, 2, none⟩ = some (.bool b2) ∧ w.cell? ⟨g, 3, none⟩ = some (.bool b3) ∧ w.cell? ⟨g, 4, none⟩ = some (.bool b4) ∧ w.cell? ⟨g, 5, none⟩ = some (.bool b5) ∧ w.cell? ⟨g, 6, none⟩ = some (.bool b6) ∧ w.cell? ⟨g, 7, none⟩ = some (.bool b7) :=
  ⟨arr_rd hv h 0 (by decide) (by simp), arr_rd hv h 1 (by decide) (by simp), arr_rd hv h 2 (by decide) (by simp), arr_rd hv h 3 (by decide) (by simp), arr_rd hv h 4 (by decide) (by simp), arr_rd hv h 5 (by decide) (by simp), arr_rd hv h 6 (by decide) (by simp), arr_rd hv h 7 (by decide) (by simp)⟩
mutual
def spec_l10Burn.l0 : Nat → List (List Int) → List Int → Int → List Bool → Bool → Int → Option (List Bool × Bool)
  | 0, _, _, _, _, _, _ => none
  | k + 1, x0, x1, x2, x8, x9, x10 => if x10 < (x0.length : Int) then (if 0 ≤ x10 then (if x10 < (8 : Int) then (spec_l10Burn.l0 k x0 x1 x2 (x8.set (x10 : Int).toNat (x10 != x2)) x9 (wrap64 (x10 + 1))) else (none)) else (none)) else (spec_l10Burn.l1 k x0 x1 x8 x9 true)
def spec_l10Burn.l1 : Nat → List (List Int) → List Int → List Bool → Bool → Bool → Option (List Bool × Bool)
  | 0, _, _, _, _, _ => none
  | k + 1, x0, x1, x8, x9, x11 => if x11 = true then (spec_l10Burn.l2 k x0 x1 x8 x9 false 0) else (spec_l10Burn.l4 k x0 x8 x9 0)
def spec_l10Burn.l2 : Nat → List (List Int) → List Int → List Bool → Bool → Bool → Int → Option (List Bool × Bool)
  | 0, _, _, _, _, _, _ => none
  | k + 1, x0, x1, x8, x9, x11, x12 => if x12 < (x0.length : Int) then (spec_l10Burn.l3 k x0 x1 x8 x9 x11 x12 0 0) else (spec_l10Burn.l1 k x0 x1 x8 x9 x11)
def spec_l10Burn.l3 : Nat → List (List Int) → List Int → List Bool → Bool → Bool → Int → Int → Int → Option (List Bool × Bool)
  | 0, _, _, _, _, _, _, _, _ => none
  | k + 1, x0, x1, x8, x9, x11, x12, x13, x14 => if x14 < (x0.length : Int) then (if x12 = x14 then (spec_l10Burn.l3 k x0 x1 x8 x9 x11 x12 x13 (wrap64 (x14 + 1))) else (if 0 ≤ x14 then (if x14 < (8 : Int) then (if rdOf false x8 x14 = true then (spec_l10Burn.l3 k x0 x1 x8 x9 x11 x12 x13 (wrap64 (x14 + 1))) else (if 0 ≤ x12 then (if x12 < (x0.length : Int) then (if x14 < ((rd_L1 x0 x12).length : Int) then (spec_l10Burn.l3 k x0 x1 x8 x9 x11 x12 (wrap64 (x13 - (rd (rd_L1 x0 x12) x14))) (wrap64 (x14 + 1))) else (none)) else (none)) else (none))) else (none)) else (none))) else (if 0 ≤ x12 then (if x12 < (8 : Int) then (if rdOf false x8 x12 = true then (if x12 < (x1.length : Int) then (if x13 > (rd x1 x12) then (spec_l10Burn.l2 k x0 x1 (x8.set (x12 : Int).toNat false) x9 true (wrap64 (x12 + 1))) else (spec_l10Burn.l2 k x0 x1 x8 x9 x11 (wrap64 (x12 + 1)))) else (none)) else (spec_l10Burn.l2 k x0 x1 x8 x9 x11 (wrap64 (x12 + 1)))) else (none)) else (none))
def spec_l10Burn.l4 : Nat → List (List Int) → List Bool → Bool → Int → Option (List Bool × Bool)
  | 0, _, _, _, _ => none
  | k + 1, x0, x8, x9, x15 => if x15 < (x0.length : Int) then (if x9 = true then (spec_l10Burn.l4 k x0 x8 true (wrap64 (x15 + 1))) else (if 0 ≤ x15 then (if x15 < (8 : Int) then (spec_l10Burn.l4 k x0 x8 (rdOf false x8 x15) (wrap64 (x15 + 1))) else (none)) else (none))) else (some (x8, x9))
end
def spec_l10Burn.fA (k : Nat) (l0 : List (List Int)) (l1 : List Int) (a2 : Int) : Option (List Bool × Bool) := if 8 ≤ 281474976710656 then (spec_l10Burn.l0 k l0 l1 a2 (List.replicate 8 false) false 0) else (none)
theorem spec_l10Burn.mono_l : ∀ k, (∀ y0 y1 y2 y3 y4 y5, LeO (spec_l10Burn.l0 k y0 y1 y2 y3 y4 y5) (spec_l10Burn.l0 (k + 1) y0 y1 y2 y3 y4 y5)) ∧ (∀ y0 y1 y2 y3 y4, LeO (spec_l10Burn.l1 k y0 y1 y2 y3 y4) (spec_l10Burn.l1 (k + 1) y0 y1 y2 y3 y4)) ∧ (∀ y0 y1 y2 y3 y4 y5, LeO (spec_l10Burn.l2 k y0 y1 y2 y3 y4 y5) (spec_l10Burn.l2 (k + 1) y0 y1 y2 y3 y4 y5)) ∧ (∀ y0 y1 y2 y3 y4 y5 y6 y7, LeO (spec_l10Burn.l3 k y0 y1 y2 y3 y4 y5 y6 y7) (spec_l10Burn.l3 (k + 1) y0 y1 y2 y3 y4 y5 y6 y7)) ∧ (∀ y0 y1 y2 y3, LeO (spec_l10Burn.l4 k y0 y1 y2 y3) (spec_l10Burn.l4 (k + 1) y0 y1 y2 y3))
  | 0 => ⟨fun _ _ _ _ _ _ r h => by simp [spec_l10Burn.l0] at h, fun _ _ _ _ _ r h => by simp [spec_l10Burn.l1] at h, fun _ _ _ _ _ _ r h => by simp [spec_l10Burn.l2] at h, fun _ _ _ _ _ _ _ _ r h => by simp [spec_l10Burn.l3] at h, fun _ _ _ _ r h => by simp [spec_l10Burn.l4] at h⟩
  | k + 1 => by
    obtain ⟨ih0, ih1, ih2, ih3, ih4⟩ := spec_l10Burn.mono_l k
    refine ⟨?_, ?_, ?_, ?_, ?_⟩
    · intro y0 y1 y2 y3 y4 y5
      unfold spec_l10Burn.l0
      repeat' first
      | (with_reducible exact ih0 _ _ _ _ _ _)
      | (with_reducible exact ih1 _ _ _ _ _)
      | (with_reducible exact ih2 _ _ _ _ _ _)
      | (with_reducible exact ih3 _ _ _ _ _ _ _ _)
      | (with_reducible exact ih4 _ _ _ _)
      | (with_reducible exact LeO.refl _)
      | (with_reducible exact LeO.none _)
      | (with_reducible refine LeO.ite ?_ ?_)
      | (with_reducible refine LeO.bind ?_ (fun _ => ?_))
      | exact ih0 _ _ _ _ _ _
      | exact ih1 _ _ _ _ _
      | exact ih2 _ _ _ _ _ _
      | exact ih3 _ _ _ _ _ _ _ _
      | exact ih4 _ _ _ _
      | exact LeO.none _
      | refine LeO.ite ?_ ?_
      | refine LeO.bind ?_ (fun _ => ?_)
    · intro y0 y1 y2 y3 y4
      unfold spec_l10Burn.l1
      repeat' first
      | (with_reducible exact ih0 _ _ _ _ _ _)
      | (with_reducible exact ih1 _ _ _ _ _)
      | (with_reducible exact ih2 _ _ _ _ _ _)
      | (with_reducible exact ih3 _ _ _ _ _ _ _ _)
      | (with_reducible exact ih4 _ _ _ _)
      | (with_reducible exact LeO.refl _)
      | (with_reducible exact LeO.none _)
      | (with_reducible refine LeO.ite ?_ ?_)
      | (with_reducible refine LeO.bind ?_ (fun _ => ?_))
      | exact ih0 _ _ _ _ _ _
      | exact ih1 _ _ _ _ _
      | exact ih2 _ _ _ _ _ _
      | exact ih3 _ _ _ _ _ _ _ _
      | exact ih4 _ _ _ _
      | exact LeO.none _
      | refine LeO.ite ?_ ?_
      | refine LeO.bind ?_ (fun _ => ?_)
    · intro y0 y1 y2 y3 y4 y5
      unfold spec_l10Burn.l2
      repeat' first
      | (with_reducible exact ih0 _ _ _ _ _ _)
      | (with_reducible exact ih1 _ _ _ _ _)
      | (with_reducible exact ih2 _ _ _ _ _ _)
      | (with_reducible exact ih3 _ _ _ _ _ _ _ _)
      | (with_reducible exact ih4 _ _ _ _)
      | (with_reducible exact LeO.refl _)
      | (with_reducible exact LeO.none _)
      | (with_reducible refine LeO.ite ?_ ?_)
      | (with_reducible refine LeO.bind ?_ (fun _ => ?_))
      | exact ih0 _ _ _ _ _ _
      | exact ih1 _ _ _ _ _
      | exact ih2 _ _ _ _ _ _
      | exact ih3 _ _ _ _ _ _ _ _
      | exact ih4 _ _ _ _
      | exact LeO.none _
      | refine LeO.ite ?_ ?_
      | refine LeO.bind ?_ (fun _ => ?_)
    · intro y0 y1 y2 y3 y4 y5 y6 y7
      unfold spec_l10Burn.l3
      repeat' first
      | (with_reducible exact ih0 _ _ _ _ _ _)
      | (with_reducible exact ih1 _ _ _ _ _)
      | (with_reducible exact ih2 _ _ _ _ _ _)
      | (with_reducible exact ih3 _ _ _ _ _ _ _ _)
      | (with_reducible exact ih4 _ _ _ _)
      | (with_reducible exact LeO.refl _)
      | (with_reducible exact LeO.none _)
      | (with_reducible refine LeO.ite ?_ ?_)
      | (with_reducible refine LeO.bind ?_ (fun _ => ?_))
      | exact ih0 _ _ _ _ _ _
      | exact ih1 _ _ _ _ _
      | exact ih2 _ _ _ _ _ _
      | exact ih3 _ _ _ _ _ _ _ _
      | exact ih4 _ _ _ _
      | exact LeO.none _
      | refine LeO.ite ?_ ?_
      | refine LeO.bind ?_ (fun _ => ?_)
    · intro y0 y1 y2 y3
      unfold spec_l10Burn.l4
      repeat' first
      | (with_reducible exact ih0 _ _ _ _ _ _)
      | (with_reducible exact ih1 _ _ _ _ _)
      | (with_reducible exact ih2 _ _ _ _ _ _)
      | (with_reducible exact ih3 _ _ _ _ _ _ _ _)
      | (with_reducible exact ih4 _ _ _ _)
      | (with_reducible exact LeO.refl _)
      | (with_reducible exact LeO.none _)
      | (with_reducible refine LeO.ite ?_ ?_)
      | (with_reducible refine LeO.bind ?_ (fun _ => ?_))
      | exact ih0 _ _ _ _ _ _
      | exact ih1 _ _ _ _ _
      | exact ih2 _ _ _ _ _ _
      | exact ih3 _ _ _ _ _ _ _ _
      | exact ih4 _ _ _ _
      | exact LeO.none _
      | refine LeO.ite ?_ ?_
      | refine LeO.bind ?_ (fun _ => ?_)
theorem spec_l10Burn.monoA : ∀ a0 a1 a2 k, LeO (spec_l10Burn.fA k a0 a1 a2) (spec_l10Burn.fA (k + 1) a0 a1 a2) := by
  intro a0 a1 a2 k
  obtain ⟨ih0, ih1, ih2, ih3, ih4⟩ := spec_l10Burn.mono_l k
  unfold spec_l10Burn.fA
  repeat' first
      | (with_reducible exact ih0 _ _ _ _ _ _)
      | (with_reducible exact ih1 _ _ _ _ _)
      | (with_reducible exact ih2 _ _ _ _ _ _)
      | (with_reducible exact ih3 _ _ _ _ _ _ _ _)
      | (with_reducible exact ih4 _ _ _ _)
      | (with_reducible exact LeO.refl _)
      | (with_reducible exact LeO.none _)
      | (with_reducible refine LeO.ite ?_ ?_)
      | (with_reducible refine LeO.bind ?_ (fun _ => ?_))
      | exact ih0 _ _ _ _ _ _
      | exact ih1 _ _ _ _ _
      | exact ih2 _ _ _ _ _ _
      | exact ih3 _ _ _ _ _ _ _ _
      | exact ih4 _ _ _ _
      | exact LeO.none _
      | refine LeO.ite ?_ ?_
      | refine LeO.bind ?_ (fun _ => ?_)
set_option maxHeartbeats 8000000 in
set_option maxRecDepth 100000 in
theorem spec_l10Burn.callsA (k : Nat) (A0 : Option Addr) (c0 : Nat) (l0 : List (List Int)) (A1 : Option Addr) (c1 : Nat) (l1 : List Int) (a2 : Int) (r1 : List Bool) (r2 : Bool) (W0 : World) (hr0 : Kd.C (Kd.slice 2 (Kd.int .i64)) W0 A0 l0.length l0) (hc0 : l0.length ≤ c0) (hr1 : Kd.C (Kd.int .i64) W0 A1 l1.length l1) (hc1 : l1.length ≤ c1) (h : spec_l10Burn.fA k l0 l1 a2 = some (r1, r2)) :
    Calls Try.prog 50 #[.slice A0 l0.length c0, .slice A1 l1.length c1, .int .i64 a2] W0 fun e w' => (e = .returned (.tuple #[.agg (r1.map Value.bool).toArray, .bool r2]) ∧ r1.length = 8) ∧ Below W0.heap.size W0 w' := by
  have HR0 := Aside0.mk hr0
  have HC0 := Aside0.mk hc0
  clear hr0 hc0
  have HR1 := Aside0.mk hr1
  have HC1 := Aside0.mk hc1
  clear hr1 hc1
  have H : (if 8 ≤ 281474976710656 then (spec_l10Burn.l0 k l0 l1 a2 (List.replicate 8 false) false 0) else (none)) = some (r1, r2) := h
  clear h
  by_cases c4 : 8 ≤ 281474976710656
  case neg => rw [if_neg c4] at H; exact absurd H (by simp)
  rw [if_pos c4] at H
  have c4b0 := eq_true c4
  have c4b1 : decide (8 ≤ 281474976710656) = true := decide_eq_true c4
  clear c4
  obtain ⟨y101, hy101⟩ : ∃ y_ : List Bool, y_ = (List.replicate 8 false) := ⟨_, rfl⟩
  replace H : (spec_l10Burn.l0 k l0 l1 a2 y101 false 0) = some (r1, r2) := by first | (rw [hy101]; with_reducible exact H) | (have H2_ := (Option.bind_some _ _).symm.trans H; rw [hy101]; with_reducible exact H2_) | (have H2_ := (Option.bind_some _ _).symm.trans H; with_reducible exact H2_) | with_reducible exact H | (rw [hy101]; exact H) | exact H
  have Ny101 := Aside0.mk hy101
  clear hy101
  have H' := Aside0.mk H
  clear H
  go_enter Try.func50, Try.ntmps50
  go_wp2
  have HW := Aside0.mk (below_alloc (Below.refl W0.heap.size W0) (.cells #[Value.bool false, .bool false, .bool false, .bool false, .bool false, .bool false, .bool false, .bool false] 71 (0, 0)))
  have BKR := Aside0.mk (heap_alloc_new W0 (.cells #[Value.bool false, .bool false, .bool false, .bool false, .bool false, .bool false, .bool false, .bool false] 71 (0, 0)))
  have GR := Aside0.mk (Nat.le_refl W0.heap.size)
  have hsz_ : (W0.alloc (.cells #[Value.bool false, .bool false, .bool false, .bool false, .bool false, .bool false, .bool false, .bool false] 71 (0, 0))).heap.size = W0.heap.size + 1 := by unfold World.alloc; exact Array.size_push _
  generalize hgr_ : W0.heap.size = gR at BKR hsz_ ⊢
  replace GR : Aside0 (W0.heap.size ≤ gR) := ⟨by omega⟩
  clear hgr_
  have n0_ := Aside0.mk (Kd.C_below HR0.out HW.out)
  have n1_ := Aside0.mk (Kd.C_below HR1.out HW.out)
  clear HR0 HR1
  have HR0 := n0_
  have HR1 := n1_
  clear n0_ n1_
  generalize W0.alloc (.cells #[Value.bool false, .bool false, .bool false, .bool false, .bool false, .bool false, .bool false, .bool false] 71 (0, 0)) = w at HR0 HR1 HW BKR hsz_ ⊢
  have HB := Aside0.mk (below_alloc (Below.refl w.heap.size w) (.cells #[Value.bool false, .bool false, .bool false, .bool false, .bool false, .bool false, .bool false, .bool false] 71 (0, 0)))
  have HO103 := Aside0.mk (arr_own (w := w) (t := 71) (List.replicate 8 false))
  rw [← Ny101.out] at HO103
  obtain ⟨gL, hgl_⟩ : ∃ g : Nat, g = gR + 1 := ⟨_, rfl⟩
  rw [← hgl_]
  obtain ⟨v102, hv_⟩ : ∃ v_ : Value, v_ = .slice (some ⟨gL, 0, none⟩) 8 8 := ⟨_, rfl⟩
  have HV := Aside0.mk hv_
  have n0_ : Aside0 (Kd.R Kd.bool 71 (w.alloc (.cells #[Value.bool false, .bool false, .bool false, .bool false, .bool false, .bool false, .bool false, .bool false] 71 (0, 0))) w.heap.size (fun _ => True) v102 y101) := ⟨by rw [hv_, hgl_, ← hsz_]; have h_ := HO103.out; rw [Ny101.out] at h_ ⊢; exact h_⟩
  clear HO103 hv_ hgl_ hsz_
  have HO103 := n0_
  clear n0_
  generalize w.alloc (.cells #[Value.bool false, .bool false, .bool false, .bool false, .bool false, .bool false, .bool false, .bool false] 71 (0, 0)) = ws at HO103 HB ⊢
  go_loopg [10] k (fun kq v10 w' => ∃ (x8_1 : List Bool) (x10_1 : Int), v10 = .int .i64 x10_1 ∧ Aside0 (spec_l10Burn.l0 kq l0 l1 a2 x8_1 false x10_1 = some (r1, r2)) ∧ Aside0 (kq ≤ k) ∧ Aside0 (Kd.R Kd.bool 71 w' w.heap.size (fun _ => True) v102 x8_1) ∧ Aside0 (Below w.heap.size w w'))
  case atStart => exact ⟨(y101), (0), rs, H', ⟨Nat.le_refl _⟩, ⟨by (with_reducible repeat (first | apply Kd.R_alloc | apply Kd.R_drewN | apply Kd.R_drew)); exact HO103.out⟩, ⟨bl⟩⟩
  case round =>
    clear H'
    (try clear c1); (try clear p2); (try clear c4); (try clear c4b0); (try clear c4b1)
    obtain ⟨x8_1, x10_1, rfl, HA, HK1, HO_8, HB⟩ := hrel
    have hLx8_1 := arr_len HV.out HO_8.out
    cases gk with
    | zero => exact absurd HA.out (by simp [spec_l10Burn.l0])
    | succ k1 =>
      have H := HA.out
      clear HA
      simp only [spec_l10Burn.l0] at H
      by_cases c7 : x10_1 < (l0.length : Int)
      case neg =>
        rw [if_neg c7] at H
        have c7b0 : decide (x10_1 < (l0.length : Int)) = false := decide_eq_false c7
        clear c7
        have H' := Aside0.mk H
        clear H
        go_wp2
        go_loopg [11] k1 (fun kq v11 w' => ∃ (x8_2 : List Bool) (x11_2 : Bool), v11 = .bool x11_2 ∧ Aside0 (spec_l10Burn.l1 kq l0 l1 x8_2 false x11_2 = some (r1, r2)) ∧ Aside0 (kq ≤ k1) ∧ Aside0 (Kd.R Kd.bool 71 w' w.heap.size (fun _ => True) v102 x8_2) ∧ Aside0 (Below w.heap.size w w'))
        case atStart => exact ⟨(x8_1), (true), rs, H', ⟨Nat.le_refl _⟩, ⟨by (with_reducible repeat (first | apply Kd.R_alloc | apply Kd.R_drewN | apply Kd.R_drew)); exact HO_8.out⟩, ⟨bl⟩⟩
        case round =>
          clear H'
          (try clear c1); (try clear p1); (try clear q1); (try clear hx1); (try clear p2); (try clear c4); (try clear c4b0); (try clear c4b1); (try clear p6); (try clear c7); (try clear c7b0); (try clear c8); (try clear c8b0); (try clear c9); (try clear c9b0); (try clear p10); (try clear q10); (try clear hx10); (try clear hf10); (try clear hx10_0); (try clear p10); (try clear p2); (try clear q10)
          obtain ⟨x8_2, x11_2, rfl, HA, HK2, HO_8, HB⟩ := hrel
          have hLx8_2 := arr_len HV.out HO_8.out
          cases gk with
          | zero => exact absurd HA.out (by simp [spec_l10Burn.l1])
          | succ k2 =>
            have H := HA.out
            clear HA
            simp only [spec_l10Burn.l1] at H
            by_cases c13 : x11_2 = true
            case neg =>
              replace c13 := Bool.eq_false_iff.mpr c13
              subst c13
              have H1 : (spec_l10Burn.l4 k2 l0 x8_2 false 0) = some (r1, r2) := by rw [if_neg (show ¬ (false = true) by decide)] at H; exact H
              clear H
              have H := H1
              clear H1
              have H' := Aside0.mk H
              clear H
              go_wp2
              go_loopg [9, 15] k2 (fun kq v9 v15 w' => ∃ (x9_3 : Bool) (x15_3 : Int), v9 = .bool x9_3 ∧ v15 = .int .i64 x15_3 ∧ Aside0 (spec_l10Burn.l4 kq l0 x8_2 x9_3 x15_3 = some (r1, r2)) ∧ Aside0 (kq ≤ k2) ∧ Aside0 (Kd.R Kd.bool 71 w' w.heap.size (fun _ => True) v102 x8_2) ∧ Aside0 (Below w.heap.size w w'))
              case atStart => exact ⟨(false), (0), rs, rs, H', ⟨Nat.le_refl _⟩, ⟨by (with_reducible repeat (first | apply Kd.R_alloc | apply Kd.R_drewN | apply Kd.R_drew)); exact HO_8.out⟩, ⟨bl⟩⟩
              case round =>
                clear H'
                (try clear c1); (try clear p1); (try clear q1); (try clear hx1); (try clear c2); (try clear p2); (try clear q2); (try clear c3); (try clear p3); (try clear q3); (try clear hx3); (try clear hf3); (try clear c4); (try clear c4b0); (try clear c4b1); (try clear p6); (try clear c7); (try clear c7b0); (try clear c8); (try clear c8b0); (try clear c9); (try clear c9b0); (try clear c10); (try clear p10); (try clear q10); (try clear hx10); (try clear hf10); (try clear c13); (try clear c14); (try clear c14b0); (try clear c15); (try clear c15b0); (try clear c16); (try clear c16b0); (try clear c16b1); (try clear c17); (try clear c17b0); (try clear c18); (try clear c18b0); (try clear q19); (try clear c20); (try clear c22); (try clear c22b0); (try clear c23); (try clear c23b0); (try clear c24); (try clear c24b0); (try clear c26); (try clear c26b0); (try clear c27); (try clear c27b0); (try clear q28); (try clear c29); (try clear c30); (try clear c30b0); (try clear c31); (try clear c31b0); (try clear p32); (try clear q32); (try clear hx32); (try clear hf32); (try clear hx105_0); (try clear hx106_0); (try clear hx107_0); (try clear hx108_0); (try clear hx109_0); (try clear hx10_0); (try clear hx32_0); (try clear p1); (try clear p10); (try clear p105); (try clear p106); (try clear p107); (try clear p108); (try clear p109); (try clear p2); (try clear p32); (try clear p6); (try clear q1); (try clear q10); (try clear q105); (try clear q106); (try clear q107); (try clear q108); (try clear q109); (try clear q32)
                obtain ⟨x9_3, x15_3, rfl, rfl, HA, HK3, HO_8, HB⟩ := hrel
                cases gk with
                | zero => exact absurd HA.out (by simp [spec_l10Burn.l4])
                | succ k3 =>
                  have H := HA.out
                  clear HA
                  simp only [spec_l10Burn.l4] at H
                  by_cases c38 : x15_3 < (l0.length : Int)
                  case neg =>
                    rw [if_neg c38] at H
                    have c38b0 : decide (x15_3 < (l0.length : Int)) = false := decide_eq_false c38
                    clear c38
                    simp only [Option.some.injEq, Prod.mk.injEq] at H
                    obtain ⟨rfl, rfl⟩ := H
                    have hl8_ := arr_len HV.out HO_8.out
                    obtain ⟨b0, b1, b2, b3, b4, b5, b6, b7, hb8_⟩ := eight8 _ hl8_
                    rw [hb8_] at HO_8
                    obtain ⟨hc8_0, hc8_1, hc8_2, hc8_3, hc8_4, hc8_5, hc8_6, hc8_7⟩ := arr_cells HV.out HO_8.out
                    have n0_ := Aside0.mk (blk_below BKR.out HB.out)
                    clear BKR
                    have BKR := n0_
                    clear n0_
                    have hst_ := run_store_run (P := Try.prog) (w := wr) (g := gR) (o := 0) 71 (.agg #[.bool b0, .bool b1, .bool b2, .bool b3, .bool b4, .bool b5, .bool b6, .bool b7]) [.bool b0, .bool b1, .bool b2, .bool b3, .bool b4, .bool b5, .bool b6, .bool b7] BKR.out rfl (by kernel_rfl) (by simp) (by simp [Value.oneCell'])
                    go_wp2_with ((with_reducible refine gate_store (t := 71) (p := 6) rfl ?_); refine store_event (t := 71) (p := 6) (v := ?vo_z) (w1 := wr.setCells gR 0 [.bool b0, .bool b1, .bool b2, .bool b3, .bool b4, .bool b5, .bool b6, .bool b7]) ?hg ?ho ?hn ?hr ?_; (case ho => rfl); (case hg => rfl); (case hn => rfl); (case hr => (unfold execOp; dsimp only; (show Sem.run Try.prog (do Instr.storeAt 71 (Value.pointer (some ⟨gR, 0, none⟩)) (.agg #[.bool b0, .bool b1, .bool b2, .bool b3, .bool b4, .bool b5, .bool b6, .bool b7]); pure Next.skip) wr = _); rw [Sem.run_bind, hst_]; rfl)); intro wz hw)
                    subst hw
                    obtain ⟨cur_, hc1_, hc2_, hc3_⟩ := setCells_row [.bool b0, .bool b1, .bool b2, .bool b3, .bool b4, .bool b5, .bool b6, .bool b7] 0 wr _ BKR.out (by simp)
                    have hc4_ : cur_ = #[.bool b0, .bool b1, .bool b2, .bool b3, .bool b4, .bool b5, .bool b6, .bool b7] := Array.toList_inj.1 (by rw [hc3_]; rfl)
                    rw [hc4_] at hc1_
                    have hbz_ : Below W0.heap.size W0 (wr.setCells gR 0 [.bool b0, .bool b1, .bool b2, .bool b3, .bool b4, .bool b5, .bool b6, .bool b7]) := by
                      simp only [World.setCells]
                      exact below_set (below_set (below_set (below_set (below_set (below_set (below_set (below_set (below_step HW.out HB.out) GR.out) GR.out) GR.out) GR.out) GR.out) GR.out) GR.out) GR.out
                    generalize wr.setCells gR 0 [.bool b0, .bool b1, .bool b2, .bool b3, .bool b4, .bool b5, .bool b6, .bool b7] = wz at hc1_ hbz_ ⊢
                    refine bodyPost_ret (results_ct rfl _ _ gR 71 #[.bool b0, .bool b1, .bool b2, .bool b3, .bool b4, .bool b5, .bool b6, .bool b7] (0, 0) _ rfl hc1_ Try.underlying71 rfl (by kernel_rfl)) rfl ?_
                    exact ⟨⟨by rw [hb8_]; rfl, hl8_⟩, hbz_⟩
                  rw [if_pos c38] at H
                  have c38b0 : decide (x15_3 < (l0.length : Int)) = true := decide_eq_true c38
                  clear c38
                  by_cases c39 : x9_3 = true
                  case neg =>
                    replace c39 := Bool.eq_false_iff.mpr c39
                    subst c39
                    have H1 : (if 0 ≤ x15_3 then (if x15_3 < (8 : Int) then (spec_l10Burn.l4 k3 l0 x8_2 (rdOf false x8_2 x15_3) (wrap64 (x15_3 + 1))) else (none)) else (none)) = some (r1, r2) := by rw [if_neg (show ¬ (false = true) by decide)] at H; exact H
                    clear H
                    have H := H1
                    clear H1
                    by_cases c40 : 0 ≤ x15_3
                    case neg => rw [if_neg c40] at H; exact absurd H (by simp)
                    rw [if_pos c40] at H
                    have c40b0 : decide (0 ≤ x15_3) = true := decide_eq_true c40
                    clear c40
                    by_cases c41 : x15_3 < (8 : Int)
                    case neg => rw [if_neg c41] at H; exact absurd H (by simp)
                    rw [if_pos c41] at H
                    have c41b0 : decide (x15_3 < (8 : Int)) = true := decide_eq_true c41
                    have c41P : (x15_3 < (8 : Int)) = True := eq_true c41
                    have c41L : decide (x15_3 < (x8_2.length : Int)) = true := decide_eq_true (by rw [hLx8_2]; exact c41)
                    clear c41
                    have H' := Aside0.mk H
                    clear H
                    have p111 : 0 ≤ (x15_3 : Int) := oD
                    have q111 : x15_3 < (x8_2.length : Int) := oD
                    have hx111_0 := arr_rd HV.out HO_8.out x15_3 p111 q111
                    replace p111 := eq_true p111
                    replace q111 := eq_true q111
                    go_wp2
                    go_roundg k3
                    case measure => have := HK1.out; have := HK2.out; have := HK3.out; omega
                    case rel => exact ⟨(rdOf false x8_2 x15_3), (wrap64 (x15_3 + 1)), rs, rs, H', ⟨by have := HK1.out; have := HK2.out; have := HK3.out; omega⟩, ⟨by (with_reducible repeat (first | apply Kd.R_alloc | apply Kd.R_drewN | apply Kd.R_drew)); exact HO_8.out⟩, ⟨bl⟩⟩
                  subst c39
                  have H1 : (spec_l10Burn.l4 k3 l0 x8_2 true (wrap64 (x15_3 + 1))) = some (r1, r2) := by rw [if_pos rfl] at H; exact H
                  clear H
                  have H := H1
                  clear H1
                  have H' := Aside0.mk H
                  clear H
                  go_wp2
                  go_roundg k3
                  case measure => have := HK1.out; have := HK2.out; have := HK3.out; omega
                  case rel => exact ⟨(true), (wrap64 (x15_3 + 1)), rs, rs, H', ⟨by have := HK1.out; have := HK2.out; have := HK3.out; omega⟩, ⟨by (with_reducible repeat (first | apply Kd.R_alloc | apply Kd.R_drewN | apply Kd.R_drew)); exact HO_8.out⟩, ⟨bl⟩⟩
            subst c13
            have H1 : (spec_l10Burn.l2 k2 l0 l1 x8_2 false false 0) = some (r1, r2) := by rw [if_pos rfl] at H; exact H
            clear H
            have H := H1
            clear H1
            have H' := Aside0.mk H
            clear H
            go_wp2
            go_loopg [11, 12] k2 (fun kq v11 v12 w' => ∃ (x8_3 : List Bool) (x11_3 : Bool) (x12_3 : Int), v11 = .bool x11_3 ∧ v12 = .int .i64 x12_3 ∧ Aside0 (spec_l10Burn.l2 kq l0 l1 x8_3 false x11_3 x12_3 = some (r1, r2)) ∧ Aside0 (kq ≤ k2) ∧ Aside0 (Kd.R Kd.bool 71 w' w.heap.size (fun _ => True) v102 x8_3) ∧ Aside0 (Below w.heap.size w w'))
            case atStart => exact ⟨(x8_2), (false), (0), rs, rs, H', ⟨Nat.le_refl _⟩, ⟨by (with_reducible repeat (first | apply Kd.R_alloc | apply Kd.R_drewN | apply Kd.R_drew)); exact HO_8.out⟩, ⟨bl⟩⟩
            case round =>
              clear H'
              (try clear c1); (try clear p1); (try clear q1); (try clear hx1); (try clear p2); (try clear c4); (try clear c4b0); (try clear c4b1); (try clear p6); (try clear c7); (try clear c7b0); (try clear c8); (try clear c8b0); (try clear c9); (try clear c9b0); (try clear p10); (try clear q10); (try clear hx10); (try clear hf10); (try clear c13); (try clear hx10_0); (try clear p1); (try clear p10); (try clear p2); (try clear p6); (try clear q1); (try clear q10)
              obtain ⟨x8_3, x11_3, x12_3, rfl, rfl, HA, HK3, HO_8, HB⟩ := hrel
              have hLx8_3 := arr_len HV.out HO_8.out
              cases gk with
              | zero => exact absurd HA.out (by simp [spec_l10Burn.l2])
              | succ k3 =>
                have H := HA.out
                clear HA
                simp only [spec_l10Burn.l2] at H
                by_cases c14 : x12_3 < (l0.length : Int)
                case neg =>
                  rw [if_neg c14] at H
                  have c14b0 : decide (x12_3 < (l0.length : Int)) = false := decide_eq_false c14
                  clear c14
                  have H' := Aside0.mk H
                  clear H
                  go_wp2
                  go_roundg k3
                  case measure => have := HK1.out; have := HK2.out; have := HK3.out; omega
                  case rel => exact ⟨(x8_3), (x11_3), rs, H', ⟨by have := HK1.out; have := HK2.out; have := HK3.out; omega⟩, ⟨by (with_reducible repeat (first | apply Kd.R_alloc | apply Kd.R_drewN | apply Kd.R_drew)); exact HO_8.out⟩, ⟨bl⟩⟩
                rw [if_pos c14] at H
                have c14b0 : decide (x12_3 < (l0.length : Int)) = true := decide_eq_true c14
                clear c14
                have H' := Aside0.mk H
                clear H
                go_wp2
                go_loopg [13, 14] k3 (fun kq v13 v14 w' => ∃ (x13_4 : Int) (x14_4 : Int), v13 = .int .i64 x13_4 ∧ v14 = .int .i64 x14_4 ∧ Aside0 (spec_l10Burn.l3 kq l0 l1 x8_3 false x11_3 x12_3 x13_4 x14_4 = some (r1, r2)) ∧ Aside0 (kq ≤ k3) ∧ Aside0 (Kd.R Kd.bool 71 w' w.heap.size (fun _ => True) v102 x8_3) ∧ Aside0 (Below w.heap.size w w'))
                case atStart => exact ⟨(0), (0), rs, rs, H', ⟨Nat.le_refl _⟩, ⟨by (with_reducible repeat (first | apply Kd.R_alloc | apply Kd.R_drewN | apply Kd.R_drew)); exact HO_8.out⟩, ⟨bl⟩⟩
                case round =>
                  clear H'
                  (try clear c1); (try clear p1); (try clear q1); (try clear hx1); (try clear p2); (try clear c4); (try clear c4b0); (try clear c4b1); (try clear p6); (try clear c7); (try clear c7b0); (try clear c8); (try clear c8b0); (try clear c9); (try clear c9b0); (try clear p10); (try clear q10); (try clear hx10); (try clear hf10); (try clear c13); (try clear c14); (try clear c14b0); (try clear hx10_0); (try clear p1); (try clear p10); (try clear p2); (try clear p6); (try clear q1); (try clear q10)
                  obtain ⟨x13_4, x14_4, rfl, rfl, HA, HK4, HO_8, HB⟩ := hrel
                  cases gk with
                  | zero => exact absurd HA.out (by simp [spec_l10Burn.l3])
                  | succ k4 =>
                    have H := HA.out
                    clear HA
                    simp only [spec_l10Burn.l3] at H
                    by_cases c15 : x14_4 < (l0.length : Int)
                    case neg =>
                      rw [if_neg c15] at H
                      have c15b0 : decide (x14_4 < (l0.length : Int)) = false := decide_eq_false c15
                      clear c15
                      by_cases c26 : 0 ≤ x12_3
                      case neg => rw [if_neg c26] at H; exact absurd H (by simp)
                      rw [if_pos c26] at H
                      have c26b0 : decide (0 ≤ x12_3) = true := decide_eq_true c26
                      clear c26
                      by_cases c27 : x12_3 < (8 : Int)
                      case neg => rw [if_neg c27] at H; exact absurd H (by simp)
                      rw [if_pos c27] at H
                      have c27b0 : decide (x12_3 < (8 : Int)) = true := decide_eq_true c27
                      have c27P : (x12_3 < (8 : Int)) = True := eq_true c27
                      have c27L : decide (x12_3 < (x8_3.length : Int)) = true := decide_eq_true (by rw [hLx8_3]; exact c27)
                      clear c27
                      obtain ⟨bq28, hbq28⟩ : ∃ b_ : Bool, b_ = (rdOf false x8_3 x12_3) := ⟨_, rfl⟩
                      replace H : (if bq28 = true then (if x12_3 < (l1.length : Int) then (if x13_4 > (rd l1 x12_3) then (spec_l10Burn.l2 k4 l0 l1 (x8_3.set (x12_3 : Int).toNat false) false true (wrap64 (x12_3 + 1))) else (spec_l10Burn.l2 k4 l0 l1 x8_3 false x11_3 (wrap64 (x12_3 + 1)))) else (none)) else (spec_l10Burn.l2 k4 l0 l1 x8_3 false x11_3 (wrap64 (x12_3 + 1)))) = some (r1, r2) := by rw [← hbq28] at H; exact H
                      have Nbq28 := Aside0.mk hbq28
                      clear hbq28
                      by_cases c29 : bq28 = true
                      case neg =>
                        replace c29 := Bool.eq_false_iff.mpr c29
                        subst c29
                        have H1 : (spec_l10Burn.l2 k4 l0 l1 x8_3 false x11_3 (wrap64 (x12_3 + 1))) = some (r1, r2) := by rw [if_neg (show ¬ (false = true) by decide)] at H; exact H
                        clear H
                        have H := H1
                        clear H1
                        have H' := Aside0.mk H
                        clear H
                        have p108 : 0 ≤ (x12_3 : Int) := oD
                        have q108 : x12_3 < (x8_3.length : Int) := oD
                        have hx108_0 := arr_rd HV.out HO_8.out x12_3 p108 q108
                        (try rw [← Nbq28.out] at hx108_0)
                        replace p108 := eq_true p108
                        replace q108 := eq_true q108
                        go_wp2
                        go_roundg k4
                        case measure => have := HK1.out; have := HK2.out; have := HK3.out; have := HK4.out; omega
                        case rel => exact ⟨(x8_3), (x11_3), (wrap64 (x12_3 + 1)), rs, rs, H', ⟨by have := HK1.out; have := HK2.out; have := HK3.out; have := HK4.out; omega⟩, ⟨by (with_reducible repeat (first | apply Kd.R_alloc | apply Kd.R_drewN | apply Kd.R_drew)); exact HO_8.out⟩, ⟨bl⟩⟩
                      subst c29
                      have H1 : (if x12_3 < (l1.length : Int) then (if x13_4 > (rd l1 x12_3) then (spec_l10Burn.l2 k4 l0 l1 (x8_3.set (x12_3 : Int).toNat false) false true (wrap64 (x12_3 + 1))) else (spec_l10Burn.l2 k4 l0 l1 x8_3 false x11_3 (wrap64 (x12_3 + 1)))) else (none)) = some (r1, r2) := by rw [if_pos rfl] at H; exact H
                      clear H
                      have H := H1
                      clear H1
                      by_cases c30 : x12_3 < (l1.length : Int)
                      case neg => rw [if_neg c30] at H; exact absurd H (by simp)
                      rw [if_pos c30] at H
                      have c30b0 : decide (x12_3 < (l1.length : Int)) = true := decide_eq_true c30
                      clear c30
                      by_cases c31 : x13_4 > (rd l1 x12_3)
                      case neg =>
                        rw [if_neg c31] at H
                        have c31b0 : decide ((rd l1 x12_3) < x13_4) = false := decide_eq_false c31
                        clear c31
                        have H' := Aside0.mk H
                        clear H
                        have p108 : 0 ≤ (x12_3 : Int) := oD
                        have q108 : x12_3 < (x8_3.length : Int) := oD
                        have hx108_0 := arr_rd HV.out HO_8.out x12_3 p108 q108
                        (try rw [← Nbq28.out] at hx108_0)
                        replace p108 := eq_true p108
                        replace q108 := eq_true q108
                        have p109 : 0 ≤ (x12_3 : Int) := oD
                        have q109 : x12_3 < (l1.length : Int) := oD
                        obtain ⟨ad109, e109, hx109_0⟩ := Kd.at_int HR1.out x12_3 p109 q109
                        cases e109
                        replace hx109_0 := hbc HB hx109_0
                        replace p109 := eq_true p109
                        replace q109 := eq_true q109
                        go_wp2
                        go_roundg k4
                        case measure => have := HK1.out; have := HK2.out; have := HK3.out; have := HK4.out; omega
                        case rel => exact ⟨(x8_3), (x11_3), (wrap64 (x12_3 + 1)), rs, rs, H', ⟨by have := HK1.out; have := HK2.out; have := HK3.out; have := HK4.out; omega⟩, ⟨by (with_reducible repeat (first | apply Kd.R_alloc | apply Kd.R_drewN | apply Kd.R_drew)); exact HO_8.out⟩, ⟨bl⟩⟩
                      rw [if_pos c31] at H
                      have c31b0 : decide ((rd l1 x12_3) < x13_4) = true := decide_eq_true c31
                      clear c31
                      obtain ⟨y110, hy110⟩ : ∃ y_ : List Bool, y_ = (x8_3.set (x12_3 : Int).toNat false) := ⟨_, rfl⟩
                      replace H : (spec_l10Burn.l2 k4 l0 l1 y110 false true (wrap64 (x12_3 + 1))) = some (r1, r2) := by first | (rw [hy110]; with_reducible exact H) | (have H2_ := (Option.bind_some _ _).symm.trans H; rw [hy110]; with_reducible exact H2_) | (have H2_ := (Option.bind_some _ _).symm.trans H; with_reducible exact H2_) | with_reducible exact H | (rw [hy110]; exact H) | exact H
                      have Ny110 := Aside0.mk hy110
                      clear hy110
                      have H' := Aside0.mk H
                      clear H
                      have p108 : 0 ≤ (x12_3 : Int) := oD
                      have q108 : x12_3 < (x8_3.length : Int) := oD
                      have hx108_0 := arr_rd HV.out HO_8.out x12_3 p108 q108
                      (try rw [← Nbq28.out] at hx108_0)
                      replace p108 := eq_true p108
                      replace q108 := eq_true q108
                      have p109 : 0 ≤ (x12_3 : Int) := oD
                      have q109 : x12_3 < (l1.length : Int) := oD
                      obtain ⟨ad109, e109, hx109_0⟩ := Kd.at_int HR1.out x12_3 p109 q109
                      cases e109
                      replace hx109_0 := hbc HB hx109_0
                      replace p109 := eq_true p109
                      replace q109 := eq_true q109
                      have p32 : 0 ≤ (x12_3 : Int) := oD
                      have q32 : (x12_3 : Int) < ((x8_3.length : Int) : Int) := oD
                      obtain ⟨go32, co32, eo32, gb32, gl32, cl32, HG32⟩ := Kd.R_form HO_8.out (by rw [hLx8_3]; decide)
                      have hgl_ : go32 = gL := by have h_ := eo32.symm.trans HV.out; injection h_ with h1_ _ _; injection h1_ with h1_; injection h1_
                      subst hgl_
                      (first | cases eo32 | (injection eo32 with ea_ en_ ec_; (first | subst ea_ | (injection ea_ with ea_; subst ea_)); subst ec_; clear en_))
                      have GB32 := Aside0.mk gb32
                      have GG32 := Aside0.mk HG32
                      clear gb32 gl32 HG32
                      (first | simp only [add_plain] at hx108_0 | skip)
                      obtain ⟨hx32_0, hf32_0⟩ := Kd.R_celln false HO_8.out (x12_3 : Int) p32 q32
                      replace p32 := eq_true p32
                      replace q32 := eq_true q32
                      have HP34 := Kd.R_putg HO_8.out (x12_3 : Int) false
                      go_wp2_with (first | ((with_reducible refine gate_store (t := 4) (p := 71) rfl ?_); refine store_event (t := 4) (p := 71) (v := ?vo_w35) (w1 := (wr.setCell ⟨go32, (x12_3 : Int).toNat, none⟩ (.bool false))) ?hg ?ho ?hn ?hr ?_; (case ho => rfl); (case hg => rfl); (case hn => rfl); (case hr => first | (go_simp; done) | (go_simp; rfl)); intro w35 hw; have hg : wr.grownBy w35 (some go32) := (by rw [hw]; exact HP34.2); have hp_ : Kd.R Kd.bool 71 w35 w.heap.size (fun _ => True) (.slice (some ⟨go32, 0, none⟩) x8_3.length co32) y110 := (by rw [hw, Ny110.out]; exact HP34.1); clear HP34; have n0_ := Aside0.mk (hp_); have n1_ := Aside0.mk ((by rw [hw]; exact below_set (HB.out) GB32.out : Below w.heap.size w w35)); clear HO_8; clear HB; have HO_8 := n0_; have HB := n1_; clear n0_ n1_; clear hg hw hp_))
                      go_roundg k4
                      case measure => have := HK1.out; have := HK2.out; have := HK3.out; have := HK4.out; omega
                      case rel => exact ⟨(y110), (true), (wrap64 (x12_3 + 1)), rs, rs, H', ⟨by have := HK1.out; have := HK2.out; have := HK3.out; have := HK4.out; omega⟩, ⟨by (with_reducible repeat (first | apply Kd.R_alloc | apply Kd.R_drewN | apply Kd.R_drew)); exact HO_8.out⟩, ⟨bl⟩⟩
                    rw [if_pos c15] at H
                    have c15b0 : decide (x14_4 < (l0.length : Int)) = true := decide_eq_true c15
                    clear c15
                    by_cases c16 : x12_3 = x14_4
                    case neg =>
                      rw [if_neg c16] at H
                      have c16b0 : (x12_3 == x14_4) = false := beq_eq_false_iff_ne.mpr c16
                      have c16b1 : (x12_3 != x14_4) = true := bne_iff_ne.mpr c16
                      by_cases c17 : 0 ≤ x14_4
                      case neg => rw [if_neg c17] at H; exact absurd H (by simp)
                      rw [if_pos c17] at H
                      have c17b0 : decide (0 ≤ x14_4) = true := decide_eq_true c17
                      clear c17
                      by_cases c18 : x14_4 < (8 : Int)
                      case neg => rw [if_neg c18] at H; exact absurd H (by simp)
                      rw [if_pos c18] at H
                      have c18b0 : decide (x14_4 < (8 : Int)) = true := decide_eq_true c18
                      have c18P : (x14_4 < (8 : Int)) = True := eq_true c18
                      have c18L : decide (x14_4 < (x8_3.length : Int)) = true := decide_eq_true (by rw [hLx8_3]; exact c18)
                      clear c18
                      obtain ⟨bq19, hbq19⟩ : ∃ b_ : Bool, b_ = (rdOf false x8_3 x14_4) := ⟨_, rfl⟩
                      replace H : (if bq19 = true then (spec_l10Burn.l3 k4 l0 l1 x8_3 false x11_3 x12_3 x13_4 (wrap64 (x14_4 + 1))) else (if 0 ≤ x12_3 then (if x12_3 < (l0.length : Int) then (if x14_4 < ((rd_L1 l0 x12_3).length : Int) then (spec_l10Burn.l3 k4 l0 l1 x8_3 false x11_3 x12_3 (wrap64 (x13_4 - (rd (rd_L1 l0 x12_3) x14_4))) (wrap64 (x14_4 + 1))) else (none)) else (none)) else (none))) = some (r1, r2) := by rw [← hbq19] at H; exact H
                      have Nbq19 := Aside0.mk hbq19
                      clear hbq19
                      by_cases c20 : bq19 = true
                      case neg =>
                        replace c20 := Bool.eq_false_iff.mpr c20
                        subst c20
                        have H1 : (if 0 ≤ x12_3 then (if x12_3 < (l0.length : Int) then (if x14_4 < ((rd_L1 l0 x12_3).length : Int) then (spec_l10Burn.l3 k4 l0 l1 x8_3 false x11_3 x12_3 (wrap64 (x13_4 - (rd (rd_L1 l0 x12_3) x14_4))) (wrap64 (x14_4 + 1))) else (none)) else (none)) else (none)) = some (r1, r2) := by rw [if_neg (show ¬ (false = true) by decide)] at H; exact H
                        clear H
                        have H := H1
                        clear H1
                        by_cases c22 : 0 ≤ x12_3
                        case neg => rw [if_neg c22] at H; exact absurd H (by simp)
                        rw [if_pos c22] at H
                        have c22b0 : decide (0 ≤ x12_3) = true := decide_eq_true c22
                        clear c22
                        by_cases c23 : x12_3 < (l0.length : Int)
                        case neg => rw [if_neg c23] at H; exact absurd H (by simp)
                        rw [if_pos c23] at H
                        have c23b0 : decide (x12_3 < (l0.length : Int)) = true := decide_eq_true c23
                        clear c23
                        by_cases c24 : x14_4 < ((rd_L1 l0 x12_3).length : Int)
                        case neg => rw [if_neg c24] at H; exact absurd H (by simp)
                        rw [if_pos c24] at H
                        have c24b0 : decide (x14_4 < ((rd_L1 l0 x12_3).length : Int)) = true := decide_eq_true c24
                        clear c24
                        have H' := Aside0.mk H
                        clear H
                        have p105 : 0 ≤ (x14_4 : Int) := oD
                        have q105 : x14_4 < (x8_3.length : Int) := oD
                        have hx105_0 := arr_rd HV.out HO_8.out x14_4 p105 q105
                        (try rw [← Nbq19.out] at hx105_0)
                        replace p105 := eq_true p105
                        replace q105 := eq_true q105
                        have p106 : 0 ≤ (x12_3 : Int) := oD
                        have q106 : x12_3 < (l0.length : Int) := oD
                        obtain ⟨ad106, A106_0, c106_0, e106, hx106_0, hl106_0, hi106_0⟩ := at_L1 HR0.out x12_3 p106 q106
                        cases e106
                        replace hx106_0 := hbc HB hx106_0
                        have HR106_0 := Aside0.mk hi106_0
                        have HC106_0 := Aside0.mk hl106_0
                        clear hi106_0 hl106_0
                        replace p106 := eq_true p106
                        replace q106 := eq_true q106
                        have p107 : 0 ≤ (x14_4 : Int) := oD
                        have q107 : x14_4 < ((rd_L1 l0 x12_3).length : Int) := oD
                        obtain ⟨ad107, e107, hx107_0⟩ := Kd.at_int HR106_0.out x14_4 p107 q107
                        cases e107
                        replace hx107_0 := hbc HB hx107_0
                        replace p107 := eq_true p107
                        replace q107 := eq_true q107
                        go_wp2
                        go_roundg k4
                        case measure => have := HK1.out; have := HK2.out; have := HK3.out; have := HK4.out; omega
                        case rel => exact ⟨(wrap64 (x13_4 - (rd (rd_L1 l0 x12_3) x14_4))), (wrap64 (x14_4 + 1)), rs, rs, H', ⟨by have := HK1.out; have := HK2.out; have := HK3.out; have := HK4.out; omega⟩, ⟨by (with_reducible repeat (first | apply Kd.R_alloc | apply Kd.R_drewN | apply Kd.R_drew)); exact HO_8.out⟩, ⟨bl⟩⟩
                      subst c20
                      have H1 : (spec_l10Burn.l3 k4 l0 l1 x8_3 false x11_3 x12_3 x13_4 (wrap64 (x14_4 + 1))) = some (r1, r2) := by rw [if_pos rfl] at H; exact H
                      clear H
                      have H := H1
                      clear H1
                      have H' := Aside0.mk H
                      clear H
                      have p105 : 0 ≤ (x14_4 : Int) := oD
                      have q105 : x14_4 < (x8_3.length : Int) := oD
                      have hx105_0 := arr_rd HV.out HO_8.out x14_4 p105 q105
                      (try rw [← Nbq19.out] at hx105_0)
                      replace p105 := eq_true p105
                      replace q105 := eq_true q105
                      go_wp2
                      go_roundg k4
                      case measure => have := HK1.out; have := HK2.out; have := HK3.out; have := HK4.out; omega
                      case rel => exact ⟨(x13_4), (wrap64 (x14_4 + 1)), rs, rs, H', ⟨by have := HK1.out; have := HK2.out; have := HK3.out; have := HK4.out; omega⟩, ⟨by (with_reducible repeat (first | apply Kd.R_alloc | apply Kd.R_drewN | apply Kd.R_drew)); exact HO_8.out⟩, ⟨bl⟩⟩
                    rw [if_pos c16] at H
                    have c16b0 : (x12_3 == x14_4) = true := beq_iff_eq.mpr c16
                    have c16b1 : (x12_3 != x14_4) = false := bne_eq_false_iff_eq.mpr c16
                    clear c16
                    have H' := Aside0.mk H
                    clear H
                    go_wp2
                    go_roundg k4
                    case measure => have := HK1.out; have := HK2.out; have := HK3.out; have := HK4.out; omega
                    case rel => exact ⟨(x13_4), (wrap64 (x14_4 + 1)), rs, rs, H', ⟨by have := HK1.out; have := HK2.out; have := HK3.out; have := HK4.out; omega⟩, ⟨by (with_reducible repeat (first | apply Kd.R_alloc | apply Kd.R_drewN | apply Kd.R_drew)); exact HO_8.out⟩, ⟨bl⟩⟩
      rw [if_pos c7] at H
      have c7b0 : decide (x10_1 < (l0.length : Int)) = true := decide_eq_true c7
      clear c7
      by_cases c8 : 0 ≤ x10_1
      case neg => rw [if_neg c8] at H; exact absurd H (by simp)
      rw [if_pos c8] at H
      have c8b0 : decide (0 ≤ x10_1) = true := decide_eq_true c8
      clear c8
      by_cases c9 : x10_1 < (8 : Int)
      case neg => rw [if_neg c9] at H; exact absurd H (by simp)
      rw [if_pos c9] at H
      have c9b0 : decide (x10_1 < (8 : Int)) = true := decide_eq_true c9
      have c9P : (x10_1 < (8 : Int)) = True := eq_true c9
      have c9L : decide (x10_1 < (x8_1.length : Int)) = true := decide_eq_true (by rw [hLx8_1]; exact c9)
      clear c9
      obtain ⟨y104, hy104⟩ : ∃ y_ : List Bool, y_ = (x8_1.set (x10_1 : Int).toNat (x10_1 != a2)) := ⟨_, rfl⟩
      replace H : (spec_l10Burn.l0 k1 l0 l1 a2 y104 false (wrap64 (x10_1 + 1))) = some (r1, r2) := by first | (rw [hy104]; with_reducible exact H) | (have H2_ := (Option.bind_some _ _).symm.trans H; rw [hy104]; with_reducible exact H2_) | (have H2_ := (Option.bind_some _ _).symm.trans H; with_reducible exact H2_) | with_reducible exact H | (rw [hy104]; exact H) | exact H
      have Ny104 := Aside0.mk hy104
      clear hy104
      have H' := Aside0.mk H
      clear H
      have p10 : 0 ≤ (x10_1 : Int) := oD
      have q10 : (x10_1 : Int) < ((x8_1.length : Int) : Int) := oD
      obtain ⟨go10, co10, eo10, gb10, gl10, cl10, HG10⟩ := Kd.R_form HO_8.out (by rw [hLx8_1]; decide)
      have hgl_ : go10 = gL := by have h_ := eo10.symm.trans HV.out; injection h_ with h1_ _ _; injection h1_ with h1_; injection h1_
      subst hgl_
      (first | cases eo10 | (injection eo10 with ea_ en_ ec_; (first | subst ea_ | (injection ea_ with ea_; subst ea_)); subst ec_; clear en_))
      have GB10 := Aside0.mk gb10
      have GG10 := Aside0.mk HG10
      clear gb10 gl10 HG10
      obtain ⟨hx10_0, hf10_0⟩ := Kd.R_celln false HO_8.out (x10_1 : Int) p10 q10
      replace p10 := eq_true p10
      replace q10 := eq_true q10
      have HP11 := Kd.R_putg HO_8.out (x10_1 : Int) (x10_1 != a2)
      go_wp2_with (first | ((with_reducible refine gate_store (t := 4) (p := 27) rfl ?_); refine store_event (t := 4) (p := 27) (v := ?vo_w12) (w1 := (wr.setCell ⟨go10, (x10_1 : Int).toNat, none⟩ (.bool (x10_1 != a2)))) ?hg ?ho ?hn ?hr ?_; (case ho => rfl); (case hg => rfl); (case hn => rfl); (case hr => first | (go_simp; done) | (go_simp; rfl)); intro w12 hw; have hg : wr.grownBy w12 (some go10) := (by rw [hw]; exact HP11.2); have hp_ : Kd.R Kd.bool 71 w12 w.heap.size (fun _ => True) (.slice (some ⟨go10, 0, none⟩) x8_1.length co10) y104 := (by rw [hw, Ny104.out]; exact HP11.1); clear HP11; have n0_ := Aside0.mk (hp_); have n1_ := Aside0.mk ((by rw [hw]; exact below_set (HB.out) GB10.out : Below w.heap.size w w12)); clear HO_8; clear HB; have HO_8 := n0_; have HB := n1_; clear n0_ n1_; clear hg hw hp_))
      go_roundg k1
      case measure => have := HK1.out; omega
      case rel => exact ⟨(y104), (wrap64 (x10_1 + 1)), rs, H', ⟨by have := HK1.out; omega⟩, ⟨by (with_reducible repeat (first | apply Kd.R_alloc | apply Kd.R_drewN | apply Kd.R_drew)); exact HO_8.out⟩, ⟨bl⟩⟩
def spec_l10Burn.f (k : Nat) (l0 : List (List Int)) (l1 : List Int) (a2 : Int) : Option Bool := (spec_l10Burn.fA k l0 l1 a2).map Prod.snd
theorem spec_l10Burn.mono : ∀ a0 a1 a2 k, LeO (spec_l10Burn.f k a0 a1 a2) (spec_l10Burn.f (k + 1) a0 a1 a2) := by
  intro a0 a1 a2 k r h
  unfold spec_l10Burn.f at h ⊢
  obtain ⟨x, hx, rfl⟩ := Option.map_eq_some_iff.1 h
  rw [spec_l10Burn.monoA _ _ _ _ _ hx]; rfl
set_option maxHeartbeats 8000000 in
set_option maxRecDepth 100000 in
theorem spec_l10Burn.calls (k : Nat) (A0 : Option Addr) (c0 : Nat) (l0 : List (List Int)) (A1 : Option Addr) (c1 : Nat) (l1 : List Int) (a2 : Int) (r : Bool) (w : World) (hr0 : Kd.C (Kd.slice 2 (Kd.int .i64)) w A0 l0.length l0) (hc0 : l0.length ≤ c0) (hr1 : Kd.C (Kd.int .i64) w A1 l1.length l1) (hc1 : l1.length ≤ c1) (h : spec_l10Burn.f k l0 l1 a2 = some r) :
    Calls Try.prog 50 #[.slice A0 l0.length c0, .slice A1 l1.length c1, .int .i64 a2] w fun e w' => (∃ b0 b1 b2 b3 b4 b5 b6 b7 : Bool, e = .returned (.tuple #[.agg #[.bool b0, .bool b1, .bool b2, .bool b3, .bool b4, .bool b5, .bool b6, .bool b7], .bool r])) ∧ Below w.heap.size w w' := by
  unfold spec_l10Burn.f at h
  obtain ⟨⟨xs, b⟩, hx, rfl⟩ := Option.map_eq_some_iff.1 h
  exact (spec_l10Burn.callsA k A0 c0 l0 A1 c1 l1 a2 xs b w hr0 hc0 hr1 hc1 hx).mono fun e w' ⟨⟨he, h8⟩, hb⟩ => by
    obtain ⟨b0, b1, b2, b3, b4, b5, b6, b7, e8⟩ := eight8 xs h8
    exact ⟨⟨b0, b1, b2, b3, b4, b5, b6, b7, by rw [he, e8]; rfl⟩, hb⟩

end Go.Proofs.Ytbfmnhgpmpnglaa.C
