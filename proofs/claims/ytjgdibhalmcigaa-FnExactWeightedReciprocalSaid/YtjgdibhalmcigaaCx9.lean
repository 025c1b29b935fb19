/- The functions that one law reaches, each as a Lean function, and that Go's call comes to what it says. Condition of each: that the Lean function answers (is not none). -/
import Derived.Test.YtjgdibhalmcigaaCx0
import Derived.Test.YtjgdibhalmcigaaCx5
import Derived.Test.YtjgdibhalmcigaaCx7
import Derived.Test.YtjgdibhalmcigaaCx8
namespace Go.Proofs.Ytjgdibhalmcigaa.C
open Go.RowKit Go.Proofs.YtjgdibhalmcigaaW.PrintWords Go.Proofs.YtjgdibhalmcigaaW.PrintLast Go.Proofs.YtjgdibhalmcigaaW.PrintMore
attribute [local go_sem] max2_int min2_int max_two min_two max_three min_three max_four min_four   -- for this text's walks alone
set_option linter.unusedVariables false
set_option linter.unusedSimpArgs false

/-! ### impl_determinantModulo: function 47 -/
mutual
def impl_determinantModulo.l0 : Nat → Int → List (List Int) → List (List Int) → Int → Int → Option (List Int)
  | 0, _, _, _, _, _ => none
  | k + 1, x1, x5, x6, x22, x23 => if x23 < x22 then (if 0 ≤ x23 then (if x23 < (x6.length : Int) then ((slices_Clone_int64_int64.f (rd_L1 x6 x23)).bind fun t115 => (if t115.length < 17592186044416 then (impl_determinantModulo.l1 k x1 x5 x6 x23 (t115 ++ [0]) x22 x23 ((rd_L1 x6 x23).length : Int) 0) else (none))) else (none)) else (none)) else (if 0 ≤ (x5.length : Int) then (if (x5.length : Int) < (x6.length : Int) then ((impl_trimmed.f k (rd_L1 x6 (x5.length : Int))).bind fun t111 => (some t111)) else (none)) else (none))
def impl_determinantModulo.l1 : Nat → Int → List (List Int) → List (List Int) → Int → List Int → Int → Int → Int → Int → Option (List Int)
  | 0, _, _, _, _, _, _, _, _, _ => none
  | k + 1, x1, x5, x6, x7, x8, x22, x23, x37, x38 => if x38 < x37 then (if 0 ≤ x38 then (if x38 < ((rd_L1 x6 x7).length : Int) then (if 0 ≤ (wrap64 (x38 + 1)) then (if (wrap64 (x38 + 1)) < (x8.length : Int) then (if 0 ≤ x7 then (if x7 < (x5.length : Int) then (if x7 < ((rd_L1 x5 x7).length : Int) then ((impl_modulo.f (wrap64 ((rd x8 (wrap64 (x38 + 1))) - (wrap64 ((rd (rd_L1 x5 x7) x7) * (rd (rd_L1 x6 x7) x38))))) x1).bind fun t127 => (impl_determinantModulo.l1 k x1 x5 x6 x7 (x8.set ((wrap64 (x38 + 1)) : Int).toNat t127) x22 x23 x37 (wrap64 (x38 + 1)))) else (none)) else (none)) else (none)) else (none)) else (none)) else (none)) else (none)) else (impl_determinantModulo.l2 k x1 x5 x6 x7 x8 1 (wrap64 (x7 - 1)) x22 x23)
def impl_determinantModulo.l2 : Nat → Int → List (List Int) → List (List Int) → Int → List Int → Int → Int → Int → Int → Option (List Int)
  | 0, _, _, _, _, _, _, _, _, _ => none
  | k + 1, x1, x5, x6, x7, x8, x11, x12, x22, x23 => if x12 ≥ 0 then (if 0 ≤ (wrap64 (x12 + 1)) then (if (wrap64 (x12 + 1)) < (x5.length : Int) then (if 0 ≤ x12 then (if x12 < ((rd_L1 x5 (wrap64 (x12 + 1))).length : Int) then (if x1 = 0 then (none) else (if x12 < (x6.length : Int) then (impl_determinantModulo.l3 k x1 x5 x6 x7 x8 (Int.tmod (wrap64 (x11 * (rd (rd_L1 x5 (wrap64 (x12 + 1))) x12))) x1) x12 x22 x23 ((rd_L1 x6 x12).length : Int) 0) else (none))) else (none)) else (none)) else (none)) else (none)) else (if x6.length < 5864062014805 then (impl_determinantModulo.l0 k x1 x5 (x6 ++ [x8]) x22 (wrap64 (x23 + 1))) else (none))
def impl_determinantModulo.l3 : Nat → Int → List (List Int) → List (List Int) → Int → List Int → Int → Int → Int → Int → Int → Int → Option (List Int)
  | 0, _, _, _, _, _, _, _, _, _, _, _ => none
  | k + 1, x1, x5, x6, x7, x8, x11, x12, x22, x23, x87, x88 => if x88 < x87 then (if 0 ≤ x88 then (if x88 < ((rd_L1 x6 x12).length : Int) then (if 0 ≤ (wrap64 ((wrap64 ((wrap64 (x88 + x7)) - x12)) + 1)) then (if (wrap64 ((wrap64 ((wrap64 (x88 + x7)) - x12)) + 1)) < (x8.length : Int) then (if 0 ≤ x12 then (if x12 < (x5.length : Int) then (if 0 ≤ x7 then (if x7 < ((rd_L1 x5 x12).length : Int) then (if x1 = 0 then (none) else ((impl_modulo.f (wrap64 ((rd x8 (wrap64 ((wrap64 ((wrap64 (x88 + x7)) - x12)) + 1))) - (wrap64 ((Int.tmod (wrap64 (x11 * (rd (rd_L1 x5 x12) x7))) x1) * (rd (rd_L1 x6 x12) x88))))) x1).bind fun t142 => (impl_determinantModulo.l3 k x1 x5 x6 x7 (x8.set ((wrap64 ((wrap64 ((wrap64 (x88 + x7)) - x12)) + 1)) : Int).toNat t142) x11 x12 x22 x23 x87 (wrap64 (x88 + 1))))) else (none)) else (none)) else (none)) else (none)) else (none)) else (none)) else (none)) else (none)) else (impl_determinantModulo.l2 k x1 x5 x6 x7 x8 x11 (wrap64 (x12 - 1)) x22 x23)
end
def impl_determinantModulo.f (k : Nat) (l0 : List (List Int)) (a1 : Int) : Option (List Int) := (impl_reduced.f k l0 a1).bind fun t101 => (impl_determinantModulo.l0 k a1 t101 (([(([1] : List Int))] : List (List Int))) (t101.length : Int) 0)
theorem impl_determinantModulo.mono_l : ∀ k, (∀ y0 y1 y2 y3 y4, LeO (impl_determinantModulo.l0 k y0 y1 y2 y3 y4) (impl_determinantModulo.l0 (k + 1) y0 y1 y2 y3 y4)) ∧ (∀ y0 y1 y2 y3 y4 y5 y6 y7 y8, LeO (impl_determinantModulo.l1 k y0 y1 y2 y3 y4 y5 y6 y7 y8) (impl_determinantModulo.l1 (k + 1) y0 y1 y2 y3 y4 y5 y6 y7 y8)) ∧ (∀ y0 y1 y2 y3 y4 y5 y6 y7 y8, LeO (impl_determinantModulo.l2 k y0 y1 y2 y3 y4 y5 y6 y7 y8) (impl_determinantModulo.l2 (k + 1) y0 y1 y2 y3 y4 y5 y6 y7 y8)) ∧ (∀ y0 y1 y2 y3 y4 y5 y6 y7 y8 y9 y10, LeO (impl_determinantModulo.l3 k y0 y1 y2 y3 y4 y5 y6 y7 y8 y9 y10) (impl_determinantModulo.l3 (k + 1) y0 y1 y2 y3 y4 y5 y6 y7 y8 y9 y10))
  | 0 => ⟨fun _ _ _ _ _ r h => by simp [impl_determinantModulo.l0] at h, fun _ _ _ _ _ _ _ _ _ r h => by simp [impl_determinantModulo.l1] at h, fun _ _ _ _ _ _ _ _ _ r h => by simp [impl_determinantModulo.l2] at h, fun _ _ _ _ _ _ _ _ _ _ _ r h => by simp [impl_determinantModulo.l3] at h⟩
  | k + 1 => by
    obtain ⟨ih0, ih1, ih2, ih3⟩ := impl_determinantModulo.mono_l k
    refine ⟨?_, ?_, ?_, ?_⟩
    · intro y0 y1 y2 y3 y4
      unfold impl_determinantModulo.l0
      repeat' first
      | (with_reducible exact ih0 _ _ _ _ _)
      | (with_reducible exact ih1 _ _ _ _ _ _ _ _ _)
      | (with_reducible exact ih2 _ _ _ _ _ _ _ _ _)
      | (with_reducible exact ih3 _ _ _ _ _ _ _ _ _ _ _)
      | (with_reducible exact impl_reduced.mono _ _ _)
      | (with_reducible exact impl_trimmed.mono _ _)
      | (with_reducible exact LeO.refl _)
      | (with_reducible exact LeO.none _)
      | (with_reducible refine LeO.ite ?_ ?_)
      | (with_reducible refine LeO.bind ?_ (fun _ => ?_))
      | exact ih0 _ _ _ _ _
      | exact ih1 _ _ _ _ _ _ _ _ _
      | exact ih2 _ _ _ _ _ _ _ _ _
      | exact ih3 _ _ _ _ _ _ _ _ _ _ _
      | exact impl_reduced.mono _ _ _
      | exact impl_trimmed.mono _ _
      | exact LeO.none _
      | refine LeO.ite ?_ ?_
      | refine LeO.bind ?_ (fun _ => ?_)
    · intro y0 y1 y2 y3 y4 y5 y6 y7 y8
      unfold impl_determinantModulo.l1
      repeat' first
      | (with_reducible exact ih0 _ _ _ _ _)
      | (with_reducible exact ih1 _ _ _ _ _ _ _ _ _)
      | (with_reducible exact ih2 _ _ _ _ _ _ _ _ _)
      | (with_reducible exact ih3 _ _ _ _ _ _ _ _ _ _ _)
      | (with_reducible exact impl_reduced.mono _ _ _)
      | (with_reducible exact impl_trimmed.mono _ _)
      | (with_reducible exact LeO.refl _)
      | (with_reducible exact LeO.none _)
      | (with_reducible refine LeO.ite ?_ ?_)
      | (with_reducible refine LeO.bind ?_ (fun _ => ?_))
      | exact ih0 _ _ _ _ _
      | exact ih1 _ _ _ _ _ _ _ _ _
      | exact ih2 _ _ _ _ _ _ _ _ _
      | exact ih3 _ _ _ _ _ _ _ _ _ _ _
      | exact impl_reduced.mono _ _ _
      | exact impl_trimmed.mono _ _
      | exact LeO.none _
      | refine LeO.ite ?_ ?_
      | refine LeO.bind ?_ (fun _ => ?_)
    · intro y0 y1 y2 y3 y4 y5 y6 y7 y8
      unfold impl_determinantModulo.l2
      repeat' first
      | (with_reducible exact ih0 _ _ _ _ _)
      | (with_reducible exact ih1 _ _ _ _ _ _ _ _ _)
      | (with_reducible exact ih2 _ _ _ _ _ _ _ _ _)
      | (with_reducible exact ih3 _ _ _ _ _ _ _ _ _ _ _)
      | (with_reducible exact impl_reduced.mono _ _ _)
      | (with_reducible exact impl_trimmed.mono _ _)
      | (with_reducible exact LeO.refl _)
      | (with_reducible exact LeO.none _)
      | (with_reducible refine LeO.ite ?_ ?_)
      | (with_reducible refine LeO.bind ?_ (fun _ => ?_))
      | exact ih0 _ _ _ _ _
      | exact ih1 _ _ _ _ _ _ _ _ _
      | exact ih2 _ _ _ _ _ _ _ _ _
      | exact ih3 _ _ _ _ _ _ _ _ _ _ _
      | exact impl_reduced.mono _ _ _
      | exact impl_trimmed.mono _ _
      | exact LeO.none _
      | refine LeO.ite ?_ ?_
      | refine LeO.bind ?_ (fun _ => ?_)
    · intro y0 y1 y2 y3 y4 y5 y6 y7 y8 y9 y10
      unfold impl_determinantModulo.l3
      repeat' first
      | (with_reducible exact ih0 _ _ _ _ _)
      | (with_reducible exact ih1 _ _ _ _ _ _ _ _ _)
      | (with_reducible exact ih2 _ _ _ _ _ _ _ _ _)
      | (with_reducible exact ih3 _ _ _ _ _ _ _ _ _ _ _)
      | (with_reducible exact impl_reduced.mono _ _ _)
      | (with_reducible exact impl_trimmed.mono _ _)
      | (with_reducible exact LeO.refl _)
      | (with_reducible exact LeO.none _)
      | (with_reducible refine LeO.ite ?_ ?_)
      | (with_reducible refine LeO.bind ?_ (fun _ => ?_))
      | exact ih0 _ _ _ _ _
      | exact ih1 _ _ _ _ _ _ _ _ _
      | exact ih2 _ _ _ _ _ _ _ _ _
      | exact ih3 _ _ _ _ _ _ _ _ _ _ _
      | exact impl_reduced.mono _ _ _
      | exact impl_trimmed.mono _ _
      | exact LeO.none _
      | refine LeO.ite ?_ ?_
      | refine LeO.bind ?_ (fun _ => ?_)
theorem impl_determinantModulo.mono : ∀ a0 a1 k, LeO (impl_determinantModulo.f k a0 a1) (impl_determinantModulo.f (k + 1) a0 a1) := by
  intro a0 a1 k
  obtain ⟨ih0, ih1, ih2, ih3⟩ := impl_determinantModulo.mono_l k
  unfold impl_determinantModulo.f
  repeat' first
      | (with_reducible exact ih0 _ _ _ _ _)
      | (with_reducible exact ih1 _ _ _ _ _ _ _ _ _)
      | (with_reducible exact ih2 _ _ _ _ _ _ _ _ _)
      | (with_reducible exact ih3 _ _ _ _ _ _ _ _ _ _ _)
      | (with_reducible exact impl_reduced.mono _ _ _)
      | (with_reducible exact impl_trimmed.mono _ _)
      | (with_reducible exact LeO.refl _)
      | (with_reducible exact LeO.none _)
      | (with_reducible refine LeO.ite ?_ ?_)
      | (with_reducible refine LeO.bind ?_ (fun _ => ?_))
      | exact ih0 _ _ _ _ _
      | exact ih1 _ _ _ _ _ _ _ _ _
      | exact ih2 _ _ _ _ _ _ _ _ _
      | exact ih3 _ _ _ _ _ _ _ _ _ _ _
      | exact impl_reduced.mono _ _ _
      | exact impl_trimmed.mono _ _
      | exact LeO.none _
      | refine LeO.ite ?_ ?_
      | refine LeO.bind ?_ (fun _ => ?_)
def impl_determinantModulo.T10 : Bool × List (List Nat × List Nat) := (true, [([], []), ([], []), ([1], [1]), ([], []), ([], []), ([4], [4]), ([3, 5], [3, 5]), ([6], [6]), ([], []), ([], []), ([8, 9], [8, 9]), ([10], [10]), ([], []), ([11, 12], [11, 12]), ([13], [13]), ([], []), ([14, 15], [14, 15]), ([7, 16], [7, 16]), ([], []), ([17, 18], [17, 18]), ([0, 2, 0, 1, 2, 3, 4, 5, 6, 7, 8, 9, 10, 11, 12, 13, 14, 15, 16, 17, 18, 19], [0, 2]), ([20, 19, 19, 0, 1, 2, 3, 4, 5, 6, 7, 8, 9, 10, 11, 12, 13, 14, 15, 16, 17, 18, 19], [19, 20])])
def impl_determinantModulo.B10 : List Nat := [0, 0, 2, 0, 0, 16, 56, 120, 0, 0, 768, 1792, 0, 7936, 16128, 0, 65280, 131064, 0, 524280, 1048575, 2097151]
theorem impl_determinantModulo.tab10 : rtab .any (opsOf Try.f47 10) = impl_determinantModulo.T10 := by kernel_rfl
theorem impl_determinantModulo.bits10 : waitsOk impl_determinantModulo.T10.2 impl_determinantModulo.B10 = true := by kernel_rfl
def impl_determinantModulo.T21 : Bool × List (List Nat × List Nat) := (true, [([], []), ([], []), ([], []), ([], []), ([2, 3], [2, 3]), ([4], [4]), ([], []), ([], []), ([], []), ([7, 8], [7, 8]), ([9], [9]), ([], []), ([10, 11], [10, 11]), ([12], [12]), ([6, 13], [6, 13]), ([], []), ([14, 15], [14, 15]), ([], []), ([16, 17], [16, 17]), ([5, 18], [5, 18]), ([], []), ([19, 20], [19, 20]), ([0, 1, 0, 1, 2, 3, 4, 5, 6, 7, 8, 9, 10, 11, 12, 13, 14, 15, 16, 17, 18, 19, 20, 21], [0, 1]), ([22, 21, 21, 0, 1, 2, 3, 4, 5, 6, 7, 8, 9, 10, 11, 12, 13, 14, 15, 16, 17, 18, 19, 20, 21], [21, 22])])
def impl_determinantModulo.B21 : List Nat := [0, 0, 0, 0, 12, 28, 0, 0, 0, 384, 896, 0, 3968, 8064, 16320, 0, 65472, 0, 262080, 524284, 0, 2097148, 4194303, 8388607]
theorem impl_determinantModulo.tab21 : rtab .any (opsOf Try.f47 21) = impl_determinantModulo.T21 := by kernel_rfl
theorem impl_determinantModulo.bits21 : waitsOk impl_determinantModulo.T21.2 impl_determinantModulo.B21 = true := by kernel_rfl
set_option maxHeartbeats 8000000 in
set_option maxRecDepth 100000 in
theorem impl_determinantModulo.calls (k : Nat) (A0 : Option Addr) (c0 : Nat) (l0 : List (List Int)) (a1 : Int) (r : List Int) (w : World) (hr0 : Kd.C (Kd.slice 2 (Kd.int .i64)) w A0 l0.length l0) (hc0 : l0.length ≤ c0) (h : impl_determinantModulo.f k l0 a1 = some r) :
    Calls Try.prog 47 #[.slice A0 l0.length c0, .int .i64 a1] w fun e w' => ∃ v0_ : Value, e = .returned (v0_) ∧ Kd.R (Kd.int .i64) 2 w' w.heap.size (fun _ => True) v0_ r ∧ Below w.heap.size w w' := by
  have HR0 := Aside0.mk hr0
  have HC0 := Aside0.mk hc0
  clear hr0 hc0
  have HB := Aside0.mk (Below.refl w.heap.size w)
  have H : ((impl_reduced.f k l0 a1).bind fun t101 => (impl_determinantModulo.l0 k a1 t101 (([(([1] : List Int))] : List (List Int))) (t101.length : Int) 0)) = some r := h
  clear h
  replace H := Option.bind_eq_some_iff.mp H
  obtain ⟨t101, A30, H⟩ := H
  replace H : (impl_determinantModulo.l0 k a1 t101 (([(([1] : List Int))] : List (List Int))) (t101.length : Int) 0) = some r := H
  have A3 := Aside0.mk A30
  clear A30
  obtain ⟨y104, hy104⟩ : ∃ y_ : List Int, y_ = (([1] : List Int)) := ⟨_, rfl⟩
  replace H : (impl_determinantModulo.l0 k a1 t101 (([y104] : List (List Int))) (t101.length : Int) 0) = some r := by first | (rw [hy104]; with_reducible exact H) | (have H2_ := (Option.bind_some _ _).symm.trans H; rw [hy104]; with_reducible exact H2_) | (have H2_ := (Option.bind_some _ _).symm.trans H; with_reducible exact H2_) | with_reducible exact H | (rw [hy104]; exact H) | exact H
  have Ny104 := Aside0.mk hy104
  clear hy104
  obtain ⟨y107, hy107⟩ : ∃ y_ : List (List Int), y_ = (([y104] : List (List Int))) := ⟨_, rfl⟩
  replace H : (impl_determinantModulo.l0 k a1 t101 y107 (t101.length : Int) 0) = some r := by first | (rw [hy107]; with_reducible exact H) | (have H2_ := (Option.bind_some _ _).symm.trans H; rw [hy107]; with_reducible exact H2_) | (have H2_ := (Option.bind_some _ _).symm.trans H; with_reducible exact H2_) | with_reducible exact H | (rw [hy107]; exact H) | exact H
  have Ny107 := Aside0.mk hy107
  clear hy107
  have H' := Aside0.mk H
  clear H
  go_enter Try.func47, Try.ntmps47
  go_wp2_with (first | ((with_reducible refine gate_callee (f := 87) rfl ?_); refine goesL_ (some 18) rfl rfl Try.func87 (by kernel_rfl) rfl #[.slice A0 l0.length c0, .int .i64 a1] rfl gm ?_; (with_reducible refine (impl_reduced.calls k _ _ l0 a1 t101 _ ?side1 ?side2 A3.out).mono ?_); (case side1 => repeat (first | exact HR0.out | (with_reducible refine Kd.C_alloc ?_ _) | (with_reducible refine Kd.C_drewN ?_ _) | (with_reducible refine Kd.C_drew ?_))); (case side2 => exact HC0.out); rintro e w4 ⟨v102, rfl, ho0, hb⟩; refine ⟨_, rfl, ?_⟩; have n0_ := Aside0.mk (Kd.S_lower ho0 (below_size bl)); have n1_ := Aside0.mk (below_step bl hb); clear HB; have HO103 := n0_; have HB := n1_; clear n0_ n1_; (try clear hb); (try clear hb2); (try clear hk); (try clear hi); (try clear ho0)) | ((with_reducible refine gate_dst (N := 19) rfl ?_); refine Kd.R_lit (Kd.int .i64) _ 2 ?hg (N := 19) ?hd (xs := ([1] : List Int)) (inner := [.int .i64 1]) (ok := fun _ => True) (okp := fun _ => True) ?hr ?hp (fun _ hk => hk) trivial (Below.refl _ _) (Nat.le_refl _) (by simp) ?_; (case hd => rfl); (case hg => rfl); (case hr => first | (go_simp; done) | (go_simp; rfl)); (case hp => exact (Reps.one (show Kd.M (Kd.int .i64) _ _ _ 1 [.int .i64 1] from rfl) (Reps.none _ _))); intro v105 w5 ho6 hb hg_ hnew_; clear hg_ hnew_; (first | rw [← Ny104.out] at ho6 | (simp only [Int.reduceToNat] at ho6; rw [← Ny104.out] at ho6)); have n0_ := Aside0.mk (Kd.S_elder' (by (with_reducible repeat (first | apply Kd.S_alloc | apply Kd.S_drewN | apply Kd.S_drew)); exact HO103.out) (Kd.R_base ho6) hb); have n1_ := Aside0.mk (Kd.R_lower ho6 (below_size bl)); have n2_ := Aside0.mk (below_step bl hb); clear HO103; clear HB; have HO103 := n0_; have HO106 := n1_; have HB := n2_; clear n0_ n1_ n2_; clear hb ho6; obtain ⟨Ao8, co8, eo8⟩ := Kd.R_slice HO106.out; subst eo8) | ((with_reducible refine gate_dst (N := 20) rfl ?_); refine S_lit1 (Kd.slice 2 (Kd.int .i64)) (w0 := w) w.heap.size 32 rfl (N := 20) rfl y104 [.slice Ao8 y104.length co8] (fun k_ => some k_ ≠ (v102 : Value).ownBlock) (fun k_ => some k_ = (.slice Ao8 y104.length co8 : Value).ownBlock) ?hr ?aP (fun k_ hk_ => ((Kd.R_mono (ok' := fun k_ => ((fun k_ => some k_ ≠ (v102 : Value).ownBlock)) k_ ∧ some k_ ≠ (.slice none 0 0 : Value).ownBlock) (Kd.R_apart' (HO106.out) (Kd.S_typed HO103.out) (by decide)) (fun k_ hk => ⟨hk.2, (by simp [Value.ownBlock])⟩))).1 k_ hk_.symm) ?aF ?aB ?aS ?_; (case hr => first | (go_simp; done) | (go_simp; rfl)); (case aP => exact Kd.M_row (Kd.R_mono (Kd.R_tight rfl (Kd.R_mono (ok' := fun k_ => ((fun k_ => some k_ ≠ (v102 : Value).ownBlock)) k_ ∧ some k_ ≠ (.slice none 0 0 : Value).ownBlock) (Kd.R_apart' (HO106.out) (Kd.S_typed HO103.out) (by decide)) (fun k_ hk => ⟨hk.2, (by simp [Value.ownBlock])⟩))) (fun _ h_ => h_))); (case aB => exact bl); (case aF => exact (fun k_ hk => Kd.fresh' (Kd.S_lt (by (with_reducible repeat (first | apply Kd.S_alloc | apply Kd.S_drewN | apply Kd.S_drew)); exact HO103.out)) k_ hk)); (case aS => exact (below_size bl)); intro v108 w7 ho hb hg hat; rw [← Ny107.out] at ho; have n0_ := Aside0.mk (Kd.S_after (Kd.S_apart_nil (by (with_reducible repeat (first | apply Kd.S_alloc | apply Kd.S_drewN | apply Kd.S_drew)); exact HO103.out)) hg hat); have n1_ := Aside0.mk (hb); have n2_ := Aside0.mk (ho); clear HO103; clear HB; clear HO106; have HO103 := n0_; have HB := n1_; have HO109 := n2_; clear n0_ n1_ n2_; clear ho hb hg hat; obtain ⟨Ao9, co9, eo9⟩ := Kd.S_slice HO103.out; subst eo9))
  go_loopg [6, 23] k (fun kq v6 v23 w' => ∃ (x5_1 : List (List Int)) (x6_1 : List (List Int)) (x23_1 : Int), v23 = .int .i64 x23_1 ∧ Aside0 (impl_determinantModulo.l0 kq a1 x5_1 x6_1 (t101.length : Int) x23_1 = some r) ∧ Aside0 (kq ≤ k) ∧ Aside0 (Kd.S (Kd.slice 2 (Kd.int .i64)) 32 w' w.heap.size (fun k_ => some k_ ≠ (v6 : Value).ownBlock) (.slice Ao9 t101.length co9) x5_1) ∧ Aside0 (Kd.S (Kd.slice 2 (Kd.int .i64)) 32 w' w.heap.size (fun k_ => some k_ ≠ ((.slice Ao9 t101.length co9) : Value).ownBlock) v6 x6_1) ∧ Aside0 (Below w.heap.size w w'))
  case atStart => exact ⟨(t101), (y107), (0), rs, H', ⟨Nat.le_refl _⟩, ⟨by (with_reducible repeat (first | apply Kd.S_alloc | apply Kd.S_drewN | apply Kd.S_drew)); exact Kd.S_mono HO103.out (fun _ hk => hk.2)⟩, ⟨by (with_reducible repeat (first | apply Kd.S_alloc | apply Kd.S_drewN | apply Kd.S_drew)); exact HO109.out⟩, ⟨bl⟩⟩
  case round =>
    clear H'
    (try clear p2); (try clear c4); (try clear c8)
    obtain ⟨x5_1, x6_1, x23_1, rfl, HA, HK1, HO_5, HO_6, HB⟩ := hrel
    have hl5_1 := (Kd.S_reads' HO_5.out).1
    rw [hl5_1] at HO_5
    (try simp only [hl5_1])
    (try simp only [hl5_1] at HO_6)
    cases gk with
    | zero => exact absurd HA.out (by simp [impl_determinantModulo.l0])
    | succ k1 =>
      have H := HA.out
      clear HA
      simp only [impl_determinantModulo.l0] at H
      by_cases c10 : x23_1 < (t101.length : Int)
      case neg =>
        rw [if_neg c10] at H
        have c10b0 : decide (x23_1 < (t101.length : Int)) = false := decide_eq_false c10
        (try simp only [hl5_1] at c10b0)
        clear c10
        by_cases c59 : 0 ≤ (x5_1.length : Int)
        case neg => rw [if_neg c59] at H; exact absurd H (by simp)
        rw [if_pos c59] at H
        have c59b0 : decide (0 ≤ (x5_1.length : Int)) = true := decide_eq_true c59
        (try simp only [hl5_1] at c59b0)
        have c59b1 : decide (0 ≤ x5_1.length) = true := decide_eq_true (by omega)
        (try simp only [hl5_1] at c59b1)
        clear c59
        by_cases c60 : (x5_1.length : Int) < (x6_1.length : Int)
        case neg => rw [if_neg c60] at H; exact absurd H (by simp)
        rw [if_pos c60] at H
        have c60b0 : decide ((x5_1.length : Int) < (x6_1.length : Int)) = true := decide_eq_true c60
        (try simp only [hl5_1] at c60b0)
        have c60b1 : decide (x5_1.length < x6_1.length) = true := decide_eq_true (Int.ofNat_lt.mp c60)
        (try simp only [hl5_1] at c60b1)
        clear c60
        replace H := Option.bind_eq_some_iff.mp H
        obtain ⟨t111, A610, H⟩ := H
        replace H : (some t111) = some r := H
        have A61 := Aside0.mk A610
        clear A610
        obtain rfl := Option.some.inj H
        obtain ⟨Ao62, co62, eo62⟩ := Kd.S_slice HO_6.out
        subst eo62
        have p110 : 0 ≤ ((x5_1.length : Int) : Int) := oD
        have q110 : (x5_1.length : Int) < (x6_1.length : Int) := oD
        obtain ⟨ad110, A110_0, c110_0, e110, hx110_0, hl110_0, hi110_0⟩ := at_L1 (Kd.S_reads' HO_6.out).2.2 (x5_1.length : Int) p110 q110
        cases e110
        obtain ⟨ce110, hce110, hMe110, hcc110⟩ := Kd.S_get HO_6.out [] (x5_1.length : Int) p110 (by first | exact q110 | exact oD | (have e_ := (Kd.S_reads' HO_6.out).1; omega))
        obtain ⟨ve110_0, rfl, ge110_0⟩ := hMe110
        have hv110_0 := hcc110 0 _ rfl
        rw [Nat.add_zero, show ((Kd.slice 2 (Kd.int .i64))).sz = 1 from rfl, Nat.mul_one] at hv110_0
        replace hv110_0 := Option.some.inj (hv110_0.symm.trans hx110_0)
        rw [hv110_0] at ge110_0
        have HL110_0 := Aside0.mk (show Kd.R (Kd.int .i64) 2 _ _ _ _ (rd_L1 x6_1 (x5_1.length : Int)) from ge110_0)
        clear hv110_0 ge110_0
        have HX110_0 := Aside0.mk hx110_0
        clear hcc110 hce110
        have HR110_0 := Aside0.mk hi110_0
        have HC110_0 := Aside0.mk hl110_0
        clear hi110_0 hl110_0
        (try simp only [Go.IntWalk.toNatUp] at hx110_0)
        (try simp only [hl5_1] at p110)
        (try simp only [hl5_1] at q110)
        (try simp only [hl5_1] at hx110_0)
        replace p110 := eq_true p110
        replace q110 := eq_true q110
        go_wp2_with (first | ((with_reducible refine gate_callee (f := 90) rfl ?_); refine goesL_ (some 133) rfl rfl Try.func90 (by kernel_rfl) rfl #[.slice A110_0 (rd_L1 x6_1 (x5_1.length : Int)).length c110_0] rfl gm ?_; (with_reducible refine (impl_trimmed.calls k1 (fun k_ => some k_ = (.slice A110_0 (rd_L1 x6_1 (x5_1.length : Int)).length c110_0 : Value).ownBlock) _ _ (rd_L1 x6_1 (x5_1.length : Int)) t111 _ ?side1 A61.out).mono ?_); (case side1 => exact Kd.R_V (Kd.R_tight rfl (HL110_0.out))); rintro e w63 ⟨v112, rfl, ho0, hb⟩; refine ⟨_, rfl, ?_⟩; have n0_ := Aside0.mk (Kd.S_elder' (by (with_reducible repeat (first | apply Kd.S_alloc | apply Kd.S_drewN | apply Kd.S_drew)); exact HO_5.out) (Kd.R_base ho0) hb); have n1_ := Aside0.mk (Kd.S_elder' (by (with_reducible repeat (first | apply Kd.S_alloc | apply Kd.S_drewN | apply Kd.S_drew)); exact HO_6.out) (Kd.R_base ho0) hb); have n2_ := Aside0.mk (Kd.R_elder' (by (with_reducible repeat (first | apply Kd.R_alloc | apply Kd.R_drewN | apply Kd.R_drew)); exact HL110_0.out) (Kd.R_base ho0) hb); have n3_ := Aside0.mk (Kd.R_lower (Kd.R_new' (Kd.R_mono (ok' := fun k_ => True) ho0 (fun _ hk_ => trivial)) (Kd.R_lt (by (with_reducible repeat (first | apply Kd.R_alloc | apply Kd.R_drewN | apply Kd.R_drew)); exact HL110_0.out))) (below_size bl)); have n4_ := Aside0.mk (Kd.C_below (by repeat (first | (with_reducible exact HR110_0.out) | (with_reducible refine Kd.C_alloc ?_ _) | (with_reducible refine Kd.C_drewN ?_ _) | (with_reducible refine Kd.C_drew ?_) | exact HR110_0.out)) hb); have n5_ := Aside0.mk (pw_cell_below hb HX110_0.out); have n6_ := Aside0.mk (below_step bl hb); clear HO_5; clear HO_6; clear HL110_0; clear HR110_0; clear HX110_0; clear HB; have HO_5 := n0_; have HO_6 := n1_; have HL110_0 := n2_; have HO113 := n3_; have HR110_0 := n4_; have HX110_0 := n5_; have HB := n6_; clear n0_ n1_ n2_ n3_ n4_ n5_ n6_; (try clear hb); (try clear hb2); (try clear hk); (try clear hi); (try clear ho0)))
        go_ret
        exact ⟨_, by first | rfl | (simp [errW_none, errW_some] <;> rfl) | (simp [*, errW_none, errW_some] <;> rfl), by (with_reducible repeat (first | apply Kd.R_alloc | apply Kd.R_drewN | apply Kd.R_drew)); exact Kd.R_mono HO113.out (fun _ hk => trivial), bl⟩
      rw [if_pos c10] at H
      have c10b0 : decide (x23_1 < (t101.length : Int)) = true := decide_eq_true c10
      (try simp only [hl5_1] at c10b0)
      clear c10
      by_cases c11 : 0 ≤ x23_1
      case neg => rw [if_neg c11] at H; exact absurd H (by simp)
      rw [if_pos c11] at H
      have c11b0 : decide (0 ≤ x23_1) = true := decide_eq_true c11
      clear c11
      by_cases c12 : x23_1 < (x6_1.length : Int)
      case neg => rw [if_neg c12] at H; exact absurd H (by simp)
      rw [if_pos c12] at H
      have c12b0 : decide (x23_1 < (x6_1.length : Int)) = true := decide_eq_true c12
      (try simp only [hl5_1] at c12b0)
      clear c12
      replace H := Option.bind_eq_some_iff.mp H
      obtain ⟨t115, A130, H⟩ := H
      replace H : (if t115.length < 17592186044416 then (impl_determinantModulo.l1 k1 a1 x5_1 x6_1 x23_1 (t115 ++ [0]) (t101.length : Int) x23_1 ((rd_L1 x6_1 x23_1).length : Int) 0) else (none)) = some r := H
      have A13 := Aside0.mk A130
      clear A130
      by_cases c14 : t115.length < 17592186044416
      case neg => rw [if_neg c14] at H; exact absurd H (by simp)
      rw [if_pos c14] at H
      have LMc14 := Aside0.mk c14
      clear c14
      obtain ⟨y118, hy118⟩ : ∃ y_ : List Int, y_ = (t115 ++ [0]) := ⟨_, rfl⟩
      replace H : (impl_determinantModulo.l1 k1 a1 x5_1 x6_1 x23_1 y118 (t101.length : Int) x23_1 ((rd_L1 x6_1 x23_1).length : Int) 0) = some r := by first | (rw [hy118]; with_reducible exact H) | (have H2_ := (Option.bind_some _ _).symm.trans H; rw [hy118]; with_reducible exact H2_) | (have H2_ := (Option.bind_some _ _).symm.trans H; with_reducible exact H2_) | with_reducible exact H | (rw [hy118]; exact H) | exact H
      have Ny118 := Aside0.mk hy118
      clear hy118
      have H' := Aside0.mk H
      clear H
      obtain ⟨Ao15, co15, eo15⟩ := Kd.S_slice HO_6.out
      subst eo15
      have p114 : 0 ≤ (x23_1 : Int) := oD
      have q114 : x23_1 < (x6_1.length : Int) := oD
      obtain ⟨ad114, A114_0, c114_0, e114, hx114_0, hl114_0, hi114_0⟩ := at_L1 (Kd.S_reads' HO_6.out).2.2 x23_1 p114 q114
      cases e114
      obtain ⟨ce114, hce114, hMe114, hcc114⟩ := Kd.S_get HO_6.out [] x23_1 p114 (by first | exact q114 | exact oD | (have e_ := (Kd.S_reads' HO_6.out).1; omega))
      obtain ⟨ve114_0, rfl, ge114_0⟩ := hMe114
      have hv114_0 := hcc114 0 _ rfl
      rw [Nat.add_zero, show ((Kd.slice 2 (Kd.int .i64))).sz = 1 from rfl, Nat.mul_one] at hv114_0
      replace hv114_0 := Option.some.inj (hv114_0.symm.trans hx114_0)
      rw [hv114_0] at ge114_0
      have HL114_0 := Aside0.mk (show Kd.R (Kd.int .i64) 2 _ _ _ _ (rd_L1 x6_1 x23_1) from ge114_0)
      clear hv114_0 ge114_0
      have HX114_0 := Aside0.mk hx114_0
      clear hcc114 hce114
      have HR114_0 := Aside0.mk hi114_0
      have HC114_0 := Aside0.mk hl114_0
      clear hi114_0 hl114_0
      replace p114 := eq_true p114
      replace q114 := eq_true q114
      go_wp2_with (first | ((with_reducible refine gate_callee (f := 88) rfl ?_); refine goesL_ (some 30) rfl rfl Try.func88 (by kernel_rfl) rfl #[.slice A114_0 (rd_L1 x6_1 x23_1).length c114_0] rfl gm ?_; (with_reducible refine (slices_Clone_int64_int64.calls _ _ (rd_L1 x6_1 x23_1) t115 _ ?side1 ?side2 A13.out).mono ?_); (case side1 => repeat (first | exact (by repeat (first | (with_reducible exact HR114_0.out) | (with_reducible refine Kd.C_alloc ?_ _) | (with_reducible refine Kd.C_drewN ?_ _) | (with_reducible refine Kd.C_drew ?_) | exact HR114_0.out)) | (with_reducible refine Kd.C_alloc ?_ _) | (with_reducible refine Kd.C_drewN ?_ _) | (with_reducible refine Kd.C_drew ?_))); (case side2 => exact HC114_0.out); rintro e w16 ⟨v116, rfl, ho0, hb⟩; refine ⟨_, rfl, ?_⟩; have n0_ := Aside0.mk (Kd.S_elder' (by (with_reducible repeat (first | apply Kd.S_alloc | apply Kd.S_drewN | apply Kd.S_drew)); exact HO_5.out) (Kd.R_base ho0) hb); have n1_ := Aside0.mk (Kd.S_elder' (by (with_reducible repeat (first | apply Kd.S_alloc | apply Kd.S_drewN | apply Kd.S_drew)); exact HO_6.out) (Kd.R_base ho0) hb); have n2_ := Aside0.mk (Kd.R_elder' (by (with_reducible repeat (first | apply Kd.R_alloc | apply Kd.R_drewN | apply Kd.R_drew)); exact HL114_0.out) (Kd.R_base ho0) hb); have n3_ := Aside0.mk (Kd.R_lower (Kd.R_new' ho0 (Kd.R_lt (by (with_reducible repeat (first | apply Kd.R_alloc | apply Kd.R_drewN | apply Kd.R_drew)); exact HL114_0.out))) (below_size bl)); have n4_ := Aside0.mk (Kd.C_below (by repeat (first | (with_reducible exact HR114_0.out) | (with_reducible refine Kd.C_alloc ?_ _) | (with_reducible refine Kd.C_drewN ?_ _) | (with_reducible refine Kd.C_drew ?_) | exact HR114_0.out)) hb); have n5_ := Aside0.mk (pw_cell_below hb HX114_0.out); have n6_ := Aside0.mk (below_step bl hb); clear HO_5; clear HO_6; clear HL114_0; clear HR114_0; clear HX114_0; clear HB; have HO_5 := n0_; have HO_6 := n1_; have HL114_0 := n2_; have HO117 := n3_; have HR114_0 := n4_; have HX114_0 := n5_; have HB := n6_; clear n0_ n1_ n2_ n3_ n4_ n5_ n6_; (try clear hb); (try clear hb2); (try clear hk); (try clear hi); (try clear ho0)) | ((with_reducible refine gate_builtin (b := .append) (xs := #[.tmp 30, .tmp 31]) rfl ?_); at_builtin; refine Kd.R_append (Kd.int .i64) (w0 := w) w.heap.size rfl (.tmp 30) (.tmp 31) 32 2 (.int .i64 0) 8 rfl Try.underlying32 info2 rfl (by decide) (by omega) v116 t115 0 [.int .i64 0] (fun k_ => some k_ ≠ (.slice A114_0 (rd_L1 x6_1 x23_1).length c114_0 : Value).ownBlock) (fun _ => False) rfl rfl ?aP (fun _ hk => hk.elim) ?aF ?aO ?aB ?aS ?aL ?_; (case aP => exact rfl); (case aB => exact bl); (case aF => exact (fun k_ hk => Kd.fresh' (Kd.R_lt (by (with_reducible repeat (first | apply Kd.R_alloc | apply Kd.R_drewN | apply Kd.R_drew)); exact HL114_0.out)) k_ hk)); (case aO => exact (by (with_reducible repeat (first | apply Kd.R_alloc | apply Kd.R_drewN | apply Kd.R_drew)); exact Kd.R_mono HO117.out (fun _ hk => hk.2))); (case aS => exact (below_size bl)); (case aL => have := LMc14.out; omega); intro v119 w17 ho hb hg hat; rw [← Ny118.out] at ho; have n0_ := Aside0.mk (Kd.S_after (ok := (fun k_ => some k_ ≠ (.slice (some ad114) x6_1.length co15 : Value).ownBlock)) (by (with_reducible repeat (first | apply Kd.S_alloc | apply Kd.S_drewN | apply Kd.S_drew)); exact HO_5.out) hg hat); have n1_ := Aside0.mk (Kd.S_after (ok := (fun k_ => some k_ ≠ (.slice Ao9 x5_1.length co9 : Value).ownBlock)) (by (with_reducible repeat (first | apply Kd.S_alloc | apply Kd.S_drewN | apply Kd.S_drew)); exact HO_6.out) hg hat); have n2_ := Aside0.mk (Kd.R_after (ok := (fun k_ => some k_ ≠ (.slice Ao9 x5_1.length co9 : Value).ownBlock ∧ some k_ ≠ (.slice (some ad114) x6_1.length co15 : Value).ownBlock)) (by (with_reducible repeat (first | apply Kd.R_alloc | apply Kd.R_drewN | apply Kd.R_drew)); exact HL114_0.out) hg hat); have n3_ := Aside0.mk (hb); have n4_ := Aside0.mk (ho); clear HO_5; clear HO_6; clear HL114_0; clear HB; clear HO117; have HO_5 := n0_; have HO_6 := n1_; have HL114_0 := n2_; have HB := n3_; have HO120 := n4_; clear n0_ n1_ n2_ n3_ n4_; clear ho hb hg hat; have p121 : 0 ≤ (x23_1 : Int) := oD; have q121 : x23_1 < (x6_1.length : Int) := oD; obtain ⟨ad121, A121_0, c121_0, e121, hx121_0, hl121_0, hi121_0⟩ := at_L1 (Kd.S_reads' HO_6.out).2.2 x23_1 p121 q121; obtain rfl : ad114 = ad121 := (by injection e121); obtain ⟨ce121, hce121, hMe121, hcc121⟩ := Kd.S_get HO_6.out [] x23_1 p121 (by first | exact q121 | exact oD | (have e_ := (Kd.S_reads' HO_6.out).1; omega)); obtain ⟨ve121_0, rfl, ge121_0⟩ := hMe121; have hv121_0 := hcc121 0 _ rfl; rw [Nat.add_zero, show ((Kd.slice 2 (Kd.int .i64))).sz = 1 from rfl, Nat.mul_one] at hv121_0; replace hv121_0 := Option.some.inj (hv121_0.symm.trans hx121_0); rw [hv121_0] at ge121_0; have HL121_0 := Aside0.mk (show Kd.R (Kd.int .i64) 2 _ _ _ _ (rd_L1 x6_1 x23_1) from ge121_0); clear hv121_0 ge121_0; have HX121_0 := Aside0.mk hx121_0; clear hcc121 hce121; have HR121_0 := Aside0.mk hi121_0; have HC121_0 := Aside0.mk hl121_0; clear hi121_0 hl121_0; replace p121 := eq_true p121; replace q121 := eq_true q121))
      generalize hgz36_2 : (.slice A121_0 (rd_L1 x6_1 x23_1).length c121_0 : Value) = vz36_2
      have HGZ36_2 := Aside0.mk hgz36_2
      clear hgz36_2
      go_loopg [38] k1 (fun kq v38 w' => ∃ (x8_2 : List Int) (x38_2 : Int), v38 = .int .i64 x38_2 ∧ Aside0 (impl_determinantModulo.l1 kq a1 x5_1 x6_1 x23_1 x8_2 (t101.length : Int) x23_1 ((rd_L1 x6_1 x23_1).length : Int) x38_2 = some r) ∧ Aside0 (kq ≤ k1) ∧ Aside0 (HdrOf w' (.slice (some ad114) x6_1.length co15) x23_1 vz36_2) ∧ Aside0 (Kd.S (Kd.slice 2 (Kd.int .i64)) 32 w' w.heap.size (fun k_ => some k_ ≠ ((.slice (some ad114) x6_1.length co15) : Value).ownBlock ∧ some k_ ≠ (v119 : Value).ownBlock) (.slice Ao9 x5_1.length co9) x5_1) ∧ Aside0 (Kd.S (Kd.slice 2 (Kd.int .i64)) 32 w' w.heap.size (fun k_ => some k_ ≠ ((.slice Ao9 x5_1.length co9) : Value).ownBlock ∧ some k_ ≠ (v119 : Value).ownBlock) (.slice (some ad114) x6_1.length co15) x6_1) ∧ Aside0 (Kd.R (Kd.int .i64) 2 w' w.heap.size (fun _ => True) v119 x8_2) ∧ Aside0 (Below w.heap.size w w'))
      case atStart => exact ⟨(y118), (0), rs, H', ⟨Nat.le_refl _⟩, ⟨by (with_reducible repeat (first | apply HdrOf.alloc | apply HdrOf.drewN | apply HdrOf.drew)); first | exact ⟨_, _, _, rfl, (by first | exact of_eq_true p121 | exact hdr_lo HH_36.out | omega), (by first | exact of_eq_true q121 | exact hdr_hi HH_36.out | (have h_ := of_eq_true q121; omega) | (have h_ := hdr_hi HH_36.out; omega)), HX121_0.out⟩ | (rw [← HGZ36_2.out]; exact ⟨_, _, _, rfl, (by first | exact of_eq_true p121 | exact hdr_lo HH_36.out | omega), (by first | exact of_eq_true q121 | exact hdr_hi HH_36.out | (have h_ := of_eq_true q121; omega) | (have h_ := hdr_hi HH_36.out; omega)), HX121_0.out⟩)⟩, ⟨by (try simp only [hl5_1]); (with_reducible repeat (first | apply Kd.S_alloc | apply Kd.S_drewN | apply Kd.S_drew)); exact HO_5.out⟩, ⟨by (try simp only [hl5_1]); (with_reducible repeat (first | apply Kd.S_alloc | apply Kd.S_drewN | apply Kd.S_drew)); exact HO_6.out⟩, ⟨by (try simp only [hl5_1]); (with_reducible repeat (first | apply Kd.R_alloc | apply Kd.R_drewN | apply Kd.R_drew)); exact Kd.R_mono HO120.out (fun _ hk => trivial)⟩, ⟨bl⟩⟩
      case round =>
        clear H'
        (try clear c1); (try clear p1); (try clear q1); (try clear hx1); (try clear p2); (try clear c4); (try clear c8); (try clear c10); (try clear c10b0); (try clear c11); (try clear c11b0); (try clear p11); (try clear q11); (try clear hx11); (try clear c12); (try clear c12b0); (try clear p12); (try clear q12); (try clear hx12); (try clear c14); (try clear hx114_0); (try clear hx121_0); (try clear p114); (try clear p121); (try clear p2); (try clear q114); (try clear q121)
        obtain ⟨x8_2, x38_2, rfl, HA, HK2, HH_36, HO_5, HO_6, HO_8, HB⟩ := hrel
        cases gk with
        | zero => exact absurd HA.out (by simp [impl_determinantModulo.l1])
        | succ k2 =>
          have H := HA.out
          clear HA
          simp only [impl_determinantModulo.l1] at H
          by_cases c18 : x38_2 < ((rd_L1 x6_1 x23_1).length : Int)
          case neg =>
            rw [if_neg c18] at H
            have c18b0 : decide (x38_2 < ((rd_L1 x6_1 x23_1).length : Int)) = false := decide_eq_false c18
            (try simp only [hl5_1] at c18b0)
            clear c18
            have H' := Aside0.mk H
            clear H
            have hza122 : decide (0 ≤ x23_1) = true := decide_eq_true (hdr_lo HH_36.out)
            have hzb122 : decide (x23_1 < (x6_1.length : Int)) = true := decide_eq_true (by have h_ := hdr_hi HH_36.out; have e_ := (Kd.S_reads' HO_6.out).1; omega)
            have p122 : 0 ≤ (x23_1 : Int) := oD
            have q122 : x23_1 < (x6_1.length : Int) := oD
            obtain ⟨ad122, A122_0, c122_0, e122, hx122_0, hl122_0, hi122_0⟩ := at_L1 (Kd.S_reads' HO_6.out).2.2 x23_1 p122 q122
            obtain rfl : ad114 = ad122 := (by injection e122)
            obtain ⟨ce122, hce122, hMe122, hcc122⟩ := Kd.S_get HO_6.out [] x23_1 p122 (by first | exact q122 | exact oD | (have e_ := (Kd.S_reads' HO_6.out).1; omega))
            obtain ⟨ve122_0, rfl, ge122_0⟩ := hMe122
            have hv122_0 := hcc122 0 _ rfl
            rw [Nat.add_zero, show ((Kd.slice 2 (Kd.int .i64))).sz = 1 from rfl, Nat.mul_one] at hv122_0
            replace hv122_0 := Option.some.inj (hv122_0.symm.trans hx122_0)
            rw [hv122_0] at ge122_0
            have HL122_0 := Aside0.mk (show Kd.R (Kd.int .i64) 2 _ _ _ _ (rd_L1 x6_1 x23_1) from ge122_0)
            clear hv122_0 ge122_0
            have HX122_0 := Aside0.mk hx122_0
            clear hcc122 hce122
            have HR122_0 := Aside0.mk hi122_0
            have HC122_0 := Aside0.mk hl122_0
            clear hi122_0 hl122_0
            replace p122 := eq_true p122
            replace q122 := eq_true q122
            obtain rfl := hdr_eq HH_36.out HX122_0.out
            go_wp2
            generalize hgz36_3 : (.slice A122_0 (rd_L1 x6_1 x23_1).length c122_0 : Value) = vz36_3
            have HGZ36_3 := Aside0.mk hgz36_3
            clear hgz36_3
            go_loopg [11, 12] k2 (fun kq v11 v12 w' => ∃ (x8_3 : List Int) (x11_3 : Int) (x12_3 : Int), v11 = .int .i64 x11_3 ∧ v12 = .int .i64 x12_3 ∧ Aside0 (impl_determinantModulo.l2 kq a1 x5_1 x6_1 x23_1 x8_3 x11_3 x12_3 (t101.length : Int) x23_1 = some r) ∧ Aside0 (kq ≤ k2) ∧ Aside0 (HdrOf w' (.slice (some ad114) x6_1.length co15) x23_1 vz36_3) ∧ Aside0 (Kd.S (Kd.slice 2 (Kd.int .i64)) 32 w' w.heap.size (fun k_ => some k_ ≠ ((.slice (some ad114) x6_1.length co15) : Value).ownBlock ∧ some k_ ≠ (v119 : Value).ownBlock) (.slice Ao9 x5_1.length co9) x5_1) ∧ Aside0 (Kd.S (Kd.slice 2 (Kd.int .i64)) 32 w' w.heap.size (fun k_ => some k_ ≠ ((.slice Ao9 x5_1.length co9) : Value).ownBlock ∧ some k_ ≠ (v119 : Value).ownBlock) (.slice (some ad114) x6_1.length co15) x6_1) ∧ Aside0 (Kd.R (Kd.int .i64) 2 w' w.heap.size (fun _ => True) v119 x8_3) ∧ Aside0 (Below w.heap.size w w'))
            case atStart => exact ⟨(x8_2), (1), (wrap64 (x23_1 - 1)), rs, rs, H', ⟨Nat.le_refl _⟩, ⟨by (with_reducible repeat (first | apply HdrOf.alloc | apply HdrOf.drewN | apply HdrOf.drew)); first | exact ⟨_, _, _, rfl, (by first | exact of_eq_true p122 | exact hdr_lo HH_36.out | omega), (by first | exact of_eq_true q122 | exact hdr_hi HH_36.out | (have h_ := of_eq_true q122; omega) | (have h_ := hdr_hi HH_36.out; omega)), HX122_0.out⟩ | (rw [← HGZ36_3.out]; exact ⟨_, _, _, rfl, (by first | exact of_eq_true p122 | exact hdr_lo HH_36.out | omega), (by first | exact of_eq_true q122 | exact hdr_hi HH_36.out | (have h_ := of_eq_true q122; omega) | (have h_ := hdr_hi HH_36.out; omega)), HX122_0.out⟩)⟩, ⟨by (try simp only [hl5_1]); (with_reducible repeat (first | apply Kd.S_alloc | apply Kd.S_drewN | apply Kd.S_drew)); exact HO_5.out⟩, ⟨by (try simp only [hl5_1]); (with_reducible repeat (first | apply Kd.S_alloc | apply Kd.S_drewN | apply Kd.S_drew)); exact HO_6.out⟩, ⟨by (try simp only [hl5_1]); (with_reducible repeat (first | apply Kd.R_alloc | apply Kd.R_drewN | apply Kd.R_drew)); exact HO_8.out⟩, ⟨bl⟩⟩
            case round =>
              clear H'
              (try clear c1); (try clear p1); (try clear q1); (try clear hx1); (try clear c2); (try clear p2); (try clear q2); (try clear hx2); (try clear hf2); (try clear c4); (try clear p6); (try clear c8); (try clear c10); (try clear c10b0); (try clear c11); (try clear c11b0); (try clear p11); (try clear q11); (try clear hx11); (try clear c12); (try clear c12b0); (try clear p12); (try clear q12); (try clear hx12); (try clear c14); (try clear c18); (try clear c18b0); (try clear c19); (try clear c19b0); (try clear c20); (try clear c20b0); (try clear c22); (try clear c22b0); (try clear c23); (try clear c23b0); (try clear c24); (try clear c24b0); (try clear c25); (try clear c25b0); (try clear c26); (try clear c26b0); (try clear p28); (try clear q28); (try clear hx28); (try clear hf28); (try clear hx114_0); (try clear hx121_0); (try clear hx122_0); (try clear hx123_0); (try clear hx124_0); (try clear hx125_0); (try clear hx126_0); (try clear hx28_0); (try clear p1); (try clear p11); (try clear p114); (try clear p12); (try clear p121); (try clear p122); (try clear p123); (try clear p124); (try clear p125); (try clear p126); (try clear p2); (try clear p28); (try clear q1); (try clear q11); (try clear q114); (try clear q12); (try clear q121); (try clear q122); (try clear q123); (try clear q124); (try clear q125); (try clear q126); (try clear q28)
              obtain ⟨x8_3, x11_3, x12_3, rfl, rfl, HA, HK3, HH_36, HO_5, HO_6, HO_8, HB⟩ := hrel
              cases gk with
              | zero => exact absurd HA.out (by simp [impl_determinantModulo.l2])
              | succ k3 =>
                have H := HA.out
                clear HA
                simp only [impl_determinantModulo.l2] at H
                by_cases c32 : x12_3 ≥ 0
                case neg =>
                  rw [if_neg c32] at H
                  have c32b0 : decide (0 ≤ x12_3) = false := decide_eq_false c32
                  clear c32
                  by_cases c56 : x6_1.length < 5864062014805
                  case neg => rw [if_neg c56] at H; exact absurd H (by simp)
                  rw [if_pos c56] at H
                  have LMc56 := Aside0.mk c56
                  clear c56
                  obtain ⟨y130, hy130⟩ : ∃ y_ : List (List Int), y_ = (x6_1 ++ [x8_3]) := ⟨_, rfl⟩
                  replace H : (impl_determinantModulo.l0 k3 a1 x5_1 y130 (t101.length : Int) (wrap64 (x23_1 + 1))) = some r := by first | (rw [hy130]; with_reducible exact H) | (have H2_ := (Option.bind_some _ _).symm.trans H; rw [hy130]; with_reducible exact H2_) | (have H2_ := (Option.bind_some _ _).symm.trans H; with_reducible exact H2_) | with_reducible exact H | (rw [hy130]; exact H) | exact H
                  have Ny130 := Aside0.mk hy130
                  clear hy130
                  have H' := Aside0.mk H
                  clear H
                  have hza129 : decide (0 ≤ x23_1) = true := decide_eq_true (hdr_lo HH_36.out)
                  have hzb129 : decide (x23_1 < (x6_1.length : Int)) = true := decide_eq_true (by have h_ := hdr_hi HH_36.out; have e_ := (Kd.S_reads' HO_6.out).1; omega)
                  have p129 : 0 ≤ (x23_1 : Int) := oD
                  have q129 : x23_1 < (x6_1.length : Int) := oD
                  obtain ⟨ad129, A129_0, c129_0, e129, hx129_0, hl129_0, hi129_0⟩ := at_L1 (Kd.S_reads' HO_6.out).2.2 x23_1 p129 q129
                  obtain rfl : ad114 = ad129 := (by injection e129)
                  obtain ⟨ce129, hce129, hMe129, hcc129⟩ := Kd.S_get HO_6.out [] x23_1 p129 (by first | exact q129 | exact oD | (have e_ := (Kd.S_reads' HO_6.out).1; omega))
                  obtain ⟨ve129_0, rfl, ge129_0⟩ := hMe129
                  have hv129_0 := hcc129 0 _ rfl
                  rw [Nat.add_zero, show ((Kd.slice 2 (Kd.int .i64))).sz = 1 from rfl, Nat.mul_one] at hv129_0
                  replace hv129_0 := Option.some.inj (hv129_0.symm.trans hx129_0)
                  rw [hv129_0] at ge129_0
                  have HL129_0 := Aside0.mk (show Kd.R (Kd.int .i64) 2 _ _ _ _ (rd_L1 x6_1 x23_1) from ge129_0)
                  clear hv129_0 ge129_0
                  have HX129_0 := Aside0.mk hx129_0
                  clear hcc129 hce129
                  have HR129_0 := Aside0.mk hi129_0
                  have HC129_0 := Aside0.mk hl129_0
                  clear hi129_0 hl129_0
                  replace p129 := eq_true p129
                  replace q129 := eq_true q129
                  obtain rfl := hdr_eq HH_36.out HX129_0.out
                  obtain ⟨Ao58, co58, eo58⟩ := Kd.R_slice HO_8.out
                  subst eo58
                  go_wp2_with (first | ((with_reducible refine gate_builtin (b := .append) (xs := #[.tmp 123, .tmp 125]) rfl ?_); at_builtin; refine Kd.S_append (Kd.slice 2 (Kd.int .i64)) (w0 := w) w.heap.size rfl (.tmp 123) (.tmp 125) 22 32 (.slice none 0 0) 24 rfl Try.underlying22 info32 rfl (by decide) (by omega) (.slice (some ad114) x6_1.length co15) x6_1 x8_3 [.slice Ao58 x8_3.length co58] (fun k_ => some k_ ≠ (.slice Ao9 x5_1.length co9 : Value).ownBlock) (fun k_ => some k_ = (.slice Ao58 x8_3.length co58 : Value).ownBlock) rfl rfl ?aP (fun k_ hk_ => ((Kd.R_mono (ok' := fun k_ => ((fun k_ => some k_ ≠ (.slice Ao9 x5_1.length co9 : Value).ownBlock)) k_ ∧ some k_ ≠ (.slice (some ad114) x6_1.length co15 : Value).ownBlock) (Kd.R_apart' (Kd.R_apart' (HO_8.out) (Kd.S_typed HO_5.out) (by decide)) (Kd.S_typed HO_6.out) (by decide)) (fun k_ hk => ⟨hk.1.2, hk.2⟩))).1 k_ hk_.symm) ?aF ?aO ?aB ?aS ?aL ?_; (case aP => exact Kd.M_row (Kd.R_mono (Kd.R_tight rfl (Kd.R_mono (ok' := fun k_ => ((fun k_ => some k_ ≠ (.slice Ao9 x5_1.length co9 : Value).ownBlock)) k_ ∧ some k_ ≠ (.slice (some ad114) x6_1.length co15 : Value).ownBlock) (Kd.R_apart' (Kd.R_apart' (HO_8.out) (Kd.S_typed HO_5.out) (by decide)) (Kd.S_typed HO_6.out) (by decide)) (fun k_ hk => ⟨hk.1.2, hk.2⟩))) (fun _ h_ => h_))); (case aB => exact bl); (case aF => exact (fun k_ hk => Kd.fresh' (Kd.S_lt (by (with_reducible repeat (first | apply Kd.S_alloc | apply Kd.S_drewN | apply Kd.S_drew)); exact HO_5.out)) k_ hk)); (case aO => exact (by (with_reducible repeat (first | apply Kd.S_alloc | apply Kd.S_drewN | apply Kd.S_drew)); exact Kd.S_mono HO_6.out (fun k_ hk => ⟨hk.1, fun e_ => hk.2 e_⟩))); (case aS => exact (below_size bl)); (case aL => have := LMc56.out; omega); intro v131 w57 ho hb hg hat; rw [← Ny130.out] at ho; have n0_ := Aside0.mk (Kd.S_after (ok := (fun k_ => some k_ ≠ (.slice Ao58 x8_3.length co58 : Value).ownBlock)) (by (with_reducible repeat (first | apply Kd.S_alloc | apply Kd.S_drewN | apply Kd.S_drew)); exact Kd.S_mono HO_5.out (fun _ hk => ⟨hk.2, hk.1⟩)) hg hat); have n1_ := Aside0.mk (Kd.R_after (ok := (fun k_ => some k_ ≠ (.slice Ao9 x5_1.length co9 : Value).ownBlock ∧ some k_ ≠ (.slice Ao58 x8_3.length co58 : Value).ownBlock)) (by (with_reducible repeat (first | apply Kd.R_alloc | apply Kd.R_drewN | apply Kd.R_drew)); exact HL129_0.out) hg hat); have n2_ := Aside0.mk (hb); have n3_ := Aside0.mk (ho); clear HO_5; clear HL129_0; clear HB; clear HO_6; clear HO_8; have HO_5 := n0_; have HL129_0 := n1_; have HB := n2_; have HO132 := n3_; clear n0_ n1_ n2_ n3_; clear ho hb hg hat))
                  (try simp only [← hl5_1])
                  first | go_roundg k3 | (simp only [← hji21]; go_roundg k3) | (simp only [← hji33]; go_roundg k3) | (simp only [← hji43]; go_roundg k3) | ((try (have e_ := HGZ36_2.out; injection e_ with e1_ e2_ e3_; subst e1_ e3_)); (try (have e_ := HGZ36_3.out; injection e_ with e1_ e2_ e3_; subst e1_ e3_)); (try (have e_ := HGZ36_4.out; injection e_ with e1_ e2_ e3_; subst e1_ e3_)); (try (have e_ := HGZ86_4.out; injection e_ with e1_ e2_ e3_; subst e1_ e3_)); go_roundg k3)
                  case measure => have := HK1.out; have := HK2.out; have := HK3.out; omega
                  case rel => exact ⟨(x5_1), (y130), (wrap64 (x23_1 + 1)), rs, (by first | exact H' | (rw [hji21]; exact H') | (rw [hji33]; exact H') | (rw [hji43]; exact H')), ⟨by have := HK1.out; have := HK2.out; have := HK3.out; omega⟩, ⟨by (try simp only [hl5_1]); (with_reducible repeat (first | apply Kd.S_alloc | apply Kd.S_drewN | apply Kd.S_drew)); exact Kd.S_mono HO_5.out (fun _ hk => hk.2)⟩, ⟨by (try simp only [hl5_1]); (with_reducible repeat (first | apply Kd.S_alloc | apply Kd.S_drewN | apply Kd.S_drew)); exact HO132.out⟩, ⟨bl⟩⟩
                rw [if_pos c32] at H
                have c32b0 : decide (0 ≤ x12_3) = true := decide_eq_true c32
                clear c32
                obtain ⟨ji33, hji33⟩ : ∃ j_ : Int, (wrap64 (x12_3 + 1)) = j_ := ⟨_, rfl⟩
                replace H : (if 0 ≤ (ji33) then (if (ji33) < (x5_1.length : Int) then (if 0 ≤ x12_3 then (if x12_3 < ((rd_L1 x5_1 (ji33)).length : Int) then (if a1 = 0 then (none) else (if x12_3 < (x6_1.length : Int) then (impl_determinantModulo.l3 k3 a1 x5_1 x6_1 x23_1 x8_3 (Int.tmod (wrap64 (x11_3 * (rd (rd_L1 x5_1 (ji33)) x12_3))) a1) x12_3 (t101.length : Int) x23_1 ((rd_L1 x6_1 x12_3).length : Int) 0) else (none))) else (none)) else (none)) else (none)) else (none)) = some r := by first | (rw [hji33] at H; exact H) | (simp only [hji33] at H ⊢; exact H)
                have hji33w : (IntKind.i64.wrap (x12_3 + 1)) = ji33 := (i64_w _).trans hji33
                by_cases c34 : 0 ≤ (ji33)
                case neg => rw [if_neg c34] at H; exact absurd H (by simp)
                rw [if_pos c34] at H
                have c34b0 : decide (0 ≤ (ji33)) = true := decide_eq_true c34
                clear c34
                by_cases c35 : (ji33) < (x5_1.length : Int)
                case neg => rw [if_neg c35] at H; exact absurd H (by simp)
                rw [if_pos c35] at H
                have c35b0 : decide ((ji33) < (x5_1.length : Int)) = true := decide_eq_true c35
                (try simp only [hl5_1] at c35b0)
                clear c35
                by_cases c36 : 0 ≤ x12_3
                case neg => rw [if_neg c36] at H; exact absurd H (by simp)
                rw [if_pos c36] at H
                have c36b0 : decide (0 ≤ x12_3) = true := decide_eq_true c36
                clear c36
                by_cases c37 : x12_3 < ((rd_L1 x5_1 (ji33)).length : Int)
                case neg => rw [if_neg c37] at H; exact absurd H (by simp)
                rw [if_pos c37] at H
                have c37b0 : decide (x12_3 < ((rd_L1 x5_1 (ji33)).length : Int)) = true := decide_eq_true c37
                (try simp only [hl5_1] at c37b0)
                clear c37
                by_cases c38 : a1 = 0
                case neg =>
                  rw [if_neg c38] at H
                  have c38b0 : (a1 == 0) = false := beq_eq_false_iff_ne.mpr c38
                  have c38b1 : (a1 != 0) = true := bne_iff_ne.mpr c38
                  by_cases c39 : x12_3 < (x6_1.length : Int)
                  case neg => rw [if_neg c39] at H; exact absurd H (by simp)
                  rw [if_pos c39] at H
                  have c39b0 : decide (x12_3 < (x6_1.length : Int)) = true := decide_eq_true c39
                  (try simp only [hl5_1] at c39b0)
                  clear c39
                  have H' := Aside0.mk H
                  clear H
                  have hza129 : decide (0 ≤ x23_1) = true := decide_eq_true (hdr_lo HH_36.out)
                  have hzb129 : decide (x23_1 < (x6_1.length : Int)) = true := decide_eq_true (by have h_ := hdr_hi HH_36.out; have e_ := (Kd.S_reads' HO_6.out).1; omega)
                  have p129 : 0 ≤ (x23_1 : Int) := oD
                  have q129 : x23_1 < (x6_1.length : Int) := oD
                  obtain ⟨ad129, A129_0, c129_0, e129, hx129_0, hl129_0, hi129_0⟩ := at_L1 (Kd.S_reads' HO_6.out).2.2 x23_1 p129 q129
                  obtain rfl : ad114 = ad129 := (by injection e129)
                  obtain ⟨ce129, hce129, hMe129, hcc129⟩ := Kd.S_get HO_6.out [] x23_1 p129 (by first | exact q129 | exact oD | (have e_ := (Kd.S_reads' HO_6.out).1; omega))
                  obtain ⟨ve129_0, rfl, ge129_0⟩ := hMe129
                  have hv129_0 := hcc129 0 _ rfl
                  rw [Nat.add_zero, show ((Kd.slice 2 (Kd.int .i64))).sz = 1 from rfl, Nat.mul_one] at hv129_0
                  replace hv129_0 := Option.some.inj (hv129_0.symm.trans hx129_0)
                  rw [hv129_0] at ge129_0
                  have HL129_0 := Aside0.mk (show Kd.R (Kd.int .i64) 2 _ _ _ _ (rd_L1 x6_1 x23_1) from ge129_0)
                  clear hv129_0 ge129_0
                  have HX129_0 := Aside0.mk hx129_0
                  clear hcc129 hce129
                  have HR129_0 := Aside0.mk hi129_0
                  have HC129_0 := Aside0.mk hl129_0
                  clear hi129_0 hl129_0
                  replace p129 := eq_true p129
                  replace q129 := eq_true q129
                  obtain rfl := hdr_eq HH_36.out HX129_0.out
                  have p133 : 0 ≤ ((ji33) : Int) := oD
                  have q133 : (ji33) < (x5_1.length : Int) := oD
                  obtain ⟨ad133, A133_0, c133_0, e133, hx133_0, hl133_0, hi133_0⟩ := at_L1 (Kd.S_reads' HO_5.out).2.2 (ji33) p133 q133
                  cases e133
                  obtain ⟨ce133, hce133, hMe133, hcc133⟩ := Kd.S_get HO_5.out [] (ji33) p133 (by first | exact q133 | exact oD | (have e_ := (Kd.S_reads' HO_5.out).1; omega))
                  obtain ⟨ve133_0, rfl, ge133_0⟩ := hMe133
                  have hv133_0 := hcc133 0 _ rfl
                  rw [Nat.add_zero, show ((Kd.slice 2 (Kd.int .i64))).sz = 1 from rfl, Nat.mul_one] at hv133_0
                  replace hv133_0 := Option.some.inj (hv133_0.symm.trans hx133_0)
                  rw [hv133_0] at ge133_0
                  have HL133_0 := Aside0.mk (show Kd.R (Kd.int .i64) 2 _ _ _ _ (rd_L1 x5_1 (ji33)) from ge133_0)
                  clear hv133_0 ge133_0
                  have HX133_0 := Aside0.mk hx133_0
                  clear hcc133 hce133
                  have HR133_0 := Aside0.mk hi133_0
                  have HC133_0 := Aside0.mk hl133_0
                  clear hi133_0 hl133_0
                  replace p133 := eq_true p133
                  replace q133 := eq_true q133
                  have p134 : 0 ≤ (x12_3 : Int) := oD
                  have q134 : x12_3 < ((rd_L1 x5_1 (ji33)).length : Int) := oD
                  obtain ⟨ad134, e134, hx134_0⟩ := Kd.at_int (by repeat (first | (with_reducible exact HR133_0.out) | (with_reducible refine Kd.C_alloc ?_ _) | (with_reducible refine Kd.C_drewN ?_ _) | (with_reducible refine Kd.C_drew ?_) | exact HR133_0.out)) x12_3 p134 q134
                  cases e134
                  replace p134 := eq_true p134
                  replace q134 := eq_true q134
                  have p135 : 0 ≤ (x12_3 : Int) := oD
                  have q135 : x12_3 < (x6_1.length : Int) := oD
                  obtain ⟨ad135, A135_0, c135_0, e135, hx135_0, hl135_0, hi135_0⟩ := at_L1 (Kd.S_reads' HO_6.out).2.2 x12_3 p135 q135
                  obtain rfl : ad114 = ad135 := (by injection e135)
                  obtain ⟨ce135, hce135, hMe135, hcc135⟩ := Kd.S_get HO_6.out [] x12_3 p135 (by first | exact q135 | exact oD | (have e_ := (Kd.S_reads' HO_6.out).1; omega))
                  obtain ⟨ve135_0, rfl, ge135_0⟩ := hMe135
                  have hv135_0 := hcc135 0 _ rfl
                  rw [Nat.add_zero, show ((Kd.slice 2 (Kd.int .i64))).sz = 1 from rfl, Nat.mul_one] at hv135_0
                  replace hv135_0 := Option.some.inj (hv135_0.symm.trans hx135_0)
                  rw [hv135_0] at ge135_0
                  have HL135_0 := Aside0.mk (show Kd.R (Kd.int .i64) 2 _ _ _ _ (rd_L1 x6_1 x12_3) from ge135_0)
                  clear hv135_0 ge135_0
                  have HX135_0 := Aside0.mk hx135_0
                  clear hcc135 hce135
                  have HR135_0 := Aside0.mk hi135_0
                  have HC135_0 := Aside0.mk hl135_0
                  clear hi135_0 hl135_0
                  replace p135 := eq_true p135
                  replace q135 := eq_true q135
                  go_wp2
                  generalize hgz36_4 : (.slice A129_0 (rd_L1 x6_1 x23_1).length c129_0 : Value) = vz36_4
                  have HGZ36_4 := Aside0.mk hgz36_4
                  clear hgz36_4
                  generalize hgz86_4 : (.slice A135_0 (rd_L1 x6_1 x12_3).length c135_0 : Value) = vz86_4
                  have HGZ86_4 := Aside0.mk hgz86_4
                  clear hgz86_4
                  go_loopg [88] k3 (fun kq v88 w' => ∃ (x8_4 : List Int) (x88_4 : Int), v88 = .int .i64 x88_4 ∧ Aside0 (impl_determinantModulo.l3 kq a1 x5_1 x6_1 x23_1 x8_4 (Int.tmod (wrap64 (x11_3 * (rd (rd_L1 x5_1 (ji33)) x12_3))) a1) x12_3 (t101.length : Int) x23_1 ((rd_L1 x6_1 x12_3).length : Int) x88_4 = some r) ∧ Aside0 (kq ≤ k3) ∧ Aside0 (HdrOf w' (.slice (some ad114) x6_1.length co15) x23_1 vz36_4) ∧ Aside0 (HdrOf w' (.slice (some ad114) x6_1.length co15) x12_3 vz86_4) ∧ Aside0 (Kd.S (Kd.slice 2 (Kd.int .i64)) 32 w' w.heap.size (fun k_ => some k_ ≠ ((.slice (some ad114) x6_1.length co15) : Value).ownBlock ∧ some k_ ≠ (v119 : Value).ownBlock) (.slice (some ad133) x5_1.length co9) x5_1) ∧ Aside0 (Kd.S (Kd.slice 2 (Kd.int .i64)) 32 w' w.heap.size (fun k_ => some k_ ≠ ((.slice (some ad133) x5_1.length co9) : Value).ownBlock ∧ some k_ ≠ (v119 : Value).ownBlock) (.slice (some ad114) x6_1.length co15) x6_1) ∧ Aside0 (Kd.R (Kd.int .i64) 2 w' w.heap.size (fun _ => True) v119 x8_4) ∧ Aside0 (Below w.heap.size w w'))
                  case atStart => exact ⟨(x8_3), (0), rs, H', ⟨Nat.le_refl _⟩, ⟨by (with_reducible repeat (first | apply HdrOf.alloc | apply HdrOf.drewN | apply HdrOf.drew)); first | exact ⟨_, _, _, rfl, (by first | exact of_eq_true p129 | exact hdr_lo HH_36.out | omega), (by first | exact of_eq_true q129 | exact hdr_hi HH_36.out | (have h_ := of_eq_true q129; omega) | (have h_ := hdr_hi HH_36.out; omega)), HX129_0.out⟩ | (rw [← HGZ36_4.out]; exact ⟨_, _, _, rfl, (by first | exact of_eq_true p129 | exact hdr_lo HH_36.out | omega), (by first | exact of_eq_true q129 | exact hdr_hi HH_36.out | (have h_ := of_eq_true q129; omega) | (have h_ := hdr_hi HH_36.out; omega)), HX129_0.out⟩)⟩, ⟨by (with_reducible repeat (first | apply HdrOf.alloc | apply HdrOf.drewN | apply HdrOf.drew)); first | exact ⟨_, _, _, rfl, (by first | exact of_eq_true p135 | exact hdr_lo HH_86.out | omega), (by first | exact of_eq_true q135 | exact hdr_hi HH_86.out | (have h_ := of_eq_true q135; omega) | (have h_ := hdr_hi HH_86.out; omega)), HX135_0.out⟩ | (rw [← HGZ86_4.out]; exact ⟨_, _, _, rfl, (by first | exact of_eq_true p135 | exact hdr_lo HH_86.out | omega), (by first | exact of_eq_true q135 | exact hdr_hi HH_86.out | (have h_ := of_eq_true q135; omega) | (have h_ := hdr_hi HH_86.out; omega)), HX135_0.out⟩)⟩, ⟨by (try simp only [hl5_1]); (with_reducible repeat (first | apply Kd.S_alloc | apply Kd.S_drewN | apply Kd.S_drew)); exact HO_5.out⟩, ⟨by (try simp only [hl5_1]); (with_reducible repeat (first | apply Kd.S_alloc | apply Kd.S_drewN | apply Kd.S_drew)); exact HO_6.out⟩, ⟨by (try simp only [hl5_1]); (with_reducible repeat (first | apply Kd.R_alloc | apply Kd.R_drewN | apply Kd.R_drew)); exact HO_8.out⟩, ⟨bl⟩⟩
                  case round =>
                    clear H'
                    (try clear c1); (try clear p1); (try clear q1); (try clear hx1); (try clear c2); (try clear p2); (try clear q2); (try clear hx2); (try clear hf2); (try clear c3); (try clear c4); (try clear p6); (try clear c8); (try clear c10); (try clear c10b0); (try clear c11); (try clear c11b0); (try clear p11); (try clear q11); (try clear hx11); (try clear c12); (try clear c12b0); (try clear p12); (try clear q12); (try clear hx12); (try clear c13); (try clear p13); (try clear q13); (try clear hx13); (try clear c14); (try clear c18); (try clear c18b0); (try clear c19); (try clear c19b0); (try clear c20); (try clear c20b0); (try clear c22); (try clear c22b0); (try clear c23); (try clear c23b0); (try clear c24); (try clear c24b0); (try clear c25); (try clear c25b0); (try clear c26); (try clear c26b0); (try clear p28); (try clear q28); (try clear hx28); (try clear hf28); (try clear c32); (try clear c32b0); (try clear c34); (try clear c34b0); (try clear c35); (try clear c35b0); (try clear c36); (try clear c36b0); (try clear c37); (try clear c37b0); (try clear c38); (try clear c38b0); (try clear c38b1); (try clear c39); (try clear c39b0); (try clear hx114_0); (try clear hx121_0); (try clear hx122_0); (try clear hx123_0); (try clear hx124_0); (try clear hx125_0); (try clear hx126_0); (try clear hx129_0); (try clear hx133_0); (try clear hx134_0); (try clear hx135_0); (try clear hx28_0); (try clear p1); (try clear p11); (try clear p114); (try clear p12); (try clear p121); (try clear p122); (try clear p123); (try clear p124); (try clear p125); (try clear p126); (try clear p129); (try clear p133); (try clear p134); (try clear p135); (try clear p2); (try clear p28); (try clear p6); (try clear q1); (try clear q11); (try clear q114); (try clear q12); (try clear q121); (try clear q122); (try clear q123); (try clear q124); (try clear q125); (try clear q126); (try clear q129); (try clear q133); (try clear q134); (try clear q135); (try clear q2); (try clear q28)
                    obtain ⟨x8_4, x88_4, rfl, HA, HK4, HH_36, HH_86, HO_5, HO_6, HO_8, HB⟩ := hrel
                    cases gk with
                    | zero => exact absurd HA.out (by simp [impl_determinantModulo.l3])
                    | succ k4 =>
                      have H := HA.out
                      clear HA
                      simp only [impl_determinantModulo.l3] at H
                      by_cases c40 : x88_4 < ((rd_L1 x6_1 x12_3).length : Int)
                      case neg =>
                        rw [if_neg c40] at H
                        have c40b0 : decide (x88_4 < ((rd_L1 x6_1 x12_3).length : Int)) = false := decide_eq_false c40
                        (try simp only [hl5_1] at c40b0)
                        clear c40
                        have H' := Aside0.mk H
                        clear H
                        have hza136 : decide (0 ≤ x23_1) = true := decide_eq_true (hdr_lo HH_36.out)
                        have hzb136 : decide (x23_1 < (x6_1.length : Int)) = true := decide_eq_true (by have h_ := hdr_hi HH_36.out; have e_ := (Kd.S_reads' HO_6.out).1; omega)
                        have p136 : 0 ≤ (x23_1 : Int) := oD
                        have q136 : x23_1 < (x6_1.length : Int) := oD
                        obtain ⟨ad136, A136_0, c136_0, e136, hx136_0, hl136_0, hi136_0⟩ := at_L1 (Kd.S_reads' HO_6.out).2.2 x23_1 p136 q136
                        obtain rfl : ad114 = ad136 := (by injection e136)
                        obtain ⟨ce136, hce136, hMe136, hcc136⟩ := Kd.S_get HO_6.out [] x23_1 p136 (by first | exact q136 | exact oD | (have e_ := (Kd.S_reads' HO_6.out).1; omega))
                        obtain ⟨ve136_0, rfl, ge136_0⟩ := hMe136
                        have hv136_0 := hcc136 0 _ rfl
                        rw [Nat.add_zero, show ((Kd.slice 2 (Kd.int .i64))).sz = 1 from rfl, Nat.mul_one] at hv136_0
                        replace hv136_0 := Option.some.inj (hv136_0.symm.trans hx136_0)
                        rw [hv136_0] at ge136_0
                        have HL136_0 := Aside0.mk (show Kd.R (Kd.int .i64) 2 _ _ _ _ (rd_L1 x6_1 x23_1) from ge136_0)
                        clear hv136_0 ge136_0
                        have HX136_0 := Aside0.mk hx136_0
                        clear hcc136 hce136
                        have HR136_0 := Aside0.mk hi136_0
                        have HC136_0 := Aside0.mk hl136_0
                        clear hi136_0 hl136_0
                        replace p136 := eq_true p136
                        replace q136 := eq_true q136
                        obtain rfl := hdr_eq HH_36.out HX136_0.out
                        have hza137 : decide (0 ≤ x12_3) = true := decide_eq_true (hdr_lo HH_86.out)
                        have hzb137 : decide (x12_3 < (x6_1.length : Int)) = true := decide_eq_true (by have h_ := hdr_hi HH_86.out; have e_ := (Kd.S_reads' HO_6.out).1; omega)
                        have p137 : 0 ≤ (x12_3 : Int) := oD
                        have q137 : x12_3 < (x6_1.length : Int) := oD
                        obtain ⟨ad137, A137_0, c137_0, e137, hx137_0, hl137_0, hi137_0⟩ := at_L1 (Kd.S_reads' HO_6.out).2.2 x12_3 p137 q137
                        obtain rfl : ad114 = ad137 := (by injection e137)
                        obtain ⟨ce137, hce137, hMe137, hcc137⟩ := Kd.S_get HO_6.out [] x12_3 p137 (by first | exact q137 | exact oD | (have e_ := (Kd.S_reads' HO_6.out).1; omega))
                        obtain ⟨ve137_0, rfl, ge137_0⟩ := hMe137
                        have hv137_0 := hcc137 0 _ rfl
                        rw [Nat.add_zero, show ((Kd.slice 2 (Kd.int .i64))).sz = 1 from rfl, Nat.mul_one] at hv137_0
                        replace hv137_0 := Option.some.inj (hv137_0.symm.trans hx137_0)
                        rw [hv137_0] at ge137_0
                        have HL137_0 := Aside0.mk (show Kd.R (Kd.int .i64) 2 _ _ _ _ (rd_L1 x6_1 x12_3) from ge137_0)
                        clear hv137_0 ge137_0
                        have HX137_0 := Aside0.mk hx137_0
                        clear hcc137 hce137
                        have HR137_0 := Aside0.mk hi137_0
                        have HC137_0 := Aside0.mk hl137_0
                        clear hi137_0 hl137_0
                        replace p137 := eq_true p137
                        replace q137 := eq_true q137
                        obtain rfl := hdr_eq HH_86.out HX137_0.out
                        go_wp2
                        first | go_roundg k4 | (simp only [← hji21]; go_roundg k4) | (simp only [← hji33]; go_roundg k4) | (simp only [← hji43]; go_roundg k4) | ((try (have e_ := HGZ36_2.out; injection e_ with e1_ e2_ e3_; subst e1_ e3_)); (try (have e_ := HGZ36_3.out; injection e_ with e1_ e2_ e3_; subst e1_ e3_)); (try (have e_ := HGZ36_4.out; injection e_ with e1_ e2_ e3_; subst e1_ e3_)); (try (have e_ := HGZ86_4.out; injection e_ with e1_ e2_ e3_; subst e1_ e3_)); go_roundg k4)
                        case measure => have := HK1.out; have := HK2.out; have := HK3.out; have := HK4.out; omega
                        case rel => exact ⟨(x8_4), ((Int.tmod (wrap64 (x11_3 * (rd (rd_L1 x5_1 (ji33)) x12_3))) a1)), (wrap64 (x12_3 - 1)), (by first | rfl | (simp; done) | (simp only [← hji33] <;> (first | rfl | simp)) | (simp [*]; done)), rs, (by first | exact H' | (rw [hji21]; exact H') | (rw [hji33]; exact H') | (rw [hji43]; exact H')), ⟨by have := HK1.out; have := HK2.out; have := HK3.out; have := HK4.out; omega⟩, ⟨by (with_reducible repeat (first | apply HdrOf.alloc | apply HdrOf.drewN | apply HdrOf.drew)); first | exact ⟨_, _, _, rfl, (by first | exact of_eq_true p136 | exact hdr_lo HH_36.out | omega), (by first | exact of_eq_true q136 | exact hdr_hi HH_36.out | (have h_ := of_eq_true q136; omega) | (have h_ := hdr_hi HH_36.out; omega)), HX136_0.out⟩ | (rw [← HGZ36_3.out]; exact ⟨_, _, _, rfl, (by first | exact of_eq_true p136 | exact hdr_lo HH_36.out | omega), (by first | exact of_eq_true q136 | exact hdr_hi HH_36.out | (have h_ := of_eq_true q136; omega) | (have h_ := hdr_hi HH_36.out; omega)), HX136_0.out⟩)⟩, ⟨by (try simp only [hl5_1]); (with_reducible repeat (first | apply Kd.S_alloc | apply Kd.S_drewN | apply Kd.S_drew)); exact HO_5.out⟩, ⟨by (try simp only [hl5_1]); (with_reducible repeat (first | apply Kd.S_alloc | apply Kd.S_drewN | apply Kd.S_drew)); exact HO_6.out⟩, ⟨by (try simp only [hl5_1]); (with_reducible repeat (first | apply Kd.R_alloc | apply Kd.R_drewN | apply Kd.R_drew)); exact HO_8.out⟩, ⟨bl⟩⟩
                      rw [if_pos c40] at H
                      have c40b0 : decide (x88_4 < ((rd_L1 x6_1 x12_3).length : Int)) = true := decide_eq_true c40
                      (try simp only [hl5_1] at c40b0)
                      clear c40
                      by_cases c41 : 0 ≤ x88_4
                      case neg => rw [if_neg c41] at H; exact absurd H (by simp)
                      rw [if_pos c41] at H
                      have c41b0 : decide (0 ≤ x88_4) = true := decide_eq_true c41
                      clear c41
                      by_cases c42 : x88_4 < ((rd_L1 x6_1 x12_3).length : Int)
                      case neg => rw [if_neg c42] at H; exact absurd H (by simp)
                      rw [if_pos c42] at H
                      have c42b0 : decide (x88_4 < ((rd_L1 x6_1 x12_3).length : Int)) = true := decide_eq_true c42
                      (try simp only [hl5_1] at c42b0)
                      clear c42
                      obtain ⟨ji43, hji43⟩ : ∃ j_ : Int, (wrap64 ((wrap64 ((wrap64 (x88_4 + x23_1)) - x12_3)) + 1)) = j_ := ⟨_, rfl⟩
                      replace H : (if 0 ≤ (ji43) then (if (ji43) < (x8_4.length : Int) then (if 0 ≤ x12_3 then (if x12_3 < (x5_1.length : Int) then (if 0 ≤ x23_1 then (if x23_1 < ((rd_L1 x5_1 x12_3).length : Int) then (if a1 = 0 then (none) else ((impl_modulo.f (wrap64 ((rd x8_4 (ji43)) - (wrap64 ((Int.tmod (wrap64 ((Int.tmod (wrap64 (x11_3 * (rd (rd_L1 x5_1 (ji33)) x12_3))) a1) * (rd (rd_L1 x5_1 x12_3) x23_1))) a1) * (rd (rd_L1 x6_1 x12_3) x88_4))))) a1).bind fun t142 => (impl_determinantModulo.l3 k4 a1 x5_1 x6_1 x23_1 (x8_4.set ((ji43) : Int).toNat t142) (Int.tmod (wrap64 (x11_3 * (rd (rd_L1 x5_1 (ji33)) x12_3))) a1) x12_3 (t101.length : Int) x23_1 ((rd_L1 x6_1 x12_3).length : Int) (wrap64 (x88_4 + 1))))) else (none)) else (none)) else (none)) else (none)) else (none)) else (none)) = some r := by first | (rw [hji43] at H; exact H) | (simp only [hji43] at H ⊢; exact H)
                      have hji43w : (IntKind.i64.wrap ((wrap64 ((wrap64 (x88_4 + x23_1)) - x12_3)) + 1)) = ji43 := (i64_w _).trans hji43
                      by_cases c44 : 0 ≤ (ji43)
                      case neg => rw [if_neg c44] at H; exact absurd H (by simp)
                      rw [if_pos c44] at H
                      have c44b0 : decide (0 ≤ (ji43)) = true := decide_eq_true c44
                      clear c44
                      by_cases c45 : (ji43) < (x8_4.length : Int)
                      case neg => rw [if_neg c45] at H; exact absurd H (by simp)
                      rw [if_pos c45] at H
                      have c45b0 : decide ((ji43) < (x8_4.length : Int)) = true := decide_eq_true c45
                      (try simp only [hl5_1] at c45b0)
                      clear c45
                      by_cases c46 : 0 ≤ x12_3
                      case neg => rw [if_neg c46] at H; exact absurd H (by simp)
                      rw [if_pos c46] at H
                      have c46b0 : decide (0 ≤ x12_3) = true := decide_eq_true c46
                      clear c46
                      by_cases c47 : x12_3 < (x5_1.length : Int)
                      case neg => rw [if_neg c47] at H; exact absurd H (by simp)
                      rw [if_pos c47] at H
                      have c47b0 : decide (x12_3 < (x5_1.length : Int)) = true := decide_eq_true c47
                      (try simp only [hl5_1] at c47b0)
                      clear c47
                      by_cases c48 : 0 ≤ x23_1
                      case neg => rw [if_neg c48] at H; exact absurd H (by simp)
                      rw [if_pos c48] at H
                      have c48b0 : decide (0 ≤ x23_1) = true := decide_eq_true c48
                      clear c48
                      by_cases c49 : x23_1 < ((rd_L1 x5_1 x12_3).length : Int)
                      case neg => rw [if_neg c49] at H; exact absurd H (by simp)
                      rw [if_pos c49] at H
                      have c49b0 : decide (x23_1 < ((rd_L1 x5_1 x12_3).length : Int)) = true := decide_eq_true c49
                      (try simp only [hl5_1] at c49b0)
                      clear c49
                      by_cases c50 : a1 = 0
                      case neg =>
                        rw [if_neg c50] at H
                        have c50b0 : (a1 == 0) = false := beq_eq_false_iff_ne.mpr c50
                        have c50b1 : (a1 != 0) = true := bne_iff_ne.mpr c50
                        replace H := Option.bind_eq_some_iff.mp H
                        obtain ⟨t142, A510, H⟩ := H
                        replace H : (impl_determinantModulo.l3 k4 a1 x5_1 x6_1 x23_1 (x8_4.set ((ji43) : Int).toNat t142) (Int.tmod (wrap64 (x11_3 * (rd (rd_L1 x5_1 (ji33)) x12_3))) a1) x12_3 (t101.length : Int) x23_1 ((rd_L1 x6_1 x12_3).length : Int) (wrap64 (x88_4 + 1))) = some r := H
                        have A51 := Aside0.mk A510
                        clear A510
                        obtain ⟨y143, hy143⟩ : ∃ y_ : List Int, y_ = (x8_4.set ((ji43) : Int).toNat t142) := ⟨_, rfl⟩
                        replace H : (impl_determinantModulo.l3 k4 a1 x5_1 x6_1 x23_1 y143 (Int.tmod (wrap64 (x11_3 * (rd (rd_L1 x5_1 (ji33)) x12_3))) a1) x12_3 (t101.length : Int) x23_1 ((rd_L1 x6_1 x12_3).length : Int) (wrap64 (x88_4 + 1))) = some r := by first | (rw [hy143]; with_reducible exact H) | (have H2_ := (Option.bind_some _ _).symm.trans H; rw [hy143]; with_reducible exact H2_) | (have H2_ := (Option.bind_some _ _).symm.trans H; with_reducible exact H2_) | with_reducible exact H | (rw [hy143]; exact H) | exact H
                        have Ny143 := Aside0.mk hy143
                        clear hy143
                        have H' := Aside0.mk H
                        clear H
                        have hza136 : decide (0 ≤ x23_1) = true := decide_eq_true (hdr_lo HH_36.out)
                        have hzb136 : decide (x23_1 < (x6_1.length : Int)) = true := decide_eq_true (by have h_ := hdr_hi HH_36.out; have e_ := (Kd.S_reads' HO_6.out).1; omega)
                        have p136 : 0 ≤ (x23_1 : Int) := oD
                        have q136 : x23_1 < (x6_1.length : Int) := oD
                        obtain ⟨ad136, A136_0, c136_0, e136, hx136_0, hl136_0, hi136_0⟩ := at_L1 (Kd.S_reads' HO_6.out).2.2 x23_1 p136 q136
                        obtain rfl : ad114 = ad136 := (by injection e136)
                        obtain ⟨ce136, hce136, hMe136, hcc136⟩ := Kd.S_get HO_6.out [] x23_1 p136 (by first | exact q136 | exact oD | (have e_ := (Kd.S_reads' HO_6.out).1; omega))
                        obtain ⟨ve136_0, rfl, ge136_0⟩ := hMe136
                        have hv136_0 := hcc136 0 _ rfl
                        rw [Nat.add_zero, show ((Kd.slice 2 (Kd.int .i64))).sz = 1 from rfl, Nat.mul_one] at hv136_0
                        replace hv136_0 := Option.some.inj (hv136_0.symm.trans hx136_0)
                        rw [hv136_0] at ge136_0
                        have HL136_0 := Aside0.mk (show Kd.R (Kd.int .i64) 2 _ _ _ _ (rd_L1 x6_1 x23_1) from ge136_0)
                        clear hv136_0 ge136_0
                        have HX136_0 := Aside0.mk hx136_0
                        clear hcc136 hce136
                        have HR136_0 := Aside0.mk hi136_0
                        have HC136_0 := Aside0.mk hl136_0
                        clear hi136_0 hl136_0
                        replace p136 := eq_true p136
                        replace q136 := eq_true q136
                        obtain rfl := hdr_eq HH_36.out HX136_0.out
                        have hza137 : decide (0 ≤ x12_3) = true := decide_eq_true (hdr_lo HH_86.out)
                        have hzb137 : decide (x12_3 < (x6_1.length : Int)) = true := decide_eq_true (by have h_ := hdr_hi HH_86.out; have e_ := (Kd.S_reads' HO_6.out).1; omega)
                        have p137 : 0 ≤ (x12_3 : Int) := oD
                        have q137 : x12_3 < (x6_1.length : Int) := oD
                        obtain ⟨ad137, A137_0, c137_0, e137, hx137_0, hl137_0, hi137_0⟩ := at_L1 (Kd.S_reads' HO_6.out).2.2 x12_3 p137 q137
                        obtain rfl : ad114 = ad137 := (by injection e137)
                        obtain ⟨ce137, hce137, hMe137, hcc137⟩ := Kd.S_get HO_6.out [] x12_3 p137 (by first | exact q137 | exact oD | (have e_ := (Kd.S_reads' HO_6.out).1; omega))
                        obtain ⟨ve137_0, rfl, ge137_0⟩ := hMe137
                        have hv137_0 := hcc137 0 _ rfl
                        rw [Nat.add_zero, show ((Kd.slice 2 (Kd.int .i64))).sz = 1 from rfl, Nat.mul_one] at hv137_0
                        replace hv137_0 := Option.some.inj (hv137_0.symm.trans hx137_0)
                        rw [hv137_0] at ge137_0
                        have HL137_0 := Aside0.mk (show Kd.R (Kd.int .i64) 2 _ _ _ _ (rd_L1 x6_1 x12_3) from ge137_0)
                        clear hv137_0 ge137_0
                        have HX137_0 := Aside0.mk hx137_0
                        clear hcc137 hce137
                        have HR137_0 := Aside0.mk hi137_0
                        have HC137_0 := Aside0.mk hl137_0
                        clear hi137_0 hl137_0
                        replace p137 := eq_true p137
                        replace q137 := eq_true q137
                        obtain rfl := hdr_eq HH_86.out HX137_0.out
                        have p138 : 0 ≤ (x88_4 : Int) := oD
                        have q138 : x88_4 < ((rd_L1 x6_1 x12_3).length : Int) := oD
                        obtain ⟨ad138, e138, hx138_0⟩ := Kd.at_int (by repeat (first | (with_reducible exact HR137_0.out) | (with_reducible refine Kd.C_alloc ?_ _) | (with_reducible refine Kd.C_drewN ?_ _) | (with_reducible refine Kd.C_drew ?_) | exact HR137_0.out)) x88_4 p138 q138
                        cases e138
                        replace p138 := eq_true p138
                        replace q138 := eq_true q138
                        try go_wp2
                        have n0_ := Aside0.mk (Kd.S_drew HO_5.out)
                        have n1_ := Aside0.mk (Kd.S_drew HO_6.out)
                        have n2_ := Aside0.mk (Kd.R_drew HO_8.out)
                        have n3_ := Aside0.mk (Kd.R_drew HL136_0.out)
                        have n4_ := Aside0.mk (Kd.R_drew HL137_0.out)
                        have n5_ := Aside0.mk (Kd.C_drew HR136_0.out)
                        have n6_ := Aside0.mk (Kd.C_drew HR137_0.out)
                        have n7_ := Aside0.mk ((show (wr.drew).cell? _ = some _ from HX136_0.out))
                        have n8_ := Aside0.mk ((show (wr.drew).cell? _ = some _ from HX137_0.out))
                        have n9_ := Aside0.mk (below_drew1 HB.out)
                        clear HO_5
                        clear HO_6
                        clear HO_8
                        clear HL136_0
                        clear HL137_0
                        clear HR136_0
                        clear HR137_0
                        clear HX136_0
                        clear HX137_0
                        clear HB
                        have HO_5 := n0_
                        have HO_6 := n1_
                        have HO_8 := n2_
                        have HL136_0 := n3_
                        have HL137_0 := n4_
                        have HR136_0 := n5_
                        have HR137_0 := n6_
                        have HX136_0 := n7_
                        have HX137_0 := n8_
                        have HB := n9_
                        clear n0_ n1_ n2_ n3_ n4_ n5_ n6_ n7_ n8_ n9_
                        obtain ⟨Ao54, co54, eo54⟩ := Kd.R_slice HO_8.out
                        (first | subst eo54 | (injection eo54 with f1_ f2_ f3_; have f4_ := f1_.symm; have f5_ := f3_.symm; clear f1_ f2_ f3_; subst f4_; subst f5_))
                        have p139 : 0 ≤ ((ji43) : Int) := oD
                        have q139 : (ji43) < (x8_4.length : Int) := oD
                        obtain ⟨ad139, e139, hx139_0⟩ := Kd.at_int (Kd.R_reads' HO_8.out).2.2 (ji43) p139 q139
                        cases e139
                        replace p139 := eq_true p139
                        replace q139 := eq_true q139
                        have p140 : 0 ≤ (x12_3 : Int) := oD
                        have q140 : x12_3 < (x5_1.length : Int) := oD
                        obtain ⟨ad140, A140_0, c140_0, e140, hx140_0, hl140_0, hi140_0⟩ := at_L1 (Kd.S_reads' HO_5.out).2.2 x12_3 p140 q140
                        obtain rfl : ad133 = ad140 := (by injection e140)
                        obtain ⟨ce140, hce140, hMe140, hcc140⟩ := Kd.S_get HO_5.out [] x12_3 p140 (by first | exact q140 | exact oD | (have e_ := (Kd.S_reads' HO_5.out).1; omega))
                        obtain ⟨ve140_0, rfl, ge140_0⟩ := hMe140
                        have hv140_0 := hcc140 0 _ rfl
                        rw [Nat.add_zero, show ((Kd.slice 2 (Kd.int .i64))).sz = 1 from rfl, Nat.mul_one] at hv140_0
                        replace hv140_0 := Option.some.inj (hv140_0.symm.trans hx140_0)
                        rw [hv140_0] at ge140_0
                        have HL140_0 := Aside0.mk (show Kd.R (Kd.int .i64) 2 _ _ _ _ (rd_L1 x5_1 x12_3) from ge140_0)
                        clear hv140_0 ge140_0
                        have HX140_0 := Aside0.mk hx140_0
                        clear hcc140 hce140
                        have HR140_0 := Aside0.mk hi140_0
                        have HC140_0 := Aside0.mk hl140_0
                        clear hi140_0 hl140_0
                        replace p140 := eq_true p140
                        replace q140 := eq_true q140
                        have p141 : 0 ≤ (x23_1 : Int) := oD
                        have q141 : x23_1 < ((rd_L1 x5_1 x12_3).length : Int) := oD
                        obtain ⟨ad141, e141, hx141_0⟩ := Kd.at_int (by repeat (first | (with_reducible exact HR140_0.out) | (with_reducible refine Kd.C_alloc ?_ _) | (with_reducible refine Kd.C_drewN ?_ _) | (with_reducible refine Kd.C_drew ?_) | exact HR140_0.out)) x23_1 p141 q141
                        cases e141
                        replace p141 := eq_true p141
                        replace q141 := eq_true q141
                        refine start_ (n := 24) (S := fun w' => w'.cell? (ad139.add ((ji43)).toNat) = some (.int .i64 (rd x8_4 (ji43))) ∧ w'.cell? (ad133.add (x12_3).toNat) = some (.slice (some ad141) (rd_L1 x5_1 x12_3).length c140_0) ∧ w'.cell? (ad141.add (x23_1).toNat) = some (.int .i64 (rd (rd_L1 x5_1 x12_3) x23_1))) (ds := [23]) #[false, false, false, false, false, false, false, false, false, false, false, false, false, false, false, false, false, false, false, false, false, false, false, false] (by kernel_rfl) rfl rfl ⟨hx139_0, hx140_0, hx141_0⟩ (fun hHeld => ?_); refine with_tabW impl_determinantModulo.tab21 impl_determinantModulo.bits21 (fun HT_ HW_ => ?_)
                        generalize wr.drew = w53 at HO_5 HO_6 HO_8 HL136_0 HL137_0 HR136_0 HX136_0 HR137_0 HX137_0 HB HL140_0 HR140_0 HX140_0 hx139_0 hx140_0 hx141_0 hHeld ⊢
                        refine pure_ (i := 0) (N := some 99) (v := ?_) (a' := ?_) #[true, false, false, false, false, false, false, false, false, false, false, false, false, false, false, false, false, false, false, false, false, false, false, false] rfl rfl (any_of HT_.out (by kernel_rfl)) (fun _ _ _ h => h) (Or.inl ⟨by rfl, ?_⟩) ?_ ?_
                        rotate_left; · intro w'; go_simp; with_reducible rfl
                        rotate_left; · simp only [Act.put, zI, zZ, zS, i64_w, i32_w]; rfl
                        refine pure_ (i := 1) (N := some 100) (v := ?_) (a' := ?_) #[true, true, false, false, false, false, false, false, false, false, false, false, false, false, false, false, false, false, false, false, false, false, false, false] rfl rfl (any_of HT_.out (by kernel_rfl)) (fun _ _ _ h => h) (Or.inl ⟨by rfl, ?_⟩) ?_ ?_
                        rotate_left; · intro w'; go_simp; with_reducible rfl
                        rotate_left; · simp only [Act.put, zI, zZ, zS, i64_w, i32_w]; rfl
                        refine pure_ (i := 2) (N := some 101) (v := ?_) (a' := ?_) #[true, true, true, false, false, false, false, false, false, false, false, false, false, false, false, false, false, false, false, false, false, false, false, false] rfl rfl (any_of HT_.out (by kernel_rfl)) (fun _ _ _ h => h) (Or.inl ⟨by rfl, ?_⟩) ?_ ?_
                        rotate_left; · intro w'; go_simp; with_reducible rfl
                        rotate_left; · simp only [Act.put, zI, zZ, zS, i64_w, i32_w]; rfl
                        refine pure_ (i := 3) (N := some 102) (v := ?_) (a' := ?_) #[true, true, true, true, false, false, false, false, false, false, false, false, false, false, false, false, false, false, false, false, false, false, false, false] rfl rfl (any_of HT_.out (by kernel_rfl)) (fun _ _ _ h => h) (Or.inl ⟨by rfl, ?_⟩) ?_ ?_
                        rotate_left; · intro w'; go_simp; with_reducible rfl
                        rotate_left; · simp only [Act.put, zI, zZ, zS, i64_w, i32_w]; rfl
                        refine pure_ (i := 4) (N := some 103) (v := ?_) (a' := ?_) #[true, true, true, true, true, false, false, false, false, false, false, false, false, false, false, false, false, false, false, false, false, false, false, false] rfl rfl (any_of HT_.out (by kernel_rfl)) (fun _ _ _ h => h) (Or.inl ⟨by rfl, ?_⟩) ?_ ?_
                        rotate_left; · intro w'; go_simp; with_reducible rfl
                        rotate_left; · simp only [Act.put, zI, zZ, zS, i64_w, i32_w]; rfl
                        refine pure_ (i := 6) (N := some 105) (v := ?_) (a' := ?_) #[true, true, true, true, true, false, true, false, false, false, false, false, false, false, false, false, false, false, false, false, false, false, false, false] rfl rfl (any_of HT_.out (by kernel_rfl)) (fun _ _ _ h => h) (Or.inl ⟨by rfl, ?_⟩) ?_ ?_
                        rotate_left; · intro w'; go_simp; with_reducible rfl
                        rotate_left; · simp only [Act.put, zI, zZ, zS, i64_w, i32_w]; rfl
                        refine pure_ (i := 7) (N := some 106) (v := ?_) (a' := ?_) #[true, true, true, true, true, false, true, true, false, false, false, false, false, false, false, false, false, false, false, false, false, false, false, false] rfl rfl (any_of HT_.out (by kernel_rfl)) (fun _ _ _ h => h) (Or.inl ⟨by rfl, ?_⟩) ?_ ?_
                        rotate_left; · intro w'; go_simp; with_reducible rfl
                        rotate_left; · simp only [Act.put, zI, zZ, zS, i64_w, i32_w]; rfl
                        refine pure_ (i := 8) (N := some 107) (v := ?_) (a' := ?_) #[true, true, true, true, true, false, true, true, true, false, false, false, false, false, false, false, false, false, false, false, false, false, false, false] rfl rfl (any_of HT_.out (by kernel_rfl)) (fun _ _ _ h => h) (Or.inl ⟨by rfl, ?_⟩) ?_ ?_
                        rotate_left; · intro w'; go_simp; with_reducible rfl
                        rotate_left; · simp only [Act.put, zI, zZ, zS, i64_w, i32_w]; rfl
                        refine pure_ (i := 9) (N := some 108) (v := ?_) (a' := ?_) #[true, true, true, true, true, false, true, true, true, true, false, false, false, false, false, false, false, false, false, false, false, false, false, false] rfl rfl (any_of HT_.out (by kernel_rfl)) (fun _ _ _ h => h) (Or.inl ⟨by rfl, ?_⟩) ?_ ?_
                        rotate_left; · intro w'; go_simp; with_reducible rfl
                        rotate_left; · simp only [Act.put, zI, zZ, zS, i64_w, i32_w]; rfl
                        refine pure_ (i := 11) (N := some 110) (v := ?_) (a' := ?_) #[true, true, true, true, true, false, true, true, true, true, false, true, false, false, false, false, false, false, false, false, false, false, false, false] rfl rfl (any_of HT_.out (by kernel_rfl)) (fun _ _ _ h => h) (Or.inl ⟨by rfl, ?_⟩) ?_ ?_
                        rotate_left; · intro w'; go_simp; with_reducible rfl
                        rotate_left; · simp only [Act.put, zI, zZ, zS, i64_w, i32_w]; rfl
                        refine pure_ (i := 15) (N := some 114) (v := ?_) (a' := ?_) #[true, true, true, true, true, false, true, true, true, true, false, true, false, false, false, true, false, false, false, false, false, false, false, false] rfl rfl (any_of HT_.out (by kernel_rfl)) (fun _ _ _ h => h) (Or.inl ⟨by rfl, ?_⟩) ?_ ?_
                        rotate_left; · intro w'; go_simp; with_reducible rfl
                        rotate_left; · simp only [Act.put, zI, zZ, zS, i64_w, i32_w]; rfl
                        refine pure_ (i := 17) (N := some 116) (v := ?_) (a' := ?_) #[true, true, true, true, true, false, true, true, true, true, false, true, false, false, false, true, false, true, false, false, false, false, false, false] rfl rfl (any_of HT_.out (by kernel_rfl)) (fun _ _ _ h => h) (Or.inl ⟨by rfl, ?_⟩) ?_ ?_
                        rotate_left; · intro w'; go_simp; with_reducible rfl
                        rotate_left; · simp only [Act.put, zI, zZ, zS, i64_w, i32_w]; rfl
                        refine pure_ (i := 20) (N := some 119) (v := ?_) (a' := ?_) #[true, true, true, true, true, false, true, true, true, true, false, true, false, false, false, true, false, true, false, false, true, false, false, false] rfl rfl (any_of HT_.out (by kernel_rfl)) (fun _ _ _ h => h) (Or.inl ⟨by rfl, ?_⟩) ?_ ?_
                        rotate_left; · intro w'; go_simp; with_reducible rfl
                        rotate_left; · simp only [Act.put, zI, zZ, zS, i64_w, i32_w]; rfl
                        refine take_ (i := 5) (N := some 104) (v := ?_) (a' := ?_) #[true, true, true, true, true, true, true, true, true, true, false, true, false, false, false, true, false, true, false, false, true, false, false, false] rfl rfl (take_ofW HT_.out HW_.out (by kernel_rfl)) (fun _ _ _ h => h) (Or.inl ⟨by rfl, ?_⟩) hHeld ?_ ?_
                        rotate_left; · rintro w' ⟨s0, s1, s2⟩; go_simp; with_reducible rfl
                        rotate_left; · simp only [Act.put, zI, zZ, zS, i64_w, i32_w]; rfl
                        refine take_ (i := 10) (N := some 109) (v := ?_) (a' := ?_) #[true, true, true, true, true, true, true, true, true, true, true, true, false, false, false, true, false, true, false, false, true, false, false, false] rfl rfl (take_ofW HT_.out HW_.out (by kernel_rfl)) (fun _ _ _ h => h) (Or.inl ⟨by rfl, ?_⟩) hHeld ?_ ?_
                        rotate_left; · rintro w' ⟨s0, s1, s2⟩; go_simp; with_reducible rfl
                        rotate_left; · simp only [Act.put, zI, zZ, zS, i64_w, i32_w]; rfl
                        refine pure_ (i := 12) (N := some 111) (v := ?_) (a' := ?_) #[true, true, true, true, true, true, true, true, true, true, true, true, true, false, false, true, false, true, false, false, true, false, false, false] rfl rfl (any_of HT_.out (by kernel_rfl)) (fun _ _ _ h => h) (Or.inl ⟨by rfl, ?_⟩) ?_ ?_
                        rotate_left; · intro w'; go_simp; with_reducible rfl
                        rotate_left; · simp only [Act.put, zI, zZ, zS, i64_w, i32_w]; rfl
                        refine take_ (i := 13) (N := some 112) (v := ?_) (a' := ?_) #[true, true, true, true, true, true, true, true, true, true, true, true, true, true, false, true, false, true, false, false, true, false, false, false] rfl rfl (take_ofW HT_.out HW_.out (by kernel_rfl)) (fun _ _ _ h => h) (Or.inl ⟨by rfl, ?_⟩) hHeld ?_ ?_
                        rotate_left; · rintro w' ⟨s0, s1, s2⟩; go_simp; with_reducible rfl
                        rotate_left; · simp only [Act.put, zI, zZ, zS, i64_w, i32_w]; rfl
                        refine pure_ (i := 14) (N := some 113) (v := ?_) (a' := ?_) #[true, true, true, true, true, true, true, true, true, true, true, true, true, true, true, true, false, true, false, false, true, false, false, false] rfl rfl (any_of HT_.out (by kernel_rfl)) (fun _ _ _ h => h) (Or.inl ⟨by rfl, ?_⟩) ?_ ?_
                        rotate_left; · intro w'; go_simp; with_reducible rfl
                        rotate_left; · simp only [Act.put, zI, zZ, zS, i64_w, i32_w]; rfl
                        refine pure_ (i := 16) (N := some 115) (v := ?_) (a' := ?_) #[true, true, true, true, true, true, true, true, true, true, true, true, true, true, true, true, true, true, false, false, true, false, false, false] rfl rfl (any_of HT_.out (by kernel_rfl)) (fun _ _ _ h => h) (Or.inl ⟨by rfl, ?_⟩) ?_ ?_
                        rotate_left; · intro w'; go_simp; with_reducible rfl
                        rotate_left; · simp only [Act.put, zI, zZ, zS, i64_w, i32_w]; rfl
                        refine pure_ (i := 18) (N := some 117) (v := ?_) (a' := ?_) #[true, true, true, true, true, true, true, true, true, true, true, true, true, true, true, true, true, true, true, false, true, false, false, false] rfl rfl (any_of HT_.out (by kernel_rfl)) (fun _ _ _ h => h) (Or.inl ⟨by rfl, ?_⟩) ?_ ?_
                        rotate_left; · intro w'; go_simp; with_reducible rfl
                        rotate_left; · simp only [Act.put, zI, zZ, zS, i64_w, i32_w]; rfl
                        refine pure_ (i := 19) (N := some 118) (v := ?_) (a' := ?_) #[true, true, true, true, true, true, true, true, true, true, true, true, true, true, true, true, true, true, true, true, true, false, false, false] rfl rfl (any_of HT_.out (by kernel_rfl)) (fun _ _ _ h => h) (Or.inl ⟨by rfl, ?_⟩) ?_ ?_
                        rotate_left; · intro w'; go_simp; with_reducible rfl
                        rotate_left; · simp only [Act.put, zI, zZ, zS, i64_w, i32_w]; rfl
                        refine one_ (i := 21) (N := some 120) #[true, true, true, true, true, true, true, true, true, true, true, true, true, true, true, true, true, true, true, true, true, true, false, false] rfl rfl (one_of HT_.out (by kernel_rfl)) (by decide) (fun K hK => ?_)
                        refine goes_ Try.func89 (by kernel_rfl) rfl #[.int .i64 (wrap64 ((rd x8_4 (ji43)) - (wrap64 ((Int.tmod (wrap64 ((Int.tmod (wrap64 (x11_3 * (rd (rd_L1 x5_1 (ji33)) x12_3))) a1) * (rd (rd_L1 x5_1 x12_3) x23_1))) a1) * (rd (rd_L1 x6_1 x12_3) x88_4))))), .int .i64 a1] (by rfl) rfl rfl (by (try simp only [List.map_toArray, List.map_cons, List.map_nil]); first | done | (simp only [hji33, hji43]; rfl) | rfl | (simp only [List.length_drop, List.length_take]; rfl)) ?_
                        with_reducible refine (impl_modulo.calls (wrap64 ((rd x8_4 (ji43)) - (wrap64 ((Int.tmod (wrap64 ((Int.tmod (wrap64 (x11_3 * (rd (rd_L1 x5_1 (ji33)) x12_3))) a1) * (rd (rd_L1 x5_1 x12_3) x23_1))) a1) * (rd (rd_L1 x6_1 x12_3) x88_4))))) a1 t142 _ A51.out).mono ?_
                        rintro e w' ⟨rfl, ⟨nd, rfl⟩⟩
                        refine ⟨_, rfl, ?_⟩
                        have p52 : 0 ≤ ((ji43) : Int) := oD
                        have q52 : ((ji43) : Int) < ((x8_4.length : Int) : Int) := oD
                        obtain ⟨go52, co52, eo52, gb52, gl52, cl52, HG52⟩ := Kd.R_form HO_8.out (by omega)
                        (first | cases eo52 | (injection eo52 with ea_ en_ ec_; (first | subst ea_ | (injection ea_ with ea_; subst ea_)); subst ec_; clear en_))
                        have GB52 := Aside0.mk gb52
                        have GG52 := Aside0.mk HG52
                        clear gb52 gl52 HG52
                        (first | simp only [add_plain] at hx139_0 | skip)
                        obtain ⟨hx52_0, hf52_0⟩ := Kd.R_celln 0 HO_8.out ((ji43) : Int) p52 q52
                        replace p52 := eq_true p52
                        replace q52 := eq_true q52
                        have HP55 := Kd.R_putn HO_8.out ((ji43) : Int) t142
                        rw [← Ny143.out] at HP55
                        have HQ55 := Aside0.mk HP55
                        clear HP55
                        refine hK.out _ _ ⟨hHeld.1, hHeld.2.1, hHeld.2.2⟩ (fun hHeld => ?_)
                        clear hK K
                        refine norm_ (a' := ?_) ?_ ?_
                        rotate_left; · show Act.put _ (some 120) _ = _; simp only [Act.put, zI, zZ, zS, i64_w, i32_w]; rfl
                        refine pure_ (i := 22) (N := some 121) (v := ?_) (a' := ?_) #[true, true, true, true, true, true, true, true, true, true, true, true, true, true, true, true, true, true, true, true, true, true, true, false] rfl rfl (any_of HT_.out (by kernel_rfl)) (fun _ _ _ h => h) (Or.inl ⟨by rfl, ?_⟩) ?_ ?_
                        rotate_left; · intro w'; go_simp; with_reducible rfl
                        rotate_left; · simp only [Act.put, zI, zZ, zS, i64_w, i32_w]; rfl
                        refine last_ (i := 23) (N := none) #[true, true, true, true, true, true, true, true, true, true, true, true, true, true, true, true, true, true, true, true, true, true, true, true] rfl rfl (one_of HT_.out (by kernel_rfl)) (by decide) (fun K hK => ?_)
                        refine skip_ (w1 := ?_) (by rfl) rfl ?_ ?_
                        rotate_left; · go_simp; rfl
                        refine hK.out _ _ ?_
                        clear hK K
                        refine done_ (done_of HT_.out (by kernel_rfl)) ?_
                        try go_wp2
                        first | go_roundg k4 | (simp only [← hji21]; go_roundg k4) | (simp only [← hji33]; go_roundg k4) | (simp only [← hji43]; go_roundg k4) | ((try (have e_ := HGZ36_2.out; injection e_ with e1_ e2_ e3_; subst e1_ e3_)); (try (have e_ := HGZ36_3.out; injection e_ with e1_ e2_ e3_; subst e1_ e3_)); (try (have e_ := HGZ36_4.out; injection e_ with e1_ e2_ e3_; subst e1_ e3_)); (try (have e_ := HGZ86_4.out; injection e_ with e1_ e2_ e3_; subst e1_ e3_)); go_roundg k4)
                        case measure => have := HK1.out; have := HK2.out; have := HK3.out; have := HK4.out; omega
                        case rel => exact ⟨(y143), (wrap64 (x88_4 + 1)), rs, (by first | exact H' | (rw [hji21]; exact H') | (rw [hji33]; exact H') | (rw [hji43]; exact H')), ⟨by have := HK1.out; have := HK2.out; have := HK3.out; have := HK4.out; omega⟩, ⟨by (with_reducible repeat (first | apply HdrOf.alloc | apply HdrOf.drewN | apply HdrOf.drew)); (try refine HdrOf.set ?_ (Kd.S_typed HO_6.out) (Kd.R_typed HO_8.out) rfl (by decide)); first | exact ⟨_, _, _, rfl, (by first | exact of_eq_true p136 | exact hdr_lo HH_36.out | omega), (by first | exact of_eq_true q136 | exact hdr_hi HH_36.out | (have h_ := of_eq_true q136; omega) | (have h_ := hdr_hi HH_36.out; omega)), HX136_0.out⟩ | (rw [← HGZ36_4.out]; exact ⟨_, _, _, rfl, (by first | exact of_eq_true p136 | exact hdr_lo HH_36.out | omega), (by first | exact of_eq_true q136 | exact hdr_hi HH_36.out | (have h_ := of_eq_true q136; omega) | (have h_ := hdr_hi HH_36.out; omega)), HX136_0.out⟩)⟩, ⟨by (with_reducible repeat (first | apply HdrOf.alloc | apply HdrOf.drewN | apply HdrOf.drew)); (try refine HdrOf.set ?_ (Kd.S_typed HO_6.out) (Kd.R_typed HO_8.out) rfl (by decide)); first | exact ⟨_, _, _, rfl, (by first | exact of_eq_true p137 | exact hdr_lo HH_86.out | omega), (by first | exact of_eq_true q137 | exact hdr_hi HH_86.out | (have h_ := of_eq_true q137; omega) | (have h_ := hdr_hi HH_86.out; omega)), HX137_0.out⟩ | (rw [← HGZ86_4.out]; exact ⟨_, _, _, rfl, (by first | exact of_eq_true p137 | exact hdr_lo HH_86.out | omega), (by first | exact of_eq_true q137 | exact hdr_hi HH_86.out | (have h_ := of_eq_true q137; omega) | (have h_ := hdr_hi HH_86.out; omega)), HX137_0.out⟩)⟩, ⟨by (try simp only [hl5_1]); (with_reducible repeat (first | apply Kd.S_alloc | apply Kd.S_drewN | apply Kd.S_drew)); exact Kd.S_mono (Kd.S_far (p := ⟨go52, ((ji43) : Int).toNat, none⟩) (Kd.S_mono HO_5.out (fun k_ hk => (⟨hk, fun e_ => hk.2 (by rw [e_]; rfl)⟩ : _ ∧ k_ ≠ go52))) (fun _ hk => hk.2) (.int .i64 t142)) (fun _ hk => ⟨hk.1.1, hk.1.2⟩)⟩, ⟨by (try simp only [hl5_1]); (with_reducible repeat (first | apply Kd.S_alloc | apply Kd.S_drewN | apply Kd.S_drew)); exact Kd.S_mono (Kd.S_far (p := ⟨go52, ((ji43) : Int).toNat, none⟩) (Kd.S_mono HO_6.out (fun k_ hk => (⟨hk, fun e_ => hk.2 (by rw [e_]; rfl)⟩ : _ ∧ k_ ≠ go52))) (fun _ hk => hk.2) (.int .i64 t142)) (fun _ hk => ⟨hk.1.1, hk.1.2⟩)⟩, ⟨by (try simp only [hl5_1]); (with_reducible repeat (first | apply Kd.R_alloc | apply Kd.R_drewN | apply Kd.R_drew)); exact HQ55.out⟩, ⟨by repeat (first | (with_reducible first | exact HB.out | apply below_alloc | apply pw_below_drewN | apply below_drew1 | refine below_set ?_ GB52.out) | exact HB.out)⟩⟩
                      rw [if_pos c50] at H
                      exact absurd H (by simp)
                rw [if_pos c38] at H
                exact absurd H (by simp)
          rw [if_pos c18] at H
          have c18b0 : decide (x38_2 < ((rd_L1 x6_1 x23_1).length : Int)) = true := decide_eq_true c18
          (try simp only [hl5_1] at c18b0)
          clear c18
          by_cases c19 : 0 ≤ x38_2
          case neg => rw [if_neg c19] at H; exact absurd H (by simp)
          rw [if_pos c19] at H
          have c19b0 : decide (0 ≤ x38_2) = true := decide_eq_true c19
          clear c19
          by_cases c20 : x38_2 < ((rd_L1 x6_1 x23_1).length : Int)
          case neg => rw [if_neg c20] at H; exact absurd H (by simp)
          rw [if_pos c20] at H
          have c20b0 : decide (x38_2 < ((rd_L1 x6_1 x23_1).length : Int)) = true := decide_eq_true c20
          (try simp only [hl5_1] at c20b0)
          clear c20
          obtain ⟨ji21, hji21⟩ : ∃ j_ : Int, (wrap64 (x38_2 + 1)) = j_ := ⟨_, rfl⟩
          replace H : (if 0 ≤ (ji21) then (if (ji21) < (x8_2.length : Int) then (if 0 ≤ x23_1 then (if x23_1 < (x5_1.length : Int) then (if x23_1 < ((rd_L1 x5_1 x23_1).length : Int) then ((impl_modulo.f (wrap64 ((rd x8_2 (ji21)) - (wrap64 ((rd (rd_L1 x5_1 x23_1) x23_1) * (rd (rd_L1 x6_1 x23_1) x38_2))))) a1).bind fun t127 => (impl_determinantModulo.l1 k2 a1 x5_1 x6_1 x23_1 (x8_2.set ((ji21) : Int).toNat t127) (t101.length : Int) x23_1 ((rd_L1 x6_1 x23_1).length : Int) ji21)) else (none)) else (none)) else (none)) else (none)) else (none)) = some r := by first | (rw [hji21] at H; exact H) | (simp only [hji21] at H ⊢; exact H)
          have hji21w : (IntKind.i64.wrap (x38_2 + 1)) = ji21 := (i64_w _).trans hji21
          by_cases c22 : 0 ≤ (ji21)
          case neg => rw [if_neg c22] at H; exact absurd H (by simp)
          rw [if_pos c22] at H
          have c22b0 : decide (0 ≤ (ji21)) = true := decide_eq_true c22
          clear c22
          by_cases c23 : (ji21) < (x8_2.length : Int)
          case neg => rw [if_neg c23] at H; exact absurd H (by simp)
          rw [if_pos c23] at H
          have c23b0 : decide ((ji21) < (x8_2.length : Int)) = true := decide_eq_true c23
          (try simp only [hl5_1] at c23b0)
          clear c23
          by_cases c24 : 0 ≤ x23_1
          case neg => rw [if_neg c24] at H; exact absurd H (by simp)
          rw [if_pos c24] at H
          have c24b0 : decide (0 ≤ x23_1) = true := decide_eq_true c24
          clear c24
          by_cases c25 : x23_1 < (x5_1.length : Int)
          case neg => rw [if_neg c25] at H; exact absurd H (by simp)
          rw [if_pos c25] at H
          have c25b0 : decide (x23_1 < (x5_1.length : Int)) = true := decide_eq_true c25
          (try simp only [hl5_1] at c25b0)
          clear c25
          by_cases c26 : x23_1 < ((rd_L1 x5_1 x23_1).length : Int)
          case neg => rw [if_neg c26] at H; exact absurd H (by simp)
          rw [if_pos c26] at H
          have c26b0 : decide (x23_1 < ((rd_L1 x5_1 x23_1).length : Int)) = true := decide_eq_true c26
          (try simp only [hl5_1] at c26b0)
          clear c26
          replace H := Option.bind_eq_some_iff.mp H
          obtain ⟨t127, A270, H⟩ := H
          replace H : (impl_determinantModulo.l1 k2 a1 x5_1 x6_1 x23_1 (x8_2.set ((ji21) : Int).toNat t127) (t101.length : Int) x23_1 ((rd_L1 x6_1 x23_1).length : Int) ji21) = some r := H
          have A27 := Aside0.mk A270
          clear A270
          obtain ⟨y128, hy128⟩ : ∃ y_ : List Int, y_ = (x8_2.set ((ji21) : Int).toNat t127) := ⟨_, rfl⟩
          replace H : (impl_determinantModulo.l1 k2 a1 x5_1 x6_1 x23_1 y128 (t101.length : Int) x23_1 ((rd_L1 x6_1 x23_1).length : Int) ji21) = some r := by first | (rw [hy128]; with_reducible exact H) | (have H2_ := (Option.bind_some _ _).symm.trans H; rw [hy128]; with_reducible exact H2_) | (have H2_ := (Option.bind_some _ _).symm.trans H; with_reducible exact H2_) | with_reducible exact H | (rw [hy128]; exact H) | exact H
          have Ny128 := Aside0.mk hy128
          clear hy128
          have H' := Aside0.mk H
          clear H
          have hza122 : decide (0 ≤ x23_1) = true := decide_eq_true (hdr_lo HH_36.out)
          have hzb122 : decide (x23_1 < (x6_1.length : Int)) = true := decide_eq_true (by have h_ := hdr_hi HH_36.out; have e_ := (Kd.S_reads' HO_6.out).1; omega)
          have p122 : 0 ≤ (x23_1 : Int) := oD
          have q122 : x23_1 < (x6_1.length : Int) := oD
          obtain ⟨ad122, A122_0, c122_0, e122, hx122_0, hl122_0, hi122_0⟩ := at_L1 (Kd.S_reads' HO_6.out).2.2 x23_1 p122 q122
          obtain rfl : ad114 = ad122 := (by injection e122)
          obtain ⟨ce122, hce122, hMe122, hcc122⟩ := Kd.S_get HO_6.out [] x23_1 p122 (by first | exact q122 | exact oD | (have e_ := (Kd.S_reads' HO_6.out).1; omega))
          obtain ⟨ve122_0, rfl, ge122_0⟩ := hMe122
          have hv122_0 := hcc122 0 _ rfl
          rw [Nat.add_zero, show ((Kd.slice 2 (Kd.int .i64))).sz = 1 from rfl, Nat.mul_one] at hv122_0
          replace hv122_0 := Option.some.inj (hv122_0.symm.trans hx122_0)
          rw [hv122_0] at ge122_0
          have HL122_0 := Aside0.mk (show Kd.R (Kd.int .i64) 2 _ _ _ _ (rd_L1 x6_1 x23_1) from ge122_0)
          clear hv122_0 ge122_0
          have HX122_0 := Aside0.mk hx122_0
          clear hcc122 hce122
          have HR122_0 := Aside0.mk hi122_0
          have HC122_0 := Aside0.mk hl122_0
          clear hi122_0 hl122_0
          replace p122 := eq_true p122
          replace q122 := eq_true q122
          obtain rfl := hdr_eq HH_36.out HX122_0.out
          have p123 : 0 ≤ (x38_2 : Int) := oD
          have q123 : x38_2 < ((rd_L1 x6_1 x23_1).length : Int) := oD
          obtain ⟨ad123, e123, hx123_0⟩ := Kd.at_int (by repeat (first | (with_reducible exact HR122_0.out) | (with_reducible refine Kd.C_alloc ?_ _) | (with_reducible refine Kd.C_drewN ?_ _) | (with_reducible refine Kd.C_drew ?_) | exact HR122_0.out)) x38_2 p123 q123
          cases e123
          replace p123 := eq_true p123
          replace q123 := eq_true q123
          try go_wp2
          have n0_ := Aside0.mk (Kd.S_drew HO_5.out)
          have n1_ := Aside0.mk (Kd.S_drew HO_6.out)
          have n2_ := Aside0.mk (Kd.R_drew HO_8.out)
          have n3_ := Aside0.mk (Kd.R_drew HL122_0.out)
          have n4_ := Aside0.mk (Kd.C_drew HR122_0.out)
          have n5_ := Aside0.mk ((show (wr.drew).cell? _ = some _ from HX122_0.out))
          have n6_ := Aside0.mk (below_drew1 HB.out)
          clear HO_5
          clear HO_6
          clear HO_8
          clear HL122_0
          clear HR122_0
          clear HX122_0
          clear HB
          have HO_5 := n0_
          have HO_6 := n1_
          have HO_8 := n2_
          have HL122_0 := n3_
          have HR122_0 := n4_
          have HX122_0 := n5_
          have HB := n6_
          clear n0_ n1_ n2_ n3_ n4_ n5_ n6_
          obtain ⟨Ao30, co30, eo30⟩ := Kd.R_slice HO_8.out
          (first | subst eo30 | (injection eo30 with f1_ f2_ f3_; have f4_ := f1_.symm; have f5_ := f3_.symm; clear f1_ f2_ f3_; subst f4_; subst f5_))
          have p124 : 0 ≤ ((ji21) : Int) := oD
          have q124 : (ji21) < (x8_2.length : Int) := oD
          obtain ⟨ad124, e124, hx124_0⟩ := Kd.at_int (Kd.R_reads' HO_8.out).2.2 (ji21) p124 q124
          cases e124
          replace p124 := eq_true p124
          replace q124 := eq_true q124
          have p125 : 0 ≤ (x23_1 : Int) := oD
          have q125 : x23_1 < (x5_1.length : Int) := oD
          obtain ⟨ad125, A125_0, c125_0, e125, hx125_0, hl125_0, hi125_0⟩ := at_L1 (Kd.S_reads' HO_5.out).2.2 x23_1 p125 q125
          cases e125
          obtain ⟨ce125, hce125, hMe125, hcc125⟩ := Kd.S_get HO_5.out [] x23_1 p125 (by first | exact q125 | exact oD | (have e_ := (Kd.S_reads' HO_5.out).1; omega))
          obtain ⟨ve125_0, rfl, ge125_0⟩ := hMe125
          have hv125_0 := hcc125 0 _ rfl
          rw [Nat.add_zero, show ((Kd.slice 2 (Kd.int .i64))).sz = 1 from rfl, Nat.mul_one] at hv125_0
          replace hv125_0 := Option.some.inj (hv125_0.symm.trans hx125_0)
          rw [hv125_0] at ge125_0
          have HL125_0 := Aside0.mk (show Kd.R (Kd.int .i64) 2 _ _ _ _ (rd_L1 x5_1 x23_1) from ge125_0)
          clear hv125_0 ge125_0
          have HX125_0 := Aside0.mk hx125_0
          clear hcc125 hce125
          have HR125_0 := Aside0.mk hi125_0
          have HC125_0 := Aside0.mk hl125_0
          clear hi125_0 hl125_0
          replace p125 := eq_true p125
          replace q125 := eq_true q125
          have p126 : 0 ≤ (x23_1 : Int) := oD
          have q126 : x23_1 < ((rd_L1 x5_1 x23_1).length : Int) := oD
          obtain ⟨ad126, e126, hx126_0⟩ := Kd.at_int (by repeat (first | (with_reducible exact HR125_0.out) | (with_reducible refine Kd.C_alloc ?_ _) | (with_reducible refine Kd.C_drewN ?_ _) | (with_reducible refine Kd.C_drew ?_) | exact HR125_0.out)) x23_1 p126 q126
          cases e126
          replace p126 := eq_true p126
          replace q126 := eq_true q126
          refine start_ (n := 22) (S := fun w' => w'.cell? (ad124.add ((ji21)).toNat) = some (.int .i64 (rd x8_2 (ji21))) ∧ w'.cell? (ad125.add (x23_1).toNat) = some (.slice (some ad126) (rd_L1 x5_1 x23_1).length c125_0) ∧ w'.cell? (ad126.add (x23_1).toNat) = some (.int .i64 (rd (rd_L1 x5_1 x23_1) x23_1))) (ds := [21]) #[false, false, false, false, false, false, false, false, false, false, false, false, false, false, false, false, false, false, false, false, false, false] (by kernel_rfl) rfl rfl ⟨hx124_0, hx125_0, hx126_0⟩ (fun hHeld => ?_); refine with_tabW impl_determinantModulo.tab10 impl_determinantModulo.bits10 (fun HT_ HW_ => ?_)
          generalize wr.drew = w29 at HO_5 HO_6 HO_8 HL122_0 HR122_0 HX122_0 HB HL125_0 HR125_0 HX125_0 hx124_0 hx125_0 hx126_0 hHeld ⊢
          refine pure_ (i := 0) (N := some 43) (v := ?_) (a' := ?_) #[true, false, false, false, false, false, false, false, false, false, false, false, false, false, false, false, false, false, false, false, false, false] rfl rfl (any_of HT_.out (by kernel_rfl)) (fun _ _ _ h => h) (Or.inl ⟨by rfl, ?_⟩) ?_ ?_
          rotate_left; · intro w'; go_simp; with_reducible rfl
          rotate_left; · simp only [Act.put, zI, zZ, zS, i64_w, i32_w]; rfl
          refine pure_ (i := 1) (N := some 44) (v := ?_) (a' := ?_) #[true, true, false, false, false, false, false, false, false, false, false, false, false, false, false, false, false, false, false, false, false, false] rfl rfl (any_of HT_.out (by kernel_rfl)) (fun _ _ _ h => h) (Or.inl ⟨by rfl, ?_⟩) ?_ ?_
          rotate_left; · intro w'; go_simp; with_reducible rfl
          rotate_left; · simp only [Act.put, zI, zZ, zS, i64_w, i32_w]; rfl
          refine pure_ (i := 2) (N := some 45) (v := ?_) (a' := ?_) #[true, true, true, false, false, false, false, false, false, false, false, false, false, false, false, false, false, false, false, false, false, false] rfl rfl (any_of HT_.out (by kernel_rfl)) (fun _ _ _ h => h) (Or.inl ⟨by rfl, ?_⟩) ?_ ?_
          rotate_left; · intro w'; go_simp; with_reducible rfl
          rotate_left; · simp only [Act.put, zI, zZ, zS, i64_w, i32_w]; rfl
          refine pure_ (i := 3) (N := some 46) (v := ?_) (a' := ?_) #[true, true, true, true, false, false, false, false, false, false, false, false, false, false, false, false, false, false, false, false, false, false] rfl rfl (any_of HT_.out (by kernel_rfl)) (fun _ _ _ h => h) (Or.inl ⟨by rfl, ?_⟩) ?_ ?_
          rotate_left; · intro w'; go_simp; with_reducible rfl
          rotate_left; · simp only [Act.put, zI, zZ, zS, i64_w, i32_w]; rfl
          refine pure_ (i := 4) (N := some 47) (v := ?_) (a' := ?_) #[true, true, true, true, true, false, false, false, false, false, false, false, false, false, false, false, false, false, false, false, false, false] rfl rfl (any_of HT_.out (by kernel_rfl)) (fun _ _ _ h => h) (Or.inl ⟨by rfl, ?_⟩) ?_ ?_
          rotate_left; · intro w'; go_simp; with_reducible rfl
          rotate_left; · simp only [Act.put, zI, zZ, zS, i64_w, i32_w]; rfl
          refine pure_ (i := 5) (N := some 48) (v := ?_) (a' := ?_) #[true, true, true, true, true, true, false, false, false, false, false, false, false, false, false, false, false, false, false, false, false, false] rfl rfl (any_of HT_.out (by kernel_rfl)) (fun _ _ _ h => h) (Or.inl ⟨by rfl, ?_⟩) ?_ ?_
          rotate_left; · intro w'; go_simp; with_reducible rfl
          rotate_left; · simp only [Act.put, zI, zZ, zS, i64_w, i32_w]; rfl
          refine pure_ (i := 6) (N := some 49) (v := ?_) (a' := ?_) #[true, true, true, true, true, true, true, false, false, false, false, false, false, false, false, false, false, false, false, false, false, false] rfl rfl (any_of HT_.out (by kernel_rfl)) (fun _ _ _ h => h) (Or.inl ⟨by rfl, ?_⟩) ?_ ?_
          rotate_left; · intro w'; go_simp; with_reducible rfl
          rotate_left; · simp only [Act.put, zI, zZ, zS, i64_w, i32_w]; rfl
          refine pure_ (i := 8) (N := some 51) (v := ?_) (a' := ?_) #[true, true, true, true, true, true, true, false, true, false, false, false, false, false, false, false, false, false, false, false, false, false] rfl rfl (any_of HT_.out (by kernel_rfl)) (fun _ _ _ h => h) (Or.inl ⟨by rfl, ?_⟩) ?_ ?_
          rotate_left; · intro w'; go_simp; with_reducible rfl
          rotate_left; · simp only [Act.put, zI, zZ, zS, i64_w, i32_w]; rfl
          refine pure_ (i := 9) (N := some 52) (v := ?_) (a' := ?_) #[true, true, true, true, true, true, true, false, true, true, false, false, false, false, false, false, false, false, false, false, false, false] rfl rfl (any_of HT_.out (by kernel_rfl)) (fun _ _ _ h => h) (Or.inl ⟨by rfl, ?_⟩) ?_ ?_
          rotate_left; · intro w'; go_simp; with_reducible rfl
          rotate_left; · simp only [Act.put, zI, zZ, zS, i64_w, i32_w]; rfl
          refine pure_ (i := 10) (N := some 53) (v := ?_) (a' := ?_) #[true, true, true, true, true, true, true, false, true, true, true, false, false, false, false, false, false, false, false, false, false, false] rfl rfl (any_of HT_.out (by kernel_rfl)) (fun _ _ _ h => h) (Or.inl ⟨by rfl, ?_⟩) ?_ ?_
          rotate_left; · intro w'; go_simp; with_reducible rfl
          rotate_left; · simp only [Act.put, zI, zZ, zS, i64_w, i32_w]; rfl
          refine pure_ (i := 12) (N := some 55) (v := ?_) (a' := ?_) #[true, true, true, true, true, true, true, false, true, true, true, false, true, false, false, false, false, false, false, false, false, false] rfl rfl (any_of HT_.out (by kernel_rfl)) (fun _ _ _ h => h) (Or.inl ⟨by rfl, ?_⟩) ?_ ?_
          rotate_left; · intro w'; go_simp; with_reducible rfl
          rotate_left; · simp only [Act.put, zI, zZ, zS, i64_w, i32_w]; rfl
          refine pure_ (i := 15) (N := some 58) (v := ?_) (a' := ?_) #[true, true, true, true, true, true, true, false, true, true, true, false, true, false, false, true, false, false, false, false, false, false] rfl rfl (any_of HT_.out (by kernel_rfl)) (fun _ _ _ h => h) (Or.inl ⟨by rfl, ?_⟩) ?_ ?_
          rotate_left; · intro w'; go_simp; with_reducible rfl
          rotate_left; · simp only [Act.put, zI, zZ, zS, i64_w, i32_w]; rfl
          refine pure_ (i := 18) (N := some 61) (v := ?_) (a' := ?_) #[true, true, true, true, true, true, true, false, true, true, true, false, true, false, false, true, false, false, true, false, false, false] rfl rfl (any_of HT_.out (by kernel_rfl)) (fun _ _ _ h => h) (Or.inl ⟨by rfl, ?_⟩) ?_ ?_
          rotate_left; · intro w'; go_simp; with_reducible rfl
          rotate_left; · simp only [Act.put, zI, zZ, zS, i64_w, i32_w]; rfl
          refine take_ (i := 7) (N := some 50) (v := ?_) (a' := ?_) #[true, true, true, true, true, true, true, true, true, true, true, false, true, false, false, true, false, false, true, false, false, false] rfl rfl (take_ofW HT_.out HW_.out (by kernel_rfl)) (fun _ _ _ h => h) (Or.inl ⟨by rfl, ?_⟩) hHeld ?_ ?_
          rotate_left; · rintro w' ⟨s0, s1, s2⟩; go_simp; with_reducible rfl
          rotate_left; · simp only [Act.put, zI, zZ, zS, i64_w, i32_w]; rfl
          refine take_ (i := 11) (N := some 54) (v := ?_) (a' := ?_) #[true, true, true, true, true, true, true, true, true, true, true, true, true, false, false, true, false, false, true, false, false, false] rfl rfl (take_ofW HT_.out HW_.out (by kernel_rfl)) (fun _ _ _ h => h) (Or.inl ⟨by rfl, ?_⟩) hHeld ?_ ?_
          rotate_left; · rintro w' ⟨s0, s1, s2⟩; go_simp; with_reducible rfl
          rotate_left; · simp only [Act.put, zI, zZ, zS, i64_w, i32_w]; rfl
          refine pure_ (i := 13) (N := some 56) (v := ?_) (a' := ?_) #[true, true, true, true, true, true, true, true, true, true, true, true, true, true, false, true, false, false, true, false, false, false] rfl rfl (any_of HT_.out (by kernel_rfl)) (fun _ _ _ h => h) (Or.inl ⟨by rfl, ?_⟩) ?_ ?_
          rotate_left; · intro w'; go_simp; with_reducible rfl
          rotate_left; · simp only [Act.put, zI, zZ, zS, i64_w, i32_w]; rfl
          refine take_ (i := 14) (N := some 57) (v := ?_) (a' := ?_) #[true, true, true, true, true, true, true, true, true, true, true, true, true, true, true, true, false, false, true, false, false, false] rfl rfl (take_ofW HT_.out HW_.out (by kernel_rfl)) (fun _ _ _ h => h) (Or.inl ⟨by rfl, ?_⟩) hHeld ?_ ?_
          rotate_left; · rintro w' ⟨s0, s1, s2⟩; go_simp; with_reducible rfl
          rotate_left; · simp only [Act.put, zI, zZ, zS, i64_w, i32_w]; rfl
          refine pure_ (i := 16) (N := some 59) (v := ?_) (a' := ?_) #[true, true, true, true, true, true, true, true, true, true, true, true, true, true, true, true, true, false, true, false, false, false] rfl rfl (any_of HT_.out (by kernel_rfl)) (fun _ _ _ h => h) (Or.inl ⟨by rfl, ?_⟩) ?_ ?_
          rotate_left; · intro w'; go_simp; with_reducible rfl
          rotate_left; · simp only [Act.put, zI, zZ, zS, i64_w, i32_w]; rfl
          refine pure_ (i := 17) (N := some 60) (v := ?_) (a' := ?_) #[true, true, true, true, true, true, true, true, true, true, true, true, true, true, true, true, true, true, true, false, false, false] rfl rfl (any_of HT_.out (by kernel_rfl)) (fun _ _ _ h => h) (Or.inl ⟨by rfl, ?_⟩) ?_ ?_
          rotate_left; · intro w'; go_simp; with_reducible rfl
          rotate_left; · simp only [Act.put, zI, zZ, zS, i64_w, i32_w]; rfl
          refine one_ (i := 19) (N := some 62) #[true, true, true, true, true, true, true, true, true, true, true, true, true, true, true, true, true, true, true, true, false, false] rfl rfl (one_of HT_.out (by kernel_rfl)) (by decide) (fun K hK => ?_)
          refine goes_ Try.func89 (by kernel_rfl) rfl #[.int .i64 (wrap64 ((rd x8_2 (ji21)) - (wrap64 ((rd (rd_L1 x5_1 x23_1) x23_1) * (rd (rd_L1 x6_1 x23_1) x38_2))))), .int .i64 a1] (by rfl) rfl rfl (by (try simp only [List.map_toArray, List.map_cons, List.map_nil]); first | done | (simp only [hji21]; rfl) | rfl | (simp only [List.length_drop, List.length_take]; rfl)) ?_
          with_reducible refine (impl_modulo.calls (wrap64 ((rd x8_2 (ji21)) - (wrap64 ((rd (rd_L1 x5_1 x23_1) x23_1) * (rd (rd_L1 x6_1 x23_1) x38_2))))) a1 t127 _ A27.out).mono ?_
          rintro e w' ⟨rfl, ⟨nd, rfl⟩⟩
          refine ⟨_, rfl, ?_⟩
          have p28 : 0 ≤ ((ji21) : Int) := oD
          have q28 : ((ji21) : Int) < ((x8_2.length : Int) : Int) := oD
          obtain ⟨go28, co28, eo28, gb28, gl28, cl28, HG28⟩ := Kd.R_form HO_8.out (by omega)
          (first | cases eo28 | (injection eo28 with ea_ en_ ec_; (first | subst ea_ | (injection ea_ with ea_; subst ea_)); subst ec_; clear en_))
          have GB28 := Aside0.mk gb28
          have GG28 := Aside0.mk HG28
          clear gb28 gl28 HG28
          (first | simp only [add_plain] at hx124_0 | skip)
          obtain ⟨hx28_0, hf28_0⟩ := Kd.R_celln 0 HO_8.out ((ji21) : Int) p28 q28
          replace p28 := eq_true p28
          replace q28 := eq_true q28
          have HP31 := Kd.R_putn HO_8.out ((ji21) : Int) t127
          rw [← Ny128.out] at HP31
          have HQ31 := Aside0.mk HP31
          clear HP31
          refine hK.out _ _ ⟨hHeld.1, hHeld.2.1, hHeld.2.2⟩ (fun hHeld => ?_)
          clear hK K
          refine norm_ (a' := ?_) ?_ ?_
          rotate_left; · show Act.put _ (some 62) _ = _; simp only [Act.put, zI, zZ, zS, i64_w, i32_w]; rfl
          refine pure_ (i := 20) (N := some 63) (v := ?_) (a' := ?_) #[true, true, true, true, true, true, true, true, true, true, true, true, true, true, true, true, true, true, true, true, true, false] rfl rfl (any_of HT_.out (by kernel_rfl)) (fun _ _ _ h => h) (Or.inl ⟨by rfl, ?_⟩) ?_ ?_
          rotate_left; · intro w'; go_simp; with_reducible rfl
          rotate_left; · simp only [Act.put, zI, zZ, zS, i64_w, i32_w]; rfl
          refine last_ (i := 21) (N := none) #[true, true, true, true, true, true, true, true, true, true, true, true, true, true, true, true, true, true, true, true, true, true] rfl rfl (one_of HT_.out (by kernel_rfl)) (by decide) (fun K hK => ?_)
          refine skip_ (w1 := ?_) (by rfl) rfl ?_ ?_
          rotate_left; · go_simp; rfl
          refine hK.out _ _ ?_
          clear hK K
          refine done_ (done_of HT_.out (by kernel_rfl)) ?_
          try go_wp2
          first | go_roundg k2 | (simp only [← hji21]; go_roundg k2) | (simp only [← hji33]; go_roundg k2) | (simp only [← hji43]; go_roundg k2) | ((try (have e_ := HGZ36_2.out; injection e_ with e1_ e2_ e3_; subst e1_ e3_)); (try (have e_ := HGZ36_3.out; injection e_ with e1_ e2_ e3_; subst e1_ e3_)); (try (have e_ := HGZ36_4.out; injection e_ with e1_ e2_ e3_; subst e1_ e3_)); (try (have e_ := HGZ86_4.out; injection e_ with e1_ e2_ e3_; subst e1_ e3_)); go_roundg k2)
          case measure => have := HK1.out; have := HK2.out; omega
          case rel => exact ⟨(y128), (ji21), (by first | rfl | (simp; done) | (simp only [← hji21] <;> (first | rfl | simp)) | (simp [*]; done)), (by first | exact H' | (rw [hji21]; exact H') | (rw [hji33]; exact H') | (rw [hji43]; exact H')), ⟨by have := HK1.out; have := HK2.out; omega⟩, ⟨by (with_reducible repeat (first | apply HdrOf.alloc | apply HdrOf.drewN | apply HdrOf.drew)); (try refine HdrOf.set ?_ (Kd.S_typed HO_6.out) (Kd.R_typed HO_8.out) rfl (by decide)); first | exact ⟨_, _, _, rfl, (by first | exact of_eq_true p122 | exact hdr_lo HH_36.out | omega), (by first | exact of_eq_true q122 | exact hdr_hi HH_36.out | (have h_ := of_eq_true q122; omega) | (have h_ := hdr_hi HH_36.out; omega)), HX122_0.out⟩ | (rw [← HGZ36_2.out]; exact ⟨_, _, _, rfl, (by first | exact of_eq_true p122 | exact hdr_lo HH_36.out | omega), (by first | exact of_eq_true q122 | exact hdr_hi HH_36.out | (have h_ := of_eq_true q122; omega) | (have h_ := hdr_hi HH_36.out; omega)), HX122_0.out⟩)⟩, ⟨by (try simp only [hl5_1]); (with_reducible repeat (first | apply Kd.S_alloc | apply Kd.S_drewN | apply Kd.S_drew)); exact Kd.S_mono (Kd.S_far (p := ⟨go28, ((ji21) : Int).toNat, none⟩) (Kd.S_mono HO_5.out (fun k_ hk => (⟨hk, fun e_ => hk.2 (by rw [e_]; rfl)⟩ : _ ∧ k_ ≠ go28))) (fun _ hk => hk.2) (.int .i64 t127)) (fun _ hk => ⟨hk.1.1, hk.1.2⟩)⟩, ⟨by (try simp only [hl5_1]); (with_reducible repeat (first | apply Kd.S_alloc | apply Kd.S_drewN | apply Kd.S_drew)); exact Kd.S_mono (Kd.S_far (p := ⟨go28, ((ji21) : Int).toNat, none⟩) (Kd.S_mono HO_6.out (fun k_ hk => (⟨hk, fun e_ => hk.2 (by rw [e_]; rfl)⟩ : _ ∧ k_ ≠ go28))) (fun _ hk => hk.2) (.int .i64 t127)) (fun _ hk => ⟨hk.1.1, hk.1.2⟩)⟩, ⟨by (try simp only [hl5_1]); (with_reducible repeat (first | apply Kd.R_alloc | apply Kd.R_drewN | apply Kd.R_drew)); exact HQ31.out⟩, ⟨by repeat (first | (with_reducible first | exact HB.out | apply below_alloc | apply pw_below_drewN | apply below_drew1 | refine below_set ?_ GB28.out) | exact HB.out)⟩⟩
end Go.Proofs.Ytjgdibhalmcigaa.C
