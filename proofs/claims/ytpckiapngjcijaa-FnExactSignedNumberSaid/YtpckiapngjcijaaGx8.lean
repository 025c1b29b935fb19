/- The functions that one law reaches, each as a Lean function, and that Go's call comes to what it says. Condition of each: that the Lean function answers (is not none). -/
import Derived.Test.YtpckiapngjcijaaGx0
import Derived.Test.YtpckiapngjcijaaGx7
namespace Go.Proofs.Ytpckiapngjcijaa.G
open Go.RowKit Go.Proofs.YtpckiapngjcijaaW.PrintWords Go.Proofs.YtpckiapngjcijaaW.PrintLast Go.Proofs.YtpckiapngjcijaaW.PrintMore
attribute [local go_sem] max2_int min2_int max_two min_two max_three min_three max_four min_four   -- for this text's walks alone
set_option linter.unusedVariables false
set_option linter.unusedSimpArgs false

/-! ### impl_wholeDeterminant: function 107 -/
mutual
def impl_wholeDeterminant.l0 : Nat → List (List Int) → Int → Int → List (List Int) → Int → Int → Option (Int)
  | 0, _, _, _, _, _, _ => none
  | k + 1, x3, x4, x5, x13, x14, x15 => if x15 < x14 then (if 0 ≤ x15 then (if x15 < (x13.length : Int) then ((slices_Clone_int64_int64.f (rd_L1 x13 x15)).bind fun t105 => (if x3.length < 5864062014805 then (impl_wholeDeterminant.l0 k (x3 ++ [t105]) x4 x5 x13 x14 (wrap64 (x15 + 1))) else (none))) else (none)) else (none)) else (impl_wholeDeterminant.l1 k x3 x4 x5 (x3.length : Int) 0)
def impl_wholeDeterminant.l1 : Nat → List (List Int) → Int → Int → Int → Int → Option (Int)
  | 0, _, _, _, _, _ => none
  | k + 1, x3, x4, x5, x26, x27 => if x27 < x26 then (if 0 ≤ x27 then (if x27 ≤ (x3.length : Int) then ((impl_wholeDeterminant_1.f k (x3.drop (x27 : Int).toNat) x27).bind fun t116 => (if t116 < 0 then (some 0) else (if t116 > 0 then (if 0 ≤ (wrap64 (x27 + t116)) then (if (wrap64 (x27 + t116)) < (x3.length : Int) then (if x27 < (x3.length : Int) then (impl_wholeDeterminant.j2 k (swp x3 x27 (wrap64 (x27 + t116))) (wrap64 (-x4)) x5 x26 x27 x27) else (none)) else (none)) else (none)) else (impl_wholeDeterminant.j2 k x3 x4 x5 x26 x27 x27)))) else (none)) else (none)) else (some (wrap64 (x4 * x5)))
def impl_wholeDeterminant.j2 : Nat → List (List Int) → Int → Int → Int → Int → Int → Option (Int)
  | 0, _, _, _, _, _, _ => none
  | k + 1, x3, x4, x5, x26, x27, x112000 => impl_wholeDeterminant.l2 k x3 x4 x5 (wrap64 (x112000 + 1)) x26 x27 x112000
def impl_wholeDeterminant.l2 : Nat → List (List Int) → Int → Int → Int → Int → Int → Int → Option (Int)
  | 0, _, _, _, _, _, _, _ => none
  | k + 1, x3, x4, x5, x10, x26, x27, x112000 => if x10 < (x3.length : Int) then (impl_wholeDeterminant.l3 k x3 x4 x5 x10 (wrap64 (x112000 + 1)) x26 x27 x112000) else (if 0 ≤ x112000 then (if x112000 < (x3.length : Int) then (if x112000 < ((rd_L1 x3 x112000).length : Int) then (impl_wholeDeterminant.l1 k x3 x4 (rd (rd_L1 x3 x112000) x112000) x26 (wrap64 (x27 + 1))) else (none)) else (none)) else (none))
def impl_wholeDeterminant.l3 : Nat → List (List Int) → Int → Int → Int → Int → Int → Int → Int → Option (Int)
  | 0, _, _, _, _, _, _, _, _ => none
  | k + 1, x3, x4, x5, x10, x11, x26, x27, x112000 => if x11 < (x3.length : Int) then (if 0 ≤ x10 then (if x10 < (x3.length : Int) then (if 0 ≤ x11 then (if x11 < ((rd_L1 x3 x10).length : Int) then (if 0 ≤ x112000 then (if x112000 < (x3.length : Int) then (if x112000 < ((rd_L1 x3 x112000).length : Int) then (if x112000 < ((rd_L1 x3 x10).length : Int) then (if x11 < ((rd_L1 x3 x112000).length : Int) then (if x5 = 0 then (none) else (impl_wholeDeterminant.l3 k (x3.set (x10 : Int).toNat ((rd_L1 x3 x10).set (x11 : Int).toNat (wrap64 (Int.tdiv (wrap64 ((wrap64 ((rd (rd_L1 x3 x10) x11) * (rd (rd_L1 x3 x112000) x112000))) - (wrap64 ((rd (rd_L1 x3 x10) x112000) * (rd (rd_L1 x3 x112000) x11))))) x5)))) x4 x5 x10 (wrap64 (x11 + 1)) x26 x27 x112000)) else (none)) else (none)) else (none)) else (none)) else (none)) else (none)) else (none)) else (none)) else (none)) else (impl_wholeDeterminant.l2 k x3 x4 x5 (wrap64 (x10 + 1)) x26 x27 x112000)
end
def impl_wholeDeterminant.f (k : Nat) (l0 : List (List Int)) : Option (Int) := impl_wholeDeterminant.l0 k (([] : List (List Int))) 1 1 l0 (l0.length : Int) 0
theorem impl_wholeDeterminant.mono_l : ∀ k, (∀ y0 y1 y2 y3 y4 y5, LeO (impl_wholeDeterminant.l0 k y0 y1 y2 y3 y4 y5) (impl_wholeDeterminant.l0 (k + 1) y0 y1 y2 y3 y4 y5)) ∧ (∀ y0 y1 y2 y3 y4, LeO (impl_wholeDeterminant.l1 k y0 y1 y2 y3 y4) (impl_wholeDeterminant.l1 (k + 1) y0 y1 y2 y3 y4)) ∧ (∀ y0 y1 y2 y3 y4 y5, LeO (impl_wholeDeterminant.j2 k y0 y1 y2 y3 y4 y5) (impl_wholeDeterminant.j2 (k + 1) y0 y1 y2 y3 y4 y5)) ∧ (∀ y0 y1 y2 y3 y4 y5 y6, LeO (impl_wholeDeterminant.l2 k y0 y1 y2 y3 y4 y5 y6) (impl_wholeDeterminant.l2 (k + 1) y0 y1 y2 y3 y4 y5 y6)) ∧ (∀ y0 y1 y2 y3 y4 y5 y6 y7, LeO (impl_wholeDeterminant.l3 k y0 y1 y2 y3 y4 y5 y6 y7) (impl_wholeDeterminant.l3 (k + 1) y0 y1 y2 y3 y4 y5 y6 y7))
  | 0 => ⟨fun _ _ _ _ _ _ r h => by simp [impl_wholeDeterminant.l0] at h, fun _ _ _ _ _ r h => by simp [impl_wholeDeterminant.l1] at h, fun _ _ _ _ _ _ r h => by simp [impl_wholeDeterminant.j2] at h, fun _ _ _ _ _ _ _ r h => by simp [impl_wholeDeterminant.l2] at h, fun _ _ _ _ _ _ _ _ r h => by simp [impl_wholeDeterminant.l3] at h⟩
  | k + 1 => by
    obtain ⟨ih0, ih1, ih2, ih3, ih4⟩ := impl_wholeDeterminant.mono_l k
    refine ⟨?_, ?_, ?_, ?_, ?_⟩
    · intro y0 y1 y2 y3 y4 y5
      unfold impl_wholeDeterminant.l0
      repeat' first
      | (with_reducible exact ih0 _ _ _ _ _ _)
      | (with_reducible exact ih1 _ _ _ _ _)
      | (with_reducible exact ih2 _ _ _ _ _ _)
      | (with_reducible exact ih3 _ _ _ _ _ _ _)
      | (with_reducible exact ih4 _ _ _ _ _ _ _ _)
      | (with_reducible exact impl_wholeDeterminant_1.mono _ _ _)
      | (with_reducible exact LeO.refl _)
      | (with_reducible exact LeO.none _)
      | (with_reducible refine LeO.ite ?_ ?_)
      | (with_reducible refine LeO.bind ?_ (fun _ => ?_))
      | exact ih0 _ _ _ _ _ _
      | exact ih1 _ _ _ _ _
      | exact ih2 _ _ _ _ _ _
      | exact ih3 _ _ _ _ _ _ _
      | exact ih4 _ _ _ _ _ _ _ _
      | exact impl_wholeDeterminant_1.mono _ _ _
      | exact LeO.none _
      | refine LeO.ite ?_ ?_
      | refine LeO.bind ?_ (fun _ => ?_)
    · intro y0 y1 y2 y3 y4
      unfold impl_wholeDeterminant.l1
      repeat' first
      | (with_reducible exact ih0 _ _ _ _ _ _)
      | (with_reducible exact ih1 _ _ _ _ _)
      | (with_reducible exact ih2 _ _ _ _ _ _)
      | (with_reducible exact ih3 _ _ _ _ _ _ _)
      | (with_reducible exact ih4 _ _ _ _ _ _ _ _)
      | (with_reducible exact impl_wholeDeterminant_1.mono _ _ _)
      | (with_reducible exact LeO.refl _)
      | (with_reducible exact LeO.none _)
      | (with_reducible refine LeO.ite ?_ ?_)
      | (with_reducible refine LeO.bind ?_ (fun _ => ?_))
      | exact ih0 _ _ _ _ _ _
      | exact ih1 _ _ _ _ _
      | exact ih2 _ _ _ _ _ _
      | exact ih3 _ _ _ _ _ _ _
      | exact ih4 _ _ _ _ _ _ _ _
      | exact impl_wholeDeterminant_1.mono _ _ _
      | exact LeO.none _
      | refine LeO.ite ?_ ?_
      | refine LeO.bind ?_ (fun _ => ?_)
    · intro y0 y1 y2 y3 y4 y5
      unfold impl_wholeDeterminant.j2
      repeat' first
      | (with_reducible exact ih0 _ _ _ _ _ _)
      | (with_reducible exact ih1 _ _ _ _ _)
      | (with_reducible exact ih2 _ _ _ _ _ _)
      | (with_reducible exact ih3 _ _ _ _ _ _ _)
      | (with_reducible exact ih4 _ _ _ _ _ _ _ _)
      | (with_reducible exact impl_wholeDeterminant_1.mono _ _ _)
      | (with_reducible exact LeO.refl _)
      | (with_reducible exact LeO.none _)
      | (with_reducible refine LeO.ite ?_ ?_)
      | (with_reducible refine LeO.bind ?_ (fun _ => ?_))
      | exact ih0 _ _ _ _ _ _
      | exact ih1 _ _ _ _ _
      | exact ih2 _ _ _ _ _ _
      | exact ih3 _ _ _ _ _ _ _
      | exact ih4 _ _ _ _ _ _ _ _
      | exact impl_wholeDeterminant_1.mono _ _ _
      | exact LeO.none _
      | refine LeO.ite ?_ ?_
      | refine LeO.bind ?_ (fun _ => ?_)
    · intro y0 y1 y2 y3 y4 y5 y6
      unfold impl_wholeDeterminant.l2
      repeat' first
      | (with_reducible exact ih0 _ _ _ _ _ _)
      | (with_reducible exact ih1 _ _ _ _ _)
      | (with_reducible exact ih2 _ _ _ _ _ _)
      | (with_reducible exact ih3 _ _ _ _ _ _ _)
      | (with_reducible exact ih4 _ _ _ _ _ _ _ _)
      | (with_reducible exact impl_wholeDeterminant_1.mono _ _ _)
      | (with_reducible exact LeO.refl _)
      | (with_reducible exact LeO.none _)
      | (with_reducible refine LeO.ite ?_ ?_)
      | (with_reducible refine LeO.bind ?_ (fun _ => ?_))
      | exact ih0 _ _ _ _ _ _
      | exact ih1 _ _ _ _ _
      | exact ih2 _ _ _ _ _ _
      | exact ih3 _ _ _ _ _ _ _
      | exact ih4 _ _ _ _ _ _ _ _
      | exact impl_wholeDeterminant_1.mono _ _ _
      | exact LeO.none _
      | refine LeO.ite ?_ ?_
      | refine LeO.bind ?_ (fun _ => ?_)
    · intro y0 y1 y2 y3 y4 y5 y6 y7
      unfold impl_wholeDeterminant.l3
      repeat' first
      | (with_reducible exact ih0 _ _ _ _ _ _)
      | (with_reducible exact ih1 _ _ _ _ _)
      | (with_reducible exact ih2 _ _ _ _ _ _)
      | (with_reducible exact ih3 _ _ _ _ _ _ _)
      | (with_reducible exact ih4 _ _ _ _ _ _ _ _)
      | (with_reducible exact impl_wholeDeterminant_1.mono _ _ _)
      | (with_reducible exact LeO.refl _)
      | (with_reducible exact LeO.none _)
      | (with_reducible refine LeO.ite ?_ ?_)
      | (with_reducible refine LeO.bind ?_ (fun _ => ?_))
      | exact ih0 _ _ _ _ _ _
      | exact ih1 _ _ _ _ _
      | exact ih2 _ _ _ _ _ _
      | exact ih3 _ _ _ _ _ _ _
      | exact ih4 _ _ _ _ _ _ _ _
      | exact impl_wholeDeterminant_1.mono _ _ _
      | exact LeO.none _
      | refine LeO.ite ?_ ?_
      | refine LeO.bind ?_ (fun _ => ?_)
theorem impl_wholeDeterminant.mono : ∀ a0 k, LeO (impl_wholeDeterminant.f k a0) (impl_wholeDeterminant.f (k + 1) a0) := by
  intro a0 k
  obtain ⟨ih0, ih1, ih2, ih3, ih4⟩ := impl_wholeDeterminant.mono_l k
  unfold impl_wholeDeterminant.f
  repeat' first
      | (with_reducible exact ih0 _ _ _ _ _ _)
      | (with_reducible exact ih1 _ _ _ _ _)
      | (with_reducible exact ih2 _ _ _ _ _ _)
      | (with_reducible exact ih3 _ _ _ _ _ _ _)
      | (with_reducible exact ih4 _ _ _ _ _ _ _ _)
      | (with_reducible exact impl_wholeDeterminant_1.mono _ _ _)
      | (with_reducible exact LeO.refl _)
      | (with_reducible exact LeO.none _)
      | (with_reducible refine LeO.ite ?_ ?_)
      | (with_reducible refine LeO.bind ?_ (fun _ => ?_))
      | exact ih0 _ _ _ _ _ _
      | exact ih1 _ _ _ _ _
      | exact ih2 _ _ _ _ _ _
      | exact ih3 _ _ _ _ _ _ _
      | exact ih4 _ _ _ _ _ _ _ _
      | exact impl_wholeDeterminant_1.mono _ _ _
      | exact LeO.none _
      | refine LeO.ite ?_ ?_
      | refine LeO.bind ?_ (fun _ => ?_)
def impl_wholeDeterminant.T14 : Bool × List (List Nat × List Nat) := (true, [([], []), ([], []), ([], []), ([], []), ([], []), ([3, 4], [3, 4]), ([], []), ([], []), ([], []), ([7, 8], [7, 8]), ([6, 9], [6, 9]), ([10], [10]), ([], []), ([], []), ([12, 13], [12, 13]), ([14], [14]), ([], []), ([16], [16]), ([0, 1, 0, 1, 6, 7, 8, 9, 10, 11, 15], [0, 1]), ([18, 11, 0, 1, 6, 7, 8, 9, 10, 11, 15], [11, 18]), ([2, 5, 0, 1, 2, 3, 4, 5, 6, 7, 8, 9, 10, 11, 12, 13, 14, 15, 18, 19], [2, 5]), ([20, 15, 19, 0, 1, 2, 3, 4, 5, 6, 7, 8, 9, 10, 11, 12, 13, 14, 15, 18, 19], [15, 20]), ([17, 21, 0, 1, 2, 3, 4, 5, 6, 7, 8, 9, 10, 11, 12, 13, 14, 15, 16, 17, 18, 19, 20, 21], [16, 17])])
def impl_wholeDeterminant.B14 : List Nat := [0, 0, 0, 0, 0, 24, 0, 0, 0, 384, 960, 1984, 0, 0, 12288, 28672, 0, 65536, 65475, 327619, 851967, 1900543, 4194303]
theorem impl_wholeDeterminant.tab14 : rtab .any (opsOf Try.f107 14) = impl_wholeDeterminant.T14 := by kernel_rfl
theorem impl_wholeDeterminant.bits14 : waitsOk impl_wholeDeterminant.T14.2 impl_wholeDeterminant.B14 = true := by kernel_rfl
def impl_wholeDeterminant.T21 : Bool × List (List Nat × List Nat) := (true, [([], []), ([], []), ([0, 1], [0, 1]), ([2], [2]), ([], []), ([], []), ([], []), ([5, 6], [5, 6]), ([7], [7]), ([], []), ([8, 9], [8, 9]), ([10], [10]), ([], []), ([], []), ([12, 13], [12, 13]), ([14], [14]), ([], []), ([15, 16], [15, 16]), ([17], [17]), ([11, 18], [11, 18]), ([], []), ([], []), ([20, 21], [20, 21]), ([22], [22]), ([], []), ([23, 24], [23, 24]), ([25], [25]), ([], []), ([], []), ([27, 28], [27, 28]), ([29], [29]), ([], []), ([30, 31], [30, 31]), ([32], [32]), ([26, 33], [26, 33]), ([19, 34], [19, 34]), ([], []), ([35, 36], [35, 36]), ([3, 4, 0, 1, 2, 3, 4, 5, 6, 7, 8, 9, 10, 11, 12, 13, 14, 15, 16, 17, 18, 19, 20, 21, 22, 23, 24, 25, 26, 27, 28, 29, 30, 31, 32, 33, 34, 35, 36, 37], [3, 4]), ([38, 37, 0, 1, 2, 3, 4, 5, 6, 7, 8, 9, 10, 11, 12, 13, 14, 15, 16, 17, 18, 19, 20, 21, 22, 23, 24, 25, 26, 27, 28, 29, 30, 31, 32, 33, 34, 35, 36, 37], [37, 38])])
def impl_wholeDeterminant.B21 : List Nat := [0, 0, 3, 7, 0, 0, 0, 96, 224, 0, 992, 2016, 0, 0, 12288, 28672, 0, 126976, 258048, 524256, 0, 0, 3145728, 7340032, 0, 32505856, 66060288, 0, 0, 402653184, 939524096, 0, 4160749568, 8455716864, 17178820608, 34359738336, 0, 137438953440, 274877906943, 549755813887]
theorem impl_wholeDeterminant.tab21 : rtab .any (opsOf Try.f107 21) = impl_wholeDeterminant.T21 := by kernel_rfl
theorem impl_wholeDeterminant.bits21 : waitsOk impl_wholeDeterminant.T21.2 impl_wholeDeterminant.B21 = true := by kernel_rfl
def impl_wholeDeterminant.T22 : Bool × List (List Nat × List Nat) := (true, [([], []), ([], []), ([0, 1], [0, 1]), ([2], [2]), ([], []), ([3, 4], [3, 4]), ([5], [5]), ([6, 0, 1, 2, 3, 4, 5, 6], [6])])
def impl_wholeDeterminant.B22 : List Nat := [0, 0, 3, 7, 0, 31, 63, 127]
theorem impl_wholeDeterminant.tab22 : rtab .any (opsOf Try.f107 22) = impl_wholeDeterminant.T22 := by kernel_rfl
theorem impl_wholeDeterminant.bits22 : waitsOk impl_wholeDeterminant.T22.2 impl_wholeDeterminant.B22 = true := by kernel_rfl
set_option maxHeartbeats 8000000 in
set_option maxRecDepth 100000 in
theorem impl_wholeDeterminant.calls (k : Nat) (A0 : Option Addr) (c0 : Nat) (l0 : List (List Int)) (r : Int) (w : World) (hr0 : Kd.C (Kd.slice 2 (Kd.int .i64)) w A0 l0.length l0) (hc0 : l0.length ≤ c0) (h : impl_wholeDeterminant.f k l0 = some r) :
    Calls Try.prog 107 #[.slice A0 l0.length c0] w fun e w' => e = .returned (.int .i64 r) ∧ Below w.heap.size w w' := by
  have HR0 := Aside0.mk hr0
  have HC0 := Aside0.mk hc0
  clear hr0 hc0
  have HB := Aside0.mk (Below.refl w.heap.size w)
  have H : (impl_wholeDeterminant.l0 k (([] : List (List Int))) 1 1 l0 (l0.length : Int) 0) = some r := h
  clear h
  obtain ⟨y101, hy101⟩ : ∃ y_ : List (List Int), y_ = (([] : List (List Int))) := ⟨_, rfl⟩
  replace H : (impl_wholeDeterminant.l0 k y101 1 1 l0 (l0.length : Int) 0) = some r := by first | (rw [hy101]; with_reducible exact H) | (have H2_ := (Option.bind_some _ _).symm.trans H; rw [hy101]; with_reducible exact H2_) | (have H2_ := (Option.bind_some _ _).symm.trans H; with_reducible exact H2_) | with_reducible exact H | (rw [hy101]; exact H) | exact H
  have Ny101 := Aside0.mk hy101
  clear hy101
  have H' := Aside0.mk H
  clear H
  go_enter Try.func107, Try.ntmps107
  go_wp2_with (first | ((with_reducible refine gate_dst (N := 12) rfl ?_); refine Kd.S_lit (Kd.slice 2 (Kd.int .i64)) _ 43 ?hg (N := 12) ?hd (xs := ([] : List (List Int))) (inner := []) (ok := fun _ => True) (okp := fun _ => True) ?hr ?hp (fun _ hk => hk) trivial (Below.refl _ _) (Nat.le_refl _) (by simp) ?_; (case hd => rfl); (case hg => rfl); (case hr => first | (go_simp; done) | (go_simp; rfl)); (case hp => exact (Reps.none _ _)); intro v102 w2 ho3 hb hg_ hnew_; clear hg_ hnew_; (first | rw [← Ny101.out] at ho3 | (simp only [Int.reduceToNat] at ho3; rw [← Ny101.out] at ho3)); have n0_ := Aside0.mk (Kd.S_lower ho3 (below_size bl)); have n1_ := Aside0.mk (below_step bl hb); clear HB; have HO103 := n0_; have HB := n1_; clear n0_ n1_; clear hb ho3))
  go_loopg [3, 15] k (fun kq v3 v15 w' => ∃ (x3_1 : List (List Int)) (x15_1 : Int), v15 = .int .i64 x15_1 ∧ Aside0 (impl_wholeDeterminant.l0 kq x3_1 1 1 l0 (l0.length : Int) x15_1 = some r) ∧ Aside0 (kq ≤ k) ∧ Aside0 (Kd.S (Kd.slice 2 (Kd.int .i64)) 43 w' w.heap.size (fun _ => True) v3 x3_1) ∧ Aside0 (Below w.heap.size w w'))
  case atStart => exact ⟨(y101), (0), rs, H', ⟨Nat.le_refl _⟩, ⟨by (with_reducible repeat (first | apply Kd.S_alloc | apply Kd.S_drewN | apply Kd.S_drew)); exact HO103.out⟩, ⟨bl⟩⟩
  case round =>
    clear H'
    (try clear c1); (try clear p2)
    obtain ⟨x3_1, x15_1, rfl, HA, HK1, HO_3, HB⟩ := hrel
    cases gk with
    | zero => exact absurd HA.out (by simp [impl_wholeDeterminant.l0])
    | succ k1 =>
      have H := HA.out
      clear HA
      simp only [impl_wholeDeterminant.l0] at H
      by_cases c4 : x15_1 < (l0.length : Int)
      case neg =>
        rw [if_neg c4] at H
        have c4b0 : decide (x15_1 < (l0.length : Int)) = false := decide_eq_false c4
        clear c4
        have H' := Aside0.mk H
        clear H
        obtain ⟨Ao12, co12, eo12⟩ := Kd.S_slice HO_3.out
        subst eo12
        go_wp2
        go_loopg [4, 5, 27] k1 (fun kq v4 v5 v27 w' => ∃ (x3_2 : List (List Int)) (x4_2 : Int) (x5_2 : Int) (x27_2 : Int), v4 = .int .i64 x4_2 ∧ v5 = .int .i64 x5_2 ∧ v27 = .int .i64 x27_2 ∧ Aside0 (impl_wholeDeterminant.l1 kq x3_2 x4_2 x5_2 (x3_1.length : Int) x27_2 = some r) ∧ Aside0 (kq ≤ k1) ∧ Aside0 (Kd.S (Kd.slice 2 (Kd.int .i64)) 43 w' w.heap.size (fun _ => True) (.slice Ao12 x3_1.length co12) x3_2) ∧ Aside0 (Below w.heap.size w w'))
        case atStart => exact ⟨(x3_1), (1), (1), (0), rs, rs, rs, H', ⟨Nat.le_refl _⟩, ⟨by (with_reducible repeat (first | apply Kd.S_alloc | apply Kd.S_drewN | apply Kd.S_drew)); exact HO_3.out⟩, ⟨bl⟩⟩
        case round =>
          clear H'
          (try clear c1); (try clear p1); (try clear q1); (try clear hx1); (try clear p2); (try clear c4); (try clear c4b0); (try clear c5); (try clear c5b0); (try clear c6); (try clear c6b0); (try clear p6); (try clear c8); (try clear c10); (try clear p10); (try clear q10); (try clear hx10); (try clear c11); (try clear hx104_0); (try clear p104); (try clear p2); (try clear q104)
          obtain ⟨x3_2, x4_2, x5_2, x27_2, rfl, rfl, rfl, HA, HK2, HO_3, HB⟩ := hrel
          have hl3_2 := (Kd.S_reads' HO_3.out).1
          rw [hl3_2] at HO_3
          (try simp only [hl3_2])
          cases gk with
          | zero => exact absurd HA.out (by simp [impl_wholeDeterminant.l1])
          | succ k2 =>
            have H := HA.out
            clear HA
            simp only [impl_wholeDeterminant.l1] at H
            by_cases c13 : x27_2 < (x3_1.length : Int)
            case neg =>
              rw [if_neg c13] at H
              have c13b0 : decide (x27_2 < (x3_1.length : Int)) = false := decide_eq_false c13
              (try simp only [hl3_2] at c13b0)
              clear c13
              obtain rfl := Option.some.inj H
              go_wp2
              go_ret
              exact ⟨by first | rfl | (simp [errW_none, errW_some] <;> rfl) | (simp [*, errW_none, errW_some] <;> rfl), bl⟩
            rw [if_pos c13] at H
            have c13b0 : decide (x27_2 < (x3_1.length : Int)) = true := decide_eq_true c13
            (try simp only [hl3_2] at c13b0)
            clear c13
            by_cases c14 : 0 ≤ x27_2
            case neg => rw [if_neg c14] at H; exact absurd H (by simp)
            rw [if_pos c14] at H
            have c14b0 := eq_true c14
            have c14b1 : decide (0 ≤ x27_2) = true := decide_eq_true c14
            clear c14
            by_cases c15 : x27_2 ≤ (x3_2.length : Int)
            case neg => rw [if_neg c15] at H; exact absurd H (by simp)
            rw [if_pos c15] at H
            have c15b0 := eq_true c15
            have c15b1 : decide (x27_2 ≤ (x3_2.length : Int)) = true := decide_eq_true c15
            (try simp only [hl3_2] at c15b1)
            clear c15
            obtain ⟨y112, hy112⟩ : ∃ y_ : List (List Int), y_ = (x3_2.drop (x27_2 : Int).toNat) := ⟨_, rfl⟩
            replace H : ((impl_wholeDeterminant_1.f k2 y112 x27_2).bind fun t116 => (if t116 < 0 then (some 0) else (if t116 > 0 then (if 0 ≤ (wrap64 (x27_2 + t116)) then (if (wrap64 (x27_2 + t116)) < (x3_2.length : Int) then (if x27_2 < (x3_2.length : Int) then (impl_wholeDeterminant.j2 k2 (swp x3_2 x27_2 (wrap64 (x27_2 + t116))) (wrap64 (-x4_2)) x5_2 (x3_1.length : Int) x27_2 x27_2) else (none)) else (none)) else (none)) else (impl_wholeDeterminant.j2 k2 x3_2 x4_2 x5_2 (x3_1.length : Int) x27_2 x27_2)))) = some r := by first | (rw [hy112]; with_reducible exact H) | (have H2_ := (Option.bind_some _ _).symm.trans H; rw [hy112]; with_reducible exact H2_) | (have H2_ := (Option.bind_some _ _).symm.trans H; with_reducible exact H2_) | with_reducible exact H | (rw [hy112]; exact H) | exact H
            have Ny112 := Aside0.mk hy112
            clear hy112
            replace H := Option.bind_eq_some_iff.mp H
            obtain ⟨t116, A160, H⟩ := H
            replace H : (if t116 < 0 then (some 0) else (if t116 > 0 then (if 0 ≤ (wrap64 (x27_2 + t116)) then (if (wrap64 (x27_2 + t116)) < (x3_2.length : Int) then (if x27_2 < (x3_2.length : Int) then (impl_wholeDeterminant.j2 k2 (swp x3_2 x27_2 (wrap64 (x27_2 + t116))) (wrap64 (-x4_2)) x5_2 (x3_1.length : Int) x27_2 x27_2) else (none)) else (none)) else (none)) else (impl_wholeDeterminant.j2 k2 x3_2 x4_2 x5_2 (x3_1.length : Int) x27_2 x27_2))) = some r := H
            have A16 := Aside0.mk A160
            clear A160
            by_cases c17 : t116 < 0
            case neg =>
              rw [if_neg c17] at H
              have c17b0 : decide (t116 < 0) = false := decide_eq_false c17
              clear c17
              have HC24 := Aside0.mk H
              clear H
              go_upto_if 38 with (first | ((with_reducible refine gate_dst (N := 8) rfl ?_); refine box_event ?hg (N := 8) ?hd (cs := #[.int .i64 0]) (t := 3) ?hr ?_; (case hd => rfl); (case hg => rfl); (case hr => first | (go_simp; done) | (go_simp; rfl)); intro gb111 hg w25 hbox hb; have n0_ := Aside0.mk (Kd.S_below (by (with_reducible repeat (first | apply Kd.S_alloc | apply Kd.S_drewN | apply Kd.S_drew)); exact HO_3.out) hb); have n1_ := Aside0.mk (below_step bl hb); have n2_ := Aside0.mk (hbox); have n3_ := Aside0.mk ((by rw [hg]; exact (below_size bl) : w.heap.size ≤ gb111)); have n4_ := Aside0.mk ((by rw [hg]; exact (below_size bl) : w.heap.size ≤ gb111)); clear HO_3; clear HB; have HO_3 := n0_; have HB := n1_; have BK111 := n2_; have GW111 := n3_; have GE111 := n4_; clear n0_ n1_ n2_ n3_ n4_; clear hb hbox hg; have hcz26_0 : w25.cell? ⟨gb111, 0, none⟩ = some (.int .i64 0) := (blk_cell BK111.out 0).trans rfl; have hfz26_0 := blk_frozen BK111.out 0) | ((with_reducible refine gate_store (t := 3) (p := 8) rfl ?_); refine store_event (t := 3) (p := 8) (v := ?vo_w27) (w1 := (w25.setCell ⟨gb111, 0, none⟩ (.int .i64 x27_2))) ?hg ?ho ?hn ?hr ?_; (case ho => rfl); (case hg => rfl); (case hn => rfl); (case hr => first | (go_simp; done) | (go_simp; rfl)); intro w27 hw; have n0_ : Aside0 (Kd.S (Kd.slice 2 (Kd.int .i64)) 43 w27 w.heap.size (fun _ => True) (.slice Ao12 x3_2.length co12) x3_2) := ⟨(by rw [hw]; exact (by (with_reducible repeat (first | apply Kd.S_alloc | apply Kd.S_drewN | apply Kd.S_drew)); exact Kd.S_mono (Kd.S_far (p := ⟨gb111, 0, none⟩) (Kd.S_types HO_3.out BK111.out (by decide)) (fun _ hk => hk.2) (.int .i64 x27_2)) (fun _ hk => trivial)))⟩; have n1_ : Aside0 (w27.heap[gb111]? = some (.cells #[.int .i64 x27_2] 3 (0, 0))) := ⟨(by rw [hw]; exact (by (with_reducible repeat (first | refine blk_drewN ?_ _ | refine blk_drew ?_ | refine blk_alloc ?_ _)); refine blk_put (cs := #[.int .i64 0]) ?_ 0 _ rfl; (with_reducible repeat (first | refine blk_drewN ?_ _ | refine blk_drew ?_ | refine blk_alloc ?_ _)); exact BK111.out))⟩; have n2_ : Aside0 (Below w.heap.size w w27) := ⟨(by rw [hw]; exact bl)⟩; clear hw; clear HO_3; clear BK111; clear HB; have HO_3 := n0_; have BK111 := n1_; have HB := n2_; clear n0_ n1_ n2_; have hcz28_0 : w27.cell? ⟨gb111, 0, none⟩ = some (.int .i64 x27_2) := (blk_cell BK111.out 0).trans rfl; have hfz28_0 := blk_frozen BK111.out 0; have q29 : (x27_2 : Int) ≤ ((x3_2.length : Int) : Int) := oD; obtain ⟨i029, hi029, _, hsz29, _⟩ := info_parts info43; have hroom29 : x3_2.length ≤ co12 := (Kd.S_reads' HO_3.out).2.1; have hC29 : Kd.C (Kd.slice 2 (Kd.int .i64)) _ Ao12 x3_2.length x3_2 := (Kd.S_reads' HO_3.out).2.2; have q029 : (0 : Int) ≤ (x27_2 : Int) := oD; have hcut29 := cut_from (P := Try.prog) 22 43 .i64 Try.underlying22 hi029 1 hsz29 Ao12 x3_2.length co12 x27_2 q029 q29; have hr29 := Kd.C_drop (m := (x27_2 : Int).toNat) (c := co12) hC29 (by omega) hroom29; obtain ⟨A29, hA29⟩ : ∃ A1, A1 = (if co12 = (x27_2 : Int).toNat then Ao12 else (Ao12 : Option Addr).map (·.add ((x27_2 : Int).toNat * 1))) := ⟨_, rfl⟩; obtain ⟨c29, hc29⟩ : ∃ c1, c1 = co12 - (x27_2 : Int).toNat := ⟨_, rfl⟩; have hy29 : y112.length = x3_2.length - (x27_2 : Int).toNat := (by rw [Ny112.out, List.length_drop] <;> omega); rw [show (x3_2).drop (x27_2 : Int).toNat = y112 from Ny112.out.symm] at hr29; replace hr29 : Kd.C (Kd.slice 2 (Kd.int .i64)) _ A29 y112.length y112 := (by rw [hA29]; exact hr29); rw [← hy29, ← hA29, ← hc29] at hcut29; have HR115 := Aside0.mk hr29; have HC115 := Aside0.mk (show y112.length ≤ c29 from by rw [hy29, hc29]; exact Nat.sub_le_sub_right hroom29 _); clear hr29 hC29 hroom29 hi029 hsz29 hc29; have KY29 := Aside0.mk hy29; have KA29 := Aside0.mk hA29; clear hy29 hA29; have KL29 := Aside0.mk (show (x27_2 : Int).toNat ≤ x3_2.length from by omega); replace q29 := eq_true q29) | ((with_reducible refine gate_callee (f := 61) rfl ?_); refine goesL_ (some 34) rfl rfl Try.func61 (by kernel_rfl) rfl #[.slice A29 y112.length c29, .func (.func 154) #[] #[.pointer (some ⟨gb111, 0, none⟩)]] rfl gm ?_; (with_reducible refine (impl_wholeDeterminant_1.calls k2 _ _ y112 x27_2 t116 _ ?side1 ?side2 ?side3 A16.out).mono ?_); (case side1 => repeat (first | exact (by repeat (first | (with_reducible exact HR115.out) | (with_reducible refine Kd.C_alloc ?_ _) | (with_reducible refine Kd.C_drewN ?_ _) | (with_reducible refine Kd.C_drew ?_) | exact HR115.out)) | (with_reducible refine Kd.C_alloc ?_ _) | (with_reducible refine Kd.C_drewN ?_ _) | (with_reducible refine Kd.C_drew ?_))); (case side2 => exact HC115.out); (case side3 => exact by (with_reducible repeat (first | refine blk_drewN ?_ _ | refine blk_drew ?_ | refine blk_alloc ?_ _)); exact BK111.out); rintro e w30 ⟨rfl, hb⟩; refine ⟨_, rfl, ?_⟩; have n0_ := Aside0.mk (Kd.S_below (by (with_reducible repeat (first | apply Kd.S_alloc | apply Kd.S_drewN | apply Kd.S_drew)); exact HO_3.out) hb); have n1_ := Aside0.mk (blk_below (g := gb111) (o := .cells #[.int .i64 x27_2] 3 (0, 0)) bk hb); have n2_ := Aside0.mk (Kd.C_below (by repeat (first | (with_reducible exact HR115.out) | (with_reducible refine Kd.C_alloc ?_ _) | (with_reducible refine Kd.C_drewN ?_ _) | (with_reducible refine Kd.C_drew ?_) | exact HR115.out)) hb); have n3_ := Aside0.mk (below_step bl hb); clear HO_3; clear BK111; clear HR115; clear HB; have HO_3 := n0_; have BK111 := n1_; have HR115 := n2_; have HB := n3_; clear n0_ n1_ n2_ n3_; (try clear hb); (try clear hb2); (try clear hk); (try clear hi)))
              (try simp only [Act.put, zI, zZ, zS])
              go_cut [4] (fun v4 wc => ∃ (kq : Nat) (x3_23 : List (List Int)) (x4_23 : Int), v4 = .int .i64 x4_23 ∧ Aside0 (impl_wholeDeterminant.j2 kq x3_23 x4_23 x5_2 (x3_1.length : Int) x27_2 x27_2 = some r) ∧ Aside0 (kq ≤ k2) ∧ Aside0 (Kd.S (Kd.slice 2 (Kd.int .i64)) 43 wc w.heap.size (fun _ => True) (.slice Ao12 x3_2.length co12) x3_23) ∧ Aside0 (wc.heap[gb111]? = some (.cells #[.int .i64 x27_2] 3 (0, 0))) ∧ Aside0 (Below w.heap.size w wc))
              case first =>
                have H := HC24.out
                clear HC24
                by_cases c31 : t116 > 0
                case neg =>
                  rw [if_neg c31] at H
                  have c31b0 : decide (0 < t116) = false := decide_eq_false c31
                  clear c31
                  (first | rw [c31b0] | (simp only [i64_w, i32_w]; rw [c31b0]) | skip)
                  have H' := Aside0.mk H
                  clear H
                  go_wp2
                  go_meet
                  case rel => exact ⟨_, (x3_2), (x4_2), rs, (by first | exact H' | (rw [hji32]; exact H')), ⟨by have := HK1.out; have := HK2.out; first | omega | exact Nat.le_refl _⟩, ⟨by (try simp only [hl3_2]); (with_reducible repeat (first | apply Kd.S_alloc | apply Kd.S_drewN | apply Kd.S_drew)); exact HO_3.out⟩, ⟨by (try simp only [hl3_2]); (with_reducible repeat (first | refine blk_drewN ?_ _ | refine blk_drew ?_ | refine blk_alloc ?_ _)); exact BK111.out⟩, ⟨bl⟩⟩
                rw [if_pos c31] at H
                have c31b0 : decide (0 < t116) = true := decide_eq_true c31
                clear c31
                (first | rw [c31b0] | (simp only [i64_w, i32_w]; rw [c31b0]) | skip)
                obtain ⟨ji32, hji32⟩ : ∃ j_ : Int, (wrap64 (x27_2 + t116)) = j_ := ⟨_, rfl⟩
                replace H : (if 0 ≤ (ji32) then (if (ji32) < (x3_2.length : Int) then (if x27_2 < (x3_2.length : Int) then (impl_wholeDeterminant.j2 k2 (swp x3_2 x27_2 (ji32)) (wrap64 (-x4_2)) x5_2 (x3_1.length : Int) x27_2 x27_2) else (none)) else (none)) else (none)) = some r := by first | (rw [hji32] at H; exact H) | (simp only [hji32] at H ⊢; exact H)
                have hji32w : (IntKind.i64.wrap (x27_2 + t116)) = ji32 := (i64_w _).trans hji32
                by_cases c33 : 0 ≤ (ji32)
                case neg => rw [if_neg c33] at H; exact absurd H (by simp)
                rw [if_pos c33] at H
                have c33b0 : decide (0 ≤ (ji32)) = true := decide_eq_true c33
                clear c33
                by_cases c34 : (ji32) < (x3_2.length : Int)
                case neg => rw [if_neg c34] at H; exact absurd H (by simp)
                rw [if_pos c34] at H
                have c34b0 : decide ((ji32) < (x3_2.length : Int)) = true := decide_eq_true c34
                (try simp only [hl3_2] at c34b0)
                clear c34
                by_cases c35 : x27_2 < (x3_2.length : Int)
                case neg => rw [if_neg c35] at H; exact absurd H (by simp)
                rw [if_pos c35] at H
                have c35b0 : decide (x27_2 < (x3_2.length : Int)) = true := decide_eq_true c35
                (try simp only [hl3_2] at c35b0)
                clear c35
                obtain ⟨y119, hy119⟩ : ∃ y_ : List (List Int), y_ = (swp x3_2 x27_2 (ji32)) := ⟨_, rfl⟩
                replace H : (impl_wholeDeterminant.j2 k2 y119 (wrap64 (-x4_2)) x5_2 (x3_1.length : Int) x27_2 x27_2) = some r := by first | (rw [hy119]; with_reducible exact H) | (have H2_ := (Option.bind_some _ _).symm.trans H; rw [hy119]; with_reducible exact H2_) | (have H2_ := (Option.bind_some _ _).symm.trans H; with_reducible exact H2_) | with_reducible exact H | (rw [hy119]; exact H) | exact H
                have Ny119 := Aside0.mk hy119
                clear hy119
                have H' := Aside0.mk H
                clear H
                try go_wp2
                have n0_ := Aside0.mk (Kd.S_drew HO_3.out)
                have n1_ := Aside0.mk (blk_drew BK111.out)
                have n2_ := Aside0.mk (Kd.C_drew HR115.out)
                have n3_ := Aside0.mk (below_drew1 HB.out)
                clear HO_3
                clear BK111
                clear HR115
                clear HB
                have HO_3 := n0_
                have BK111 := n1_
                have HR115 := n2_
                have HB := n3_
                clear n0_ n1_ n2_ n3_
                have p117 : 0 ≤ ((ji32) : Int) := oD
                have q117 : (ji32) < (x3_2.length : Int) := oD
                obtain ⟨ad117, A117_0, c117_0, e117, hx117_0, hl117_0, hi117_0⟩ := at_L1 (Kd.S_reads' HO_3.out).2.2 (ji32) p117 q117
                cases e117
                obtain ⟨ce117, hce117, hMe117, hcc117⟩ := Kd.S_get HO_3.out [] (ji32) p117 (by first | exact q117 | exact oD | (have e_ := (Kd.S_reads' HO_3.out).1; omega))
                obtain ⟨ve117_0, rfl, ge117_0⟩ := hMe117
                have hv117_0 := hcc117 0 _ rfl
                rw [Nat.add_zero, show ((Kd.slice 2 (Kd.int .i64))).sz = 1 from rfl, Nat.mul_one] at hv117_0
                replace hv117_0 := Option.some.inj (hv117_0.symm.trans hx117_0)
                rw [hv117_0] at ge117_0
                have HL117_0 := Aside0.mk (show Kd.R (Kd.int .i64) 2 _ _ _ _ (rd_L1 x3_2 (ji32)) from ge117_0)
                clear hv117_0 ge117_0
                have HX117_0 := Aside0.mk hx117_0
                clear hcc117 hce117
                have HR117_0 := Aside0.mk hi117_0
                have HC117_0 := Aside0.mk hl117_0
                clear hi117_0 hl117_0
                replace p117 := eq_true p117
                replace q117 := eq_true q117
                have p118 : 0 ≤ (x27_2 : Int) := oD
                have q118 : x27_2 < (x3_2.length : Int) := oD
                obtain ⟨ad118, A118_0, c118_0, e118, hx118_0, hl118_0, hi118_0⟩ := at_L1 (Kd.S_reads' HO_3.out).2.2 x27_2 p118 q118
                obtain rfl : ad117 = ad118 := (by injection e118)
                obtain ⟨ce118, hce118, hMe118, hcc118⟩ := Kd.S_get HO_3.out [] x27_2 p118 (by first | exact q118 | exact oD | (have e_ := (Kd.S_reads' HO_3.out).1; omega))
                obtain ⟨ve118_0, rfl, ge118_0⟩ := hMe118
                have hv118_0 := hcc118 0 _ rfl
                rw [Nat.add_zero, show ((Kd.slice 2 (Kd.int .i64))).sz = 1 from rfl, Nat.mul_one] at hv118_0
                replace hv118_0 := Option.some.inj (hv118_0.symm.trans hx118_0)
                rw [hv118_0] at ge118_0
                have HL118_0 := Aside0.mk (show Kd.R (Kd.int .i64) 2 _ _ _ _ (rd_L1 x3_2 x27_2) from ge118_0)
                clear hv118_0 ge118_0
                have HX118_0 := Aside0.mk hx118_0
                clear hcc118 hce118
                have HR118_0 := Aside0.mk hi118_0
                have HC118_0 := Aside0.mk hl118_0
                clear hi118_0 hl118_0
                replace p118 := eq_true p118
                replace q118 := eq_true q118
                have p36 : 0 ≤ (x27_2 : Int) := oD
                have q36 : (x27_2 : Int) < ((x3_2.length : Int) : Int) := oD
                obtain ⟨go36, co36, eo36, gb36, gl36, cl36, HG36⟩ := Kd.S_form HO_3.out (by omega)
                (first | cases eo36 | (injection eo36 with ea_ en_ ec_; (first | subst ea_ | (injection ea_ with ea_; subst ea_)); subst ec_; clear en_))
                have GB36 := Aside0.mk gb36
                have GG36 := Aside0.mk HG36
                clear gb36 gl36 HG36
                (first | simp only [add_plain] at hx117_0 | skip)
                (first | simp only [add_plain] at hx118_0 | skip)
                obtain ⟨_, ce36, hcl36, hM36, hcc36, hfr36, _, _⟩ := Kd.S_elem HO_3.out [] (x27_2 : Int) p36 q36
                obtain ⟨ve36_0, rfl, ge36_0⟩ := hM36
                have hx36_0 := hcc36 0 _ rfl
                have hf36_0 := hfr36 0
                (try simp only [show ((Kd.slice 2 (Kd.int .i64))).sz = 1 from rfl, Nat.mul_one, Nat.add_zero] at hx36_0)
                (try simp only [show ((Kd.slice 2 (Kd.int .i64))).sz = 1 from rfl, Nat.mul_one, Nat.add_zero] at hf36_0)
                (try clear hM36); clear hcl36 hcc36 hfr36 
                replace p36 := eq_true p36
                replace q36 := eq_true q36
                have HP38 := S_swap HO_3.out (x27_2 : Int) ((ji32) : Int) oD (by have h_ : (x27_2 : Int) < ((x3_2.length : Int) : Int) := oD; first | exact h_ | (have e_ := (Kd.S_reads' HO_3.out).1; omega) | simpa using h_) oD (by have h_ : ((ji32) : Int) < ((x3_2.length : Int) : Int) := oD; first | exact h_ | (have e_ := (Kd.S_reads' HO_3.out).1; omega) | simpa using h_) (by first | exact HX118_0.out | simpa only [add_plain, add_at, Nat.mul_one, Nat.zero_add, Nat.add_zero] using HX118_0.out) (by first | exact HX117_0.out | simpa only [add_plain, add_at, Nat.mul_one, Nat.zero_add, Nat.add_zero] using HX117_0.out)
                obtain ⟨hx38_0, hf38_0⟩ := S_mid HO_3.out (x27_2 : Int) ((ji32) : Int) oD (by have h_ : (x27_2 : Int) < ((x3_2.length : Int) : Int) := oD; first | exact h_ | (have e_ := (Kd.S_reads' HO_3.out).1; omega) | simpa using h_) oD (by have h_ : ((ji32) : Int) < ((x3_2.length : Int) : Int) := oD; first | exact h_ | (have e_ := (Kd.S_reads' HO_3.out).1; omega) | simpa using h_) (by first | exact HX117_0.out | simpa only [add_plain, add_at, Nat.mul_one, Nat.zero_add, Nat.add_zero] using HX117_0.out)
                have HQ38 := Aside0.mk HP38.1
                (have h_ := HQ38.out; rw [← Ny119.out] at h_; have HQ_ := Aside0.mk h_; clear h_ HQ38; have HQ38 := HQ_; clear HQ_)
                clear HP38
                refine start_ (n := 23) (S := fun w' => w'.cell? ⟨gb111, 0, none⟩ = some (.int .i64 x27_2) ∧ w'.cell? ⟨go36, ((ji32)).toNat, none⟩ = some (.slice A117_0 (rd_L1 x3_2 (ji32)).length c117_0) ∧ w'.cell? ⟨go36, (x27_2).toNat, none⟩ = some (.slice A118_0 (rd_L1 x3_2 x27_2).length c118_0)) (ds := [19, 21]) #[false, false, false, false, false, false, false, false, false, false, false, false, false, false, false, false, false, false, false, false, false, false, false] (by kernel_rfl) rfl rfl ⟨(blk_cell BK111.out 0).trans rfl, hx117_0, hx118_0⟩ (fun hHeld => ?_); refine with_tabW impl_wholeDeterminant.tab14 impl_wholeDeterminant.bits14 (fun HT_ HW_ => ?_)
                generalize w30.drew = w37 at HO_3 BK111 HR115 HB GG36 HL117_0 HL118_0 HQ38 HR117_0 HR118_0 HX117_0 HX118_0 hf36_0 hf38_0 hx117_0 hx118_0 hx36_0 hx38_0 hHeld ⊢
                refine pure_ (i := 0) (N := some 39) (v := ?_) (a' := ?_) #[true, false, false, false, false, false, false, false, false, false, false, false, false, false, false, false, false, false, false, false, false, false, false] rfl rfl (any_of HT_.out (by kernel_rfl)) (fun _ _ _ h => h) (Or.inl ⟨by rfl, ?_⟩) ?_ ?_
                rotate_left; · intro w'; go_simp; with_reducible rfl
                rotate_left; · simp only [Act.put, zI, zZ, zS, i64_w, i32_w]; rfl
                refine pure_ (i := 2) (N := some 41) (v := ?_) (a' := ?_) #[true, false, true, false, false, false, false, false, false, false, false, false, false, false, false, false, false, false, false, false, false, false, false] rfl rfl (any_of HT_.out (by kernel_rfl)) (fun _ _ _ h => h) (Or.inl ⟨by rfl, ?_⟩) ?_ ?_
                rotate_left; · intro w'; go_simp; with_reducible rfl
                rotate_left; · simp only [Act.put, zI, zZ, zS, i64_w, i32_w]; rfl
                refine pure_ (i := 4) (N := some 43) (v := ?_) (a' := ?_) #[true, false, true, false, true, false, false, false, false, false, false, false, false, false, false, false, false, false, false, false, false, false, false] rfl rfl (any_of HT_.out (by kernel_rfl)) (fun _ _ _ h => h) (Or.inl ⟨by rfl, ?_⟩) ?_ ?_
                rotate_left; · intro w'; go_simp; with_reducible rfl
                rotate_left; · simp only [Act.put, zI, zZ, zS, i64_w, i32_w]; rfl
                refine pure_ (i := 6) (N := some 45) (v := ?_) (a' := ?_) #[true, false, true, false, true, false, true, false, false, false, false, false, false, false, false, false, false, false, false, false, false, false, false] rfl rfl (any_of HT_.out (by kernel_rfl)) (fun _ _ _ h => h) (Or.inl ⟨by rfl, ?_⟩) ?_ ?_
                rotate_left; · intro w'; go_simp; with_reducible rfl
                rotate_left; · simp only [Act.put, zI, zZ, zS, i64_w, i32_w]; rfl
                refine pure_ (i := 8) (N := some 47) (v := ?_) (a' := ?_) #[true, false, true, false, true, false, true, false, true, false, false, false, false, false, false, false, false, false, false, false, false, false, false] rfl rfl (any_of HT_.out (by kernel_rfl)) (fun _ _ _ h => h) (Or.inl ⟨by rfl, ?_⟩) ?_ ?_
                rotate_left; · intro w'; go_simp; with_reducible rfl
                rotate_left; · simp only [Act.put, zI, zZ, zS, i64_w, i32_w]; rfl
                refine pure_ (i := 12) (N := some 51) (v := ?_) (a' := ?_) #[true, false, true, false, true, false, true, false, true, false, false, false, true, false, false, false, false, false, false, false, false, false, false] rfl rfl (any_of HT_.out (by kernel_rfl)) (fun _ _ _ h => h) (Or.inl ⟨by rfl, ?_⟩) ?_ ?_
                rotate_left; · intro w'; go_simp; with_reducible rfl
                rotate_left; · simp only [Act.put, zI, zZ, zS, i64_w, i32_w]; rfl
                refine pure_ (i := 16) (N := some 55) (v := ?_) (a' := ?_) #[true, false, true, false, true, false, true, false, true, false, false, false, true, false, false, false, true, false, false, false, false, false, false] rfl rfl (any_of HT_.out (by kernel_rfl)) (fun _ _ _ h => h) (Or.inl ⟨by rfl, ?_⟩) ?_ ?_
                rotate_left; · intro w'; go_simp; with_reducible rfl
                rotate_left; · simp only [Act.put, zI, zZ, zS, i64_w, i32_w]; rfl
                refine pure_ (i := 17) (N := some 56) (v := ?_) (a' := ?_) #[true, false, true, false, true, false, true, false, true, false, false, false, true, false, false, false, true, true, false, false, false, false, false] rfl rfl (any_of HT_.out (by kernel_rfl)) (fun _ _ _ h => h) (Or.inl ⟨by rfl, ?_⟩) ?_ ?_
                rotate_left; · intro w'; go_simp; with_reducible rfl
                rotate_left; · simp only [Act.put, zI, zZ, zS, i64_w, i32_w]; rfl
                refine take_ (i := 1) (N := some 40) (v := ?_) (a' := ?_) #[true, true, true, false, true, false, true, false, true, false, false, false, true, false, false, false, true, true, false, false, false, false, false] rfl rfl (take_ofW HT_.out HW_.out (by kernel_rfl)) (fun _ _ _ h => h) (Or.inl ⟨by rfl, ?_⟩) hHeld ?_ ?_
                rotate_left; · rintro w' ⟨s0, s1, s2⟩; go_simp; with_reducible rfl
                rotate_left; · simp only [Act.put, zI, zZ, zS, i64_w, i32_w]; rfl
                refine take_ (i := 7) (N := some 46) (v := ?_) (a' := ?_) #[true, true, true, false, true, false, true, true, true, false, false, false, true, false, false, false, true, true, false, false, false, false, false] rfl rfl (take_ofW HT_.out HW_.out (by kernel_rfl)) (fun _ _ _ h => h) (Or.inl ⟨by rfl, ?_⟩) hHeld ?_ ?_
                rotate_left; · rintro w' ⟨s0, s1, s2⟩; go_simp; with_reducible rfl
                rotate_left; · simp only [Act.put, zI, zZ, zS, i64_w, i32_w]; rfl
                refine pure_ (i := 9) (N := some 48) (v := ?_) (a' := ?_) #[true, true, true, false, true, false, true, true, true, true, false, false, true, false, false, false, true, true, false, false, false, false, false] rfl rfl (any_of HT_.out (by kernel_rfl)) (fun _ _ _ h => h) (Or.inl ⟨by rfl, ?_⟩) ?_ ?_
                rotate_left; · intro w'; go_simp; with_reducible rfl
                rotate_left; · simp only [Act.put, zI, zZ, zS, i64_w, i32_w]; rfl
                refine pure_ (i := 10) (N := some 49) (v := ?_) (a' := ?_) #[true, true, true, false, true, false, true, true, true, true, true, false, true, false, false, false, true, true, false, false, false, false, false] rfl rfl (any_of HT_.out (by kernel_rfl)) (fun _ _ _ h => h) (Or.inl ⟨by rfl, ?_⟩) ?_ ?_
                rotate_left; · intro w'; go_simp; with_reducible rfl
                rotate_left; · simp only [Act.put, zI, zZ, zS, i64_w, i32_w]; rfl
                refine take_ (i := 11) (N := some 50) (v := ?_) (a' := ?_) #[true, true, true, false, true, false, true, true, true, true, true, true, true, false, false, false, true, true, false, false, false, false, false] rfl rfl (take_ofW HT_.out HW_.out (by kernel_rfl)) (fun _ _ _ h => h) (Or.inl ⟨by rfl, ?_⟩) hHeld ?_ ?_
                rotate_left; · rintro w' ⟨s0, s1, s2⟩; go_simp; with_reducible rfl
                rotate_left; · simp only [Act.put, zI, zZ, zS, i64_w, i32_w]; rfl
                refine take_ (i := 13) (N := some 52) (v := ?_) (a' := ?_) #[true, true, true, false, true, false, true, true, true, true, true, true, true, true, false, false, true, true, false, false, false, false, false] rfl rfl (take_ofW HT_.out HW_.out (by kernel_rfl)) (fun _ _ _ h => h) (Or.inl ⟨by rfl, ?_⟩) hHeld ?_ ?_
                rotate_left; · rintro w' ⟨s0, s1, s2⟩; go_simp; with_reducible rfl
                rotate_left; · simp only [Act.put, zI, zZ, zS, i64_w, i32_w]; rfl
                refine pure_ (i := 14) (N := some 53) (v := ?_) (a' := ?_) #[true, true, true, false, true, false, true, true, true, true, true, true, true, true, true, false, true, true, false, false, false, false, false] rfl rfl (any_of HT_.out (by kernel_rfl)) (fun _ _ _ h => h) (Or.inl ⟨by rfl, ?_⟩) ?_ ?_
                rotate_left; · intro w'; go_simp; with_reducible rfl
                rotate_left; · simp only [Act.put, zI, zZ, zS, i64_w, i32_w]; rfl
                refine take_ (i := 15) (N := some 54) (v := ?_) (a' := ?_) #[true, true, true, false, true, false, true, true, true, true, true, true, true, true, true, true, true, true, false, false, false, false, false] rfl rfl (take_ofW HT_.out HW_.out (by kernel_rfl)) (fun _ _ _ h => h) (Or.inl ⟨by rfl, ?_⟩) hHeld ?_ ?_
                rotate_left; · rintro w' ⟨s0, s1, s2⟩; go_simp; with_reducible rfl
                rotate_left; · simp only [Act.put, zI, zZ, zS, i64_w, i32_w]; rfl
                refine pure_ (i := 18) (N := some 57) (v := ?_) (a' := ?_) #[true, true, true, false, true, false, true, true, true, true, true, true, true, true, true, true, true, true, true, false, false, false, false] rfl rfl (any_of HT_.out (by kernel_rfl)) (fun _ _ _ h => h) (Or.inl ⟨by rfl, ?_⟩) ?_ ?_
                rotate_left; · intro w'; go_simp; with_reducible rfl
                rotate_left; · simp only [Act.put, zI, zZ, zS, i64_w, i32_w]; rfl
                refine late2_ (i := 3) (d := 19) (Ni := some 42) (fuel3 := ?f3_) (l3 := #[true, true, true, true, true, true, true, true, true, true, true, true, true, true, true, true, true, true, true, true, false, false, false]) (a3 := ?a3_) (w3 := ?w3_) #[true, true, true, true, true, false, true, true, true, true, true, true, true, true, true, true, true, true, true, false, false, false, false] #[true, true, true, false, true, false, true, true, true, true, true, true, true, true, true, true, true, true, true, true, false, false, false] rfl rfl rfl rfl (by kernel_rfl) (by decide) (fun hf K hK => ?A_) (fun hf K hK => ?B_) ?M_
                case A_ =>
                  refine value_ (w1 := ?_) (v := ?_) (by rfl) rfl ?_ ?_
                  rotate_left 2
                  · go_simp
                    constructor
                    · rfl
                    · rfl
                  refine hK.out _ ?_
                  clear hK K
                  refine norm_ (a' := ?_) ?_ ?_
                  rotate_left; · show Act.put _ (some 42) _ = _; simp only [Act.put, zI, zZ, zS, i64_w, i32_w]; rfl
                  refine pure_ (i := 5) (N := some 44) (v := ?_) (a' := ?_) #[true, true, true, true, true, true, true, true, true, true, true, true, true, true, true, true, true, true, true, false, false, false, false] rfl rfl (any_of HT_.out (by kernel_rfl)) (fun _ _ _ h => h) (Or.inl ⟨by rfl, ?_⟩) ?_ ?_
                  rotate_left; · intro w'; go_simp; with_reducible rfl
                  rotate_left; · simp only [Act.put, zI, zZ, zS, i64_w, i32_w]; rfl
                  refine last_ (i := 19) (N := none) #[true, true, true, true, true, true, true, true, true, true, true, true, true, true, true, true, true, true, true, true, false, false, false] rfl rfl (one_of HT_.out (by kernel_rfl)) (by decide) (fun K hK => ?_)
                  refine skip_ (w1 := ?_) (by rfl) rfl ?_ ?_
                  rotate_left; · go_simp; rfl
                  refine hK.out _ _ ?_
                  clear hK K
                  exact hf
                case B_ =>
                  refine skip_ (w1 := ?_) (by rfl) rfl ?_ ?_
                  rotate_left; · go_simp; rfl
                  refine hK.out _ _ ?_
                  clear hK K
                  have hb0_ : ∀ (ix_ : Nat) (v_ : Value), (World.setCell w37 ⟨go36, ix_, none⟩ v_).cell? ⟨gb111, 0, none⟩ = some (.int .i64 x27_2) := fun ix_ v_ => (cell_far (p := ⟨go36, ix_, none⟩) (fun h_ => (Kd.S_ne HO_3.out BK111.out (by decide)) (congrArg some h_)) v_).trans hHeld.1
                  refine lone_ (i := 3) (Ni := some 42) #[true, true, true, true, true, false, true, true, true, true, true, true, true, true, true, true, true, true, true, true, false, false, false] rfl rfl (by kernel_rfl) (fun K hK => ?_)
                  refine value_ (w1 := ?_) (v := ?_) (by rfl) rfl ?_ ?_
                  rotate_left 2
                  · go_simp
                    constructor
                    · rfl
                    · rfl
                  refine hK.out _ ?_
                  clear hK K
                  refine norm_ (a' := ?_) ?_ ?_
                  rotate_left; · show Act.put _ (some 42) _ = _; simp only [Act.put, zI, zZ, zS, i64_w, i32_w]; rfl
                  refine pure_ (i := 5) (N := some 44) (v := ?_) (a' := ?_) #[true, true, true, true, true, true, true, true, true, true, true, true, true, true, true, true, true, true, true, true, false, false, false] rfl rfl (any_of HT_.out (by kernel_rfl)) (fun _ _ _ h => h) (Or.inl ⟨by rfl, ?_⟩) ?_ ?_
                  rotate_left; · intro w'; go_simp; with_reducible rfl
                  rotate_left; · simp only [Act.put, zI, zZ, zS, i64_w, i32_w]; rfl
                  exact hf
                refine pure_ (i := 20) (N := some 58) (v := ?_) (a' := ?_) #[true, true, true, true, true, true, true, true, true, true, true, true, true, true, true, true, true, true, true, true, true, false, false] rfl rfl (any_of HT_.out (by kernel_rfl)) (fun _ _ _ h => h) (Or.inl ⟨by rfl, ?_⟩) ?_ ?_
                rotate_left; · intro w'; go_simp; with_reducible rfl
                rotate_left; · simp only [Act.put, zI, zZ, zS, i64_w, i32_w]; rfl
                refine last_ (i := 21) (N := none) #[true, true, true, true, true, true, true, true, true, true, true, true, true, true, true, true, true, true, true, true, true, true, false] rfl rfl (one_of HT_.out (by kernel_rfl)) (by decide) (fun K hK => ?_)
                refine skip_ (w1 := ?_) (by rfl) rfl ?_ ?_
                rotate_left; · go_simp; rfl
                refine hK.out _ _ ?_
                clear hK K
                refine pure_ (i := 22) (N := some 4) (v := ?_) (a' := ?_) #[true, true, true, true, true, true, true, true, true, true, true, true, true, true, true, true, true, true, true, true, true, true, true] rfl rfl (any_of HT_.out (by kernel_rfl)) (fun _ _ _ h => h) (Or.inl ⟨by rfl, ?_⟩) ?_ ?_
                rotate_left; · intro w'; go_simp; with_reducible rfl
                rotate_left; · simp only [Act.put, zI, zZ, zS, i64_w, i32_w]; rfl
                refine done_ (done_of HT_.out (by kernel_rfl)) ?_
                try go_wp2
                go_meet
                case rel => exact ⟨_, (y119), (wrap64 (-x4_2)), rs, (by first | exact H' | (rw [hji32]; exact H')), ⟨by have := HK1.out; have := HK2.out; first | omega | exact Nat.le_refl _⟩, ⟨by (try simp only [hl3_2]); (with_reducible repeat (first | apply Kd.S_alloc | apply Kd.S_drewN | apply Kd.S_drew)); exact HQ38.out⟩, ⟨by (try simp only [hl3_2]); (with_reducible repeat (first | refine blk_drewN ?_ _ | refine blk_drew ?_ | refine blk_alloc ?_ _)); refine blk_far ?_ (by have h_ := Kd.S_ne HO_3.out BK111.out (by decide); intro e_; exact h_ (by rw [e_]; rfl)) _; (with_reducible repeat (first | refine blk_drewN ?_ _ | refine blk_drew ?_ | refine blk_alloc ?_ _)); refine blk_far ?_ (by have h_ := Kd.S_ne HO_3.out BK111.out (by decide); intro e_; exact h_ (by rw [e_]; rfl)) _; (with_reducible repeat (first | refine blk_drewN ?_ _ | refine blk_drew ?_ | refine blk_alloc ?_ _)); exact BK111.out⟩, ⟨by repeat (first | (with_reducible first | exact HB.out | apply below_alloc | apply pw_below_drewN | apply below_drew1 | refine below_set ?_ GB36.out | refine below_set ?_ GB36.out | refine below_set ?_ GE111.out) | exact HB.out)⟩⟩
              case rest =>
                clear HC24
                (try clear c1); (try clear p1); (try clear q1); (try clear hx1); (try clear c2); (try clear p2); (try clear q2); (try clear c3); (try clear p3); (try clear q3); (try clear hx3); (try clear hf3); (try clear c4); (try clear c4b0); (try clear c5); (try clear c5b0); (try clear c6); (try clear c6b0); (try clear p6); (try clear c8); (try clear c10); (try clear p10); (try clear q10); (try clear hx10); (try clear c11); (try clear p11); (try clear q11); (try clear hx11); (try clear c13); (try clear c13b0); (try clear c14); (try clear c14b0); (try clear c14b1); (try clear c15); (try clear c15b0); (try clear c15b1); (try clear c17); (try clear c17b0); (try clear c22); (try clear q22); (try clear c29); (try clear q29); (try clear c31); (try clear c31b0); (try clear c33); (try clear c33b0); (try clear c34); (try clear c34b0); (try clear c35); (try clear c35b0); (try clear c36); (try clear p36); (try clear q36); (try clear hx36); (try clear hf36); (try clear hx38); (try clear hf38); (try clear hcz19_0); (try clear hcz21_0); (try clear hcz26_0); (try clear hcz28_0); (try clear hfz19_0); (try clear hfz21_0); (try clear hfz26_0); (try clear hfz28_0); (try clear hx104_0); (try clear hx117_0); (try clear hx118_0); (try clear hx36_0); (try clear hx38_0); (try clear p1); (try clear p10); (try clear p104); (try clear p117); (try clear p118); (try clear p2); (try clear p36); (try clear p6); (try clear q022); (try clear q029); (try clear q1); (try clear q10); (try clear q104); (try clear q117); (try clear q118); (try clear q22); (try clear q29); (try clear q36)
                obtain ⟨kq, x3_23, x4_23, rfl, HA, HJ23, HO_3, BK111, HB⟩ := hcut
                have hl3_23 := (Kd.S_reads' HO_3.out).1
                rw [hl3_23] at HO_3
                (try simp only [hl3_23])
                (try simp only [hl3_23] at BK111)
                cases kq with
                | zero => exact absurd HA.out (by simp [impl_wholeDeterminant.j2])
                | succ kj23 =>
                  have H := HA.out
                  clear HA
                  simp only [impl_wholeDeterminant.j2] at H
                  have H' := Aside0.mk H
                  clear H
                  have hcz39_0 : wc.cell? ⟨gb111, 0, none⟩ = some (.int .i64 x27_2) := (blk_cell BK111.out 0).trans rfl
                  have hfz39_0 := blk_frozen BK111.out 0
                  go_wp2
                  go_loopg [10] kj23 (fun kq v10 w' => ∃ (x3_4 : List (List Int)) (x10_4 : Int), v10 = .int .i64 x10_4 ∧ Aside0 (impl_wholeDeterminant.l2 kq x3_4 x4_23 x5_2 x10_4 (x3_1.length : Int) x27_2 x27_2 = some r) ∧ Aside0 (kq ≤ kj23) ∧ Aside0 (Kd.S (Kd.slice 2 (Kd.int .i64)) 43 w' w.heap.size (fun _ => True) (.slice Ao12 x3_23.length co12) x3_4) ∧ Aside0 (w'.heap[gb111]? = some (.cells #[.int .i64 x27_2] 3 (0, 0))) ∧ Aside0 (Below w.heap.size w w'))
                  case atStart => exact ⟨(x3_23), (wrap64 (x27_2 + 1)), rs, H', ⟨Nat.le_refl _⟩, ⟨by (try simp only [hl3_2]); (try simp only [hl3_23]); (with_reducible repeat (first | apply Kd.S_alloc | apply Kd.S_drewN | apply Kd.S_drew)); exact HO_3.out⟩, ⟨by (try simp only [hl3_2]); (try simp only [hl3_23]); (with_reducible repeat (first | refine blk_drewN ?_ _ | refine blk_drew ?_ | refine blk_alloc ?_ _)); exact BK111.out⟩, ⟨bl⟩⟩
                  case round =>
                    clear H'
                    (try clear c1); (try clear p1); (try clear q1); (try clear hx1); (try clear c2); (try clear p2); (try clear q2); (try clear c3); (try clear p3); (try clear q3); (try clear hx3); (try clear hf3); (try clear c4); (try clear c4b0); (try clear c5); (try clear c5b0); (try clear c6); (try clear c6b0); (try clear p6); (try clear c8); (try clear c10); (try clear p10); (try clear q10); (try clear hx10); (try clear c11); (try clear p11); (try clear q11); (try clear hx11); (try clear c13); (try clear c13b0); (try clear c14); (try clear c14b0); (try clear c14b1); (try clear c15); (try clear c15b0); (try clear c15b1); (try clear c17); (try clear c17b0); (try clear c22); (try clear q22); (try clear c29); (try clear q29); (try clear c31); (try clear c31b0); (try clear c33); (try clear c33b0); (try clear c34); (try clear c34b0); (try clear c35); (try clear c35b0); (try clear c36); (try clear p36); (try clear q36); (try clear hx36); (try clear hf36); (try clear hx38); (try clear hf38); (try clear hcz19_0); (try clear hcz21_0); (try clear hcz26_0); (try clear hcz28_0); (try clear hcz39_0); (try clear hfz19_0); (try clear hfz21_0); (try clear hfz26_0); (try clear hfz28_0); (try clear hfz39_0); (try clear hx104_0); (try clear hx117_0); (try clear hx118_0); (try clear hx36_0); (try clear hx38_0); (try clear p1); (try clear p10); (try clear p104); (try clear p11); (try clear p117); (try clear p118); (try clear p2); (try clear p3); (try clear p36); (try clear p6); (try clear q022); (try clear q029); (try clear q1); (try clear q10); (try clear q104); (try clear q11); (try clear q117); (try clear q118); (try clear q2); (try clear q22); (try clear q29); (try clear q3); (try clear q36)
                    obtain ⟨x3_4, x10_4, rfl, HA, HK4, HO_3, BK111, HB⟩ := hrel
                    have hl3_4 := (Kd.S_reads' HO_3.out).1
                    rw [hl3_4] at HO_3
                    (try simp only [hl3_4])
                    (try simp only [hl3_4] at BK111)
                    cases gk with
                    | zero => exact absurd HA.out (by simp [impl_wholeDeterminant.l2])
                    | succ k4 =>
                      have H := HA.out
                      clear HA
                      simp only [impl_wholeDeterminant.l2] at H
                      by_cases c40 : x10_4 < (x3_4.length : Int)
                      case neg =>
                        rw [if_neg c40] at H
                        have c40b0 : decide (x10_4 < (x3_4.length : Int)) = false := decide_eq_false c40
                        (try simp only [hl3_2, hl3_23, hl3_4] at c40b0)
                        clear c40
                        by_cases c57 : 0 ≤ x27_2
                        case neg => rw [if_neg c57] at H; exact absurd H (by simp)
                        rw [if_pos c57] at H
                        have c57b0 : decide (0 ≤ x27_2) = true := decide_eq_true c57
                        clear c57
                        by_cases c58 : x27_2 < (x3_4.length : Int)
                        case neg => rw [if_neg c58] at H; exact absurd H (by simp)
                        rw [if_pos c58] at H
                        have c58b0 : decide (x27_2 < (x3_4.length : Int)) = true := decide_eq_true c58
                        (try simp only [hl3_2, hl3_23, hl3_4] at c58b0)
                        clear c58
                        by_cases c59 : x27_2 < ((rd_L1 x3_4 x27_2).length : Int)
                        case neg => rw [if_neg c59] at H; exact absurd H (by simp)
                        rw [if_pos c59] at H
                        have c59b0 : decide (x27_2 < ((rd_L1 x3_4 x27_2).length : Int)) = true := decide_eq_true c59
                        (try simp only [hl3_2, hl3_23, hl3_4] at c59b0)
                        clear c59
                        have H' := Aside0.mk H
                        clear H
                        try go_wp2
                        have n0_ := Aside0.mk (Kd.S_drew HO_3.out)
                        have n1_ := Aside0.mk (blk_drew BK111.out)
                        have n2_ := Aside0.mk (below_drew1 HB.out)
                        clear HO_3
                        clear BK111
                        clear HB
                        have HO_3 := n0_
                        have BK111 := n1_
                        have HB := n2_
                        clear n0_ n1_ n2_
                        have p120 : 0 ≤ (x27_2 : Int) := oD
                        have q120 : x27_2 < (x3_4.length : Int) := oD
                        obtain ⟨ad120, A120_0, c120_0, e120, hx120_0, hl120_0, hi120_0⟩ := at_L1 (Kd.S_reads' HO_3.out).2.2 x27_2 p120 q120
                        cases e120
                        obtain ⟨ce120, hce120, hMe120, hcc120⟩ := Kd.S_get HO_3.out [] x27_2 p120 (by first | exact q120 | exact oD | (have e_ := (Kd.S_reads' HO_3.out).1; omega))
                        obtain ⟨ve120_0, rfl, ge120_0⟩ := hMe120
                        have hv120_0 := hcc120 0 _ rfl
                        rw [Nat.add_zero, show ((Kd.slice 2 (Kd.int .i64))).sz = 1 from rfl, Nat.mul_one] at hv120_0
                        replace hv120_0 := Option.some.inj (hv120_0.symm.trans hx120_0)
                        rw [hv120_0] at ge120_0
                        have HL120_0 := Aside0.mk (show Kd.R (Kd.int .i64) 2 _ _ _ _ (rd_L1 x3_4 x27_2) from ge120_0)
                        clear hv120_0 ge120_0
                        have HX120_0 := Aside0.mk hx120_0
                        clear hcc120 hce120
                        have HR120_0 := Aside0.mk hi120_0
                        have HC120_0 := Aside0.mk hl120_0
                        clear hi120_0 hl120_0
                        replace p120 := eq_true p120
                        replace q120 := eq_true q120
                        have p121 : 0 ≤ (x27_2 : Int) := oD
                        have q121 : x27_2 < ((rd_L1 x3_4 x27_2).length : Int) := oD
                        obtain ⟨ad121, e121, hx121_0⟩ := Kd.at_int (by repeat (first | (with_reducible exact HR120_0.out) | (with_reducible refine Kd.C_alloc ?_ _) | (with_reducible refine Kd.C_drewN ?_ _) | (with_reducible refine Kd.C_drew ?_) | exact HR120_0.out)) x27_2 p121 q121
                        cases e121
                        replace p121 := eq_true p121
                        replace q121 := eq_true q121
                        refine start_ (n := 8) (S := fun w' => w'.cell? ⟨gb111, 0, none⟩ = some (.int .i64 x27_2) ∧ w'.cell? (ad120.add (x27_2).toNat) = some (.slice (some ad121) (rd_L1 x3_4 x27_2).length c120_0) ∧ w'.cell? (ad121.add (x27_2).toNat) = some (.int .i64 (rd (rd_L1 x3_4 x27_2) x27_2))) (ds := []) #[false, false, false, false, false, false, false, false] (by kernel_rfl) rfl rfl ⟨(blk_cell BK111.out 0).trans rfl, hx120_0, hx121_0⟩ (fun hHeld => ?_); refine with_tabW impl_wholeDeterminant.tab22 impl_wholeDeterminant.bits22 (fun HT_ HW_ => ?_)
                        generalize wr.drew = w60 at HO_3 BK111 HB HL120_0 HR120_0 HX120_0 hx120_0 hx121_0 hHeld ⊢
                        refine pure_ (i := 0) (N := some 114) (v := ?_) (a' := ?_) #[true, false, false, false, false, false, false, false] rfl rfl (any_of HT_.out (by kernel_rfl)) (fun _ _ _ h => h) (Or.inl ⟨by rfl, ?_⟩) ?_ ?_
                        rotate_left; · intro w'; go_simp; with_reducible rfl
                        rotate_left; · simp only [Act.put, zI, zZ, zS, i64_w, i32_w]; rfl
                        refine take_ (i := 1) (N := some 115) (v := ?_) (a' := ?_) #[true, true, false, false, false, false, false, false] rfl rfl (take_ofW HT_.out HW_.out (by kernel_rfl)) (fun _ _ _ h => h) (Or.inl ⟨by rfl, ?_⟩) hHeld ?_ ?_
                        rotate_left; · rintro w' ⟨s0, s1, s2⟩; go_simp; with_reducible rfl
                        rotate_left; · simp only [Act.put, zI, zZ, zS, i64_w, i32_w]; rfl
                        refine pure_ (i := 2) (N := some 116) (v := ?_) (a' := ?_) #[true, true, true, false, false, false, false, false] rfl rfl (any_of HT_.out (by kernel_rfl)) (fun _ _ _ h => h) (Or.inl ⟨by rfl, ?_⟩) ?_ ?_
                        rotate_left; · intro w'; go_simp; with_reducible rfl
                        rotate_left; · simp only [Act.put, zI, zZ, zS, i64_w, i32_w]; rfl
                        refine take_ (i := 3) (N := some 117) (v := ?_) (a' := ?_) #[true, true, true, true, false, false, false, false] rfl rfl (take_ofW HT_.out HW_.out (by kernel_rfl)) (fun _ _ _ h => h) (Or.inl ⟨by rfl, ?_⟩) hHeld ?_ ?_
                        rotate_left; · rintro w' ⟨s0, s1, s2⟩; go_simp; with_reducible rfl
                        rotate_left; · simp only [Act.put, zI, zZ, zS, i64_w, i32_w]; rfl
                        refine take_ (i := 4) (N := some 118) (v := ?_) (a' := ?_) #[true, true, true, true, true, false, false, false] rfl rfl (take_ofW HT_.out HW_.out (by kernel_rfl)) (fun _ _ _ h => h) (Or.inl ⟨by rfl, ?_⟩) hHeld ?_ ?_
                        rotate_left; · rintro w' ⟨s0, s1, s2⟩; go_simp; with_reducible rfl
                        rotate_left; · simp only [Act.put, zI, zZ, zS, i64_w, i32_w]; rfl
                        refine pure_ (i := 5) (N := some 119) (v := ?_) (a' := ?_) #[true, true, true, true, true, true, false, false] rfl rfl (any_of HT_.out (by kernel_rfl)) (fun _ _ _ h => h) (Or.inl ⟨by rfl, ?_⟩) ?_ ?_
                        rotate_left; · intro w'; go_simp; with_reducible rfl
                        rotate_left; · simp only [Act.put, zI, zZ, zS, i64_w, i32_w]; rfl
                        refine take_ (i := 6) (N := some 120) (v := ?_) (a' := ?_) #[true, true, true, true, true, true, true, false] rfl rfl (take_ofW HT_.out HW_.out (by kernel_rfl)) (fun _ _ _ h => h) (Or.inl ⟨by rfl, ?_⟩) hHeld ?_ ?_
                        rotate_left; · rintro w' ⟨s0, s1, s2⟩; go_simp; with_reducible rfl
                        rotate_left; · simp only [Act.put, zI, zZ, zS, i64_w, i32_w]; rfl
                        refine pure_ (i := 7) (N := some 5) (v := ?_) (a' := ?_) #[true, true, true, true, true, true, true, true] rfl rfl (any_of HT_.out (by kernel_rfl)) (fun _ _ _ h => h) (Or.inl ⟨by rfl, ?_⟩) ?_ ?_
                        rotate_left; · intro w'; go_simp; with_reducible rfl
                        rotate_left; · simp only [Act.put, zI, zZ, zS, i64_w, i32_w]; rfl
                        refine done_ (done_of HT_.out (by kernel_rfl)) ?_
                        try go_wp2
                        (try simp only [← hl3_2, ← hl3_23, ← hl3_4])
                        first | go_roundg k4 | (simp only [← hji32]; go_roundg k4)
                        case measure => have := HK1.out; have := HK2.out; have := HJ23.out; have := HK4.out; omega
                        case rel => exact ⟨(x3_4), (x4_23), (rd (rd_L1 x3_4 x27_2) x27_2), (wrap64 (x27_2 + 1)), rs, rs, rs, (by first | exact H' | (rw [hji32]; exact H')), ⟨by have := HK1.out; have := HK2.out; have := HJ23.out; have := HK4.out; omega⟩, ⟨by (try simp only [hl3_2]); (try simp only [hl3_23]); (try simp only [hl3_4]); (with_reducible repeat (first | apply Kd.S_alloc | apply Kd.S_drewN | apply Kd.S_drew)); exact HO_3.out⟩, ⟨bl⟩⟩
                      rw [if_pos c40] at H
                      have c40b0 : decide (x10_4 < (x3_4.length : Int)) = true := decide_eq_true c40
                      (try simp only [hl3_2, hl3_23, hl3_4] at c40b0)
                      clear c40
                      have H' := Aside0.mk H
                      clear H
                      have hcz41_0 : wr.cell? ⟨gb111, 0, none⟩ = some (.int .i64 x27_2) := (blk_cell BK111.out 0).trans rfl
                      have hfz41_0 := blk_frozen BK111.out 0
                      go_wp2
                      go_loopg [11] k4 (fun kq v11 w' => ∃ (x3_5 : List (List Int)) (x11_5 : Int), v11 = .int .i64 x11_5 ∧ Aside0 (impl_wholeDeterminant.l3 kq x3_5 x4_23 x5_2 x10_4 x11_5 (x3_1.length : Int) x27_2 x27_2 = some r) ∧ Aside0 (kq ≤ k4) ∧ Aside0 (Kd.S (Kd.slice 2 (Kd.int .i64)) 43 w' w.heap.size (fun _ => True) (.slice Ao12 x3_4.length co12) x3_5) ∧ Aside0 (w'.heap[gb111]? = some (.cells #[.int .i64 x27_2] 3 (0, 0))) ∧ Aside0 (Below w.heap.size w w'))
                      case atStart => exact ⟨(x3_4), (wrap64 (x27_2 + 1)), rs, H', ⟨Nat.le_refl _⟩, ⟨by (try simp only [hl3_2]); (try simp only [hl3_23]); (try simp only [hl3_4]); (with_reducible repeat (first | apply Kd.S_alloc | apply Kd.S_drewN | apply Kd.S_drew)); exact HO_3.out⟩, ⟨by (try simp only [hl3_2]); (try simp only [hl3_23]); (try simp only [hl3_4]); (with_reducible repeat (first | refine blk_drewN ?_ _ | refine blk_drew ?_ | refine blk_alloc ?_ _)); exact BK111.out⟩, ⟨bl⟩⟩
                      case round =>
                        clear H'
                        (try clear c1); (try clear p1); (try clear q1); (try clear hx1); (try clear c2); (try clear p2); (try clear q2); (try clear c3); (try clear p3); (try clear q3); (try clear hx3); (try clear hf3); (try clear c4); (try clear c4b0); (try clear c5); (try clear c5b0); (try clear c6); (try clear c6b0); (try clear p6); (try clear c8); (try clear c10); (try clear p10); (try clear q10); (try clear hx10); (try clear c11); (try clear p11); (try clear q11); (try clear hx11); (try clear c13); (try clear c13b0); (try clear c14); (try clear c14b0); (try clear c14b1); (try clear c15); (try clear c15b0); (try clear c15b1); (try clear c17); (try clear c17b0); (try clear c22); (try clear q22); (try clear c29); (try clear q29); (try clear c31); (try clear c31b0); (try clear c33); (try clear c33b0); (try clear c34); (try clear c34b0); (try clear c35); (try clear c35b0); (try clear c36); (try clear p36); (try clear q36); (try clear hx36); (try clear hf36); (try clear hx38); (try clear hf38); (try clear c40); (try clear c40b0); (try clear hcz19_0); (try clear hcz21_0); (try clear hcz26_0); (try clear hcz28_0); (try clear hcz39_0); (try clear hcz41_0); (try clear hfz19_0); (try clear hfz21_0); (try clear hfz26_0); (try clear hfz28_0); (try clear hfz39_0); (try clear hfz41_0); (try clear hx104_0); (try clear hx117_0); (try clear hx118_0); (try clear hx36_0); (try clear hx38_0); (try clear p1); (try clear p10); (try clear p104); (try clear p11); (try clear p117); (try clear p118); (try clear p2); (try clear p3); (try clear p36); (try clear p6); (try clear q022); (try clear q029); (try clear q1); (try clear q10); (try clear q104); (try clear q11); (try clear q117); (try clear q118); (try clear q2); (try clear q22); (try clear q29); (try clear q3); (try clear q36)
                        obtain ⟨x3_5, x11_5, rfl, HA, HK5, HO_3, BK111, HB⟩ := hrel
                        have hl3_5 := (Kd.S_reads' HO_3.out).1
                        rw [hl3_5] at HO_3
                        (try simp only [hl3_5])
                        (try simp only [hl3_5] at BK111)
                        cases gk with
                        | zero => exact absurd HA.out (by simp [impl_wholeDeterminant.l3])
                        | succ k5 =>
                          have H := HA.out
                          clear HA
                          simp only [impl_wholeDeterminant.l3] at H
                          by_cases c42 : x11_5 < (x3_5.length : Int)
                          case neg =>
                            rw [if_neg c42] at H
                            have c42b0 : decide (x11_5 < (x3_5.length : Int)) = false := decide_eq_false c42
                            (try simp only [hl3_2, hl3_23, hl3_4, hl3_5] at c42b0)
                            clear c42
                            have H' := Aside0.mk H
                            clear H
                            go_wp2
                            (try simp only [← hl3_4, ← hl3_5])
                            first | go_roundg k5 | (simp only [← hji32]; go_roundg k5)
                            case measure => have := HK1.out; have := HK2.out; have := HJ23.out; have := HK4.out; have := HK5.out; omega
                            case rel => exact ⟨(x3_5), (wrap64 (x10_4 + 1)), rs, (by first | exact H' | (rw [hji32]; exact H')), ⟨by have := HK1.out; have := HK2.out; have := HJ23.out; have := HK4.out; have := HK5.out; omega⟩, ⟨by (try simp only [hl3_2]); (try simp only [hl3_23]); (try simp only [hl3_4]); (try simp only [hl3_5]); (with_reducible repeat (first | apply Kd.S_alloc | apply Kd.S_drewN | apply Kd.S_drew)); exact HO_3.out⟩, ⟨by (try simp only [hl3_2]); (try simp only [hl3_23]); (try simp only [hl3_4]); (try simp only [hl3_5]); (with_reducible repeat (first | refine blk_drewN ?_ _ | refine blk_drew ?_ | refine blk_alloc ?_ _)); exact BK111.out⟩, ⟨bl⟩⟩
                          rw [if_pos c42] at H
                          have c42b0 : decide (x11_5 < (x3_5.length : Int)) = true := decide_eq_true c42
                          (try simp only [hl3_2, hl3_23, hl3_4, hl3_5] at c42b0)
                          clear c42
                          by_cases c43 : 0 ≤ x10_4
                          case neg => rw [if_neg c43] at H; exact absurd H (by simp)
                          rw [if_pos c43] at H
                          have c43b0 : decide (0 ≤ x10_4) = true := decide_eq_true c43
                          clear c43
                          by_cases c44 : x10_4 < (x3_5.length : Int)
                          case neg => rw [if_neg c44] at H; exact absurd H (by simp)
                          rw [if_pos c44] at H
                          have c44b0 : decide (x10_4 < (x3_5.length : Int)) = true := decide_eq_true c44
                          (try simp only [hl3_2, hl3_23, hl3_4, hl3_5] at c44b0)
                          clear c44
                          by_cases c45 : 0 ≤ x11_5
                          case neg => rw [if_neg c45] at H; exact absurd H (by simp)
                          rw [if_pos c45] at H
                          have c45b0 : decide (0 ≤ x11_5) = true := decide_eq_true c45
                          clear c45
                          by_cases c46 : x11_5 < ((rd_L1 x3_5 x10_4).length : Int)
                          case neg => rw [if_neg c46] at H; exact absurd H (by simp)
                          rw [if_pos c46] at H
                          have c46b0 : decide (x11_5 < ((rd_L1 x3_5 x10_4).length : Int)) = true := decide_eq_true c46
                          (try simp only [hl3_2, hl3_23, hl3_4, hl3_5] at c46b0)
                          clear c46
                          by_cases c47 : 0 ≤ x27_2
                          case neg => rw [if_neg c47] at H; exact absurd H (by simp)
                          rw [if_pos c47] at H
                          have c47b0 : decide (0 ≤ x27_2) = true := decide_eq_true c47
                          clear c47
                          by_cases c48 : x27_2 < (x3_5.length : Int)
                          case neg => rw [if_neg c48] at H; exact absurd H (by simp)
                          rw [if_pos c48] at H
                          have c48b0 : decide (x27_2 < (x3_5.length : Int)) = true := decide_eq_true c48
                          (try simp only [hl3_2, hl3_23, hl3_4, hl3_5] at c48b0)
                          clear c48
                          by_cases c49 : x27_2 < ((rd_L1 x3_5 x27_2).length : Int)
                          case neg => rw [if_neg c49] at H; exact absurd H (by simp)
                          rw [if_pos c49] at H
                          have c49b0 : decide (x27_2 < ((rd_L1 x3_5 x27_2).length : Int)) = true := decide_eq_true c49
                          (try simp only [hl3_2, hl3_23, hl3_4, hl3_5] at c49b0)
                          clear c49
                          by_cases c50 : x27_2 < ((rd_L1 x3_5 x10_4).length : Int)
                          case neg => rw [if_neg c50] at H; exact absurd H (by simp)
                          rw [if_pos c50] at H
                          have c50b0 : decide (x27_2 < ((rd_L1 x3_5 x10_4).length : Int)) = true := decide_eq_true c50
                          (try simp only [hl3_2, hl3_23, hl3_4, hl3_5] at c50b0)
                          clear c50
                          by_cases c51 : x11_5 < ((rd_L1 x3_5 x27_2).length : Int)
                          case neg => rw [if_neg c51] at H; exact absurd H (by simp)
                          rw [if_pos c51] at H
                          have c51b0 : decide (x11_5 < ((rd_L1 x3_5 x27_2).length : Int)) = true := decide_eq_true c51
                          (try simp only [hl3_2, hl3_23, hl3_4, hl3_5] at c51b0)
                          clear c51
                          by_cases c52 : x5_2 = 0
                          case neg =>
                            rw [if_neg c52] at H
                            have c52b0 : (x5_2 == 0) = false := beq_eq_false_iff_ne.mpr c52
                            have c52b1 : (x5_2 != 0) = true := bne_iff_ne.mpr c52
                            obtain ⟨y131, hy131⟩ : ∃ y_ : List Int, y_ = ((rd_L1 x3_5 x10_4).set (x11_5 : Int).toNat (wrap64 (Int.tdiv (wrap64 ((wrap64 ((rd (rd_L1 x3_5 x10_4) x11_5) * (rd (rd_L1 x3_5 x27_2) x27_2))) - (wrap64 ((rd (rd_L1 x3_5 x10_4) x27_2) * (rd (rd_L1 x3_5 x27_2) x11_5))))) x5_2))) := ⟨_, rfl⟩
                            replace H : (impl_wholeDeterminant.l3 k5 (x3_5.set (x10_4 : Int).toNat y131) x4_23 x5_2 x10_4 (wrap64 (x11_5 + 1)) (x3_1.length : Int) x27_2 x27_2) = some r := by first | (rw [hy131]; with_reducible exact H) | (have H2_ := (Option.bind_some _ _).symm.trans H; rw [hy131]; with_reducible exact H2_) | (have H2_ := (Option.bind_some _ _).symm.trans H; with_reducible exact H2_) | with_reducible exact H | (rw [hy131]; exact H) | exact H
                            have Ny131 := Aside0.mk hy131
                            clear hy131
                            obtain ⟨y133, hy133⟩ : ∃ y_ : List (List Int), y_ = (x3_5.set (x10_4 : Int).toNat y131) := ⟨_, rfl⟩
                            replace H : (impl_wholeDeterminant.l3 k5 y133 x4_23 x5_2 x10_4 (wrap64 (x11_5 + 1)) (x3_1.length : Int) x27_2 x27_2) = some r := by first | (rw [hy133]; with_reducible exact H) | (have H2_ := (Option.bind_some _ _).symm.trans H; rw [hy133]; with_reducible exact H2_) | (have H2_ := (Option.bind_some _ _).symm.trans H; with_reducible exact H2_) | with_reducible exact H | (rw [hy133]; exact H) | exact H
                            have Ny133 := Aside0.mk hy133
                            clear hy133
                            have H' := Aside0.mk H
                            clear H
                            try go_wp2
                            have n0_ := Aside0.mk (Kd.S_drew HO_3.out)
                            have n1_ := Aside0.mk (blk_drew BK111.out)
                            have n2_ := Aside0.mk (below_drew1 HB.out)
                            clear HO_3
                            clear BK111
                            clear HB
                            have HO_3 := n0_
                            have BK111 := n1_
                            have HB := n2_
                            clear n0_ n1_ n2_
                            have p122 : 0 ≤ (x10_4 : Int) := oD
                            have q122 : x10_4 < (x3_5.length : Int) := oD
                            obtain ⟨ad122, A122_0, c122_0, e122, hx122_0, hl122_0, hi122_0⟩ := at_L1 (Kd.S_reads' HO_3.out).2.2 x10_4 p122 q122
                            cases e122
                            obtain ⟨ce122, hce122, hMe122, hcc122⟩ := Kd.S_get HO_3.out [] x10_4 p122 (by first | exact q122 | exact oD | (have e_ := (Kd.S_reads' HO_3.out).1; omega))
                            obtain ⟨ve122_0, rfl, ge122_0⟩ := hMe122
                            have hv122_0 := hcc122 0 _ rfl
                            rw [Nat.add_zero, show ((Kd.slice 2 (Kd.int .i64))).sz = 1 from rfl, Nat.mul_one] at hv122_0
                            replace hv122_0 := Option.some.inj (hv122_0.symm.trans hx122_0)
                            rw [hv122_0] at ge122_0
                            have HL122_0 := Aside0.mk (show Kd.R (Kd.int .i64) 2 _ _ _ _ (rd_L1 x3_5 x10_4) from ge122_0)
                            clear hv122_0 ge122_0
                            have HX122_0 := Aside0.mk hx122_0
                            clear hcc122 hce122
                            have HR122_0 := Aside0.mk hi122_0
                            have HC122_0 := Aside0.mk hl122_0
                            clear hi122_0 hl122_0
                            replace p122 := eq_true p122
                            replace q122 := eq_true q122
                            have p123 : 0 ≤ (x10_4 : Int) := oD
                            have q123 : x10_4 < (x3_5.length : Int) := oD
                            obtain ⟨ad123, A123_0, c123_0, e123, hx123_0, hl123_0, hi123_0⟩ := at_L1 (Kd.S_reads' HO_3.out).2.2 x10_4 p123 q123
                            obtain rfl : ad122 = ad123 := (by injection e123)
                            obtain ⟨ce123, hce123, hMe123, hcc123⟩ := Kd.S_get HO_3.out [] x10_4 p123 (by first | exact q123 | exact oD | (have e_ := (Kd.S_reads' HO_3.out).1; omega))
                            obtain ⟨ve123_0, rfl, ge123_0⟩ := hMe123
                            have hv123_0 := hcc123 0 _ rfl
                            rw [Nat.add_zero, show ((Kd.slice 2 (Kd.int .i64))).sz = 1 from rfl, Nat.mul_one] at hv123_0
                            replace hv123_0 := Option.some.inj (hv123_0.symm.trans hx123_0)
                            rw [hv123_0] at ge123_0
                            have HL123_0 := Aside0.mk (show Kd.R (Kd.int .i64) 2 _ _ _ _ (rd_L1 x3_5 x10_4) from ge123_0)
                            clear hv123_0 ge123_0
                            have HX123_0 := Aside0.mk hx123_0
                            clear hcc123 hce123
                            have HR123_0 := Aside0.mk hi123_0
                            have HC123_0 := Aside0.mk hl123_0
                            clear hi123_0 hl123_0
                            replace p123 := eq_true p123
                            replace q123 := eq_true q123
                            have ea_ := Option.some.inj (hx122_0.symm.trans hx123_0)
                            injection ea_ with ea_ en_ ec_
                            subst ea_
                            subst ec_
                            clear en_
                            have p124 : 0 ≤ (x11_5 : Int) := oD
                            have q124 : x11_5 < ((rd_L1 x3_5 x10_4).length : Int) := oD
                            obtain ⟨ad124, e124, hx124_0⟩ := Kd.at_int (by repeat (first | (with_reducible exact HR123_0.out) | (with_reducible refine Kd.C_alloc ?_ _) | (with_reducible refine Kd.C_drewN ?_ _) | (with_reducible refine Kd.C_drew ?_) | exact HR123_0.out)) x11_5 p124 q124
                            cases e124
                            replace p124 := eq_true p124
                            replace q124 := eq_true q124
                            have p125 : 0 ≤ (x27_2 : Int) := oD
                            have q125 : x27_2 < (x3_5.length : Int) := oD
                            obtain ⟨ad125, A125_0, c125_0, e125, hx125_0, hl125_0, hi125_0⟩ := at_L1 (Kd.S_reads' HO_3.out).2.2 x27_2 p125 q125
                            obtain rfl : ad122 = ad125 := (by injection e125)
                            obtain ⟨ce125, hce125, hMe125, hcc125⟩ := Kd.S_get HO_3.out [] x27_2 p125 (by first | exact q125 | exact oD | (have e_ := (Kd.S_reads' HO_3.out).1; omega))
                            obtain ⟨ve125_0, rfl, ge125_0⟩ := hMe125
                            have hv125_0 := hcc125 0 _ rfl
                            rw [Nat.add_zero, show ((Kd.slice 2 (Kd.int .i64))).sz = 1 from rfl, Nat.mul_one] at hv125_0
                            replace hv125_0 := Option.some.inj (hv125_0.symm.trans hx125_0)
                            rw [hv125_0] at ge125_0
                            have HL125_0 := Aside0.mk (show Kd.R (Kd.int .i64) 2 _ _ _ _ (rd_L1 x3_5 x27_2) from ge125_0)
                            clear hv125_0 ge125_0
                            have HX125_0 := Aside0.mk hx125_0
                            clear hcc125 hce125
                            have HR125_0 := Aside0.mk hi125_0
                            have HC125_0 := Aside0.mk hl125_0
                            clear hi125_0 hl125_0
                            replace p125 := eq_true p125
                            replace q125 := eq_true q125
                            have p126 : 0 ≤ (x27_2 : Int) := oD
                            have q126 : x27_2 < ((rd_L1 x3_5 x27_2).length : Int) := oD
                            obtain ⟨ad126, e126, hx126_0⟩ := Kd.at_int (by repeat (first | (with_reducible exact HR125_0.out) | (with_reducible refine Kd.C_alloc ?_ _) | (with_reducible refine Kd.C_drewN ?_ _) | (with_reducible refine Kd.C_drew ?_) | exact HR125_0.out)) x27_2 p126 q126
                            cases e126
                            replace p126 := eq_true p126
                            replace q126 := eq_true q126
                            have p127 : 0 ≤ (x10_4 : Int) := oD
                            have q127 : x10_4 < (x3_5.length : Int) := oD
                            obtain ⟨ad127, A127_0, c127_0, e127, hx127_0, hl127_0, hi127_0⟩ := at_L1 (Kd.S_reads' HO_3.out).2.2 x10_4 p127 q127
                            obtain rfl : ad122 = ad127 := (by injection e127)
                            obtain ⟨ce127, hce127, hMe127, hcc127⟩ := Kd.S_get HO_3.out [] x10_4 p127 (by first | exact q127 | exact oD | (have e_ := (Kd.S_reads' HO_3.out).1; omega))
                            obtain ⟨ve127_0, rfl, ge127_0⟩ := hMe127
                            have hv127_0 := hcc127 0 _ rfl
                            rw [Nat.add_zero, show ((Kd.slice 2 (Kd.int .i64))).sz = 1 from rfl, Nat.mul_one] at hv127_0
                            replace hv127_0 := Option.some.inj (hv127_0.symm.trans hx127_0)
                            rw [hv127_0] at ge127_0
                            have HL127_0 := Aside0.mk (show Kd.R (Kd.int .i64) 2 _ _ _ _ (rd_L1 x3_5 x10_4) from ge127_0)
                            clear hv127_0 ge127_0
                            have HX127_0 := Aside0.mk hx127_0
                            clear hcc127 hce127
                            have HR127_0 := Aside0.mk hi127_0
                            have HC127_0 := Aside0.mk hl127_0
                            clear hi127_0 hl127_0
                            replace p127 := eq_true p127
                            replace q127 := eq_true q127
                            have ea_ := Option.some.inj (hx122_0.symm.trans hx127_0)
                            injection ea_ with ea_ en_ ec_
                            subst ea_
                            subst ec_
                            clear en_
                            have p128 : 0 ≤ (x27_2 : Int) := oD
                            have q128 : x27_2 < ((rd_L1 x3_5 x10_4).length : Int) := oD
                            obtain ⟨ad128, e128, hx128_0⟩ := Kd.at_int (by repeat (first | (with_reducible exact HR127_0.out) | (with_reducible refine Kd.C_alloc ?_ _) | (with_reducible refine Kd.C_drewN ?_ _) | (with_reducible refine Kd.C_drew ?_) | exact HR127_0.out)) x27_2 p128 q128
                            obtain rfl : ad124 = ad128 := (by injection e128)
                            replace p128 := eq_true p128
                            replace q128 := eq_true q128
                            have p129 : 0 ≤ (x27_2 : Int) := oD
                            have q129 : x27_2 < (x3_5.length : Int) := oD
                            obtain ⟨ad129, A129_0, c129_0, e129, hx129_0, hl129_0, hi129_0⟩ := at_L1 (Kd.S_reads' HO_3.out).2.2 x27_2 p129 q129
                            obtain rfl : ad122 = ad129 := (by injection e129)
                            obtain ⟨ce129, hce129, hMe129, hcc129⟩ := Kd.S_get HO_3.out [] x27_2 p129 (by first | exact q129 | exact oD | (have e_ := (Kd.S_reads' HO_3.out).1; omega))
                            obtain ⟨ve129_0, rfl, ge129_0⟩ := hMe129
                            have hv129_0 := hcc129 0 _ rfl
                            rw [Nat.add_zero, show ((Kd.slice 2 (Kd.int .i64))).sz = 1 from rfl, Nat.mul_one] at hv129_0
                            replace hv129_0 := Option.some.inj (hv129_0.symm.trans hx129_0)
                            rw [hv129_0] at ge129_0
                            have HL129_0 := Aside0.mk (show Kd.R (Kd.int .i64) 2 _ _ _ _ (rd_L1 x3_5 x27_2) from ge129_0)
                            clear hv129_0 ge129_0
                            have HX129_0 := Aside0.mk hx129_0
                            clear hcc129 hce129
                            have HR129_0 := Aside0.mk hi129_0
                            have HC129_0 := Aside0.mk hl129_0
                            clear hi129_0 hl129_0
                            replace p129 := eq_true p129
                            replace q129 := eq_true q129
                            have ea_ := Option.some.inj (hx125_0.symm.trans hx129_0)
                            injection ea_ with ea_ en_ ec_
                            subst ea_
                            subst ec_
                            clear en_
                            have p130 : 0 ≤ (x11_5 : Int) := oD
                            have q130 : x11_5 < ((rd_L1 x3_5 x27_2).length : Int) := oD
                            obtain ⟨ad130, e130, hx130_0⟩ := Kd.at_int (by repeat (first | (with_reducible exact HR129_0.out) | (with_reducible refine Kd.C_alloc ?_ _) | (with_reducible refine Kd.C_drewN ?_ _) | (with_reducible refine Kd.C_drew ?_) | exact HR129_0.out)) x11_5 p130 q130
                            obtain rfl : ad126 = ad130 := (by injection e130)
                            replace p130 := eq_true p130
                            replace q130 := eq_true q130
                            have p53 : 0 ≤ (x11_5 : Int) := oD
                            have q53 : (x11_5 : Int) < (((rd_L1 x3_5 x10_4).length : Int) : Int) := oD
                            obtain ⟨go53, co53, eo53, gb53, gl53, cl53, HG53⟩ := Kd.R_form HL122_0.out (by omega)
                            (first | cases eo53 | (injection eo53 with ea_ en_ ec_; (first | subst ea_ | (injection ea_ with ea_; subst ea_)); subst ec_; clear en_))
                            (first | simp only [add_plain] at hx124_0 | skip)
                            have GB53 := Aside0.mk gb53
                            have GG53 := Aside0.mk HG53
                            clear gb53 gl53 HG53
                            (first | simp only [add_plain] at hx128_0 | skip)
                            obtain ⟨hx53_0, hf53_0⟩ := Kd.R_celln 0 HL122_0.out (x11_5 : Int) p53 q53
                            replace p53 := eq_true p53
                            replace q53 := eq_true q53
                            have hq55 : (x10_4 : Int) < (x3_5.length : Int) := (by have h_ : (x10_4 : Int) < ((x3_5.length : Int) : Int) := oD; first | exact h_ | (have e_ := (Kd.S_reads' HO_3.out).1; omega) | simpa only [List.length_set, List.length_set] using h_)
                            obtain ⟨oki55, ce55, hcl55, hM55, hcc55, hok55, hbk55⟩ := Kd.S_borrow HO_3.out [] (x10_4 : Int) oD (by first | exact hq55 | (have e_ := (Kd.S_reads' HO_3.out).1; omega))
                            obtain ⟨ve55_0, rfl, ge55_0⟩ := hM55
                            have hv55 := hcc55 0 _ rfl
                            rw [Nat.add_zero, show ((Kd.slice 2 (Kd.int .i64))).sz = 1 from rfl, Nat.mul_one] at hv55
                            replace hv55 := Option.some.inj (hv55.symm.trans HX122_0.out)
                            subst hv55
                            clear hcc55 hcl55
                            replace ge55_0 := (show Kd.R (Kd.int .i64) 2 _ _ _ _ (rd_L1 x3_5 x10_4) from ge55_0)
                            have HP55 := Kd.R_putg ge55_0 (x11_5 : Int) (wrap64 (Int.tdiv (wrap64 ((wrap64 ((rd (rd_L1 x3_5 x10_4) x11_5) * (rd (rd_L1 x3_5 x27_2) x27_2))) - (wrap64 ((rd (rd_L1 x3_5 x10_4) x27_2) * (rd (rd_L1 x3_5 x27_2) x11_5))))) x5_2))
                            have HXp55 := Aside0.mk (cell_grown HP55.2 HX122_0.out (cell_ne (hok55 _ (ge55_0.1 _ rfl)).2))
                            rw [← Ny131.out] at HP55
                            have HPr55 := Aside0.mk HP55.1
                            have HS55 := hbk55 HP55.2 (fun k_ e_ => by injection e_ with e_; subst e_; exact ge55_0.1 _ rfl) (x' := y131) (Kd.M_row HP55.1)
                            rw [← Ny133.out] at HS55
                            have HQ55 := Aside0.mk HS55
                            clear HP55 HS55 hbk55 hok55
                            refine start_ (n := 40) (S := fun w' => w'.cell? ⟨gb111, 0, none⟩ = some (.int .i64 x27_2) ∧ w'.cell? (ad122.add (x10_4).toNat) = some (.slice (some ⟨go53, 0, none⟩) (rd_L1 x3_5 x10_4).length c122_0) ∧ w'.cell? (ad122.add (x10_4).toNat) = some (.slice (some ⟨go53, 0, none⟩) (rd_L1 x3_5 x10_4).length c122_0) ∧ w'.cell? ⟨go53, (x11_5).toNat, none⟩ = some (.int .i64 (rd (rd_L1 x3_5 x10_4) x11_5)) ∧ w'.cell? (ad122.add (x27_2).toNat) = some (.slice (some ad126) (rd_L1 x3_5 x27_2).length c125_0) ∧ w'.cell? (ad126.add (x27_2).toNat) = some (.int .i64 (rd (rd_L1 x3_5 x27_2) x27_2)) ∧ w'.cell? (ad122.add (x10_4).toNat) = some (.slice (some (⟨go53, 0, none⟩ : Addr)) (rd_L1 x3_5 x10_4).length c122_0) ∧ w'.cell? ⟨go53, (x27_2).toNat, none⟩ = some (.int .i64 (rd (rd_L1 x3_5 x10_4) x27_2)) ∧ w'.cell? (ad122.add (x27_2).toNat) = some (.slice (some ad126) (rd_L1 x3_5 x27_2).length c125_0) ∧ w'.cell? (ad126.add (x11_5).toNat) = some (.int .i64 (rd (rd_L1 x3_5 x27_2) x11_5))) (ds := [39]) #[false, false, false, false, false, false, false, false, false, false, false, false, false, false, false, false, false, false, false, false, false, false, false, false, false, false, false, false, false, false, false, false, false, false, false, false, false, false, false, false] (by kernel_rfl) rfl rfl ⟨(blk_cell BK111.out 0).trans rfl, hx122_0, hx123_0, hx124_0, hx125_0, hx126_0, hx127_0, hx128_0, hx129_0, hx130_0⟩ (fun hHeld => ?_); refine with_tabW impl_wholeDeterminant.tab21 impl_wholeDeterminant.bits21 (fun HT_ HW_ => ?_)
                            generalize wr.drew = w54 at HO_3 BK111 HB GG53 HL122_0 HL123_0 HL125_0 HL127_0 HL129_0 HQ55 HR122_0 HR123_0 HR125_0 HR127_0 HR129_0 HX122_0 HX123_0 HX125_0 HX127_0 HX129_0 hf53_0 hx122_0 hx123_0 hx124_0 hx125_0 hx126_0 hx127_0 hx128_0 hx129_0 hx130_0 hx53_0 hHeld ⊢
                            refine pure_ (i := 0) (N := some 75) (v := ?_) (a' := ?_) #[true, false, false, false, false, false, false, false, false, false, false, false, false, false, false, false, false, false, false, false, false, false, false, false, false, false, false, false, false, false, false, false, false, false, false, false, false, false, false, false] rfl rfl (any_of HT_.out (by kernel_rfl)) (fun _ _ _ h => h) (Or.inl ⟨by rfl, ?_⟩) ?_ ?_
                            rotate_left; · intro w'; go_simp; with_reducible rfl
                            rotate_left; · simp only [Act.put, zI, zZ, zS, i64_w, i32_w]; rfl
                            refine pure_ (i := 1) (N := some 76) (v := ?_) (a' := ?_) #[true, true, false, false, false, false, false, false, false, false, false, false, false, false, false, false, false, false, false, false, false, false, false, false, false, false, false, false, false, false, false, false, false, false, false, false, false, false, false, false] rfl rfl (any_of HT_.out (by kernel_rfl)) (fun _ _ _ h => h) (Or.inl ⟨by rfl, ?_⟩) ?_ ?_
                            rotate_left; · intro w'; go_simp; with_reducible rfl
                            rotate_left; · simp only [Act.put, zI, zZ, zS, i64_w, i32_w]; rfl
                            refine pure_ (i := 2) (N := some 77) (v := ?_) (a' := ?_) #[true, true, true, false, false, false, false, false, false, false, false, false, false, false, false, false, false, false, false, false, false, false, false, false, false, false, false, false, false, false, false, false, false, false, false, false, false, false, false, false] rfl rfl (any_of HT_.out (by kernel_rfl)) (fun _ _ _ h => h) (Or.inl ⟨by rfl, ?_⟩) ?_ ?_
                            rotate_left; · intro w'; go_simp; with_reducible rfl
                            rotate_left; · simp only [Act.put, zI, zZ, zS, i64_w, i32_w]; rfl
                            refine pure_ (i := 4) (N := some 79) (v := ?_) (a' := ?_) #[true, true, true, false, true, false, false, false, false, false, false, false, false, false, false, false, false, false, false, false, false, false, false, false, false, false, false, false, false, false, false, false, false, false, false, false, false, false, false, false] rfl rfl (any_of HT_.out (by kernel_rfl)) (fun _ _ _ h => h) (Or.inl ⟨by rfl, ?_⟩) ?_ ?_
                            rotate_left; · intro w'; go_simp; with_reducible rfl
                            rotate_left; · simp only [Act.put, zI, zZ, zS, i64_w, i32_w]; rfl
                            refine pure_ (i := 5) (N := some 80) (v := ?_) (a' := ?_) #[true, true, true, false, true, true, false, false, false, false, false, false, false, false, false, false, false, false, false, false, false, false, false, false, false, false, false, false, false, false, false, false, false, false, false, false, false, false, false, false] rfl rfl (any_of HT_.out (by kernel_rfl)) (fun _ _ _ h => h) (Or.inl ⟨by rfl, ?_⟩) ?_ ?_
                            rotate_left; · intro w'; go_simp; with_reducible rfl
                            rotate_left; · simp only [Act.put, zI, zZ, zS, i64_w, i32_w]; rfl
                            refine pure_ (i := 6) (N := some 81) (v := ?_) (a' := ?_) #[true, true, true, false, true, true, true, false, false, false, false, false, false, false, false, false, false, false, false, false, false, false, false, false, false, false, false, false, false, false, false, false, false, false, false, false, false, false, false, false] rfl rfl (any_of HT_.out (by kernel_rfl)) (fun _ _ _ h => h) (Or.inl ⟨by rfl, ?_⟩) ?_ ?_
                            rotate_left; · intro w'; go_simp; with_reducible rfl
                            rotate_left; · simp only [Act.put, zI, zZ, zS, i64_w, i32_w]; rfl
                            refine pure_ (i := 7) (N := some 82) (v := ?_) (a' := ?_) #[true, true, true, false, true, true, true, true, false, false, false, false, false, false, false, false, false, false, false, false, false, false, false, false, false, false, false, false, false, false, false, false, false, false, false, false, false, false, false, false] rfl rfl (any_of HT_.out (by kernel_rfl)) (fun _ _ _ h => h) (Or.inl ⟨by rfl, ?_⟩) ?_ ?_
                            rotate_left; · intro w'; go_simp; with_reducible rfl
                            rotate_left; · simp only [Act.put, zI, zZ, zS, i64_w, i32_w]; rfl
                            refine pure_ (i := 9) (N := some 84) (v := ?_) (a' := ?_) #[true, true, true, false, true, true, true, true, false, true, false, false, false, false, false, false, false, false, false, false, false, false, false, false, false, false, false, false, false, false, false, false, false, false, false, false, false, false, false, false] rfl rfl (any_of HT_.out (by kernel_rfl)) (fun _ _ _ h => h) (Or.inl ⟨by rfl, ?_⟩) ?_ ?_
                            rotate_left; · intro w'; go_simp; with_reducible rfl
                            rotate_left; · simp only [Act.put, zI, zZ, zS, i64_w, i32_w]; rfl
                            refine pure_ (i := 12) (N := some 87) (v := ?_) (a' := ?_) #[true, true, true, false, true, true, true, true, false, true, false, false, true, false, false, false, false, false, false, false, false, false, false, false, false, false, false, false, false, false, false, false, false, false, false, false, false, false, false, false] rfl rfl (any_of HT_.out (by kernel_rfl)) (fun _ _ _ h => h) (Or.inl ⟨by rfl, ?_⟩) ?_ ?_
                            rotate_left; · intro w'; go_simp; with_reducible rfl
                            rotate_left; · simp only [Act.put, zI, zZ, zS, i64_w, i32_w]; rfl
                            refine pure_ (i := 20) (N := some 95) (v := ?_) (a' := ?_) #[true, true, true, false, true, true, true, true, false, true, false, false, true, false, false, false, false, false, false, false, true, false, false, false, false, false, false, false, false, false, false, false, false, false, false, false, false, false, false, false] rfl rfl (any_of HT_.out (by kernel_rfl)) (fun _ _ _ h => h) (Or.inl ⟨by rfl, ?_⟩) ?_ ?_
                            rotate_left; · intro w'; go_simp; with_reducible rfl
                            rotate_left; · simp only [Act.put, zI, zZ, zS, i64_w, i32_w]; rfl
                            refine pure_ (i := 21) (N := some 96) (v := ?_) (a' := ?_) #[true, true, true, false, true, true, true, true, false, true, false, false, true, false, false, false, false, false, false, false, true, true, false, false, false, false, false, false, false, false, false, false, false, false, false, false, false, false, false, false] rfl rfl (any_of HT_.out (by kernel_rfl)) (fun _ _ _ h => h) (Or.inl ⟨by rfl, ?_⟩) ?_ ?_
                            rotate_left; · intro w'; go_simp; with_reducible rfl
                            rotate_left; · simp only [Act.put, zI, zZ, zS, i64_w, i32_w]; rfl
                            refine pure_ (i := 22) (N := some 97) (v := ?_) (a' := ?_) #[true, true, true, false, true, true, true, true, false, true, false, false, true, false, false, false, false, false, false, false, true, true, true, false, false, false, false, false, false, false, false, false, false, false, false, false, false, false, false, false] rfl rfl (any_of HT_.out (by kernel_rfl)) (fun _ _ _ h => h) (Or.inl ⟨by rfl, ?_⟩) ?_ ?_
                            rotate_left; · intro w'; go_simp; with_reducible rfl
                            rotate_left; · simp only [Act.put, zI, zZ, zS, i64_w, i32_w]; rfl
                            refine pure_ (i := 27) (N := some 102) (v := ?_) (a' := ?_) #[true, true, true, false, true, true, true, true, false, true, false, false, true, false, false, false, false, false, false, false, true, true, true, false, false, false, false, true, false, false, false, false, false, false, false, false, false, false, false, false] rfl rfl (any_of HT_.out (by kernel_rfl)) (fun _ _ _ h => h) (Or.inl ⟨by rfl, ?_⟩) ?_ ?_
                            rotate_left; · intro w'; go_simp; with_reducible rfl
                            rotate_left; · simp only [Act.put, zI, zZ, zS, i64_w, i32_w]; rfl
                            refine pure_ (i := 31) (N := some 106) (v := ?_) (a' := ?_) #[true, true, true, false, true, true, true, true, false, true, false, false, true, false, false, false, false, false, false, false, true, true, true, false, false, false, false, true, false, false, false, true, false, false, false, false, false, false, false, false] rfl rfl (any_of HT_.out (by kernel_rfl)) (fun _ _ _ h => h) (Or.inl ⟨by rfl, ?_⟩) ?_ ?_
                            rotate_left; · intro w'; go_simp; with_reducible rfl
                            rotate_left; · simp only [Act.put, zI, zZ, zS, i64_w, i32_w]; rfl
                            refine pure_ (i := 36) (N := some 111) (v := ?_) (a' := ?_) #[true, true, true, false, true, true, true, true, false, true, false, false, true, false, false, false, false, false, false, false, true, true, true, false, false, false, false, true, false, false, false, true, false, false, false, false, true, false, false, false] rfl rfl (any_of HT_.out (by kernel_rfl)) (fun _ _ _ h => h) (Or.inl ⟨by rfl, ?_⟩) ?_ ?_
                            rotate_left; · intro w'; go_simp; with_reducible rfl
                            rotate_left; · simp only [Act.put, zI, zZ, zS, i64_w, i32_w]; rfl
                            refine take_ (i := 3) (N := some 78) (v := ?_) (a' := ?_) #[true, true, true, true, true, true, true, true, false, true, false, false, true, false, false, false, false, false, false, false, true, true, true, false, false, false, false, true, false, false, false, true, false, false, false, false, true, false, false, false] rfl rfl (take_ofW HT_.out HW_.out (by kernel_rfl)) (fun _ _ _ h => h) (Or.inl ⟨by rfl, ?_⟩) hHeld ?_ ?_
                            rotate_left; · rintro w' ⟨s0, s1, s2, s3, s4, s5, s6, s7, s8, s9⟩; go_simp; with_reducible rfl
                            rotate_left; · simp only [Act.put, zI, zZ, zS, i64_w, i32_w]; rfl
                            refine take_ (i := 8) (N := some 83) (v := ?_) (a' := ?_) #[true, true, true, true, true, true, true, true, true, true, false, false, true, false, false, false, false, false, false, false, true, true, true, false, false, false, false, true, false, false, false, true, false, false, false, false, true, false, false, false] rfl rfl (take_ofW HT_.out HW_.out (by kernel_rfl)) (fun _ _ _ h => h) (Or.inl ⟨by rfl, ?_⟩) hHeld ?_ ?_
                            rotate_left; · rintro w' ⟨s0, s1, s2, s3, s4, s5, s6, s7, s8, s9⟩; go_simp; with_reducible rfl
                            rotate_left; · simp only [Act.put, zI, zZ, zS, i64_w, i32_w]; rfl
                            refine pure_ (i := 10) (N := some 85) (v := ?_) (a' := ?_) #[true, true, true, true, true, true, true, true, true, true, true, false, true, false, false, false, false, false, false, false, true, true, true, false, false, false, false, true, false, false, false, true, false, false, false, false, true, false, false, false] rfl rfl (any_of HT_.out (by kernel_rfl)) (fun _ _ _ h => h) (Or.inl ⟨by rfl, ?_⟩) ?_ ?_
                            rotate_left; · intro w'; go_simp; with_reducible rfl
                            rotate_left; · simp only [Act.put, zI, zZ, zS, i64_w, i32_w]; rfl
                            refine take_ (i := 11) (N := some 86) (v := ?_) (a' := ?_) #[true, true, true, true, true, true, true, true, true, true, true, true, true, false, false, false, false, false, false, false, true, true, true, false, false, false, false, true, false, false, false, true, false, false, false, false, true, false, false, false] rfl rfl (take_ofW HT_.out HW_.out (by kernel_rfl)) (fun _ _ _ h => h) (Or.inl ⟨by rfl, ?_⟩) hHeld ?_ ?_
                            rotate_left; · rintro w' ⟨s0, s1, s2, s3, s4, s5, s6, s7, s8, s9⟩; go_simp; with_reducible rfl
                            rotate_left; · simp only [Act.put, zI, zZ, zS, i64_w, i32_w]; rfl
                            refine take_ (i := 13) (N := some 88) (v := ?_) (a' := ?_) #[true, true, true, true, true, true, true, true, true, true, true, true, true, true, false, false, false, false, false, false, true, true, true, false, false, false, false, true, false, false, false, true, false, false, false, false, true, false, false, false] rfl rfl (take_ofW HT_.out HW_.out (by kernel_rfl)) (fun _ _ _ h => h) (Or.inl ⟨by rfl, ?_⟩) hHeld ?_ ?_
                            rotate_left; · rintro w' ⟨s0, s1, s2, s3, s4, s5, s6, s7, s8, s9⟩; go_simp; with_reducible rfl
                            rotate_left; · simp only [Act.put, zI, zZ, zS, i64_w, i32_w]; rfl
                            refine pure_ (i := 14) (N := some 89) (v := ?_) (a' := ?_) #[true, true, true, true, true, true, true, true, true, true, true, true, true, true, true, false, false, false, false, false, true, true, true, false, false, false, false, true, false, false, false, true, false, false, false, false, true, false, false, false] rfl rfl (any_of HT_.out (by kernel_rfl)) (fun _ _ _ h => h) (Or.inl ⟨by rfl, ?_⟩) ?_ ?_
                            rotate_left; · intro w'; go_simp; with_reducible rfl
                            rotate_left; · simp only [Act.put, zI, zZ, zS, i64_w, i32_w]; rfl
                            refine take_ (i := 15) (N := some 90) (v := ?_) (a' := ?_) #[true, true, true, true, true, true, true, true, true, true, true, true, true, true, true, true, false, false, false, false, true, true, true, false, false, false, false, true, false, false, false, true, false, false, false, false, true, false, false, false] rfl rfl (take_ofW HT_.out HW_.out (by kernel_rfl)) (fun _ _ _ h => h) (Or.inl ⟨by rfl, ?_⟩) hHeld ?_ ?_
                            rotate_left; · rintro w' ⟨s0, s1, s2, s3, s4, s5, s6, s7, s8, s9⟩; go_simp; with_reducible rfl
                            rotate_left; · simp only [Act.put, zI, zZ, zS, i64_w, i32_w]; rfl
                            refine take_ (i := 16) (N := some 91) (v := ?_) (a' := ?_) #[true, true, true, true, true, true, true, true, true, true, true, true, true, true, true, true, true, false, false, false, true, true, true, false, false, false, false, true, false, false, false, true, false, false, false, false, true, false, false, false] rfl rfl (take_ofW HT_.out HW_.out (by kernel_rfl)) (fun _ _ _ h => h) (Or.inl ⟨by rfl, ?_⟩) hHeld ?_ ?_
                            rotate_left; · rintro w' ⟨s0, s1, s2, s3, s4, s5, s6, s7, s8, s9⟩; go_simp; with_reducible rfl
                            rotate_left; · simp only [Act.put, zI, zZ, zS, i64_w, i32_w]; rfl
                            refine pure_ (i := 17) (N := some 92) (v := ?_) (a' := ?_) #[true, true, true, true, true, true, true, true, true, true, true, true, true, true, true, true, true, true, false, false, true, true, true, false, false, false, false, true, false, false, false, true, false, false, false, false, true, false, false, false] rfl rfl (any_of HT_.out (by kernel_rfl)) (fun _ _ _ h => h) (Or.inl ⟨by rfl, ?_⟩) ?_ ?_
                            rotate_left; · intro w'; go_simp; with_reducible rfl
                            rotate_left; · simp only [Act.put, zI, zZ, zS, i64_w, i32_w]; rfl
                            refine take_ (i := 18) (N := some 93) (v := ?_) (a' := ?_) #[true, true, true, true, true, true, true, true, true, true, true, true, true, true, true, true, true, true, true, false, true, true, true, false, false, false, false, true, false, false, false, true, false, false, false, false, true, false, false, false] rfl rfl (take_ofW HT_.out HW_.out (by kernel_rfl)) (fun _ _ _ h => h) (Or.inl ⟨by rfl, ?_⟩) hHeld ?_ ?_
                            rotate_left; · rintro w' ⟨s0, s1, s2, s3, s4, s5, s6, s7, s8, s9⟩; go_simp; with_reducible rfl
                            rotate_left; · simp only [Act.put, zI, zZ, zS, i64_w, i32_w]; rfl
                            refine pure_ (i := 19) (N := some 94) (v := ?_) (a' := ?_) #[true, true, true, true, true, true, true, true, true, true, true, true, true, true, true, true, true, true, true, true, true, true, true, false, false, false, false, true, false, false, false, true, false, false, false, false, true, false, false, false] rfl rfl (any_of HT_.out (by kernel_rfl)) (fun _ _ _ h => h) (Or.inl ⟨by rfl, ?_⟩) ?_ ?_
                            rotate_left; · intro w'; go_simp; with_reducible rfl
                            rotate_left; · simp only [Act.put, zI, zZ, zS, i64_w, i32_w]; rfl
                            refine take_ (i := 23) (N := some 98) (v := ?_) (a' := ?_) #[true, true, true, true, true, true, true, true, true, true, true, true, true, true, true, true, true, true, true, true, true, true, true, true, false, false, false, true, false, false, false, true, false, false, false, false, true, false, false, false] rfl rfl (take_ofW HT_.out HW_.out (by kernel_rfl)) (fun _ _ _ h => h) (Or.inl ⟨by rfl, ?_⟩) hHeld ?_ ?_
                            rotate_left; · rintro w' ⟨s0, s1, s2, s3, s4, s5, s6, s7, s8, s9⟩; go_simp; with_reducible rfl
                            rotate_left; · simp only [Act.put, zI, zZ, zS, i64_w, i32_w]; rfl
                            refine take_ (i := 24) (N := some 99) (v := ?_) (a' := ?_) #[true, true, true, true, true, true, true, true, true, true, true, true, true, true, true, true, true, true, true, true, true, true, true, true, true, false, false, true, false, false, false, true, false, false, false, false, true, false, false, false] rfl rfl (take_ofW HT_.out HW_.out (by kernel_rfl)) (fun _ _ _ h => h) (Or.inl ⟨by rfl, ?_⟩) hHeld ?_ ?_
                            rotate_left; · rintro w' ⟨s0, s1, s2, s3, s4, s5, s6, s7, s8, s9⟩; go_simp; with_reducible rfl
                            rotate_left; · simp only [Act.put, zI, zZ, zS, i64_w, i32_w]; rfl
                            refine pure_ (i := 25) (N := some 100) (v := ?_) (a' := ?_) #[true, true, true, true, true, true, true, true, true, true, true, true, true, true, true, true, true, true, true, true, true, true, true, true, true, true, false, true, false, false, false, true, false, false, false, false, true, false, false, false] rfl rfl (any_of HT_.out (by kernel_rfl)) (fun _ _ _ h => h) (Or.inl ⟨by rfl, ?_⟩) ?_ ?_
                            rotate_left; · intro w'; go_simp; with_reducible rfl
                            rotate_left; · simp only [Act.put, zI, zZ, zS, i64_w, i32_w]; rfl
                            refine take_ (i := 26) (N := some 101) (v := ?_) (a' := ?_) #[true, true, true, true, true, true, true, true, true, true, true, true, true, true, true, true, true, true, true, true, true, true, true, true, true, true, true, true, false, false, false, true, false, false, false, false, true, false, false, false] rfl rfl (take_ofW HT_.out HW_.out (by kernel_rfl)) (fun _ _ _ h => h) (Or.inl ⟨by rfl, ?_⟩) hHeld ?_ ?_
                            rotate_left; · rintro w' ⟨s0, s1, s2, s3, s4, s5, s6, s7, s8, s9⟩; go_simp; with_reducible rfl
                            rotate_left; · simp only [Act.put, zI, zZ, zS, i64_w, i32_w]; rfl
                            refine take_ (i := 28) (N := some 103) (v := ?_) (a' := ?_) #[true, true, true, true, true, true, true, true, true, true, true, true, true, true, true, true, true, true, true, true, true, true, true, true, true, true, true, true, true, false, false, true, false, false, false, false, true, false, false, false] rfl rfl (take_ofW HT_.out HW_.out (by kernel_rfl)) (fun _ _ _ h => h) (Or.inl ⟨by rfl, ?_⟩) hHeld ?_ ?_
                            rotate_left; · rintro w' ⟨s0, s1, s2, s3, s4, s5, s6, s7, s8, s9⟩; go_simp; with_reducible rfl
                            rotate_left; · simp only [Act.put, zI, zZ, zS, i64_w, i32_w]; rfl
                            refine pure_ (i := 29) (N := some 104) (v := ?_) (a' := ?_) #[true, true, true, true, true, true, true, true, true, true, true, true, true, true, true, true, true, true, true, true, true, true, true, true, true, true, true, true, true, true, false, true, false, false, false, false, true, false, false, false] rfl rfl (any_of HT_.out (by kernel_rfl)) (fun _ _ _ h => h) (Or.inl ⟨by rfl, ?_⟩) ?_ ?_
                            rotate_left; · intro w'; go_simp; with_reducible rfl
                            rotate_left; · simp only [Act.put, zI, zZ, zS, i64_w, i32_w]; rfl
                            refine take_ (i := 30) (N := some 105) (v := ?_) (a' := ?_) #[true, true, true, true, true, true, true, true, true, true, true, true, true, true, true, true, true, true, true, true, true, true, true, true, true, true, true, true, true, true, true, true, false, false, false, false, true, false, false, false] rfl rfl (take_ofW HT_.out HW_.out (by kernel_rfl)) (fun _ _ _ h => h) (Or.inl ⟨by rfl, ?_⟩) hHeld ?_ ?_
                            rotate_left; · rintro w' ⟨s0, s1, s2, s3, s4, s5, s6, s7, s8, s9⟩; go_simp; with_reducible rfl
                            rotate_left; · simp only [Act.put, zI, zZ, zS, i64_w, i32_w]; rfl
                            refine pure_ (i := 32) (N := some 107) (v := ?_) (a' := ?_) #[true, true, true, true, true, true, true, true, true, true, true, true, true, true, true, true, true, true, true, true, true, true, true, true, true, true, true, true, true, true, true, true, true, false, false, false, true, false, false, false] rfl rfl (any_of HT_.out (by kernel_rfl)) (fun _ _ _ h => h) (Or.inl ⟨by rfl, ?_⟩) ?_ ?_
                            rotate_left; · intro w'; go_simp; with_reducible rfl
                            rotate_left; · simp only [Act.put, zI, zZ, zS, i64_w, i32_w]; rfl
                            refine take_ (i := 33) (N := some 108) (v := ?_) (a' := ?_) #[true, true, true, true, true, true, true, true, true, true, true, true, true, true, true, true, true, true, true, true, true, true, true, true, true, true, true, true, true, true, true, true, true, true, false, false, true, false, false, false] rfl rfl (take_ofW HT_.out HW_.out (by kernel_rfl)) (fun _ _ _ h => h) (Or.inl ⟨by rfl, ?_⟩) hHeld ?_ ?_
                            rotate_left; · rintro w' ⟨s0, s1, s2, s3, s4, s5, s6, s7, s8, s9⟩; go_simp; with_reducible rfl
                            rotate_left; · simp only [Act.put, zI, zZ, zS, i64_w, i32_w]; rfl
                            refine pure_ (i := 34) (N := some 109) (v := ?_) (a' := ?_) #[true, true, true, true, true, true, true, true, true, true, true, true, true, true, true, true, true, true, true, true, true, true, true, true, true, true, true, true, true, true, true, true, true, true, true, false, true, false, false, false] rfl rfl (any_of HT_.out (by kernel_rfl)) (fun _ _ _ h => h) (Or.inl ⟨by rfl, ?_⟩) ?_ ?_
                            rotate_left; · intro w'; go_simp; with_reducible rfl
                            rotate_left; · simp only [Act.put, zI, zZ, zS, i64_w, i32_w]; rfl
                            refine pure_ (i := 35) (N := some 110) (v := ?_) (a' := ?_) #[true, true, true, true, true, true, true, true, true, true, true, true, true, true, true, true, true, true, true, true, true, true, true, true, true, true, true, true, true, true, true, true, true, true, true, true, true, false, false, false] rfl rfl (any_of HT_.out (by kernel_rfl)) (fun _ _ _ h => h) (Or.inl ⟨by rfl, ?_⟩) ?_ ?_
                            rotate_left; · intro w'; go_simp; with_reducible rfl
                            rotate_left; · simp only [Act.put, zI, zZ, zS, i64_w, i32_w]; rfl
                            refine pure_ (i := 37) (N := some 112) (v := ?_) (a' := ?_) #[true, true, true, true, true, true, true, true, true, true, true, true, true, true, true, true, true, true, true, true, true, true, true, true, true, true, true, true, true, true, true, true, true, true, true, true, true, true, false, false] rfl rfl (any_of HT_.out (by kernel_rfl)) (fun _ _ _ h => h) (Or.inl ⟨by rfl, ?_⟩) ?_ ?_
                            rotate_left; · intro w'; go_simp; with_reducible rfl
                            rotate_left; · simp only [Act.put, zI, zZ, zS, i64_w, i32_w]; rfl
                            refine pure_ (i := 38) (N := some 113) (v := ?_) (a' := ?_) #[true, true, true, true, true, true, true, true, true, true, true, true, true, true, true, true, true, true, true, true, true, true, true, true, true, true, true, true, true, true, true, true, true, true, true, true, true, true, true, false] rfl rfl (any_of HT_.out (by kernel_rfl)) (fun _ _ _ h => h) (Or.inl ⟨by rfl, ?_⟩) ?_ ?_
                            rotate_left; · intro w'; go_simp; with_reducible rfl
                            rotate_left; · simp only [Act.put, zI, zZ, zS, i64_w, i32_w]; rfl
                            refine last_ (i := 39) (N := none) #[true, true, true, true, true, true, true, true, true, true, true, true, true, true, true, true, true, true, true, true, true, true, true, true, true, true, true, true, true, true, true, true, true, true, true, true, true, true, true, true] rfl rfl (one_of HT_.out (by kernel_rfl)) (by decide) (fun K hK => ?_)
                            refine skip_ (w1 := ?_) (by rfl) rfl ?_ ?_
                            rotate_left; · go_simp; rfl
                            refine hK.out _ _ ?_
                            clear hK K
                            refine done_ (done_of HT_.out (by kernel_rfl)) ?_
                            try go_wp2
                            (try simp only [← hl3_5])
                            first | go_roundg k5 | (simp only [← hji32]; go_roundg k5)
                            case measure => have := HK1.out; have := HK2.out; have := HJ23.out; have := HK4.out; have := HK5.out; omega
                            case rel => exact ⟨(y133), (wrap64 (x11_5 + 1)), rs, (by first | exact H' | (rw [hji32]; exact H')), ⟨by have := HK1.out; have := HK2.out; have := HJ23.out; have := HK4.out; have := HK5.out; omega⟩, ⟨by (try simp only [hl3_2]); (try simp only [hl3_23]); (try simp only [hl3_4]); (try simp only [hl3_5]); (with_reducible repeat (first | apply Kd.S_alloc | apply Kd.S_drewN | apply Kd.S_drew)); exact HQ55.out⟩, ⟨by (try simp only [hl3_2]); (try simp only [hl3_23]); (try simp only [hl3_4]); (try simp only [hl3_5]); (with_reducible repeat (first | refine blk_drewN ?_ _ | refine blk_drew ?_ | refine blk_alloc ?_ _)); refine blk_far ?_ (by have h_ := Kd.R_ne HL122_0.out BK111.out (by decide); intro e_; exact h_ (by rw [e_]; rfl)) _; (with_reducible repeat (first | refine blk_drewN ?_ _ | refine blk_drew ?_ | refine blk_alloc ?_ _)); exact BK111.out⟩, ⟨by repeat (first | (with_reducible first | exact HB.out | apply below_alloc | apply pw_below_drewN | apply below_drew1 | refine below_set ?_ GB53.out | refine below_set ?_ GE111.out) | exact HB.out)⟩⟩
                          rw [if_pos c52] at H
                          exact absurd H (by simp)
            rw [if_pos c17] at H
            have c17b0 : decide (t116 < 0) = true := decide_eq_true c17
            clear c17
            obtain rfl := Option.some.inj H
            go_wp2_with (first | ((with_reducible refine gate_dst (N := 8) rfl ?_); refine box_event ?hg (N := 8) ?hd (cs := #[.int .i64 0]) (t := 3) ?hr ?_; (case hd => rfl); (case hg => rfl); (case hr => first | (go_simp; done) | (go_simp; rfl)); intro gb111 hg w18 hbox hb; have n0_ := Aside0.mk (Kd.S_below (by (with_reducible repeat (first | apply Kd.S_alloc | apply Kd.S_drewN | apply Kd.S_drew)); exact HO_3.out) hb); have n1_ := Aside0.mk (below_step bl hb); have n2_ := Aside0.mk (hbox); have n3_ := Aside0.mk ((by rw [hg]; exact (below_size bl) : w.heap.size ≤ gb111)); have n4_ := Aside0.mk ((by rw [hg]; exact (below_size bl) : w.heap.size ≤ gb111)); clear HO_3; clear HB; have HO_3 := n0_; have HB := n1_; have BK111 := n2_; have GW111 := n3_; have GE111 := n4_; clear n0_ n1_ n2_ n3_ n4_; clear hb hbox hg; have hcz19_0 : w18.cell? ⟨gb111, 0, none⟩ = some (.int .i64 0) := (blk_cell BK111.out 0).trans rfl; have hfz19_0 := blk_frozen BK111.out 0) | ((with_reducible refine gate_store (t := 3) (p := 8) rfl ?_); refine store_event (t := 3) (p := 8) (v := ?vo_w20) (w1 := (w18.setCell ⟨gb111, 0, none⟩ (.int .i64 x27_2))) ?hg ?ho ?hn ?hr ?_; (case ho => rfl); (case hg => rfl); (case hn => rfl); (case hr => first | (go_simp; done) | (go_simp; rfl)); intro w20 hw; have n0_ : Aside0 (Kd.S (Kd.slice 2 (Kd.int .i64)) 43 w20 w.heap.size (fun _ => True) (.slice Ao12 x3_2.length co12) x3_2) := ⟨(by rw [hw]; exact (by (with_reducible repeat (first | apply Kd.S_alloc | apply Kd.S_drewN | apply Kd.S_drew)); exact Kd.S_mono (Kd.S_far (p := ⟨gb111, 0, none⟩) (Kd.S_types HO_3.out BK111.out (by decide)) (fun _ hk => hk.2) (.int .i64 x27_2)) (fun _ hk => trivial)))⟩; have n1_ : Aside0 (w20.heap[gb111]? = some (.cells #[.int .i64 x27_2] 3 (0, 0))) := ⟨(by rw [hw]; exact (by (with_reducible repeat (first | refine blk_drewN ?_ _ | refine blk_drew ?_ | refine blk_alloc ?_ _)); refine blk_put (cs := #[.int .i64 0]) ?_ 0 _ rfl; (with_reducible repeat (first | refine blk_drewN ?_ _ | refine blk_drew ?_ | refine blk_alloc ?_ _)); exact BK111.out))⟩; have n2_ : Aside0 (Below w.heap.size w w20) := ⟨(by rw [hw]; exact bl)⟩; clear hw; clear HO_3; clear BK111; clear HB; have HO_3 := n0_; have BK111 := n1_; have HB := n2_; clear n0_ n1_ n2_; have hcz21_0 : w20.cell? ⟨gb111, 0, none⟩ = some (.int .i64 x27_2) := (blk_cell BK111.out 0).trans rfl; have hfz21_0 := blk_frozen BK111.out 0; have q22 : (x27_2 : Int) ≤ ((x3_2.length : Int) : Int) := oD; obtain ⟨i022, hi022, _, hsz22, _⟩ := info_parts info43; have hroom22 : x3_2.length ≤ co12 := (Kd.S_reads' HO_3.out).2.1; have hC22 : Kd.C (Kd.slice 2 (Kd.int .i64)) _ Ao12 x3_2.length x3_2 := (Kd.S_reads' HO_3.out).2.2; have q022 : (0 : Int) ≤ (x27_2 : Int) := oD; have hcut22 := cut_from (P := Try.prog) 22 43 .i64 Try.underlying22 hi022 1 hsz22 Ao12 x3_2.length co12 x27_2 q022 q22; have hr22 := Kd.C_drop (m := (x27_2 : Int).toNat) (c := co12) hC22 (by omega) hroom22; obtain ⟨A22, hA22⟩ : ∃ A1, A1 = (if co12 = (x27_2 : Int).toNat then Ao12 else (Ao12 : Option Addr).map (·.add ((x27_2 : Int).toNat * 1))) := ⟨_, rfl⟩; obtain ⟨c22, hc22⟩ : ∃ c1, c1 = co12 - (x27_2 : Int).toNat := ⟨_, rfl⟩; have hy22 : y112.length = x3_2.length - (x27_2 : Int).toNat := (by rw [Ny112.out, List.length_drop] <;> omega); rw [show (x3_2).drop (x27_2 : Int).toNat = y112 from Ny112.out.symm] at hr22; replace hr22 : Kd.C (Kd.slice 2 (Kd.int .i64)) _ A22 y112.length y112 := (by rw [hA22]; exact hr22); rw [← hy22, ← hA22, ← hc22] at hcut22; have HR115 := Aside0.mk hr22; have HC115 := Aside0.mk (show y112.length ≤ c22 from by rw [hy22, hc22]; exact Nat.sub_le_sub_right hroom22 _); clear hr22 hC22 hroom22 hi022 hsz22 hc22; have KY22 := Aside0.mk hy22; have KA22 := Aside0.mk hA22; clear hy22 hA22; have KL22 := Aside0.mk (show (x27_2 : Int).toNat ≤ x3_2.length from by omega); replace q22 := eq_true q22) | ((with_reducible refine gate_callee (f := 61) rfl ?_); refine goesL_ (some 34) rfl rfl Try.func61 (by kernel_rfl) rfl #[.slice A22 y112.length c22, .func (.func 154) #[] #[.pointer (some ⟨gb111, 0, none⟩)]] rfl gm ?_; (with_reducible refine (impl_wholeDeterminant_1.calls k2 _ _ y112 x27_2 t116 _ ?side1 ?side2 ?side3 A16.out).mono ?_); (case side1 => repeat (first | exact (by repeat (first | (with_reducible exact HR115.out) | (with_reducible refine Kd.C_alloc ?_ _) | (with_reducible refine Kd.C_drewN ?_ _) | (with_reducible refine Kd.C_drew ?_) | exact HR115.out)) | (with_reducible refine Kd.C_alloc ?_ _) | (with_reducible refine Kd.C_drewN ?_ _) | (with_reducible refine Kd.C_drew ?_))); (case side2 => exact HC115.out); (case side3 => exact by (with_reducible repeat (first | refine blk_drewN ?_ _ | refine blk_drew ?_ | refine blk_alloc ?_ _)); exact BK111.out); rintro e w23 ⟨rfl, hb⟩; refine ⟨_, rfl, ?_⟩; have n0_ := Aside0.mk (Kd.S_below (by (with_reducible repeat (first | apply Kd.S_alloc | apply Kd.S_drewN | apply Kd.S_drew)); exact HO_3.out) hb); have n1_ := Aside0.mk (blk_below (g := gb111) (o := .cells #[.int .i64 x27_2] 3 (0, 0)) bk hb); have n2_ := Aside0.mk (Kd.C_below (by repeat (first | (with_reducible exact HR115.out) | (with_reducible refine Kd.C_alloc ?_ _) | (with_reducible refine Kd.C_drewN ?_ _) | (with_reducible refine Kd.C_drew ?_) | exact HR115.out)) hb); have n3_ := Aside0.mk (below_step bl hb); clear HO_3; clear BK111; clear HR115; clear HB; have HO_3 := n0_; have BK111 := n1_; have HR115 := n2_; have HB := n3_; clear n0_ n1_ n2_ n3_; (try clear hb); (try clear hb2); (try clear hk); (try clear hi)))
            go_ret
            exact ⟨by first | rfl | (simp [errW_none, errW_some] <;> rfl) | (simp [*, errW_none, errW_some] <;> rfl), bl⟩
      rw [if_pos c4] at H
      have c4b0 : decide (x15_1 < (l0.length : Int)) = true := decide_eq_true c4
      clear c4
      by_cases c5 : 0 ≤ x15_1
      case neg => rw [if_neg c5] at H; exact absurd H (by simp)
      rw [if_pos c5] at H
      have c5b0 : decide (0 ≤ x15_1) = true := decide_eq_true c5
      clear c5
      by_cases c6 : x15_1 < (l0.length : Int)
      case neg => rw [if_neg c6] at H; exact absurd H (by simp)
      rw [if_pos c6] at H
      have c6b0 : decide (x15_1 < (l0.length : Int)) = true := decide_eq_true c6
      clear c6
      replace H := Option.bind_eq_some_iff.mp H
      obtain ⟨t105, A70, H⟩ := H
      replace H : (if x3_1.length < 5864062014805 then (impl_wholeDeterminant.l0 k1 (x3_1 ++ [t105]) 1 1 l0 (l0.length : Int) (wrap64 (x15_1 + 1))) else (none)) = some r := H
      have A7 := Aside0.mk A70
      clear A70
      by_cases c8 : x3_1.length < 5864062014805
      case neg => rw [if_neg c8] at H; exact absurd H (by simp)
      rw [if_pos c8] at H
      have LMc8 := Aside0.mk c8
      clear c8
      obtain ⟨y108, hy108⟩ : ∃ y_ : List (List Int), y_ = (x3_1 ++ [t105]) := ⟨_, rfl⟩
      replace H : (impl_wholeDeterminant.l0 k1 y108 1 1 l0 (l0.length : Int) (wrap64 (x15_1 + 1))) = some r := by first | (rw [hy108]; with_reducible exact H) | (have H2_ := (Option.bind_some _ _).symm.trans H; rw [hy108]; with_reducible exact H2_) | (have H2_ := (Option.bind_some _ _).symm.trans H; with_reducible exact H2_) | with_reducible exact H | (rw [hy108]; exact H) | exact H
      have Ny108 := Aside0.mk hy108
      clear hy108
      have H' := Aside0.mk H
      clear H
      have p104 : 0 ≤ (x15_1 : Int) := oD
      have q104 : x15_1 < (l0.length : Int) := oD
      obtain ⟨ad104, A104_0, c104_0, e104, hx104_0, hl104_0, hi104_0⟩ := at_L1 HR0.out x15_1 p104 q104
      cases e104
      replace hx104_0 := hbc HB hx104_0
      have HR104_0 := Aside0.mk hi104_0
      have HC104_0 := Aside0.mk hl104_0
      clear hi104_0 hl104_0
      replace p104 := eq_true p104
      replace q104 := eq_true q104
      go_wp2_with (first | ((with_reducible refine gate_callee (f := 113) rfl ?_); refine goesL_ (some 21) rfl rfl Try.func113 (by kernel_rfl) rfl #[.slice A104_0 (rd_L1 l0 x15_1).length c104_0] rfl gm ?_; (with_reducible refine (slices_Clone_int64_int64.calls _ _ (rd_L1 l0 x15_1) t105 _ ?side1 ?side2 A7.out).mono ?_); (case side1 => repeat (first | exact (Kd.C_below HR104_0.out HB.out) | (with_reducible refine Kd.C_alloc ?_ _) | (with_reducible refine Kd.C_drewN ?_ _) | (with_reducible refine Kd.C_drew ?_))); (case side2 => exact HC104_0.out); rintro e w9 ⟨v106, rfl, ho0, hb⟩; refine ⟨_, rfl, ?_⟩; have n0_ := Aside0.mk (Kd.S_elder' (by (with_reducible repeat (first | apply Kd.S_alloc | apply Kd.S_drewN | apply Kd.S_drew)); exact HO_3.out) (Kd.R_base ho0) hb); have n1_ := Aside0.mk (Kd.R_lower ho0 (below_size bl)); have n2_ := Aside0.mk (below_step bl hb); clear HO_3; clear HB; have HO_3 := n0_; have HO107 := n1_; have HB := n2_; clear n0_ n1_ n2_; (try clear hb); (try clear hb2); (try clear hk); (try clear hi); (try clear ho0); obtain ⟨Ao11, co11, eo11⟩ := Kd.R_slice HO107.out; subst eo11) | ((with_reducible refine gate_builtin (b := .append) (xs := #[.tmp 19, .tmp 22]) rfl ?_); at_builtin; refine Kd.S_append (Kd.slice 2 (Kd.int .i64)) (w0 := w) w.heap.size rfl (.tmp 19) (.tmp 22) 22 43 (.slice none 0 0) 24 rfl Try.underlying22 info43 rfl (by decide) (by omega) u3 x3_1 t105 [.slice Ao11 t105.length co11] (fun _ => True) (fun k_ => some k_ = (.slice Ao11 t105.length co11 : Value).ownBlock) rfl rfl ?aP (fun k_ hk_ => ((Kd.R_mono (ok' := fun k_ => ((fun _ => True)) k_ ∧ some k_ ≠ (u3 : Value).ownBlock) (Kd.R_apart' (HO107.out) (Kd.S_typed HO_3.out) (by decide)) (fun k_ hk => ⟨trivial, hk.2⟩))).1 k_ hk_.symm) ?aF ?aO ?aB ?aS ?aL ?_; (case aP => exact Kd.M_row (Kd.R_mono (Kd.R_tight rfl (Kd.R_mono (ok' := fun k_ => ((fun _ => True)) k_ ∧ some k_ ≠ (u3 : Value).ownBlock) (Kd.R_apart' (HO107.out) (Kd.S_typed HO_3.out) (by decide)) (fun k_ hk => ⟨trivial, hk.2⟩))) (fun _ h_ => h_))); (case aB => exact bl); (case aF => exact (fun _ _ => trivial)); (case aO => exact (by (with_reducible repeat (first | apply Kd.S_alloc | apply Kd.S_drewN | apply Kd.S_drew)); exact Kd.S_mono HO_3.out (fun k_ hk => ⟨trivial, fun e_ => hk.2 e_⟩))); (case aS => exact (below_size bl)); (case aL => have := LMc8.out; omega); intro v109 w10 ho hb hg hat; rw [← Ny108.out] at ho; have n0_ := Aside0.mk (hb); have n1_ := Aside0.mk (ho); clear HB; clear HO_3; clear HO107; have HB := n0_; have HO110 := n1_; clear n0_ n1_; clear ho hb hg hat))
      first | go_roundg k1 | (simp only [← hji32]; go_roundg k1)
      case measure => have := HK1.out; omega
      case rel => exact ⟨(y108), (wrap64 (x15_1 + 1)), rs, (by first | exact H' | (rw [hji32]; exact H')), ⟨by have := HK1.out; omega⟩, ⟨by (with_reducible repeat (first | apply Kd.S_alloc | apply Kd.S_drewN | apply Kd.S_drew)); exact HO110.out⟩, ⟨bl⟩⟩
end Go.Proofs.Ytpckiapngjcijaa.G
