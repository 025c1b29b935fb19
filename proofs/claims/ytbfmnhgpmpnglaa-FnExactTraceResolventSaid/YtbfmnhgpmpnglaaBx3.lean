/- The functions that one law reaches, each as a Lean function, and that Go's call comes to what it says. Condition of each: that the Lean function answers (is not none). -/
import Derived.Test.YtbfmnhgpmpnglaaBx0
import Derived.Test.YtbfmnhgpmpnglaaBx2
namespace Go.Proofs.Ytbfmnhgpmpnglaa.B
open Go.RowKit Go.Proofs.YtbfmnhgpmpnglaaW.PrintWords Go.Proofs.YtbfmnhgpmpnglaaW.PrintLast Go.Proofs.YtbfmnhgpmpnglaaW.PrintMore
attribute [local go_sem] max2_int min2_int max_two min_two max_three min_three max_four min_four   -- for this text's walks alone
set_option linter.unusedVariables false
set_option linter.unusedSimpArgs false

/-! ### spec_l09Solve: function 41 -/
mutual
def spec_l09Solve.l0 : Nat → Int → Int → List (List Int) → Int → Int → List (List Int) → Int → Option ((List (List Int)) × Int)
  | 0, _, _, _, _, _, _, _ => none
  | k + 1, x1, x2, x8, x9, x10, x11, x12 => if x12 < x9 then (if 0 ≤ (wrap64 (2 * x9)) then (if (wrap64 (2 * x9) : Int).toNat ≤ 35184372088832 then (spec_l09Solve.l1 k x1 x2 x8 x9 x10 x11 x12 (List.replicate (wrap64 (2 * x9) : Int).toNat 0) 0) else (none)) else (none)) else (spec_l09Solve.l2 k x1 x9 x10 x11 0)
def spec_l09Solve.l1 : Nat → Int → Int → List (List Int) → Int → Int → List (List Int) → Int → List Int → Int → Option ((List (List Int)) × Int)
  | 0, _, _, _, _, _, _, _, _, _ => none
  | k + 1, x1, x2, x8, x9, x10, x11, x12, x13, x14 => if x14 < x9 then (if 0 ≤ x12 then (if x12 < (x8.length : Int) then (if 0 ≤ x14 then (if x14 < ((rd_L1 x8 x12).length : Int) then ((spec_l09Mod.f x1 (wrap64 ((wrap64 (-x2)) * (rd (rd_L1 x8 x12) x14)))).bind fun t113 => (if x14 < (x13.length : Int) then (spec_l09Solve.l1 k x1 x2 x8 x9 x10 x11 x12 (x13.set (x14 : Int).toNat t113) (wrap64 (x14 + 1))) else (none))) else (none)) else (none)) else (none)) else (none)) else (if 0 ≤ x12 then (if x12 < (x13.length : Int) then (if x1 = 0 then (none) else (if 0 ≤ (wrap64 (x9 + x12)) then (if (wrap64 (x9 + x12)) < (x13.length : Int) then (if x11.length < 5864062014805 then (spec_l09Solve.l0 k x1 x2 x8 x9 x10 (x11 ++ [((x13.set (x12 : Int).toNat (Int.tmod (wrap64 ((rd x13 x12) + 1)) x1)).set ((wrap64 (x9 + x12)) : Int).toNat 1)]) (wrap64 (x12 + 1))) else (none)) else (none)) else (none))) else (none)) else (none))
def spec_l09Solve.l2 : Nat → Int → Int → Int → List (List Int) → Int → Option ((List (List Int)) × Int)
  | 0, _, _, _, _, _ => none
  | k + 1, x1, x9, x10, x11, x15 => if x15 < x9 then (spec_l09Solve.l3 k x1 x9 x10 x11 x15 x15) else (spec_l09Solve.l7 k x9 x10 x11 (([] : List (List Int))) 0)
def spec_l09Solve.j4 : Nat → Int → Int → Int → List (List Int) → Int → Int → Option ((List (List Int)) × Int)
  | 0, _, _, _, _, _, _ => none
  | k + 1, x1, x9, x10, x11, x15, x16 => if x16 = x9 then (some (([] : List (List Int)), 0)) else (if x16 = x15 then (spec_l09Solve.j5 k x1 x9 x10 x11 x15) else (if 0 ≤ x16 then (if x16 < (x11.length : Int) then (if 0 ≤ x15 then (if x15 < (x11.length : Int) then ((spec_l09Mod.f x1 (wrap64 (-x10))).bind fun t126 => (spec_l09Solve.j5 k x1 x9 t126 (swp x11 x16 x15) x15)) else (none)) else (none)) else (none)) else (none)))
def spec_l09Solve.j5 : Nat → Int → Int → Int → List (List Int) → Int → Option ((List (List Int)) × Int)
  | 0, _, _, _, _, _ => none
  | k + 1, x1, x9, x10, x11, x15 => if 0 ≤ x15 then (if x15 < (x11.length : Int) then (if x15 < ((rd_L1 x11 x15).length : Int) then (if x1 = 0 then (none) else ((spec_l09Inverse.f k x1 (rd (rd_L1 x11 x15) x15)).bind fun t131 => (spec_l09Solve.l4 k x1 x9 (Int.tmod (wrap64 (x10 * (rd (rd_L1 x11 x15) x15))) x1) x11 x15 t131 0))) else (none)) else (none)) else (none)
def spec_l09Solve.l4 : Nat → Int → Int → Int → List (List Int) → Int → Int → Int → Option ((List (List Int)) × Int)
  | 0, _, _, _, _, _, _, _ => none
  | k + 1, x1, x9, x10, x11, x15, x18, x19 => if x19 < (wrap64 (2 * x9)) then (if 0 ≤ x15 then (if x15 < (x11.length : Int) then (if 0 ≤ x19 then (if x19 < ((rd_L1 x11 x15).length : Int) then (if x1 = 0 then (none) else (spec_l09Solve.l4 k x1 x9 x10 (x11.set (x15 : Int).toNat ((rd_L1 x11 x15).set (x19 : Int).toNat (Int.tmod (wrap64 ((rd (rd_L1 x11 x15) x19) * x18)) x1))) x15 x18 (wrap64 (x19 + 1)))) else (none)) else (none)) else (none)) else (none)) else (spec_l09Solve.l5 k x1 x9 x10 x11 x15 0)
def spec_l09Solve.l5 : Nat → Int → Int → Int → List (List Int) → Int → Int → Option ((List (List Int)) × Int)
  | 0, _, _, _, _, _, _ => none
  | k + 1, x1, x9, x10, x11, x15, x21 => if x21 < x9 then (if 0 ≤ x21 then (if x21 < (x11.length : Int) then (if 0 ≤ x15 then (if x15 < ((rd_L1 x11 x21).length : Int) then (spec_l09Solve.l6 k x1 x9 x10 x11 x15 x21 (rd (rd_L1 x11 x21) x15) 0) else (none)) else (none)) else (none)) else (none)) else (spec_l09Solve.l2 k x1 x9 x10 x11 (wrap64 (x15 + 1)))
def spec_l09Solve.l6 : Nat → Int → Int → Int → List (List Int) → Int → Int → Int → Int → Option ((List (List Int)) × Int)
  | 0, _, _, _, _, _, _, _, _ => none
  | k + 1, x1, x9, x10, x11, x15, x21, x22, x23 => if x23 < (wrap64 (2 * x9)) then (if x21 = x15 then (spec_l09Solve.l5 k x1 x9 x10 x11 x15 (wrap64 (x21 + 1))) else (if 0 ≤ x21 then (if x21 < (x11.length : Int) then (if 0 ≤ x23 then (if x23 < ((rd_L1 x11 x21).length : Int) then (if 0 ≤ x15 then (if x15 < (x11.length : Int) then (if x23 < ((rd_L1 x11 x15).length : Int) then ((spec_l09Mod.f x1 (wrap64 ((rd (rd_L1 x11 x21) x23) - (wrap64 (x22 * (rd (rd_L1 x11 x15) x23)))))).bind fun t143 => (spec_l09Solve.l6 k x1 x9 x10 (x11.set (x21 : Int).toNat ((rd_L1 x11 x21).set (x23 : Int).toNat t143)) x15 x21 x22 (wrap64 (x23 + 1)))) else (none)) else (none)) else (none)) else (none)) else (none)) else (none)) else (none))) else (spec_l09Solve.l5 k x1 x9 x10 x11 x15 (wrap64 (x21 + 1)))
def spec_l09Solve.l3 : Nat → Int → Int → Int → List (List Int) → Int → Int → Option ((List (List Int)) × Int)
  | 0, _, _, _, _, _, _ => none
  | k + 1, x1, x9, x10, x11, x15, x16 => if x16 < x9 then (if 0 ≤ x16 then (if x16 < (x11.length : Int) then (if 0 ≤ x15 then (if x15 < ((rd_L1 x11 x16).length : Int) then (if (rd (rd_L1 x11 x16) x15) = 0 then (spec_l09Solve.l3 k x1 x9 x10 x11 x15 (wrap64 (x16 + 1))) else (spec_l09Solve.j4 k x1 x9 x10 x11 x15 x16)) else (none)) else (none)) else (none)) else (none)) else (spec_l09Solve.j4 k x1 x9 x10 x11 x15 x16)
def spec_l09Solve.l7 : Nat → Int → Int → List (List Int) → List (List Int) → Int → Option ((List (List Int)) × Int)
  | 0, _, _, _, _, _ => none
  | k + 1, x9, x10, x11, x25, x26 => if x26 < x9 then (if 0 ≤ x26 then (if x26 < (x11.length : Int) then (if 0 ≤ x9 then (if x9 ≤ ((rd_L1 x11 x26).length : Int) then ((spec_l01Own.f ((rd_L1 x11 x26).drop (x9 : Int).toNat)).bind fun t155 => (if x25.length < 5864062014805 then (spec_l09Solve.l7 k x9 x10 x11 (x25 ++ [t155]) (wrap64 (x26 + 1))) else (none))) else (none)) else (none)) else (none)) else (none)) else (some (x25, x10))
end
def spec_l09Solve.f (k : Nat) (a0_0 : Int) (l0_1 : List (List Int)) (a1 : Int) (a2 : Int) : Option ((List (List Int)) × Int) := (spec_l09Rows.f k a0_0 l0_1).bind fun t102 => (if a1 = 0 then (none) else (spec_l09Solve.l0 k a1 a2 t102 (wrap64 (2 * (l0_1.length : Int))) ((1 : Int) % a1) (([] : List (List Int))) 0))
theorem spec_l09Solve.mono_l : ∀ k, (∀ y0 y1 y2 y3 y4 y5 y6, LeO (spec_l09Solve.l0 k y0 y1 y2 y3 y4 y5 y6) (spec_l09Solve.l0 (k + 1) y0 y1 y2 y3 y4 y5 y6)) ∧ (∀ y0 y1 y2 y3 y4 y5 y6 y7 y8, LeO (spec_l09Solve.l1 k y0 y1 y2 y3 y4 y5 y6 y7 y8) (spec_l09Solve.l1 (k + 1) y0 y1 y2 y3 y4 y5 y6 y7 y8)) ∧ (∀ y0 y1 y2 y3 y4, LeO (spec_l09Solve.l2 k y0 y1 y2 y3 y4) (spec_l09Solve.l2 (k + 1) y0 y1 y2 y3 y4)) ∧ (∀ y0 y1 y2 y3 y4 y5, LeO (spec_l09Solve.j4 k y0 y1 y2 y3 y4 y5) (spec_l09Solve.j4 (k + 1) y0 y1 y2 y3 y4 y5)) ∧ (∀ y0 y1 y2 y3 y4, LeO (spec_l09Solve.j5 k y0 y1 y2 y3 y4) (spec_l09Solve.j5 (k + 1) y0 y1 y2 y3 y4)) ∧ (∀ y0 y1 y2 y3 y4 y5 y6, LeO (spec_l09Solve.l4 k y0 y1 y2 y3 y4 y5 y6) (spec_l09Solve.l4 (k + 1) y0 y1 y2 y3 y4 y5 y6)) ∧ (∀ y0 y1 y2 y3 y4 y5, LeO (spec_l09Solve.l5 k y0 y1 y2 y3 y4 y5) (spec_l09Solve.l5 (k + 1) y0 y1 y2 y3 y4 y5)) ∧ (∀ y0 y1 y2 y3 y4 y5 y6 y7, LeO (spec_l09Solve.l6 k y0 y1 y2 y3 y4 y5 y6 y7) (spec_l09Solve.l6 (k + 1) y0 y1 y2 y3 y4 y5 y6 y7)) ∧ (∀ y0 y1 y2 y3 y4 y5, LeO (spec_l09Solve.l3 k y0 y1 y2 y3 y4 y5) (spec_l09Solve.l3 (k + 1) y0 y1 y2 y3 y4 y5)) ∧ (∀ y0 y1 y2 y3 y4, LeO (spec_l09Solve.l7 k y0 y1 y2 y3 y4) (spec_l09Solve.l7 (k + 1) y0 y1 y2 y3 y4))
  | 0 => ⟨fun _ _ _ _ _ _ _ r h => by simp [spec_l09Solve.l0] at h, fun _ _ _ _ _ _ _ _ _ r h => by simp [spec_l09Solve.l1] at h, fun _ _ _ _ _ r h => by simp [spec_l09Solve.l2] at h, fun _ _ _ _ _ _ r h => by simp [spec_l09Solve.j4] at h, fun _ _ _ _ _ r h => by simp [spec_l09Solve.j5] at h, fun _ _ _ _ _ _ _ r h => by simp [spec_l09Solve.l4] at h, fun _ _ _ _ _ _ r h => by simp [spec_l09Solve.l5] at h, fun _ _ _ _ _ _ _ _ r h => by simp [spec_l09Solve.l6] at h, fun _ _ _ _ _ _ r h => by simp [spec_l09Solve.l3] at h, fun _ _ _ _ _ r h => by simp [spec_l09Solve.l7] at h⟩
  | k + 1 => by
    obtain ⟨ih0, ih1, ih2, ih3, ih4, ih5, ih6, ih7, ih8, ih9⟩ := spec_l09Solve.mono_l k
    refine ⟨?_, ?_, ?_, ?_, ?_, ?_, ?_, ?_, ?_, ?_⟩
    · intro y0 y1 y2 y3 y4 y5 y6
      unfold spec_l09Solve.l0
      repeat' first
      | (with_reducible exact ih0 _ _ _ _ _ _ _)
      | (with_reducible exact ih1 _ _ _ _ _ _ _ _ _)
      | (with_reducible exact ih2 _ _ _ _ _)
      | (with_reducible exact ih3 _ _ _ _ _ _)
      | (with_reducible exact ih4 _ _ _ _ _)
      | (with_reducible exact ih5 _ _ _ _ _ _ _)
      | (with_reducible exact ih6 _ _ _ _ _ _)
      | (with_reducible exact ih7 _ _ _ _ _ _ _ _)
      | (with_reducible exact ih8 _ _ _ _ _ _)
      | (with_reducible exact ih9 _ _ _ _ _)
      | (with_reducible exact spec_l09Inverse.mono _ _ _)
      | (with_reducible exact spec_l09Rows.mono _ _ _)
      | (with_reducible exact LeO.refl _)
      | (with_reducible exact LeO.none _)
      | (with_reducible refine LeO.ite ?_ ?_)
      | (with_reducible refine LeO.bind ?_ (fun _ => ?_))
      | exact ih0 _ _ _ _ _ _ _
      | exact ih1 _ _ _ _ _ _ _ _ _
      | exact ih2 _ _ _ _ _
      | exact ih3 _ _ _ _ _ _
      | exact ih4 _ _ _ _ _
      | exact ih5 _ _ _ _ _ _ _
      | exact ih6 _ _ _ _ _ _
      | exact ih7 _ _ _ _ _ _ _ _
      | exact ih8 _ _ _ _ _ _
      | exact ih9 _ _ _ _ _
      | exact spec_l09Inverse.mono _ _ _
      | exact spec_l09Rows.mono _ _ _
      | exact LeO.none _
      | refine LeO.ite ?_ ?_
      | refine LeO.bind ?_ (fun _ => ?_)
    · intro y0 y1 y2 y3 y4 y5 y6 y7 y8
      unfold spec_l09Solve.l1
      repeat' first
      | (with_reducible exact ih0 _ _ _ _ _ _ _)
      | (with_reducible exact ih1 _ _ _ _ _ _ _ _ _)
      | (with_reducible exact ih2 _ _ _ _ _)
      | (with_reducible exact ih3 _ _ _ _ _ _)
      | (with_reducible exact ih4 _ _ _ _ _)
      | (with_reducible exact ih5 _ _ _ _ _ _ _)
      | (with_reducible exact ih6 _ _ _ _ _ _)
      | (with_reducible exact ih7 _ _ _ _ _ _ _ _)
      | (with_reducible exact ih8 _ _ _ _ _ _)
      | (with_reducible exact ih9 _ _ _ _ _)
      | (with_reducible exact spec_l09Inverse.mono _ _ _)
      | (with_reducible exact spec_l09Rows.mono _ _ _)
      | (with_reducible exact LeO.refl _)
      | (with_reducible exact LeO.none _)
      | (with_reducible refine LeO.ite ?_ ?_)
      | (with_reducible refine LeO.bind ?_ (fun _ => ?_))
      | exact ih0 _ _ _ _ _ _ _
      | exact ih1 _ _ _ _ _ _ _ _ _
      | exact ih2 _ _ _ _ _
      | exact ih3 _ _ _ _ _ _
      | exact ih4 _ _ _ _ _
      | exact ih5 _ _ _ _ _ _ _
      | exact ih6 _ _ _ _ _ _
      | exact ih7 _ _ _ _ _ _ _ _
      | exact ih8 _ _ _ _ _ _
      | exact ih9 _ _ _ _ _
      | exact spec_l09Inverse.mono _ _ _
      | exact spec_l09Rows.mono _ _ _
      | exact LeO.none _
      | refine LeO.ite ?_ ?_
      | refine LeO.bind ?_ (fun _ => ?_)
    · intro y0 y1 y2 y3 y4
      unfold spec_l09Solve.l2
      repeat' first
      | (with_reducible exact ih0 _ _ _ _ _ _ _)
      | (with_reducible exact ih1 _ _ _ _ _ _ _ _ _)
      | (with_reducible exact ih2 _ _ _ _ _)
      | (with_reducible exact ih3 _ _ _ _ _ _)
      | (with_reducible exact ih4 _ _ _ _ _)
      | (with_reducible exact ih5 _ _ _ _ _ _ _)
      | (with_reducible exact ih6 _ _ _ _ _ _)
      | (with_reducible exact ih7 _ _ _ _ _ _ _ _)
      | (with_reducible exact ih8 _ _ _ _ _ _)
      | (with_reducible exact ih9 _ _ _ _ _)
      | (with_reducible exact spec_l09Inverse.mono _ _ _)
      | (with_reducible exact spec_l09Rows.mono _ _ _)
      | (with_reducible exact LeO.refl _)
      | (with_reducible exact LeO.none _)
      | (with_reducible refine LeO.ite ?_ ?_)
      | (with_reducible refine LeO.bind ?_ (fun _ => ?_))
      | exact ih0 _ _ _ _ _ _ _
      | exact ih1 _ _ _ _ _ _ _ _ _
      | exact ih2 _ _ _ _ _
      | exact ih3 _ _ _ _ _ _
      | exact ih4 _ _ _ _ _
      | exact ih5 _ _ _ _ _ _ _
      | exact ih6 _ _ _ _ _ _
      | exact ih7 _ _ _ _ _ _ _ _
      | exact ih8 _ _ _ _ _ _
      | exact ih9 _ _ _ _ _
      | exact spec_l09Inverse.mono _ _ _
      | exact spec_l09Rows.mono _ _ _
      | exact LeO.none _
      | refine LeO.ite ?_ ?_
      | refine LeO.bind ?_ (fun _ => ?_)
    · intro y0 y1 y2 y3 y4 y5
      unfold spec_l09Solve.j4
      repeat' first
      | (with_reducible exact ih0 _ _ _ _ _ _ _)
      | (with_reducible exact ih1 _ _ _ _ _ _ _ _ _)
      | (with_reducible exact ih2 _ _ _ _ _)
      | (with_reducible exact ih3 _ _ _ _ _ _)
      | (with_reducible exact ih4 _ _ _ _ _)
      | (with_reducible exact ih5 _ _ _ _ _ _ _)
      | (with_reducible exact ih6 _ _ _ _ _ _)
      | (with_reducible exact ih7 _ _ _ _ _ _ _ _)
      | (with_reducible exact ih8 _ _ _ _ _ _)
      | (with_reducible exact ih9 _ _ _ _ _)
      | (with_reducible exact spec_l09Inverse.mono _ _ _)
      | (with_reducible exact spec_l09Rows.mono _ _ _)
      | (with_reducible exact LeO.refl _)
      | (with_reducible exact LeO.none _)
      | (with_reducible refine LeO.ite ?_ ?_)
      | (with_reducible refine LeO.bind ?_ (fun _ => ?_))
      | exact ih0 _ _ _ _ _ _ _
      | exact ih1 _ _ _ _ _ _ _ _ _
      | exact ih2 _ _ _ _ _
      | exact ih3 _ _ _ _ _ _
      | exact ih4 _ _ _ _ _
      | exact ih5 _ _ _ _ _ _ _
      | exact ih6 _ _ _ _ _ _
      | exact ih7 _ _ _ _ _ _ _ _
      | exact ih8 _ _ _ _ _ _
      | exact ih9 _ _ _ _ _
      | exact spec_l09Inverse.mono _ _ _
      | exact spec_l09Rows.mono _ _ _
      | exact LeO.none _
      | refine LeO.ite ?_ ?_
      | refine LeO.bind ?_ (fun _ => ?_)
    · intro y0 y1 y2 y3 y4
      unfold spec_l09Solve.j5
      repeat' first
      | (with_reducible exact ih0 _ _ _ _ _ _ _)
      | (with_reducible exact ih1 _ _ _ _ _ _ _ _ _)
      | (with_reducible exact ih2 _ _ _ _ _)
      | (with_reducible exact ih3 _ _ _ _ _ _)
      | (with_reducible exact ih4 _ _ _ _ _)
      | (with_reducible exact ih5 _ _ _ _ _ _ _)
      | (with_reducible exact ih6 _ _ _ _ _ _)
      | (with_reducible exact ih7 _ _ _ _ _ _ _ _)
      | (with_reducible exact ih8 _ _ _ _ _ _)
      | (with_reducible exact ih9 _ _ _ _ _)
      | (with_reducible exact spec_l09Inverse.mono _ _ _)
      | (with_reducible exact spec_l09Rows.mono _ _ _)
      | (with_reducible exact LeO.refl _)
      | (with_reducible exact LeO.none _)
      | (with_reducible refine LeO.ite ?_ ?_)
      | (with_reducible refine LeO.bind ?_ (fun _ => ?_))
      | exact ih0 _ _ _ _ _ _ _
      | exact ih1 _ _ _ _ _ _ _ _ _
      | exact ih2 _ _ _ _ _
      | exact ih3 _ _ _ _ _ _
      | exact ih4 _ _ _ _ _
      | exact ih5 _ _ _ _ _ _ _
      | exact ih6 _ _ _ _ _ _
      | exact ih7 _ _ _ _ _ _ _ _
      | exact ih8 _ _ _ _ _ _
      | exact ih9 _ _ _ _ _
      | exact spec_l09Inverse.mono _ _ _
      | exact spec_l09Rows.mono _ _ _
      | exact LeO.none _
      | refine LeO.ite ?_ ?_
      | refine LeO.bind ?_ (fun _ => ?_)
    · intro y0 y1 y2 y3 y4 y5 y6
      unfold spec_l09Solve.l4
      repeat' first
      | (with_reducible exact ih0 _ _ _ _ _ _ _)
      | (with_reducible exact ih1 _ _ _ _ _ _ _ _ _)
      | (with_reducible exact ih2 _ _ _ _ _)
      | (with_reducible exact ih3 _ _ _ _ _ _)
      | (with_reducible exact ih4 _ _ _ _ _)
      | (with_reducible exact ih5 _ _ _ _ _ _ _)
      | (with_reducible exact ih6 _ _ _ _ _ _)
      | (with_reducible exact ih7 _ _ _ _ _ _ _ _)
      | (with_reducible exact ih8 _ _ _ _ _ _)
      | (with_reducible exact ih9 _ _ _ _ _)
      | (with_reducible exact spec_l09Inverse.mono _ _ _)
      | (with_reducible exact spec_l09Rows.mono _ _ _)
      | (with_reducible exact LeO.refl _)
      | (with_reducible exact LeO.none _)
      | (with_reducible refine LeO.ite ?_ ?_)
      | (with_reducible refine LeO.bind ?_ (fun _ => ?_))
      | exact ih0 _ _ _ _ _ _ _
      | exact ih1 _ _ _ _ _ _ _ _ _
      | exact ih2 _ _ _ _ _
      | exact ih3 _ _ _ _ _ _
      | exact ih4 _ _ _ _ _
      | exact ih5 _ _ _ _ _ _ _
      | exact ih6 _ _ _ _ _ _
      | exact ih7 _ _ _ _ _ _ _ _
      | exact ih8 _ _ _ _ _ _
      | exact ih9 _ _ _ _ _
      | exact spec_l09Inverse.mono _ _ _
      | exact spec_l09Rows.mono _ _ _
      | exact LeO.none _
      | refine LeO.ite ?_ ?_
      | refine LeO.bind ?_ (fun _ => ?_)
    · intro y0 y1 y2 y3 y4 y5
      unfold spec_l09Solve.l5
      repeat' first
      | (with_reducible exact ih0 _ _ _ _ _ _ _)
      | (with_reducible exact ih1 _ _ _ _ _ _ _ _ _)
      | (with_reducible exact ih2 _ _ _ _ _)
      | (with_reducible exact ih3 _ _ _ _ _ _)
      | (with_reducible exact ih4 _ _ _ _ _)
      | (with_reducible exact ih5 _ _ _ _ _ _ _)
      | (with_reducible exact ih6 _ _ _ _ _ _)
      | (with_reducible exact ih7 _ _ _ _ _ _ _ _)
      | (with_reducible exact ih8 _ _ _ _ _ _)
      | (with_reducible exact ih9 _ _ _ _ _)
      | (with_reducible exact spec_l09Inverse.mono _ _ _)
      | (with_reducible exact spec_l09Rows.mono _ _ _)
      | (with_reducible exact LeO.refl _)
      | (with_reducible exact LeO.none _)
      | (with_reducible refine LeO.ite ?_ ?_)
      | (with_reducible refine LeO.bind ?_ (fun _ => ?_))
      | exact ih0 _ _ _ _ _ _ _
      | exact ih1 _ _ _ _ _ _ _ _ _
      | exact ih2 _ _ _ _ _
      | exact ih3 _ _ _ _ _ _
      | exact ih4 _ _ _ _ _
      | exact ih5 _ _ _ _ _ _ _
      | exact ih6 _ _ _ _ _ _
      | exact ih7 _ _ _ _ _ _ _ _
      | exact ih8 _ _ _ _ _ _
      | exact ih9 _ _ _ _ _
      | exact spec_l09Inverse.mono _ _ _
      | exact spec_l09Rows.mono _ _ _
      | exact LeO.none _
      | refine LeO.ite ?_ ?_
      | refine LeO.bind ?_ (fun _ => ?_)
    · intro y0 y1 y2 y3 y4 y5 y6 y7
      unfold spec_l09Solve.l6
      repeat' first
      | (with_reducible exact ih0 _ _ _ _ _ _ _)
      | (with_reducible exact ih1 _ _ _ _ _ _ _ _ _)
      | (with_reducible exact ih2 _ _ _ _ _)
      | (with_reducible exact ih3 _ _ _ _ _ _)
      | (with_reducible exact ih4 _ _ _ _ _)
      | (with_reducible exact ih5 _ _ _ _ _ _ _)
      | (with_reducible exact ih6 _ _ _ _ _ _)
      | (with_reducible exact ih7 _ _ _ _ _ _ _ _)
      | (with_reducible exact ih8 _ _ _ _ _ _)
      | (with_reducible exact ih9 _ _ _ _ _)
      | (with_reducible exact spec_l09Inverse.mono _ _ _)
      | (with_reducible exact spec_l09Rows.mono _ _ _)
      | (with_reducible exact LeO.refl _)
      | (with_reducible exact LeO.none _)
      | (with_reducible refine LeO.ite ?_ ?_)
      | (with_reducible refine LeO.bind ?_ (fun _ => ?_))
      | exact ih0 _ _ _ _ _ _ _
      | exact ih1 _ _ _ _ _ _ _ _ _
      | exact ih2 _ _ _ _ _
      | exact ih3 _ _ _ _ _ _
      | exact ih4 _ _ _ _ _
      | exact ih5 _ _ _ _ _ _ _
      | exact ih6 _ _ _ _ _ _
      | exact ih7 _ _ _ _ _ _ _ _
      | exact ih8 _ _ _ _ _ _
      | exact ih9 _ _ _ _ _
      | exact spec_l09Inverse.mono _ _ _
      | exact spec_l09Rows.mono _ _ _
      | exact LeO.none _
      | refine LeO.ite ?_ ?_
      | refine LeO.bind ?_ (fun _ => ?_)
    · intro y0 y1 y2 y3 y4 y5
      unfold spec_l09Solve.l3
      repeat' first
      | (with_reducible exact ih0 _ _ _ _ _ _ _)
      | (with_reducible exact ih1 _ _ _ _ _ _ _ _ _)
      | (with_reducible exact ih2 _ _ _ _ _)
      | (with_reducible exact ih3 _ _ _ _ _ _)
      | (with_reducible exact ih4 _ _ _ _ _)
      | (with_reducible exact ih5 _ _ _ _ _ _ _)
      | (with_reducible exact ih6 _ _ _ _ _ _)
      | (with_reducible exact ih7 _ _ _ _ _ _ _ _)
      | (with_reducible exact ih8 _ _ _ _ _ _)
      | (with_reducible exact ih9 _ _ _ _ _)
      | (with_reducible exact spec_l09Inverse.mono _ _ _)
      | (with_reducible exact spec_l09Rows.mono _ _ _)
      | (with_reducible exact LeO.refl _)
      | (with_reducible exact LeO.none _)
      | (with_reducible refine LeO.ite ?_ ?_)
      | (with_reducible refine LeO.bind ?_ (fun _ => ?_))
      | exact ih0 _ _ _ _ _ _ _
      | exact ih1 _ _ _ _ _ _ _ _ _
      | exact ih2 _ _ _ _ _
      | exact ih3 _ _ _ _ _ _
      | exact ih4 _ _ _ _ _
      | exact ih5 _ _ _ _ _ _ _
      | exact ih6 _ _ _ _ _ _
      | exact ih7 _ _ _ _ _ _ _ _
      | exact ih8 _ _ _ _ _ _
      | exact ih9 _ _ _ _ _
      | exact spec_l09Inverse.mono _ _ _
      | exact spec_l09Rows.mono _ _ _
      | exact LeO.none _
      | refine LeO.ite ?_ ?_
      | refine LeO.bind ?_ (fun _ => ?_)
    · intro y0 y1 y2 y3 y4
      unfold spec_l09Solve.l7
      repeat' first
      | (with_reducible exact ih0 _ _ _ _ _ _ _)
      | (with_reducible exact ih1 _ _ _ _ _ _ _ _ _)
      | (with_reducible exact ih2 _ _ _ _ _)
      | (with_reducible exact ih3 _ _ _ _ _ _)
      | (with_reducible exact ih4 _ _ _ _ _)
      | (with_reducible exact ih5 _ _ _ _ _ _ _)
      | (with_reducible exact ih6 _ _ _ _ _ _)
      | (with_reducible exact ih7 _ _ _ _ _ _ _ _)
      | (with_reducible exact ih8 _ _ _ _ _ _)
      | (with_reducible exact ih9 _ _ _ _ _)
      | (with_reducible exact spec_l09Inverse.mono _ _ _)
      | (with_reducible exact spec_l09Rows.mono _ _ _)
      | (with_reducible exact LeO.refl _)
      | (with_reducible exact LeO.none _)
      | (with_reducible refine LeO.ite ?_ ?_)
      | (with_reducible refine LeO.bind ?_ (fun _ => ?_))
      | exact ih0 _ _ _ _ _ _ _
      | exact ih1 _ _ _ _ _ _ _ _ _
      | exact ih2 _ _ _ _ _
      | exact ih3 _ _ _ _ _ _
      | exact ih4 _ _ _ _ _
      | exact ih5 _ _ _ _ _ _ _
      | exact ih6 _ _ _ _ _ _
      | exact ih7 _ _ _ _ _ _ _ _
      | exact ih8 _ _ _ _ _ _
      | exact ih9 _ _ _ _ _
      | exact spec_l09Inverse.mono _ _ _
      | exact spec_l09Rows.mono _ _ _
      | exact LeO.none _
      | refine LeO.ite ?_ ?_
      | refine LeO.bind ?_ (fun _ => ?_)
theorem spec_l09Solve.mono : ∀ a0 a1 a2 a3 k, LeO (spec_l09Solve.f k a0 a1 a2 a3) (spec_l09Solve.f (k + 1) a0 a1 a2 a3) := by
  intro a0 a1 a2 a3 k
  obtain ⟨ih0, ih1, ih2, ih3, ih4, ih5, ih6, ih7, ih8, ih9⟩ := spec_l09Solve.mono_l k
  unfold spec_l09Solve.f
  repeat' first
      | (with_reducible exact ih0 _ _ _ _ _ _ _)
      | (with_reducible exact ih1 _ _ _ _ _ _ _ _ _)
      | (with_reducible exact ih2 _ _ _ _ _)
      | (with_reducible exact ih3 _ _ _ _ _ _)
      | (with_reducible exact ih4 _ _ _ _ _)
      | (with_reducible exact ih5 _ _ _ _ _ _ _)
      | (with_reducible exact ih6 _ _ _ _ _ _)
      | (with_reducible exact ih7 _ _ _ _ _ _ _ _)
      | (with_reducible exact ih8 _ _ _ _ _ _)
      | (with_reducible exact ih9 _ _ _ _ _)
      | (with_reducible exact spec_l09Inverse.mono _ _ _)
      | (with_reducible exact spec_l09Rows.mono _ _ _)
      | (with_reducible exact LeO.refl _)
      | (with_reducible exact LeO.none _)
      | (with_reducible refine LeO.ite ?_ ?_)
      | (with_reducible refine LeO.bind ?_ (fun _ => ?_))
      | exact ih0 _ _ _ _ _ _ _
      | exact ih1 _ _ _ _ _ _ _ _ _
      | exact ih2 _ _ _ _ _
      | exact ih3 _ _ _ _ _ _
      | exact ih4 _ _ _ _ _
      | exact ih5 _ _ _ _ _ _ _
      | exact ih6 _ _ _ _ _ _
      | exact ih7 _ _ _ _ _ _ _ _
      | exact ih8 _ _ _ _ _ _
      | exact ih9 _ _ _ _ _
      | exact spec_l09Inverse.mono _ _ _
      | exact spec_l09Rows.mono _ _ _
      | exact LeO.none _
      | refine LeO.ite ?_ ?_
      | refine LeO.bind ?_ (fun _ => ?_)
def spec_l09Solve.T1 : Bool × List (List Nat × List Nat) := (true, [([], []), ([0], [0]), ([], []), ([2], [2]), ([3], [3]), ([4], [4]), ([], []), ([6], [6]), ([1, 1, 0, 1], [1]), ([5, 8, 0, 1, 2, 3, 4, 5, 8], [5]), ([7, 9, 0, 1, 2, 3, 4, 5, 6, 7, 8, 9], [7])])
def spec_l09Solve.B1 : List Nat := [0, 1, 0, 4, 12, 28, 0, 64, 3, 319, 1023]
theorem spec_l09Solve.tab1 : rtab .any (opsOf Try.f41 1) = spec_l09Solve.T1 := by kernel_rfl
theorem spec_l09Solve.bits1 : waitsOk spec_l09Solve.T1.2 spec_l09Solve.B1 = true := by kernel_rfl
def spec_l09Solve.T42 : Bool × List (List Nat × List Nat) := (true, [([], []), ([], []), ([], []), ([], []), ([], []), ([3, 4], [3, 4]), ([5], [5]), ([], []), ([], []), ([], []), ([8, 9], [8, 9]), ([10], [10]), ([], []), ([11, 12], [11, 12]), ([13], [13]), ([7, 14], [7, 14]), ([6, 15], [6, 15]), ([2, 16], [2, 16]), ([0, 1, 0, 1, 2, 3, 4, 5, 6, 7, 8, 9, 10, 11, 12, 13, 14, 15, 16, 17], [0, 1]), ([18, 17, 17, 0, 1, 2, 3, 4, 5, 6, 7, 8, 9, 10, 11, 12, 13, 14, 15, 16, 17], [17, 18])])
def spec_l09Solve.B42 : List Nat := [0, 0, 0, 0, 0, 24, 56, 0, 0, 0, 768, 1792, 0, 7936, 16128, 32640, 65528, 131068, 262143, 524287]
theorem spec_l09Solve.tab42 : rtab .any (opsOf Try.f41 42) = spec_l09Solve.T42 := by kernel_rfl
theorem spec_l09Solve.bits42 : waitsOk spec_l09Solve.T42.2 spec_l09Solve.B42 = true := by kernel_rfl
set_option maxHeartbeats 8000000 in
set_option maxRecDepth 100000 in
theorem spec_l09Solve.calls (k : Nat) (a0_0 : Int) (A0_1 : Option Addr) (c0_1 : Nat) (l0_1 : List (List Int)) (a1 : Int) (a2 : Int) (r1 : List (List Int)) (r2 : Int) (w : World) (hr0_1 : Kd.C (Kd.slice 2 (Kd.int .i64)) w A0_1 l0_1.length l0_1) (hc0_1 : l0_1.length ≤ c0_1) (h : spec_l09Solve.f k a0_0 l0_1 a1 a2 = some (r1, r2)) :
    Calls Try.prog 41 #[.agg #[.int .i64 a0_0, .slice A0_1 l0_1.length c0_1], .int .i64 a1, .int .i64 a2] w fun e w' => ∃ v0_ : Value, e = .returned (.tuple #[v0_, .int .i64 r2]) ∧ Kd.S (Kd.slice 2 (Kd.int .i64)) 34 w' w.heap.size (fun _ => True) v0_ r1 ∧ Below w.heap.size w w' := by
  have hu28 := Try.underlying28
  have HR0_1 := Aside0.mk hr0_1
  have HC0_1 := Aside0.mk hc0_1
  clear hr0_1 hc0_1
  have HB := Aside0.mk (Below.refl w.heap.size w)
  have H : ((spec_l09Rows.f k a0_0 l0_1).bind fun t102 => (if a1 = 0 then (none) else (spec_l09Solve.l0 k a1 a2 t102 (wrap64 (2 * (l0_1.length : Int))) ((1 : Int) % a1) (([] : List (List Int))) 0))) = some (r1, r2) := h
  clear h
  replace H := Option.bind_eq_some_iff.mp H
  obtain ⟨t102, A40, H⟩ := H
  replace H : (if a1 = 0 then (none) else (spec_l09Solve.l0 k a1 a2 t102 (wrap64 (2 * (l0_1.length : Int))) ((1 : Int) % a1) (([] : List (List Int))) 0)) = some (r1, r2) := H
  have A4 := Aside0.mk A40
  clear A40
  by_cases c5 : a1 = 0
  case neg =>
    rw [if_neg c5] at H
    have c5b0 : (a1 == 0) = false := beq_eq_false_iff_ne.mpr c5
    have c5b1 : (a1 != 0) = true := bne_iff_ne.mpr c5
    obtain ⟨y105, hy105⟩ : ∃ y_ : List (List Int), y_ = (([] : List (List Int))) := ⟨_, rfl⟩
    replace H : (spec_l09Solve.l0 k a1 a2 t102 (wrap64 (2 * (l0_1.length : Int))) ((1 : Int) % a1) y105 0) = some (r1, r2) := by first | (rw [hy105]; with_reducible exact H) | (have H2_ := (Option.bind_some _ _).symm.trans H; rw [hy105]; with_reducible exact H2_) | (have H2_ := (Option.bind_some _ _).symm.trans H; with_reducible exact H2_) | with_reducible exact H | (rw [hy105]; exact H) | exact H
    have Ny105 := Aside0.mk hy105
    clear hy105
    have H' := Aside0.mk H
    clear H
    go_enter Try.func41, Try.ntmps41
    try go_wp2_with (first | ((with_reducible refine gate_dst (N := 3) rfl ?_); refine box_event ?hg (N := 3) ?hd (cs := #[.int .i64 a0_0, .slice A0_1 l0_1.length c0_1]) (t := 28) ?hr ?_; (case hd => rfl); (case hg => rfl); (case hr => first | (go_simp; done) | (go_simp; rfl)); intro gb101 hg w6 hbox hb; have n0_ := Aside0.mk (below_step bl hb); have n1_ := Aside0.mk (hbox); have n2_ := Aside0.mk ((by rw [hg]; exact (below_size bl) : w.heap.size ≤ gb101)); have n3_ := Aside0.mk ((by rw [hg]; exact (below_size bl) : w.heap.size ≤ gb101)); clear HB; have HB := n0_; have BK101 := n1_; have GW101 := n2_; have GE101 := n3_; clear n0_ n1_ n2_ n3_; clear hb hbox hg))
    have n0_ := Aside0.mk (blk_drew BK101.out)
    have n1_ := Aside0.mk (below_drew1 HB.out)
    clear BK101
    clear HB
    have BK101 := n0_
    have HB := n1_
    clear n0_ n1_
    refine start_ (n := 11) (S := fun w' => w'.cell? ⟨gb101, 0, none⟩ = some (.int .i64 a0_0) ∧ w'.cell? ⟨gb101, 1, none⟩ = some (.slice A0_1 l0_1.length c0_1)) (ds := []) #[false, false, false, false, false, false, false, false, false, false, false] (by kernel_rfl) rfl rfl ⟨(blk_cell BK101.out 0).trans rfl, (blk_cell BK101.out 1).trans rfl⟩ (fun hHeld => ?_); refine with_tabW spec_l09Solve.tab1 spec_l09Solve.bits1 (fun HT_ HW_ => ?_)
    generalize w6.drew = w7 at BK101 HB hHeld ⊢
    refine pure_ (i := 2) (N := some 29) (v := ?_) (a' := ?_) #[false, false, true, false, false, false, false, false, false, false, false] rfl rfl (any_of HT_.out (by kernel_rfl)) (fun _ _ _ h => h) (Or.inl ⟨by rfl, ?_⟩) ?_ ?_
    rotate_left; · intro w'; go_simp; with_reducible rfl
    rotate_left; · simp only [Act.put, zI, zZ, zS, i64_w, i32_w]; rfl
    refine pure_ (i := 6) (N := some 33) (v := ?_) (a' := ?_) #[false, false, true, false, false, false, true, false, false, false, false] rfl rfl (any_of HT_.out (by kernel_rfl)) (fun _ _ _ h => h) (Or.inl ⟨by rfl, ?_⟩) ?_ ?_
    rotate_left; · intro w'; go_simp; with_reducible rfl
    rotate_left; · simp only [Act.put, zI, zZ, zS, i64_w, i32_w]; rfl
    refine pure_ (i := 7) (N := some 34) (v := ?_) (a' := ?_) #[false, false, true, false, false, false, true, true, false, false, false] rfl rfl (any_of HT_.out (by kernel_rfl)) (fun _ _ _ h => h) (Or.inl ⟨by rfl, ?_⟩) ?_ ?_
    rotate_left; · intro w'; go_simp; with_reducible rfl
    rotate_left; · simp only [Act.put, zI, zZ, zS, i64_w, i32_w]; rfl
    refine take_ (i := 0) (N := some 27) (v := ?_) (a' := ?_) #[true, false, true, false, false, false, true, true, false, false, false] rfl rfl (take_ofW HT_.out HW_.out (by kernel_rfl)) (fun _ _ _ h => h) (Or.inl ⟨by rfl, ?_⟩) hHeld ?_ ?_
    rotate_left; · rintro w' ⟨s0, s1⟩; go_simp; with_reducible rfl
    rotate_left; · simp only [Act.put, zI, zZ, zS, i64_w, i32_w]; rfl
    refine take_ (i := 3) (N := some 30) (v := ?_) (a' := ?_) #[true, false, true, true, false, false, true, true, false, false, false] rfl rfl (take_ofW HT_.out HW_.out (by kernel_rfl)) (fun _ _ _ h => h) (Or.inl ⟨by rfl, ?_⟩) hHeld ?_ ?_
    rotate_left; · rintro w' ⟨s0, s1⟩; go_simp; with_reducible rfl
    rotate_left; · simp only [Act.put, zI, zZ, zS, i64_w, i32_w]; rfl
    refine pure_ (i := 4) (N := some 31) (v := ?_) (a' := ?_) #[true, false, true, true, true, false, true, true, false, false, false] rfl rfl (any_of HT_.out (by kernel_rfl)) (fun _ _ _ h => h) (Or.inl ⟨by rfl, ?_⟩) ?_ ?_
    rotate_left; · intro w'; go_simp; with_reducible rfl
    rotate_left; · simp only [Act.put, zI, zZ, zS, i64_w, i32_w]; rfl
    refine pure_ (i := 5) (N := some 32) (v := ?_) (a' := ?_) #[true, false, true, true, true, true, true, true, false, false, false] rfl rfl (any_of HT_.out (by kernel_rfl)) (fun _ _ _ h => h) (Or.inl ⟨by rfl, ?_⟩) ?_ ?_
    rotate_left; · intro w'; go_simp; with_reducible rfl
    rotate_left; · simp only [Act.put, zI, zZ, zS, i64_w, i32_w]; rfl
    refine one_ (i := 1) (N := some 28) #[true, true, true, true, true, true, true, true, false, false, false] rfl rfl (one_of HT_.out (by kernel_rfl)) (by decide) (fun K hK => ?_)
    refine goes_ Try.func81 (by kernel_rfl) rfl #[.agg #[.int .i64 a0_0, .slice A0_1 l0_1.length c0_1]] (by rfl) rfl rfl gm ?_
    with_reducible refine (spec_l09Rows.calls k a0_0 _ _ l0_1 t102 _ ?side1 ?side2 A4.out).mono ?_
    (case side1 => repeat (first | exact (Kd.C_below HR0_1.out HB.out) | (with_reducible refine Kd.C_alloc ?_ _) | (with_reducible refine Kd.C_drewN ?_ _) | (with_reducible refine Kd.C_drew ?_)))
    (case side2 => exact HC0_1.out)
    rintro e w8 ⟨v103, rfl, ho0, hb⟩
    refine ⟨_, rfl, ?_⟩
    have n0_ := Aside0.mk (Kd.S_lower ho0 (below_size bl))
    have n1_ := Aside0.mk (blk_below (g := gb101) (o := .cells #[.int .i64 a0_0, .slice A0_1 l0_1.length c0_1] 28 (0, 0)) bk hb)
    have n2_ := Aside0.mk (below_step bl hb)
    clear BK101
    clear HB
    have HO104 := n0_
    have BK101 := n1_
    have HB := n2_
    clear n0_ n1_ n2_
    (try clear hb)
    (try clear hb2)
    (try clear hk)
    (try clear hi)
    (try clear ho0)
    refine hK.out _ _ ⟨(blk_cell BK101.out 0).trans rfl, (blk_cell BK101.out 1).trans rfl⟩ (fun hHeld => ?_)
    clear hK K
    refine norm_ (a' := ?_) ?_ ?_
    rotate_left; · show Act.put _ (some 28) _ = _; simp only [Act.put, zI, zZ, zS, i64_w, i32_w]; rfl
    refine pure_ (i := 8) (N := some 8) (v := ?_) (a' := ?_) #[true, true, true, true, true, true, true, true, true, false, false] rfl rfl (any_of HT_.out (by kernel_rfl)) (fun _ _ _ h => h) (Or.inl ⟨by rfl, ?_⟩) ?_ ?_
    rotate_left; · intro w'; go_simp; with_reducible rfl
    rotate_left; · simp only [Act.put, zI, zZ, zS, i64_w, i32_w]; rfl
    refine pure_ (i := 9) (N := some 9) (v := ?_) (a' := ?_) #[true, true, true, true, true, true, true, true, true, true, false] rfl rfl (any_of HT_.out (by kernel_rfl)) (fun _ _ _ h => h) (Or.inl ⟨by rfl, ?_⟩) ?_ ?_
    rotate_left; · intro w'; go_simp; with_reducible rfl
    rotate_left; · simp only [Act.put, zI, zZ, zS, i64_w, i32_w]; rfl
    refine pure_ (i := 10) (N := some 10) (v := ?_) (a' := ?_) #[true, true, true, true, true, true, true, true, true, true, true] rfl rfl (any_of HT_.out (by kernel_rfl)) (fun _ _ _ h => h) (Or.inl ⟨by rfl, ?_⟩) ?_ ?_
    rotate_left; · intro w'; go_simp; with_reducible rfl
    rotate_left; · simp only [Act.put, zI, zZ, zS, i64_w, i32_w]; rfl
    refine done_ (done_of HT_.out (by kernel_rfl)) ?_
    try go_wp2_with (first | ((with_reducible refine gate_dst (N := 35) rfl ?_); refine Kd.S_lit (Kd.slice 2 (Kd.int .i64)) _ 34 ?hg (N := 35) ?hd (xs := ([] : List (List Int))) (inner := []) (ok := fun _ => True) (okp := fun _ => True) ?hr ?hp (fun _ hk => hk) trivial (Below.refl _ _) (Nat.le_refl _) (by simp) ?_; (case hd => rfl); (case hg => rfl); (case hr => first | (go_simp; done) | (go_simp; rfl)); (case hp => exact (Reps.none _ _)); intro v106 w9 ho10 hb hg_ hnew_; clear hg_ hnew_; (first | rw [← Ny105.out] at ho10 | (simp only [Int.reduceToNat] at ho10; rw [← Ny105.out] at ho10)); have n0_ := Aside0.mk (Kd.S_elder' (by (with_reducible repeat (first | apply Kd.S_alloc | apply Kd.S_drewN | apply Kd.S_drew)); exact HO104.out) (Kd.S_base ho10) hb); have n1_ := Aside0.mk (Kd.S_lower (Kd.S_new' ho10 (Kd.S_lt (by (with_reducible repeat (first | apply Kd.S_alloc | apply Kd.S_drewN | apply Kd.S_drew)); exact HO104.out))) (below_size bl)); have n2_ := Aside0.mk (blk_below (g := gb101) (o := .cells #[.int .i64 a0_0, .slice A0_1 l0_1.length c0_1] 28 (0, 0)) bk hb); have n3_ := Aside0.mk (below_step bl hb); clear HO104; clear BK101; clear HB; have HO104 := n0_; have HO107 := n1_; have BK101 := n2_; have HB := n3_; clear n0_ n1_ n2_ n3_; clear hb ho10))
    go_loopg [11, 12] k (fun kq v11 v12 w' => ∃ (x8_1 : List (List Int)) (x11_1 : List (List Int)) (x12_1 : Int), v12 = .int .i64 x12_1 ∧ Aside0 (spec_l09Solve.l0 kq a1 a2 x8_1 (wrap64 (2 * (l0_1.length : Int))) ((1 : Int) % a1) x11_1 x12_1 = some (r1, r2)) ∧ Aside0 (kq ≤ k) ∧ Aside0 (Kd.S (Kd.slice 2 (Kd.int .i64)) 34 w' w.heap.size (fun k_ => some k_ ≠ (v11 : Value).ownBlock) v103 x8_1) ∧ Aside0 (Kd.S (Kd.slice 2 (Kd.int .i64)) 34 w' w.heap.size (fun k_ => some k_ ≠ (v103 : Value).ownBlock) v11 x11_1) ∧ Aside0 (w'.heap[gb101]? = some (.cells #[.int .i64 a0_0, (.slice A0_1 l0_1.length c0_1)] 28 (0, 0))) ∧ Aside0 (Below w.heap.size w w'))
    case atStart => exact ⟨(t102), (y105), (0), rs, H', ⟨Nat.le_refl _⟩, ⟨by (with_reducible repeat (first | apply Kd.S_alloc | apply Kd.S_drewN | apply Kd.S_drew)); exact Kd.S_mono HO104.out (fun _ hk => hk.2)⟩, ⟨by (with_reducible repeat (first | apply Kd.S_alloc | apply Kd.S_drewN | apply Kd.S_drew)); exact Kd.S_mono HO107.out (fun _ hk => hk.2)⟩, ⟨bk⟩, ⟨bl⟩⟩
    case round =>
      clear H'
      (try clear p2); (try clear c4); (try clear c5); (try clear c5b0); (try clear c5b1); (try clear p6); (try clear c8)
      obtain ⟨x8_1, x11_1, x12_1, rfl, HA, HK1, HO_8, HO_11, BK101, HB⟩ := hrel
      cases gk with
      | zero => exact absurd HA.out (by simp [spec_l09Solve.l0])
      | succ k1 =>
        have H := HA.out
        clear HA
        simp only [spec_l09Solve.l0] at H
        by_cases c11 : x12_1 < (wrap64 (2 * (l0_1.length : Int)))
        case neg =>
          rw [if_neg c11] at H
          have c11b0 : decide (x12_1 < (wrap64 (2 * (l0_1.length : Int)))) = false := decide_eq_false c11
          clear c11
          have H' := Aside0.mk H
          clear H
          go_wp2
          go_loopg [10, 15] k1 (fun kq v10 v15 w' => ∃ (x10_2 : Int) (x11_2 : List (List Int)) (x15_2 : Int), v10 = .int .i64 x10_2 ∧ v15 = .int .i64 x15_2 ∧ Aside0 (spec_l09Solve.l2 kq a1 (wrap64 (2 * (l0_1.length : Int))) x10_2 x11_2 x15_2 = some (r1, r2)) ∧ Aside0 (kq ≤ k1) ∧ Aside0 (Kd.S (Kd.slice 2 (Kd.int .i64)) 34 w' w.heap.size (fun _ => True) u11 x11_2) ∧ Aside0 (w'.heap[gb101]? = some (.cells #[.int .i64 a0_0, (.slice A0_1 l0_1.length c0_1)] 28 (0, 0))) ∧ Aside0 (Below w.heap.size w w'))
          case atStart => exact ⟨(((1 : Int) % a1)), (x11_1), (0), rs, rs, H', ⟨Nat.le_refl _⟩, ⟨by (with_reducible repeat (first | apply Kd.S_alloc | apply Kd.S_drewN | apply Kd.S_drew)); exact Kd.S_mono HO_11.out (fun _ hk => trivial)⟩, ⟨bk⟩, ⟨bl⟩⟩
          case round =>
            clear H'
            (try clear c1); (try clear p1); (try clear q1); (try clear hx1); (try clear c2); (try clear p2); (try clear q2); (try clear hx2); (try clear c3); (try clear p3); (try clear q3); (try clear hx3); (try clear hf3); (try clear c4); (try clear c5); (try clear c5b0); (try clear c5b1); (try clear p6); (try clear c8); (try clear c11); (try clear c11b0); (try clear p11); (try clear q11); (try clear hx11); (try clear c13); (try clear c13b0); (try clear c13b1); (try clear c14); (try clear c14b0); (try clear c14b1); (try clear c17); (try clear c17b0); (try clear c18); (try clear c18b0); (try clear c19); (try clear c19b0); (try clear c20); (try clear c20b0); (try clear c21); (try clear c21b0); (try clear c23); (try clear c23b0); (try clear p24); (try clear q24); (try clear hx24); (try clear hf24); (try clear c28); (try clear c28b0); (try clear c29); (try clear c29b0); (try clear c30); (try clear c30b0); (try clear c30b1); (try clear p31); (try clear q31); (try clear hx31); (try clear hf31); (try clear c33); (try clear c33b0); (try clear c34); (try clear c34b0); (try clear p35); (try clear q35); (try clear hx35); (try clear hf35); (try clear c36); (try clear c41); (try clear hx111_0); (try clear hx112_0); (try clear hx115_0); (try clear hx24_0); (try clear hx31_0); (try clear hx35_0); (try clear p111); (try clear p112); (try clear p115); (try clear p2); (try clear p24); (try clear p31); (try clear p35); (try clear p6); (try clear q111); (try clear q112); (try clear q115); (try clear q24); (try clear q31); (try clear q35)
            obtain ⟨x10_2, x11_2, x15_2, rfl, rfl, HA, HK2, HO_11, BK101, HB⟩ := hrel
            cases gk with
            | zero => exact absurd HA.out (by simp [spec_l09Solve.l2])
            | succ k2 =>
              have H := HA.out
              clear HA
              simp only [spec_l09Solve.l2] at H
              by_cases c43 : x15_2 < (wrap64 (2 * (l0_1.length : Int)))
              case neg =>
                rw [if_neg c43] at H
                have c43b0 : decide (x15_2 < (wrap64 (2 * (l0_1.length : Int)))) = false := decide_eq_false c43
                clear c43
                obtain ⟨y147, hy147⟩ : ∃ y_ : List (List Int), y_ = (([] : List (List Int))) := ⟨_, rfl⟩
                replace H : (spec_l09Solve.l7 k2 (wrap64 (2 * (l0_1.length : Int))) x10_2 x11_2 y147 0) = some (r1, r2) := by first | (rw [hy147]; with_reducible exact H) | (have H2_ := (Option.bind_some _ _).symm.trans H; rw [hy147]; with_reducible exact H2_) | (have H2_ := (Option.bind_some _ _).symm.trans H; with_reducible exact H2_) | with_reducible exact H | (rw [hy147]; exact H) | exact H
                have Ny147 := Aside0.mk hy147
                clear hy147
                have H' := Aside0.mk H
                clear H
                go_wp2_with (first | ((with_reducible refine gate_dst (N := 216) rfl ?_); refine Kd.S_lit (Kd.slice 2 (Kd.int .i64)) _ 34 ?hg (N := 216) ?hd (xs := ([] : List (List Int))) (inner := []) (ok := fun _ => True) (okp := fun _ => True) ?hr ?hp (fun _ hk => hk) trivial (Below.refl _ _) (Nat.le_refl _) (by simp) ?_; (case hd => rfl); (case hg => rfl); (case hr => first | (go_simp; done) | (go_simp; rfl)); (case hp => exact (Reps.none _ _)); intro v148 w100 ho101 hb hg_ hnew_; clear hg_ hnew_; (first | rw [← Ny147.out] at ho101 | (simp only [Int.reduceToNat] at ho101; rw [← Ny147.out] at ho101)); have n0_ := Aside0.mk (Kd.S_elder' (by (with_reducible repeat (first | apply Kd.S_alloc | apply Kd.S_drewN | apply Kd.S_drew)); exact HO_11.out) (Kd.S_base ho101) hb); have n1_ := Aside0.mk (Kd.S_lower (Kd.S_new' ho101 (Kd.S_lt (by (with_reducible repeat (first | apply Kd.S_alloc | apply Kd.S_drewN | apply Kd.S_drew)); exact HO_11.out))) (below_size bl)); have n2_ := Aside0.mk (blk_below (g := gb101) (o := .cells #[.int .i64 a0_0, .slice A0_1 l0_1.length c0_1] 28 (0, 0)) bk hb); have n3_ := Aside0.mk (below_step bl hb); clear HO_11; clear BK101; clear HB; have HO_11 := n0_; have HO149 := n1_; have BK101 := n2_; have HB := n3_; clear n0_ n1_ n2_ n3_; clear hb ho101))
                go_loopg [25, 26] k2 (fun kq v25 v26 w' => ∃ (x25_3 : List (List Int)) (x26_3 : Int), v26 = .int .i64 x26_3 ∧ Aside0 (spec_l09Solve.l7 kq (wrap64 (2 * (l0_1.length : Int))) x10_2 x11_2 x25_3 x26_3 = some (r1, r2)) ∧ Aside0 (kq ≤ k2) ∧ Aside0 (Kd.S (Kd.slice 2 (Kd.int .i64)) 34 w' w.heap.size (fun k_ => some k_ ≠ (v25 : Value).ownBlock) u11 x11_2) ∧ Aside0 (Kd.S (Kd.slice 2 (Kd.int .i64)) 34 w' w.heap.size (fun k_ => some k_ ≠ (u11 : Value).ownBlock) v25 x25_3) ∧ Aside0 (w'.heap[gb101]? = some (.cells #[.int .i64 a0_0, (.slice A0_1 l0_1.length c0_1)] 28 (0, 0))) ∧ Aside0 (Below w.heap.size w w'))
                case atStart => exact ⟨(y147), (0), rs, H', ⟨Nat.le_refl _⟩, ⟨by (with_reducible repeat (first | apply Kd.S_alloc | apply Kd.S_drewN | apply Kd.S_drew)); exact Kd.S_mono HO_11.out (fun _ hk => hk.2)⟩, ⟨by (with_reducible repeat (first | apply Kd.S_alloc | apply Kd.S_drewN | apply Kd.S_drew)); exact Kd.S_mono HO149.out (fun _ hk => hk.2)⟩, ⟨bk⟩, ⟨bl⟩⟩
                case round =>
                  clear H'
                  (try clear c1); (try clear p1); (try clear q1); (try clear hx1); (try clear c2); (try clear p2); (try clear q2); (try clear hx2); (try clear c3); (try clear p3); (try clear q3); (try clear hx3); (try clear hf3); (try clear c4); (try clear c5); (try clear c6); (try clear p6); (try clear q6); (try clear hx6); (try clear hf6); (try clear c7); (try clear p7); (try clear q7); (try clear hx7); (try clear hf7); (try clear c8); (try clear c9); (try clear p9); (try clear q9); (try clear hx9); (try clear hf9); (try clear p11); (try clear q11); (try clear hx11); (try clear p12); (try clear q12); (try clear hx12); (try clear c13); (try clear p13); (try clear q13); (try clear hx13); (try clear c14); (try clear c14b0); (try clear c14b1); (try clear p14); (try clear q14); (try clear hx14); (try clear c17); (try clear c17b0); (try clear c18); (try clear c18b0); (try clear c19); (try clear c19b0); (try clear c20); (try clear c20b0); (try clear c21); (try clear c21b0); (try clear c23); (try clear c23b0); (try clear p24); (try clear q24); (try clear hx24); (try clear hf24); (try clear c28); (try clear c28b0); (try clear c29); (try clear c29b0); (try clear c30); (try clear c30b0); (try clear c30b1); (try clear p31); (try clear q31); (try clear hx31); (try clear hf31); (try clear c33); (try clear c33b0); (try clear c34); (try clear c34b0); (try clear p35); (try clear q35); (try clear hx35); (try clear hf35); (try clear c36); (try clear c41); (try clear c43); (try clear c43b0); (try clear c45); (try clear c45b0); (try clear c46); (try clear c46b0); (try clear c47); (try clear c47b0); (try clear c48); (try clear c48b0); (try clear c49); (try clear c49b0); (try clear c50); (try clear c50b0); (try clear c50b1); (try clear c53); (try clear c53b0); (try clear c53b1); (try clear c55); (try clear c55b0); (try clear c55b1); (try clear c56); (try clear c56b0); (try clear c57); (try clear c57b0); (try clear c58); (try clear c58b0); (try clear c59); (try clear c59b0); (try clear c60); (try clear p60); (try clear q60); (try clear hx60); (try clear hf60); (try clear p64); (try clear hx64); (try clear hf64); (try clear c66); (try clear c66b0); (try clear c67); (try clear c67b0); (try clear c68); (try clear c68b0); (try clear c69); (try clear c69b0); (try clear c69b1); (try clear c72); (try clear c72b0); (try clear c73); (try clear c73b0); (try clear c74); (try clear c74b0); (try clear c75); (try clear c75b0); (try clear c76); (try clear c76b0); (try clear c77); (try clear c77b0); (try clear c77b1); (try clear p78); (try clear q78); (try clear hx78); (try clear hf78); (try clear c79); (try clear q79); (try clear c81); (try clear c81b0); (try clear c82); (try clear c82b0); (try clear c83); (try clear c83b0); (try clear c84); (try clear c84b0); (try clear c85); (try clear c85b0); (try clear c86); (try clear c86b0); (try clear c87); (try clear c87b0); (try clear c87b1); (try clear c88); (try clear c88b0); (try clear c89); (try clear c89b0); (try clear c90); (try clear c90b0); (try clear c91); (try clear c91b0); (try clear c92); (try clear c92b0); (try clear c93); (try clear c93b0); (try clear c94); (try clear c94b0); (try clear p96); (try clear q96); (try clear hx96); (try clear hf96); (try clear c98); (try clear p98); (try clear q98); (try clear hx111_0); (try clear hx112_0); (try clear hx115_0); (try clear hx121_0); (try clear hx122_0); (try clear hx123_0); (try clear hx124_0); (try clear hx127_0); (try clear hx128_0); (try clear hx129_0); (try clear hx130_0); (try clear hx132_0); (try clear hx133_0); (try clear hx137_0); (try clear hx138_0); (try clear hx139_0); (try clear hx140_0); (try clear hx141_0); (try clear hx142_0); (try clear hx24_0); (try clear hx31_0); (try clear hx35_0); (try clear hx60_0); (try clear hx64_0); (try clear hx78_0); (try clear hx96_0); (try clear p1); (try clear p11); (try clear p111); (try clear p112); (try clear p115); (try clear p12); (try clear p121); (try clear p122); (try clear p123); (try clear p124); (try clear p127); (try clear p128); (try clear p129); (try clear p13); (try clear p130); (try clear p132); (try clear p133); (try clear p137); (try clear p138); (try clear p139); (try clear p140); (try clear p141); (try clear p142); (try clear p2); (try clear p24); (try clear p3); (try clear p31); (try clear p35); (try clear p6); (try clear p60); (try clear p64); (try clear p7); (try clear p78); (try clear p96); (try clear q1); (try clear q11); (try clear q111); (try clear q112); (try clear q115); (try clear q12); (try clear q121); (try clear q122); (try clear q123); (try clear q124); (try clear q127); (try clear q128); (try clear q129); (try clear q13); (try clear q130); (try clear q132); (try clear q133); (try clear q137); (try clear q138); (try clear q139); (try clear q140); (try clear q141); (try clear q142); (try clear q2); (try clear q24); (try clear q3); (try clear q31); (try clear q35); (try clear q6); (try clear q60); (try clear q7); (try clear q78); (try clear q79); (try clear q96)
                  obtain ⟨x25_3, x26_3, rfl, HA, HK3, HO_11, HO_25, BK101, HB⟩ := hrel
                  cases gk with
                  | zero => exact absurd HA.out (by simp [spec_l09Solve.l7])
                  | succ k3 =>
                    have H := HA.out
                    clear HA
                    simp only [spec_l09Solve.l7] at H
                    by_cases c102 : x26_3 < (wrap64 (2 * (l0_1.length : Int)))
                    case neg =>
                      rw [if_neg c102] at H
                      have c102b0 : decide (x26_3 < (wrap64 (2 * (l0_1.length : Int)))) = false := decide_eq_false c102
                      clear c102
                      simp only [Option.some.injEq, Prod.mk.injEq] at H
                      obtain ⟨rfl, rfl⟩ := H
                      go_wp2
                      go_ret2
                      exact ⟨_, by first | rfl | (simp [errW_none, errW_some] <;> rfl) | (simp [*, errW_none, errW_some] <;> rfl), by (with_reducible repeat (first | apply Kd.S_alloc | apply Kd.S_drewN | apply Kd.S_drew)); exact Kd.S_mono HO_25.out (fun _ hk => trivial), bl⟩
                    rw [if_pos c102] at H
                    have c102b0 : decide (x26_3 < (wrap64 (2 * (l0_1.length : Int)))) = true := decide_eq_true c102
                    clear c102
                    by_cases c103 : 0 ≤ x26_3
                    case neg => rw [if_neg c103] at H; exact absurd H (by simp)
                    rw [if_pos c103] at H
                    have c103b0 : decide (0 ≤ x26_3) = true := decide_eq_true c103
                    clear c103
                    by_cases c104 : x26_3 < (x11_2.length : Int)
                    case neg => rw [if_neg c104] at H; exact absurd H (by simp)
                    rw [if_pos c104] at H
                    have c104b0 : decide (x26_3 < (x11_2.length : Int)) = true := decide_eq_true c104
                    clear c104
                    obtain ⟨ji105, hji105⟩ : ∃ j_ : Int, (wrap64 (2 * (l0_1.length : Int))) = j_ := ⟨_, rfl⟩
                    replace H : (if 0 ≤ (ji105) then (if (ji105) ≤ ((rd_L1 x11_2 x26_3).length : Int) then ((spec_l01Own.f ((rd_L1 x11_2 x26_3).drop ((ji105) : Int).toNat)).bind fun t155 => (if x25_3.length < 5864062014805 then (spec_l09Solve.l7 k3 (ji105) x10_2 x11_2 (x25_3 ++ [t155]) (wrap64 (x26_3 + 1))) else (none))) else (none)) else (none)) = some (r1, r2) := by first | (rw [hji105] at H; exact H) | (simp only [hji105] at H ⊢; exact H)
                    (try rw [hji105] at c11b0)
                    (try rw [hji105] at c43b0)
                    (try rw [hji105] at c102b0)
                    have hji105w : (IntKind.i64.wrap (2 * (l0_1.length : Int))) = ji105 := (i64_w _).trans hji105
                    by_cases c106 : 0 ≤ (ji105)
                    case neg => rw [if_neg c106] at H; exact absurd H (by simp)
                    rw [if_pos c106] at H
                    have c106b0 := eq_true c106
                    have c106b1 : decide (0 ≤ (ji105)) = true := decide_eq_true c106
                    clear c106
                    by_cases c107 : (ji105) ≤ ((rd_L1 x11_2 x26_3).length : Int)
                    case neg => rw [if_neg c107] at H; exact absurd H (by simp)
                    rw [if_pos c107] at H
                    have c107b0 := eq_true c107
                    have c107b1 : decide ((ji105) ≤ ((rd_L1 x11_2 x26_3).length : Int)) = true := decide_eq_true c107
                    clear c107
                    obtain ⟨y151, hy151⟩ : ∃ y_ : List Int, y_ = ((rd_L1 x11_2 x26_3).drop ((ji105) : Int).toNat) := ⟨_, rfl⟩
                    replace H : ((spec_l01Own.f y151).bind fun t155 => (if x25_3.length < 5864062014805 then (spec_l09Solve.l7 k3 (ji105) x10_2 x11_2 (x25_3 ++ [t155]) (wrap64 (x26_3 + 1))) else (none))) = some (r1, r2) := by first | (rw [hy151]; with_reducible exact H) | (have H2_ := (Option.bind_some _ _).symm.trans H; rw [hy151]; with_reducible exact H2_) | (have H2_ := (Option.bind_some _ _).symm.trans H; with_reducible exact H2_) | with_reducible exact H | (rw [hy151]; exact H) | exact H
                    have Ny151 := Aside0.mk hy151
                    clear hy151
                    replace H := Option.bind_eq_some_iff.mp H
                    obtain ⟨t155, A1080, H⟩ := H
                    replace H : (if x25_3.length < 5864062014805 then (spec_l09Solve.l7 k3 (ji105) x10_2 x11_2 (x25_3 ++ [t155]) (wrap64 (x26_3 + 1))) else (none)) = some (r1, r2) := H
                    have A108 := Aside0.mk A1080
                    clear A1080
                    by_cases c109 : x25_3.length < 5864062014805
                    case neg => rw [if_neg c109] at H; exact absurd H (by simp)
                    rw [if_pos c109] at H
                    have LMc109 := Aside0.mk c109
                    clear c109
                    obtain ⟨y158, hy158⟩ : ∃ y_ : List (List Int), y_ = (x25_3 ++ [t155]) := ⟨_, rfl⟩
                    replace H : (spec_l09Solve.l7 k3 (ji105) x10_2 x11_2 y158 (wrap64 (x26_3 + 1))) = some (r1, r2) := by first | (rw [hy158]; with_reducible exact H) | (have H2_ := (Option.bind_some _ _).symm.trans H; rw [hy158]; with_reducible exact H2_) | (have H2_ := (Option.bind_some _ _).symm.trans H; with_reducible exact H2_) | with_reducible exact H | (rw [hy158]; exact H) | exact H
                    have Ny158 := Aside0.mk hy158
                    clear hy158
                    have H' := Aside0.mk H
                    clear H
                    obtain ⟨Ao110, co110, eo110⟩ := Kd.S_slice HO_11.out
                    subst eo110
                    have p150 : 0 ≤ (x26_3 : Int) := oD
                    have q150 : x26_3 < (x11_2.length : Int) := oD
                    obtain ⟨ad150, A150_0, c150_0, e150, hx150_0, hl150_0, hi150_0⟩ := at_L1 (Kd.S_reads' HO_11.out).2.2 x26_3 p150 q150
                    cases e150
                    obtain ⟨ce150, hce150, hMe150, hcc150⟩ := Kd.S_get HO_11.out [] x26_3 p150 (by first | exact q150 | exact oD | (have e_ := (Kd.S_reads' HO_11.out).1; omega))
                    obtain ⟨ve150_0, rfl, ge150_0⟩ := hMe150
                    have hv150_0 := hcc150 0 _ rfl
                    rw [Nat.add_zero, show ((Kd.slice 2 (Kd.int .i64))).sz = 1 from rfl, Nat.mul_one] at hv150_0
                    replace hv150_0 := Option.some.inj (hv150_0.symm.trans hx150_0)
                    rw [hv150_0] at ge150_0
                    have HL150_0 := Aside0.mk (show Kd.R (Kd.int .i64) 2 _ _ _ _ (rd_L1 x11_2 x26_3) from ge150_0)
                    clear hv150_0 ge150_0
                    have HX150_0 := Aside0.mk hx150_0
                    clear hcc150 hce150
                    have HR150_0 := Aside0.mk hi150_0
                    have HC150_0 := Aside0.mk hl150_0
                    clear hi150_0 hl150_0
                    replace p150 := eq_true p150
                    replace q150 := eq_true q150
                    have q111 : ((ji105) : Int) ≤ (((rd_L1 x11_2 x26_3).length : Int) : Int) := oD
                    obtain ⟨i0111, hi0111, _, hsz111, _⟩ := info_parts info2
                    have hroom111 : (rd_L1 x11_2 x26_3).length ≤ c150_0 := HC150_0.out
                    have hC111 : Kd.C (Kd.int .i64) _ A150_0 (rd_L1 x11_2 x26_3).length (rd_L1 x11_2 x26_3) := (by repeat (first | (with_reducible exact HR150_0.out) | (with_reducible refine Kd.C_alloc ?_ _) | (with_reducible refine Kd.C_drewN ?_ _) | (with_reducible refine Kd.C_drew ?_) | exact HR150_0.out))
                    have q0111 : (0 : Int) ≤ ((ji105) : Int) := oD
                    have hcut111 := cut_from (P := Try.prog) 34 2 .i64 Try.underlying34 hi0111 1 hsz111 A150_0 (rd_L1 x11_2 x26_3).length c150_0 (ji105) q0111 q111
                    have hr111 := Kd.C_drop (m := ((ji105) : Int).toNat) (c := c150_0) hC111 (by omega) hroom111
                    obtain ⟨A111, hA111⟩ : ∃ A1, A1 = (if c150_0 = ((ji105) : Int).toNat then A150_0 else (A150_0 : Option Addr).map (·.add (((ji105) : Int).toNat * 1))) := ⟨_, rfl⟩
                    obtain ⟨c111, hc111⟩ : ∃ c1, c1 = c150_0 - ((ji105) : Int).toNat := ⟨_, rfl⟩
                    have hy111 : y151.length = (rd_L1 x11_2 x26_3).length - ((ji105) : Int).toNat := (by rw [Ny151.out, List.length_drop] <;> omega)
                    rw [show (rd_L1 x11_2 x26_3).drop ((ji105) : Int).toNat = y151 from Ny151.out.symm] at hr111
                    replace hr111 : Kd.C (Kd.int .i64) _ A111 y151.length y151 := (by rw [hA111]; exact hr111)
                    rw [← hy111, ← hA111, ← hc111] at hcut111
                    have HR154 := Aside0.mk hr111
                    have HC154 := Aside0.mk (show y151.length ≤ c111 from by rw [hy111, hc111]; exact Nat.sub_le_sub_right hroom111 _)
                    clear hr111 hC111 hroom111 hi0111 hsz111 hc111
                    have KY111 := Aside0.mk hy111
                    have KA111 := Aside0.mk hA111
                    clear hy111 hA111
                    replace q111 := eq_true q111
                    go_wp2_with (first | ((with_reducible refine gate_callee (f := 84) rfl ?_); refine goesL_ (some 229) rfl rfl Try.func84 (by kernel_rfl) rfl #[.slice A111 y151.length c111] rfl gm ?_; (with_reducible refine (spec_l01Own.calls _ _ y151 t155 _ ?side1 ?side2 A108.out).mono ?_); (case side1 => repeat (first | exact (by repeat (first | (with_reducible exact HR154.out) | (with_reducible refine Kd.C_alloc ?_ _) | (with_reducible refine Kd.C_drewN ?_ _) | (with_reducible refine Kd.C_drew ?_) | exact HR154.out)) | (with_reducible refine Kd.C_alloc ?_ _) | (with_reducible refine Kd.C_drewN ?_ _) | (with_reducible refine Kd.C_drew ?_))); (case side2 => exact HC154.out); rintro e w112 ⟨v156, rfl, ho0, hb⟩; refine ⟨_, rfl, ?_⟩; have n0_ := Aside0.mk (Kd.S_elder' (by (with_reducible repeat (first | apply Kd.S_alloc | apply Kd.S_drewN | apply Kd.S_drew)); exact HO_11.out) (Kd.R_base ho0) hb); have n1_ := Aside0.mk (Kd.S_elder' (by (with_reducible repeat (first | apply Kd.S_alloc | apply Kd.S_drewN | apply Kd.S_drew)); exact HO_25.out) (Kd.R_base ho0) hb); have n2_ := Aside0.mk (Kd.R_elder' (by (with_reducible repeat (first | apply Kd.R_alloc | apply Kd.R_drewN | apply Kd.R_drew)); exact HL150_0.out) (Kd.R_base ho0) hb); have n3_ := Aside0.mk (Kd.R_lower (Kd.R_new' ho0 (Kd.R_lt (by (with_reducible repeat (first | apply Kd.R_alloc | apply Kd.R_drewN | apply Kd.R_drew)); exact HL150_0.out))) (below_size bl)); have n4_ := Aside0.mk (blk_below (g := gb101) (o := .cells #[.int .i64 a0_0, .slice A0_1 l0_1.length c0_1] 28 (0, 0)) bk hb); have n5_ := Aside0.mk (Kd.C_below (by repeat (first | (with_reducible exact HR150_0.out) | (with_reducible refine Kd.C_alloc ?_ _) | (with_reducible refine Kd.C_drewN ?_ _) | (with_reducible refine Kd.C_drew ?_) | exact HR150_0.out)) hb); have n6_ := Aside0.mk (pw_cell_below hb HX150_0.out); have n7_ := Aside0.mk (Kd.C_below (by repeat (first | (with_reducible exact HR154.out) | (with_reducible refine Kd.C_alloc ?_ _) | (with_reducible refine Kd.C_drewN ?_ _) | (with_reducible refine Kd.C_drew ?_) | exact HR154.out)) hb); have n8_ := Aside0.mk (below_step bl hb); clear HO_11; clear HO_25; clear HL150_0; clear BK101; clear HR150_0; clear HX150_0; clear HR154; clear HB; have HO_11 := n0_; have HO_25 := n1_; have HL150_0 := n2_; have HO157 := n3_; have BK101 := n4_; have HR150_0 := n5_; have HX150_0 := n6_; have HR154 := n7_; have HB := n8_; clear n0_ n1_ n2_ n3_ n4_ n5_ n6_ n7_ n8_; (try clear hb); (try clear hb2); (try clear hk); (try clear hi); (try clear ho0); obtain ⟨Ao114, co114, eo114⟩ := Kd.R_slice HO157.out; subst eo114) | ((with_reducible refine gate_builtin (b := .append) (xs := #[.tmp 222, .tmp 230]) rfl ?_); at_builtin; refine Kd.S_append (Kd.slice 2 (Kd.int .i64)) (w0 := w) w.heap.size rfl (.tmp 222) (.tmp 230) 22 34 (.slice none 0 0) 24 rfl Try.underlying22 info34 rfl (by decide) (by omega) u25 x25_3 t155 [.slice Ao114 t155.length co114] (fun k_ => some k_ ≠ (.slice (some ad150) x11_2.length co110 : Value).ownBlock) (fun k_ => some k_ = (.slice Ao114 t155.length co114 : Value).ownBlock) rfl rfl ?aP (fun k_ hk_ => ((Kd.R_mono (ok' := fun k_ => ((fun k_ => some k_ ≠ (.slice (some ad150) x11_2.length co110 : Value).ownBlock)) k_ ∧ some k_ ≠ (u25 : Value).ownBlock) (Kd.R_apart' (Kd.R_apart' (HO157.out) (Kd.S_typed HO_11.out) (by decide)) (Kd.S_typed HO_25.out) (by decide)) (fun k_ hk => ⟨hk.1.2, hk.2⟩))).1 k_ hk_.symm) ?aF ?aO ?aB ?aS ?aL ?_; (case aP => exact Kd.M_row (Kd.R_mono (Kd.R_tight rfl (Kd.R_mono (ok' := fun k_ => ((fun k_ => some k_ ≠ (.slice (some ad150) x11_2.length co110 : Value).ownBlock)) k_ ∧ some k_ ≠ (u25 : Value).ownBlock) (Kd.R_apart' (Kd.R_apart' (HO157.out) (Kd.S_typed HO_11.out) (by decide)) (Kd.S_typed HO_25.out) (by decide)) (fun k_ hk => ⟨hk.1.2, hk.2⟩))) (fun _ h_ => h_))); (case aB => exact bl); (case aF => exact (fun k_ hk => Kd.fresh' (Kd.S_lt (by (with_reducible repeat (first | apply Kd.S_alloc | apply Kd.S_drewN | apply Kd.S_drew)); exact HO_11.out)) k_ hk)); (case aO => exact (by (with_reducible repeat (first | apply Kd.S_alloc | apply Kd.S_drewN | apply Kd.S_drew)); exact Kd.S_mono HO_25.out (fun k_ hk => ⟨hk.1, fun e_ => hk.2 e_⟩))); (case aS => exact (below_size bl)); (case aL => have := LMc109.out; omega); intro v159 w113 ho hb hg hat; rw [← Ny158.out] at ho; have n0_ := Aside0.mk (Kd.S_after (ok := (fun k_ => some k_ ≠ (.slice Ao114 t155.length co114 : Value).ownBlock)) (by (with_reducible repeat (first | apply Kd.S_alloc | apply Kd.S_drewN | apply Kd.S_drew)); exact Kd.S_mono HO_11.out (fun _ hk => ⟨hk.2, hk.1⟩)) hg hat); have n1_ := Aside0.mk (blk_grown (g := gb101) (o := .cells #[.int .i64 a0_0, .slice A0_1 l0_1.length c0_1] 28 (0, 0)) bk hg (Kd.S_ne HO_25.out BK101.out (by decide))); have n2_ := Aside0.mk (Kd.R_after (ok := (fun k_ => some k_ ≠ (.slice (some ad150) x11_2.length co110 : Value).ownBlock ∧ some k_ ≠ (.slice Ao114 t155.length co114 : Value).ownBlock)) (by (with_reducible repeat (first | apply Kd.R_alloc | apply Kd.R_drewN | apply Kd.R_drew)); exact Kd.R_mono HL150_0.out (fun _ hk => ⟨⟨hk.1.2, hk.2⟩, hk.1.1⟩)) hg hat); have n3_ := Aside0.mk (hb); have n4_ := Aside0.mk (ho); clear HO_11; clear BK101; clear HL150_0; clear HB; clear HO_25; clear HO157; have HO_11 := n0_; have BK101 := n1_; have HL150_0 := n2_; have HB := n3_; have HO160 := n4_; clear n0_ n1_ n2_ n3_ n4_; clear ho hb hg hat))
                    first | go_roundg k3 | (simp only [← hji105]; go_roundg k3) | (simp only [← hji12]; go_roundg k3) | (simp only [← hji32]; go_roundg k3)
                    case measure => have := HK1.out; have := HK2.out; have := HK3.out; omega
                    case rel => exact ⟨(y158), (wrap64 (x26_3 + 1)), rs, (by first | exact H' | (rw [hji105]; exact H') | (rw [hji12]; exact H') | (rw [hji32]; exact H')), ⟨by have := HK1.out; have := HK2.out; have := HK3.out; omega⟩, ⟨by (with_reducible repeat (first | apply Kd.S_alloc | apply Kd.S_drewN | apply Kd.S_drew)); exact Kd.S_mono HO_11.out (fun _ hk => hk.2)⟩, ⟨by (with_reducible repeat (first | apply Kd.S_alloc | apply Kd.S_drewN | apply Kd.S_drew)); exact HO160.out⟩, ⟨bk⟩, ⟨bl⟩⟩
              rw [if_pos c43] at H
              have c43b0 : decide (x15_2 < (wrap64 (2 * (l0_1.length : Int)))) = true := decide_eq_true c43
              clear c43
              have HC44 := Aside0.mk H
              clear H
              go_upto_block 6 with (fail)
              go_cut [16] (fun v16 wc => ∃ (kq : Nat) (x16_43 : Int), v16 = .int .i64 x16_43 ∧ Aside0 (spec_l09Solve.j4 kq a1 (wrap64 (2 * (l0_1.length : Int))) x10_2 x11_2 x15_2 x16_43 = some (r1, r2)) ∧ Aside0 (kq ≤ k2) ∧ Aside0 (Kd.S (Kd.slice 2 (Kd.int .i64)) 34 wc w.heap.size (fun _ => True) u11 x11_2) ∧ Aside0 (wc.heap[gb101]? = some (.cells #[.int .i64 a0_0, (.slice A0_1 l0_1.length c0_1)] 28 (0, 0))) ∧ Aside0 (Below w.heap.size w wc))
              case first =>
                have H := HC44.out
                clear HC44
                have H' := Aside0.mk H
                clear H
                go_wp2
                go_loopg [16] k2 (fun kq v16 w' => ∃ (x16_3 : Int), v16 = .int .i64 x16_3 ∧ Aside0 (spec_l09Solve.l3 kq a1 (wrap64 (2 * (l0_1.length : Int))) x10_2 x11_2 x15_2 x16_3 = some (r1, r2)) ∧ Aside0 (kq ≤ k2) ∧ Aside0 (Kd.S (Kd.slice 2 (Kd.int .i64)) 34 w' w.heap.size (fun _ => True) u11 x11_2) ∧ Aside0 (w'.heap[gb101]? = some (.cells #[.int .i64 a0_0, (.slice A0_1 l0_1.length c0_1)] 28 (0, 0))) ∧ Aside0 (Below w.heap.size w w'))
                case atStart => exact ⟨(x15_2), rs, H', ⟨Nat.le_refl _⟩, ⟨by (with_reducible repeat (first | apply Kd.S_alloc | apply Kd.S_drewN | apply Kd.S_drew)); exact HO_11.out⟩, ⟨bk⟩, ⟨bl⟩⟩
                case round =>
                  clear H'
                  (try clear c1); (try clear p1); (try clear q1); (try clear hx1); (try clear c2); (try clear p2); (try clear q2); (try clear hx2); (try clear c3); (try clear p3); (try clear q3); (try clear hx3); (try clear hf3); (try clear c4); (try clear c5); (try clear c5b0); (try clear c5b1); (try clear p6); (try clear c8); (try clear c11); (try clear c11b0); (try clear p11); (try clear q11); (try clear hx11); (try clear c13); (try clear c13b0); (try clear c13b1); (try clear c14); (try clear c14b0); (try clear c14b1); (try clear c17); (try clear c17b0); (try clear c18); (try clear c18b0); (try clear c19); (try clear c19b0); (try clear c20); (try clear c20b0); (try clear c21); (try clear c21b0); (try clear c23); (try clear c23b0); (try clear p24); (try clear q24); (try clear hx24); (try clear hf24); (try clear c28); (try clear c28b0); (try clear c29); (try clear c29b0); (try clear c30); (try clear c30b0); (try clear c30b1); (try clear p31); (try clear q31); (try clear hx31); (try clear hf31); (try clear c33); (try clear c33b0); (try clear c34); (try clear c34b0); (try clear p35); (try clear q35); (try clear hx35); (try clear hf35); (try clear c36); (try clear c41); (try clear c43); (try clear c43b0); (try clear hx111_0); (try clear hx112_0); (try clear hx115_0); (try clear hx24_0); (try clear hx31_0); (try clear hx35_0); (try clear p1); (try clear p11); (try clear p111); (try clear p112); (try clear p115); (try clear p2); (try clear p24); (try clear p3); (try clear p31); (try clear p35); (try clear p6); (try clear q1); (try clear q11); (try clear q111); (try clear q112); (try clear q115); (try clear q2); (try clear q24); (try clear q3); (try clear q31); (try clear q35)
                  obtain ⟨x16_3, rfl, HA, HK3, HO_11, BK101, HB⟩ := hrel
                  cases gk with
                  | zero => exact absurd HA.out (by simp [spec_l09Solve.l3])
                  | succ k3 =>
                    have H := HA.out
                    clear HA
                    simp only [spec_l09Solve.l3] at H
                    by_cases c45 : x16_3 < (wrap64 (2 * (l0_1.length : Int)))
                    case neg =>
                      rw [if_neg c45] at H
                      have c45b0 : decide (x16_3 < (wrap64 (2 * (l0_1.length : Int)))) = false := decide_eq_false c45
                      clear c45
                      (first | rw [c45b0] | (simp only [i64_w, i32_w]; rw [c45b0]) | skip)
                      have H' := Aside0.mk H
                      clear H
                      go_wp2
                      go_meet
                      case rel => exact ⟨_, (x16_3), rs, (by first | exact H' | (rw [hji105]; exact H') | (rw [hji12]; exact H') | (rw [hji32]; exact H')), ⟨by have := HK1.out; have := HK2.out; have := HK3.out; first | omega | exact Nat.le_refl _⟩, ⟨by (with_reducible repeat (first | apply Kd.S_alloc | apply Kd.S_drewN | apply Kd.S_drew)); exact HO_11.out⟩, ⟨bk⟩, ⟨bl⟩⟩
                    rw [if_pos c45] at H
                    have c45b0 : decide (x16_3 < (wrap64 (2 * (l0_1.length : Int)))) = true := decide_eq_true c45
                    clear c45
                    (first | rw [c45b0] | (simp only [i64_w, i32_w]; rw [c45b0]) | skip)
                    by_cases c46 : 0 ≤ x16_3
                    case neg => rw [if_neg c46] at H; exact absurd H (by simp)
                    rw [if_pos c46] at H
                    have c46b0 : decide (0 ≤ x16_3) = true := decide_eq_true c46
                    clear c46
                    by_cases c47 : x16_3 < (x11_2.length : Int)
                    case neg => rw [if_neg c47] at H; exact absurd H (by simp)
                    rw [if_pos c47] at H
                    have c47b0 : decide (x16_3 < (x11_2.length : Int)) = true := decide_eq_true c47
                    clear c47
                    by_cases c48 : 0 ≤ x15_2
                    case neg => rw [if_neg c48] at H; exact absurd H (by simp)
                    rw [if_pos c48] at H
                    have c48b0 : decide (0 ≤ x15_2) = true := decide_eq_true c48
                    clear c48
                    by_cases c49 : x15_2 < ((rd_L1 x11_2 x16_3).length : Int)
                    case neg => rw [if_neg c49] at H; exact absurd H (by simp)
                    rw [if_pos c49] at H
                    have c49b0 : decide (x15_2 < ((rd_L1 x11_2 x16_3).length : Int)) = true := decide_eq_true c49
                    clear c49
                    by_cases c50 : (rd (rd_L1 x11_2 x16_3) x15_2) = 0
                    case neg =>
                      rw [if_neg c50] at H
                      have c50b0 : ((rd (rd_L1 x11_2 x16_3) x15_2) == 0) = false := beq_eq_false_iff_ne.mpr c50
                      have c50b1 : ((rd (rd_L1 x11_2 x16_3) x15_2) != 0) = true := bne_iff_ne.mpr c50
                      have H' := Aside0.mk H
                      clear H
                      obtain ⟨Ao52, co52, eo52⟩ := Kd.S_slice HO_11.out
                      subst eo52
                      have p121 : 0 ≤ (x16_3 : Int) := oD
                      have q121 : x16_3 < (x11_2.length : Int) := oD
                      obtain ⟨ad121, A121_0, c121_0, e121, hx121_0, hl121_0, hi121_0⟩ := at_L1 (Kd.S_reads' HO_11.out).2.2 x16_3 p121 q121
                      cases e121
                      obtain ⟨ce121, hce121, hMe121, hcc121⟩ := Kd.S_get HO_11.out [] x16_3 p121 (by first | exact q121 | exact oD | (have e_ := (Kd.S_reads' HO_11.out).1; omega))
                      obtain ⟨ve121_0, rfl, ge121_0⟩ := hMe121
                      have hv121_0 := hcc121 0 _ rfl
                      rw [Nat.add_zero, show ((Kd.slice 2 (Kd.int .i64))).sz = 1 from rfl, Nat.mul_one] at hv121_0
                      replace hv121_0 := Option.some.inj (hv121_0.symm.trans hx121_0)
                      rw [hv121_0] at ge121_0
                      have HL121_0 := Aside0.mk (show Kd.R (Kd.int .i64) 2 _ _ _ _ (rd_L1 x11_2 x16_3) from ge121_0)
                      clear hv121_0 ge121_0
                      have HX121_0 := Aside0.mk hx121_0
                      clear hcc121 hce121
                      have HR121_0 := Aside0.mk hi121_0
                      have HC121_0 := Aside0.mk hl121_0
                      clear hi121_0 hl121_0
                      replace p121 := eq_true p121
                      replace q121 := eq_true q121
                      have p122 : 0 ≤ (x15_2 : Int) := oD
                      have q122 : x15_2 < ((rd_L1 x11_2 x16_3).length : Int) := oD
                      obtain ⟨ad122, e122, hx122_0⟩ := Kd.at_int (by repeat (first | (with_reducible exact HR121_0.out) | (with_reducible refine Kd.C_alloc ?_ _) | (with_reducible refine Kd.C_drewN ?_ _) | (with_reducible refine Kd.C_drew ?_) | exact HR121_0.out)) x15_2 p122 q122
                      cases e122
                      replace p122 := eq_true p122
                      replace q122 := eq_true q122
                      go_wp2
                      go_meet
                      case rel => exact ⟨_, (x16_3), rs, (by first | exact H' | (rw [hji105]; exact H') | (rw [hji12]; exact H') | (rw [hji32]; exact H')), ⟨by have := HK1.out; have := HK2.out; have := HK3.out; first | omega | exact Nat.le_refl _⟩, ⟨by (with_reducible repeat (first | apply Kd.S_alloc | apply Kd.S_drewN | apply Kd.S_drew)); exact HO_11.out⟩, ⟨bk⟩, ⟨bl⟩⟩
                    rw [if_pos c50] at H
                    have c50b0 : ((rd (rd_L1 x11_2 x16_3) x15_2) == 0) = true := beq_iff_eq.mpr c50
                    have c50b1 : ((rd (rd_L1 x11_2 x16_3) x15_2) != 0) = false := bne_eq_false_iff_eq.mpr c50
                    clear c50
                    have H' := Aside0.mk H
                    clear H
                    obtain ⟨Ao51, co51, eo51⟩ := Kd.S_slice HO_11.out
                    subst eo51
                    have p121 : 0 ≤ (x16_3 : Int) := oD
                    have q121 : x16_3 < (x11_2.length : Int) := oD
                    obtain ⟨ad121, A121_0, c121_0, e121, hx121_0, hl121_0, hi121_0⟩ := at_L1 (Kd.S_reads' HO_11.out).2.2 x16_3 p121 q121
                    cases e121
                    obtain ⟨ce121, hce121, hMe121, hcc121⟩ := Kd.S_get HO_11.out [] x16_3 p121 (by first | exact q121 | exact oD | (have e_ := (Kd.S_reads' HO_11.out).1; omega))
                    obtain ⟨ve121_0, rfl, ge121_0⟩ := hMe121
                    have hv121_0 := hcc121 0 _ rfl
                    rw [Nat.add_zero, show ((Kd.slice 2 (Kd.int .i64))).sz = 1 from rfl, Nat.mul_one] at hv121_0
                    replace hv121_0 := Option.some.inj (hv121_0.symm.trans hx121_0)
                    rw [hv121_0] at ge121_0
                    have HL121_0 := Aside0.mk (show Kd.R (Kd.int .i64) 2 _ _ _ _ (rd_L1 x11_2 x16_3) from ge121_0)
                    clear hv121_0 ge121_0
                    have HX121_0 := Aside0.mk hx121_0
                    clear hcc121 hce121
                    have HR121_0 := Aside0.mk hi121_0
                    have HC121_0 := Aside0.mk hl121_0
                    clear hi121_0 hl121_0
                    replace p121 := eq_true p121
                    replace q121 := eq_true q121
                    have p122 : 0 ≤ (x15_2 : Int) := oD
                    have q122 : x15_2 < ((rd_L1 x11_2 x16_3).length : Int) := oD
                    obtain ⟨ad122, e122, hx122_0⟩ := Kd.at_int (by repeat (first | (with_reducible exact HR121_0.out) | (with_reducible refine Kd.C_alloc ?_ _) | (with_reducible refine Kd.C_drewN ?_ _) | (with_reducible refine Kd.C_drew ?_) | exact HR121_0.out)) x15_2 p122 q122
                    cases e122
                    replace p122 := eq_true p122
                    replace q122 := eq_true q122
                    go_wp2
                    first | go_roundg k3 | (simp only [← hji105]; go_roundg k3) | (simp only [← hji12]; go_roundg k3) | (simp only [← hji32]; go_roundg k3)
                    case measure => have := HK1.out; have := HK2.out; have := HK3.out; omega
                    case rel => exact ⟨(wrap64 (x16_3 + 1)), rs, (by first | exact H' | (rw [hji105]; exact H') | (rw [hji12]; exact H') | (rw [hji32]; exact H')), ⟨by have := HK1.out; have := HK2.out; have := HK3.out; omega⟩, ⟨by (with_reducible repeat (first | apply Kd.S_alloc | apply Kd.S_drewN | apply Kd.S_drew)); exact HO_11.out⟩, ⟨bk⟩, ⟨bl⟩⟩
              case rest =>
                clear HC44
                (try clear c1); (try clear p1); (try clear q1); (try clear hx1); (try clear c2); (try clear p2); (try clear q2); (try clear hx2); (try clear c3); (try clear p3); (try clear q3); (try clear hx3); (try clear hf3); (try clear c4); (try clear c5); (try clear c5b0); (try clear c5b1); (try clear p6); (try clear c8); (try clear c11); (try clear c11b0); (try clear p11); (try clear q11); (try clear hx11); (try clear c12); (try clear p12); (try clear q12); (try clear hx12); (try clear c13); (try clear c13b0); (try clear c13b1); (try clear c14); (try clear c14b0); (try clear c14b1); (try clear c17); (try clear c17b0); (try clear c18); (try clear c18b0); (try clear c19); (try clear c19b0); (try clear c20); (try clear c20b0); (try clear c21); (try clear c21b0); (try clear c23); (try clear c23b0); (try clear p24); (try clear q24); (try clear hx24); (try clear hf24); (try clear c28); (try clear c28b0); (try clear c29); (try clear c29b0); (try clear c30); (try clear c30b0); (try clear c30b1); (try clear p31); (try clear q31); (try clear hx31); (try clear hf31); (try clear c33); (try clear c33b0); (try clear c34); (try clear c34b0); (try clear p35); (try clear q35); (try clear hx35); (try clear hf35); (try clear c36); (try clear c41); (try clear c43); (try clear c43b0); (try clear c45); (try clear c45b0); (try clear c46); (try clear c46b0); (try clear c47); (try clear c47b0); (try clear c48); (try clear c48b0); (try clear c49); (try clear c49b0); (try clear c50); (try clear c50b0); (try clear c50b1); (try clear hx111_0); (try clear hx112_0); (try clear hx115_0); (try clear hx121_0); (try clear hx122_0); (try clear hx24_0); (try clear hx31_0); (try clear hx35_0); (try clear p1); (try clear p11); (try clear p111); (try clear p112); (try clear p115); (try clear p121); (try clear p122); (try clear p2); (try clear p24); (try clear p3); (try clear p31); (try clear p35); (try clear p6); (try clear q1); (try clear q11); (try clear q111); (try clear q112); (try clear q115); (try clear q121); (try clear q122); (try clear q2); (try clear q24); (try clear q3); (try clear q31); (try clear q35)
                obtain ⟨kq, x16_43, rfl, HA, HJ43, HO_11, BK101, HB⟩ := hcut
                cases kq with
                | zero => exact absurd HA.out (by simp [spec_l09Solve.j4])
                | succ kj43 =>
                  have H := HA.out
                  clear HA
                  simp only [spec_l09Solve.j4] at H
                  by_cases c53 : x16_43 = (wrap64 (2 * (l0_1.length : Int)))
                  case neg =>
                    rw [if_neg c53] at H
                    have c53b0 : (x16_43 == (wrap64 (2 * (l0_1.length : Int)))) = false := beq_eq_false_iff_ne.mpr c53
                    have c53b1 : (x16_43 != (wrap64 (2 * (l0_1.length : Int)))) = true := bne_iff_ne.mpr c53
                    have HC54 := Aside0.mk H
                    clear H
                    go_upto_if 109 with (fail)
                    go_cut [10] (fun v10 wc => ∃ (kq : Nat) (x10_53 : Int) (x11_53 : List (List Int)), v10 = .int .i64 x10_53 ∧ Aside0 (spec_l09Solve.j5 kq a1 (wrap64 (2 * (l0_1.length : Int))) x10_53 x11_53 x15_2 = some (r1, r2)) ∧ Aside0 (kq ≤ kj43) ∧ Aside0 (Kd.S (Kd.slice 2 (Kd.int .i64)) 34 wc w.heap.size (fun _ => True) u11 x11_53) ∧ Aside0 (wc.heap[gb101]? = some (.cells #[.int .i64 a0_0, (.slice A0_1 l0_1.length c0_1)] 28 (0, 0))) ∧ Aside0 (Below w.heap.size w wc))
                    case first =>
                      have H := HC54.out
                      clear HC54
                      by_cases c55 : x16_43 = x15_2
                      case neg =>
                        rw [if_neg c55] at H
                        have c55b0 : (x16_43 == x15_2) = false := beq_eq_false_iff_ne.mpr c55
                        have c55b1 : (x16_43 != x15_2) = true := bne_iff_ne.mpr c55
                        (first | rw [c55b0] | (simp only [i64_w, i32_w]; rw [c55b0]) | skip)
                        by_cases c56 : 0 ≤ x16_43
                        case neg => rw [if_neg c56] at H; exact absurd H (by simp)
                        rw [if_pos c56] at H
                        have c56b0 : decide (0 ≤ x16_43) = true := decide_eq_true c56
                        clear c56
                        by_cases c57 : x16_43 < (x11_2.length : Int)
                        case neg => rw [if_neg c57] at H; exact absurd H (by simp)
                        rw [if_pos c57] at H
                        have c57b0 : decide (x16_43 < (x11_2.length : Int)) = true := decide_eq_true c57
                        clear c57
                        by_cases c58 : 0 ≤ x15_2
                        case neg => rw [if_neg c58] at H; exact absurd H (by simp)
                        rw [if_pos c58] at H
                        have c58b0 : decide (0 ≤ x15_2) = true := decide_eq_true c58
                        clear c58
                        by_cases c59 : x15_2 < (x11_2.length : Int)
                        case neg => rw [if_neg c59] at H; exact absurd H (by simp)
                        rw [if_pos c59] at H
                        have c59b0 : decide (x15_2 < (x11_2.length : Int)) = true := decide_eq_true c59
                        clear c59
                        obtain ⟨y125, hy125⟩ : ∃ y_ : List (List Int), y_ = (swp x11_2 x16_43 x15_2) := ⟨_, rfl⟩
                        replace H : ((spec_l09Mod.f a1 (wrap64 (-x10_2))).bind fun t126 => (spec_l09Solve.j5 kj43 a1 (wrap64 (2 * (l0_1.length : Int))) t126 y125 x15_2)) = some (r1, r2) := by first | (rw [hy125]; with_reducible exact H) | (have H2_ := (Option.bind_some _ _).symm.trans H; rw [hy125]; with_reducible exact H2_) | (have H2_ := (Option.bind_some _ _).symm.trans H; with_reducible exact H2_) | with_reducible exact H | (rw [hy125]; exact H) | exact H
                        have Ny125 := Aside0.mk hy125
                        clear hy125
                        replace H := Option.bind_eq_some_iff.mp H
                        obtain ⟨t126, A610, H⟩ := H
                        replace H : (spec_l09Solve.j5 kj43 a1 (wrap64 (2 * (l0_1.length : Int))) t126 y125 x15_2) = some (r1, r2) := H
                        have A61 := Aside0.mk A610
                        clear A610
                        have H' := Aside0.mk H
                        clear H
                        obtain ⟨Ao62, co62, eo62⟩ := Kd.S_slice HO_11.out
                        subst eo62
                        have p123 : 0 ≤ (x16_43 : Int) := oD
                        have q123 : x16_43 < (x11_2.length : Int) := oD
                        obtain ⟨ad123, A123_0, c123_0, e123, hx123_0, hl123_0, hi123_0⟩ := at_L1 (Kd.S_reads' HO_11.out).2.2 x16_43 p123 q123
                        cases e123
                        obtain ⟨ce123, hce123, hMe123, hcc123⟩ := Kd.S_get HO_11.out [] x16_43 p123 (by first | exact q123 | exact oD | (have e_ := (Kd.S_reads' HO_11.out).1; omega))
                        obtain ⟨ve123_0, rfl, ge123_0⟩ := hMe123
                        have hv123_0 := hcc123 0 _ rfl
                        rw [Nat.add_zero, show ((Kd.slice 2 (Kd.int .i64))).sz = 1 from rfl, Nat.mul_one] at hv123_0
                        replace hv123_0 := Option.some.inj (hv123_0.symm.trans hx123_0)
                        rw [hv123_0] at ge123_0
                        have HL123_0 := Aside0.mk (show Kd.R (Kd.int .i64) 2 _ _ _ _ (rd_L1 x11_2 x16_43) from ge123_0)
                        clear hv123_0 ge123_0
                        have HX123_0 := Aside0.mk hx123_0
                        clear hcc123 hce123
                        have HR123_0 := Aside0.mk hi123_0
                        have HC123_0 := Aside0.mk hl123_0
                        clear hi123_0 hl123_0
                        replace p123 := eq_true p123
                        replace q123 := eq_true q123
                        have p124 : 0 ≤ (x15_2 : Int) := oD
                        have q124 : x15_2 < (x11_2.length : Int) := oD
                        obtain ⟨ad124, A124_0, c124_0, e124, hx124_0, hl124_0, hi124_0⟩ := at_L1 (Kd.S_reads' HO_11.out).2.2 x15_2 p124 q124
                        obtain rfl : ad123 = ad124 := (by injection e124)
                        obtain ⟨ce124, hce124, hMe124, hcc124⟩ := Kd.S_get HO_11.out [] x15_2 p124 (by first | exact q124 | exact oD | (have e_ := (Kd.S_reads' HO_11.out).1; omega))
                        obtain ⟨ve124_0, rfl, ge124_0⟩ := hMe124
                        have hv124_0 := hcc124 0 _ rfl
                        rw [Nat.add_zero, show ((Kd.slice 2 (Kd.int .i64))).sz = 1 from rfl, Nat.mul_one] at hv124_0
                        replace hv124_0 := Option.some.inj (hv124_0.symm.trans hx124_0)
                        rw [hv124_0] at ge124_0
                        have HL124_0 := Aside0.mk (show Kd.R (Kd.int .i64) 2 _ _ _ _ (rd_L1 x11_2 x15_2) from ge124_0)
                        clear hv124_0 ge124_0
                        have HX124_0 := Aside0.mk hx124_0
                        clear hcc124 hce124
                        have HR124_0 := Aside0.mk hi124_0
                        have HC124_0 := Aside0.mk hl124_0
                        clear hi124_0 hl124_0
                        replace p124 := eq_true p124
                        replace q124 := eq_true q124
                        have p60 : 0 ≤ (x16_43 : Int) := oD
                        have q60 : (x16_43 : Int) < ((x11_2.length : Int) : Int) := oD
                        obtain ⟨go60, co60, eo60, gb60, gl60, cl60, HG60⟩ := Kd.S_form HO_11.out (by omega)
                        (first | cases eo60 | (injection eo60 with ea_ en_ ec_; (first | subst ea_ | (injection ea_ with ea_; subst ea_)); subst ec_; clear en_))
                        have GB60 := Aside0.mk gb60
                        have GG60 := Aside0.mk HG60
                        clear gb60 gl60 HG60
                        (first | simp only [add_plain] at hx123_0 | skip)
                        (first | simp only [add_plain] at hx124_0 | skip)
                        obtain ⟨_, ce60, hcl60, hM60, hcc60, hfr60, _, _⟩ := Kd.S_elem HO_11.out [] (x16_43 : Int) p60 q60
                        obtain ⟨ve60_0, rfl, ge60_0⟩ := hM60
                        have hx60_0 := hcc60 0 _ rfl
                        have hf60_0 := hfr60 0
                        (try simp only [show ((Kd.slice 2 (Kd.int .i64))).sz = 1 from rfl, Nat.mul_one, Nat.add_zero] at hx60_0)
                        (try simp only [show ((Kd.slice 2 (Kd.int .i64))).sz = 1 from rfl, Nat.mul_one, Nat.add_zero] at hf60_0)
                        (try clear hM60); clear hcl60 hcc60 hfr60 
                        replace p60 := eq_true p60
                        replace q60 := eq_true q60
                        go_wp2_with (first | ((with_reducible refine gate_store (t := 34) (p := 120) rfl ?_); refine store_event (t := 34) (p := 120) (v := ?vo_w63) (w1 := (wc.setCell ⟨go60, (x16_43 : Int).toNat, none⟩ (.slice A124_0 (rd_L1 x11_2 x15_2).length c124_0))) ?hg ?ho ?hn ?hr ?_; (case ho => rfl); (case hg => rfl); (case hn => rfl); (case hr => first | (go_simp; done) | (go_simp; rfl)); intro w63 hq_; have hqw63 := Aside0.mk hq_; clear hq_; have HP64 := S_swap HO_11.out (x16_43 : Int) (x15_2 : Int) oD (by have h_ : (x16_43 : Int) < ((x11_2.length : Int) : Int) := oD; first | exact h_ | (have e_ := (Kd.S_reads' HO_11.out).1; omega) | simpa using h_) oD (by have h_ : (x15_2 : Int) < ((x11_2.length : Int) : Int) := oD; first | exact h_ | (have e_ := (Kd.S_reads' HO_11.out).1; omega) | simpa using h_) (by first | exact HX123_0.out | simpa only [add_plain, add_at, Nat.mul_one, Nat.zero_add, Nat.add_zero] using HX123_0.out) (by first | exact HX124_0.out | simpa only [add_plain, add_at, Nat.mul_one, Nat.zero_add, Nat.add_zero] using HX124_0.out); obtain ⟨hx64_0, hf64_0⟩ := S_mid HO_11.out (x16_43 : Int) (x15_2 : Int) oD (by have h_ : (x16_43 : Int) < ((x11_2.length : Int) : Int) := oD; first | exact h_ | (have e_ := (Kd.S_reads' HO_11.out).1; omega) | simpa using h_) oD (by have h_ : (x15_2 : Int) < ((x11_2.length : Int) : Int) := oD; first | exact h_ | (have e_ := (Kd.S_reads' HO_11.out).1; omega) | simpa using h_) (by first | exact HX124_0.out | simpa only [add_plain, add_at, Nat.mul_one, Nat.zero_add, Nat.add_zero] using HX124_0.out)) | ((with_reducible refine gate_store (t := 34) (p := 124) rfl ?_); rw [← hqw63.out] at hx64_0 hf64_0; refine store_event (t := 34) (p := 124) (v := ?vo_w65) (w1 := (w63.setCell ⟨go60, (x15_2 : Int).toNat, none⟩ (.slice A123_0 (rd_L1 x11_2 x16_43).length c123_0))) ?hg ?ho ?hn ?hr ?_; (case ho => rfl); (case hg => rfl); (case hn => rfl); (case hr => first | (go_simp; done) | (go_simp; rfl)); intro w65 hw; rw [hqw63.out] at hw; have hg : wc.grownBy w65 (some go60) := (by rw [hw]; exact HP64.2); have hp_ : Kd.S (Kd.slice 2 (Kd.int .i64)) 34 w65 w.heap.size (fun _ => True) (.slice (some ⟨go60, 0, none⟩) x11_2.length co62) y125 := (by rw [hw, Ny125.out]; exact HP64.1); clear HP64 hqw63 hx64_0 hf64_0; have n0_ := Aside0.mk (hp_); have n1_ := Aside0.mk (blk_grown (g := gb101) (o := .cells #[.int .i64 a0_0, .slice A0_1 l0_1.length c0_1] 28 (0, 0)) bk hg (Kd.S_ne HO_11.out BK101.out (by decide))); have n2_ := Aside0.mk ((by rw [hw]; exact below_set (below_set HB.out GB60.out) GB60.out : Below w.heap.size w w65)); clear HO_11; clear BK101; clear HB; clear HL123_0; clear HL124_0; have HO_11 := n0_; have BK101 := n1_; have HB := n2_; clear n0_ n1_ n2_; clear hg hw hp_) | ((with_reducible refine gate_callee (f := 82) rfl ?_); refine goesL_ (some 128) rfl rfl Try.func82 (by kernel_rfl) rfl #[.int .i64 a1, .int .i64 (wrap64 (-x10_2))] rfl gm ?_; (with_reducible refine (spec_l09Mod.calls a1 (wrap64 (-x10_2)) t126 _ A61.out).mono ?_); rintro e w' ⟨rfl, ⟨nd, rfl⟩⟩; refine ⟨_, rfl, ?_⟩))
                        go_meet
                        case rel => exact ⟨_, (t126), (y125), rs, (by first | exact H' | (rw [hji105]; exact H') | (rw [hji12]; exact H') | (rw [hji32]; exact H')), ⟨by have := HK1.out; have := HK2.out; have := HJ43.out; first | omega | exact Nat.le_refl _⟩, ⟨by (with_reducible repeat (first | apply Kd.S_alloc | apply Kd.S_drewN | apply Kd.S_drew)); exact HO_11.out⟩, ⟨bk⟩, ⟨bl⟩⟩
                      rw [if_pos c55] at H
                      have c55b0 : (x16_43 == x15_2) = true := beq_iff_eq.mpr c55
                      have c55b1 : (x16_43 != x15_2) = false := bne_eq_false_iff_eq.mpr c55
                      clear c55
                      (first | rw [c55b0] | (simp only [i64_w, i32_w]; rw [c55b0]) | skip)
                      have H' := Aside0.mk H
                      clear H
                      go_wp2
                      go_meet
                      case rel => exact ⟨_, (x10_2), (x11_2), rs, (by first | exact H' | (rw [hji105]; exact H') | (rw [hji12]; exact H') | (rw [hji32]; exact H')), ⟨by have := HK1.out; have := HK2.out; have := HJ43.out; first | omega | exact Nat.le_refl _⟩, ⟨by (with_reducible repeat (first | apply Kd.S_alloc | apply Kd.S_drewN | apply Kd.S_drew)); exact HO_11.out⟩, ⟨bk⟩, ⟨bl⟩⟩
                    case rest =>
                      clear HC54
                      (try clear c1); (try clear p1); (try clear q1); (try clear hx1); (try clear c2); (try clear p2); (try clear q2); (try clear hx2); (try clear c3); (try clear p3); (try clear q3); (try clear hx3); (try clear hf3); (try clear c4); (try clear c5); (try clear c5b0); (try clear c5b1); (try clear c6); (try clear p6); (try clear q6); (try clear hx6); (try clear hf6); (try clear c8); (try clear c11); (try clear c11b0); (try clear p11); (try clear q11); (try clear hx11); (try clear c12); (try clear p12); (try clear q12); (try clear hx12); (try clear c13); (try clear c13b0); (try clear c13b1); (try clear c14); (try clear c14b0); (try clear c14b1); (try clear c17); (try clear c17b0); (try clear c18); (try clear c18b0); (try clear c19); (try clear c19b0); (try clear c20); (try clear c20b0); (try clear c21); (try clear c21b0); (try clear c23); (try clear c23b0); (try clear p24); (try clear q24); (try clear hx24); (try clear hf24); (try clear c28); (try clear c28b0); (try clear c29); (try clear c29b0); (try clear c30); (try clear c30b0); (try clear c30b1); (try clear p31); (try clear q31); (try clear hx31); (try clear hf31); (try clear c33); (try clear c33b0); (try clear c34); (try clear c34b0); (try clear p35); (try clear q35); (try clear hx35); (try clear hf35); (try clear c36); (try clear c41); (try clear c43); (try clear c43b0); (try clear c45); (try clear c45b0); (try clear c46); (try clear c46b0); (try clear c47); (try clear c47b0); (try clear c48); (try clear c48b0); (try clear c49); (try clear c49b0); (try clear c50); (try clear c50b0); (try clear c50b1); (try clear c53); (try clear c53b0); (try clear c53b1); (try clear c55); (try clear c55b0); (try clear c55b1); (try clear c56); (try clear c56b0); (try clear c57); (try clear c57b0); (try clear c58); (try clear c58b0); (try clear c59); (try clear c59b0); (try clear c60); (try clear p60); (try clear q60); (try clear hx60); (try clear hf60); (try clear p64); (try clear hx64); (try clear hf64); (try clear hx111_0); (try clear hx112_0); (try clear hx115_0); (try clear hx121_0); (try clear hx122_0); (try clear hx123_0); (try clear hx124_0); (try clear hx24_0); (try clear hx31_0); (try clear hx35_0); (try clear hx60_0); (try clear hx64_0); (try clear p1); (try clear p11); (try clear p111); (try clear p112); (try clear p115); (try clear p12); (try clear p121); (try clear p122); (try clear p123); (try clear p124); (try clear p2); (try clear p24); (try clear p3); (try clear p31); (try clear p35); (try clear p6); (try clear p60); (try clear q1); (try clear q11); (try clear q111); (try clear q112); (try clear q115); (try clear q12); (try clear q121); (try clear q122); (try clear q123); (try clear q124); (try clear q2); (try clear q24); (try clear q3); (try clear q31); (try clear q35); (try clear q60)
                      obtain ⟨kq, x10_53, x11_53, rfl, HA, HJ53, HO_11, BK101, HB⟩ := hcut
                      cases kq with
                      | zero => exact absurd HA.out (by simp [spec_l09Solve.j5])
                      | succ kj53 =>
                        have H := HA.out
                        clear HA
                        simp only [spec_l09Solve.j5] at H
                        by_cases c66 : 0 ≤ x15_2
                        case neg => rw [if_neg c66] at H; exact absurd H (by simp)
                        rw [if_pos c66] at H
                        have c66b0 : decide (0 ≤ x15_2) = true := decide_eq_true c66
                        clear c66
                        by_cases c67 : x15_2 < (x11_53.length : Int)
                        case neg => rw [if_neg c67] at H; exact absurd H (by simp)
                        rw [if_pos c67] at H
                        have c67b0 : decide (x15_2 < (x11_53.length : Int)) = true := decide_eq_true c67
                        clear c67
                        by_cases c68 : x15_2 < ((rd_L1 x11_53 x15_2).length : Int)
                        case neg => rw [if_neg c68] at H; exact absurd H (by simp)
                        rw [if_pos c68] at H
                        have c68b0 : decide (x15_2 < ((rd_L1 x11_53 x15_2).length : Int)) = true := decide_eq_true c68
                        clear c68
                        by_cases c69 : a1 = 0
                        case neg =>
                          rw [if_neg c69] at H
                          have c69b0 : (a1 == 0) = false := beq_eq_false_iff_ne.mpr c69
                          have c69b1 : (a1 != 0) = true := bne_iff_ne.mpr c69
                          replace H := Option.bind_eq_some_iff.mp H
                          obtain ⟨t131, A700, H⟩ := H
                          replace H : (spec_l09Solve.l4 kj53 a1 (wrap64 (2 * (l0_1.length : Int))) (Int.tmod (wrap64 (x10_53 * (rd (rd_L1 x11_53 x15_2) x15_2))) a1) x11_53 x15_2 t131 0) = some (r1, r2) := H
                          have A70 := Aside0.mk A700
                          clear A700
                          have H' := Aside0.mk H
                          clear H
                          obtain ⟨Ao71, co71, eo71⟩ := Kd.S_slice HO_11.out
                          subst eo71
                          have p127 : 0 ≤ (x15_2 : Int) := oD
                          have q127 : x15_2 < (x11_53.length : Int) := oD
                          obtain ⟨ad127, A127_0, c127_0, e127, hx127_0, hl127_0, hi127_0⟩ := at_L1 (Kd.S_reads' HO_11.out).2.2 x15_2 p127 q127
                          cases e127
                          obtain ⟨ce127, hce127, hMe127, hcc127⟩ := Kd.S_get HO_11.out [] x15_2 p127 (by first | exact q127 | exact oD | (have e_ := (Kd.S_reads' HO_11.out).1; omega))
                          obtain ⟨ve127_0, rfl, ge127_0⟩ := hMe127
                          have hv127_0 := hcc127 0 _ rfl
                          rw [Nat.add_zero, show ((Kd.slice 2 (Kd.int .i64))).sz = 1 from rfl, Nat.mul_one] at hv127_0
                          replace hv127_0 := Option.some.inj (hv127_0.symm.trans hx127_0)
                          rw [hv127_0] at ge127_0
                          have HL127_0 := Aside0.mk (show Kd.R (Kd.int .i64) 2 _ _ _ _ (rd_L1 x11_53 x15_2) from ge127_0)
                          clear hv127_0 ge127_0
                          have HX127_0 := Aside0.mk hx127_0
                          clear hcc127 hce127
                          have HR127_0 := Aside0.mk hi127_0
                          have HC127_0 := Aside0.mk hl127_0
                          clear hi127_0 hl127_0
                          replace p127 := eq_true p127
                          replace q127 := eq_true q127
                          have p128 : 0 ≤ (x15_2 : Int) := oD
                          have q128 : x15_2 < ((rd_L1 x11_53 x15_2).length : Int) := oD
                          obtain ⟨ad128, e128, hx128_0⟩ := Kd.at_int (by repeat (first | (with_reducible exact HR127_0.out) | (with_reducible refine Kd.C_alloc ?_ _) | (with_reducible refine Kd.C_drewN ?_ _) | (with_reducible refine Kd.C_drew ?_) | exact HR127_0.out)) x15_2 p128 q128
                          cases e128
                          replace p128 := eq_true p128
                          replace q128 := eq_true q128
                          have p129 : 0 ≤ (x15_2 : Int) := oD
                          have q129 : x15_2 < (x11_53.length : Int) := oD
                          obtain ⟨ad129, A129_0, c129_0, e129, hx129_0, hl129_0, hi129_0⟩ := at_L1 (Kd.S_reads' HO_11.out).2.2 x15_2 p129 q129
                          obtain rfl : ad127 = ad129 := (by injection e129)
                          obtain ⟨ce129, hce129, hMe129, hcc129⟩ := Kd.S_get HO_11.out [] x15_2 p129 (by first | exact q129 | exact oD | (have e_ := (Kd.S_reads' HO_11.out).1; omega))
                          obtain ⟨ve129_0, rfl, ge129_0⟩ := hMe129
                          have hv129_0 := hcc129 0 _ rfl
                          rw [Nat.add_zero, show ((Kd.slice 2 (Kd.int .i64))).sz = 1 from rfl, Nat.mul_one] at hv129_0
                          replace hv129_0 := Option.some.inj (hv129_0.symm.trans hx129_0)
                          rw [hv129_0] at ge129_0
                          have HL129_0 := Aside0.mk (show Kd.R (Kd.int .i64) 2 _ _ _ _ (rd_L1 x11_53 x15_2) from ge129_0)
                          clear hv129_0 ge129_0
                          have HX129_0 := Aside0.mk hx129_0
                          clear hcc129 hce129
                          have HR129_0 := Aside0.mk hi129_0
                          have HC129_0 := Aside0.mk hl129_0
                          clear hi129_0 hl129_0
                          replace p129 := eq_true p129
                          replace q129 := eq_true q129
                          have ea_ := Option.some.inj (hx127_0.symm.trans hx129_0)
                          injection ea_ with ea_ en_ ec_
                          subst ea_
                          subst ec_
                          clear en_
                          have p130 : 0 ≤ (x15_2 : Int) := oD
                          have q130 : x15_2 < ((rd_L1 x11_53 x15_2).length : Int) := oD
                          obtain ⟨ad130, e130, hx130_0⟩ := Kd.at_int (by repeat (first | (with_reducible exact HR129_0.out) | (with_reducible refine Kd.C_alloc ?_ _) | (with_reducible refine Kd.C_drewN ?_ _) | (with_reducible refine Kd.C_drew ?_) | exact HR129_0.out)) x15_2 p130 q130
                          obtain rfl : ad128 = ad130 := (by injection e130)
                          replace p130 := eq_true p130
                          replace q130 := eq_true q130
                          go_wp2_with (first | ((with_reducible refine gate_callee (f := 83) rfl ?_); refine goesL_ (some 148) rfl rfl Try.func83 (by kernel_rfl) rfl #[.int .i64 a1, .int .i64 (rd (rd_L1 x11_53 x15_2) x15_2)] rfl gm ?_; (with_reducible refine (spec_l09Inverse.calls kj53 a1 (rd (rd_L1 x11_53 x15_2) x15_2) t131 _ A70.out).mono ?_); rintro e w' ⟨rfl, ⟨nd, rfl⟩⟩; refine ⟨_, rfl, ?_⟩))
                          go_loopg [19] kj53 (fun kq v19 w' => ∃ (x11_5 : List (List Int)) (x19_5 : Int), v19 = .int .i64 x19_5 ∧ Aside0 (spec_l09Solve.l4 kq a1 (wrap64 (2 * (l0_1.length : Int))) (Int.tmod (wrap64 (x10_53 * (rd (rd_L1 x11_53 x15_2) x15_2))) a1) x11_5 x15_2 t131 x19_5 = some (r1, r2)) ∧ Aside0 (kq ≤ kj53) ∧ Aside0 (Kd.S (Kd.slice 2 (Kd.int .i64)) 34 w' w.heap.size (fun _ => True) (.slice (some ad127) x11_53.length co71) x11_5) ∧ Aside0 (w'.heap[gb101]? = some (.cells #[.int .i64 a0_0, (.slice A0_1 l0_1.length c0_1)] 28 (0, 0))) ∧ Aside0 (Below w.heap.size w w'))
                          case atStart => exact ⟨(x11_53), (0), rs, H', ⟨Nat.le_refl _⟩, ⟨by (with_reducible repeat (first | apply Kd.S_alloc | apply Kd.S_drewN | apply Kd.S_drew)); exact HO_11.out⟩, ⟨bk⟩, ⟨bl⟩⟩
                          case round =>
                            clear H'
                            (try clear c1); (try clear p1); (try clear q1); (try clear hx1); (try clear c2); (try clear p2); (try clear q2); (try clear hx2); (try clear c3); (try clear p3); (try clear q3); (try clear hx3); (try clear hf3); (try clear c4); (try clear c5); (try clear c5b0); (try clear c5b1); (try clear c6); (try clear p6); (try clear q6); (try clear hx6); (try clear hf6); (try clear c8); (try clear c11); (try clear c11b0); (try clear p11); (try clear q11); (try clear hx11); (try clear c12); (try clear p12); (try clear q12); (try clear hx12); (try clear c13); (try clear c13b0); (try clear c13b1); (try clear p13); (try clear q13); (try clear hx13); (try clear c14); (try clear c14b0); (try clear c14b1); (try clear c17); (try clear c17b0); (try clear c18); (try clear c18b0); (try clear c19); (try clear c19b0); (try clear c20); (try clear c20b0); (try clear c21); (try clear c21b0); (try clear c23); (try clear c23b0); (try clear p24); (try clear q24); (try clear hx24); (try clear hf24); (try clear c28); (try clear c28b0); (try clear c29); (try clear c29b0); (try clear c30); (try clear c30b0); (try clear c30b1); (try clear p31); (try clear q31); (try clear hx31); (try clear hf31); (try clear c33); (try clear c33b0); (try clear c34); (try clear c34b0); (try clear p35); (try clear q35); (try clear hx35); (try clear hf35); (try clear c36); (try clear c41); (try clear c43); (try clear c43b0); (try clear c45); (try clear c45b0); (try clear c46); (try clear c46b0); (try clear c47); (try clear c47b0); (try clear c48); (try clear c48b0); (try clear c49); (try clear c49b0); (try clear c50); (try clear c50b0); (try clear c50b1); (try clear c53); (try clear c53b0); (try clear c53b1); (try clear c55); (try clear c55b0); (try clear c55b1); (try clear c56); (try clear c56b0); (try clear c57); (try clear c57b0); (try clear c58); (try clear c58b0); (try clear c59); (try clear c59b0); (try clear c60); (try clear p60); (try clear q60); (try clear hx60); (try clear hf60); (try clear p64); (try clear hx64); (try clear hf64); (try clear c66); (try clear c66b0); (try clear c67); (try clear c67b0); (try clear c68); (try clear c68b0); (try clear c69); (try clear c69b0); (try clear c69b1); (try clear hx111_0); (try clear hx112_0); (try clear hx115_0); (try clear hx121_0); (try clear hx122_0); (try clear hx123_0); (try clear hx124_0); (try clear hx127_0); (try clear hx128_0); (try clear hx129_0); (try clear hx130_0); (try clear hx24_0); (try clear hx31_0); (try clear hx35_0); (try clear hx60_0); (try clear hx64_0); (try clear p1); (try clear p11); (try clear p111); (try clear p112); (try clear p115); (try clear p12); (try clear p121); (try clear p122); (try clear p123); (try clear p124); (try clear p127); (try clear p128); (try clear p129); (try clear p130); (try clear p2); (try clear p24); (try clear p3); (try clear p31); (try clear p35); (try clear p6); (try clear p60); (try clear p64); (try clear q1); (try clear q11); (try clear q111); (try clear q112); (try clear q115); (try clear q12); (try clear q121); (try clear q122); (try clear q123); (try clear q124); (try clear q127); (try clear q128); (try clear q129); (try clear q130); (try clear q2); (try clear q24); (try clear q3); (try clear q31); (try clear q35); (try clear q6); (try clear q60)
                            obtain ⟨x11_5, x19_5, rfl, HA, HK5, HO_11, BK101, HB⟩ := hrel
                            have hl11_5 := (Kd.S_reads' HO_11.out).1
                            rw [hl11_5] at HO_11
                            (try simp only [hl11_5])
                            (try simp only [hl11_5] at BK101)
                            cases gk with
                            | zero => exact absurd HA.out (by simp [spec_l09Solve.l4])
                            | succ k5 =>
                              have H := HA.out
                              clear HA
                              simp only [spec_l09Solve.l4] at H
                              by_cases c72 : x19_5 < (wrap64 (2 * (wrap64 (2 * (l0_1.length : Int)))))
                              case neg =>
                                rw [if_neg c72] at H
                                have c72b0 : decide (x19_5 < (wrap64 (2 * (wrap64 (2 * (l0_1.length : Int)))))) = false := decide_eq_false c72
                                (try simp only [hl11_5] at c72b0)
                                clear c72
                                have H' := Aside0.mk H
                                clear H
                                go_wp2
                                go_loopg [21] k5 (fun kq v21 w' => ∃ (x11_6 : List (List Int)) (x21_6 : Int), v21 = .int .i64 x21_6 ∧ Aside0 (spec_l09Solve.l5 kq a1 (wrap64 (2 * (l0_1.length : Int))) (Int.tmod (wrap64 (x10_53 * (rd (rd_L1 x11_53 x15_2) x15_2))) a1) x11_6 x15_2 x21_6 = some (r1, r2)) ∧ Aside0 (kq ≤ k5) ∧ Aside0 (Kd.S (Kd.slice 2 (Kd.int .i64)) 34 w' w.heap.size (fun _ => True) (.slice (some ad127) x11_5.length co71) x11_6) ∧ Aside0 (w'.heap[gb101]? = some (.cells #[.int .i64 a0_0, (.slice A0_1 l0_1.length c0_1)] 28 (0, 0))) ∧ Aside0 (Below w.heap.size w w'))
                                case atStart => exact ⟨(x11_5), (0), rs, H', ⟨Nat.le_refl _⟩, ⟨by (try simp only [hl11_5]); (with_reducible repeat (first | apply Kd.S_alloc | apply Kd.S_drewN | apply Kd.S_drew)); exact HO_11.out⟩, ⟨by (try simp only [hl11_5]); (with_reducible repeat (first | refine blk_drewN ?_ _ | refine blk_drew ?_ | refine blk_alloc ?_ _)); exact BK101.out⟩, ⟨bl⟩⟩
                                case round =>
                                  clear H'
                                  (try clear c1); (try clear p1); (try clear q1); (try clear hx1); (try clear c2); (try clear p2); (try clear q2); (try clear hx2); (try clear c3); (try clear p3); (try clear q3); (try clear hx3); (try clear hf3); (try clear c4); (try clear c5); (try clear c5b0); (try clear c5b1); (try clear c6); (try clear p6); (try clear q6); (try clear hx6); (try clear hf6); (try clear c7); (try clear p7); (try clear q7); (try clear hx7); (try clear hf7); (try clear c8); (try clear c11); (try clear c11b0); (try clear p11); (try clear q11); (try clear hx11); (try clear c12); (try clear p12); (try clear q12); (try clear hx12); (try clear c13); (try clear c13b0); (try clear c13b1); (try clear p13); (try clear q13); (try clear hx13); (try clear c14); (try clear c14b0); (try clear c14b1); (try clear c17); (try clear c17b0); (try clear c18); (try clear c18b0); (try clear c19); (try clear c19b0); (try clear c20); (try clear c20b0); (try clear c21); (try clear c21b0); (try clear c23); (try clear c23b0); (try clear p24); (try clear q24); (try clear hx24); (try clear hf24); (try clear c28); (try clear c28b0); (try clear c29); (try clear c29b0); (try clear c30); (try clear c30b0); (try clear c30b1); (try clear p31); (try clear q31); (try clear hx31); (try clear hf31); (try clear c33); (try clear c33b0); (try clear c34); (try clear c34b0); (try clear p35); (try clear q35); (try clear hx35); (try clear hf35); (try clear c36); (try clear c41); (try clear c43); (try clear c43b0); (try clear c45); (try clear c45b0); (try clear c46); (try clear c46b0); (try clear c47); (try clear c47b0); (try clear c48); (try clear c48b0); (try clear c49); (try clear c49b0); (try clear c50); (try clear c50b0); (try clear c50b1); (try clear c53); (try clear c53b0); (try clear c53b1); (try clear c55); (try clear c55b0); (try clear c55b1); (try clear c56); (try clear c56b0); (try clear c57); (try clear c57b0); (try clear c58); (try clear c58b0); (try clear c59); (try clear c59b0); (try clear c60); (try clear p60); (try clear q60); (try clear hx60); (try clear hf60); (try clear p64); (try clear hx64); (try clear hf64); (try clear c66); (try clear c66b0); (try clear c67); (try clear c67b0); (try clear c68); (try clear c68b0); (try clear c69); (try clear c69b0); (try clear c69b1); (try clear c72); (try clear c72b0); (try clear c73); (try clear c73b0); (try clear c74); (try clear c74b0); (try clear c75); (try clear c75b0); (try clear c76); (try clear c76b0); (try clear c77); (try clear c77b0); (try clear c77b1); (try clear p78); (try clear q78); (try clear hx78); (try clear hf78); (try clear c79); (try clear q79); (try clear hx111_0); (try clear hx112_0); (try clear hx115_0); (try clear hx121_0); (try clear hx122_0); (try clear hx123_0); (try clear hx124_0); (try clear hx127_0); (try clear hx128_0); (try clear hx129_0); (try clear hx130_0); (try clear hx132_0); (try clear hx133_0); (try clear hx24_0); (try clear hx31_0); (try clear hx35_0); (try clear hx60_0); (try clear hx64_0); (try clear hx78_0); (try clear p1); (try clear p11); (try clear p111); (try clear p112); (try clear p115); (try clear p12); (try clear p121); (try clear p122); (try clear p123); (try clear p124); (try clear p127); (try clear p128); (try clear p129); (try clear p13); (try clear p130); (try clear p132); (try clear p133); (try clear p2); (try clear p24); (try clear p3); (try clear p31); (try clear p35); (try clear p6); (try clear p60); (try clear p64); (try clear p78); (try clear q1); (try clear q11); (try clear q111); (try clear q112); (try clear q115); (try clear q12); (try clear q121); (try clear q122); (try clear q123); (try clear q124); (try clear q127); (try clear q128); (try clear q129); (try clear q13); (try clear q130); (try clear q132); (try clear q133); (try clear q2); (try clear q24); (try clear q3); (try clear q31); (try clear q35); (try clear q6); (try clear q60); (try clear q78)
                                  obtain ⟨x11_6, x21_6, rfl, HA, HK6, HO_11, BK101, HB⟩ := hrel
                                  have hl11_6 := (Kd.S_reads' HO_11.out).1
                                  rw [hl11_6] at HO_11
                                  (try simp only [hl11_6])
                                  (try simp only [hl11_6] at BK101)
                                  cases gk with
                                  | zero => exact absurd HA.out (by simp [spec_l09Solve.l5])
                                  | succ k6 =>
                                    have H := HA.out
                                    clear HA
                                    simp only [spec_l09Solve.l5] at H
                                    by_cases c81 : x21_6 < (wrap64 (2 * (l0_1.length : Int)))
                                    case neg =>
                                      rw [if_neg c81] at H
                                      have c81b0 : decide (x21_6 < (wrap64 (2 * (l0_1.length : Int)))) = false := decide_eq_false c81
                                      (try simp only [hl11_5, hl11_6] at c81b0)
                                      clear c81
                                      have H' := Aside0.mk H
                                      clear H
                                      go_wp2
                                      (try simp only [← hl11_5, ← hl11_6])
                                      first | go_roundg k6 | (simp only [← hji105]; go_roundg k6) | (simp only [← hji12]; go_roundg k6) | (simp only [← hji32]; go_roundg k6)
                                      case measure => have := HK1.out; have := HK2.out; have := HJ43.out; have := HJ53.out; have := HK5.out; have := HK6.out; omega
                                      case rel => exact ⟨((Int.tmod (wrap64 (x10_53 * (rd (rd_L1 x11_53 x15_2) x15_2))) a1)), (x11_6), (wrap64 (x15_2 + 1)), rs, rs, (by first | exact H' | (rw [hji105]; exact H') | (rw [hji12]; exact H') | (rw [hji32]; exact H')), ⟨by have := HK1.out; have := HK2.out; have := HJ43.out; have := HJ53.out; have := HK5.out; have := HK6.out; omega⟩, ⟨by (try simp only [hl11_5]); (try simp only [hl11_6]); (with_reducible repeat (first | apply Kd.S_alloc | apply Kd.S_drewN | apply Kd.S_drew)); exact HO_11.out⟩, ⟨by (try simp only [hl11_5]); (try simp only [hl11_6]); (with_reducible repeat (first | refine blk_drewN ?_ _ | refine blk_drew ?_ | refine blk_alloc ?_ _)); exact BK101.out⟩, ⟨bl⟩⟩
                                    rw [if_pos c81] at H
                                    have c81b0 : decide (x21_6 < (wrap64 (2 * (l0_1.length : Int)))) = true := decide_eq_true c81
                                    (try simp only [hl11_5, hl11_6] at c81b0)
                                    clear c81
                                    by_cases c82 : 0 ≤ x21_6
                                    case neg => rw [if_neg c82] at H; exact absurd H (by simp)
                                    rw [if_pos c82] at H
                                    have c82b0 : decide (0 ≤ x21_6) = true := decide_eq_true c82
                                    clear c82
                                    by_cases c83 : x21_6 < (x11_6.length : Int)
                                    case neg => rw [if_neg c83] at H; exact absurd H (by simp)
                                    rw [if_pos c83] at H
                                    have c83b0 : decide (x21_6 < (x11_6.length : Int)) = true := decide_eq_true c83
                                    (try simp only [hl11_5, hl11_6] at c83b0)
                                    clear c83
                                    by_cases c84 : 0 ≤ x15_2
                                    case neg => rw [if_neg c84] at H; exact absurd H (by simp)
                                    rw [if_pos c84] at H
                                    have c84b0 : decide (0 ≤ x15_2) = true := decide_eq_true c84
                                    clear c84
                                    by_cases c85 : x15_2 < ((rd_L1 x11_6 x21_6).length : Int)
                                    case neg => rw [if_neg c85] at H; exact absurd H (by simp)
                                    rw [if_pos c85] at H
                                    have c85b0 : decide (x15_2 < ((rd_L1 x11_6 x21_6).length : Int)) = true := decide_eq_true c85
                                    (try simp only [hl11_5, hl11_6] at c85b0)
                                    clear c85
                                    have H' := Aside0.mk H
                                    clear H
                                    have p137 : 0 ≤ (x21_6 : Int) := oD
                                    have q137 : x21_6 < (x11_6.length : Int) := oD
                                    obtain ⟨ad137, A137_0, c137_0, e137, hx137_0, hl137_0, hi137_0⟩ := at_L1 (Kd.S_reads' HO_11.out).2.2 x21_6 p137 q137
                                    obtain rfl : ad127 = ad137 := (by injection e137)
                                    obtain ⟨ce137, hce137, hMe137, hcc137⟩ := Kd.S_get HO_11.out [] x21_6 p137 (by first | exact q137 | exact oD | (have e_ := (Kd.S_reads' HO_11.out).1; omega))
                                    obtain ⟨ve137_0, rfl, ge137_0⟩ := hMe137
                                    have hv137_0 := hcc137 0 _ rfl
                                    rw [Nat.add_zero, show ((Kd.slice 2 (Kd.int .i64))).sz = 1 from rfl, Nat.mul_one] at hv137_0
                                    replace hv137_0 := Option.some.inj (hv137_0.symm.trans hx137_0)
                                    rw [hv137_0] at ge137_0
                                    have HL137_0 := Aside0.mk (show Kd.R (Kd.int .i64) 2 _ _ _ _ (rd_L1 x11_6 x21_6) from ge137_0)
                                    clear hv137_0 ge137_0
                                    have HX137_0 := Aside0.mk hx137_0
                                    clear hcc137 hce137
                                    have HR137_0 := Aside0.mk hi137_0
                                    have HC137_0 := Aside0.mk hl137_0
                                    clear hi137_0 hl137_0
                                    replace p137 := eq_true p137
                                    replace q137 := eq_true q137
                                    have p138 : 0 ≤ (x15_2 : Int) := oD
                                    have q138 : x15_2 < ((rd_L1 x11_6 x21_6).length : Int) := oD
                                    obtain ⟨ad138, e138, hx138_0⟩ := Kd.at_int (by repeat (first | (with_reducible exact HR137_0.out) | (with_reducible refine Kd.C_alloc ?_ _) | (with_reducible refine Kd.C_drewN ?_ _) | (with_reducible refine Kd.C_drew ?_) | exact HR137_0.out)) x15_2 p138 q138
                                    cases e138
                                    replace p138 := eq_true p138
                                    replace q138 := eq_true q138
                                    go_wp2
                                    go_loopg [23] k6 (fun kq v23 w' => ∃ (x11_7 : List (List Int)) (x23_7 : Int), v23 = .int .i64 x23_7 ∧ Aside0 (spec_l09Solve.l6 kq a1 (wrap64 (2 * (l0_1.length : Int))) (Int.tmod (wrap64 (x10_53 * (rd (rd_L1 x11_53 x15_2) x15_2))) a1) x11_7 x15_2 x21_6 (rd (rd_L1 x11_6 x21_6) x15_2) x23_7 = some (r1, r2)) ∧ Aside0 (kq ≤ k6) ∧ Aside0 (Kd.S (Kd.slice 2 (Kd.int .i64)) 34 w' w.heap.size (fun _ => True) (.slice (some ad127) x11_6.length co71) x11_7) ∧ Aside0 (w'.heap[gb101]? = some (.cells #[.int .i64 a0_0, (.slice A0_1 l0_1.length c0_1)] 28 (0, 0))) ∧ Aside0 (Below w.heap.size w w'))
                                    case atStart => exact ⟨(x11_6), (0), rs, H', ⟨Nat.le_refl _⟩, ⟨by (try simp only [hl11_5]); (try simp only [hl11_6]); (with_reducible repeat (first | apply Kd.S_alloc | apply Kd.S_drewN | apply Kd.S_drew)); exact HO_11.out⟩, ⟨by (try simp only [hl11_5]); (try simp only [hl11_6]); (with_reducible repeat (first | refine blk_drewN ?_ _ | refine blk_drew ?_ | refine blk_alloc ?_ _)); exact BK101.out⟩, ⟨bl⟩⟩
                                    case round =>
                                      clear H'
                                      (try clear c1); (try clear p1); (try clear q1); (try clear hx1); (try clear c2); (try clear p2); (try clear q2); (try clear hx2); (try clear c3); (try clear p3); (try clear q3); (try clear hx3); (try clear hf3); (try clear c4); (try clear c5); (try clear c5b0); (try clear c5b1); (try clear c6); (try clear p6); (try clear q6); (try clear hx6); (try clear hf6); (try clear c7); (try clear p7); (try clear q7); (try clear hx7); (try clear hf7); (try clear c8); (try clear c11); (try clear c11b0); (try clear p11); (try clear q11); (try clear hx11); (try clear c12); (try clear p12); (try clear q12); (try clear hx12); (try clear c13); (try clear c13b0); (try clear c13b1); (try clear p13); (try clear q13); (try clear hx13); (try clear c14); (try clear c14b0); (try clear c14b1); (try clear c17); (try clear c17b0); (try clear c18); (try clear c18b0); (try clear c19); (try clear c19b0); (try clear c20); (try clear c20b0); (try clear c21); (try clear c21b0); (try clear c23); (try clear c23b0); (try clear p24); (try clear q24); (try clear hx24); (try clear hf24); (try clear c28); (try clear c28b0); (try clear c29); (try clear c29b0); (try clear c30); (try clear c30b0); (try clear c30b1); (try clear p31); (try clear q31); (try clear hx31); (try clear hf31); (try clear c33); (try clear c33b0); (try clear c34); (try clear c34b0); (try clear p35); (try clear q35); (try clear hx35); (try clear hf35); (try clear c36); (try clear c41); (try clear c43); (try clear c43b0); (try clear c45); (try clear c45b0); (try clear c46); (try clear c46b0); (try clear c47); (try clear c47b0); (try clear c48); (try clear c48b0); (try clear c49); (try clear c49b0); (try clear c50); (try clear c50b0); (try clear c50b1); (try clear c53); (try clear c53b0); (try clear c53b1); (try clear c55); (try clear c55b0); (try clear c55b1); (try clear c56); (try clear c56b0); (try clear c57); (try clear c57b0); (try clear c58); (try clear c58b0); (try clear c59); (try clear c59b0); (try clear c60); (try clear p60); (try clear q60); (try clear hx60); (try clear hf60); (try clear p64); (try clear hx64); (try clear hf64); (try clear c66); (try clear c66b0); (try clear c67); (try clear c67b0); (try clear c68); (try clear c68b0); (try clear c69); (try clear c69b0); (try clear c69b1); (try clear c72); (try clear c72b0); (try clear c73); (try clear c73b0); (try clear c74); (try clear c74b0); (try clear c75); (try clear c75b0); (try clear c76); (try clear c76b0); (try clear c77); (try clear c77b0); (try clear c77b1); (try clear p78); (try clear q78); (try clear hx78); (try clear hf78); (try clear c79); (try clear q79); (try clear c81); (try clear c81b0); (try clear c82); (try clear c82b0); (try clear c83); (try clear c83b0); (try clear c84); (try clear c84b0); (try clear c85); (try clear c85b0); (try clear hx111_0); (try clear hx112_0); (try clear hx115_0); (try clear hx121_0); (try clear hx122_0); (try clear hx123_0); (try clear hx124_0); (try clear hx127_0); (try clear hx128_0); (try clear hx129_0); (try clear hx130_0); (try clear hx132_0); (try clear hx133_0); (try clear hx137_0); (try clear hx138_0); (try clear hx24_0); (try clear hx31_0); (try clear hx35_0); (try clear hx60_0); (try clear hx64_0); (try clear hx78_0); (try clear p1); (try clear p11); (try clear p111); (try clear p112); (try clear p115); (try clear p12); (try clear p121); (try clear p122); (try clear p123); (try clear p124); (try clear p127); (try clear p128); (try clear p129); (try clear p13); (try clear p130); (try clear p132); (try clear p133); (try clear p137); (try clear p138); (try clear p2); (try clear p24); (try clear p3); (try clear p31); (try clear p35); (try clear p6); (try clear p60); (try clear p64); (try clear p7); (try clear p78); (try clear q1); (try clear q11); (try clear q111); (try clear q112); (try clear q115); (try clear q12); (try clear q121); (try clear q122); (try clear q123); (try clear q124); (try clear q127); (try clear q128); (try clear q129); (try clear q13); (try clear q130); (try clear q132); (try clear q133); (try clear q137); (try clear q138); (try clear q2); (try clear q24); (try clear q3); (try clear q31); (try clear q35); (try clear q6); (try clear q60); (try clear q7); (try clear q78); (try clear q79)
                                      obtain ⟨x11_7, x23_7, rfl, HA, HK7, HO_11, BK101, HB⟩ := hrel
                                      have hl11_7 := (Kd.S_reads' HO_11.out).1
                                      rw [hl11_7] at HO_11
                                      (try simp only [hl11_7])
                                      (try simp only [hl11_7] at BK101)
                                      cases gk with
                                      | zero => exact absurd HA.out (by simp [spec_l09Solve.l6])
                                      | succ k7 =>
                                        have H := HA.out
                                        clear HA
                                        simp only [spec_l09Solve.l6] at H
                                        by_cases c86 : x23_7 < (wrap64 (2 * (wrap64 (2 * (l0_1.length : Int)))))
                                        case neg =>
                                          rw [if_neg c86] at H
                                          have c86b0 : decide (x23_7 < (wrap64 (2 * (wrap64 (2 * (l0_1.length : Int)))))) = false := decide_eq_false c86
                                          (try simp only [hl11_5, hl11_6, hl11_7] at c86b0)
                                          clear c86
                                          have H' := Aside0.mk H
                                          clear H
                                          go_wp2
                                          (try simp only [← hl11_6, ← hl11_7])
                                          first | go_roundg k7 | (simp only [← hji105]; go_roundg k7) | (simp only [← hji12]; go_roundg k7) | (simp only [← hji32]; go_roundg k7)
                                          case measure => have := HK1.out; have := HK2.out; have := HJ43.out; have := HJ53.out; have := HK5.out; have := HK6.out; have := HK7.out; omega
                                          case rel => exact ⟨(x11_7), (wrap64 (x21_6 + 1)), rs, (by first | exact H' | (rw [hji105]; exact H') | (rw [hji12]; exact H') | (rw [hji32]; exact H')), ⟨by have := HK1.out; have := HK2.out; have := HJ43.out; have := HJ53.out; have := HK5.out; have := HK6.out; have := HK7.out; omega⟩, ⟨by (try simp only [hl11_5]); (try simp only [hl11_6]); (try simp only [hl11_7]); (with_reducible repeat (first | apply Kd.S_alloc | apply Kd.S_drewN | apply Kd.S_drew)); exact HO_11.out⟩, ⟨by (try simp only [hl11_5]); (try simp only [hl11_6]); (try simp only [hl11_7]); (with_reducible repeat (first | refine blk_drewN ?_ _ | refine blk_drew ?_ | refine blk_alloc ?_ _)); exact BK101.out⟩, ⟨bl⟩⟩
                                        rw [if_pos c86] at H
                                        have c86b0 : decide (x23_7 < (wrap64 (2 * (wrap64 (2 * (l0_1.length : Int)))))) = true := decide_eq_true c86
                                        (try simp only [hl11_5, hl11_6, hl11_7] at c86b0)
                                        clear c86
                                        by_cases c87 : x21_6 = x15_2
                                        case neg =>
                                          rw [if_neg c87] at H
                                          have c87b0 : (x21_6 == x15_2) = false := beq_eq_false_iff_ne.mpr c87
                                          have c87b1 : (x21_6 != x15_2) = true := bne_iff_ne.mpr c87
                                          by_cases c88 : 0 ≤ x21_6
                                          case neg => rw [if_neg c88] at H; exact absurd H (by simp)
                                          rw [if_pos c88] at H
                                          have c88b0 : decide (0 ≤ x21_6) = true := decide_eq_true c88
                                          clear c88
                                          by_cases c89 : x21_6 < (x11_7.length : Int)
                                          case neg => rw [if_neg c89] at H; exact absurd H (by simp)
                                          rw [if_pos c89] at H
                                          have c89b0 : decide (x21_6 < (x11_7.length : Int)) = true := decide_eq_true c89
                                          (try simp only [hl11_5, hl11_6, hl11_7] at c89b0)
                                          clear c89
                                          by_cases c90 : 0 ≤ x23_7
                                          case neg => rw [if_neg c90] at H; exact absurd H (by simp)
                                          rw [if_pos c90] at H
                                          have c90b0 : decide (0 ≤ x23_7) = true := decide_eq_true c90
                                          clear c90
                                          by_cases c91 : x23_7 < ((rd_L1 x11_7 x21_6).length : Int)
                                          case neg => rw [if_neg c91] at H; exact absurd H (by simp)
                                          rw [if_pos c91] at H
                                          have c91b0 : decide (x23_7 < ((rd_L1 x11_7 x21_6).length : Int)) = true := decide_eq_true c91
                                          (try simp only [hl11_5, hl11_6, hl11_7] at c91b0)
                                          clear c91
                                          by_cases c92 : 0 ≤ x15_2
                                          case neg => rw [if_neg c92] at H; exact absurd H (by simp)
                                          rw [if_pos c92] at H
                                          have c92b0 : decide (0 ≤ x15_2) = true := decide_eq_true c92
                                          clear c92
                                          by_cases c93 : x15_2 < (x11_7.length : Int)
                                          case neg => rw [if_neg c93] at H; exact absurd H (by simp)
                                          rw [if_pos c93] at H
                                          have c93b0 : decide (x15_2 < (x11_7.length : Int)) = true := decide_eq_true c93
                                          (try simp only [hl11_5, hl11_6, hl11_7] at c93b0)
                                          clear c93
                                          by_cases c94 : x23_7 < ((rd_L1 x11_7 x15_2).length : Int)
                                          case neg => rw [if_neg c94] at H; exact absurd H (by simp)
                                          rw [if_pos c94] at H
                                          have c94b0 : decide (x23_7 < ((rd_L1 x11_7 x15_2).length : Int)) = true := decide_eq_true c94
                                          (try simp only [hl11_5, hl11_6, hl11_7] at c94b0)
                                          clear c94
                                          replace H := Option.bind_eq_some_iff.mp H
                                          obtain ⟨t143, A950, H⟩ := H
                                          replace H : (spec_l09Solve.l6 k7 a1 (wrap64 (2 * (l0_1.length : Int))) (Int.tmod (wrap64 (x10_53 * (rd (rd_L1 x11_53 x15_2) x15_2))) a1) (x11_7.set (x21_6 : Int).toNat ((rd_L1 x11_7 x21_6).set (x23_7 : Int).toNat t143)) x15_2 x21_6 (rd (rd_L1 x11_6 x21_6) x15_2) (wrap64 (x23_7 + 1))) = some (r1, r2) := H
                                          have A95 := Aside0.mk A950
                                          clear A950
                                          obtain ⟨y144, hy144⟩ : ∃ y_ : List Int, y_ = ((rd_L1 x11_7 x21_6).set (x23_7 : Int).toNat t143) := ⟨_, rfl⟩
                                          replace H : (spec_l09Solve.l6 k7 a1 (wrap64 (2 * (l0_1.length : Int))) (Int.tmod (wrap64 (x10_53 * (rd (rd_L1 x11_53 x15_2) x15_2))) a1) (x11_7.set (x21_6 : Int).toNat y144) x15_2 x21_6 (rd (rd_L1 x11_6 x21_6) x15_2) (wrap64 (x23_7 + 1))) = some (r1, r2) := by first | (rw [hy144]; with_reducible exact H) | (have H2_ := (Option.bind_some _ _).symm.trans H; rw [hy144]; with_reducible exact H2_) | (have H2_ := (Option.bind_some _ _).symm.trans H; with_reducible exact H2_) | with_reducible exact H | (rw [hy144]; exact H) | exact H
                                          have Ny144 := Aside0.mk hy144
                                          clear hy144
                                          obtain ⟨y146, hy146⟩ : ∃ y_ : List (List Int), y_ = (x11_7.set (x21_6 : Int).toNat y144) := ⟨_, rfl⟩
                                          replace H : (spec_l09Solve.l6 k7 a1 (wrap64 (2 * (l0_1.length : Int))) (Int.tmod (wrap64 (x10_53 * (rd (rd_L1 x11_53 x15_2) x15_2))) a1) y146 x15_2 x21_6 (rd (rd_L1 x11_6 x21_6) x15_2) (wrap64 (x23_7 + 1))) = some (r1, r2) := by first | (rw [hy146]; with_reducible exact H) | (have H2_ := (Option.bind_some _ _).symm.trans H; rw [hy146]; with_reducible exact H2_) | (have H2_ := (Option.bind_some _ _).symm.trans H; with_reducible exact H2_) | with_reducible exact H | (rw [hy146]; exact H) | exact H
                                          have Ny146 := Aside0.mk hy146
                                          clear hy146
                                          have H' := Aside0.mk H
                                          clear H
                                          have p139 : 0 ≤ (x21_6 : Int) := oD
                                          have q139 : x21_6 < (x11_7.length : Int) := oD
                                          obtain ⟨ad139, A139_0, c139_0, e139, hx139_0, hl139_0, hi139_0⟩ := at_L1 (Kd.S_reads' HO_11.out).2.2 x21_6 p139 q139
                                          obtain rfl : ad127 = ad139 := (by injection e139)
                                          obtain ⟨ce139, hce139, hMe139, hcc139⟩ := Kd.S_get HO_11.out [] x21_6 p139 (by first | exact q139 | exact oD | (have e_ := (Kd.S_reads' HO_11.out).1; omega))
                                          obtain ⟨ve139_0, rfl, ge139_0⟩ := hMe139
                                          have hv139_0 := hcc139 0 _ rfl
                                          rw [Nat.add_zero, show ((Kd.slice 2 (Kd.int .i64))).sz = 1 from rfl, Nat.mul_one] at hv139_0
                                          replace hv139_0 := Option.some.inj (hv139_0.symm.trans hx139_0)
                                          rw [hv139_0] at ge139_0
                                          have HL139_0 := Aside0.mk (show Kd.R (Kd.int .i64) 2 _ _ _ _ (rd_L1 x11_7 x21_6) from ge139_0)
                                          clear hv139_0 ge139_0
                                          have HX139_0 := Aside0.mk hx139_0
                                          clear hcc139 hce139
                                          have HR139_0 := Aside0.mk hi139_0
                                          have HC139_0 := Aside0.mk hl139_0
                                          clear hi139_0 hl139_0
                                          replace p139 := eq_true p139
                                          replace q139 := eq_true q139
                                          try go_wp2
                                          have n0_ := Aside0.mk (Kd.S_drew HO_11.out)
                                          have n1_ := Aside0.mk (Kd.R_drew HL139_0.out)
                                          have n2_ := Aside0.mk (blk_drew BK101.out)
                                          have n3_ := Aside0.mk (Kd.C_drew HR139_0.out)
                                          have n4_ := Aside0.mk ((show (wr.drew).cell? _ = some _ from HX139_0.out))
                                          have n5_ := Aside0.mk (below_drew1 HB.out)
                                          clear HO_11
                                          clear HL139_0
                                          clear BK101
                                          clear HR139_0
                                          clear HX139_0
                                          clear HB
                                          have HO_11 := n0_
                                          have HL139_0 := n1_
                                          have BK101 := n2_
                                          have HR139_0 := n3_
                                          have HX139_0 := n4_
                                          have HB := n5_
                                          clear n0_ n1_ n2_ n3_ n4_ n5_
                                          have p140 : 0 ≤ (x23_7 : Int) := oD
                                          have q140 : x23_7 < ((rd_L1 x11_7 x21_6).length : Int) := oD
                                          obtain ⟨ad140, e140, hx140_0⟩ := Kd.at_int (by repeat (first | (with_reducible exact HR139_0.out) | (with_reducible refine Kd.C_alloc ?_ _) | (with_reducible refine Kd.C_drewN ?_ _) | (with_reducible refine Kd.C_drew ?_) | exact HR139_0.out)) x23_7 p140 q140
                                          cases e140
                                          replace p140 := eq_true p140
                                          replace q140 := eq_true q140
                                          have p141 : 0 ≤ (x15_2 : Int) := oD
                                          have q141 : x15_2 < (x11_7.length : Int) := oD
                                          obtain ⟨ad141, A141_0, c141_0, e141, hx141_0, hl141_0, hi141_0⟩ := at_L1 (Kd.S_reads' HO_11.out).2.2 x15_2 p141 q141
                                          obtain rfl : ad127 = ad141 := (by injection e141)
                                          obtain ⟨ce141, hce141, hMe141, hcc141⟩ := Kd.S_get HO_11.out [] x15_2 p141 (by first | exact q141 | exact oD | (have e_ := (Kd.S_reads' HO_11.out).1; omega))
                                          obtain ⟨ve141_0, rfl, ge141_0⟩ := hMe141
                                          have hv141_0 := hcc141 0 _ rfl
                                          rw [Nat.add_zero, show ((Kd.slice 2 (Kd.int .i64))).sz = 1 from rfl, Nat.mul_one] at hv141_0
                                          replace hv141_0 := Option.some.inj (hv141_0.symm.trans hx141_0)
                                          rw [hv141_0] at ge141_0
                                          have HL141_0 := Aside0.mk (show Kd.R (Kd.int .i64) 2 _ _ _ _ (rd_L1 x11_7 x15_2) from ge141_0)
                                          clear hv141_0 ge141_0
                                          have HX141_0 := Aside0.mk hx141_0
                                          clear hcc141 hce141
                                          have HR141_0 := Aside0.mk hi141_0
                                          have HC141_0 := Aside0.mk hl141_0
                                          clear hi141_0 hl141_0
                                          replace p141 := eq_true p141
                                          replace q141 := eq_true q141
                                          have p142 : 0 ≤ (x23_7 : Int) := oD
                                          have q142 : x23_7 < ((rd_L1 x11_7 x15_2).length : Int) := oD
                                          obtain ⟨ad142, e142, hx142_0⟩ := Kd.at_int (by repeat (first | (with_reducible exact HR141_0.out) | (with_reducible refine Kd.C_alloc ?_ _) | (with_reducible refine Kd.C_drewN ?_ _) | (with_reducible refine Kd.C_drew ?_) | exact HR141_0.out)) x23_7 p142 q142
                                          cases e142
                                          replace p142 := eq_true p142
                                          replace q142 := eq_true q142
                                          refine start_ (n := 20) (S := fun w' => w'.cell? (ad140.add (x23_7).toNat) = some (.int .i64 (rd (rd_L1 x11_7 x21_6) x23_7)) ∧ w'.cell? (ad127.add (x15_2).toNat) = some (.slice (some ad142) (rd_L1 x11_7 x15_2).length c141_0) ∧ w'.cell? (ad142.add (x23_7).toNat) = some (.int .i64 (rd (rd_L1 x11_7 x15_2) x23_7))) (ds := [19]) #[false, false, false, false, false, false, false, false, false, false, false, false, false, false, false, false, false, false, false, false] (by kernel_rfl) rfl rfl ⟨hx140_0, hx141_0, hx142_0⟩ (fun hHeld => ?_); refine with_tabW spec_l09Solve.tab42 spec_l09Solve.bits42 (fun HT_ HW_ => ?_)
                                          generalize wr.drew = w97 at HO_11 HL139_0 BK101 HR139_0 HX139_0 HB HL141_0 HR141_0 HX141_0 hx140_0 hx141_0 hx142_0 hHeld ⊢
                                          refine pure_ (i := 0) (N := some 197) (v := ?_) (a' := ?_) #[true, false, false, false, false, false, false, false, false, false, false, false, false, false, false, false, false, false, false, false] rfl rfl (any_of HT_.out (by kernel_rfl)) (fun _ _ _ h => h) (Or.inl ⟨by rfl, ?_⟩) ?_ ?_
                                          rotate_left; · intro w'; go_simp; with_reducible rfl
                                          rotate_left; · simp only [Act.put, zI, zZ, zS, i64_w, i32_w]; rfl
                                          refine pure_ (i := 1) (N := some 198) (v := ?_) (a' := ?_) #[true, true, false, false, false, false, false, false, false, false, false, false, false, false, false, false, false, false, false, false] rfl rfl (any_of HT_.out (by kernel_rfl)) (fun _ _ _ h => h) (Or.inl ⟨by rfl, ?_⟩) ?_ ?_
                                          rotate_left; · intro w'; go_simp; with_reducible rfl
                                          rotate_left; · simp only [Act.put, zI, zZ, zS, i64_w, i32_w]; rfl
                                          refine pure_ (i := 2) (N := some 199) (v := ?_) (a' := ?_) #[true, true, true, false, false, false, false, false, false, false, false, false, false, false, false, false, false, false, false, false] rfl rfl (any_of HT_.out (by kernel_rfl)) (fun _ _ _ h => h) (Or.inl ⟨by rfl, ?_⟩) ?_ ?_
                                          rotate_left; · intro w'; go_simp; with_reducible rfl
                                          rotate_left; · simp only [Act.put, zI, zZ, zS, i64_w, i32_w]; rfl
                                          refine pure_ (i := 3) (N := some 200) (v := ?_) (a' := ?_) #[true, true, true, true, false, false, false, false, false, false, false, false, false, false, false, false, false, false, false, false] rfl rfl (any_of HT_.out (by kernel_rfl)) (fun _ _ _ h => h) (Or.inl ⟨by rfl, ?_⟩) ?_ ?_
                                          rotate_left; · intro w'; go_simp; with_reducible rfl
                                          rotate_left; · simp only [Act.put, zI, zZ, zS, i64_w, i32_w]; rfl
                                          refine pure_ (i := 4) (N := some 201) (v := ?_) (a' := ?_) #[true, true, true, true, true, false, false, false, false, false, false, false, false, false, false, false, false, false, false, false] rfl rfl (any_of HT_.out (by kernel_rfl)) (fun _ _ _ h => h) (Or.inl ⟨by rfl, ?_⟩) ?_ ?_
                                          rotate_left; · intro w'; go_simp; with_reducible rfl
                                          rotate_left; · simp only [Act.put, zI, zZ, zS, i64_w, i32_w]; rfl
                                          refine pure_ (i := 5) (N := some 202) (v := ?_) (a' := ?_) #[true, true, true, true, true, true, false, false, false, false, false, false, false, false, false, false, false, false, false, false] rfl rfl (any_of HT_.out (by kernel_rfl)) (fun _ _ _ h => h) (Or.inl ⟨by rfl, ?_⟩) ?_ ?_
                                          rotate_left; · intro w'; go_simp; with_reducible rfl
                                          rotate_left; · simp only [Act.put, zI, zZ, zS, i64_w, i32_w]; rfl
                                          refine pure_ (i := 7) (N := some 204) (v := ?_) (a' := ?_) #[true, true, true, true, true, true, false, true, false, false, false, false, false, false, false, false, false, false, false, false] rfl rfl (any_of HT_.out (by kernel_rfl)) (fun _ _ _ h => h) (Or.inl ⟨by rfl, ?_⟩) ?_ ?_
                                          rotate_left; · intro w'; go_simp; with_reducible rfl
                                          rotate_left; · simp only [Act.put, zI, zZ, zS, i64_w, i32_w]; rfl
                                          refine pure_ (i := 8) (N := some 205) (v := ?_) (a' := ?_) #[true, true, true, true, true, true, false, true, true, false, false, false, false, false, false, false, false, false, false, false] rfl rfl (any_of HT_.out (by kernel_rfl)) (fun _ _ _ h => h) (Or.inl ⟨by rfl, ?_⟩) ?_ ?_
                                          rotate_left; · intro w'; go_simp; with_reducible rfl
                                          rotate_left; · simp only [Act.put, zI, zZ, zS, i64_w, i32_w]; rfl
                                          refine pure_ (i := 9) (N := some 206) (v := ?_) (a' := ?_) #[true, true, true, true, true, true, false, true, true, true, false, false, false, false, false, false, false, false, false, false] rfl rfl (any_of HT_.out (by kernel_rfl)) (fun _ _ _ h => h) (Or.inl ⟨by rfl, ?_⟩) ?_ ?_
                                          rotate_left; · intro w'; go_simp; with_reducible rfl
                                          rotate_left; · simp only [Act.put, zI, zZ, zS, i64_w, i32_w]; rfl
                                          refine pure_ (i := 10) (N := some 207) (v := ?_) (a' := ?_) #[true, true, true, true, true, true, false, true, true, true, true, false, false, false, false, false, false, false, false, false] rfl rfl (any_of HT_.out (by kernel_rfl)) (fun _ _ _ h => h) (Or.inl ⟨by rfl, ?_⟩) ?_ ?_
                                          rotate_left; · intro w'; go_simp; with_reducible rfl
                                          rotate_left; · simp only [Act.put, zI, zZ, zS, i64_w, i32_w]; rfl
                                          refine pure_ (i := 12) (N := some 209) (v := ?_) (a' := ?_) #[true, true, true, true, true, true, false, true, true, true, true, false, true, false, false, false, false, false, false, false] rfl rfl (any_of HT_.out (by kernel_rfl)) (fun _ _ _ h => h) (Or.inl ⟨by rfl, ?_⟩) ?_ ?_
                                          rotate_left; · intro w'; go_simp; with_reducible rfl
                                          rotate_left; · simp only [Act.put, zI, zZ, zS, i64_w, i32_w]; rfl
                                          refine take_ (i := 6) (N := some 203) (v := ?_) (a' := ?_) #[true, true, true, true, true, true, true, true, true, true, true, false, true, false, false, false, false, false, false, false] rfl rfl (take_ofW HT_.out HW_.out (by kernel_rfl)) (fun _ _ _ h => h) (Or.inl ⟨by rfl, ?_⟩) hHeld ?_ ?_
                                          rotate_left; · rintro w' ⟨s0, s1, s2⟩; go_simp; with_reducible rfl
                                          rotate_left; · simp only [Act.put, zI, zZ, zS, i64_w, i32_w]; rfl
                                          refine take_ (i := 11) (N := some 208) (v := ?_) (a' := ?_) #[true, true, true, true, true, true, true, true, true, true, true, true, true, false, false, false, false, false, false, false] rfl rfl (take_ofW HT_.out HW_.out (by kernel_rfl)) (fun _ _ _ h => h) (Or.inl ⟨by rfl, ?_⟩) hHeld ?_ ?_
                                          rotate_left; · rintro w' ⟨s0, s1, s2⟩; go_simp; with_reducible rfl
                                          rotate_left; · simp only [Act.put, zI, zZ, zS, i64_w, i32_w]; rfl
                                          refine pure_ (i := 13) (N := some 210) (v := ?_) (a' := ?_) #[true, true, true, true, true, true, true, true, true, true, true, true, true, true, false, false, false, false, false, false] rfl rfl (any_of HT_.out (by kernel_rfl)) (fun _ _ _ h => h) (Or.inl ⟨by rfl, ?_⟩) ?_ ?_
                                          rotate_left; · intro w'; go_simp; with_reducible rfl
                                          rotate_left; · simp only [Act.put, zI, zZ, zS, i64_w, i32_w]; rfl
                                          refine take_ (i := 14) (N := some 211) (v := ?_) (a' := ?_) #[true, true, true, true, true, true, true, true, true, true, true, true, true, true, true, false, false, false, false, false] rfl rfl (take_ofW HT_.out HW_.out (by kernel_rfl)) (fun _ _ _ h => h) (Or.inl ⟨by rfl, ?_⟩) hHeld ?_ ?_
                                          rotate_left; · rintro w' ⟨s0, s1, s2⟩; go_simp; with_reducible rfl
                                          rotate_left; · simp only [Act.put, zI, zZ, zS, i64_w, i32_w]; rfl
                                          refine pure_ (i := 15) (N := some 212) (v := ?_) (a' := ?_) #[true, true, true, true, true, true, true, true, true, true, true, true, true, true, true, true, false, false, false, false] rfl rfl (any_of HT_.out (by kernel_rfl)) (fun _ _ _ h => h) (Or.inl ⟨by rfl, ?_⟩) ?_ ?_
                                          rotate_left; · intro w'; go_simp; with_reducible rfl
                                          rotate_left; · simp only [Act.put, zI, zZ, zS, i64_w, i32_w]; rfl
                                          refine pure_ (i := 16) (N := some 213) (v := ?_) (a' := ?_) #[true, true, true, true, true, true, true, true, true, true, true, true, true, true, true, true, true, false, false, false] rfl rfl (any_of HT_.out (by kernel_rfl)) (fun _ _ _ h => h) (Or.inl ⟨by rfl, ?_⟩) ?_ ?_
                                          rotate_left; · intro w'; go_simp; with_reducible rfl
                                          rotate_left; · simp only [Act.put, zI, zZ, zS, i64_w, i32_w]; rfl
                                          refine one_ (i := 17) (N := some 214) #[true, true, true, true, true, true, true, true, true, true, true, true, true, true, true, true, true, true, false, false] rfl rfl (one_of HT_.out (by kernel_rfl)) (by decide) (fun K hK => ?_)
                                          refine goes_ Try.func82 (by kernel_rfl) rfl #[.int .i64 a1, .int .i64 (wrap64 ((rd (rd_L1 x11_7 x21_6) x23_7) - (wrap64 ((rd (rd_L1 x11_6 x21_6) x15_2) * (rd (rd_L1 x11_7 x15_2) x23_7)))))] (by rfl) rfl rfl gm ?_
                                          with_reducible refine (spec_l09Mod.calls a1 (wrap64 ((rd (rd_L1 x11_7 x21_6) x23_7) - (wrap64 ((rd (rd_L1 x11_6 x21_6) x15_2) * (rd (rd_L1 x11_7 x15_2) x23_7))))) t143 _ A95.out).mono ?_
                                          rintro e w' ⟨rfl, ⟨nd, rfl⟩⟩
                                          refine ⟨_, rfl, ?_⟩
                                          have p96 : 0 ≤ (x23_7 : Int) := oD
                                          have q96 : (x23_7 : Int) < (((rd_L1 x11_7 x21_6).length : Int) : Int) := oD
                                          obtain ⟨go96, co96, eo96, gb96, gl96, cl96, HG96⟩ := Kd.R_form HL139_0.out (by omega)
                                          (first | cases eo96 | (injection eo96 with ea_ en_ ec_; (first | subst ea_ | (injection ea_ with ea_; subst ea_)); subst ec_; clear en_))
                                          (first | simp only [add_plain] at hx140_0 | skip)
                                          have GB96 := Aside0.mk gb96
                                          have GG96 := Aside0.mk HG96
                                          clear gb96 gl96 HG96
                                          (first | simp only [add_plain] at hx140_0 | skip)
                                          obtain ⟨hx96_0, hf96_0⟩ := Kd.R_celln 0 HL139_0.out (x23_7 : Int) p96 q96
                                          replace p96 := eq_true p96
                                          replace q96 := eq_true q96
                                          have hq98 : (x21_6 : Int) < (x11_7.length : Int) := (by have h_ : (x21_6 : Int) < ((x11_7.length : Int) : Int) := oD; first | exact h_ | (have e_ := (Kd.S_reads' HO_11.out).1; omega) | simpa only [List.length_set, List.length_set] using h_)
                                          obtain ⟨oki98, ce98, hcl98, hM98, hcc98, hok98, hbk98⟩ := Kd.S_borrow HO_11.out [] (x21_6 : Int) oD (by first | exact hq98 | (have e_ := (Kd.S_reads' HO_11.out).1; omega))
                                          obtain ⟨ve98_0, rfl, ge98_0⟩ := hM98
                                          have hv98 := hcc98 0 _ rfl
                                          rw [Nat.add_zero, show ((Kd.slice 2 (Kd.int .i64))).sz = 1 from rfl, Nat.mul_one] at hv98
                                          replace hv98 := Option.some.inj (hv98.symm.trans HX139_0.out)
                                          subst hv98
                                          clear hcc98 hcl98
                                          replace ge98_0 := (show Kd.R (Kd.int .i64) 2 _ _ _ _ (rd_L1 x11_7 x21_6) from ge98_0)
                                          have HP98 := Kd.R_putg ge98_0 (x23_7 : Int) t143
                                          have HXp98 := Aside0.mk (cell_grown HP98.2 HX139_0.out (cell_ne (hok98 _ (ge98_0.1 _ rfl)).2))
                                          rw [← Ny144.out] at HP98
                                          have HPr98 := Aside0.mk HP98.1
                                          have HS98 := hbk98 HP98.2 (fun k_ e_ => by injection e_ with e_; subst e_; exact ge98_0.1 _ rfl) (x' := y144) (Kd.M_row HP98.1)
                                          rw [← Ny146.out] at HS98
                                          have HQ98 := Aside0.mk HS98
                                          clear HP98 HS98 hbk98 hok98
                                          refine hK.out _ _ ⟨hHeld.1, hHeld.2.1, hHeld.2.2⟩ (fun hHeld => ?_)
                                          clear hK K
                                          refine norm_ (a' := ?_) ?_ ?_
                                          rotate_left; · show Act.put _ (some 214) _ = _; simp only [Act.put, zI, zZ, zS, i64_w, i32_w]; rfl
                                          refine pure_ (i := 18) (N := some 215) (v := ?_) (a' := ?_) #[true, true, true, true, true, true, true, true, true, true, true, true, true, true, true, true, true, true, true, false] rfl rfl (any_of HT_.out (by kernel_rfl)) (fun _ _ _ h => h) (Or.inl ⟨by rfl, ?_⟩) ?_ ?_
                                          rotate_left; · intro w'; go_simp; with_reducible rfl
                                          rotate_left; · simp only [Act.put, zI, zZ, zS, i64_w, i32_w]; rfl
                                          refine last_ (i := 19) (N := none) #[true, true, true, true, true, true, true, true, true, true, true, true, true, true, true, true, true, true, true, true] rfl rfl (one_of HT_.out (by kernel_rfl)) (by decide) (fun K hK => ?_)
                                          refine skip_ (w1 := ?_) (by rfl) rfl ?_ ?_
                                          rotate_left; · go_simp; rfl
                                          refine hK.out _ _ ?_
                                          clear hK K
                                          refine done_ (done_of HT_.out (by kernel_rfl)) ?_
                                          try go_wp2
                                          (try simp only [← hl11_7])
                                          first | go_roundg k7 | (simp only [← hji105]; go_roundg k7) | (simp only [← hji12]; go_roundg k7) | (simp only [← hji32]; go_roundg k7)
                                          case measure => have := HK1.out; have := HK2.out; have := HJ43.out; have := HJ53.out; have := HK5.out; have := HK6.out; have := HK7.out; omega
                                          case rel => exact ⟨(y146), (wrap64 (x23_7 + 1)), rs, (by first | exact H' | (rw [hji105]; exact H') | (rw [hji12]; exact H') | (rw [hji32]; exact H')), ⟨by have := HK1.out; have := HK2.out; have := HJ43.out; have := HJ53.out; have := HK5.out; have := HK6.out; have := HK7.out; omega⟩, ⟨by (try simp only [hl11_5]); (try simp only [hl11_6]); (try simp only [hl11_7]); (with_reducible repeat (first | apply Kd.S_alloc | apply Kd.S_drewN | apply Kd.S_drew)); exact HQ98.out⟩, ⟨by (try simp only [hl11_5]); (try simp only [hl11_6]); (try simp only [hl11_7]); (with_reducible repeat (first | refine blk_drewN ?_ _ | refine blk_drew ?_ | refine blk_alloc ?_ _)); refine blk_far ?_ (by have h_ := Kd.R_ne HL139_0.out BK101.out (by decide); intro e_; exact h_ (by rw [e_]; rfl)) _; (with_reducible repeat (first | refine blk_drewN ?_ _ | refine blk_drew ?_ | refine blk_alloc ?_ _)); exact BK101.out⟩, ⟨by repeat (first | (with_reducible first | exact HB.out | apply below_alloc | apply pw_below_drewN | apply below_drew1 | refine below_set ?_ GB96.out | refine below_set ?_ GE101.out) | exact HB.out)⟩⟩
                                        rw [if_pos c87] at H
                                        have c87b0 : (x21_6 == x15_2) = true := beq_iff_eq.mpr c87
                                        have c87b1 : (x21_6 != x15_2) = false := bne_eq_false_iff_eq.mpr c87
                                        clear c87
                                        have H' := Aside0.mk H
                                        clear H
                                        go_wp2
                                        (try simp only [← hl11_6, ← hl11_7])
                                        first | go_roundg k7 | (simp only [← hji105]; go_roundg k7) | (simp only [← hji12]; go_roundg k7) | (simp only [← hji32]; go_roundg k7)
                                        case measure => have := HK1.out; have := HK2.out; have := HJ43.out; have := HJ53.out; have := HK5.out; have := HK6.out; have := HK7.out; omega
                                        case rel => exact ⟨(x11_7), (wrap64 (x21_6 + 1)), rs, (by first | exact H' | (rw [hji105]; exact H') | (rw [hji12]; exact H') | (rw [hji32]; exact H')), ⟨by have := HK1.out; have := HK2.out; have := HJ43.out; have := HJ53.out; have := HK5.out; have := HK6.out; have := HK7.out; omega⟩, ⟨by (try simp only [hl11_5]); (try simp only [hl11_6]); (try simp only [hl11_7]); (with_reducible repeat (first | apply Kd.S_alloc | apply Kd.S_drewN | apply Kd.S_drew)); exact HO_11.out⟩, ⟨by (try simp only [hl11_5]); (try simp only [hl11_6]); (try simp only [hl11_7]); (with_reducible repeat (first | refine blk_drewN ?_ _ | refine blk_drew ?_ | refine blk_alloc ?_ _)); exact BK101.out⟩, ⟨bl⟩⟩
                              rw [if_pos c72] at H
                              have c72b0 : decide (x19_5 < (wrap64 (2 * (wrap64 (2 * (l0_1.length : Int)))))) = true := decide_eq_true c72
                              (try simp only [hl11_5] at c72b0)
                              clear c72
                              by_cases c73 : 0 ≤ x15_2
                              case neg => rw [if_neg c73] at H; exact absurd H (by simp)
                              rw [if_pos c73] at H
                              have c73b0 : decide (0 ≤ x15_2) = true := decide_eq_true c73
                              clear c73
                              by_cases c74 : x15_2 < (x11_5.length : Int)
                              case neg => rw [if_neg c74] at H; exact absurd H (by simp)
                              rw [if_pos c74] at H
                              have c74b0 : decide (x15_2 < (x11_5.length : Int)) = true := decide_eq_true c74
                              (try simp only [hl11_5] at c74b0)
                              clear c74
                              by_cases c75 : 0 ≤ x19_5
                              case neg => rw [if_neg c75] at H; exact absurd H (by simp)
                              rw [if_pos c75] at H
                              have c75b0 : decide (0 ≤ x19_5) = true := decide_eq_true c75
                              clear c75
                              by_cases c76 : x19_5 < ((rd_L1 x11_5 x15_2).length : Int)
                              case neg => rw [if_neg c76] at H; exact absurd H (by simp)
                              rw [if_pos c76] at H
                              have c76b0 : decide (x19_5 < ((rd_L1 x11_5 x15_2).length : Int)) = true := decide_eq_true c76
                              (try simp only [hl11_5] at c76b0)
                              clear c76
                              by_cases c77 : a1 = 0
                              case neg =>
                                rw [if_neg c77] at H
                                have c77b0 : (a1 == 0) = false := beq_eq_false_iff_ne.mpr c77
                                have c77b1 : (a1 != 0) = true := bne_iff_ne.mpr c77
                                obtain ⟨y134, hy134⟩ : ∃ y_ : List Int, y_ = ((rd_L1 x11_5 x15_2).set (x19_5 : Int).toNat (Int.tmod (wrap64 ((rd (rd_L1 x11_5 x15_2) x19_5) * t131)) a1)) := ⟨_, rfl⟩
                                replace H : (spec_l09Solve.l4 k5 a1 (wrap64 (2 * (l0_1.length : Int))) (Int.tmod (wrap64 (x10_53 * (rd (rd_L1 x11_53 x15_2) x15_2))) a1) (x11_5.set (x15_2 : Int).toNat y134) x15_2 t131 (wrap64 (x19_5 + 1))) = some (r1, r2) := by first | (rw [hy134]; with_reducible exact H) | (have H2_ := (Option.bind_some _ _).symm.trans H; rw [hy134]; with_reducible exact H2_) | (have H2_ := (Option.bind_some _ _).symm.trans H; with_reducible exact H2_) | with_reducible exact H | (rw [hy134]; exact H) | exact H
                                have Ny134 := Aside0.mk hy134
                                clear hy134
                                obtain ⟨y136, hy136⟩ : ∃ y_ : List (List Int), y_ = (x11_5.set (x15_2 : Int).toNat y134) := ⟨_, rfl⟩
                                replace H : (spec_l09Solve.l4 k5 a1 (wrap64 (2 * (l0_1.length : Int))) (Int.tmod (wrap64 (x10_53 * (rd (rd_L1 x11_53 x15_2) x15_2))) a1) y136 x15_2 t131 (wrap64 (x19_5 + 1))) = some (r1, r2) := by first | (rw [hy136]; with_reducible exact H) | (have H2_ := (Option.bind_some _ _).symm.trans H; rw [hy136]; with_reducible exact H2_) | (have H2_ := (Option.bind_some _ _).symm.trans H; with_reducible exact H2_) | with_reducible exact H | (rw [hy136]; exact H) | exact H
                                have Ny136 := Aside0.mk hy136
                                clear hy136
                                have H' := Aside0.mk H
                                clear H
                                have p132 : 0 ≤ (x15_2 : Int) := oD
                                have q132 : x15_2 < (x11_5.length : Int) := oD
                                obtain ⟨ad132, A132_0, c132_0, e132, hx132_0, hl132_0, hi132_0⟩ := at_L1 (Kd.S_reads' HO_11.out).2.2 x15_2 p132 q132
                                obtain rfl : ad127 = ad132 := (by injection e132)
                                obtain ⟨ce132, hce132, hMe132, hcc132⟩ := Kd.S_get HO_11.out [] x15_2 p132 (by first | exact q132 | exact oD | (have e_ := (Kd.S_reads' HO_11.out).1; omega))
                                obtain ⟨ve132_0, rfl, ge132_0⟩ := hMe132
                                have hv132_0 := hcc132 0 _ rfl
                                rw [Nat.add_zero, show ((Kd.slice 2 (Kd.int .i64))).sz = 1 from rfl, Nat.mul_one] at hv132_0
                                replace hv132_0 := Option.some.inj (hv132_0.symm.trans hx132_0)
                                rw [hv132_0] at ge132_0
                                have HL132_0 := Aside0.mk (show Kd.R (Kd.int .i64) 2 _ _ _ _ (rd_L1 x11_5 x15_2) from ge132_0)
                                clear hv132_0 ge132_0
                                have HX132_0 := Aside0.mk hx132_0
                                clear hcc132 hce132
                                have HR132_0 := Aside0.mk hi132_0
                                have HC132_0 := Aside0.mk hl132_0
                                clear hi132_0 hl132_0
                                replace p132 := eq_true p132
                                replace q132 := eq_true q132
                                have p133 : 0 ≤ (x19_5 : Int) := oD
                                have q133 : x19_5 < ((rd_L1 x11_5 x15_2).length : Int) := oD
                                obtain ⟨ad133, e133, hx133_0⟩ := Kd.at_int (by repeat (first | (with_reducible exact HR132_0.out) | (with_reducible refine Kd.C_alloc ?_ _) | (with_reducible refine Kd.C_drewN ?_ _) | (with_reducible refine Kd.C_drew ?_) | exact HR132_0.out)) x19_5 p133 q133
                                cases e133
                                replace p133 := eq_true p133
                                replace q133 := eq_true q133
                                have p78 : 0 ≤ (x19_5 : Int) := oD
                                have q78 : (x19_5 : Int) < (((rd_L1 x11_5 x15_2).length : Int) : Int) := oD
                                obtain ⟨go78, co78, eo78, gb78, gl78, cl78, HG78⟩ := Kd.R_form HL132_0.out (by omega)
                                (first | cases eo78 | (injection eo78 with ea_ en_ ec_; (first | subst ea_ | (injection ea_ with ea_; subst ea_)); subst ec_; clear en_))
                                (first | simp only [add_plain] at hx133_0 | skip)
                                have GB78 := Aside0.mk gb78
                                have GG78 := Aside0.mk HG78
                                clear gb78 gl78 HG78
                                (first | simp only [add_plain] at hx133_0 | skip)
                                obtain ⟨hx78_0, hf78_0⟩ := Kd.R_celln 0 HL132_0.out (x19_5 : Int) p78 q78
                                replace p78 := eq_true p78
                                replace q78 := eq_true q78
                                have hq79 : (x15_2 : Int) < (x11_5.length : Int) := (by have h_ : (x15_2 : Int) < ((x11_5.length : Int) : Int) := oD; first | exact h_ | (have e_ := (Kd.S_reads' HO_11.out).1; omega) | simpa only [List.length_set, List.length_set] using h_)
                                obtain ⟨oki79, ce79, hcl79, hM79, hcc79, hok79, hbk79⟩ := Kd.S_borrow HO_11.out [] (x15_2 : Int) oD (by first | exact hq79 | (have e_ := (Kd.S_reads' HO_11.out).1; omega))
                                obtain ⟨ve79_0, rfl, ge79_0⟩ := hM79
                                have hv79 := hcc79 0 _ rfl
                                rw [Nat.add_zero, show ((Kd.slice 2 (Kd.int .i64))).sz = 1 from rfl, Nat.mul_one] at hv79
                                replace hv79 := Option.some.inj (hv79.symm.trans HX132_0.out)
                                subst hv79
                                clear hcc79 hcl79
                                replace ge79_0 := (show Kd.R (Kd.int .i64) 2 _ _ _ _ (rd_L1 x11_5 x15_2) from ge79_0)
                                have HP79 := Kd.R_putg ge79_0 (x19_5 : Int) (Int.tmod (wrap64 ((rd (rd_L1 x11_5 x15_2) x19_5) * t131)) a1)
                                go_wp2_with (first | ((with_reducible refine gate_store (t := 2) (p := 169) rfl ?_); refine store_event (t := 2) (p := 169) (v := ?vo_w80) (w1 := (wr.setCell ⟨go78, (x19_5 : Int).toNat, none⟩ (.int .i64 (Int.tmod (wrap64 ((rd (rd_L1 x11_5 x15_2) x19_5) * t131)) a1)))) ?hg ?ho ?hn ?hr ?_; (case ho => rfl); (case hg => rfl); (case hn => rfl); (case hr => first | (go_simp; done) | (go_simp; rfl)); intro w80 hw; have hg : wr.grownBy w80 (some go78) := (by rw [hw]; exact HP79.2); have hz_ : Kd.R (Kd.int .i64) 2 w80 w.heap.size oki79 (.slice (some ⟨go78, 0, none⟩) (rd_L1 x11_5 x15_2).length c132_0) y134 := (by rw [hw, Ny134.out]; exact HP79.1); have hp_ : Kd.S (Kd.slice 2 (Kd.int .i64)) 34 w80 w.heap.size (fun _ => True) (.slice (some ad127) x11_5.length co71) y136 := (by rw [Ny136.out]; exact hbk79 hg (fun k_ e_ => by injection e_ with e_; subst e_; exact ge79_0.1 _ rfl) (Kd.M_row hz_)); have hm_ := Kd.R_mono hz_ hok79; clear HP79 hbk79; have n0_ := Aside0.mk (hp_); have n1_ := Aside0.mk (blk_grown (g := gb101) (o := .cells #[.int .i64 a0_0, .slice A0_1 l0_1.length c0_1] 28 (0, 0)) bk hg (Kd.R_ne HL132_0.out BK101.out (by decide))); have n2_ := Aside0.mk (cell_grown hg HX132_0.out (cell_ne (hok79 _ (ge79_0.1 _ rfl)).2)); have n3_ := Aside0.mk ((by rw [hw]; exact below_set (HB.out) GB78.out : Below w.heap.size w w80)); have n4_ := Aside0.mk (hm_); have n5_ := Aside0.mk ((Kd.R_reads' hm_).2.1); clear HO_11; clear BK101; clear HX132_0; clear HB; clear HL132_0; have HO_11 := n0_; have BK101 := n1_; have HX132_0 := n2_; have HB := n3_; have HL161 := n4_; have HC135 := n5_; clear n0_ n1_ n2_ n3_ n4_ n5_; clear hg hw hp_ hz_ hm_ hok79))
                                (try simp only [← hl11_5])
                                first | go_roundg k5 | (simp only [← hji105]; go_roundg k5) | (simp only [← hji12]; go_roundg k5) | (simp only [← hji32]; go_roundg k5)
                                case measure => have := HK1.out; have := HK2.out; have := HJ43.out; have := HJ53.out; have := HK5.out; omega
                                case rel => exact ⟨(y136), (wrap64 (x19_5 + 1)), rs, (by first | exact H' | (rw [hji105]; exact H') | (rw [hji12]; exact H') | (rw [hji32]; exact H')), ⟨by have := HK1.out; have := HK2.out; have := HJ43.out; have := HJ53.out; have := HK5.out; omega⟩, ⟨by (try simp only [hl11_5]); (with_reducible repeat (first | apply Kd.S_alloc | apply Kd.S_drewN | apply Kd.S_drew)); exact HO_11.out⟩, ⟨by (try simp only [hl11_5]); (with_reducible repeat (first | refine blk_drewN ?_ _ | refine blk_drew ?_ | refine blk_alloc ?_ _)); exact BK101.out⟩, ⟨bl⟩⟩
                              rw [if_pos c77] at H
                              exact absurd H (by simp)
                        rw [if_pos c69] at H
                        exact absurd H (by simp)
                  rw [if_pos c53] at H
                  have c53b0 : (x16_43 == (wrap64 (2 * (l0_1.length : Int)))) = true := beq_iff_eq.mpr c53
                  have c53b1 : (x16_43 != (wrap64 (2 * (l0_1.length : Int)))) = false := bne_eq_false_iff_eq.mpr c53
                  clear c53
                  simp only [Option.some.injEq, Prod.mk.injEq] at H
                  obtain ⟨rfl, rfl⟩ := H
                  go_wp2
                  go_ret2
                  exact ⟨_, by first | rfl | (simp [errW_none, errW_some] <;> rfl) | (simp [*, errW_none, errW_some] <;> rfl), by first | exact Kd.S_nil _ _ _ _ _ | exact Kd.N_nil _ _ _ _ _ | exact Kd.V_nil _ _ _ _ _ | exact Kd.Q_nil _ _ _ _ _ | exact Kd.R_nil _ _ _ _ _, bl⟩
        rw [if_pos c11] at H
        have c11b0 : decide (x12_1 < (wrap64 (2 * (l0_1.length : Int)))) = true := decide_eq_true c11
        clear c11
        obtain ⟨ji12, hji12⟩ : ∃ j_ : Int, (wrap64 (2 * (wrap64 (2 * (l0_1.length : Int))))) = j_ := ⟨_, rfl⟩
        replace H : (if 0 ≤ (ji12) then (if (ji12 : Int).toNat ≤ 35184372088832 then (spec_l09Solve.l1 k1 a1 a2 x8_1 (wrap64 (2 * (l0_1.length : Int))) ((1 : Int) % a1) x11_1 x12_1 (List.replicate (ji12 : Int).toNat 0) 0) else (none)) else (none)) = some (r1, r2) := by first | (rw [hji12] at H; exact H) | (simp only [hji12] at H ⊢; exact H)
        have hji12w : (IntKind.i64.wrap (2 * (wrap64 (2 * (l0_1.length : Int))))) = ji12 := (i64_w _).trans hji12
        by_cases c13 : 0 ≤ (ji12)
        case neg => rw [if_neg c13] at H; exact absurd H (by simp)
        rw [if_pos c13] at H
        have c13b0 := eq_true c13
        have c13b1 : decide (0 ≤ (ji12)) = true := decide_eq_true c13
        clear c13
        by_cases c14 : (ji12 : Int).toNat ≤ 35184372088832
        case neg => rw [if_neg c14] at H; exact absurd H (by simp)
        rw [if_pos c14] at H
        have c14b0 := eq_true c14
        have c14b1 : decide ((ji12 : Int).toNat ≤ 35184372088832) = true := decide_eq_true c14
        clear c14
        obtain ⟨y108, hy108⟩ : ∃ y_ : List Int, y_ = (List.replicate (ji12 : Int).toNat 0) := ⟨_, rfl⟩
        replace H : (spec_l09Solve.l1 k1 a1 a2 x8_1 (wrap64 (2 * (l0_1.length : Int))) ((1 : Int) % a1) x11_1 x12_1 y108 0) = some (r1, r2) := by first | (rw [hy108]; with_reducible exact H) | (have H2_ := (Option.bind_some _ _).symm.trans H; rw [hy108]; with_reducible exact H2_) | (have H2_ := (Option.bind_some _ _).symm.trans H; with_reducible exact H2_) | with_reducible exact H | (rw [hy108]; exact H) | exact H
        have Ny108 := Aside0.mk hy108
        clear hy108
        have H' := Aside0.mk H
        clear H
        go_wp2_with (first | ((with_reducible refine gate_dst (N := 43) rfl ?_); refine Kd.R_make (Kd.int .i64) _ 2 rfl (N := 43) rfl 34 _ _ rfl ji12 rfl rfl Try.underlying34 (.int .i64 0) 8 info2 rfl (by decide) (by omega) 0 (ok := fun _ => True) (okp := fun _ => True) rfl (fun _ hk => hk) trivial oD (Nat.le_trans (Nat.mul_le_mul_right _ (oD : ji12.toNat ≤ 35184372088832)) (by omega)) (Below.refl _ _) (Nat.le_refl _) ?_; intro v109 w15 ho16 hb hg_ hnew_; clear hg_ hnew_; (first | rw [← Ny108.out] at ho16 | (simp only [Int.reduceToNat] at ho16; rw [← Ny108.out] at ho16)); have n0_ := Aside0.mk (Kd.S_elder' (by (with_reducible repeat (first | apply Kd.S_alloc | apply Kd.S_drewN | apply Kd.S_drew)); exact HO_8.out) (Kd.R_base ho16) hb); have n1_ := Aside0.mk (Kd.S_elder' (by (with_reducible repeat (first | apply Kd.S_alloc | apply Kd.S_drewN | apply Kd.S_drew)); exact HO_11.out) (Kd.R_base ho16) hb); have n2_ := Aside0.mk (Kd.R_lower ho16 (below_size bl)); have n3_ := Aside0.mk (blk_below (g := gb101) (o := .cells #[.int .i64 a0_0, .slice A0_1 l0_1.length c0_1] 28 (0, 0)) bk hb); have n4_ := Aside0.mk (below_step bl hb); clear HO_8; clear HO_11; clear BK101; clear HB; have HO_8 := n0_; have HO_11 := n1_; have HO110 := n2_; have BK101 := n3_; have HB := n4_; clear n0_ n1_ n2_ n3_ n4_; clear hb ho16))
        go_loopg [14] k1 (fun kq v14 w' => ∃ (x13_2 : List Int) (x14_2 : Int), v14 = .int .i64 x14_2 ∧ Aside0 (spec_l09Solve.l1 kq a1 a2 x8_1 (wrap64 (2 * (l0_1.length : Int))) ((1 : Int) % a1) x11_1 x12_1 x13_2 x14_2 = some (r1, r2)) ∧ Aside0 (kq ≤ k1) ∧ Aside0 (Kd.S (Kd.slice 2 (Kd.int .i64)) 34 w' w.heap.size (fun k_ => some k_ ≠ (u11 : Value).ownBlock ∧ some k_ ≠ (v109 : Value).ownBlock) v103 x8_1) ∧ Aside0 (Kd.S (Kd.slice 2 (Kd.int .i64)) 34 w' w.heap.size (fun k_ => some k_ ≠ (v103 : Value).ownBlock ∧ some k_ ≠ (v109 : Value).ownBlock) u11 x11_1) ∧ Aside0 (Kd.R (Kd.int .i64) 2 w' w.heap.size (fun _ => True) v109 x13_2) ∧ Aside0 (w'.heap[gb101]? = some (.cells #[.int .i64 a0_0, (.slice A0_1 l0_1.length c0_1)] 28 (0, 0))) ∧ Aside0 (Below w.heap.size w w'))
        case atStart => exact ⟨(y108), (0), rs, H', ⟨Nat.le_refl _⟩, ⟨by (with_reducible repeat (first | apply Kd.S_alloc | apply Kd.S_drewN | apply Kd.S_drew)); exact HO_8.out⟩, ⟨by (with_reducible repeat (first | apply Kd.S_alloc | apply Kd.S_drewN | apply Kd.S_drew)); exact HO_11.out⟩, ⟨by (with_reducible repeat (first | apply Kd.R_alloc | apply Kd.R_drewN | apply Kd.R_drew)); exact HO110.out⟩, ⟨bk⟩, ⟨bl⟩⟩
        case round =>
          clear H'
          (try clear c1); (try clear p2); (try clear c4); (try clear c5); (try clear c5b0); (try clear c5b1); (try clear p6); (try clear c8); (try clear c11); (try clear c11b0); (try clear c13); (try clear c13b0); (try clear c13b1); (try clear c14); (try clear c14b0); (try clear c14b1); (try clear p2); (try clear p6)
          obtain ⟨x13_2, x14_2, rfl, HA, HK2, HO_8, HO_11, HO_13, BK101, HB⟩ := hrel
          cases gk with
          | zero => exact absurd HA.out (by simp [spec_l09Solve.l1])
          | succ k2 =>
            have H := HA.out
            clear HA
            simp only [spec_l09Solve.l1] at H
            by_cases c17 : x14_2 < (wrap64 (2 * (l0_1.length : Int)))
            case neg =>
              rw [if_neg c17] at H
              have c17b0 : decide (x14_2 < (wrap64 (2 * (l0_1.length : Int)))) = false := decide_eq_false c17
              clear c17
              by_cases c28 : 0 ≤ x12_1
              case neg => rw [if_neg c28] at H; exact absurd H (by simp)
              rw [if_pos c28] at H
              have c28b0 : decide (0 ≤ x12_1) = true := decide_eq_true c28
              clear c28
              by_cases c29 : x12_1 < (x13_2.length : Int)
              case neg => rw [if_neg c29] at H; exact absurd H (by simp)
              rw [if_pos c29] at H
              have c29b0 : decide (x12_1 < (x13_2.length : Int)) = true := decide_eq_true c29
              clear c29
              by_cases c30 : a1 = 0
              case neg =>
                rw [if_neg c30] at H
                have c30b0 : (a1 == 0) = false := beq_eq_false_iff_ne.mpr c30
                have c30b1 : (a1 != 0) = true := bne_iff_ne.mpr c30
                obtain ⟨y116, hy116⟩ : ∃ y_ : List Int, y_ = (x13_2.set (x12_1 : Int).toNat (Int.tmod (wrap64 ((rd x13_2 x12_1) + 1)) a1)) := ⟨_, rfl⟩
                replace H : (if 0 ≤ (wrap64 ((wrap64 (2 * (l0_1.length : Int))) + x12_1)) then (if (wrap64 ((wrap64 (2 * (l0_1.length : Int))) + x12_1)) < (x13_2.length : Int) then (if x11_1.length < 5864062014805 then (spec_l09Solve.l0 k2 a1 a2 x8_1 (wrap64 (2 * (l0_1.length : Int))) ((1 : Int) % a1) (x11_1 ++ [(y116.set ((wrap64 ((wrap64 (2 * (l0_1.length : Int))) + x12_1)) : Int).toNat 1)]) (wrap64 (x12_1 + 1))) else (none)) else (none)) else (none)) = some (r1, r2) := by first | (rw [hy116]; with_reducible exact H) | (have H2_ := (Option.bind_some _ _).symm.trans H; rw [hy116]; with_reducible exact H2_) | (have H2_ := (Option.bind_some _ _).symm.trans H; with_reducible exact H2_) | with_reducible exact H | (rw [hy116]; exact H) | exact H
                have Ny116 := Aside0.mk hy116
                clear hy116
                obtain ⟨ji32, hji32⟩ : ∃ j_ : Int, (wrap64 ((wrap64 (2 * (l0_1.length : Int))) + x12_1)) = j_ := ⟨_, rfl⟩
                replace H : (if 0 ≤ (ji32) then (if (ji32) < (x13_2.length : Int) then (if x11_1.length < 5864062014805 then (spec_l09Solve.l0 k2 a1 a2 x8_1 (wrap64 (2 * (l0_1.length : Int))) ((1 : Int) % a1) (x11_1 ++ [(y116.set ((ji32) : Int).toNat 1)]) (wrap64 (x12_1 + 1))) else (none)) else (none)) else (none)) = some (r1, r2) := by first | (rw [hji32] at H; exact H) | (simp only [hji32] at H ⊢; exact H)
                have hji32w : (IntKind.i64.wrap ((wrap64 (2 * (l0_1.length : Int))) + x12_1)) = ji32 := (i64_w _).trans hji32
                by_cases c33 : 0 ≤ (ji32)
                case neg => rw [if_neg c33] at H; exact absurd H (by simp)
                rw [if_pos c33] at H
                have c33b0 : decide (0 ≤ (ji32)) = true := decide_eq_true c33
                clear c33
                by_cases c34 : (ji32) < (x13_2.length : Int)
                case neg => rw [if_neg c34] at H; exact absurd H (by simp)
                rw [if_pos c34] at H
                have c34b0 : decide ((ji32) < (x13_2.length : Int)) = true := decide_eq_true c34
                clear c34
                obtain ⟨y117, hy117⟩ : ∃ y_ : List Int, y_ = (y116.set ((ji32) : Int).toNat 1) := ⟨_, rfl⟩
                replace H : (if x11_1.length < 5864062014805 then (spec_l09Solve.l0 k2 a1 a2 x8_1 (wrap64 (2 * (l0_1.length : Int))) ((1 : Int) % a1) (x11_1 ++ [y117]) (wrap64 (x12_1 + 1))) else (none)) = some (r1, r2) := by first | (rw [hy117]; with_reducible exact H) | (have H2_ := (Option.bind_some _ _).symm.trans H; rw [hy117]; with_reducible exact H2_) | (have H2_ := (Option.bind_some _ _).symm.trans H; with_reducible exact H2_) | with_reducible exact H | (rw [hy117]; exact H) | exact H
                have Ny117 := Aside0.mk hy117
                clear hy117
                by_cases c36 : x11_1.length < 5864062014805
                case neg => rw [if_neg c36] at H; exact absurd H (by simp)
                rw [if_pos c36] at H
                have LMc36 := Aside0.mk c36
                clear c36
                obtain ⟨y118, hy118⟩ : ∃ y_ : List (List Int), y_ = (x11_1 ++ [y117]) := ⟨_, rfl⟩
                replace H : (spec_l09Solve.l0 k2 a1 a2 x8_1 (wrap64 (2 * (l0_1.length : Int))) ((1 : Int) % a1) y118 (wrap64 (x12_1 + 1))) = some (r1, r2) := by first | (rw [hy118]; with_reducible exact H) | (have H2_ := (Option.bind_some _ _).symm.trans H; rw [hy118]; with_reducible exact H2_) | (have H2_ := (Option.bind_some _ _).symm.trans H; with_reducible exact H2_) | with_reducible exact H | (rw [hy118]; exact H) | exact H
                have Ny118 := Aside0.mk hy118
                clear hy118
                have H' := Aside0.mk H
                clear H
                obtain ⟨Ao37, co37, eo37⟩ := Kd.R_slice HO_13.out
                subst eo37
                have p115 : 0 ≤ (x12_1 : Int) := oD
                have q115 : x12_1 < (x13_2.length : Int) := oD
                obtain ⟨ad115, e115, hx115_0⟩ := Kd.at_int (Kd.R_reads' HO_13.out).2.2 x12_1 p115 q115
                cases e115
                replace p115 := eq_true p115
                replace q115 := eq_true q115
                have p31 : 0 ≤ (x12_1 : Int) := oD
                have q31 : (x12_1 : Int) < ((x13_2.length : Int) : Int) := oD
                obtain ⟨go31, co31, eo31, gb31, gl31, cl31, HG31⟩ := Kd.R_form HO_13.out (by omega)
                (first | cases eo31 | (injection eo31 with ea_ en_ ec_; (first | subst ea_ | (injection ea_ with ea_; subst ea_)); subst ec_; clear en_))
                have GB31 := Aside0.mk gb31
                have GG31 := Aside0.mk HG31
                clear gb31 gl31 HG31
                (first | simp only [add_plain] at hx115_0 | skip)
                obtain ⟨hx31_0, hf31_0⟩ := Kd.R_celln 0 HO_13.out (x12_1 : Int) p31 q31
                replace p31 := eq_true p31
                replace q31 := eq_true q31
                have HP38 := Kd.R_putg HO_13.out (x12_1 : Int) (Int.tmod (wrap64 ((rd x13_2 x12_1) + 1)) a1)
                go_wp2_with (first | ((with_reducible refine gate_store (t := 2) (p := 73) rfl ?_); refine store_event (t := 2) (p := 73) (v := ?vo_w39) (w1 := (wr.setCell ⟨go31, (x12_1 : Int).toNat, none⟩ (.int .i64 (Int.tmod (wrap64 ((rd x13_2 x12_1) + 1)) a1)))) ?hg ?ho ?hn ?hr ?_; (case ho => rfl); (case hg => rfl); (case hn => rfl); (case hr => first | (go_simp; done) | (go_simp; rfl)); intro w39 hw; have hg : wr.grownBy w39 (some go31) := (by rw [hw]; exact HP38.2); have hp_ : Kd.R (Kd.int .i64) 2 w39 w.heap.size (fun _ => True) (.slice (some ⟨go31, 0, none⟩) x13_2.length co37) y116 := (by rw [hw, Ny116.out]; exact HP38.1); clear HP38; have n0_ := Aside0.mk (Kd.S_after (v := (.slice (some ⟨go31, 0, none⟩) x13_2.length co37)) (v1 := (.slice (some ⟨go31, 0, none⟩) x13_2.length co37)) (ok := (fun k_ => some k_ ≠ (u11 : Value).ownBlock)) (by (with_reducible repeat (first | apply Kd.S_alloc | apply Kd.S_drewN | apply Kd.S_drew)); exact HO_8.out) hg (.inl rfl)); have n1_ := Aside0.mk (Kd.S_after (v := (.slice (some ⟨go31, 0, none⟩) x13_2.length co37)) (v1 := (.slice (some ⟨go31, 0, none⟩) x13_2.length co37)) (ok := (fun k_ => some k_ ≠ (v103 : Value).ownBlock)) (by (with_reducible repeat (first | apply Kd.S_alloc | apply Kd.S_drewN | apply Kd.S_drew)); exact HO_11.out) hg (.inl rfl)); have n2_ := Aside0.mk (hp_); have n3_ := Aside0.mk (blk_grown (g := gb101) (o := .cells #[.int .i64 a0_0, .slice A0_1 l0_1.length c0_1] 28 (0, 0)) bk hg (Kd.R_ne HO_13.out BK101.out (by decide))); have n4_ := Aside0.mk ((by rw [hw]; exact below_set (HB.out) GB31.out : Below w.heap.size w w39)); clear HO_8; clear HO_11; clear HO_13; clear BK101; clear HB; have HO_8 := n0_; have HO_11 := n1_; have HO_13 := n2_; have BK101 := n3_; have HB := n4_; clear n0_ n1_ n2_ n3_ n4_; clear hg hw hp_; have p35 : 0 ≤ ((ji32) : Int) := oD; have q35 : ((ji32) : Int) < ((x13_2.length : Int) : Int) := oD; obtain ⟨hx35_0, hf35_0⟩ := Kd.R_celln 0 HO_13.out ((ji32) : Int) p35 q35; replace p35 := eq_true p35; replace q35 := eq_true q35; obtain ⟨hy40_, hz40_⟩ := Kd.R_celln 0 HO_13.out ((ji32) : Int) oD oD; have HP40 := Kd.R_putg HO_13.out ((ji32) : Int) 1) | ((with_reducible refine gate_store (t := 2) (p := 78) rfl ?_); refine store_event (t := 2) (p := 78) (v := ?vo_w41) (w1 := (w39.setCell ⟨go31, ((ji32) : Int).toNat, none⟩ (.int .i64 1))) ?hg ?ho ?hn ?hr ?_; (case ho => rfl); (case hg => rfl); (case hn => rfl); (case hr => first | (go_simp; done) | (go_simp; rfl)); intro w41 hw; have hg : w39.grownBy w41 (some go31) := (by rw [hw]; exact HP40.2); have hp_ : Kd.R (Kd.int .i64) 2 w41 w.heap.size (fun _ => True) (.slice (some ⟨go31, 0, none⟩) x13_2.length co37) y117 := (by rw [hw, Ny117.out]; exact HP40.1); clear HP40; have n0_ := Aside0.mk (Kd.S_after (v := (.slice (some ⟨go31, 0, none⟩) x13_2.length co37)) (v1 := (.slice (some ⟨go31, 0, none⟩) x13_2.length co37)) (ok := (fun k_ => some k_ ≠ (u11 : Value).ownBlock)) (by (with_reducible repeat (first | apply Kd.S_alloc | apply Kd.S_drewN | apply Kd.S_drew)); exact HO_8.out) hg (.inl rfl)); have n1_ := Aside0.mk (Kd.S_after (v := (.slice (some ⟨go31, 0, none⟩) x13_2.length co37)) (v1 := (.slice (some ⟨go31, 0, none⟩) x13_2.length co37)) (ok := (fun k_ => some k_ ≠ (v103 : Value).ownBlock)) (by (with_reducible repeat (first | apply Kd.S_alloc | apply Kd.S_drewN | apply Kd.S_drew)); exact HO_11.out) hg (.inl rfl)); have n2_ := Aside0.mk (hp_); have n3_ := Aside0.mk (blk_grown (g := gb101) (o := .cells #[.int .i64 a0_0, .slice A0_1 l0_1.length c0_1] 28 (0, 0)) bk hg (Kd.R_ne HO_13.out BK101.out (by decide))); have n4_ := Aside0.mk ((by rw [hw]; exact below_set (HB.out) GB31.out : Below w.heap.size w w41)); clear HO_8; clear HO_11; clear HO_13; clear BK101; clear HB; have HO_8 := n0_; have HO_11 := n1_; have HO_13 := n2_; have BK101 := n3_; have HB := n4_; clear n0_ n1_ n2_ n3_ n4_; clear hg hw hp_) | ((with_reducible refine gate_builtin (b := .append) (xs := #[.tmp 79, .tmp 81]) rfl ?_); at_builtin; refine Kd.S_append (Kd.slice 2 (Kd.int .i64)) (w0 := w) w.heap.size rfl (.tmp 79) (.tmp 81) 22 34 (.slice none 0 0) 24 rfl Try.underlying22 info34 rfl (by decide) (by omega) u11 x11_1 y117 [.slice (some ⟨go31, 0, none⟩) x13_2.length co37] (fun k_ => some k_ ≠ (v103 : Value).ownBlock) (fun k_ => some k_ = (.slice (some ⟨go31, 0, none⟩) x13_2.length co37 : Value).ownBlock) rfl rfl ?aP (fun k_ hk_ => ((Kd.R_mono (ok' := fun k_ => ((fun k_ => some k_ ≠ (v103 : Value).ownBlock)) k_ ∧ some k_ ≠ (u11 : Value).ownBlock) (Kd.R_apart' (Kd.R_apart' (HO_13.out) (Kd.S_typed HO_8.out) (by decide)) (Kd.S_typed HO_11.out) (by decide)) (fun k_ hk => ⟨hk.1.2, hk.2⟩))).1 k_ hk_.symm) ?aF ?aO ?aB ?aS ?aL ?_; (case aP => exact Kd.M_row (Kd.R_mono (Kd.R_tight rfl (Kd.R_mono (ok' := fun k_ => ((fun k_ => some k_ ≠ (v103 : Value).ownBlock)) k_ ∧ some k_ ≠ (u11 : Value).ownBlock) (Kd.R_apart' (Kd.R_apart' (HO_13.out) (Kd.S_typed HO_8.out) (by decide)) (Kd.S_typed HO_11.out) (by decide)) (fun k_ hk => ⟨hk.1.2, hk.2⟩))) (fun _ h_ => h_))); (case aB => exact bl); (case aF => exact (fun k_ hk => Kd.fresh' (Kd.S_lt (by (with_reducible repeat (first | apply Kd.S_alloc | apply Kd.S_drewN | apply Kd.S_drew)); exact HO_8.out)) k_ hk)); (case aO => exact (by (with_reducible repeat (first | apply Kd.S_alloc | apply Kd.S_drewN | apply Kd.S_drew)); exact Kd.S_mono HO_11.out (fun k_ hk => ⟨hk.1, fun e_ => hk.2 e_⟩))); (case aS => exact (below_size bl)); (case aL => have := LMc36.out; omega); intro v119 w42 ho hb hg hat; rw [← Ny118.out] at ho; have n0_ := Aside0.mk (Kd.S_after (ok := (fun k_ => some k_ ≠ (.slice (some ⟨go31, 0, none⟩) x13_2.length co37 : Value).ownBlock)) (by (with_reducible repeat (first | apply Kd.S_alloc | apply Kd.S_drewN | apply Kd.S_drew)); exact Kd.S_mono HO_8.out (fun _ hk => ⟨hk.2, hk.1⟩)) hg hat); have n1_ := Aside0.mk (blk_grown (g := gb101) (o := .cells #[.int .i64 a0_0, .slice A0_1 l0_1.length c0_1] 28 (0, 0)) bk hg (Kd.S_ne HO_11.out BK101.out (by decide))); have n2_ := Aside0.mk (hb); have n3_ := Aside0.mk (ho); clear HO_8; clear BK101; clear HB; clear HO_11; clear HO_13; have HO_8 := n0_; have BK101 := n1_; have HB := n2_; have HO120 := n3_; clear n0_ n1_ n2_ n3_; clear ho hb hg hat))
                first | go_roundg k2 | (simp only [← hji105]; go_roundg k2) | (simp only [← hji12]; go_roundg k2) | (simp only [← hji32]; go_roundg k2)
                case measure => have := HK1.out; have := HK2.out; omega
                case rel => exact ⟨(x8_1), (y118), (wrap64 (x12_1 + 1)), rs, (by first | exact H' | (rw [hji105]; exact H') | (rw [hji12]; exact H') | (rw [hji32]; exact H')), ⟨by have := HK1.out; have := HK2.out; omega⟩, ⟨by (with_reducible repeat (first | apply Kd.S_alloc | apply Kd.S_drewN | apply Kd.S_drew)); exact Kd.S_mono HO_8.out (fun _ hk => hk.2)⟩, ⟨by (with_reducible repeat (first | apply Kd.S_alloc | apply Kd.S_drewN | apply Kd.S_drew)); exact HO120.out⟩, ⟨bk⟩, ⟨bl⟩⟩
              rw [if_pos c30] at H
              exact absurd H (by simp)
            rw [if_pos c17] at H
            have c17b0 : decide (x14_2 < (wrap64 (2 * (l0_1.length : Int)))) = true := decide_eq_true c17
            clear c17
            by_cases c18 : 0 ≤ x12_1
            case neg => rw [if_neg c18] at H; exact absurd H (by simp)
            rw [if_pos c18] at H
            have c18b0 : decide (0 ≤ x12_1) = true := decide_eq_true c18
            clear c18
            by_cases c19 : x12_1 < (x8_1.length : Int)
            case neg => rw [if_neg c19] at H; exact absurd H (by simp)
            rw [if_pos c19] at H
            have c19b0 : decide (x12_1 < (x8_1.length : Int)) = true := decide_eq_true c19
            clear c19
            by_cases c20 : 0 ≤ x14_2
            case neg => rw [if_neg c20] at H; exact absurd H (by simp)
            rw [if_pos c20] at H
            have c20b0 : decide (0 ≤ x14_2) = true := decide_eq_true c20
            clear c20
            by_cases c21 : x14_2 < ((rd_L1 x8_1 x12_1).length : Int)
            case neg => rw [if_neg c21] at H; exact absurd H (by simp)
            rw [if_pos c21] at H
            have c21b0 : decide (x14_2 < ((rd_L1 x8_1 x12_1).length : Int)) = true := decide_eq_true c21
            clear c21
            replace H := Option.bind_eq_some_iff.mp H
            obtain ⟨t113, A220, H⟩ := H
            replace H : (if x14_2 < (x13_2.length : Int) then (spec_l09Solve.l1 k2 a1 a2 x8_1 (wrap64 (2 * (l0_1.length : Int))) ((1 : Int) % a1) x11_1 x12_1 (x13_2.set (x14_2 : Int).toNat t113) (wrap64 (x14_2 + 1))) else (none)) = some (r1, r2) := H
            have A22 := Aside0.mk A220
            clear A220
            by_cases c23 : x14_2 < (x13_2.length : Int)
            case neg => rw [if_neg c23] at H; exact absurd H (by simp)
            rw [if_pos c23] at H
            have c23b0 : decide (x14_2 < (x13_2.length : Int)) = true := decide_eq_true c23
            clear c23
            obtain ⟨y114, hy114⟩ : ∃ y_ : List Int, y_ = (x13_2.set (x14_2 : Int).toNat t113) := ⟨_, rfl⟩
            replace H : (spec_l09Solve.l1 k2 a1 a2 x8_1 (wrap64 (2 * (l0_1.length : Int))) ((1 : Int) % a1) x11_1 x12_1 y114 (wrap64 (x14_2 + 1))) = some (r1, r2) := by first | (rw [hy114]; with_reducible exact H) | (have H2_ := (Option.bind_some _ _).symm.trans H; rw [hy114]; with_reducible exact H2_) | (have H2_ := (Option.bind_some _ _).symm.trans H; with_reducible exact H2_) | with_reducible exact H | (rw [hy114]; exact H) | exact H
            have Ny114 := Aside0.mk hy114
            clear hy114
            have H' := Aside0.mk H
            clear H
            obtain ⟨Ao25, co25, eo25⟩ := Kd.S_slice HO_8.out
            subst eo25
            have p111 : 0 ≤ (x12_1 : Int) := oD
            have q111 : x12_1 < (x8_1.length : Int) := oD
            obtain ⟨ad111, A111_0, c111_0, e111, hx111_0, hl111_0, hi111_0⟩ := at_L1 (Kd.S_reads' HO_8.out).2.2 x12_1 p111 q111
            cases e111
            obtain ⟨ce111, hce111, hMe111, hcc111⟩ := Kd.S_get HO_8.out [] x12_1 p111 (by first | exact q111 | exact oD | (have e_ := (Kd.S_reads' HO_8.out).1; omega))
            obtain ⟨ve111_0, rfl, ge111_0⟩ := hMe111
            have hv111_0 := hcc111 0 _ rfl
            rw [Nat.add_zero, show ((Kd.slice 2 (Kd.int .i64))).sz = 1 from rfl, Nat.mul_one] at hv111_0
            replace hv111_0 := Option.some.inj (hv111_0.symm.trans hx111_0)
            rw [hv111_0] at ge111_0
            have HL111_0 := Aside0.mk (show Kd.R (Kd.int .i64) 2 _ _ _ _ (rd_L1 x8_1 x12_1) from ge111_0)
            clear hv111_0 ge111_0
            have HX111_0 := Aside0.mk hx111_0
            clear hcc111 hce111
            have HR111_0 := Aside0.mk hi111_0
            have HC111_0 := Aside0.mk hl111_0
            clear hi111_0 hl111_0
            replace p111 := eq_true p111
            replace q111 := eq_true q111
            have p112 : 0 ≤ (x14_2 : Int) := oD
            have q112 : x14_2 < ((rd_L1 x8_1 x12_1).length : Int) := oD
            obtain ⟨ad112, e112, hx112_0⟩ := Kd.at_int (by repeat (first | (with_reducible exact HR111_0.out) | (with_reducible refine Kd.C_alloc ?_ _) | (with_reducible refine Kd.C_drewN ?_ _) | (with_reducible refine Kd.C_drew ?_) | exact HR111_0.out)) x14_2 p112 q112
            cases e112
            replace p112 := eq_true p112
            replace q112 := eq_true q112
            go_wp2_with (first | ((with_reducible refine gate_callee (f := 82) rfl ?_); refine goesL_ (some 62) rfl rfl Try.func82 (by kernel_rfl) rfl #[.int .i64 a1, .int .i64 (wrap64 ((wrap64 (-a2)) * (rd (rd_L1 x8_1 x12_1) x14_2)))] rfl gm ?_; (with_reducible refine (spec_l09Mod.calls a1 (wrap64 ((wrap64 (-a2)) * (rd (rd_L1 x8_1 x12_1) x14_2))) t113 _ A22.out).mono ?_); rintro e w' ⟨rfl, ⟨nd, rfl⟩⟩; refine ⟨_, rfl, ?_⟩; (try (rw [drewN_self wr]; generalize hq_ : World.drewN wr _ = wr; have n0_ : Aside0 (Kd.R (Kd.int .i64) 2 wr w.heap.size (fun k_ => ((some k_ ≠ (u11 : Value).ownBlock ∧ some k_ ≠ (v109 : Value).ownBlock) ∧ some k_ ≠ (.slice (some ad111) x8_1.length co25 : Value).ownBlock)) (.slice (some ad112) (rd_L1 x8_1 x12_1).length c111_0) (rd_L1 x8_1 x12_1)) := ⟨by rw [← hq_]; exact (by (with_reducible repeat (first | apply Kd.R_alloc | apply Kd.R_drewN | apply Kd.R_drew)); exact HL111_0.out)⟩; have n1_ : Aside0 (Kd.S (Kd.slice 2 (Kd.int .i64)) 34 wr w.heap.size (fun k_ => (some k_ ≠ (.slice (some ad111) x8_1.length co25 : Value).ownBlock ∧ some k_ ≠ (v109 : Value).ownBlock)) u11 x11_1) := ⟨by rw [← hq_]; exact (by (with_reducible repeat (first | apply Kd.S_alloc | apply Kd.S_drewN | apply Kd.S_drew)); exact HO_11.out)⟩; have n2_ : Aside0 (Kd.R (Kd.int .i64) 2 wr w.heap.size (fun _ => True) v109 x13_2) := ⟨by rw [← hq_]; exact (by (with_reducible repeat (first | apply Kd.R_alloc | apply Kd.R_drewN | apply Kd.R_drew)); exact HO_13.out)⟩; have n3_ : Aside0 (Kd.S (Kd.slice 2 (Kd.int .i64)) 34 wr w.heap.size (fun k_ => (some k_ ≠ (u11 : Value).ownBlock ∧ some k_ ≠ (v109 : Value).ownBlock)) (.slice (some ad111) x8_1.length co25) x8_1) := ⟨by rw [← hq_]; exact (by (with_reducible repeat (first | apply Kd.S_alloc | apply Kd.S_drewN | apply Kd.S_drew)); exact HO_8.out)⟩; have n4_ : Aside0 (wr.cell? (ad111.add (x12_1).toNat) = some (.slice (some ad112) (rd_L1 x8_1 x12_1).length c111_0)) := ⟨by rw [← hq_]; exact HX111_0.out⟩; have n5_ : Aside0 (wr.heap[gb101]? = some (.cells #[.int .i64 a0_0, .slice A0_1 l0_1.length c0_1] 28 (0, 0))) := ⟨by rw [← hq_]; exact bk⟩; have n6_ : Aside0 (Below w.heap.size w wr) := ⟨by rw [← hq_]; exact bl⟩; have n7_ : Aside0 (Kd.C (Kd.int .i64) wr (some ad112) (rd_L1 x8_1 x12_1).length (rd_L1 x8_1 x12_1)) := ⟨by rw [← hq_]; exact (by repeat (first | (with_reducible exact HR111_0.out) | (with_reducible refine Kd.C_alloc ?_ _) | (with_reducible refine Kd.C_drewN ?_ _) | (with_reducible refine Kd.C_drew ?_) | exact HR111_0.out))⟩; clear HL111_0 HO_11 HO_13 HO_8 HX111_0 BK101 HB HR111_0 hq_; have HL111_0 := n0_; have HO_11 := n1_; have HO_13 := n2_; have HO_8 := n3_; have HX111_0 := n4_; have BK101 := n5_; have HB := n6_; have HR111_0 := n7_; clear n0_ n1_ n2_ n3_ n4_ n5_ n6_ n7_)); have p24 : 0 ≤ (x14_2 : Int) := oD; have q24 : (x14_2 : Int) < ((x13_2.length : Int) : Int) := oD; obtain ⟨go24, co24, eo24, gb24, gl24, cl24, HG24⟩ := Kd.R_form HO_13.out (by omega); (first | cases eo24 | (injection eo24 with ea_ en_ ec_; (first | subst ea_ | (injection ea_ with ea_; subst ea_)); subst ec_; clear en_)); have GB24 := Aside0.mk gb24; have GG24 := Aside0.mk HG24; clear gb24 gl24 HG24; obtain ⟨hx24_0, hf24_0⟩ := Kd.R_celln 0 HO_13.out (x14_2 : Int) p24 q24; replace p24 := eq_true p24; replace q24 := eq_true q24; obtain ⟨hy26_, hz26_⟩ := Kd.R_celln 0 HO_13.out (x14_2 : Int) oD oD; have HP26 := Kd.R_putg HO_13.out (x14_2 : Int) t113) | ((with_reducible refine gate_store (t := 2) (p := 63) rfl ?_); refine store_event (t := 2) (p := 63) (v := ?vo_w27) (w1 := (wr.setCell ⟨go24, (x14_2 : Int).toNat, none⟩ (.int .i64 t113))) ?hg ?ho ?hn ?hr ?_; (case ho => rfl); (case hg => rfl); (case hn => rfl); (case hr => first | (go_simp; done) | (go_simp; rfl)); intro w27 hw; have hg : wr.grownBy w27 (some go24) := (by rw [hw]; exact HP26.2); have hp_ : Kd.R (Kd.int .i64) 2 w27 w.heap.size (fun _ => True) (.slice (some ⟨go24, 0, none⟩) x13_2.length co24) y114 := (by rw [hw, Ny114.out]; exact HP26.1); clear HP26; have n0_ := Aside0.mk (Kd.S_after (v := (.slice (some ⟨go24, 0, none⟩) x13_2.length co24)) (v1 := (.slice (some ⟨go24, 0, none⟩) x13_2.length co24)) (ok := (fun k_ => some k_ ≠ (u11 : Value).ownBlock)) (by (with_reducible repeat (first | apply Kd.S_alloc | apply Kd.S_drewN | apply Kd.S_drew)); exact HO_8.out) hg (.inl rfl)); have n1_ := Aside0.mk (Kd.S_after (v := (.slice (some ⟨go24, 0, none⟩) x13_2.length co24)) (v1 := (.slice (some ⟨go24, 0, none⟩) x13_2.length co24)) (ok := (fun k_ => some k_ ≠ (.slice (some ad111) x8_1.length co25 : Value).ownBlock)) (by (with_reducible repeat (first | apply Kd.S_alloc | apply Kd.S_drewN | apply Kd.S_drew)); exact HO_11.out) hg (.inl rfl)); have n2_ := Aside0.mk (hp_); have n3_ := Aside0.mk (blk_grown (g := gb101) (o := .cells #[.int .i64 a0_0, .slice A0_1 l0_1.length c0_1] 28 (0, 0)) bk hg (Kd.R_ne HO_13.out BK101.out (by decide))); have n4_ := Aside0.mk (Kd.R_after (v := (.slice (some ⟨go24, 0, none⟩) x13_2.length co24)) (v1 := (.slice (some ⟨go24, 0, none⟩) x13_2.length co24)) (ok := (fun k_ => some k_ ≠ (.slice (some ad111) x8_1.length co25 : Value).ownBlock ∧ some k_ ≠ (u11 : Value).ownBlock)) (by (with_reducible repeat (first | apply Kd.R_alloc | apply Kd.R_drewN | apply Kd.R_drew)); exact Kd.R_mono HL111_0.out (fun _ hk => ⟨⟨hk.2, hk.1.1⟩, hk.1.2⟩)) hg (.inl rfl)); have n5_ := Aside0.mk (cell_grown hg HX111_0.out (cell_ne_ty (v := (.slice (some ⟨go24, 0, none⟩) x13_2.length co24)) (Kd.S_typed HO_8.out) (Kd.R_typed HO_13.out) (by decide))); have n6_ := Aside0.mk ((by rw [hw]; exact below_set (HB.out) GB24.out : Below w.heap.size w w27)); clear HO_8; clear HO_11; clear HO_13; clear BK101; clear HL111_0; clear HX111_0; clear HB; have HO_8 := n0_; have HO_11 := n1_; have HO_13 := n2_; have BK101 := n3_; have HL111_0 := n4_; have HX111_0 := n5_; have HB := n6_; clear n0_ n1_ n2_ n3_ n4_ n5_ n6_; clear hg hw hp_))
            first | go_roundg k2 | (simp only [← hji105]; go_roundg k2) | (simp only [← hji12]; go_roundg k2) | (simp only [← hji32]; go_roundg k2)
            case measure => have := HK1.out; have := HK2.out; omega
            case rel => exact ⟨(y114), (wrap64 (x14_2 + 1)), rs, (by first | exact H' | (rw [hji105]; exact H') | (rw [hji12]; exact H') | (rw [hji32]; exact H')), ⟨by have := HK1.out; have := HK2.out; omega⟩, ⟨by (with_reducible repeat (first | apply Kd.S_alloc | apply Kd.S_drewN | apply Kd.S_drew)); exact HO_8.out⟩, ⟨by (with_reducible repeat (first | apply Kd.S_alloc | apply Kd.S_drewN | apply Kd.S_drew)); exact HO_11.out⟩, ⟨by (with_reducible repeat (first | apply Kd.R_alloc | apply Kd.R_drewN | apply Kd.R_drew)); exact HO_13.out⟩, ⟨bk⟩, ⟨bl⟩⟩
  rw [if_pos c5] at H
  exact absurd H (by simp)
end Go.Proofs.Ytbfmnhgpmpnglaa.B
