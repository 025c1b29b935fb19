/- The functions that one law reaches, each as a Lean function, and that Go's call comes to what it says. Condition of each: that the Lean function answers (is not none). -/
import Derived.Test.YtbfmnhgpmpnglaaBx0
import Derived.Test.YtbfmnhgpmpnglaaBx5
import Derived.Test.YtbfmnhgpmpnglaaBx6
namespace Go.Proofs.Ytbfmnhgpmpnglaa.B
open Go.RowKit Go.Proofs.YtbfmnhgpmpnglaaW.PrintWords Go.Proofs.YtbfmnhgpmpnglaaW.PrintLast Go.Proofs.YtbfmnhgpmpnglaaW.PrintMore
attribute [local go_sem] max2_int min2_int max_two min_two max_three min_three max_four min_four   -- for this text's walks alone
set_option linter.unusedVariables false
set_option linter.unusedSimpArgs false

/-! ### impl_Graph_resolvent: function 44 -/
mutual
def impl_Graph_resolvent.l0 : Nat → Int → Int → List (List Int) → Int → List (List Int) → Int → Int → Option ((List (List Int)) × Bool)
  | 0, _, _, _, _, _, _, _ => none
  | k + 1, x1, x2, x8, x9, x32, x33, x34 => if x34 < x33 then (if 0 ≤ x34 then (if x34 < (x32.length : Int) then (if 0 ≤ (wrap64 (2 * x9)) then (if (wrap64 (2 * x9) : Int).toNat ≤ 35184372088832 then (impl_Graph_resolvent.l1 k x1 x2 x8 x9 x34 (List.replicate (wrap64 (2 * x9) : Int).toNat 0) x32 x33 x34 ((rd_L1 x32 x34).length : Int) 0) else (none)) else (none)) else (none)) else (none)) else (impl_Graph_resolvent.l2 k x1 x8 x9 x9 0)
def impl_Graph_resolvent.l1 : Nat → Int → Int → List (List Int) → Int → Int → List Int → List (List Int) → Int → Int → Int → Int → Option ((List (List Int)) × Bool)
  | 0, _, _, _, _, _, _, _, _, _, _, _ => none
  | k + 1, x1, x2, x8, x9, x10, x12, x32, x33, x34, x43, x44 => if x44 < x43 then (if 0 ≤ x44 then (if x44 < ((rd_L1 x32 x10).length : Int) then ((impl_modulo.f (wrap64 ((wrap64 (-x2)) * (rd (rd_L1 x32 x10) x44))) x1).bind fun t114 => (if x44 < (x12.length : Int) then (impl_Graph_resolvent.l1 k x1 x2 x8 x9 x10 (x12.set (x44 : Int).toNat t114) x32 x33 x34 x43 (wrap64 (x44 + 1))) else (none))) else (none)) else (none)) else (if 0 ≤ x10 then (if x10 < (x12.length : Int) then (if x1 = 0 then (none) else (if 0 ≤ (wrap64 (x9 + x10)) then (if (wrap64 (x9 + x10)) < (x12.length : Int) then (if x8.length < 5864062014805 then (impl_Graph_resolvent.l0 k x1 x2 (x8 ++ [((x12.set (x10 : Int).toNat (Int.tmod (wrap64 ((rd x12 x10) + 1)) x1)).set ((wrap64 (x9 + x10)) : Int).toNat 1)]) x9 x32 x33 (wrap64 (x34 + 1))) else (none)) else (none)) else (none))) else (none)) else (none))
def impl_Graph_resolvent.l2 : Nat → Int → List (List Int) → Int → Int → Int → Option ((List (List Int)) × Bool)
  | 0, _, _, _, _, _ => none
  | k + 1, x1, x8, x9, x79, x80 => if x80 < x79 then (if 0 ≤ x80 then (if x80 ≤ (x8.length : Int) then ((impl_Graph_resolvent_1.f k (x8.drop (x80 : Int).toNat) x80).bind fun t127 => (if t127 < 0 then (some (([] : List (List Int)), false)) else (if 0 ≤ (wrap64 (x80 + t127)) then (if (wrap64 (x80 + t127)) < (x8.length : Int) then (if x80 < (x8.length : Int) then ((some (swp x8 x80 (wrap64 (x80 + t127)) : List (List Int))).bind fun y130 => (if x80 < ((rd_L1 y130 x80).length : Int) then ((impl_inverse.f k (rd (rd_L1 y130 x80) x80) x1).bind fun t133 => (impl_Graph_resolvent.l3 k x1 y130 x9 t133 x79 x80 ((rd_L1 y130 x80).length : Int) 0 x80)) else (none))) else (none)) else (none)) else (none)))) else (none)) else (none)) else (impl_Graph_resolvent.l6 k x8 x9 (([] : List (List Int))) (x8.length : Int) 0)
def impl_Graph_resolvent.l3 : Nat → Int → List (List Int) → Int → Int → Int → Int → Int → Int → Int → Option ((List (List Int)) × Bool)
  | 0, _, _, _, _, _, _, _, _, _ => none
  | k + 1, x1, x8, x9, x17, x79, x80, x121, x122, x123000 => if x122 < x121 then (if 0 ≤ x123000 then (if x123000 < (x8.length : Int) then (if 0 ≤ x122 then (if x122 < ((rd_L1 x8 x123000).length : Int) then (if x1 = 0 then (none) else (impl_Graph_resolvent.l3 k x1 (x8.set (x123000 : Int).toNat ((rd_L1 x8 x123000).set (x122 : Int).toNat (Int.tmod (wrap64 ((rd (rd_L1 x8 x123000) x122) * x17)) x1))) x9 x17 x79 x80 x121 (wrap64 (x122 + 1)) x123000)) else (none)) else (none)) else (none)) else (none)) else (impl_Graph_resolvent.l4 k x1 x8 x9 x79 x80 (x8.length : Int) 0 x123000)
def impl_Graph_resolvent.l4 : Nat → Int → List (List Int) → Int → Int → Int → Int → Int → Int → Option ((List (List Int)) × Bool)
  | 0, _, _, _, _, _, _, _, _ => none
  | k + 1, x1, x8, x9, x79, x80, x144, x145, x123000 => if x145 < x144 then (if 0 ≤ x145 then (if x145 < (x8.length : Int) then (if 0 ≤ x123000 then (if x123000 < ((rd_L1 x8 x145).length : Int) then (if x145 = x123000 then (impl_Graph_resolvent.l4 k x1 x8 x9 x79 x80 x144 (wrap64 (x145 + 1)) x123000) else (if (rd (rd_L1 x8 x145) x123000) = 0 then (impl_Graph_resolvent.l4 k x1 x8 x9 x79 x80 x144 (wrap64 (x145 + 1)) x123000) else (impl_Graph_resolvent.l5 k x1 x8 x9 x145 (rd (rd_L1 x8 x145) x123000) x79 x80 x144 x145 ((rd_L1 x8 x145).length : Int) 0 x123000))) else (none)) else (none)) else (none)) else (none)) else (impl_Graph_resolvent.l2 k x1 x8 x9 x79 (wrap64 (x80 + 1)))
def impl_Graph_resolvent.l5 : Nat → Int → List (List Int) → Int → Int → Int → Int → Int → Int → Int → Int → Int → Int → Option ((List (List Int)) × Bool)
  | 0, _, _, _, _, _, _, _, _, _, _, _, _ => none
  | k + 1, x1, x8, x9, x19, x21, x79, x80, x144, x145, x162, x163, x123000 => if x163 < x162 then (if 0 ≤ x163 then (if x163 < ((rd_L1 x8 x19).length : Int) then (if 0 ≤ x123000 then (if x123000 < (x8.length : Int) then (if x163 < ((rd_L1 x8 x123000).length : Int) then ((impl_modulo.f (wrap64 ((rd (rd_L1 x8 x19) x163) - (wrap64 (x21 * (rd (rd_L1 x8 x123000) x163))))) x1).bind fun t147 => (impl_Graph_resolvent.l5 k x1 (x8.set (x19 : Int).toNat ((rd_L1 x8 x19).set (x163 : Int).toNat t147)) x9 x19 x21 x79 x80 x144 x145 x162 (wrap64 (x163 + 1)) x123000)) else (none)) else (none)) else (none)) else (none)) else (none)) else (impl_Graph_resolvent.l4 k x1 x8 x9 x79 x80 x144 (wrap64 (x145 + 1)) x123000)
def impl_Graph_resolvent.l6 : Nat → List (List Int) → Int → List (List Int) → Int → Int → Option ((List (List Int)) × Bool)
  | 0, _, _, _, _, _ => none
  | k + 1, x8, x9, x23, x190, x191 => if x191 < x190 then (if 0 ≤ x191 then (if x191 < (x8.length : Int) then (if 0 ≤ x9 then (if x9 ≤ ((rd_L1 x8 x191).length : Int) then ((some ((rd_L1 x8 x191).drop (x9 : Int).toNat : List Int)).bind fun y155 => (if x23.length < 5864062014805 then (impl_Graph_resolvent.l6 k x8 x9 (x23 ++ [y155]) x190 (wrap64 (x191 + 1))) else (none))) else (none)) else (none)) else (none)) else (none)) else (some (x23, true))
end
def impl_Graph_resolvent.f (k : Nat) (a0_0 : Int) (l0_1 : List (List Int)) (a1 : Int) (a2 : Int) : Option ((List (List Int)) × Bool) := (impl_Graph_edgeMatrix.f k a0_0 l0_1).bind fun t105 => (impl_Graph_resolvent.l0 k a1 a2 (([] : List (List Int))) (wrap64 (2 * (l0_1.length : Int))) t105 (t105.length : Int) 0)
theorem impl_Graph_resolvent.mono_l : ∀ k, (∀ y0 y1 y2 y3 y4 y5 y6, LeO (impl_Graph_resolvent.l0 k y0 y1 y2 y3 y4 y5 y6) (impl_Graph_resolvent.l0 (k + 1) y0 y1 y2 y3 y4 y5 y6)) ∧ (∀ y0 y1 y2 y3 y4 y5 y6 y7 y8 y9 y10, LeO (impl_Graph_resolvent.l1 k y0 y1 y2 y3 y4 y5 y6 y7 y8 y9 y10) (impl_Graph_resolvent.l1 (k + 1) y0 y1 y2 y3 y4 y5 y6 y7 y8 y9 y10)) ∧ (∀ y0 y1 y2 y3 y4, LeO (impl_Graph_resolvent.l2 k y0 y1 y2 y3 y4) (impl_Graph_resolvent.l2 (k + 1) y0 y1 y2 y3 y4)) ∧ (∀ y0 y1 y2 y3 y4 y5 y6 y7 y8, LeO (impl_Graph_resolvent.l3 k y0 y1 y2 y3 y4 y5 y6 y7 y8) (impl_Graph_resolvent.l3 (k + 1) y0 y1 y2 y3 y4 y5 y6 y7 y8)) ∧ (∀ y0 y1 y2 y3 y4 y5 y6 y7, LeO (impl_Graph_resolvent.l4 k y0 y1 y2 y3 y4 y5 y6 y7) (impl_Graph_resolvent.l4 (k + 1) y0 y1 y2 y3 y4 y5 y6 y7)) ∧ (∀ y0 y1 y2 y3 y4 y5 y6 y7 y8 y9 y10 y11, LeO (impl_Graph_resolvent.l5 k y0 y1 y2 y3 y4 y5 y6 y7 y8 y9 y10 y11) (impl_Graph_resolvent.l5 (k + 1) y0 y1 y2 y3 y4 y5 y6 y7 y8 y9 y10 y11)) ∧ (∀ y0 y1 y2 y3 y4, LeO (impl_Graph_resolvent.l6 k y0 y1 y2 y3 y4) (impl_Graph_resolvent.l6 (k + 1) y0 y1 y2 y3 y4))
  | 0 => ⟨fun _ _ _ _ _ _ _ r h => by simp [impl_Graph_resolvent.l0] at h, fun _ _ _ _ _ _ _ _ _ _ _ r h => by simp [impl_Graph_resolvent.l1] at h, fun _ _ _ _ _ r h => by simp [impl_Graph_resolvent.l2] at h, fun _ _ _ _ _ _ _ _ _ r h => by simp [impl_Graph_resolvent.l3] at h, fun _ _ _ _ _ _ _ _ r h => by simp [impl_Graph_resolvent.l4] at h, fun _ _ _ _ _ _ _ _ _ _ _ _ r h => by simp [impl_Graph_resolvent.l5] at h, fun _ _ _ _ _ r h => by simp [impl_Graph_resolvent.l6] at h⟩
  | k + 1 => by
    obtain ⟨ih0, ih1, ih2, ih3, ih4, ih5, ih6⟩ := impl_Graph_resolvent.mono_l k
    refine ⟨?_, ?_, ?_, ?_, ?_, ?_, ?_⟩
    · intro y0 y1 y2 y3 y4 y5 y6
      unfold impl_Graph_resolvent.l0
      repeat' first
      | (with_reducible exact ih0 _ _ _ _ _ _ _)
      | (with_reducible exact ih1 _ _ _ _ _ _ _ _ _ _ _)
      | (with_reducible exact ih2 _ _ _ _ _)
      | (with_reducible exact ih3 _ _ _ _ _ _ _ _ _)
      | (with_reducible exact ih4 _ _ _ _ _ _ _ _)
      | (with_reducible exact ih5 _ _ _ _ _ _ _ _ _ _ _ _)
      | (with_reducible exact ih6 _ _ _ _ _)
      | (with_reducible exact impl_Graph_edgeMatrix.mono _ _ _)
      | (with_reducible exact impl_Graph_resolvent_1.mono _ _ _)
      | (with_reducible exact impl_inverse.mono _ _ _)
      | (with_reducible exact LeO.refl _)
      | (with_reducible exact LeO.none _)
      | (with_reducible refine LeO.ite ?_ ?_)
      | (with_reducible refine LeO.bind ?_ (fun _ => ?_))
      | exact ih0 _ _ _ _ _ _ _
      | exact ih1 _ _ _ _ _ _ _ _ _ _ _
      | exact ih2 _ _ _ _ _
      | exact ih3 _ _ _ _ _ _ _ _ _
      | exact ih4 _ _ _ _ _ _ _ _
      | exact ih5 _ _ _ _ _ _ _ _ _ _ _ _
      | exact ih6 _ _ _ _ _
      | exact impl_Graph_edgeMatrix.mono _ _ _
      | exact impl_Graph_resolvent_1.mono _ _ _
      | exact impl_inverse.mono _ _ _
      | exact LeO.none _
      | refine LeO.ite ?_ ?_
      | refine LeO.bind ?_ (fun _ => ?_)
    · intro y0 y1 y2 y3 y4 y5 y6 y7 y8 y9 y10
      unfold impl_Graph_resolvent.l1
      repeat' first
      | (with_reducible exact ih0 _ _ _ _ _ _ _)
      | (with_reducible exact ih1 _ _ _ _ _ _ _ _ _ _ _)
      | (with_reducible exact ih2 _ _ _ _ _)
      | (with_reducible exact ih3 _ _ _ _ _ _ _ _ _)
      | (with_reducible exact ih4 _ _ _ _ _ _ _ _)
      | (with_reducible exact ih5 _ _ _ _ _ _ _ _ _ _ _ _)
      | (with_reducible exact ih6 _ _ _ _ _)
      | (with_reducible exact impl_Graph_edgeMatrix.mono _ _ _)
      | (with_reducible exact impl_Graph_resolvent_1.mono _ _ _)
      | (with_reducible exact impl_inverse.mono _ _ _)
      | (with_reducible exact LeO.refl _)
      | (with_reducible exact LeO.none _)
      | (with_reducible refine LeO.ite ?_ ?_)
      | (with_reducible refine LeO.bind ?_ (fun _ => ?_))
      | exact ih0 _ _ _ _ _ _ _
      | exact ih1 _ _ _ _ _ _ _ _ _ _ _
      | exact ih2 _ _ _ _ _
      | exact ih3 _ _ _ _ _ _ _ _ _
      | exact ih4 _ _ _ _ _ _ _ _
      | exact ih5 _ _ _ _ _ _ _ _ _ _ _ _
      | exact ih6 _ _ _ _ _
      | exact impl_Graph_edgeMatrix.mono _ _ _
      | exact impl_Graph_resolvent_1.mono _ _ _
      | exact impl_inverse.mono _ _ _
      | exact LeO.none _
      | refine LeO.ite ?_ ?_
      | refine LeO.bind ?_ (fun _ => ?_)
    · intro y0 y1 y2 y3 y4
      unfold impl_Graph_resolvent.l2
      repeat' first
      | (with_reducible exact ih0 _ _ _ _ _ _ _)
      | (with_reducible exact ih1 _ _ _ _ _ _ _ _ _ _ _)
      | (with_reducible exact ih2 _ _ _ _ _)
      | (with_reducible exact ih3 _ _ _ _ _ _ _ _ _)
      | (with_reducible exact ih4 _ _ _ _ _ _ _ _)
      | (with_reducible exact ih5 _ _ _ _ _ _ _ _ _ _ _ _)
      | (with_reducible exact ih6 _ _ _ _ _)
      | (with_reducible exact impl_Graph_edgeMatrix.mono _ _ _)
      | (with_reducible exact impl_Graph_resolvent_1.mono _ _ _)
      | (with_reducible exact impl_inverse.mono _ _ _)
      | (with_reducible exact LeO.refl _)
      | (with_reducible exact LeO.none _)
      | (with_reducible refine LeO.ite ?_ ?_)
      | (with_reducible refine LeO.bind ?_ (fun _ => ?_))
      | exact ih0 _ _ _ _ _ _ _
      | exact ih1 _ _ _ _ _ _ _ _ _ _ _
      | exact ih2 _ _ _ _ _
      | exact ih3 _ _ _ _ _ _ _ _ _
      | exact ih4 _ _ _ _ _ _ _ _
      | exact ih5 _ _ _ _ _ _ _ _ _ _ _ _
      | exact ih6 _ _ _ _ _
      | exact impl_Graph_edgeMatrix.mono _ _ _
      | exact impl_Graph_resolvent_1.mono _ _ _
      | exact impl_inverse.mono _ _ _
      | exact LeO.none _
      | refine LeO.ite ?_ ?_
      | refine LeO.bind ?_ (fun _ => ?_)
    · intro y0 y1 y2 y3 y4 y5 y6 y7 y8
      unfold impl_Graph_resolvent.l3
      repeat' first
      | (with_reducible exact ih0 _ _ _ _ _ _ _)
      | (with_reducible exact ih1 _ _ _ _ _ _ _ _ _ _ _)
      | (with_reducible exact ih2 _ _ _ _ _)
      | (with_reducible exact ih3 _ _ _ _ _ _ _ _ _)
      | (with_reducible exact ih4 _ _ _ _ _ _ _ _)
      | (with_reducible exact ih5 _ _ _ _ _ _ _ _ _ _ _ _)
      | (with_reducible exact ih6 _ _ _ _ _)
      | (with_reducible exact impl_Graph_edgeMatrix.mono _ _ _)
      | (with_reducible exact impl_Graph_resolvent_1.mono _ _ _)
      | (with_reducible exact impl_inverse.mono _ _ _)
      | (with_reducible exact LeO.refl _)
      | (with_reducible exact LeO.none _)
      | (with_reducible refine LeO.ite ?_ ?_)
      | (with_reducible refine LeO.bind ?_ (fun _ => ?_))
      | exact ih0 _ _ _ _ _ _ _
      | exact ih1 _ _ _ _ _ _ _ _ _ _ _
      | exact ih2 _ _ _ _ _
      | exact ih3 _ _ _ _ _ _ _ _ _
      | exact ih4 _ _ _ _ _ _ _ _
      | exact ih5 _ _ _ _ _ _ _ _ _ _ _ _
      | exact ih6 _ _ _ _ _
      | exact impl_Graph_edgeMatrix.mono _ _ _
      | exact impl_Graph_resolvent_1.mono _ _ _
      | exact impl_inverse.mono _ _ _
      | exact LeO.none _
      | refine LeO.ite ?_ ?_
      | refine LeO.bind ?_ (fun _ => ?_)
    · intro y0 y1 y2 y3 y4 y5 y6 y7
      unfold impl_Graph_resolvent.l4
      repeat' first
      | (with_reducible exact ih0 _ _ _ _ _ _ _)
      | (with_reducible exact ih1 _ _ _ _ _ _ _ _ _ _ _)
      | (with_reducible exact ih2 _ _ _ _ _)
      | (with_reducible exact ih3 _ _ _ _ _ _ _ _ _)
      | (with_reducible exact ih4 _ _ _ _ _ _ _ _)
      | (with_reducible exact ih5 _ _ _ _ _ _ _ _ _ _ _ _)
      | (with_reducible exact ih6 _ _ _ _ _)
      | (with_reducible exact impl_Graph_edgeMatrix.mono _ _ _)
      | (with_reducible exact impl_Graph_resolvent_1.mono _ _ _)
      | (with_reducible exact impl_inverse.mono _ _ _)
      | (with_reducible exact LeO.refl _)
      | (with_reducible exact LeO.none _)
      | (with_reducible refine LeO.ite ?_ ?_)
      | (with_reducible refine LeO.bind ?_ (fun _ => ?_))
      | exact ih0 _ _ _ _ _ _ _
      | exact ih1 _ _ _ _ _ _ _ _ _ _ _
      | exact ih2 _ _ _ _ _
      | exact ih3 _ _ _ _ _ _ _ _ _
      | exact ih4 _ _ _ _ _ _ _ _
      | exact ih5 _ _ _ _ _ _ _ _ _ _ _ _
      | exact ih6 _ _ _ _ _
      | exact impl_Graph_edgeMatrix.mono _ _ _
      | exact impl_Graph_resolvent_1.mono _ _ _
      | exact impl_inverse.mono _ _ _
      | exact LeO.none _
      | refine LeO.ite ?_ ?_
      | refine LeO.bind ?_ (fun _ => ?_)
    · intro y0 y1 y2 y3 y4 y5 y6 y7 y8 y9 y10 y11
      unfold impl_Graph_resolvent.l5
      repeat' first
      | (with_reducible exact ih0 _ _ _ _ _ _ _)
      | (with_reducible exact ih1 _ _ _ _ _ _ _ _ _ _ _)
      | (with_reducible exact ih2 _ _ _ _ _)
      | (with_reducible exact ih3 _ _ _ _ _ _ _ _ _)
      | (with_reducible exact ih4 _ _ _ _ _ _ _ _)
      | (with_reducible exact ih5 _ _ _ _ _ _ _ _ _ _ _ _)
      | (with_reducible exact ih6 _ _ _ _ _)
      | (with_reducible exact impl_Graph_edgeMatrix.mono _ _ _)
      | (with_reducible exact impl_Graph_resolvent_1.mono _ _ _)
      | (with_reducible exact impl_inverse.mono _ _ _)
      | (with_reducible exact LeO.refl _)
      | (with_reducible exact LeO.none _)
      | (with_reducible refine LeO.ite ?_ ?_)
      | (with_reducible refine LeO.bind ?_ (fun _ => ?_))
      | exact ih0 _ _ _ _ _ _ _
      | exact ih1 _ _ _ _ _ _ _ _ _ _ _
      | exact ih2 _ _ _ _ _
      | exact ih3 _ _ _ _ _ _ _ _ _
      | exact ih4 _ _ _ _ _ _ _ _
      | exact ih5 _ _ _ _ _ _ _ _ _ _ _ _
      | exact ih6 _ _ _ _ _
      | exact impl_Graph_edgeMatrix.mono _ _ _
      | exact impl_Graph_resolvent_1.mono _ _ _
      | exact impl_inverse.mono _ _ _
      | exact LeO.none _
      | refine LeO.ite ?_ ?_
      | refine LeO.bind ?_ (fun _ => ?_)
    · intro y0 y1 y2 y3 y4
      unfold impl_Graph_resolvent.l6
      repeat' first
      | (with_reducible exact ih0 _ _ _ _ _ _ _)
      | (with_reducible exact ih1 _ _ _ _ _ _ _ _ _ _ _)
      | (with_reducible exact ih2 _ _ _ _ _)
      | (with_reducible exact ih3 _ _ _ _ _ _ _ _ _)
      | (with_reducible exact ih4 _ _ _ _ _ _ _ _)
      | (with_reducible exact ih5 _ _ _ _ _ _ _ _ _ _ _ _)
      | (with_reducible exact ih6 _ _ _ _ _)
      | (with_reducible exact impl_Graph_edgeMatrix.mono _ _ _)
      | (with_reducible exact impl_Graph_resolvent_1.mono _ _ _)
      | (with_reducible exact impl_inverse.mono _ _ _)
      | (with_reducible exact LeO.refl _)
      | (with_reducible exact LeO.none _)
      | (with_reducible refine LeO.ite ?_ ?_)
      | (with_reducible refine LeO.bind ?_ (fun _ => ?_))
      | exact ih0 _ _ _ _ _ _ _
      | exact ih1 _ _ _ _ _ _ _ _ _ _ _
      | exact ih2 _ _ _ _ _
      | exact ih3 _ _ _ _ _ _ _ _ _
      | exact ih4 _ _ _ _ _ _ _ _
      | exact ih5 _ _ _ _ _ _ _ _ _ _ _ _
      | exact ih6 _ _ _ _ _
      | exact impl_Graph_edgeMatrix.mono _ _ _
      | exact impl_Graph_resolvent_1.mono _ _ _
      | exact impl_inverse.mono _ _ _
      | exact LeO.none _
      | refine LeO.ite ?_ ?_
      | refine LeO.bind ?_ (fun _ => ?_)
theorem impl_Graph_resolvent.mono : ∀ a0 a1 a2 a3 k, LeO (impl_Graph_resolvent.f k a0 a1 a2 a3) (impl_Graph_resolvent.f (k + 1) a0 a1 a2 a3) := by
  intro a0 a1 a2 a3 k
  obtain ⟨ih0, ih1, ih2, ih3, ih4, ih5, ih6⟩ := impl_Graph_resolvent.mono_l k
  unfold impl_Graph_resolvent.f
  repeat' first
      | (with_reducible exact ih0 _ _ _ _ _ _ _)
      | (with_reducible exact ih1 _ _ _ _ _ _ _ _ _ _ _)
      | (with_reducible exact ih2 _ _ _ _ _)
      | (with_reducible exact ih3 _ _ _ _ _ _ _ _ _)
      | (with_reducible exact ih4 _ _ _ _ _ _ _ _)
      | (with_reducible exact ih5 _ _ _ _ _ _ _ _ _ _ _ _)
      | (with_reducible exact ih6 _ _ _ _ _)
      | (with_reducible exact impl_Graph_edgeMatrix.mono _ _ _)
      | (with_reducible exact impl_Graph_resolvent_1.mono _ _ _)
      | (with_reducible exact impl_inverse.mono _ _ _)
      | (with_reducible exact LeO.refl _)
      | (with_reducible exact LeO.none _)
      | (with_reducible refine LeO.ite ?_ ?_)
      | (with_reducible refine LeO.bind ?_ (fun _ => ?_))
      | exact ih0 _ _ _ _ _ _ _
      | exact ih1 _ _ _ _ _ _ _ _ _ _ _
      | exact ih2 _ _ _ _ _
      | exact ih3 _ _ _ _ _ _ _ _ _
      | exact ih4 _ _ _ _ _ _ _ _
      | exact ih5 _ _ _ _ _ _ _ _ _ _ _ _
      | exact ih6 _ _ _ _ _
      | exact impl_Graph_edgeMatrix.mono _ _ _
      | exact impl_Graph_resolvent_1.mono _ _ _
      | exact impl_inverse.mono _ _ _
      | exact LeO.none _
      | refine LeO.ite ?_ ?_
      | refine LeO.bind ?_ (fun _ => ?_)
def impl_Graph_resolvent.T21 : Bool × List (List Nat × List Nat) := (true, [([], []), ([], []), ([], []), ([], []), ([], []), ([3, 4], [3, 4]), ([], []), ([], []), ([], []), ([7, 8], [7, 8]), ([6, 9], [6, 9]), ([10], [10]), ([], []), ([], []), ([12, 13], [12, 13]), ([14], [14]), ([0, 1, 0, 1, 6, 7, 8, 9, 10, 11, 15], [0, 1]), ([16, 11, 0, 1, 6, 7, 8, 9, 10, 11, 15], [11, 16]), ([2, 5, 0, 1, 2, 3, 4, 5, 6, 7, 8, 9, 10, 11, 12, 13, 14, 15, 16, 17], [2, 5]), ([18, 15, 17, 0, 1, 2, 3, 4, 5, 6, 7, 8, 9, 10, 11, 12, 13, 14, 15, 16, 17], [15, 18])])
def impl_Graph_resolvent.B21 : List Nat := [0, 0, 0, 0, 0, 24, 0, 0, 0, 384, 960, 1984, 0, 0, 12288, 28672, 65475, 131011, 262143, 524287]
theorem impl_Graph_resolvent.tab21 : rtab .any (opsOf Try.f44 21) = impl_Graph_resolvent.T21 := by kernel_rfl
theorem impl_Graph_resolvent.bits21 : waitsOk impl_Graph_resolvent.T21.2 impl_Graph_resolvent.B21 = true := by kernel_rfl
def impl_Graph_resolvent.T22 : Bool × List (List Nat × List Nat) := (true, [([], []), ([], []), ([0, 1], [0, 1]), ([2], [2]), ([], []), ([3, 4], [3, 4]), ([5], [5]), ([], []), ([6, 7], [6, 7]), ([8, 8, 0, 1, 2, 3, 4, 5, 6, 7, 8], [8])])
def impl_Graph_resolvent.B22 : List Nat := [0, 0, 3, 7, 0, 31, 63, 0, 255, 511]
theorem impl_Graph_resolvent.tab22 : rtab .any (opsOf Try.f44 22) = impl_Graph_resolvent.T22 := by kernel_rfl
theorem impl_Graph_resolvent.bits22 : waitsOk impl_Graph_resolvent.T22.2 impl_Graph_resolvent.B22 = true := by kernel_rfl
def impl_Graph_resolvent.T26 : Bool × List (List Nat × List Nat) := (true, [([], []), ([], []), ([0, 1], [0, 1]), ([2], [2]), ([], []), ([], []), ([], []), ([5, 6], [5, 6]), ([7], [7]), ([], []), ([8, 9], [8, 9]), ([10], [10]), ([], []), ([11, 12], [11, 12]), ([], []), ([13, 14], [13, 14]), ([3, 4, 0, 1, 2, 3, 4, 5, 6, 7, 8, 9, 10, 11, 12, 13, 14, 15], [3, 4]), ([16, 15, 0, 1, 2, 3, 4, 5, 6, 7, 8, 9, 10, 11, 12, 13, 14, 15], [15, 16])])
def impl_Graph_resolvent.B26 : List Nat := [0, 0, 3, 7, 0, 0, 0, 96, 224, 0, 992, 2016, 0, 8160, 0, 32736, 65535, 131071]
theorem impl_Graph_resolvent.tab26 : rtab .any (opsOf Try.f44 26) = impl_Graph_resolvent.T26 := by kernel_rfl
theorem impl_Graph_resolvent.bits26 : waitsOk impl_Graph_resolvent.T26.2 impl_Graph_resolvent.B26 = true := by kernel_rfl
def impl_Graph_resolvent.T36 : Bool × List (List Nat × List Nat) := (true, [([], []), ([], []), ([], []), ([], []), ([2, 3], [2, 3]), ([4], [4]), ([], []), ([], []), ([], []), ([7, 8], [7, 8]), ([9], [9]), ([], []), ([10, 11], [10, 11]), ([12], [12]), ([6, 13], [6, 13]), ([5, 14], [5, 14]), ([], []), ([15, 16], [15, 16]), ([0, 1, 0, 1, 2, 3, 4, 5, 6, 7, 8, 9, 10, 11, 12, 13, 14, 15, 16, 17], [0, 1]), ([18, 17, 17, 0, 1, 2, 3, 4, 5, 6, 7, 8, 9, 10, 11, 12, 13, 14, 15, 16, 17], [17, 18])])
def impl_Graph_resolvent.B36 : List Nat := [0, 0, 0, 0, 12, 28, 0, 0, 0, 384, 896, 0, 3968, 8064, 16320, 32764, 0, 131068, 262143, 524287]
theorem impl_Graph_resolvent.tab36 : rtab .any (opsOf Try.f44 36) = impl_Graph_resolvent.T36 := by kernel_rfl
theorem impl_Graph_resolvent.bits36 : waitsOk impl_Graph_resolvent.T36.2 impl_Graph_resolvent.B36 = true := by kernel_rfl
set_option maxHeartbeats 8000000 in
set_option maxRecDepth 100000 in
theorem impl_Graph_resolvent.calls (k : Nat) (a0_0 : Int) (A0_1 : Option Addr) (c0_1 : Nat) (l0_1 : List (List Int)) (a1 : Int) (a2 : Int) (r1 : List (List Int)) (r2 : Bool) (w : World) (hr0_1 : Kd.C (Kd.slice 2 (Kd.int .i64)) w A0_1 l0_1.length l0_1) (hc0_1 : l0_1.length ≤ c0_1) (h : impl_Graph_resolvent.f k a0_0 l0_1 a1 a2 = some (r1, r2)) :
    Calls Try.prog 44 #[.agg #[.int .i64 a0_0, .slice A0_1 l0_1.length c0_1], .int .i64 a1, .int .i64 a2] w fun e w' => ∃ v0_ : Value, e = .returned (.tuple #[v0_, .bool r2]) ∧ Kd.N (Kd.slice 2 (Kd.int .i64)) 34 w' w.heap.size (fun _ => True) v0_ r1 ∧ Below w.heap.size w w' := by
  have hu28 := Try.underlying28
  have HR0_1 := Aside0.mk hr0_1
  have HC0_1 := Aside0.mk hc0_1
  clear hr0_1 hc0_1
  have HB := Aside0.mk (Below.refl w.heap.size w)
  have H : ((impl_Graph_edgeMatrix.f k a0_0 l0_1).bind fun t105 => (impl_Graph_resolvent.l0 k a1 a2 (([] : List (List Int))) (wrap64 (2 * (l0_1.length : Int))) t105 (t105.length : Int) 0)) = some (r1, r2) := h
  clear h
  obtain ⟨y102, hy102⟩ : ∃ y_ : List (List Int), y_ = (([] : List (List Int))) := ⟨_, rfl⟩
  replace H : ((impl_Graph_edgeMatrix.f k a0_0 l0_1).bind fun t105 => (impl_Graph_resolvent.l0 k a1 a2 y102 (wrap64 (2 * (l0_1.length : Int))) t105 (t105.length : Int) 0)) = some (r1, r2) := by first | (rw [hy102]; with_reducible exact H) | (have H2_ := (Option.bind_some _ _).symm.trans H; rw [hy102]; with_reducible exact H2_) | (have H2_ := (Option.bind_some _ _).symm.trans H; with_reducible exact H2_) | with_reducible exact H | (rw [hy102]; exact H) | exact H
  have Ny102 := Aside0.mk hy102
  clear hy102
  replace H := Option.bind_eq_some_iff.mp H
  obtain ⟨t105, A40, H⟩ := H
  replace H : (impl_Graph_resolvent.l0 k a1 a2 y102 (wrap64 (2 * (l0_1.length : Int))) t105 (t105.length : Int) 0) = some (r1, r2) := H
  have A4 := Aside0.mk A40
  clear A40
  have H' := Aside0.mk H
  clear H
  go_enter Try.func44, Try.ntmps44
  try go_wp2_with (first | ((with_reducible refine gate_dst (N := 3) rfl ?_); refine box_event ?hg (N := 3) ?hd (cs := #[.int .i64 a0_0, .slice A0_1 l0_1.length c0_1]) (t := 28) ?hr ?_; (case hd => rfl); (case hg => rfl); (case hr => first | (go_simp; done) | (go_simp; rfl)); intro gb101 hg w5 hbox hb; have n0_ := Aside0.mk (below_step bl hb); have n1_ := Aside0.mk (hbox); have n2_ := Aside0.mk ((by rw [hg]; exact (below_size bl) : w.heap.size ≤ gb101)); have n3_ := Aside0.mk ((by rw [hg]; exact (below_size bl) : w.heap.size ≤ gb101)); clear HB; have HB := n0_; have BK101 := n1_; have GW101 := n2_; have GE101 := n3_; clear n0_ n1_ n2_ n3_; clear hb hbox hg))
  have n0_ := Aside0.mk (blk_drew BK101.out)
  have n1_ := Aside0.mk (below_drew1 HB.out)
  clear BK101
  clear HB
  have BK101 := n0_
  have HB := n1_
  clear n0_ n1_
  refine start_ (n := 7) (S := fun w' => w'.cell? ⟨gb101, 0, none⟩ = some (.int .i64 a0_0) ∧ w'.cell? ⟨gb101, 1, none⟩ = some (.slice A0_1 l0_1.length c0_1)) (ds := []) #[false, false, false, false, false, false, false] (by kernel_rfl) rfl rfl ⟨(blk_cell BK101.out 0).trans rfl, (blk_cell BK101.out 1).trans rfl⟩ (fun hHeld => ?_)
  generalize w5.drew = w6 at BK101 HB hHeld ⊢
  refine pure_ (i := 1) (N := some 27) (v := ?_) (a' := ?_) #[false, true, false, false, false, false, false] rfl rfl (by kernel_rfl) (fun _ _ _ h => h) (Or.inl ⟨by rfl, ?_⟩) ?_ ?_
  rotate_left; · intro w'; go_simp; with_reducible rfl
  rotate_left; · simp only [Act.put, zI, zZ, zS, i64_w, i32_w]; rfl
  refine take_ (i := 2) (N := some 28) (v := ?_) (a' := ?_) #[false, true, true, false, false, false, false] rfl rfl (by kernel_rfl) (fun _ _ _ h => h) (Or.inl ⟨by rfl, ?_⟩) hHeld ?_ ?_
  rotate_left; · rintro w' ⟨s0, s1⟩; go_simp; with_reducible rfl
  rotate_left; · simp only [Act.put, zI, zZ, zS, i64_w, i32_w]; rfl
  refine pure_ (i := 3) (N := some 29) (v := ?_) (a' := ?_) #[false, true, true, true, false, false, false] rfl rfl (by kernel_rfl) (fun _ _ _ h => h) (Or.inl ⟨by rfl, ?_⟩) ?_ ?_
  rotate_left; · intro w'; go_simp; with_reducible rfl
  rotate_left; · simp only [Act.put, zI, zZ, zS, i64_w, i32_w]; rfl
  refine pure_ (i := 4) (N := some 30) (v := ?_) (a' := ?_) #[false, true, true, true, true, false, false] rfl rfl (by kernel_rfl) (fun _ _ _ h => h) (Or.inl ⟨by rfl, ?_⟩) ?_ ?_
  rotate_left; · intro w'; go_simp; with_reducible rfl
  rotate_left; · simp only [Act.put, zI, zZ, zS, i64_w, i32_w]; rfl
  refine one_ (i := 0) (N := some 26) #[true, true, true, true, true, false, false] rfl rfl (by kernel_rfl) (by decide) (fun K hK => ?_)
  refine Kd.S_lit_step (Kd.slice 2 (Kd.int .i64)) _ 34 ?hg (N := 26) ?hd (xs := ([] : List (List Int))) (inner := []) (ok := fun _ => True) (okp := fun _ => True) ?hr ?hp (fun _ hk => hk) trivial (Below.refl _ _) (Nat.le_refl _) (by simp) ?_; (case hd => rfl); (case hg => rfl); (case hr => first | (go_simp; done) | (go_simp; rfl)); (case hp => exact (Reps.none _ _))
  intro v103 w7 ho8 hb hg_ hnew_
  clear hg_ hnew_
  (first | rw [← Ny102.out] at ho8 | (simp only [Int.reduceToNat] at ho8; rw [← Ny102.out] at ho8))
  have n0_ := Aside0.mk (Kd.S_lower ho8 (below_size bl))
  have n1_ := Aside0.mk (blk_below (g := gb101) (o := .cells #[.int .i64 a0_0, .slice A0_1 l0_1.length c0_1] 28 (0, 0)) bk hb)
  have n2_ := Aside0.mk (below_step bl hb)
  clear BK101
  clear HB
  have HO104 := n0_
  have BK101 := n1_
  have HB := n2_
  clear n0_ n1_ n2_
  clear hb ho8
  refine hK.out _ _ ⟨(blk_cell BK101.out 0).trans rfl, (blk_cell BK101.out 1).trans rfl⟩ (fun hHeld => ?_)
  clear hK K
  refine norm_ (a' := ?_) ?_ ?_
  rotate_left; · show Act.put _ (some 26) _ = _; simp only [Act.put, zI, zZ, zS, i64_w, i32_w]; rfl
  refine pure_ (i := 5) (N := some 8) (v := ?_) (a' := ?_) #[true, true, true, true, true, true, false] rfl rfl (by kernel_rfl) (fun _ _ _ h => h) (Or.inl ⟨by rfl, ?_⟩) ?_ ?_
  rotate_left; · intro w'; go_simp; with_reducible rfl
  rotate_left; · simp only [Act.put, zI, zZ, zS, i64_w, i32_w]; rfl
  refine pure_ (i := 6) (N := some 9) (v := ?_) (a' := ?_) #[true, true, true, true, true, true, true] rfl rfl (by kernel_rfl) (fun _ _ _ h => h) (Or.inl ⟨by rfl, ?_⟩) ?_ ?_
  rotate_left; · intro w'; go_simp; with_reducible rfl
  rotate_left; · simp only [Act.put, zI, zZ, zS, i64_w, i32_w]; rfl
  refine done_ (by kernel_rfl) ?_
  have hcz9_0 : w7.cell? ⟨gb101, 0, none⟩ = some (.int .i64 a0_0) := (blk_cell BK101.out 0).trans rfl
  have hcz9_1 : w7.cell? ⟨gb101, 1, none⟩ = some (.slice A0_1 l0_1.length c0_1) := (blk_cell BK101.out 1).trans rfl
  have hfz9_0 := blk_frozen BK101.out 0
  have hfz9_1 := blk_frozen BK101.out 1
  try go_wp2_with (first | ((with_reducible refine gate_callee (f := 89) rfl ?_); refine goesL_ (some 32) rfl rfl Try.func89 (by kernel_rfl) rfl #[.agg #[.int .i64 a0_0, .slice A0_1 l0_1.length c0_1]] rfl gm ?_; (with_reducible refine (impl_Graph_edgeMatrix.calls k a0_0 _ _ l0_1 t105 _ ?side1 ?side2 A4.out).mono ?_); (case side1 => repeat (first | exact (Kd.C_below HR0_1.out HB.out) | (with_reducible refine Kd.C_alloc ?_ _) | (with_reducible refine Kd.C_drewN ?_ _) | (with_reducible refine Kd.C_drew ?_))); (case side2 => exact HC0_1.out); rintro e w10 ⟨v106, rfl, ho0, hb⟩; refine ⟨_, rfl, ?_⟩; have n0_ := Aside0.mk (Kd.S_elder' (by (with_reducible repeat (first | apply Kd.S_alloc | apply Kd.S_drewN | apply Kd.S_drew)); exact HO104.out) (Kd.S_base ho0) hb); have n1_ := Aside0.mk (Kd.S_lower (Kd.S_new' ho0 (Kd.S_lt (by (with_reducible repeat (first | apply Kd.S_alloc | apply Kd.S_drewN | apply Kd.S_drew)); exact HO104.out))) (below_size bl)); have n2_ := Aside0.mk (blk_below (g := gb101) (o := .cells #[.int .i64 a0_0, .slice A0_1 l0_1.length c0_1] 28 (0, 0)) bk hb); have n3_ := Aside0.mk (below_step bl hb); clear HO104; clear BK101; clear HB; have HO104 := n0_; have HO107 := n1_; have BK101 := n2_; have HB := n3_; clear n0_ n1_ n2_ n3_; (try clear hb); (try clear hb2); (try clear hk); (try clear hi); (try clear ho0); obtain ⟨Ao11, co11, eo11⟩ := Kd.S_slice HO107.out; subst eo11))
  go_loopg [8, 34] k (fun kq v8 v34 w' => ∃ (x8_1 : List (List Int)) (x32_1 : List (List Int)) (x34_1 : Int), v34 = .int .i64 x34_1 ∧ Aside0 (impl_Graph_resolvent.l0 kq a1 a2 x8_1 (wrap64 (2 * (l0_1.length : Int))) x32_1 (t105.length : Int) x34_1 = some (r1, r2)) ∧ Aside0 (kq ≤ k) ∧ Aside0 (Kd.S (Kd.slice 2 (Kd.int .i64)) 34 w' w.heap.size (fun k_ => some k_ ≠ ((.slice Ao11 t105.length co11) : Value).ownBlock) v8 x8_1) ∧ Aside0 (Kd.S (Kd.slice 2 (Kd.int .i64)) 34 w' w.heap.size (fun k_ => some k_ ≠ (v8 : Value).ownBlock) (.slice Ao11 t105.length co11) x32_1) ∧ Aside0 (w'.heap[gb101]? = some (.cells #[.int .i64 a0_0, (.slice A0_1 l0_1.length c0_1)] 28 (0, 0))) ∧ Aside0 (Below w.heap.size w w'))
  case atStart => exact ⟨(y102), (t105), (0), rs, H', ⟨Nat.le_refl _⟩, ⟨by (with_reducible repeat (first | apply Kd.S_alloc | apply Kd.S_drewN | apply Kd.S_drew)); exact Kd.S_mono HO104.out (fun _ hk => hk.2)⟩, ⟨by (with_reducible repeat (first | apply Kd.S_alloc | apply Kd.S_drewN | apply Kd.S_drew)); exact Kd.S_mono HO107.out (fun _ hk => hk.2)⟩, ⟨bk⟩, ⟨bl⟩⟩
  case round =>
    clear H'
    (try clear p2); (try clear c4); (try clear p6); (try clear c8); (try clear hcz9_0); (try clear hcz9_1); (try clear hfz9_0); (try clear hfz9_1)
    obtain ⟨x8_1, x32_1, x34_1, rfl, HA, HK1, HO_8, HO_32, BK101, HB⟩ := hrel
    have hl32_1 := (Kd.S_reads' HO_32.out).1
    rw [hl32_1] at HO_32
    (try simp only [hl32_1])
    (try simp only [hl32_1] at BK101)
    (try simp only [hl32_1] at HO_8)
    cases gk with
    | zero => exact absurd HA.out (by simp [impl_Graph_resolvent.l0])
    | succ k1 =>
      have H := HA.out
      clear HA
      simp only [impl_Graph_resolvent.l0] at H
      by_cases c12 : x34_1 < (t105.length : Int)
      case neg =>
        rw [if_neg c12] at H
        have c12b0 : decide (x34_1 < (t105.length : Int)) = false := decide_eq_false c12
        (try simp only [hl32_1] at c12b0)
        clear c12
        have H' := Aside0.mk H
        clear H
        go_wp2
        go_loopg [80] k1 (fun kq v80 w' => ∃ (x8_2 : List (List Int)) (x80_2 : Int), v80 = .int .i64 x80_2 ∧ Aside0 (impl_Graph_resolvent.l2 kq a1 x8_2 (wrap64 (2 * (l0_1.length : Int))) (wrap64 (2 * (l0_1.length : Int))) x80_2 = some (r1, r2)) ∧ Aside0 (kq ≤ k1) ∧ Aside0 (Kd.S (Kd.slice 2 (Kd.int .i64)) 34 w' w.heap.size (fun _ => True) u8 x8_2) ∧ Aside0 (w'.heap[gb101]? = some (.cells #[.int .i64 a0_0, (.slice A0_1 l0_1.length c0_1)] 28 (0, 0))) ∧ Aside0 (Below w.heap.size w w'))
        case atStart => exact ⟨(x8_1), (0), rs, H', ⟨Nat.le_refl _⟩, ⟨by (try simp only [hl32_1]); (with_reducible repeat (first | apply Kd.S_alloc | apply Kd.S_drewN | apply Kd.S_drew)); exact Kd.S_mono HO_8.out (fun _ hk => trivial)⟩, ⟨by (try simp only [hl32_1]); (with_reducible repeat (first | refine blk_drewN ?_ _ | refine blk_drew ?_ | refine blk_alloc ?_ _)); exact BK101.out⟩, ⟨bl⟩⟩
        case round =>
          clear H'
          (try clear c1); (try clear p1); (try clear q1); (try clear hx1); (try clear c2); (try clear p2); (try clear q2); (try clear hx2); (try clear c3); (try clear p3); (try clear q3); (try clear hx3); (try clear hf3); (try clear c4); (try clear p6); (try clear c8); (try clear c9); (try clear c10); (try clear p10); (try clear q10); (try clear hx10); (try clear c11); (try clear p11); (try clear q11); (try clear hx11); (try clear c12); (try clear c12b0); (try clear c13); (try clear c13b0); (try clear c14); (try clear c14b0); (try clear c16); (try clear c16b0); (try clear c16b1); (try clear c17); (try clear c17b0); (try clear c17b1); (try clear c20); (try clear c20b0); (try clear c21); (try clear c21b0); (try clear c22); (try clear c22b0); (try clear c24); (try clear c24b0); (try clear p25); (try clear q25); (try clear hx25); (try clear hf25); (try clear c28); (try clear c28b0); (try clear c29); (try clear c29b0); (try clear c30); (try clear c30b0); (try clear c30b1); (try clear p31); (try clear q31); (try clear hx31); (try clear hf31); (try clear c33); (try clear c33b0); (try clear c34); (try clear c34b0); (try clear p35); (try clear q35); (try clear hx35); (try clear hf35); (try clear c36); (try clear hcz9_0); (try clear hcz9_1); (try clear hfz9_0); (try clear hfz9_1); (try clear hx108_0); (try clear hx112_0); (try clear hx113_0); (try clear hx116_0); (try clear hx25_0); (try clear hx31_0); (try clear hx35_0); (try clear p1); (try clear p10); (try clear p108); (try clear p112); (try clear p113); (try clear p116); (try clear p2); (try clear p25); (try clear p31); (try clear p35); (try clear p6); (try clear q1); (try clear q10); (try clear q108); (try clear q112); (try clear q113); (try clear q116); (try clear q25); (try clear q31); (try clear q35)
          obtain ⟨x8_2, x80_2, rfl, HA, HK2, HO_8, BK101, HB⟩ := hrel
          cases gk with
          | zero => exact absurd HA.out (by simp [impl_Graph_resolvent.l2])
          | succ k2 =>
            have H := HA.out
            clear HA
            simp only [impl_Graph_resolvent.l2] at H
            by_cases c43 : x80_2 < (wrap64 (2 * (l0_1.length : Int)))
            case neg =>
              rw [if_neg c43] at H
              have c43b0 : decide (x80_2 < (wrap64 (2 * (l0_1.length : Int)))) = false := decide_eq_false c43
              (try simp only [hl32_1] at c43b0)
              clear c43
              obtain ⟨y151, hy151⟩ : ∃ y_ : List (List Int), y_ = (([] : List (List Int))) := ⟨_, rfl⟩
              replace H : (impl_Graph_resolvent.l6 k2 x8_2 (wrap64 (2 * (l0_1.length : Int))) y151 (x8_2.length : Int) 0) = some (r1, r2) := by first | (rw [hy151]; with_reducible exact H) | (have H2_ := (Option.bind_some _ _).symm.trans H; rw [hy151]; with_reducible exact H2_) | (have H2_ := (Option.bind_some _ _).symm.trans H; with_reducible exact H2_) | with_reducible exact H | (rw [hy151]; exact H) | exact H
              have Ny151 := Aside0.mk hy151
              clear hy151
              have H' := Aside0.mk H
              clear H
              go_wp2_with (first | ((with_reducible refine gate_dst (N := 188) rfl ?_); refine Kd.S_lit (Kd.slice 2 (Kd.int .i64)) _ 34 ?hg (N := 188) ?hd (xs := ([] : List (List Int))) (inner := []) (ok := fun _ => True) (okp := fun _ => True) ?hr ?hp (fun _ hk => hk) trivial (Below.refl _ _) (Nat.le_refl _) (by simp) ?_; (case hd => rfl); (case hg => rfl); (case hr => first | (go_simp; done) | (go_simp; rfl)); (case hp => exact (Reps.none _ _)); intro v152 w110 ho111 hb hg_ hnew_; clear hg_ hnew_; (first | rw [← Ny151.out] at ho111 | (simp only [Int.reduceToNat] at ho111; rw [← Ny151.out] at ho111)); have n0_ := Aside0.mk (Kd.S_elder' (by (with_reducible repeat (first | apply Kd.S_alloc | apply Kd.S_drewN | apply Kd.S_drew)); exact HO_8.out) (Kd.S_base ho111) hb); have n1_ := Aside0.mk (Kd.S_lower (Kd.S_new' ho111 (Kd.S_lt (by (with_reducible repeat (first | apply Kd.S_alloc | apply Kd.S_drewN | apply Kd.S_drew)); exact HO_8.out))) (below_size bl)); have n2_ := Aside0.mk (blk_below (g := gb101) (o := .cells #[.int .i64 a0_0, .slice A0_1 l0_1.length c0_1] 28 (0, 0)) bk hb); have n3_ := Aside0.mk (below_step bl hb); clear HO_8; clear BK101; clear HB; have HO_8 := n0_; have HO153 := n1_; have BK101 := n2_; have HB := n3_; clear n0_ n1_ n2_ n3_; clear hb ho111; obtain ⟨Ao112, co112, eo112⟩ := Kd.S_slice HO_8.out; subst eo112))
              go_loopg [23, 191] k2 (fun kq v23 v191 w' => ∃ (x23_3 : List (List Int)) (x191_3 : Int), v191 = .int .i64 x191_3 ∧ Aside0 (impl_Graph_resolvent.l6 kq x8_2 (wrap64 (2 * (l0_1.length : Int))) x23_3 (x8_2.length : Int) x191_3 = some (r1, r2)) ∧ Aside0 (kq ≤ k2) ∧ Aside0 (Kd.S (Kd.slice 2 (Kd.int .i64)) 34 w' w.heap.size (fun k_ => some k_ ≠ (v23 : Value).ownBlock) (.slice Ao112 x8_2.length co112) x8_2) ∧ Aside0 (Kd.N (Kd.slice 2 (Kd.int .i64)) 34 w' w.heap.size (fun _ => True) v23 x23_3) ∧ Aside0 (w'.heap[gb101]? = some (.cells #[.int .i64 a0_0, (.slice A0_1 l0_1.length c0_1)] 28 (0, 0))) ∧ Aside0 (Below w.heap.size w w'))
              case atStart => exact ⟨(y151), (0), rs, H', ⟨Nat.le_refl _⟩, ⟨by (try simp only [hl32_1]); (with_reducible repeat (first | apply Kd.S_alloc | apply Kd.S_drewN | apply Kd.S_drew)); exact Kd.S_mono HO_8.out (fun _ hk => hk.2)⟩, ⟨by (try simp only [hl32_1]); (with_reducible repeat (first | apply Kd.N_alloc | apply Kd.N_drewN | apply Kd.N_drew)); exact Kd.S_N (Kd.S_mono HO153.out (fun _ _ => trivial))⟩, ⟨by (try simp only [hl32_1]); (with_reducible repeat (first | refine blk_drewN ?_ _ | refine blk_drew ?_ | refine blk_alloc ?_ _)); exact BK101.out⟩, ⟨bl⟩⟩
              case round =>
                clear H'
                (try clear c1); (try clear p1); (try clear q1); (try clear hx1); (try clear p2); (try clear q2); (try clear hx2); (try clear c3); (try clear p3); (try clear q3); (try clear hx3); (try clear hf3); (try clear c4); (try clear c5); (try clear q5); (try clear c6); (try clear p6); (try clear q6); (try clear hx6); (try clear hf6); (try clear c7); (try clear hx7); (try clear hf7); (try clear c8); (try clear p8); (try clear q8); (try clear hx8); (try clear hf8); (try clear c9); (try clear c10); (try clear p10); (try clear q10); (try clear hx10); (try clear hf10); (try clear p11); (try clear q11); (try clear hx11); (try clear p12); (try clear q12); (try clear hx12); (try clear p13); (try clear q13); (try clear hx13); (try clear c14); (try clear p14); (try clear q14); (try clear hx14); (try clear p25); (try clear q25); (try clear hx25); (try clear p31); (try clear q31); (try clear hx31); (try clear hf31); (try clear c33); (try clear c33b0); (try clear c34); (try clear c34b0); (try clear p35); (try clear q35); (try clear hx35); (try clear hf35); (try clear c36); (try clear c43); (try clear c43b0); (try clear c44); (try clear c44b0); (try clear c44b1); (try clear c45); (try clear c45b0); (try clear c45b1); (try clear c47); (try clear c47b0); (try clear c49); (try clear c53); (try clear q53); (try clear c57); (try clear c57b0); (try clear c58); (try clear c58b0); (try clear c59); (try clear c59b0); (try clear c60); (try clear p60); (try clear q60); (try clear hx60); (try clear hf60); (try clear c61); (try clear c61b0); (try clear c64); (try clear p64); (try clear c68); (try clear q68); (try clear hx72); (try clear hf72); (try clear c76); (try clear c76b0); (try clear c77); (try clear c77b0); (try clear c78); (try clear c78b0); (try clear c79); (try clear c79b0); (try clear c80); (try clear c80b0); (try clear c81); (try clear c81b0); (try clear c81b1); (try clear p82); (try clear q82); (try clear hx82); (try clear hf82); (try clear c84); (try clear p84); (try clear q84); (try clear c86); (try clear c86b0); (try clear c87); (try clear c87b0); (try clear c88); (try clear c88b0); (try clear c89); (try clear c89b0); (try clear c90); (try clear c90b0); (try clear c91); (try clear c91b0); (try clear c91b1); (try clear c92); (try clear c94); (try clear c94b0); (try clear c94b1); (try clear c95); (try clear c97); (try clear c99); (try clear c99b0); (try clear c100); (try clear c100b0); (try clear c101); (try clear c101b0); (try clear c102); (try clear c102b0); (try clear c103); (try clear c103b0); (try clear c104); (try clear c104b0); (try clear p106); (try clear q106); (try clear hx106); (try clear hf106); (try clear c108); (try clear p108); (try clear q108); (try clear hx108); (try clear p112); (try clear q112); (try clear hx112); (try clear hcz50_0); (try clear hcz52_0); (try clear hcz65_0); (try clear hcz67_0); (try clear hcz75_0); (try clear hcz93_0); (try clear hcz96_0); (try clear hcz98_0); (try clear hcz9_0); (try clear hcz9_1); (try clear hfz50_0); (try clear hfz52_0); (try clear hfz65_0); (try clear hfz67_0); (try clear hfz75_0); (try clear hfz93_0); (try clear hfz96_0); (try clear hfz98_0); (try clear hfz9_0); (try clear hfz9_1); (try clear hx106_0); (try clear hx108_0); (try clear hx112_0); (try clear hx113_0); (try clear hx116_0); (try clear hx128_0); (try clear hx129_0); (try clear hx131_0); (try clear hx132_0); (try clear hx134_0); (try clear hx135_0); (try clear hx136_0); (try clear hx137_0); (try clear hx141_0); (try clear hx142_0); (try clear hx143_0); (try clear hx144_0); (try clear hx145_0); (try clear hx146_0); (try clear hx25_0); (try clear hx31_0); (try clear hx35_0); (try clear hx60_0); (try clear hx72_0); (try clear hx82_0); (try clear p1); (try clear p10); (try clear p106); (try clear p108); (try clear p11); (try clear p112); (try clear p113); (try clear p116); (try clear p12); (try clear p128); (try clear p129); (try clear p13); (try clear p131); (try clear p132); (try clear p134); (try clear p135); (try clear p136); (try clear p137); (try clear p141); (try clear p142); (try clear p143); (try clear p144); (try clear p145); (try clear p146); (try clear p2); (try clear p25); (try clear p3); (try clear p31); (try clear p35); (try clear p6); (try clear p60); (try clear p64); (try clear p8); (try clear p82); (try clear p84); (try clear q053); (try clear q068); (try clear q1); (try clear q10); (try clear q106); (try clear q108); (try clear q11); (try clear q112); (try clear q113); (try clear q116); (try clear q12); (try clear q128); (try clear q129); (try clear q13); (try clear q131); (try clear q132); (try clear q134); (try clear q135); (try clear q136); (try clear q137); (try clear q141); (try clear q142); (try clear q143); (try clear q144); (try clear q145); (try clear q146); (try clear q2); (try clear q25); (try clear q3); (try clear q31); (try clear q35); (try clear q5); (try clear q53); (try clear q6); (try clear q60); (try clear q68); (try clear q8); (try clear q82); (try clear q84)
                obtain ⟨x23_3, x191_3, rfl, HA, HK3, HO_8, HO_23, BK101, HB⟩ := hrel
                cases gk with
                | zero => exact absurd HA.out (by simp [impl_Graph_resolvent.l6])
                | succ k3 =>
                  have H := HA.out
                  clear HA
                  simp only [impl_Graph_resolvent.l6] at H
                  by_cases c113 : x191_3 < (x8_2.length : Int)
                  case neg =>
                    rw [if_neg c113] at H
                    have c113b0 : decide (x191_3 < (x8_2.length : Int)) = false := decide_eq_false c113
                    (try simp only [hl32_1] at c113b0)
                    clear c113
                    simp only [Option.some.injEq, Prod.mk.injEq] at H
                    obtain ⟨rfl, rfl⟩ := H
                    go_wp2
                    go_ret2
                    exact ⟨_, by first | rfl | (simp [errW_none, errW_some] <;> rfl) | (simp [*, errW_none, errW_some] <;> rfl), by (with_reducible repeat (first | apply Kd.N_alloc | apply Kd.N_drewN | apply Kd.N_drew)); exact HO_23.out, bl⟩
                  rw [if_pos c113] at H
                  have c113b0 : decide (x191_3 < (x8_2.length : Int)) = true := decide_eq_true c113
                  (try simp only [hl32_1] at c113b0)
                  clear c113
                  by_cases c114 : 0 ≤ x191_3
                  case neg => rw [if_neg c114] at H; exact absurd H (by simp)
                  rw [if_pos c114] at H
                  have c114b0 : decide (0 ≤ x191_3) = true := decide_eq_true c114
                  clear c114
                  by_cases c115 : x191_3 < (x8_2.length : Int)
                  case neg => rw [if_neg c115] at H; exact absurd H (by simp)
                  rw [if_pos c115] at H
                  have c115b0 : decide (x191_3 < (x8_2.length : Int)) = true := decide_eq_true c115
                  (try simp only [hl32_1] at c115b0)
                  clear c115
                  obtain ⟨ji116, hji116⟩ : ∃ j_ : Int, (wrap64 (2 * (l0_1.length : Int))) = j_ := ⟨_, rfl⟩
                  replace H : (if 0 ≤ (ji116) then (if (ji116) ≤ ((rd_L1 x8_2 x191_3).length : Int) then ((some ((rd_L1 x8_2 x191_3).drop ((ji116) : Int).toNat : List Int)).bind fun y155 => (if x23_3.length < 5864062014805 then (impl_Graph_resolvent.l6 k3 x8_2 (ji116) (x23_3 ++ [y155]) (x8_2.length : Int) (wrap64 (x191_3 + 1))) else (none))) else (none)) else (none)) = some (r1, r2) := by first | (rw [hji116] at H; exact H) | (simp only [hji116] at H ⊢; exact H)
                  (try rw [hji116] at c43b0)
                  have hji116w : (IntKind.i64.wrap (2 * (l0_1.length : Int))) = ji116 := (i64_w _).trans hji116
                  by_cases c117 : 0 ≤ (ji116)
                  case neg => rw [if_neg c117] at H; exact absurd H (by simp)
                  rw [if_pos c117] at H
                  have c117b0 := eq_true c117
                  have c117b1 : decide (0 ≤ (ji116)) = true := decide_eq_true c117
                  clear c117
                  by_cases c118 : (ji116) ≤ ((rd_L1 x8_2 x191_3).length : Int)
                  case neg => rw [if_neg c118] at H; exact absurd H (by simp)
                  rw [if_pos c118] at H
                  have c118b0 := eq_true c118
                  have c118b1 : decide ((ji116) ≤ ((rd_L1 x8_2 x191_3).length : Int)) = true := decide_eq_true c118
                  (try simp only [hl32_1] at c118b1)
                  clear c118
                  obtain ⟨y155, hy155⟩ : ∃ y_ : List Int, y_ = ((rd_L1 x8_2 x191_3).drop ((ji116) : Int).toNat) := ⟨_, rfl⟩
                  replace H : (if x23_3.length < 5864062014805 then (impl_Graph_resolvent.l6 k3 x8_2 (ji116) (x23_3 ++ [y155]) (x8_2.length : Int) (wrap64 (x191_3 + 1))) else (none)) = some (r1, r2) := by first | (rw [hy155]; with_reducible exact H) | (have H2_ := (Option.bind_some _ _).symm.trans H; rw [hy155]; with_reducible exact H2_) | (have H2_ := (Option.bind_some _ _).symm.trans H; with_reducible exact H2_) | with_reducible exact H | (rw [hy155]; exact H) | exact H
                  have Ny155 := Aside0.mk hy155
                  clear hy155
                  by_cases c120 : x23_3.length < 5864062014805
                  case neg => rw [if_neg c120] at H; exact absurd H (by simp)
                  rw [if_pos c120] at H
                  have LMc120 := Aside0.mk c120
                  clear c120
                  obtain ⟨y165, hy165⟩ : ∃ y_ : List (List Int), y_ = (x23_3 ++ [y155]) := ⟨_, rfl⟩
                  replace H : (impl_Graph_resolvent.l6 k3 x8_2 (ji116) y165 (x8_2.length : Int) (wrap64 (x191_3 + 1))) = some (r1, r2) := by first | (rw [hy165]; with_reducible exact H) | (have H2_ := (Option.bind_some _ _).symm.trans H; rw [hy165]; with_reducible exact H2_) | (have H2_ := (Option.bind_some _ _).symm.trans H; with_reducible exact H2_) | with_reducible exact H | (rw [hy165]; exact H) | exact H
                  have Ny165 := Aside0.mk hy165
                  clear hy165
                  have H' := Aside0.mk H
                  clear H
                  have p154 : 0 ≤ (x191_3 : Int) := oD
                  have q154 : x191_3 < (x8_2.length : Int) := oD
                  obtain ⟨ad154, A154_0, c154_0, e154, hx154_0, hl154_0, hi154_0⟩ := at_L1 (Kd.S_reads' HO_8.out).2.2 x191_3 p154 q154
                  cases e154
                  obtain ⟨ce154, hce154, hMe154, hcc154⟩ := Kd.S_get HO_8.out [] x191_3 p154 (by first | exact q154 | exact oD | (have e_ := (Kd.S_reads' HO_8.out).1; omega))
                  obtain ⟨ve154_0, rfl, ge154_0⟩ := hMe154
                  have hv154_0 := hcc154 0 _ rfl
                  rw [Nat.add_zero, show ((Kd.slice 2 (Kd.int .i64))).sz = 1 from rfl, Nat.mul_one] at hv154_0
                  replace hv154_0 := Option.some.inj (hv154_0.symm.trans hx154_0)
                  rw [hv154_0] at ge154_0
                  have HL154_0 := Aside0.mk (show Kd.R (Kd.int .i64) 2 _ _ _ _ (rd_L1 x8_2 x191_3) from ge154_0)
                  clear hv154_0 ge154_0
                  have HX154_0 := Aside0.mk hx154_0
                  clear hcc154 hce154
                  have HR154_0 := Aside0.mk hi154_0
                  have HC154_0 := Aside0.mk hl154_0
                  clear hi154_0 hl154_0
                  replace p154 := eq_true p154
                  replace q154 := eq_true q154
                  have q121 : ((ji116) : Int) ≤ (((rd_L1 x8_2 x191_3).length : Int) : Int) := oD
                  obtain ⟨i0121, hi0121, _, hsz121, _⟩ := info_parts info2
                  have hroom121 : (rd_L1 x8_2 x191_3).length ≤ c154_0 := HC154_0.out
                  have hC121 : Kd.C (Kd.int .i64) _ A154_0 (rd_L1 x8_2 x191_3).length (rd_L1 x8_2 x191_3) := (by repeat (first | (with_reducible exact HR154_0.out) | (with_reducible refine Kd.C_alloc ?_ _) | (with_reducible refine Kd.C_drewN ?_ _) | (with_reducible refine Kd.C_drew ?_) | exact HR154_0.out))
                  have q0121 : (0 : Int) ≤ ((ji116) : Int) := oD
                  have hcut121 := cut_from (P := Try.prog) 34 2 .i64 Try.underlying34 hi0121 1 hsz121 A154_0 (rd_L1 x8_2 x191_3).length c154_0 (ji116) q0121 q121
                  have hr121 := Kd.C_drop (m := ((ji116) : Int).toNat) (c := c154_0) hC121 (by omega) hroom121
                  obtain ⟨A121, hA121⟩ : ∃ A1, A1 = (if c154_0 = ((ji116) : Int).toNat then A154_0 else (A154_0 : Option Addr).map (·.add (((ji116) : Int).toNat * 1))) := ⟨_, rfl⟩
                  obtain ⟨c121, hc121⟩ : ∃ c1, c1 = c154_0 - ((ji116) : Int).toNat := ⟨_, rfl⟩
                  have hy121 : y155.length = (rd_L1 x8_2 x191_3).length - ((ji116) : Int).toNat := (by rw [Ny155.out, List.length_drop] <;> omega)
                  rw [show (rd_L1 x8_2 x191_3).drop ((ji116) : Int).toNat = y155 from Ny155.out.symm] at hr121
                  replace hr121 : Kd.C (Kd.int .i64) _ A121 y155.length y155 := (by rw [hA121]; exact hr121)
                  rw [← hy121, ← hA121, ← hc121] at hcut121
                  have HR158 := Aside0.mk hr121
                  have HC158 := Aside0.mk (show y155.length ≤ c121 from by rw [hy121, hc121]; exact Nat.sub_le_sub_right hroom121 _)
                  clear hr121 hC121 hroom121 hi0121 hsz121 hc121
                  have KY121 := Aside0.mk hy121
                  have KA121 := Aside0.mk hA121
                  clear hy121 hA121
                  replace q121 := eq_true q121
                  have HF_ := Aside0.mk (Kd.F_cut (m := ((ji116) : Int).toNat) (c := c154_0) (Kd.F_mono (ok' := fun k_ => some k_ ≠ (u23 : Value).ownBlock) (Kd.R_F HL154_0.out) (fun k_ hk => by first | exact hk.1 | exact hk.1.1 | exact hk.2 | exact hk.1.2)) (by have h_ := of_eq_true q121; omega) HC154_0.out)
                  rw [show (if c154_0 = ((ji116) : Int).toNat then A154_0 else (A154_0 : Option Addr).map (·.add (((ji116) : Int).toNat * (Kd.int .i64).sz))) = A121 from KA121.out.symm, show (rd_L1 x8_2 x191_3).drop ((ji116) : Int).toNat = y155 from Ny155.out.symm] at HF_
                  go_wp2_with (first | ((with_reducible refine gate_builtin (b := .append) (xs := #[.tmp 195, .tmp 199]) rfl ?_); at_builtin; refine Kd.N_append (Kd.slice 2 (Kd.int .i64)) (w0 := w) w.heap.size rfl (.tmp 195) (.tmp 199) 22 34 (.slice none 0 0) 24 rfl Try.underlying22 info34 rfl (by decide) (by omega) u23 x23_3 y155 [.slice A121 y155.length c121] (fun _ => True) (fun k_ => some k_ ≠ (u23 : Value).ownBlock) rfl rfl ?aP (fun k_ hk_ => ⟨trivial, hk_⟩) ?aF ?aO ?aB ?aS ?aL ?_; (case aP => exact Kd.FK_slice_mk HC158.out (by (with_reducible repeat (first | apply Kd.F_alloc | apply Kd.F_drewN | apply Kd.F_drew)); exact HF_.out)); (case aB => exact bl); (case aF => exact fun _ _ => trivial); (case aO => exact (by (with_reducible repeat (first | apply Kd.N_alloc | apply Kd.N_drewN | apply Kd.N_drew)); exact HO_23.out)); (case aS => exact (below_size bl)); (case aL => have := LMc120.out; omega); intro v166 w125 ho hb hg hat; rw [← Ny165.out] at ho; have n0_ := Aside0.mk (Kd.S_after (v := u23) (ok := fun _ => True) (by (with_reducible repeat (first | apply Kd.S_alloc | apply Kd.S_drewN | apply Kd.S_drew)); exact Kd.S_mono HO_8.out (fun _ hk => ⟨trivial, hk⟩)) hg hat); have n1_ := Aside0.mk (blk_grown (g := gb101) (o := .cells #[.int .i64 a0_0, .slice A0_1 l0_1.length c0_1] 28 (0, 0)) bk hg (Kd.N_ne HO_23.out BK101.out (by decide))); have n3_ := Aside0.mk (hb); have n4_ := Aside0.mk (ho); clear HO_8; clear BK101; clear HL154_0; clear HB; clear HO_23; have HO_8 := n0_; have BK101 := n1_; have HB := n3_; have HO167 := n4_; clear n0_ n1_ n3_ n4_; clear ho hb hg hat))
                  first | go_roundg k3 | (simp only [← hji116]; go_roundg k3) | (simp only [← hji15]; go_roundg k3) | (simp only [← hji32]; go_roundg k3) | (simp only [← hji56]; go_roundg k3) | ((try (have e_ := HGZ11_2.out; injection e_ with e1_ e2_ e3_; subst e1_ e3_)); (try (have e_ := HGZ20_5.out; injection e_ with e1_ e2_ e3_; subst e1_ e3_)); go_roundg k3)
                  case measure => have := HK1.out; have := HK2.out; have := HK3.out; omega
                  case rel => exact ⟨(y165), (wrap64 (x191_3 + 1)), rs, (by first | exact H' | (rw [hji116]; exact H') | (rw [hji15]; exact H') | (rw [hji32]; exact H') | (rw [hji56]; exact H')), ⟨by have := HK1.out; have := HK2.out; have := HK3.out; omega⟩, ⟨by (try simp only [hl32_1]); (with_reducible repeat (first | apply Kd.S_alloc | apply Kd.S_drewN | apply Kd.S_drew)); exact Kd.S_mono HO_8.out (fun _ hk => hk.2)⟩, ⟨by (try simp only [hl32_1]); (with_reducible repeat (first | apply Kd.N_alloc | apply Kd.N_drewN | apply Kd.N_drew)); exact HO167.out⟩, ⟨by (try simp only [hl32_1]); (with_reducible repeat (first | refine blk_drewN ?_ _ | refine blk_drew ?_ | refine blk_alloc ?_ _)); exact BK101.out⟩, ⟨bl⟩⟩
            rw [if_pos c43] at H
            have c43b0 : decide (x80_2 < (wrap64 (2 * (l0_1.length : Int)))) = true := decide_eq_true c43
            (try simp only [hl32_1] at c43b0)
            clear c43
            by_cases c44 : 0 ≤ x80_2
            case neg => rw [if_neg c44] at H; exact absurd H (by simp)
            rw [if_pos c44] at H
            have c44b0 := eq_true c44
            have c44b1 : decide (0 ≤ x80_2) = true := decide_eq_true c44
            clear c44
            by_cases c45 : x80_2 ≤ (x8_2.length : Int)
            case neg => rw [if_neg c45] at H; exact absurd H (by simp)
            rw [if_pos c45] at H
            have c45b0 := eq_true c45
            have c45b1 : decide (x80_2 ≤ (x8_2.length : Int)) = true := decide_eq_true c45
            (try simp only [hl32_1] at c45b1)
            clear c45
            obtain ⟨y123, hy123⟩ : ∃ y_ : List (List Int), y_ = (x8_2.drop (x80_2 : Int).toNat) := ⟨_, rfl⟩
            replace H : ((impl_Graph_resolvent_1.f k2 y123 x80_2).bind fun t127 => (if t127 < 0 then (some (([] : List (List Int)), false)) else (if 0 ≤ (wrap64 (x80_2 + t127)) then (if (wrap64 (x80_2 + t127)) < (x8_2.length : Int) then (if x80_2 < (x8_2.length : Int) then ((some (swp x8_2 x80_2 (wrap64 (x80_2 + t127)) : List (List Int))).bind fun y130 => (if x80_2 < ((rd_L1 y130 x80_2).length : Int) then ((impl_inverse.f k2 (rd (rd_L1 y130 x80_2) x80_2) a1).bind fun t133 => (impl_Graph_resolvent.l3 k2 a1 y130 (wrap64 (2 * (l0_1.length : Int))) t133 (wrap64 (2 * (l0_1.length : Int))) x80_2 ((rd_L1 y130 x80_2).length : Int) 0 x80_2)) else (none))) else (none)) else (none)) else (none)))) = some (r1, r2) := by first | (rw [hy123]; with_reducible exact H) | (have H2_ := (Option.bind_some _ _).symm.trans H; rw [hy123]; with_reducible exact H2_) | (have H2_ := (Option.bind_some _ _).symm.trans H; with_reducible exact H2_) | with_reducible exact H | (rw [hy123]; exact H) | exact H
            have Ny123 := Aside0.mk hy123
            clear hy123
            replace H := Option.bind_eq_some_iff.mp H
            obtain ⟨t127, A460, H⟩ := H
            replace H : (if t127 < 0 then (some (([] : List (List Int)), false)) else (if 0 ≤ (wrap64 (x80_2 + t127)) then (if (wrap64 (x80_2 + t127)) < (x8_2.length : Int) then (if x80_2 < (x8_2.length : Int) then ((some (swp x8_2 x80_2 (wrap64 (x80_2 + t127)) : List (List Int))).bind fun y130 => (if x80_2 < ((rd_L1 y130 x80_2).length : Int) then ((impl_inverse.f k2 (rd (rd_L1 y130 x80_2) x80_2) a1).bind fun t133 => (impl_Graph_resolvent.l3 k2 a1 y130 (wrap64 (2 * (l0_1.length : Int))) t133 (wrap64 (2 * (l0_1.length : Int))) x80_2 ((rd_L1 y130 x80_2).length : Int) 0 x80_2)) else (none))) else (none)) else (none)) else (none))) = some (r1, r2) := H
            have A46 := Aside0.mk A460
            clear A460
            by_cases c47 : t127 < 0
            case neg =>
              rw [if_neg c47] at H
              have c47b0 : decide (t127 < 0) = false := decide_eq_false c47
              clear c47
              obtain ⟨ji56, hji56⟩ : ∃ j_ : Int, (wrap64 (x80_2 + t127)) = j_ := ⟨_, rfl⟩
              replace H : (if 0 ≤ (ji56) then (if (ji56) < (x8_2.length : Int) then (if x80_2 < (x8_2.length : Int) then ((some (swp x8_2 x80_2 (ji56) : List (List Int))).bind fun y130 => (if x80_2 < ((rd_L1 y130 x80_2).length : Int) then ((impl_inverse.f k2 (rd (rd_L1 y130 x80_2) x80_2) a1).bind fun t133 => (impl_Graph_resolvent.l3 k2 a1 y130 (wrap64 (2 * (l0_1.length : Int))) t133 (wrap64 (2 * (l0_1.length : Int))) x80_2 ((rd_L1 y130 x80_2).length : Int) 0 x80_2)) else (none))) else (none)) else (none)) else (none)) = some (r1, r2) := by first | (rw [hji56] at H; exact H) | (simp only [hji56] at H ⊢; exact H)
              (try rw [hji56] at A46)
              have hji56w : (IntKind.i64.wrap (x80_2 + t127)) = ji56 := (i64_w _).trans hji56
              by_cases c57 : 0 ≤ (ji56)
              case neg => rw [if_neg c57] at H; exact absurd H (by simp)
              rw [if_pos c57] at H
              have c57b0 : decide (0 ≤ (ji56)) = true := decide_eq_true c57
              clear c57
              by_cases c58 : (ji56) < (x8_2.length : Int)
              case neg => rw [if_neg c58] at H; exact absurd H (by simp)
              rw [if_pos c58] at H
              have c58b0 : decide ((ji56) < (x8_2.length : Int)) = true := decide_eq_true c58
              (try simp only [hl32_1] at c58b0)
              clear c58
              by_cases c59 : x80_2 < (x8_2.length : Int)
              case neg => rw [if_neg c59] at H; exact absurd H (by simp)
              rw [if_pos c59] at H
              have c59b0 : decide (x80_2 < (x8_2.length : Int)) = true := decide_eq_true c59
              (try simp only [hl32_1] at c59b0)
              clear c59
              obtain ⟨y130, hy130⟩ : ∃ y_ : List (List Int), y_ = (swp x8_2 x80_2 (ji56)) := ⟨_, rfl⟩
              replace H : (if x80_2 < ((rd_L1 y130 x80_2).length : Int) then ((impl_inverse.f k2 (rd (rd_L1 y130 x80_2) x80_2) a1).bind fun t133 => (impl_Graph_resolvent.l3 k2 a1 y130 (wrap64 (2 * (l0_1.length : Int))) t133 (wrap64 (2 * (l0_1.length : Int))) x80_2 ((rd_L1 y130 x80_2).length : Int) 0 x80_2)) else (none)) = some (r1, r2) := by first | (rw [hy130]; with_reducible exact H) | (have H2_ := (Option.bind_some _ _).symm.trans H; rw [hy130]; with_reducible exact H2_) | (have H2_ := (Option.bind_some _ _).symm.trans H; with_reducible exact H2_) | with_reducible exact H | (rw [hy130]; exact H) | exact H
              have Ny130 := Aside0.mk hy130
              clear hy130
              by_cases c61 : x80_2 < ((rd_L1 y130 x80_2).length : Int)
              case neg => rw [if_neg c61] at H; exact absurd H (by simp)
              rw [if_pos c61] at H
              have c61b0 : decide (x80_2 < ((rd_L1 y130 x80_2).length : Int)) = true := decide_eq_true c61
              (try simp only [hl32_1] at c61b0)
              clear c61
              replace H := Option.bind_eq_some_iff.mp H
              obtain ⟨t133, A620, H⟩ := H
              replace H : (impl_Graph_resolvent.l3 k2 a1 y130 (wrap64 (2 * (l0_1.length : Int))) t133 (wrap64 (2 * (l0_1.length : Int))) x80_2 ((rd_L1 y130 x80_2).length : Int) 0 x80_2) = some (r1, r2) := H
              have A62 := Aside0.mk A620
              clear A620
              have H' := Aside0.mk H
              clear H
              try go_wp2_with (first | ((with_reducible refine gate_dst (N := 15) rfl ?_); refine box_event ?hg (N := 15) ?hd (cs := #[.int .i64 0]) (t := 3) ?hr ?_; (case hd => rfl); (case hg => rfl); (case hr => first | (go_simp; done) | (go_simp; rfl)); intro gb122 hg w63 hbox hb; have n0_ := Aside0.mk (Kd.S_below (by (with_reducible repeat (first | apply Kd.S_alloc | apply Kd.S_drewN | apply Kd.S_drew)); exact HO_8.out) hb); have n1_ := Aside0.mk (blk_below (g := gb101) (o := .cells #[.int .i64 a0_0, .slice A0_1 l0_1.length c0_1] 28 (0, 0)) bk hb); have n2_ := Aside0.mk (below_step bl hb); have n3_ := Aside0.mk (hbox); have n4_ := Aside0.mk ((by rw [hg]; exact (below_size bl) : w.heap.size ≤ gb122)); have n5_ := Aside0.mk ((by rw [hg]; exact (below_size bl) : w.heap.size ≤ gb122)); have n6_ := Aside0.mk ((by rw [hg]; exact Nat.ne_of_lt (blk_lt (g := gb101) (o := .cells #[.int .i64 a0_0, .slice A0_1 l0_1.length c0_1] 28 (0, 0)) bk) : gb101 ≠ gb122)); have n7_ := Aside0.mk ((by rw [hg]; exact Nat.ne_of_gt (blk_lt (g := gb101) (o := .cells #[.int .i64 a0_0, .slice A0_1 l0_1.length c0_1] 28 (0, 0)) bk) : gb122 ≠ gb101)); clear HO_8; clear BK101; clear HB; have HO_8 := n0_; have BK101 := n1_; have HB := n2_; have BK122 := n3_; have GW122 := n4_; have GE122 := n5_; have NB101_122 := n6_; have NB122_101 := n7_; clear n0_ n1_ n2_ n3_ n4_ n5_ n6_ n7_; clear hb hbox hg; have hnb64 := NB122_101.out; have hnc64 := NB101_122.out; have hcz65_0 : w63.cell? ⟨gb122, 0, none⟩ = some (.int .i64 0) := (blk_cell BK122.out 0).trans rfl; have hfz65_0 := blk_frozen BK122.out 0) | ((with_reducible refine gate_store (t := 3) (p := 15) rfl ?_); refine store_event (t := 3) (p := 15) (v := ?vo_w66) (w1 := (w63.setCell ⟨gb122, 0, none⟩ (.int .i64 x80_2))) ?hg ?ho ?hn ?hr ?_; (case ho => rfl); (case hg => rfl); (case hn => rfl); (case hr => first | (go_simp; done) | (go_simp; rfl)); intro w66 hw; have n0_ : Aside0 (Kd.S (Kd.slice 2 (Kd.int .i64)) 34 w66 w.heap.size (fun _ => True) u8 x8_2) := ⟨(by rw [hw]; exact (by (with_reducible repeat (first | apply Kd.S_alloc | apply Kd.S_drewN | apply Kd.S_drew)); exact Kd.S_mono (Kd.S_far (p := ⟨gb122, 0, none⟩) (Kd.S_types HO_8.out BK122.out (by decide)) (fun _ hk => hk.2) (.int .i64 x80_2)) (fun _ hk => trivial)))⟩; have n1_ : Aside0 (w66.heap[gb101]? = some (.cells #[.int .i64 a0_0, .slice A0_1 l0_1.length c0_1] 28 (0, 0))) := ⟨(by rw [hw]; exact (by (with_reducible repeat (first | refine blk_drewN ?_ _ | refine blk_drew ?_ | refine blk_alloc ?_ _)); refine blk_far ?_ NB101_122.out _; (with_reducible repeat (first | refine blk_drewN ?_ _ | refine blk_drew ?_ | refine blk_alloc ?_ _)); exact BK101.out))⟩; have n2_ : Aside0 (w66.heap[gb122]? = some (.cells #[.int .i64 x80_2] 3 (0, 0))) := ⟨(by rw [hw]; exact (by (with_reducible repeat (first | refine blk_drewN ?_ _ | refine blk_drew ?_ | refine blk_alloc ?_ _)); refine blk_put (cs := #[.int .i64 0]) ?_ 0 _ rfl; (with_reducible repeat (first | refine blk_drewN ?_ _ | refine blk_drew ?_ | refine blk_alloc ?_ _)); exact BK122.out))⟩; have n3_ : Aside0 (Below w.heap.size w w66) := ⟨(by rw [hw]; exact bl)⟩; clear hw; clear HO_8; clear BK101; clear BK122; clear HB; have HO_8 := n0_; have BK101 := n1_; have BK122 := n2_; have HB := n3_; clear n0_ n1_ n2_ n3_; have hcz67_0 : w66.cell? ⟨gb122, 0, none⟩ = some (.int .i64 x80_2) := (blk_cell BK122.out 0).trans rfl; have hfz67_0 := blk_frozen BK122.out 0; obtain ⟨Ao69, co69, eo69⟩ := Kd.S_slice HO_8.out; subst eo69; have q68 : (x80_2 : Int) ≤ ((x8_2.length : Int) : Int) := oD; obtain ⟨i068, hi068, _, hsz68, _⟩ := info_parts info34; have hroom68 : x8_2.length ≤ co69 := (Kd.S_reads' HO_8.out).2.1; have hC68 : Kd.C (Kd.slice 2 (Kd.int .i64)) _ Ao69 x8_2.length x8_2 := (Kd.S_reads' HO_8.out).2.2; have q068 : (0 : Int) ≤ (x80_2 : Int) := oD; have hcut68 := cut_from (P := Try.prog) 22 34 .i64 Try.underlying22 hi068 1 hsz68 Ao69 x8_2.length co69 x80_2 q068 q68; have hr68 := Kd.C_drop (m := (x80_2 : Int).toNat) (c := co69) hC68 (by omega) hroom68; obtain ⟨A68, hA68⟩ : ∃ A1, A1 = (if co69 = (x80_2 : Int).toNat then Ao69 else (Ao69 : Option Addr).map (·.add ((x80_2 : Int).toNat * 1))) := ⟨_, rfl⟩; obtain ⟨c68, hc68⟩ : ∃ c1, c1 = co69 - (x80_2 : Int).toNat := ⟨_, rfl⟩; have hy68 : y123.length = x8_2.length - (x80_2 : Int).toNat := (by rw [Ny123.out, List.length_drop] <;> omega); rw [show (x8_2).drop (x80_2 : Int).toNat = y123 from Ny123.out.symm] at hr68; replace hr68 : Kd.C (Kd.slice 2 (Kd.int .i64)) _ A68 y123.length y123 := (by rw [hA68]; exact hr68); rw [← hy68, ← hA68, ← hc68] at hcut68; have HR126 := Aside0.mk hr68; have HC126 := Aside0.mk (show y123.length ≤ c68 from by rw [hy68, hc68]; exact Nat.sub_le_sub_right hroom68 _); clear hr68 hC68 hroom68 hi068 hsz68 hc68; have KY68 := Aside0.mk hy68; have KA68 := Aside0.mk hA68; clear hy68 hA68; have KL68 := Aside0.mk (show (x80_2 : Int).toNat ≤ x8_2.length from by omega); replace q68 := eq_true q68) | ((with_reducible refine gate_callee (f := 91) rfl ?_); refine goesL_ (some 87) rfl rfl Try.func91 (by kernel_rfl) rfl #[.slice A68 y123.length c68, .func (.func 92) #[] #[.pointer (some ⟨gb122, 0, none⟩)]] rfl gm ?_; (with_reducible refine (impl_Graph_resolvent_1.calls k2 _ _ y123 x80_2 t127 _ ?side1 ?side2 ?side3 A46.out).mono ?_); (case side1 => repeat (first | exact (by repeat (first | (with_reducible exact HR126.out) | (with_reducible refine Kd.C_alloc ?_ _) | (with_reducible refine Kd.C_drewN ?_ _) | (with_reducible refine Kd.C_drew ?_) | exact HR126.out)) | (with_reducible refine Kd.C_alloc ?_ _) | (with_reducible refine Kd.C_drewN ?_ _) | (with_reducible refine Kd.C_drew ?_))); (case side2 => exact HC126.out); (case side3 => exact by (with_reducible repeat (first | refine blk_drewN ?_ _ | refine blk_drew ?_ | refine blk_alloc ?_ _)); exact BK122.out); rintro e w70 ⟨rfl, hb⟩; refine ⟨_, rfl, ?_⟩; have n0_ := Aside0.mk (Kd.S_below (by (with_reducible repeat (first | apply Kd.S_alloc | apply Kd.S_drewN | apply Kd.S_drew)); exact HO_8.out) hb); have n1_ := Aside0.mk (blk_below (g := gb101) (o := .cells #[.int .i64 a0_0, .slice A0_1 l0_1.length c0_1] 28 (0, 0)) bk hb); have n2_ := Aside0.mk (blk_below (g := gb122) (o := .cells #[.int .i64 x80_2] 3 (0, 0)) bk hb); have n3_ := Aside0.mk (Kd.C_below (by repeat (first | (with_reducible exact HR126.out) | (with_reducible refine Kd.C_alloc ?_ _) | (with_reducible refine Kd.C_drewN ?_ _) | (with_reducible refine Kd.C_drew ?_) | exact HR126.out)) hb); have n4_ := Aside0.mk (below_step bl hb); clear HO_8; clear BK101; clear BK122; clear HR126; clear HB; have HO_8 := n0_; have BK101 := n1_; have BK122 := n2_; have HR126 := n3_; have HB := n4_; clear n0_ n1_ n2_ n3_ n4_; (try clear hb); (try clear hb2); (try clear hk); (try clear hi)))
              have n0_ := Aside0.mk (Kd.S_drew HO_8.out)
              have n1_ := Aside0.mk (blk_drew BK101.out)
              have n2_ := Aside0.mk (blk_drew BK122.out)
              have n3_ := Aside0.mk (Kd.C_drew HR126.out)
              have n4_ := Aside0.mk (below_drew1 HB.out)
              clear HO_8
              clear BK101
              clear BK122
              clear HR126
              clear HB
              have HO_8 := n0_
              have BK101 := n1_
              have BK122 := n2_
              have HR126 := n3_
              have HB := n4_
              clear n0_ n1_ n2_ n3_ n4_
              have p128 : 0 ≤ ((ji56) : Int) := oD
              have q128 : (ji56) < (x8_2.length : Int) := oD
              obtain ⟨ad128, A128_0, c128_0, e128, hx128_0, hl128_0, hi128_0⟩ := at_L1 (Kd.S_reads' HO_8.out).2.2 (ji56) p128 q128
              cases e128
              obtain ⟨ce128, hce128, hMe128, hcc128⟩ := Kd.S_get HO_8.out [] (ji56) p128 (by first | exact q128 | exact oD | (have e_ := (Kd.S_reads' HO_8.out).1; omega))
              obtain ⟨ve128_0, rfl, ge128_0⟩ := hMe128
              have hv128_0 := hcc128 0 _ rfl
              rw [Nat.add_zero, show ((Kd.slice 2 (Kd.int .i64))).sz = 1 from rfl, Nat.mul_one] at hv128_0
              replace hv128_0 := Option.some.inj (hv128_0.symm.trans hx128_0)
              rw [hv128_0] at ge128_0
              have HL128_0 := Aside0.mk (show Kd.R (Kd.int .i64) 2 _ _ _ _ (rd_L1 x8_2 (ji56)) from ge128_0)
              clear hv128_0 ge128_0
              have HX128_0 := Aside0.mk hx128_0
              clear hcc128 hce128
              have HR128_0 := Aside0.mk hi128_0
              have HC128_0 := Aside0.mk hl128_0
              clear hi128_0 hl128_0
              replace p128 := eq_true p128
              replace q128 := eq_true q128
              have p129 : 0 ≤ (x80_2 : Int) := oD
              have q129 : x80_2 < (x8_2.length : Int) := oD
              obtain ⟨ad129, A129_0, c129_0, e129, hx129_0, hl129_0, hi129_0⟩ := at_L1 (Kd.S_reads' HO_8.out).2.2 x80_2 p129 q129
              obtain rfl : ad128 = ad129 := (by injection e129)
              obtain ⟨ce129, hce129, hMe129, hcc129⟩ := Kd.S_get HO_8.out [] x80_2 p129 (by first | exact q129 | exact oD | (have e_ := (Kd.S_reads' HO_8.out).1; omega))
              obtain ⟨ve129_0, rfl, ge129_0⟩ := hMe129
              have hv129_0 := hcc129 0 _ rfl
              rw [Nat.add_zero, show ((Kd.slice 2 (Kd.int .i64))).sz = 1 from rfl, Nat.mul_one] at hv129_0
              replace hv129_0 := Option.some.inj (hv129_0.symm.trans hx129_0)
              rw [hv129_0] at ge129_0
              have HL129_0 := Aside0.mk (show Kd.R (Kd.int .i64) 2 _ _ _ _ (rd_L1 x8_2 x80_2) from ge129_0)
              clear hv129_0 ge129_0
              have HX129_0 := Aside0.mk hx129_0
              clear hcc129 hce129
              have HR129_0 := Aside0.mk hi129_0
              have HC129_0 := Aside0.mk hl129_0
              clear hi129_0 hl129_0
              replace p129 := eq_true p129
              replace q129 := eq_true q129
              have p60 : 0 ≤ (x80_2 : Int) := oD
              have q60 : (x80_2 : Int) < ((x8_2.length : Int) : Int) := oD
              obtain ⟨go60, co60, eo60, gb60, gl60, cl60, HG60⟩ := Kd.S_form HO_8.out (by omega)
              (first | cases eo60 | (injection eo60 with ea_ en_ ec_; (first | subst ea_ | (injection ea_ with ea_; subst ea_)); subst ec_; clear en_))
              have GB60 := Aside0.mk gb60
              have GG60 := Aside0.mk HG60
              clear gb60 gl60 HG60
              (first | simp only [add_plain] at hx128_0 | skip)
              (first | simp only [add_plain] at hx129_0 | skip)
              obtain ⟨_, ce60, hcl60, hM60, hcc60, hfr60, _, _⟩ := Kd.S_elem HO_8.out [] (x80_2 : Int) p60 q60
              obtain ⟨ve60_0, rfl, ge60_0⟩ := hM60
              have hx60_0 := hcc60 0 _ rfl
              have hf60_0 := hfr60 0
              (try simp only [show ((Kd.slice 2 (Kd.int .i64))).sz = 1 from rfl, Nat.mul_one, Nat.add_zero] at hx60_0)
              (try simp only [show ((Kd.slice 2 (Kd.int .i64))).sz = 1 from rfl, Nat.mul_one, Nat.add_zero] at hf60_0)
              (try clear hM60); clear hcl60 hcc60 hfr60 
              replace p60 := eq_true p60
              replace q60 := eq_true q60
              have HP72 := S_swap HO_8.out (x80_2 : Int) ((ji56) : Int) oD (by have h_ : (x80_2 : Int) < ((x8_2.length : Int) : Int) := oD; first | exact h_ | (have e_ := (Kd.S_reads' HO_8.out).1; omega) | simpa using h_) oD (by have h_ : ((ji56) : Int) < ((x8_2.length : Int) : Int) := oD; first | exact h_ | (have e_ := (Kd.S_reads' HO_8.out).1; omega) | simpa using h_) (by first | exact HX129_0.out | simpa only [add_plain, add_at, Nat.mul_one, Nat.zero_add, Nat.add_zero] using HX129_0.out) (by first | exact HX128_0.out | simpa only [add_plain, add_at, Nat.mul_one, Nat.zero_add, Nat.add_zero] using HX128_0.out)
              obtain ⟨hx72_0, hf72_0⟩ := S_mid HO_8.out (x80_2 : Int) ((ji56) : Int) oD (by have h_ : (x80_2 : Int) < ((x8_2.length : Int) : Int) := oD; first | exact h_ | (have e_ := (Kd.S_reads' HO_8.out).1; omega) | simpa using h_) oD (by have h_ : ((ji56) : Int) < ((x8_2.length : Int) : Int) := oD; first | exact h_ | (have e_ := (Kd.S_reads' HO_8.out).1; omega) | simpa using h_) (by first | exact HX128_0.out | simpa only [add_plain, add_at, Nat.mul_one, Nat.zero_add, Nat.add_zero] using HX128_0.out)
              have HQ72 := Aside0.mk HP72.1
              (have h_ := HQ72.out; rw [← Ny130.out] at h_; have HQ_ := Aside0.mk h_; clear h_ HQ72; have HQ72 := HQ_; clear HQ_)
              clear HP72
              refine start_ (n := 20) (S := fun w' => w'.cell? ⟨gb122, 0, none⟩ = some (.int .i64 x80_2) ∧ w'.cell? ⟨go60, ((ji56)).toNat, none⟩ = some (.slice A128_0 (rd_L1 x8_2 (ji56)).length c128_0) ∧ w'.cell? ⟨go60, (x80_2).toNat, none⟩ = some (.slice A129_0 (rd_L1 x8_2 x80_2).length c129_0)) (ds := [17, 19]) #[false, false, false, false, false, false, false, false, false, false, false, false, false, false, false, false, false, false, false, false] (by kernel_rfl) rfl rfl ⟨(blk_cell BK122.out 0).trans rfl, hx128_0, hx129_0⟩ (fun hHeld => ?_); refine with_tabW impl_Graph_resolvent.tab21 impl_Graph_resolvent.bits21 (fun HT_ HW_ => ?_)
              generalize w70.drew = w71 at HO_8 BK101 BK122 HR126 HB GG60 HL128_0 HL129_0 HQ72 HR128_0 HR129_0 HX128_0 HX129_0 hf60_0 hf72_0 hx128_0 hx129_0 hx60_0 hx72_0 hHeld ⊢
              refine pure_ (i := 0) (N := some 90) (v := ?_) (a' := ?_) #[true, false, false, false, false, false, false, false, false, false, false, false, false, false, false, false, false, false, false, false] rfl rfl (any_of HT_.out (by kernel_rfl)) (fun _ _ _ h => h) (Or.inl ⟨by rfl, ?_⟩) ?_ ?_
              rotate_left; · intro w'; go_simp; with_reducible rfl
              rotate_left; · simp only [Act.put, zI, zZ, zS, i64_w, i32_w]; rfl
              refine pure_ (i := 2) (N := some 92) (v := ?_) (a' := ?_) #[true, false, true, false, false, false, false, false, false, false, false, false, false, false, false, false, false, false, false, false] rfl rfl (any_of HT_.out (by kernel_rfl)) (fun _ _ _ h => h) (Or.inl ⟨by rfl, ?_⟩) ?_ ?_
              rotate_left; · intro w'; go_simp; with_reducible rfl
              rotate_left; · simp only [Act.put, zI, zZ, zS, i64_w, i32_w]; rfl
              refine pure_ (i := 4) (N := some 94) (v := ?_) (a' := ?_) #[true, false, true, false, true, false, false, false, false, false, false, false, false, false, false, false, false, false, false, false] rfl rfl (any_of HT_.out (by kernel_rfl)) (fun _ _ _ h => h) (Or.inl ⟨by rfl, ?_⟩) ?_ ?_
              rotate_left; · intro w'; go_simp; with_reducible rfl
              rotate_left; · simp only [Act.put, zI, zZ, zS, i64_w, i32_w]; rfl
              refine pure_ (i := 6) (N := some 96) (v := ?_) (a' := ?_) #[true, false, true, false, true, false, true, false, false, false, false, false, false, false, false, false, false, false, false, false] rfl rfl (any_of HT_.out (by kernel_rfl)) (fun _ _ _ h => h) (Or.inl ⟨by rfl, ?_⟩) ?_ ?_
              rotate_left; · intro w'; go_simp; with_reducible rfl
              rotate_left; · simp only [Act.put, zI, zZ, zS, i64_w, i32_w]; rfl
              refine pure_ (i := 8) (N := some 98) (v := ?_) (a' := ?_) #[true, false, true, false, true, false, true, false, true, false, false, false, false, false, false, false, false, false, false, false] rfl rfl (any_of HT_.out (by kernel_rfl)) (fun _ _ _ h => h) (Or.inl ⟨by rfl, ?_⟩) ?_ ?_
              rotate_left; · intro w'; go_simp; with_reducible rfl
              rotate_left; · simp only [Act.put, zI, zZ, zS, i64_w, i32_w]; rfl
              refine pure_ (i := 12) (N := some 102) (v := ?_) (a' := ?_) #[true, false, true, false, true, false, true, false, true, false, false, false, true, false, false, false, false, false, false, false] rfl rfl (any_of HT_.out (by kernel_rfl)) (fun _ _ _ h => h) (Or.inl ⟨by rfl, ?_⟩) ?_ ?_
              rotate_left; · intro w'; go_simp; with_reducible rfl
              rotate_left; · simp only [Act.put, zI, zZ, zS, i64_w, i32_w]; rfl
              refine take_ (i := 1) (N := some 91) (v := ?_) (a' := ?_) #[true, true, true, false, true, false, true, false, true, false, false, false, true, false, false, false, false, false, false, false] rfl rfl (take_ofW HT_.out HW_.out (by kernel_rfl)) (fun _ _ _ h => h) (Or.inl ⟨by rfl, ?_⟩) hHeld ?_ ?_
              rotate_left; · rintro w' ⟨s0, s1, s2⟩; go_simp; with_reducible rfl
              rotate_left; · simp only [Act.put, zI, zZ, zS, i64_w, i32_w]; rfl
              refine take_ (i := 7) (N := some 97) (v := ?_) (a' := ?_) #[true, true, true, false, true, false, true, true, true, false, false, false, true, false, false, false, false, false, false, false] rfl rfl (take_ofW HT_.out HW_.out (by kernel_rfl)) (fun _ _ _ h => h) (Or.inl ⟨by rfl, ?_⟩) hHeld ?_ ?_
              rotate_left; · rintro w' ⟨s0, s1, s2⟩; go_simp; with_reducible rfl
              rotate_left; · simp only [Act.put, zI, zZ, zS, i64_w, i32_w]; rfl
              refine pure_ (i := 9) (N := some 99) (v := ?_) (a' := ?_) #[true, true, true, false, true, false, true, true, true, true, false, false, true, false, false, false, false, false, false, false] rfl rfl (any_of HT_.out (by kernel_rfl)) (fun _ _ _ h => h) (Or.inl ⟨by rfl, ?_⟩) ?_ ?_
              rotate_left; · intro w'; go_simp; with_reducible rfl
              rotate_left; · simp only [Act.put, zI, zZ, zS, i64_w, i32_w]; rfl
              refine pure_ (i := 10) (N := some 100) (v := ?_) (a' := ?_) #[true, true, true, false, true, false, true, true, true, true, true, false, true, false, false, false, false, false, false, false] rfl rfl (any_of HT_.out (by kernel_rfl)) (fun _ _ _ h => h) (Or.inl ⟨by rfl, ?_⟩) ?_ ?_
              rotate_left; · intro w'; go_simp; with_reducible rfl
              rotate_left; · simp only [Act.put, zI, zZ, zS, i64_w, i32_w]; rfl
              refine take_ (i := 11) (N := some 101) (v := ?_) (a' := ?_) #[true, true, true, false, true, false, true, true, true, true, true, true, true, false, false, false, false, false, false, false] rfl rfl (take_ofW HT_.out HW_.out (by kernel_rfl)) (fun _ _ _ h => h) (Or.inl ⟨by rfl, ?_⟩) hHeld ?_ ?_
              rotate_left; · rintro w' ⟨s0, s1, s2⟩; go_simp; with_reducible rfl
              rotate_left; · simp only [Act.put, zI, zZ, zS, i64_w, i32_w]; rfl
              refine take_ (i := 13) (N := some 103) (v := ?_) (a' := ?_) #[true, true, true, false, true, false, true, true, true, true, true, true, true, true, false, false, false, false, false, false] rfl rfl (take_ofW HT_.out HW_.out (by kernel_rfl)) (fun _ _ _ h => h) (Or.inl ⟨by rfl, ?_⟩) hHeld ?_ ?_
              rotate_left; · rintro w' ⟨s0, s1, s2⟩; go_simp; with_reducible rfl
              rotate_left; · simp only [Act.put, zI, zZ, zS, i64_w, i32_w]; rfl
              refine pure_ (i := 14) (N := some 104) (v := ?_) (a' := ?_) #[true, true, true, false, true, false, true, true, true, true, true, true, true, true, true, false, false, false, false, false] rfl rfl (any_of HT_.out (by kernel_rfl)) (fun _ _ _ h => h) (Or.inl ⟨by rfl, ?_⟩) ?_ ?_
              rotate_left; · intro w'; go_simp; with_reducible rfl
              rotate_left; · simp only [Act.put, zI, zZ, zS, i64_w, i32_w]; rfl
              refine take_ (i := 15) (N := some 105) (v := ?_) (a' := ?_) #[true, true, true, false, true, false, true, true, true, true, true, true, true, true, true, true, false, false, false, false] rfl rfl (take_ofW HT_.out HW_.out (by kernel_rfl)) (fun _ _ _ h => h) (Or.inl ⟨by rfl, ?_⟩) hHeld ?_ ?_
              rotate_left; · rintro w' ⟨s0, s1, s2⟩; go_simp; with_reducible rfl
              rotate_left; · simp only [Act.put, zI, zZ, zS, i64_w, i32_w]; rfl
              refine pure_ (i := 16) (N := some 106) (v := ?_) (a' := ?_) #[true, true, true, false, true, false, true, true, true, true, true, true, true, true, true, true, true, false, false, false] rfl rfl (any_of HT_.out (by kernel_rfl)) (fun _ _ _ h => h) (Or.inl ⟨by rfl, ?_⟩) ?_ ?_
              rotate_left; · intro w'; go_simp; with_reducible rfl
              rotate_left; · simp only [Act.put, zI, zZ, zS, i64_w, i32_w]; rfl
              refine late2_ (i := 3) (d := 17) (Ni := some 93) (fuel3 := ?f3_) (l3 := #[true, true, true, true, true, true, true, true, true, true, true, true, true, true, true, true, true, true, false, false]) (a3 := ?a3_) (w3 := ?w3_) #[true, true, true, true, true, false, true, true, true, true, true, true, true, true, true, true, true, false, false, false] #[true, true, true, false, true, false, true, true, true, true, true, true, true, true, true, true, true, true, false, false] rfl rfl rfl rfl (by kernel_rfl) (by decide) (fun hf K hK => ?A_) (fun hf K hK => ?B_) ?M_
              case A_ =>
                refine value_ (w1 := ?_) (v := ?_) (by rfl) rfl ?_ ?_
                rotate_left 2
                · go_simp
                  constructor
                  · rfl
                  · rfl
                refine hK.out _ ?_
                clear hK K
                refine norm_ (a' := ?_) ?_ ?_
                rotate_left; · show Act.put _ (some 93) _ = _; simp only [Act.put, zI, zZ, zS, i64_w, i32_w]; rfl
                refine pure_ (i := 5) (N := some 95) (v := ?_) (a' := ?_) #[true, true, true, true, true, true, true, true, true, true, true, true, true, true, true, true, true, false, false, false] rfl rfl (any_of HT_.out (by kernel_rfl)) (fun _ _ _ h => h) (Or.inl ⟨by rfl, ?_⟩) ?_ ?_
                rotate_left; · intro w'; go_simp; with_reducible rfl
                rotate_left; · simp only [Act.put, zI, zZ, zS, i64_w, i32_w]; rfl
                refine last_ (i := 17) (N := none) #[true, true, true, true, true, true, true, true, true, true, true, true, true, true, true, true, true, true, false, false] rfl rfl (one_of HT_.out (by kernel_rfl)) (by decide) (fun K hK => ?_)
                refine skip_ (w1 := ?_) (by rfl) rfl ?_ ?_
                rotate_left; · go_simp; rfl
                refine hK.out _ _ ?_
                clear hK K
                exact hf
              case B_ =>
                refine skip_ (w1 := ?_) (by rfl) rfl ?_ ?_
                rotate_left; · go_simp; rfl
                refine hK.out _ _ ?_
                clear hK K
                have hb0_ : ∀ (ix_ : Nat) (v_ : Value), (World.setCell w71 ⟨go60, ix_, none⟩ v_).cell? ⟨gb122, 0, none⟩ = some (.int .i64 x80_2) := fun ix_ v_ => (cell_far (p := ⟨go60, ix_, none⟩) (fun h_ => (Kd.S_ne HO_8.out BK122.out (by decide)) (congrArg some h_)) v_).trans hHeld.1
                refine lone_ (i := 3) (Ni := some 93) #[true, true, true, true, true, false, true, true, true, true, true, true, true, true, true, true, true, true, false, false] rfl rfl (by kernel_rfl) (fun K hK => ?_)
                refine value_ (w1 := ?_) (v := ?_) (by rfl) rfl ?_ ?_
                rotate_left 2
                · go_simp
                  constructor
                  · rfl
                  · rfl
                refine hK.out _ ?_
                clear hK K
                refine norm_ (a' := ?_) ?_ ?_
                rotate_left; · show Act.put _ (some 93) _ = _; simp only [Act.put, zI, zZ, zS, i64_w, i32_w]; rfl
                refine pure_ (i := 5) (N := some 95) (v := ?_) (a' := ?_) #[true, true, true, true, true, true, true, true, true, true, true, true, true, true, true, true, true, true, false, false] rfl rfl (any_of HT_.out (by kernel_rfl)) (fun _ _ _ h => h) (Or.inl ⟨by rfl, ?_⟩) ?_ ?_
                rotate_left; · intro w'; go_simp; with_reducible rfl
                rotate_left; · simp only [Act.put, zI, zZ, zS, i64_w, i32_w]; rfl
                exact hf
              refine pure_ (i := 18) (N := some 107) (v := ?_) (a' := ?_) #[true, true, true, true, true, true, true, true, true, true, true, true, true, true, true, true, true, true, true, false] rfl rfl (any_of HT_.out (by kernel_rfl)) (fun _ _ _ h => h) (Or.inl ⟨by rfl, ?_⟩) ?_ ?_
              rotate_left; · intro w'; go_simp; with_reducible rfl
              rotate_left; · simp only [Act.put, zI, zZ, zS, i64_w, i32_w]; rfl
              refine last_ (i := 19) (N := none) #[true, true, true, true, true, true, true, true, true, true, true, true, true, true, true, true, true, true, true, true] rfl rfl (one_of HT_.out (by kernel_rfl)) (by decide) (fun K hK => ?_)
              refine skip_ (w1 := ?_) (by rfl) rfl ?_ ?_
              rotate_left; · go_simp; rfl
              refine hK.out _ _ ?_
              clear hK K
              refine done_ (done_of HT_.out (by kernel_rfl)) ?_
              try go_wp2
              have n0_ : Aside0 (Kd.S (Kd.slice 2 (Kd.int .i64)) 34 ((w71.setCell ⟨go60, (x80_2 : Int).toNat, none⟩ (.slice A128_0 (rd_L1 x8_2 (ji56)).length c128_0)).setCell ⟨go60, ((ji56) : Int).toNat, none⟩ (.slice A129_0 (rd_L1 x8_2 x80_2).length c129_0)) w.heap.size (fun _ => True) (.slice (some ⟨go60, 0, none⟩) x8_2.length co69) y130) := ⟨by (with_reducible repeat (first | apply Kd.S_alloc | apply Kd.S_drewN | apply Kd.S_drew)); exact HQ72.out⟩
              have n1_ : Aside0 (((w71.setCell ⟨go60, (x80_2 : Int).toNat, none⟩ (.slice A128_0 (rd_L1 x8_2 (ji56)).length c128_0)).setCell ⟨go60, ((ji56) : Int).toNat, none⟩ (.slice A129_0 (rd_L1 x8_2 x80_2).length c129_0)).heap[gb101]? = some (.cells #[.int .i64 a0_0, .slice A0_1 l0_1.length c0_1] 28 (0, 0))) := ⟨by (with_reducible repeat (first | refine blk_drewN ?_ _ | refine blk_drew ?_ | refine blk_alloc ?_ _)); refine blk_far ?_ (by have h_ := Kd.S_ne HO_8.out BK101.out (by decide); intro e_; exact h_ (by rw [e_]; rfl)) _; (with_reducible repeat (first | refine blk_drewN ?_ _ | refine blk_drew ?_ | refine blk_alloc ?_ _)); refine blk_far ?_ (by have h_ := Kd.S_ne HO_8.out BK101.out (by decide); intro e_; exact h_ (by rw [e_]; rfl)) _; (with_reducible repeat (first | refine blk_drewN ?_ _ | refine blk_drew ?_ | refine blk_alloc ?_ _)); exact BK101.out⟩
              have n2_ : Aside0 (((w71.setCell ⟨go60, (x80_2 : Int).toNat, none⟩ (.slice A128_0 (rd_L1 x8_2 (ji56)).length c128_0)).setCell ⟨go60, ((ji56) : Int).toNat, none⟩ (.slice A129_0 (rd_L1 x8_2 x80_2).length c129_0)).heap[gb122]? = some (.cells #[.int .i64 x80_2] 3 (0, 0))) := ⟨by (with_reducible repeat (first | refine blk_drewN ?_ _ | refine blk_drew ?_ | refine blk_alloc ?_ _)); refine blk_far ?_ (by have h_ := Kd.S_ne HO_8.out BK122.out (by decide); intro e_; exact h_ (by rw [e_]; rfl)) _; (with_reducible repeat (first | refine blk_drewN ?_ _ | refine blk_drew ?_ | refine blk_alloc ?_ _)); refine blk_far ?_ (by have h_ := Kd.S_ne HO_8.out BK122.out (by decide); intro e_; exact h_ (by rw [e_]; rfl)) _; (with_reducible repeat (first | refine blk_drewN ?_ _ | refine blk_drew ?_ | refine blk_alloc ?_ _)); exact BK122.out⟩
              have n3_ : Aside0 (Below w.heap.size w ((w71.setCell ⟨go60, (x80_2 : Int).toNat, none⟩ (.slice A128_0 (rd_L1 x8_2 (ji56)).length c128_0)).setCell ⟨go60, ((ji56) : Int).toNat, none⟩ (.slice A129_0 (rd_L1 x8_2 x80_2).length c129_0))) := ⟨by repeat (first | (with_reducible first | exact HB.out | apply below_alloc | apply pw_below_drewN | apply below_drew1 | refine below_set ?_ GB60.out | refine below_set ?_ GB60.out | refine below_set ?_ GE101.out | refine below_set ?_ GE122.out) | exact HB.out)⟩
              (try clear HO_8)
              (try clear BK101)
              (try clear BK122)
              (try clear HB)
              generalize ((w71.setCell ⟨go60, (x80_2 : Int).toNat, none⟩ (.slice A128_0 (rd_L1 x8_2 (ji56)).length c128_0)).setCell ⟨go60, ((ji56) : Int).toNat, none⟩ (.slice A129_0 (rd_L1 x8_2 x80_2).length c129_0)) = w73 at n0_ n1_ n2_ n3_ ⊢
              have HO_8 := n0_
              have BK101 := n1_
              have BK122 := n2_
              have HB := n3_
              clear n0_ n1_ n2_ n3_
              have n0_ := Aside0.mk (Kd.S_drew HO_8.out)
              have n1_ := Aside0.mk (blk_drew BK101.out)
              have n2_ := Aside0.mk (blk_drew BK122.out)
              have n3_ := Aside0.mk (below_drew1 HB.out)
              clear HO_8
              clear BK101
              clear BK122
              clear HB
              have HO_8 := n0_
              have BK101 := n1_
              have BK122 := n2_
              have HB := n3_
              clear n0_ n1_ n2_ n3_
              have p131 : 0 ≤ (x80_2 : Int) := oD
              have q131 : x80_2 < (y130.length : Int) := (by have h_ : (x80_2 : Int) < ((x8_2.length : Int) : Int) := oD; first | (have e_ := (Kd.S_reads' HO_8.out).1; omega) | simpa only [Ny130.out, List.length_set] using h_)
              have ql131 : ((x80_2 : Int) < ((x8_2.length : Int) : Int)) = True := eq_true oD
              obtain ⟨ad131, A131_0, c131_0, e131, hx131_0, hl131_0, hi131_0⟩ := at_L1 (Kd.S_reads' HO_8.out).2.2 x80_2 p131 q131
              obtain rfl : (⟨go60, 0, none⟩ : Addr) = ad131 := (by injection e131)
              obtain ⟨ce131, hce131, hMe131, hcc131⟩ := Kd.S_get HO_8.out [] x80_2 p131 (by first | exact q131 | exact oD | (have e_ := (Kd.S_reads' HO_8.out).1; omega))
              obtain ⟨ve131_0, rfl, ge131_0⟩ := hMe131
              have hv131_0 := hcc131 0 _ rfl
              rw [Nat.add_zero, show ((Kd.slice 2 (Kd.int .i64))).sz = 1 from rfl, Nat.mul_one] at hv131_0
              replace hv131_0 := Option.some.inj (hv131_0.symm.trans hx131_0)
              rw [hv131_0] at ge131_0
              have HL131_0 := Aside0.mk (show Kd.R (Kd.int .i64) 2 _ _ _ _ (rd_L1 y130 x80_2) from ge131_0)
              clear hv131_0 ge131_0
              have HX131_0 := Aside0.mk hx131_0
              clear hcc131 hce131
              (first | simp only [add_plain] at hx131_0 | simp only [add_at] at hx131_0 | simp only [Addr.add, Nat.zero_add] at hx131_0 | skip)
              have HR131_0 := Aside0.mk hi131_0
              have HC131_0 := Aside0.mk hl131_0
              clear hi131_0 hl131_0
              replace p131 := eq_true p131
              replace q131 := eq_true q131
              have p132 : 0 ≤ (x80_2 : Int) := oD
              have q132 : x80_2 < ((rd_L1 y130 x80_2).length : Int) := oD
              obtain ⟨ad132, e132, hx132_0⟩ := Kd.at_int (by repeat (first | (with_reducible exact HR131_0.out) | (with_reducible refine Kd.C_alloc ?_ _) | (with_reducible refine Kd.C_drewN ?_ _) | (with_reducible refine Kd.C_drew ?_) | exact HR131_0.out)) x80_2 p132 q132
              cases e132
              replace p132 := eq_true p132
              replace q132 := eq_true q132
              refine start_ (n := 10) (S := fun w' => w'.cell? ⟨gb122, 0, none⟩ = some (.int .i64 x80_2) ∧ w'.cell? ⟨go60, (x80_2).toNat, none⟩ = some (.slice (some ad132) (rd_L1 y130 x80_2).length c131_0) ∧ w'.cell? (ad132.add (x80_2).toNat) = some (.int .i64 (rd (rd_L1 y130 x80_2) x80_2))) (ds := []) #[false, false, false, false, false, false, false, false, false, false] (by kernel_rfl) rfl rfl ⟨(blk_cell BK122.out 0).trans rfl, hx131_0, hx132_0⟩ (fun hHeld => ?_); refine with_tabW impl_Graph_resolvent.tab22 impl_Graph_resolvent.bits22 (fun HT_ HW_ => ?_)
              generalize w73.drew = w74 at HO_8 BK101 BK122 HB HL131_0 HQ72 HR131_0 HX131_0 hx131_0 hx132_0 hHeld ⊢
              refine pure_ (i := 0) (N := some 108) (v := ?_) (a' := ?_) #[true, false, false, false, false, false, false, false, false, false] rfl rfl (any_of HT_.out (by kernel_rfl)) (fun _ _ _ h => h) (Or.inl ⟨by rfl, ?_⟩) ?_ ?_
              rotate_left; · intro w'; go_simp; with_reducible rfl
              rotate_left; · simp only [Act.put, zI, zZ, zS, i64_w, i32_w]; rfl
              refine pure_ (i := 7) (N := some 115) (v := ?_) (a' := ?_) #[true, false, false, false, false, false, false, true, false, false] rfl rfl (any_of HT_.out (by kernel_rfl)) (fun _ _ _ h => h) (Or.inl ⟨by rfl, ?_⟩) ?_ ?_
              rotate_left; · intro w'; go_simp; with_reducible rfl
              rotate_left; · simp only [Act.put, zI, zZ, zS, i64_w, i32_w]; rfl
              refine take_ (i := 1) (N := some 109) (v := ?_) (a' := ?_) #[true, true, false, false, false, false, false, true, false, false] rfl rfl (take_ofW HT_.out HW_.out (by kernel_rfl)) (fun _ _ _ h => h) (Or.inl ⟨by rfl, ?_⟩) hHeld ?_ ?_
              rotate_left; · rintro w' ⟨s0, s1, s2⟩; go_simp; with_reducible rfl
              rotate_left; · simp only [Act.put, zI, zZ, zS, i64_w, i32_w]; rfl
              refine pure_ (i := 2) (N := some 110) (v := ?_) (a' := ?_) #[true, true, true, false, false, false, false, true, false, false] rfl rfl (any_of HT_.out (by kernel_rfl)) (fun _ _ _ h => h) (Or.inl ⟨by rfl, ?_⟩) ?_ ?_
              rotate_left; · intro w'; go_simp; with_reducible rfl
              rotate_left; · simp only [Act.put, zI, zZ, zS, i64_w, i32_w]; rfl
              refine take_ (i := 3) (N := some 111) (v := ?_) (a' := ?_) #[true, true, true, true, false, false, false, true, false, false] rfl rfl (take_ofW HT_.out HW_.out (by kernel_rfl)) (fun _ _ _ h => h) (Or.inl ⟨by rfl, ?_⟩) hHeld ?_ ?_
              rotate_left; · rintro w' ⟨s0, s1, s2⟩; go_simp; with_reducible rfl
              rotate_left; · simp only [Act.put, zI, zZ, zS, i64_w, i32_w]; rfl
              refine take_ (i := 4) (N := some 112) (v := ?_) (a' := ?_) #[true, true, true, true, true, false, false, true, false, false] rfl rfl (take_ofW HT_.out HW_.out (by kernel_rfl)) (fun _ _ _ h => h) (Or.inl ⟨by rfl, ?_⟩) hHeld ?_ ?_
              rotate_left; · rintro w' ⟨s0, s1, s2⟩; go_simp; with_reducible rfl
              rotate_left; · simp only [Act.put, zI, zZ, zS, i64_w, i32_w]; rfl
              refine pure_ (i := 5) (N := some 113) (v := ?_) (a' := ?_) #[true, true, true, true, true, true, false, true, false, false] rfl rfl (any_of HT_.out (by kernel_rfl)) (fun _ _ _ h => h) (Or.inl ⟨by rfl, ?_⟩) ?_ ?_
              rotate_left; · intro w'; go_simp; with_reducible rfl
              rotate_left; · simp only [Act.put, zI, zZ, zS, i64_w, i32_w]; rfl
              refine take_ (i := 6) (N := some 114) (v := ?_) (a' := ?_) #[true, true, true, true, true, true, true, true, false, false] rfl rfl (take_ofW HT_.out HW_.out (by kernel_rfl)) (fun _ _ _ h => h) (Or.inl ⟨by rfl, ?_⟩) hHeld ?_ ?_
              rotate_left; · rintro w' ⟨s0, s1, s2⟩; go_simp; with_reducible rfl
              rotate_left; · simp only [Act.put, zI, zZ, zS, i64_w, i32_w]; rfl
              refine one_ (i := 8) (N := some 116) #[true, true, true, true, true, true, true, true, true, false] rfl rfl (one_of HT_.out (by kernel_rfl)) (by decide) (fun K hK => ?_)
              refine goes_ Try.func93 (by kernel_rfl) rfl #[.int .i64 (rd (rd_L1 y130 x80_2) x80_2), .int .i64 a1] (by rfl) rfl rfl gm ?_
              with_reducible refine (impl_inverse.calls k2 (rd (rd_L1 y130 x80_2) x80_2) a1 t133 _ A62.out).mono ?_
              rintro e w' ⟨rfl, ⟨nd, rfl⟩⟩
              refine ⟨_, rfl, ?_⟩
              refine hK.out _ _ ⟨(blk_cell BK122.out 0).trans rfl, hHeld.2.1, hHeld.2.2⟩ (fun hHeld => ?_)
              clear hK K
              refine norm_ (a' := ?_) ?_ ?_
              rotate_left; · show Act.put _ (some 116) _ = _; simp only [Act.put, zI, zZ, zS, i64_w, i32_w]; rfl
              refine pure_ (i := 9) (N := some 17) (v := ?_) (a' := ?_) #[true, true, true, true, true, true, true, true, true, true] rfl rfl (any_of HT_.out (by kernel_rfl)) (fun _ _ _ h => h) (Or.inl ⟨by rfl, ?_⟩) ?_ ?_
              rotate_left; · intro w'; go_simp; with_reducible rfl
              rotate_left; · simp only [Act.put, zI, zZ, zS, i64_w, i32_w]; rfl
              refine done_ (done_of HT_.out (by kernel_rfl)) ?_
              have hcz75_0 : w74.cell? ⟨gb122, 0, none⟩ = some (.int .i64 x80_2) := (blk_cell BK122.out 0).trans rfl
              have hfz75_0 := blk_frozen BK122.out 0
              have p134 : 0 ≤ (x80_2 : Int) := oD
              have q134 : x80_2 < (y130.length : Int) := (by have h_ : (x80_2 : Int) < ((x8_2.length : Int) : Int) := oD; first | (have e_ := (Kd.S_reads' HO_8.out).1; omega) | simpa only [Ny130.out, List.length_set] using h_)
              have ql134 : ((x80_2 : Int) < ((x8_2.length : Int) : Int)) = True := eq_true oD
              obtain ⟨ad134, A134_0, c134_0, e134, hx134_0, hl134_0, hi134_0⟩ := at_L1 (Kd.S_reads' HO_8.out).2.2 x80_2 p134 q134
              obtain rfl : (⟨go60, 0, none⟩ : Addr) = ad134 := (by injection e134)
              obtain ⟨ce134, hce134, hMe134, hcc134⟩ := Kd.S_get HO_8.out [] x80_2 p134 (by first | exact q134 | exact oD | (have e_ := (Kd.S_reads' HO_8.out).1; omega))
              obtain ⟨ve134_0, rfl, ge134_0⟩ := hMe134
              have hv134_0 := hcc134 0 _ rfl
              rw [Nat.add_zero, show ((Kd.slice 2 (Kd.int .i64))).sz = 1 from rfl, Nat.mul_one] at hv134_0
              replace hv134_0 := Option.some.inj (hv134_0.symm.trans hx134_0)
              rw [hv134_0] at ge134_0
              have HL134_0 := Aside0.mk (show Kd.R (Kd.int .i64) 2 _ _ _ _ (rd_L1 y130 x80_2) from ge134_0)
              clear hv134_0 ge134_0
              have HX134_0 := Aside0.mk hx134_0
              clear hcc134 hce134
              (first | simp only [add_plain] at hx134_0 | simp only [add_at] at hx134_0 | simp only [Addr.add, Nat.zero_add] at hx134_0 | skip)
              have HR134_0 := Aside0.mk hi134_0
              have HC134_0 := Aside0.mk hl134_0
              clear hi134_0 hl134_0
              replace p134 := eq_true p134
              replace q134 := eq_true q134
              have ea_ := Option.some.inj (hx131_0.symm.trans hx134_0)
              injection ea_ with ea_ en_ ec_
              subst ea_
              subst ec_
              clear en_
              try go_wp2
              go_loopg [122] k2 (fun kq v122 w' => ∃ (x8_3 : List (List Int)) (x122_3 : Int), v122 = .int .i64 x122_3 ∧ Aside0 (impl_Graph_resolvent.l3 kq a1 x8_3 (wrap64 (2 * (l0_1.length : Int))) t133 (wrap64 (2 * (l0_1.length : Int))) x80_2 ((rd_L1 y130 x80_2).length : Int) x122_3 x80_2 = some (r1, r2)) ∧ Aside0 (kq ≤ k2) ∧ Aside0 (Kd.S (Kd.slice 2 (Kd.int .i64)) 34 w' w.heap.size (fun _ => True) (.slice (some ⟨go60, 0, none⟩) x8_2.length co69) x8_3) ∧ Aside0 (w'.heap[gb101]? = some (.cells #[.int .i64 a0_0, (.slice A0_1 l0_1.length c0_1)] 28 (0, 0))) ∧ Aside0 (w'.heap[gb122]? = some (.cells #[.int .i64 x80_2] 3 (0, 0))) ∧ Aside0 (Below w.heap.size w w'))
              case atStart => exact ⟨(y130), (0), rs, H', ⟨Nat.le_refl _⟩, ⟨by (try simp only [hl32_1]); (with_reducible repeat (first | apply Kd.S_alloc | apply Kd.S_drewN | apply Kd.S_drew)); exact HO_8.out⟩, ⟨by (try simp only [hl32_1]); (with_reducible repeat (first | refine blk_drewN ?_ _ | refine blk_drew ?_ | refine blk_alloc ?_ _)); exact BK101.out⟩, ⟨by (try simp only [hl32_1]); (with_reducible repeat (first | refine blk_drewN ?_ _ | refine blk_drew ?_ | refine blk_alloc ?_ _)); exact BK122.out⟩, ⟨bl⟩⟩
              case round =>
                clear H'
                (try clear c1); (try clear p1); (try clear q1); (try clear hx1); (try clear c2); (try clear p2); (try clear q2); (try clear hx2); (try clear c3); (try clear p3); (try clear q3); (try clear hx3); (try clear hf3); (try clear c4); (try clear c5); (try clear q5); (try clear c6); (try clear p6); (try clear q6); (try clear hx6); (try clear hf6); (try clear hx7); (try clear hf7); (try clear c9); (try clear p10); (try clear q10); (try clear hx10); (try clear p11); (try clear q11); (try clear hx11); (try clear c12); (try clear c12b0); (try clear p12); (try clear q12); (try clear hx12); (try clear c13); (try clear c13b0); (try clear p13); (try clear q13); (try clear hx13); (try clear c14); (try clear c14b0); (try clear c16); (try clear c16b0); (try clear c16b1); (try clear c17); (try clear c17b0); (try clear c17b1); (try clear c20); (try clear c20b0); (try clear c21); (try clear c21b0); (try clear c22); (try clear c22b0); (try clear c24); (try clear c24b0); (try clear p25); (try clear q25); (try clear hx25); (try clear hf25); (try clear c28); (try clear c28b0); (try clear c29); (try clear c29b0); (try clear c30); (try clear c30b0); (try clear c30b1); (try clear p31); (try clear q31); (try clear hx31); (try clear hf31); (try clear c33); (try clear c33b0); (try clear c34); (try clear c34b0); (try clear p35); (try clear q35); (try clear hx35); (try clear hf35); (try clear c36); (try clear c43); (try clear c43b0); (try clear c44); (try clear c44b0); (try clear c44b1); (try clear c45); (try clear c45b0); (try clear c45b1); (try clear c47); (try clear c47b0); (try clear c49); (try clear c53); (try clear q53); (try clear c57); (try clear c57b0); (try clear c58); (try clear c58b0); (try clear c59); (try clear c59b0); (try clear c60); (try clear p60); (try clear q60); (try clear hx60); (try clear hf60); (try clear c61); (try clear c61b0); (try clear c64); (try clear p64); (try clear c68); (try clear q68); (try clear hx72); (try clear hf72); (try clear hcz50_0); (try clear hcz52_0); (try clear hcz65_0); (try clear hcz67_0); (try clear hcz75_0); (try clear hcz9_0); (try clear hcz9_1); (try clear hfz50_0); (try clear hfz52_0); (try clear hfz65_0); (try clear hfz67_0); (try clear hfz75_0); (try clear hfz9_0); (try clear hfz9_1); (try clear hx108_0); (try clear hx112_0); (try clear hx113_0); (try clear hx116_0); (try clear hx128_0); (try clear hx129_0); (try clear hx131_0); (try clear hx132_0); (try clear hx134_0); (try clear hx25_0); (try clear hx31_0); (try clear hx35_0); (try clear hx60_0); (try clear hx72_0); (try clear p1); (try clear p10); (try clear p108); (try clear p112); (try clear p113); (try clear p116); (try clear p128); (try clear p129); (try clear p131); (try clear p132); (try clear p134); (try clear p2); (try clear p25); (try clear p31); (try clear p35); (try clear p6); (try clear p60); (try clear q053); (try clear q068); (try clear q1); (try clear q10); (try clear q108); (try clear q112); (try clear q113); (try clear q116); (try clear q128); (try clear q129); (try clear q131); (try clear q132); (try clear q134); (try clear q25); (try clear q31); (try clear q35); (try clear q53); (try clear q60); (try clear q68)
                obtain ⟨x8_3, x122_3, rfl, HA, HK3, HO_8, BK101, BK122, HB⟩ := hrel
                have hl8_3 := (Kd.S_reads' HO_8.out).1
                rw [hl8_3] at HO_8
                (try simp only [hl8_3])
                (try simp only [hl8_3] at BK101)
                (try simp only [hl8_3] at BK122)
                cases gk with
                | zero => exact absurd HA.out (by simp [impl_Graph_resolvent.l3])
                | succ k3 =>
                  have H := HA.out
                  clear HA
                  simp only [impl_Graph_resolvent.l3] at H
                  by_cases c76 : x122_3 < ((rd_L1 y130 x80_2).length : Int)
                  case neg =>
                    rw [if_neg c76] at H
                    have c76b0 : decide (x122_3 < ((rd_L1 y130 x80_2).length : Int)) = false := decide_eq_false c76
                    (try simp only [hl32_1, hl8_3] at c76b0)
                    clear c76
                    have H' := Aside0.mk H
                    clear H
                    go_wp2
                    go_loopg [145] k3 (fun kq v145 w' => ∃ (x8_4 : List (List Int)) (x145_4 : Int), v145 = .int .i64 x145_4 ∧ Aside0 (impl_Graph_resolvent.l4 kq a1 x8_4 (wrap64 (2 * (l0_1.length : Int))) (wrap64 (2 * (l0_1.length : Int))) x80_2 (x8_3.length : Int) x145_4 x80_2 = some (r1, r2)) ∧ Aside0 (kq ≤ k3) ∧ Aside0 (Kd.S (Kd.slice 2 (Kd.int .i64)) 34 w' w.heap.size (fun _ => True) (.slice (some ⟨go60, 0, none⟩) x8_3.length co69) x8_4) ∧ Aside0 (w'.heap[gb101]? = some (.cells #[.int .i64 a0_0, (.slice A0_1 l0_1.length c0_1)] 28 (0, 0))) ∧ Aside0 (w'.heap[gb122]? = some (.cells #[.int .i64 x80_2] 3 (0, 0))) ∧ Aside0 (Below w.heap.size w w'))
                    case atStart => exact ⟨(x8_3), (0), rs, H', ⟨Nat.le_refl _⟩, ⟨by (try simp only [hl32_1]); (try simp only [hl8_3]); (with_reducible repeat (first | apply Kd.S_alloc | apply Kd.S_drewN | apply Kd.S_drew)); exact HO_8.out⟩, ⟨by (try simp only [hl32_1]); (try simp only [hl8_3]); (with_reducible repeat (first | refine blk_drewN ?_ _ | refine blk_drew ?_ | refine blk_alloc ?_ _)); exact BK101.out⟩, ⟨by (try simp only [hl32_1]); (try simp only [hl8_3]); (with_reducible repeat (first | refine blk_drewN ?_ _ | refine blk_drew ?_ | refine blk_alloc ?_ _)); exact BK122.out⟩, ⟨bl⟩⟩
                    case round =>
                      clear H'
                      (try clear c1); (try clear p1); (try clear q1); (try clear hx1); (try clear c2); (try clear p2); (try clear q2); (try clear hx2); (try clear c3); (try clear p3); (try clear q3); (try clear hx3); (try clear hf3); (try clear c4); (try clear c5); (try clear q5); (try clear c6); (try clear p6); (try clear q6); (try clear hx6); (try clear hf6); (try clear c7); (try clear hx7); (try clear hf7); (try clear c8); (try clear p8); (try clear q8); (try clear hx8); (try clear hf8); (try clear c9); (try clear p10); (try clear q10); (try clear hx10); (try clear p11); (try clear q11); (try clear hx11); (try clear c12); (try clear c12b0); (try clear p12); (try clear q12); (try clear hx12); (try clear c13); (try clear c13b0); (try clear p13); (try clear q13); (try clear hx13); (try clear c14); (try clear c14b0); (try clear c16); (try clear c16b0); (try clear c16b1); (try clear c17); (try clear c17b0); (try clear c17b1); (try clear c20); (try clear c20b0); (try clear c21); (try clear c21b0); (try clear c22); (try clear c22b0); (try clear c24); (try clear c24b0); (try clear p25); (try clear q25); (try clear hx25); (try clear hf25); (try clear c28); (try clear c28b0); (try clear c29); (try clear c29b0); (try clear c30); (try clear c30b0); (try clear c30b1); (try clear p31); (try clear q31); (try clear hx31); (try clear hf31); (try clear c33); (try clear c33b0); (try clear c34); (try clear c34b0); (try clear p35); (try clear q35); (try clear hx35); (try clear hf35); (try clear c36); (try clear c43); (try clear c43b0); (try clear c44); (try clear c44b0); (try clear c44b1); (try clear c45); (try clear c45b0); (try clear c45b1); (try clear c47); (try clear c47b0); (try clear c49); (try clear c53); (try clear q53); (try clear c57); (try clear c57b0); (try clear c58); (try clear c58b0); (try clear c59); (try clear c59b0); (try clear c60); (try clear p60); (try clear q60); (try clear hx60); (try clear hf60); (try clear c61); (try clear c61b0); (try clear c64); (try clear p64); (try clear c68); (try clear q68); (try clear hx72); (try clear hf72); (try clear c76); (try clear c76b0); (try clear c77); (try clear c77b0); (try clear c78); (try clear c78b0); (try clear c79); (try clear c79b0); (try clear c80); (try clear c80b0); (try clear c81); (try clear c81b0); (try clear c81b1); (try clear p82); (try clear q82); (try clear hx82); (try clear hf82); (try clear c84); (try clear p84); (try clear q84); (try clear hcz50_0); (try clear hcz52_0); (try clear hcz65_0); (try clear hcz67_0); (try clear hcz75_0); (try clear hcz9_0); (try clear hcz9_1); (try clear hfz50_0); (try clear hfz52_0); (try clear hfz65_0); (try clear hfz67_0); (try clear hfz75_0); (try clear hfz9_0); (try clear hfz9_1); (try clear hx108_0); (try clear hx112_0); (try clear hx113_0); (try clear hx116_0); (try clear hx128_0); (try clear hx129_0); (try clear hx131_0); (try clear hx132_0); (try clear hx134_0); (try clear hx135_0); (try clear hx136_0); (try clear hx137_0); (try clear hx25_0); (try clear hx31_0); (try clear hx35_0); (try clear hx60_0); (try clear hx72_0); (try clear hx82_0); (try clear p1); (try clear p10); (try clear p108); (try clear p11); (try clear p112); (try clear p113); (try clear p116); (try clear p12); (try clear p128); (try clear p129); (try clear p13); (try clear p131); (try clear p132); (try clear p134); (try clear p135); (try clear p136); (try clear p137); (try clear p2); (try clear p25); (try clear p3); (try clear p31); (try clear p35); (try clear p6); (try clear p60); (try clear p64); (try clear p82); (try clear q053); (try clear q068); (try clear q1); (try clear q10); (try clear q108); (try clear q11); (try clear q112); (try clear q113); (try clear q116); (try clear q12); (try clear q128); (try clear q129); (try clear q13); (try clear q131); (try clear q132); (try clear q134); (try clear q135); (try clear q136); (try clear q137); (try clear q2); (try clear q25); (try clear q3); (try clear q31); (try clear q35); (try clear q5); (try clear q53); (try clear q6); (try clear q60); (try clear q68); (try clear q82)
                      obtain ⟨x8_4, x145_4, rfl, HA, HK4, HO_8, BK101, BK122, HB⟩ := hrel
                      have hl8_4 := (Kd.S_reads' HO_8.out).1
                      rw [hl8_4] at HO_8
                      (try simp only [hl8_4])
                      (try simp only [hl8_4] at BK101)
                      (try simp only [hl8_4] at BK122)
                      cases gk with
                      | zero => exact absurd HA.out (by simp [impl_Graph_resolvent.l4])
                      | succ k4 =>
                        have H := HA.out
                        clear HA
                        simp only [impl_Graph_resolvent.l4] at H
                        by_cases c86 : x145_4 < (x8_3.length : Int)
                        case neg =>
                          rw [if_neg c86] at H
                          have c86b0 : decide (x145_4 < (x8_3.length : Int)) = false := decide_eq_false c86
                          (try simp only [hl32_1, hl8_3, hl8_4] at c86b0)
                          clear c86
                          have H' := Aside0.mk H
                          clear H
                          go_wp2
                          (try simp only [← hl8_3, ← hl8_4])
                          first | go_roundg k4 | (simp only [← hji116]; go_roundg k4) | (simp only [← hji15]; go_roundg k4) | (simp only [← hji32]; go_roundg k4) | (simp only [← hji56]; go_roundg k4) | ((try (have e_ := HGZ11_2.out; injection e_ with e1_ e2_ e3_; subst e1_ e3_)); (try (have e_ := HGZ20_5.out; injection e_ with e1_ e2_ e3_; subst e1_ e3_)); go_roundg k4)
                          case measure => have := HK1.out; have := HK2.out; have := HK3.out; have := HK4.out; omega
                          case rel => exact ⟨(x8_4), (wrap64 (x80_2 + 1)), rs, (by first | exact H' | (rw [hji116]; exact H') | (rw [hji15]; exact H') | (rw [hji32]; exact H') | (rw [hji56]; exact H')), ⟨by have := HK1.out; have := HK2.out; have := HK3.out; have := HK4.out; omega⟩, ⟨by (try simp only [hl32_1]); (try simp only [hl8_3]); (try simp only [hl8_4]); (with_reducible repeat (first | apply Kd.S_alloc | apply Kd.S_drewN | apply Kd.S_drew)); exact HO_8.out⟩, ⟨by (try simp only [hl32_1]); (try simp only [hl8_3]); (try simp only [hl8_4]); (with_reducible repeat (first | refine blk_drewN ?_ _ | refine blk_drew ?_ | refine blk_alloc ?_ _)); exact BK101.out⟩, ⟨bl⟩⟩
                        rw [if_pos c86] at H
                        have c86b0 : decide (x145_4 < (x8_3.length : Int)) = true := decide_eq_true c86
                        (try simp only [hl32_1, hl8_3, hl8_4] at c86b0)
                        clear c86
                        by_cases c87 : 0 ≤ x145_4
                        case neg => rw [if_neg c87] at H; exact absurd H (by simp)
                        rw [if_pos c87] at H
                        have c87b0 : decide (0 ≤ x145_4) = true := decide_eq_true c87
                        clear c87
                        by_cases c88 : x145_4 < (x8_4.length : Int)
                        case neg => rw [if_neg c88] at H; exact absurd H (by simp)
                        rw [if_pos c88] at H
                        have c88b0 : decide (x145_4 < (x8_4.length : Int)) = true := decide_eq_true c88
                        (try simp only [hl32_1, hl8_3, hl8_4] at c88b0)
                        clear c88
                        by_cases c89 : 0 ≤ x80_2
                        case neg => rw [if_neg c89] at H; exact absurd H (by simp)
                        rw [if_pos c89] at H
                        have c89b0 : decide (0 ≤ x80_2) = true := decide_eq_true c89
                        clear c89
                        by_cases c90 : x80_2 < ((rd_L1 x8_4 x145_4).length : Int)
                        case neg => rw [if_neg c90] at H; exact absurd H (by simp)
                        rw [if_pos c90] at H
                        have c90b0 : decide (x80_2 < ((rd_L1 x8_4 x145_4).length : Int)) = true := decide_eq_true c90
                        (try simp only [hl32_1, hl8_3, hl8_4] at c90b0)
                        clear c90
                        by_cases c91 : x145_4 = x80_2
                        case neg =>
                          rw [if_neg c91] at H
                          have c91b0 : (x145_4 == x80_2) = false := beq_eq_false_iff_ne.mpr c91
                          have c91b1 : (x145_4 != x80_2) = true := bne_iff_ne.mpr c91
                          by_cases c94 : (rd (rd_L1 x8_4 x145_4) x80_2) = 0
                          case neg =>
                            rw [if_neg c94] at H
                            have c94b0 : ((rd (rd_L1 x8_4 x145_4) x80_2) == 0) = false := beq_eq_false_iff_ne.mpr c94
                            have c94b1 : ((rd (rd_L1 x8_4 x145_4) x80_2) != 0) = true := bne_iff_ne.mpr c94
                            have H' := Aside0.mk H
                            clear H
                            have p141 : 0 ≤ (x145_4 : Int) := oD
                            have q141 : x145_4 < (x8_4.length : Int) := oD
                            obtain ⟨ad141, A141_0, c141_0, e141, hx141_0, hl141_0, hi141_0⟩ := at_L1 (Kd.S_reads' HO_8.out).2.2 x145_4 p141 q141
                            obtain rfl : (⟨go60, 0, none⟩ : Addr) = ad141 := (by injection e141)
                            obtain ⟨ce141, hce141, hMe141, hcc141⟩ := Kd.S_get HO_8.out [] x145_4 p141 (by first | exact q141 | exact oD | (have e_ := (Kd.S_reads' HO_8.out).1; omega))
                            obtain ⟨ve141_0, rfl, ge141_0⟩ := hMe141
                            have hv141_0 := hcc141 0 _ rfl
                            rw [Nat.add_zero, show ((Kd.slice 2 (Kd.int .i64))).sz = 1 from rfl, Nat.mul_one] at hv141_0
                            replace hv141_0 := Option.some.inj (hv141_0.symm.trans hx141_0)
                            rw [hv141_0] at ge141_0
                            have HL141_0 := Aside0.mk (show Kd.R (Kd.int .i64) 2 _ _ _ _ (rd_L1 x8_4 x145_4) from ge141_0)
                            clear hv141_0 ge141_0
                            have HX141_0 := Aside0.mk hx141_0
                            clear hcc141 hce141
                            (first | simp only [add_plain] at hx141_0 | simp only [add_at] at hx141_0 | simp only [Addr.add, Nat.zero_add] at hx141_0 | skip)
                            have HR141_0 := Aside0.mk hi141_0
                            have HC141_0 := Aside0.mk hl141_0
                            clear hi141_0 hl141_0
                            replace p141 := eq_true p141
                            replace q141 := eq_true q141
                            have hnb97 := NB122_101.out
                            have hnc97 := NB101_122.out
                            have hcz98_0 : wr.cell? ⟨gb122, 0, none⟩ = some (.int .i64 x80_2) := (blk_cell BK122.out 0).trans rfl
                            have hfz98_0 := blk_frozen BK122.out 0
                            have p142 : 0 ≤ (x80_2 : Int) := oD
                            have q142 : x80_2 < ((rd_L1 x8_4 x145_4).length : Int) := oD
                            obtain ⟨ad142, e142, hx142_0⟩ := Kd.at_int (by repeat (first | (with_reducible exact HR141_0.out) | (with_reducible refine Kd.C_alloc ?_ _) | (with_reducible refine Kd.C_drewN ?_ _) | (with_reducible refine Kd.C_drew ?_) | exact HR141_0.out)) x80_2 p142 q142
                            cases e142
                            replace p142 := eq_true p142
                            replace q142 := eq_true q142
                            go_wp2
                            generalize hgz20_5 : (.slice (some ad142) (rd_L1 x8_4 x145_4).length c141_0 : Value) = vz20_5
                            have HGZ20_5 := Aside0.mk hgz20_5
                            clear hgz20_5
                            go_loopg [163] k4 (fun kq v163 w' => ∃ (x8_5 : List (List Int)) (x163_5 : Int), v163 = .int .i64 x163_5 ∧ Aside0 (impl_Graph_resolvent.l5 kq a1 x8_5 (wrap64 (2 * (l0_1.length : Int))) x145_4 (rd (rd_L1 x8_4 x145_4) x80_2) (wrap64 (2 * (l0_1.length : Int))) x80_2 (x8_3.length : Int) x145_4 ((rd_L1 x8_4 x145_4).length : Int) x163_5 x80_2 = some (r1, r2)) ∧ Aside0 (kq ≤ k4) ∧ Aside0 (HdrOf w' (.slice (some ⟨go60, 0, none⟩) x8_4.length co69) x145_4 vz20_5) ∧ Aside0 (Kd.S (Kd.slice 2 (Kd.int .i64)) 34 w' w.heap.size (fun _ => True) (.slice (some ⟨go60, 0, none⟩) x8_4.length co69) x8_5) ∧ Aside0 (w'.heap[gb101]? = some (.cells #[.int .i64 a0_0, (.slice A0_1 l0_1.length c0_1)] 28 (0, 0))) ∧ Aside0 (w'.heap[gb122]? = some (.cells #[.int .i64 x80_2] 3 (0, 0))) ∧ Aside0 (Below w.heap.size w w'))
                            case atStart => exact ⟨(x8_4), (0), rs, H', ⟨Nat.le_refl _⟩, ⟨by (with_reducible repeat (first | apply HdrOf.alloc | apply HdrOf.drewN | apply HdrOf.drew)); first | exact ⟨_, _, _, rfl, (by first | exact of_eq_true p141 | exact hdr_lo HH_20.out | omega), (by first | exact of_eq_true q141 | exact hdr_hi HH_20.out | (have h_ := of_eq_true q141; omega) | (have h_ := hdr_hi HH_20.out; omega)), HX141_0.out⟩ | (rw [← HGZ20_5.out]; exact ⟨_, _, _, rfl, (by first | exact of_eq_true p141 | exact hdr_lo HH_20.out | omega), (by first | exact of_eq_true q141 | exact hdr_hi HH_20.out | (have h_ := of_eq_true q141; omega) | (have h_ := hdr_hi HH_20.out; omega)), HX141_0.out⟩)⟩, ⟨by (try simp only [hl32_1]); (try simp only [hl8_3]); (try simp only [hl8_4]); (with_reducible repeat (first | apply Kd.S_alloc | apply Kd.S_drewN | apply Kd.S_drew)); exact HO_8.out⟩, ⟨by (try simp only [hl32_1]); (try simp only [hl8_3]); (try simp only [hl8_4]); (with_reducible repeat (first | refine blk_drewN ?_ _ | refine blk_drew ?_ | refine blk_alloc ?_ _)); exact BK101.out⟩, ⟨by (try simp only [hl32_1]); (try simp only [hl8_3]); (try simp only [hl8_4]); (with_reducible repeat (first | refine blk_drewN ?_ _ | refine blk_drew ?_ | refine blk_alloc ?_ _)); exact BK122.out⟩, ⟨bl⟩⟩
                            case round =>
                              clear H'
                              (try clear c1); (try clear p1); (try clear q1); (try clear hx1); (try clear c2); (try clear p2); (try clear q2); (try clear hx2); (try clear c3); (try clear p3); (try clear q3); (try clear hx3); (try clear hf3); (try clear c4); (try clear c5); (try clear q5); (try clear c6); (try clear p6); (try clear q6); (try clear hx6); (try clear hf6); (try clear c7); (try clear hx7); (try clear hf7); (try clear c8); (try clear p8); (try clear q8); (try clear hx8); (try clear hf8); (try clear c9); (try clear p10); (try clear q10); (try clear hx10); (try clear p11); (try clear q11); (try clear hx11); (try clear c12); (try clear c12b0); (try clear p12); (try clear q12); (try clear hx12); (try clear c13); (try clear c13b0); (try clear p13); (try clear q13); (try clear hx13); (try clear c14); (try clear c14b0); (try clear p14); (try clear q14); (try clear hx14); (try clear c16); (try clear c16b0); (try clear c16b1); (try clear c17); (try clear c17b0); (try clear c17b1); (try clear c20); (try clear c20b0); (try clear c21); (try clear c21b0); (try clear c22); (try clear c22b0); (try clear c24); (try clear c24b0); (try clear p25); (try clear q25); (try clear hx25); (try clear hf25); (try clear c28); (try clear c28b0); (try clear c29); (try clear c29b0); (try clear c30); (try clear c30b0); (try clear c30b1); (try clear p31); (try clear q31); (try clear hx31); (try clear hf31); (try clear c33); (try clear c33b0); (try clear c34); (try clear c34b0); (try clear p35); (try clear q35); (try clear hx35); (try clear hf35); (try clear c36); (try clear c43); (try clear c43b0); (try clear c44); (try clear c44b0); (try clear c44b1); (try clear c45); (try clear c45b0); (try clear c45b1); (try clear c47); (try clear c47b0); (try clear c49); (try clear c53); (try clear q53); (try clear c57); (try clear c57b0); (try clear c58); (try clear c58b0); (try clear c59); (try clear c59b0); (try clear c60); (try clear p60); (try clear q60); (try clear hx60); (try clear hf60); (try clear c61); (try clear c61b0); (try clear c64); (try clear p64); (try clear c68); (try clear q68); (try clear hx72); (try clear hf72); (try clear c76); (try clear c76b0); (try clear c77); (try clear c77b0); (try clear c78); (try clear c78b0); (try clear c79); (try clear c79b0); (try clear c80); (try clear c80b0); (try clear c81); (try clear c81b0); (try clear c81b1); (try clear p82); (try clear q82); (try clear hx82); (try clear hf82); (try clear c84); (try clear p84); (try clear q84); (try clear c86); (try clear c86b0); (try clear c87); (try clear c87b0); (try clear c88); (try clear c88b0); (try clear c89); (try clear c89b0); (try clear c90); (try clear c90b0); (try clear c91); (try clear c91b0); (try clear c91b1); (try clear c92); (try clear c94); (try clear c94b0); (try clear c94b1); (try clear c95); (try clear c97); (try clear hcz50_0); (try clear hcz52_0); (try clear hcz65_0); (try clear hcz67_0); (try clear hcz75_0); (try clear hcz93_0); (try clear hcz96_0); (try clear hcz98_0); (try clear hcz9_0); (try clear hcz9_1); (try clear hfz50_0); (try clear hfz52_0); (try clear hfz65_0); (try clear hfz67_0); (try clear hfz75_0); (try clear hfz93_0); (try clear hfz96_0); (try clear hfz98_0); (try clear hfz9_0); (try clear hfz9_1); (try clear hx108_0); (try clear hx112_0); (try clear hx113_0); (try clear hx116_0); (try clear hx128_0); (try clear hx129_0); (try clear hx131_0); (try clear hx132_0); (try clear hx134_0); (try clear hx135_0); (try clear hx136_0); (try clear hx137_0); (try clear hx141_0); (try clear hx142_0); (try clear hx25_0); (try clear hx31_0); (try clear hx35_0); (try clear hx60_0); (try clear hx72_0); (try clear hx82_0); (try clear p1); (try clear p10); (try clear p108); (try clear p11); (try clear p112); (try clear p113); (try clear p116); (try clear p12); (try clear p128); (try clear p129); (try clear p13); (try clear p131); (try clear p132); (try clear p134); (try clear p135); (try clear p136); (try clear p137); (try clear p141); (try clear p142); (try clear p2); (try clear p25); (try clear p3); (try clear p31); (try clear p35); (try clear p6); (try clear p60); (try clear p64); (try clear p8); (try clear p82); (try clear p84); (try clear q053); (try clear q068); (try clear q1); (try clear q10); (try clear q108); (try clear q11); (try clear q112); (try clear q113); (try clear q116); (try clear q12); (try clear q128); (try clear q129); (try clear q13); (try clear q131); (try clear q132); (try clear q134); (try clear q135); (try clear q136); (try clear q137); (try clear q141); (try clear q142); (try clear q2); (try clear q25); (try clear q3); (try clear q31); (try clear q35); (try clear q5); (try clear q53); (try clear q6); (try clear q60); (try clear q68); (try clear q8); (try clear q82); (try clear q84)
                              obtain ⟨x8_5, x163_5, rfl, HA, HK5, HH_20, HO_8, BK101, BK122, HB⟩ := hrel
                              have hl8_5 := (Kd.S_reads' HO_8.out).1
                              rw [hl8_5] at HO_8
                              (try simp only [hl8_5])
                              (try simp only [hl8_5] at BK101)
                              (try simp only [hl8_5] at BK122)
                              cases gk with
                              | zero => exact absurd HA.out (by simp [impl_Graph_resolvent.l5])
                              | succ k5 =>
                                have H := HA.out
                                clear HA
                                simp only [impl_Graph_resolvent.l5] at H
                                by_cases c99 : x163_5 < ((rd_L1 x8_4 x145_4).length : Int)
                                case neg =>
                                  rw [if_neg c99] at H
                                  have c99b0 : decide (x163_5 < ((rd_L1 x8_4 x145_4).length : Int)) = false := decide_eq_false c99
                                  (try simp only [hl32_1, hl8_3, hl8_4, hl8_5] at c99b0)
                                  clear c99
                                  have H' := Aside0.mk H
                                  clear H
                                  have hza143 : decide (0 ≤ x145_4) = true := decide_eq_true (hdr_lo HH_20.out)
                                  have hzb143 : decide (x145_4 < (x8_5.length : Int)) = true := decide_eq_true (by have h_ := hdr_hi HH_20.out; have e_ := (Kd.S_reads' HO_8.out).1; omega)
                                  have p143 : 0 ≤ (x145_4 : Int) := oD
                                  have q143 : x145_4 < (x8_5.length : Int) := oD
                                  obtain ⟨ad143, A143_0, c143_0, e143, hx143_0, hl143_0, hi143_0⟩ := at_L1 (Kd.S_reads' HO_8.out).2.2 x145_4 p143 q143
                                  obtain rfl : (⟨go60, 0, none⟩ : Addr) = ad143 := (by injection e143)
                                  obtain ⟨ce143, hce143, hMe143, hcc143⟩ := Kd.S_get HO_8.out [] x145_4 p143 (by first | exact q143 | exact oD | (have e_ := (Kd.S_reads' HO_8.out).1; omega))
                                  obtain ⟨ve143_0, rfl, ge143_0⟩ := hMe143
                                  have hv143_0 := hcc143 0 _ rfl
                                  rw [Nat.add_zero, show ((Kd.slice 2 (Kd.int .i64))).sz = 1 from rfl, Nat.mul_one] at hv143_0
                                  replace hv143_0 := Option.some.inj (hv143_0.symm.trans hx143_0)
                                  rw [hv143_0] at ge143_0
                                  have HL143_0 := Aside0.mk (show Kd.R (Kd.int .i64) 2 _ _ _ _ (rd_L1 x8_5 x145_4) from ge143_0)
                                  clear hv143_0 ge143_0
                                  have HX143_0 := Aside0.mk hx143_0
                                  clear hcc143 hce143
                                  (first | simp only [add_plain] at hx143_0 | simp only [add_at] at hx143_0 | simp only [Addr.add, Nat.zero_add] at hx143_0 | skip)
                                  have HR143_0 := Aside0.mk hi143_0
                                  have HC143_0 := Aside0.mk hl143_0
                                  clear hi143_0 hl143_0
                                  replace p143 := eq_true p143
                                  replace q143 := eq_true q143
                                  obtain rfl := hdr_eq HH_20.out HX143_0.out
                                  go_wp2
                                  (try simp only [← hl8_4, ← hl8_5])
                                  first | go_roundg k5 | (simp only [← hji116]; go_roundg k5) | (simp only [← hji15]; go_roundg k5) | (simp only [← hji32]; go_roundg k5) | (simp only [← hji56]; go_roundg k5) | ((try (have e_ := HGZ11_2.out; injection e_ with e1_ e2_ e3_; subst e1_ e3_)); (try (have e_ := HGZ20_5.out; injection e_ with e1_ e2_ e3_; subst e1_ e3_)); go_roundg k5)
                                  case measure => have := HK1.out; have := HK2.out; have := HK3.out; have := HK4.out; have := HK5.out; omega
                                  case rel => exact ⟨(x8_5), (wrap64 (x145_4 + 1)), rs, (by first | exact H' | (rw [hji116]; exact H') | (rw [hji15]; exact H') | (rw [hji32]; exact H') | (rw [hji56]; exact H')), ⟨by have := HK1.out; have := HK2.out; have := HK3.out; have := HK4.out; have := HK5.out; omega⟩, ⟨by (try simp only [hl32_1]); (try simp only [hl8_3]); (try simp only [hl8_4]); (try simp only [hl8_5]); (with_reducible repeat (first | apply Kd.S_alloc | apply Kd.S_drewN | apply Kd.S_drew)); exact HO_8.out⟩, ⟨by (try simp only [hl32_1]); (try simp only [hl8_3]); (try simp only [hl8_4]); (try simp only [hl8_5]); (with_reducible repeat (first | refine blk_drewN ?_ _ | refine blk_drew ?_ | refine blk_alloc ?_ _)); exact BK101.out⟩, ⟨by (try simp only [hl32_1]); (try simp only [hl8_3]); (try simp only [hl8_4]); (try simp only [hl8_5]); (with_reducible repeat (first | refine blk_drewN ?_ _ | refine blk_drew ?_ | refine blk_alloc ?_ _)); exact BK122.out⟩, ⟨bl⟩⟩
                                rw [if_pos c99] at H
                                have c99b0 : decide (x163_5 < ((rd_L1 x8_4 x145_4).length : Int)) = true := decide_eq_true c99
                                (try simp only [hl32_1, hl8_3, hl8_4, hl8_5] at c99b0)
                                clear c99
                                by_cases c100 : 0 ≤ x163_5
                                case neg => rw [if_neg c100] at H; exact absurd H (by simp)
                                rw [if_pos c100] at H
                                have c100b0 : decide (0 ≤ x163_5) = true := decide_eq_true c100
                                clear c100
                                by_cases c101 : x163_5 < ((rd_L1 x8_5 x145_4).length : Int)
                                case neg => rw [if_neg c101] at H; exact absurd H (by simp)
                                rw [if_pos c101] at H
                                have c101b0 : decide (x163_5 < ((rd_L1 x8_5 x145_4).length : Int)) = true := decide_eq_true c101
                                (try simp only [hl32_1, hl8_3, hl8_4, hl8_5] at c101b0)
                                clear c101
                                by_cases c102 : 0 ≤ x80_2
                                case neg => rw [if_neg c102] at H; exact absurd H (by simp)
                                rw [if_pos c102] at H
                                have c102b0 : decide (0 ≤ x80_2) = true := decide_eq_true c102
                                clear c102
                                by_cases c103 : x80_2 < (x8_5.length : Int)
                                case neg => rw [if_neg c103] at H; exact absurd H (by simp)
                                rw [if_pos c103] at H
                                have c103b0 : decide (x80_2 < (x8_5.length : Int)) = true := decide_eq_true c103
                                (try simp only [hl32_1, hl8_3, hl8_4, hl8_5] at c103b0)
                                clear c103
                                by_cases c104 : x163_5 < ((rd_L1 x8_5 x80_2).length : Int)
                                case neg => rw [if_neg c104] at H; exact absurd H (by simp)
                                rw [if_pos c104] at H
                                have c104b0 : decide (x163_5 < ((rd_L1 x8_5 x80_2).length : Int)) = true := decide_eq_true c104
                                (try simp only [hl32_1, hl8_3, hl8_4, hl8_5] at c104b0)
                                clear c104
                                replace H := Option.bind_eq_some_iff.mp H
                                obtain ⟨t147, A1050, H⟩ := H
                                replace H : (impl_Graph_resolvent.l5 k5 a1 (x8_5.set (x145_4 : Int).toNat ((rd_L1 x8_5 x145_4).set (x163_5 : Int).toNat t147)) (wrap64 (2 * (l0_1.length : Int))) x145_4 (rd (rd_L1 x8_4 x145_4) x80_2) (wrap64 (2 * (l0_1.length : Int))) x80_2 (x8_3.length : Int) x145_4 ((rd_L1 x8_4 x145_4).length : Int) (wrap64 (x163_5 + 1)) x80_2) = some (r1, r2) := H
                                have A105 := Aside0.mk A1050
                                clear A1050
                                obtain ⟨y148, hy148⟩ : ∃ y_ : List Int, y_ = ((rd_L1 x8_5 x145_4).set (x163_5 : Int).toNat t147) := ⟨_, rfl⟩
                                replace H : (impl_Graph_resolvent.l5 k5 a1 (x8_5.set (x145_4 : Int).toNat y148) (wrap64 (2 * (l0_1.length : Int))) x145_4 (rd (rd_L1 x8_4 x145_4) x80_2) (wrap64 (2 * (l0_1.length : Int))) x80_2 (x8_3.length : Int) x145_4 ((rd_L1 x8_4 x145_4).length : Int) (wrap64 (x163_5 + 1)) x80_2) = some (r1, r2) := by first | (rw [hy148]; with_reducible exact H) | (have H2_ := (Option.bind_some _ _).symm.trans H; rw [hy148]; with_reducible exact H2_) | (have H2_ := (Option.bind_some _ _).symm.trans H; with_reducible exact H2_) | with_reducible exact H | (rw [hy148]; exact H) | exact H
                                have Ny148 := Aside0.mk hy148
                                clear hy148
                                obtain ⟨y150, hy150⟩ : ∃ y_ : List (List Int), y_ = (x8_5.set (x145_4 : Int).toNat y148) := ⟨_, rfl⟩
                                replace H : (impl_Graph_resolvent.l5 k5 a1 y150 (wrap64 (2 * (l0_1.length : Int))) x145_4 (rd (rd_L1 x8_4 x145_4) x80_2) (wrap64 (2 * (l0_1.length : Int))) x80_2 (x8_3.length : Int) x145_4 ((rd_L1 x8_4 x145_4).length : Int) (wrap64 (x163_5 + 1)) x80_2) = some (r1, r2) := by first | (rw [hy150]; with_reducible exact H) | (have H2_ := (Option.bind_some _ _).symm.trans H; rw [hy150]; with_reducible exact H2_) | (have H2_ := (Option.bind_some _ _).symm.trans H; with_reducible exact H2_) | with_reducible exact H | (rw [hy150]; exact H) | exact H
                                have Ny150 := Aside0.mk hy150
                                clear hy150
                                have H' := Aside0.mk H
                                clear H
                                have hza143 : decide (0 ≤ x145_4) = true := decide_eq_true (hdr_lo HH_20.out)
                                have hzb143 : decide (x145_4 < (x8_5.length : Int)) = true := decide_eq_true (by have h_ := hdr_hi HH_20.out; have e_ := (Kd.S_reads' HO_8.out).1; omega)
                                have p143 : 0 ≤ (x145_4 : Int) := oD
                                have q143 : x145_4 < (x8_5.length : Int) := oD
                                obtain ⟨ad143, A143_0, c143_0, e143, hx143_0, hl143_0, hi143_0⟩ := at_L1 (Kd.S_reads' HO_8.out).2.2 x145_4 p143 q143
                                obtain rfl : (⟨go60, 0, none⟩ : Addr) = ad143 := (by injection e143)
                                obtain ⟨ce143, hce143, hMe143, hcc143⟩ := Kd.S_get HO_8.out [] x145_4 p143 (by first | exact q143 | exact oD | (have e_ := (Kd.S_reads' HO_8.out).1; omega))
                                obtain ⟨ve143_0, rfl, ge143_0⟩ := hMe143
                                have hv143_0 := hcc143 0 _ rfl
                                rw [Nat.add_zero, show ((Kd.slice 2 (Kd.int .i64))).sz = 1 from rfl, Nat.mul_one] at hv143_0
                                replace hv143_0 := Option.some.inj (hv143_0.symm.trans hx143_0)
                                rw [hv143_0] at ge143_0
                                have HL143_0 := Aside0.mk (show Kd.R (Kd.int .i64) 2 _ _ _ _ (rd_L1 x8_5 x145_4) from ge143_0)
                                clear hv143_0 ge143_0
                                have HX143_0 := Aside0.mk hx143_0
                                clear hcc143 hce143
                                (first | simp only [add_plain] at hx143_0 | simp only [add_at] at hx143_0 | simp only [Addr.add, Nat.zero_add] at hx143_0 | skip)
                                have HR143_0 := Aside0.mk hi143_0
                                have HC143_0 := Aside0.mk hl143_0
                                clear hi143_0 hl143_0
                                replace p143 := eq_true p143
                                replace q143 := eq_true q143
                                obtain rfl := hdr_eq HH_20.out HX143_0.out
                                try go_wp2
                                have n0_ := Aside0.mk (Kd.S_drew HO_8.out)
                                have n1_ := Aside0.mk (Kd.R_drew HL143_0.out)
                                have n2_ := Aside0.mk (blk_drew BK101.out)
                                have n3_ := Aside0.mk (blk_drew BK122.out)
                                have n4_ := Aside0.mk (Kd.C_drew HR143_0.out)
                                have n5_ := Aside0.mk ((show (wr.drew).cell? _ = some _ from HX143_0.out))
                                have n6_ := Aside0.mk (below_drew1 HB.out)
                                clear HO_8
                                clear HL143_0
                                clear BK101
                                clear BK122
                                clear HR143_0
                                clear HX143_0
                                clear HB
                                have HO_8 := n0_
                                have HL143_0 := n1_
                                have BK101 := n2_
                                have BK122 := n3_
                                have HR143_0 := n4_
                                have HX143_0 := n5_
                                have HB := n6_
                                clear n0_ n1_ n2_ n3_ n4_ n5_ n6_
                                have p144 : 0 ≤ (x163_5 : Int) := oD
                                have q144 : x163_5 < ((rd_L1 x8_5 x145_4).length : Int) := oD
                                obtain ⟨ad144, e144, hx144_0⟩ := Kd.at_int (by repeat (first | (with_reducible exact HR143_0.out) | (with_reducible refine Kd.C_alloc ?_ _) | (with_reducible refine Kd.C_drewN ?_ _) | (with_reducible refine Kd.C_drew ?_) | exact HR143_0.out)) x163_5 p144 q144
                                cases e144
                                replace p144 := eq_true p144
                                replace q144 := eq_true q144
                                have p145 : 0 ≤ (x80_2 : Int) := oD
                                have q145 : x80_2 < (x8_5.length : Int) := oD
                                obtain ⟨ad145, A145_0, c145_0, e145, hx145_0, hl145_0, hi145_0⟩ := at_L1 (Kd.S_reads' HO_8.out).2.2 x80_2 p145 q145
                                obtain rfl : (⟨go60, 0, none⟩ : Addr) = ad145 := (by injection e145)
                                obtain ⟨ce145, hce145, hMe145, hcc145⟩ := Kd.S_get HO_8.out [] x80_2 p145 (by first | exact q145 | exact oD | (have e_ := (Kd.S_reads' HO_8.out).1; omega))
                                obtain ⟨ve145_0, rfl, ge145_0⟩ := hMe145
                                have hv145_0 := hcc145 0 _ rfl
                                rw [Nat.add_zero, show ((Kd.slice 2 (Kd.int .i64))).sz = 1 from rfl, Nat.mul_one] at hv145_0
                                replace hv145_0 := Option.some.inj (hv145_0.symm.trans hx145_0)
                                rw [hv145_0] at ge145_0
                                have HL145_0 := Aside0.mk (show Kd.R (Kd.int .i64) 2 _ _ _ _ (rd_L1 x8_5 x80_2) from ge145_0)
                                clear hv145_0 ge145_0
                                have HX145_0 := Aside0.mk hx145_0
                                clear hcc145 hce145
                                (first | simp only [add_plain] at hx145_0 | simp only [add_at] at hx145_0 | simp only [Addr.add, Nat.zero_add] at hx145_0 | skip)
                                have HR145_0 := Aside0.mk hi145_0
                                have HC145_0 := Aside0.mk hl145_0
                                clear hi145_0 hl145_0
                                replace p145 := eq_true p145
                                replace q145 := eq_true q145
                                have p146 : 0 ≤ (x163_5 : Int) := oD
                                have q146 : x163_5 < ((rd_L1 x8_5 x80_2).length : Int) := oD
                                obtain ⟨ad146, e146, hx146_0⟩ := Kd.at_int (by repeat (first | (with_reducible exact HR145_0.out) | (with_reducible refine Kd.C_alloc ?_ _) | (with_reducible refine Kd.C_drewN ?_ _) | (with_reducible refine Kd.C_drew ?_) | exact HR145_0.out)) x163_5 p146 q146
                                cases e146
                                replace p146 := eq_true p146
                                replace q146 := eq_true q146
                                refine start_ (n := 20) (S := fun w' => w'.cell? ⟨gb122, 0, none⟩ = some (.int .i64 x80_2) ∧ w'.cell? (ad144.add (x163_5).toNat) = some (.int .i64 (rd (rd_L1 x8_5 x145_4) x163_5)) ∧ w'.cell? ⟨go60, (x80_2).toNat, none⟩ = some (.slice (some ad146) (rd_L1 x8_5 x80_2).length c145_0) ∧ w'.cell? (ad146.add (x163_5).toNat) = some (.int .i64 (rd (rd_L1 x8_5 x80_2) x163_5))) (ds := [19]) #[false, false, false, false, false, false, false, false, false, false, false, false, false, false, false, false, false, false, false, false] (by kernel_rfl) rfl rfl ⟨(blk_cell BK122.out 0).trans rfl, hx144_0, hx145_0, hx146_0⟩ (fun hHeld => ?_); refine with_tabW impl_Graph_resolvent.tab36 impl_Graph_resolvent.bits36 (fun HT_ HW_ => ?_)
                                generalize wr.drew = w107 at HO_8 HL143_0 BK101 BK122 HR143_0 HX143_0 HB HL145_0 HR145_0 HX145_0 hx144_0 hx145_0 hx146_0 hHeld ⊢
                                refine pure_ (i := 0) (N := some 166) (v := ?_) (a' := ?_) #[true, false, false, false, false, false, false, false, false, false, false, false, false, false, false, false, false, false, false, false] rfl rfl (any_of HT_.out (by kernel_rfl)) (fun _ _ _ h => h) (Or.inl ⟨by rfl, ?_⟩) ?_ ?_
                                rotate_left; · intro w'; go_simp; with_reducible rfl
                                rotate_left; · simp only [Act.put, zI, zZ, zS, i64_w, i32_w]; rfl
                                refine pure_ (i := 1) (N := some 167) (v := ?_) (a' := ?_) #[true, true, false, false, false, false, false, false, false, false, false, false, false, false, false, false, false, false, false, false] rfl rfl (any_of HT_.out (by kernel_rfl)) (fun _ _ _ h => h) (Or.inl ⟨by rfl, ?_⟩) ?_ ?_
                                rotate_left; · intro w'; go_simp; with_reducible rfl
                                rotate_left; · simp only [Act.put, zI, zZ, zS, i64_w, i32_w]; rfl
                                refine pure_ (i := 2) (N := some 168) (v := ?_) (a' := ?_) #[true, true, true, false, false, false, false, false, false, false, false, false, false, false, false, false, false, false, false, false] rfl rfl (any_of HT_.out (by kernel_rfl)) (fun _ _ _ h => h) (Or.inl ⟨by rfl, ?_⟩) ?_ ?_
                                rotate_left; · intro w'; go_simp; with_reducible rfl
                                rotate_left; · simp only [Act.put, zI, zZ, zS, i64_w, i32_w]; rfl
                                refine pure_ (i := 3) (N := some 169) (v := ?_) (a' := ?_) #[true, true, true, true, false, false, false, false, false, false, false, false, false, false, false, false, false, false, false, false] rfl rfl (any_of HT_.out (by kernel_rfl)) (fun _ _ _ h => h) (Or.inl ⟨by rfl, ?_⟩) ?_ ?_
                                rotate_left; · intro w'; go_simp; with_reducible rfl
                                rotate_left; · simp only [Act.put, zI, zZ, zS, i64_w, i32_w]; rfl
                                refine pure_ (i := 4) (N := some 170) (v := ?_) (a' := ?_) #[true, true, true, true, true, false, false, false, false, false, false, false, false, false, false, false, false, false, false, false] rfl rfl (any_of HT_.out (by kernel_rfl)) (fun _ _ _ h => h) (Or.inl ⟨by rfl, ?_⟩) ?_ ?_
                                rotate_left; · intro w'; go_simp; with_reducible rfl
                                rotate_left; · simp only [Act.put, zI, zZ, zS, i64_w, i32_w]; rfl
                                refine pure_ (i := 6) (N := some 172) (v := ?_) (a' := ?_) #[true, true, true, true, true, false, true, false, false, false, false, false, false, false, false, false, false, false, false, false] rfl rfl (any_of HT_.out (by kernel_rfl)) (fun _ _ _ h => h) (Or.inl ⟨by rfl, ?_⟩) ?_ ?_
                                rotate_left; · intro w'; go_simp; with_reducible rfl
                                rotate_left; · simp only [Act.put, zI, zZ, zS, i64_w, i32_w]; rfl
                                refine pure_ (i := 7) (N := some 173) (v := ?_) (a' := ?_) #[true, true, true, true, true, false, true, true, false, false, false, false, false, false, false, false, false, false, false, false] rfl rfl (any_of HT_.out (by kernel_rfl)) (fun _ _ _ h => h) (Or.inl ⟨by rfl, ?_⟩) ?_ ?_
                                rotate_left; · intro w'; go_simp; with_reducible rfl
                                rotate_left; · simp only [Act.put, zI, zZ, zS, i64_w, i32_w]; rfl
                                refine pure_ (i := 11) (N := some 177) (v := ?_) (a' := ?_) #[true, true, true, true, true, false, true, true, false, false, false, true, false, false, false, false, false, false, false, false] rfl rfl (any_of HT_.out (by kernel_rfl)) (fun _ _ _ h => h) (Or.inl ⟨by rfl, ?_⟩) ?_ ?_
                                rotate_left; · intro w'; go_simp; with_reducible rfl
                                rotate_left; · simp only [Act.put, zI, zZ, zS, i64_w, i32_w]; rfl
                                refine pure_ (i := 16) (N := some 182) (v := ?_) (a' := ?_) #[true, true, true, true, true, false, true, true, false, false, false, true, false, false, false, false, true, false, false, false] rfl rfl (any_of HT_.out (by kernel_rfl)) (fun _ _ _ h => h) (Or.inl ⟨by rfl, ?_⟩) ?_ ?_
                                rotate_left; · intro w'; go_simp; with_reducible rfl
                                rotate_left; · simp only [Act.put, zI, zZ, zS, i64_w, i32_w]; rfl
                                refine take_ (i := 5) (N := some 171) (v := ?_) (a' := ?_) #[true, true, true, true, true, true, true, true, false, false, false, true, false, false, false, false, true, false, false, false] rfl rfl (take_ofW HT_.out HW_.out (by kernel_rfl)) (fun _ _ _ h => h) (Or.inl ⟨by rfl, ?_⟩) hHeld ?_ ?_
                                rotate_left; · rintro w' ⟨s0, s1, s2, s3⟩; go_simp; with_reducible rfl
                                rotate_left; · simp only [Act.put, zI, zZ, zS, i64_w, i32_w]; rfl
                                refine take_ (i := 8) (N := some 174) (v := ?_) (a' := ?_) #[true, true, true, true, true, true, true, true, true, false, false, true, false, false, false, false, true, false, false, false] rfl rfl (take_ofW HT_.out HW_.out (by kernel_rfl)) (fun _ _ _ h => h) (Or.inl ⟨by rfl, ?_⟩) hHeld ?_ ?_
                                rotate_left; · rintro w' ⟨s0, s1, s2, s3⟩; go_simp; with_reducible rfl
                                rotate_left; · simp only [Act.put, zI, zZ, zS, i64_w, i32_w]; rfl
                                refine pure_ (i := 9) (N := some 175) (v := ?_) (a' := ?_) #[true, true, true, true, true, true, true, true, true, true, false, true, false, false, false, false, true, false, false, false] rfl rfl (any_of HT_.out (by kernel_rfl)) (fun _ _ _ h => h) (Or.inl ⟨by rfl, ?_⟩) ?_ ?_
                                rotate_left; · intro w'; go_simp; with_reducible rfl
                                rotate_left; · simp only [Act.put, zI, zZ, zS, i64_w, i32_w]; rfl
                                refine take_ (i := 10) (N := some 176) (v := ?_) (a' := ?_) #[true, true, true, true, true, true, true, true, true, true, true, true, false, false, false, false, true, false, false, false] rfl rfl (take_ofW HT_.out HW_.out (by kernel_rfl)) (fun _ _ _ h => h) (Or.inl ⟨by rfl, ?_⟩) hHeld ?_ ?_
                                rotate_left; · rintro w' ⟨s0, s1, s2, s3⟩; go_simp; with_reducible rfl
                                rotate_left; · simp only [Act.put, zI, zZ, zS, i64_w, i32_w]; rfl
                                refine pure_ (i := 12) (N := some 178) (v := ?_) (a' := ?_) #[true, true, true, true, true, true, true, true, true, true, true, true, true, false, false, false, true, false, false, false] rfl rfl (any_of HT_.out (by kernel_rfl)) (fun _ _ _ h => h) (Or.inl ⟨by rfl, ?_⟩) ?_ ?_
                                rotate_left; · intro w'; go_simp; with_reducible rfl
                                rotate_left; · simp only [Act.put, zI, zZ, zS, i64_w, i32_w]; rfl
                                refine take_ (i := 13) (N := some 179) (v := ?_) (a' := ?_) #[true, true, true, true, true, true, true, true, true, true, true, true, true, true, false, false, true, false, false, false] rfl rfl (take_ofW HT_.out HW_.out (by kernel_rfl)) (fun _ _ _ h => h) (Or.inl ⟨by rfl, ?_⟩) hHeld ?_ ?_
                                rotate_left; · rintro w' ⟨s0, s1, s2, s3⟩; go_simp; with_reducible rfl
                                rotate_left; · simp only [Act.put, zI, zZ, zS, i64_w, i32_w]; rfl
                                refine pure_ (i := 14) (N := some 180) (v := ?_) (a' := ?_) #[true, true, true, true, true, true, true, true, true, true, true, true, true, true, true, false, true, false, false, false] rfl rfl (any_of HT_.out (by kernel_rfl)) (fun _ _ _ h => h) (Or.inl ⟨by rfl, ?_⟩) ?_ ?_
                                rotate_left; · intro w'; go_simp; with_reducible rfl
                                rotate_left; · simp only [Act.put, zI, zZ, zS, i64_w, i32_w]; rfl
                                refine pure_ (i := 15) (N := some 181) (v := ?_) (a' := ?_) #[true, true, true, true, true, true, true, true, true, true, true, true, true, true, true, true, true, false, false, false] rfl rfl (any_of HT_.out (by kernel_rfl)) (fun _ _ _ h => h) (Or.inl ⟨by rfl, ?_⟩) ?_ ?_
                                rotate_left; · intro w'; go_simp; with_reducible rfl
                                rotate_left; · simp only [Act.put, zI, zZ, zS, i64_w, i32_w]; rfl
                                refine one_ (i := 17) (N := some 183) #[true, true, true, true, true, true, true, true, true, true, true, true, true, true, true, true, true, true, false, false] rfl rfl (one_of HT_.out (by kernel_rfl)) (by decide) (fun K hK => ?_)
                                refine goes_ Try.func90 (by kernel_rfl) rfl #[.int .i64 (wrap64 ((rd (rd_L1 x8_5 x145_4) x163_5) - (wrap64 ((rd (rd_L1 x8_4 x145_4) x80_2) * (rd (rd_L1 x8_5 x80_2) x163_5))))), .int .i64 a1] (by rfl) rfl rfl gm ?_
                                with_reducible refine (impl_modulo.calls (wrap64 ((rd (rd_L1 x8_5 x145_4) x163_5) - (wrap64 ((rd (rd_L1 x8_4 x145_4) x80_2) * (rd (rd_L1 x8_5 x80_2) x163_5))))) a1 t147 _ A105.out).mono ?_
                                rintro e w' ⟨rfl, ⟨nd, rfl⟩⟩
                                refine ⟨_, rfl, ?_⟩
                                have p106 : 0 ≤ (x163_5 : Int) := oD
                                have q106 : (x163_5 : Int) < (((rd_L1 x8_5 x145_4).length : Int) : Int) := oD
                                obtain ⟨go106, co106, eo106, gb106, gl106, cl106, HG106⟩ := Kd.R_form HL143_0.out (by omega)
                                (first | cases eo106 | (injection eo106 with ea_ en_ ec_; (first | subst ea_ | (injection ea_ with ea_; subst ea_)); subst ec_; clear en_))
                                (first | simp only [add_plain] at hx144_0 | skip)
                                have GB106 := Aside0.mk gb106
                                have GG106 := Aside0.mk HG106
                                clear gb106 gl106 HG106
                                (first | simp only [add_plain] at hx144_0 | skip)
                                obtain ⟨hx106_0, hf106_0⟩ := Kd.R_celln 0 HL143_0.out (x163_5 : Int) p106 q106
                                replace p106 := eq_true p106
                                replace q106 := eq_true q106
                                have hq108 : (x145_4 : Int) < (x8_5.length : Int) := (by have h_ : (x145_4 : Int) < ((x8_5.length : Int) : Int) := oD; first | exact h_ | (have e_ := (Kd.S_reads' HO_8.out).1; omega) | simpa only [List.length_set, List.length_set] using h_)
                                obtain ⟨oki108, ce108, hcl108, hM108, hcc108, hok108, hbk108⟩ := Kd.S_borrow HO_8.out [] (x145_4 : Int) oD (by first | exact hq108 | (have e_ := (Kd.S_reads' HO_8.out).1; omega))
                                obtain ⟨ve108_0, rfl, ge108_0⟩ := hM108
                                have hv108 := hcc108 0 _ rfl
                                rw [Nat.add_zero, show ((Kd.slice 2 (Kd.int .i64))).sz = 1 from rfl, Nat.mul_one] at hv108
                                replace hv108 := Option.some.inj (hv108.symm.trans HX143_0.out)
                                subst hv108
                                clear hcc108 hcl108
                                replace ge108_0 := (show Kd.R (Kd.int .i64) 2 _ _ _ _ (rd_L1 x8_5 x145_4) from ge108_0)
                                have HP108 := Kd.R_putg ge108_0 (x163_5 : Int) t147
                                have HXp108 := Aside0.mk (cell_grown HP108.2 HX143_0.out (cell_ne (hok108 _ (ge108_0.1 _ rfl)).2))
                                rw [← Ny148.out] at HP108
                                have HPr108 := Aside0.mk HP108.1
                                have HS108 := hbk108 HP108.2 (fun k_ e_ => by injection e_ with e_; subst e_; exact ge108_0.1 _ rfl) (x' := y148) (Kd.M_row HP108.1)
                                rw [← Ny150.out] at HS108
                                have HQ108 := Aside0.mk HS108
                                clear HP108 HS108 hbk108 hok108
                                refine hK.out _ _ ⟨(blk_cell BK122.out 0).trans rfl, hHeld.2.1, hHeld.2.2.1, hHeld.2.2.2⟩ (fun hHeld => ?_)
                                clear hK K
                                refine norm_ (a' := ?_) ?_ ?_
                                rotate_left; · show Act.put _ (some 183) _ = _; simp only [Act.put, zI, zZ, zS, i64_w, i32_w]; rfl
                                refine pure_ (i := 18) (N := some 184) (v := ?_) (a' := ?_) #[true, true, true, true, true, true, true, true, true, true, true, true, true, true, true, true, true, true, true, false] rfl rfl (any_of HT_.out (by kernel_rfl)) (fun _ _ _ h => h) (Or.inl ⟨by rfl, ?_⟩) ?_ ?_
                                rotate_left; · intro w'; go_simp; with_reducible rfl
                                rotate_left; · simp only [Act.put, zI, zZ, zS, i64_w, i32_w]; rfl
                                refine last_ (i := 19) (N := none) #[true, true, true, true, true, true, true, true, true, true, true, true, true, true, true, true, true, true, true, true] rfl rfl (one_of HT_.out (by kernel_rfl)) (by decide) (fun K hK => ?_)
                                refine skip_ (w1 := ?_) (by rfl) rfl ?_ ?_
                                rotate_left; · go_simp; rfl
                                refine hK.out _ _ ?_
                                clear hK K
                                refine done_ (done_of HT_.out (by kernel_rfl)) ?_
                                try go_wp2
                                (try simp only [← hl8_5])
                                first | go_roundg k5 | (simp only [← hji116]; go_roundg k5) | (simp only [← hji15]; go_roundg k5) | (simp only [← hji32]; go_roundg k5) | (simp only [← hji56]; go_roundg k5) | ((try (have e_ := HGZ11_2.out; injection e_ with e1_ e2_ e3_; subst e1_ e3_)); (try (have e_ := HGZ20_5.out; injection e_ with e1_ e2_ e3_; subst e1_ e3_)); go_roundg k5)
                                case measure => have := HK1.out; have := HK2.out; have := HK3.out; have := HK4.out; have := HK5.out; omega
                                case rel => exact ⟨(y150), (wrap64 (x163_5 + 1)), rs, (by first | exact H' | (rw [hji116]; exact H') | (rw [hji15]; exact H') | (rw [hji32]; exact H') | (rw [hji56]; exact H')), ⟨by have := HK1.out; have := HK2.out; have := HK3.out; have := HK4.out; have := HK5.out; omega⟩, ⟨by (with_reducible repeat (first | apply HdrOf.alloc | apply HdrOf.drewN | apply HdrOf.drew)); first | exact ⟨_, _, _, rfl, (by first | exact of_eq_true p143 | exact hdr_lo HH_20.out | omega), (by first | exact of_eq_true q143 | exact hdr_hi HH_20.out | (have h_ := of_eq_true q143; omega) | (have h_ := hdr_hi HH_20.out; omega)), HXp108.out⟩ | (rw [← HGZ20_5.out]; exact ⟨_, _, _, rfl, (by first | exact of_eq_true p143 | exact hdr_lo HH_20.out | omega), (by first | exact of_eq_true q143 | exact hdr_hi HH_20.out | (have h_ := of_eq_true q143; omega) | (have h_ := hdr_hi HH_20.out; omega)), HXp108.out⟩)⟩, ⟨by (try simp only [hl32_1]); (try simp only [hl8_3]); (try simp only [hl8_4]); (try simp only [hl8_5]); (with_reducible repeat (first | apply Kd.S_alloc | apply Kd.S_drewN | apply Kd.S_drew)); exact HQ108.out⟩, ⟨by (try simp only [hl32_1]); (try simp only [hl8_3]); (try simp only [hl8_4]); (try simp only [hl8_5]); (with_reducible repeat (first | refine blk_drewN ?_ _ | refine blk_drew ?_ | refine blk_alloc ?_ _)); refine blk_far ?_ (by have h_ := Kd.R_ne HL143_0.out BK101.out (by decide); intro e_; exact h_ (by rw [e_]; rfl)) _; (with_reducible repeat (first | refine blk_drewN ?_ _ | refine blk_drew ?_ | refine blk_alloc ?_ _)); exact BK101.out⟩, ⟨by (try simp only [hl32_1]); (try simp only [hl8_3]); (try simp only [hl8_4]); (try simp only [hl8_5]); (with_reducible repeat (first | refine blk_drewN ?_ _ | refine blk_drew ?_ | refine blk_alloc ?_ _)); refine blk_far ?_ (by have h_ := Kd.R_ne HL143_0.out BK122.out (by decide); intro e_; exact h_ (by rw [e_]; rfl)) _; (with_reducible repeat (first | refine blk_drewN ?_ _ | refine blk_drew ?_ | refine blk_alloc ?_ _)); exact BK122.out⟩, ⟨by repeat (first | (with_reducible first | exact HB.out | apply below_alloc | apply pw_below_drewN | apply below_drew1 | refine below_set ?_ GB106.out | refine below_set ?_ GE101.out | refine below_set ?_ GE122.out) | exact HB.out)⟩⟩
                          rw [if_pos c94] at H
                          have c94b0 : ((rd (rd_L1 x8_4 x145_4) x80_2) == 0) = true := beq_iff_eq.mpr c94
                          have c94b1 : ((rd (rd_L1 x8_4 x145_4) x80_2) != 0) = false := bne_eq_false_iff_eq.mpr c94
                          clear c94
                          have H' := Aside0.mk H
                          clear H
                          have p141 : 0 ≤ (x145_4 : Int) := oD
                          have q141 : x145_4 < (x8_4.length : Int) := oD
                          obtain ⟨ad141, A141_0, c141_0, e141, hx141_0, hl141_0, hi141_0⟩ := at_L1 (Kd.S_reads' HO_8.out).2.2 x145_4 p141 q141
                          obtain rfl : (⟨go60, 0, none⟩ : Addr) = ad141 := (by injection e141)
                          obtain ⟨ce141, hce141, hMe141, hcc141⟩ := Kd.S_get HO_8.out [] x145_4 p141 (by first | exact q141 | exact oD | (have e_ := (Kd.S_reads' HO_8.out).1; omega))
                          obtain ⟨ve141_0, rfl, ge141_0⟩ := hMe141
                          have hv141_0 := hcc141 0 _ rfl
                          rw [Nat.add_zero, show ((Kd.slice 2 (Kd.int .i64))).sz = 1 from rfl, Nat.mul_one] at hv141_0
                          replace hv141_0 := Option.some.inj (hv141_0.symm.trans hx141_0)
                          rw [hv141_0] at ge141_0
                          have HL141_0 := Aside0.mk (show Kd.R (Kd.int .i64) 2 _ _ _ _ (rd_L1 x8_4 x145_4) from ge141_0)
                          clear hv141_0 ge141_0
                          have HX141_0 := Aside0.mk hx141_0
                          clear hcc141 hce141
                          (first | simp only [add_plain] at hx141_0 | simp only [add_at] at hx141_0 | simp only [Addr.add, Nat.zero_add] at hx141_0 | skip)
                          have HR141_0 := Aside0.mk hi141_0
                          have HC141_0 := Aside0.mk hl141_0
                          clear hi141_0 hl141_0
                          replace p141 := eq_true p141
                          replace q141 := eq_true q141
                          have hnb95 := NB122_101.out
                          have hnc95 := NB101_122.out
                          have hcz96_0 : wr.cell? ⟨gb122, 0, none⟩ = some (.int .i64 x80_2) := (blk_cell BK122.out 0).trans rfl
                          have hfz96_0 := blk_frozen BK122.out 0
                          have p142 : 0 ≤ (x80_2 : Int) := oD
                          have q142 : x80_2 < ((rd_L1 x8_4 x145_4).length : Int) := oD
                          obtain ⟨ad142, e142, hx142_0⟩ := Kd.at_int (by repeat (first | (with_reducible exact HR141_0.out) | (with_reducible refine Kd.C_alloc ?_ _) | (with_reducible refine Kd.C_drewN ?_ _) | (with_reducible refine Kd.C_drew ?_) | exact HR141_0.out)) x80_2 p142 q142
                          cases e142
                          replace p142 := eq_true p142
                          replace q142 := eq_true q142
                          go_wp2
                          (try simp only [← hl8_4])
                          first | go_roundg k4 | (simp only [← hji116]; go_roundg k4) | (simp only [← hji15]; go_roundg k4) | (simp only [← hji32]; go_roundg k4) | (simp only [← hji56]; go_roundg k4) | ((try (have e_ := HGZ11_2.out; injection e_ with e1_ e2_ e3_; subst e1_ e3_)); (try (have e_ := HGZ20_5.out; injection e_ with e1_ e2_ e3_; subst e1_ e3_)); go_roundg k4)
                          case measure => have := HK1.out; have := HK2.out; have := HK3.out; have := HK4.out; omega
                          case rel => exact ⟨(x8_4), (wrap64 (x145_4 + 1)), rs, (by first | exact H' | (rw [hji116]; exact H') | (rw [hji15]; exact H') | (rw [hji32]; exact H') | (rw [hji56]; exact H')), ⟨by have := HK1.out; have := HK2.out; have := HK3.out; have := HK4.out; omega⟩, ⟨by (try simp only [hl32_1]); (try simp only [hl8_3]); (try simp only [hl8_4]); (with_reducible repeat (first | apply Kd.S_alloc | apply Kd.S_drewN | apply Kd.S_drew)); exact HO_8.out⟩, ⟨by (try simp only [hl32_1]); (try simp only [hl8_3]); (try simp only [hl8_4]); (with_reducible repeat (first | refine blk_drewN ?_ _ | refine blk_drew ?_ | refine blk_alloc ?_ _)); exact BK101.out⟩, ⟨by (try simp only [hl32_1]); (try simp only [hl8_3]); (try simp only [hl8_4]); (with_reducible repeat (first | refine blk_drewN ?_ _ | refine blk_drew ?_ | refine blk_alloc ?_ _)); exact BK122.out⟩, ⟨bl⟩⟩
                        rw [if_pos c91] at H
                        have c91b0 : (x145_4 == x80_2) = true := beq_iff_eq.mpr c91
                        have c91b1 : (x145_4 != x80_2) = false := bne_eq_false_iff_eq.mpr c91
                        clear c91
                        have H' := Aside0.mk H
                        clear H
                        have p141 : 0 ≤ (x145_4 : Int) := oD
                        have q141 : x145_4 < (x8_4.length : Int) := oD
                        obtain ⟨ad141, A141_0, c141_0, e141, hx141_0, hl141_0, hi141_0⟩ := at_L1 (Kd.S_reads' HO_8.out).2.2 x145_4 p141 q141
                        obtain rfl : (⟨go60, 0, none⟩ : Addr) = ad141 := (by injection e141)
                        obtain ⟨ce141, hce141, hMe141, hcc141⟩ := Kd.S_get HO_8.out [] x145_4 p141 (by first | exact q141 | exact oD | (have e_ := (Kd.S_reads' HO_8.out).1; omega))
                        obtain ⟨ve141_0, rfl, ge141_0⟩ := hMe141
                        have hv141_0 := hcc141 0 _ rfl
                        rw [Nat.add_zero, show ((Kd.slice 2 (Kd.int .i64))).sz = 1 from rfl, Nat.mul_one] at hv141_0
                        replace hv141_0 := Option.some.inj (hv141_0.symm.trans hx141_0)
                        rw [hv141_0] at ge141_0
                        have HL141_0 := Aside0.mk (show Kd.R (Kd.int .i64) 2 _ _ _ _ (rd_L1 x8_4 x145_4) from ge141_0)
                        clear hv141_0 ge141_0
                        have HX141_0 := Aside0.mk hx141_0
                        clear hcc141 hce141
                        (first | simp only [add_plain] at hx141_0 | simp only [add_at] at hx141_0 | simp only [Addr.add, Nat.zero_add] at hx141_0 | skip)
                        have HR141_0 := Aside0.mk hi141_0
                        have HC141_0 := Aside0.mk hl141_0
                        clear hi141_0 hl141_0
                        replace p141 := eq_true p141
                        replace q141 := eq_true q141
                        have hnb92 := NB122_101.out
                        have hnc92 := NB101_122.out
                        have hcz93_0 : wr.cell? ⟨gb122, 0, none⟩ = some (.int .i64 x80_2) := (blk_cell BK122.out 0).trans rfl
                        have hfz93_0 := blk_frozen BK122.out 0
                        have p142 : 0 ≤ (x80_2 : Int) := oD
                        have q142 : x80_2 < ((rd_L1 x8_4 x145_4).length : Int) := oD
                        obtain ⟨ad142, e142, hx142_0⟩ := Kd.at_int (by repeat (first | (with_reducible exact HR141_0.out) | (with_reducible refine Kd.C_alloc ?_ _) | (with_reducible refine Kd.C_drewN ?_ _) | (with_reducible refine Kd.C_drew ?_) | exact HR141_0.out)) x80_2 p142 q142
                        cases e142
                        replace p142 := eq_true p142
                        replace q142 := eq_true q142
                        go_wp2
                        (try simp only [← hl8_4])
                        first | go_roundg k4 | (simp only [← hji116]; go_roundg k4) | (simp only [← hji15]; go_roundg k4) | (simp only [← hji32]; go_roundg k4) | (simp only [← hji56]; go_roundg k4) | ((try (have e_ := HGZ11_2.out; injection e_ with e1_ e2_ e3_; subst e1_ e3_)); (try (have e_ := HGZ20_5.out; injection e_ with e1_ e2_ e3_; subst e1_ e3_)); go_roundg k4)
                        case measure => have := HK1.out; have := HK2.out; have := HK3.out; have := HK4.out; omega
                        case rel => exact ⟨(x8_4), (wrap64 (x145_4 + 1)), rs, (by first | exact H' | (rw [hji116]; exact H') | (rw [hji15]; exact H') | (rw [hji32]; exact H') | (rw [hji56]; exact H')), ⟨by have := HK1.out; have := HK2.out; have := HK3.out; have := HK4.out; omega⟩, ⟨by (try simp only [hl32_1]); (try simp only [hl8_3]); (try simp only [hl8_4]); (with_reducible repeat (first | apply Kd.S_alloc | apply Kd.S_drewN | apply Kd.S_drew)); exact HO_8.out⟩, ⟨by (try simp only [hl32_1]); (try simp only [hl8_3]); (try simp only [hl8_4]); (with_reducible repeat (first | refine blk_drewN ?_ _ | refine blk_drew ?_ | refine blk_alloc ?_ _)); exact BK101.out⟩, ⟨by (try simp only [hl32_1]); (try simp only [hl8_3]); (try simp only [hl8_4]); (with_reducible repeat (first | refine blk_drewN ?_ _ | refine blk_drew ?_ | refine blk_alloc ?_ _)); exact BK122.out⟩, ⟨bl⟩⟩
                  rw [if_pos c76] at H
                  have c76b0 : decide (x122_3 < ((rd_L1 y130 x80_2).length : Int)) = true := decide_eq_true c76
                  (try simp only [hl32_1, hl8_3] at c76b0)
                  clear c76
                  by_cases c77 : 0 ≤ x80_2
                  case neg => rw [if_neg c77] at H; exact absurd H (by simp)
                  rw [if_pos c77] at H
                  have c77b0 : decide (0 ≤ x80_2) = true := decide_eq_true c77
                  clear c77
                  by_cases c78 : x80_2 < (x8_3.length : Int)
                  case neg => rw [if_neg c78] at H; exact absurd H (by simp)
                  rw [if_pos c78] at H
                  have c78b0 : decide (x80_2 < (x8_3.length : Int)) = true := decide_eq_true c78
                  (try simp only [hl32_1, hl8_3] at c78b0)
                  clear c78
                  by_cases c79 : 0 ≤ x122_3
                  case neg => rw [if_neg c79] at H; exact absurd H (by simp)
                  rw [if_pos c79] at H
                  have c79b0 : decide (0 ≤ x122_3) = true := decide_eq_true c79
                  clear c79
                  by_cases c80 : x122_3 < ((rd_L1 x8_3 x80_2).length : Int)
                  case neg => rw [if_neg c80] at H; exact absurd H (by simp)
                  rw [if_pos c80] at H
                  have c80b0 : decide (x122_3 < ((rd_L1 x8_3 x80_2).length : Int)) = true := decide_eq_true c80
                  (try simp only [hl32_1, hl8_3] at c80b0)
                  clear c80
                  by_cases c81 : a1 = 0
                  case neg =>
                    rw [if_neg c81] at H
                    have c81b0 : (a1 == 0) = false := beq_eq_false_iff_ne.mpr c81
                    have c81b1 : (a1 != 0) = true := bne_iff_ne.mpr c81
                    obtain ⟨y138, hy138⟩ : ∃ y_ : List Int, y_ = ((rd_L1 x8_3 x80_2).set (x122_3 : Int).toNat (Int.tmod (wrap64 ((rd (rd_L1 x8_3 x80_2) x122_3) * t133)) a1)) := ⟨_, rfl⟩
                    replace H : (impl_Graph_resolvent.l3 k3 a1 (x8_3.set (x80_2 : Int).toNat y138) (wrap64 (2 * (l0_1.length : Int))) t133 (wrap64 (2 * (l0_1.length : Int))) x80_2 ((rd_L1 y130 x80_2).length : Int) (wrap64 (x122_3 + 1)) x80_2) = some (r1, r2) := by first | (rw [hy138]; with_reducible exact H) | (have H2_ := (Option.bind_some _ _).symm.trans H; rw [hy138]; with_reducible exact H2_) | (have H2_ := (Option.bind_some _ _).symm.trans H; with_reducible exact H2_) | with_reducible exact H | (rw [hy138]; exact H) | exact H
                    have Ny138 := Aside0.mk hy138
                    clear hy138
                    obtain ⟨y140, hy140⟩ : ∃ y_ : List (List Int), y_ = (x8_3.set (x80_2 : Int).toNat y138) := ⟨_, rfl⟩
                    replace H : (impl_Graph_resolvent.l3 k3 a1 y140 (wrap64 (2 * (l0_1.length : Int))) t133 (wrap64 (2 * (l0_1.length : Int))) x80_2 ((rd_L1 y130 x80_2).length : Int) (wrap64 (x122_3 + 1)) x80_2) = some (r1, r2) := by first | (rw [hy140]; with_reducible exact H) | (have H2_ := (Option.bind_some _ _).symm.trans H; rw [hy140]; with_reducible exact H2_) | (have H2_ := (Option.bind_some _ _).symm.trans H; with_reducible exact H2_) | with_reducible exact H | (rw [hy140]; exact H) | exact H
                    have Ny140 := Aside0.mk hy140
                    clear hy140
                    have H' := Aside0.mk H
                    clear H
                    try go_wp2
                    have n0_ := Aside0.mk (Kd.S_drew HO_8.out)
                    have n1_ := Aside0.mk (blk_drew BK101.out)
                    have n2_ := Aside0.mk (blk_drew BK122.out)
                    have n3_ := Aside0.mk (below_drew1 HB.out)
                    clear HO_8
                    clear BK101
                    clear BK122
                    clear HB
                    have HO_8 := n0_
                    have BK101 := n1_
                    have BK122 := n2_
                    have HB := n3_
                    clear n0_ n1_ n2_ n3_
                    have p135 : 0 ≤ (x80_2 : Int) := oD
                    have q135 : x80_2 < (x8_3.length : Int) := oD
                    obtain ⟨ad135, A135_0, c135_0, e135, hx135_0, hl135_0, hi135_0⟩ := at_L1 (Kd.S_reads' HO_8.out).2.2 x80_2 p135 q135
                    obtain rfl : (⟨go60, 0, none⟩ : Addr) = ad135 := (by injection e135)
                    obtain ⟨ce135, hce135, hMe135, hcc135⟩ := Kd.S_get HO_8.out [] x80_2 p135 (by first | exact q135 | exact oD | (have e_ := (Kd.S_reads' HO_8.out).1; omega))
                    obtain ⟨ve135_0, rfl, ge135_0⟩ := hMe135
                    have hv135_0 := hcc135 0 _ rfl
                    rw [Nat.add_zero, show ((Kd.slice 2 (Kd.int .i64))).sz = 1 from rfl, Nat.mul_one] at hv135_0
                    replace hv135_0 := Option.some.inj (hv135_0.symm.trans hx135_0)
                    rw [hv135_0] at ge135_0
                    have HL135_0 := Aside0.mk (show Kd.R (Kd.int .i64) 2 _ _ _ _ (rd_L1 x8_3 x80_2) from ge135_0)
                    clear hv135_0 ge135_0
                    have HX135_0 := Aside0.mk hx135_0
                    clear hcc135 hce135
                    (first | simp only [add_plain] at hx135_0 | simp only [add_at] at hx135_0 | simp only [Addr.add, Nat.zero_add] at hx135_0 | skip)
                    have HR135_0 := Aside0.mk hi135_0
                    have HC135_0 := Aside0.mk hl135_0
                    clear hi135_0 hl135_0
                    replace p135 := eq_true p135
                    replace q135 := eq_true q135
                    have p136 : 0 ≤ (x80_2 : Int) := oD
                    have q136 : x80_2 < (x8_3.length : Int) := oD
                    obtain ⟨ad136, A136_0, c136_0, e136, hx136_0, hl136_0, hi136_0⟩ := at_L1 (Kd.S_reads' HO_8.out).2.2 x80_2 p136 q136
                    obtain rfl : (⟨go60, 0, none⟩ : Addr) = ad136 := (by injection e136)
                    obtain ⟨ce136, hce136, hMe136, hcc136⟩ := Kd.S_get HO_8.out [] x80_2 p136 (by first | exact q136 | exact oD | (have e_ := (Kd.S_reads' HO_8.out).1; omega))
                    obtain ⟨ve136_0, rfl, ge136_0⟩ := hMe136
                    have hv136_0 := hcc136 0 _ rfl
                    rw [Nat.add_zero, show ((Kd.slice 2 (Kd.int .i64))).sz = 1 from rfl, Nat.mul_one] at hv136_0
                    replace hv136_0 := Option.some.inj (hv136_0.symm.trans hx136_0)
                    rw [hv136_0] at ge136_0
                    have HL136_0 := Aside0.mk (show Kd.R (Kd.int .i64) 2 _ _ _ _ (rd_L1 x8_3 x80_2) from ge136_0)
                    clear hv136_0 ge136_0
                    have HX136_0 := Aside0.mk hx136_0
                    clear hcc136 hce136
                    (first | simp only [add_plain] at hx136_0 | simp only [add_at] at hx136_0 | simp only [Addr.add, Nat.zero_add] at hx136_0 | skip)
                    have HR136_0 := Aside0.mk hi136_0
                    have HC136_0 := Aside0.mk hl136_0
                    clear hi136_0 hl136_0
                    replace p136 := eq_true p136
                    replace q136 := eq_true q136
                    have ea_ := Option.some.inj (hx135_0.symm.trans hx136_0)
                    injection ea_ with ea_ en_ ec_
                    subst ea_
                    subst ec_
                    clear en_
                    have p137 : 0 ≤ (x122_3 : Int) := oD
                    have q137 : x122_3 < ((rd_L1 x8_3 x80_2).length : Int) := oD
                    obtain ⟨ad137, e137, hx137_0⟩ := Kd.at_int (by repeat (first | (with_reducible exact HR136_0.out) | (with_reducible refine Kd.C_alloc ?_ _) | (with_reducible refine Kd.C_drewN ?_ _) | (with_reducible refine Kd.C_drew ?_) | exact HR136_0.out)) x122_3 p137 q137
                    cases e137
                    replace p137 := eq_true p137
                    replace q137 := eq_true q137
                    have p82 : 0 ≤ (x122_3 : Int) := oD
                    have q82 : (x122_3 : Int) < (((rd_L1 x8_3 x80_2).length : Int) : Int) := oD
                    obtain ⟨go82, co82, eo82, gb82, gl82, cl82, HG82⟩ := Kd.R_form HL135_0.out (by omega)
                    (first | cases eo82 | (injection eo82 with ea_ en_ ec_; (first | subst ea_ | (injection ea_ with ea_; subst ea_)); subst ec_; clear en_))
                    (first | simp only [add_plain] at hx137_0 | skip)
                    have GB82 := Aside0.mk gb82
                    have GG82 := Aside0.mk HG82
                    clear gb82 gl82 HG82
                    (first | simp only [add_plain] at hx137_0 | skip)
                    obtain ⟨hx82_0, hf82_0⟩ := Kd.R_celln 0 HL135_0.out (x122_3 : Int) p82 q82
                    replace p82 := eq_true p82
                    replace q82 := eq_true q82
                    have hq84 : (x80_2 : Int) < (x8_3.length : Int) := (by have h_ : (x80_2 : Int) < ((x8_3.length : Int) : Int) := oD; first | exact h_ | (have e_ := (Kd.S_reads' HO_8.out).1; omega) | simpa only [List.length_set, List.length_set] using h_)
                    obtain ⟨oki84, ce84, hcl84, hM84, hcc84, hok84, hbk84⟩ := Kd.S_borrow HO_8.out [] (x80_2 : Int) oD (by first | exact hq84 | (have e_ := (Kd.S_reads' HO_8.out).1; omega))
                    obtain ⟨ve84_0, rfl, ge84_0⟩ := hM84
                    have hv84 := hcc84 0 _ rfl
                    rw [Nat.add_zero, show ((Kd.slice 2 (Kd.int .i64))).sz = 1 from rfl, Nat.mul_one] at hv84
                    replace hv84 := Option.some.inj (hv84.symm.trans HX135_0.out)
                    subst hv84
                    clear hcc84 hcl84
                    replace ge84_0 := (show Kd.R (Kd.int .i64) 2 _ _ _ _ (rd_L1 x8_3 x80_2) from ge84_0)
                    have HP84 := Kd.R_putg ge84_0 (x122_3 : Int) (Int.tmod (wrap64 ((rd (rd_L1 x8_3 x80_2) x122_3) * t133)) a1)
                    have HXp84 := Aside0.mk (cell_grown HP84.2 HX135_0.out (cell_ne (hok84 _ (ge84_0.1 _ rfl)).2))
                    rw [← Ny138.out] at HP84
                    have HPr84 := Aside0.mk HP84.1
                    have HS84 := hbk84 HP84.2 (fun k_ e_ => by injection e_ with e_; subst e_; exact ge84_0.1 _ rfl) (x' := y138) (Kd.M_row HP84.1)
                    rw [← Ny140.out] at HS84
                    have HQ84 := Aside0.mk HS84
                    clear HP84 HS84 hbk84 hok84
                    refine start_ (n := 18) (S := fun w' => w'.cell? ⟨gb122, 0, none⟩ = some (.int .i64 x80_2) ∧ w'.cell? ⟨go60, (x80_2).toNat, none⟩ = some (.slice (some ⟨go82, 0, none⟩) (rd_L1 x8_3 x80_2).length c135_0) ∧ w'.cell? ⟨go60, (x80_2).toNat, none⟩ = some (.slice (some ⟨go82, 0, none⟩) (rd_L1 x8_3 x80_2).length c135_0) ∧ w'.cell? ⟨go82, (x122_3).toNat, none⟩ = some (.int .i64 (rd (rd_L1 x8_3 x80_2) x122_3))) (ds := [17]) #[false, false, false, false, false, false, false, false, false, false, false, false, false, false, false, false, false, false] (by kernel_rfl) rfl rfl ⟨(blk_cell BK122.out 0).trans rfl, hx135_0, hx136_0, hx137_0⟩ (fun hHeld => ?_); refine with_tabW impl_Graph_resolvent.tab26 impl_Graph_resolvent.bits26 (fun HT_ HW_ => ?_)
                    generalize wr.drew = w83 at HO_8 BK101 BK122 HB GG82 HL135_0 HL136_0 HQ84 HR135_0 HR136_0 HX135_0 HX136_0 HXp84 hf82_0 hx135_0 hx136_0 hx137_0 hx82_0 hHeld ⊢
                    refine pure_ (i := 0) (N := some 125) (v := ?_) (a' := ?_) #[true, false, false, false, false, false, false, false, false, false, false, false, false, false, false, false, false, false] rfl rfl (any_of HT_.out (by kernel_rfl)) (fun _ _ _ h => h) (Or.inl ⟨by rfl, ?_⟩) ?_ ?_
                    rotate_left; · intro w'; go_simp; with_reducible rfl
                    rotate_left; · simp only [Act.put, zI, zZ, zS, i64_w, i32_w]; rfl
                    refine pure_ (i := 4) (N := some 129) (v := ?_) (a' := ?_) #[true, false, false, false, true, false, false, false, false, false, false, false, false, false, false, false, false, false] rfl rfl (any_of HT_.out (by kernel_rfl)) (fun _ _ _ h => h) (Or.inl ⟨by rfl, ?_⟩) ?_ ?_
                    rotate_left; · intro w'; go_simp; with_reducible rfl
                    rotate_left; · simp only [Act.put, zI, zZ, zS, i64_w, i32_w]; rfl
                    refine pure_ (i := 5) (N := some 130) (v := ?_) (a' := ?_) #[true, false, false, false, true, true, false, false, false, false, false, false, false, false, false, false, false, false] rfl rfl (any_of HT_.out (by kernel_rfl)) (fun _ _ _ h => h) (Or.inl ⟨by rfl, ?_⟩) ?_ ?_
                    rotate_left; · intro w'; go_simp; with_reducible rfl
                    rotate_left; · simp only [Act.put, zI, zZ, zS, i64_w, i32_w]; rfl
                    refine pure_ (i := 9) (N := some 134) (v := ?_) (a' := ?_) #[true, false, false, false, true, true, false, false, false, true, false, false, false, false, false, false, false, false] rfl rfl (any_of HT_.out (by kernel_rfl)) (fun _ _ _ h => h) (Or.inl ⟨by rfl, ?_⟩) ?_ ?_
                    rotate_left; · intro w'; go_simp; with_reducible rfl
                    rotate_left; · simp only [Act.put, zI, zZ, zS, i64_w, i32_w]; rfl
                    refine pure_ (i := 12) (N := some 137) (v := ?_) (a' := ?_) #[true, false, false, false, true, true, false, false, false, true, false, false, true, false, false, false, false, false] rfl rfl (any_of HT_.out (by kernel_rfl)) (fun _ _ _ h => h) (Or.inl ⟨by rfl, ?_⟩) ?_ ?_
                    rotate_left; · intro w'; go_simp; with_reducible rfl
                    rotate_left; · simp only [Act.put, zI, zZ, zS, i64_w, i32_w]; rfl
                    refine pure_ (i := 14) (N := some 139) (v := ?_) (a' := ?_) #[true, false, false, false, true, true, false, false, false, true, false, false, true, false, true, false, false, false] rfl rfl (any_of HT_.out (by kernel_rfl)) (fun _ _ _ h => h) (Or.inl ⟨by rfl, ?_⟩) ?_ ?_
                    rotate_left; · intro w'; go_simp; with_reducible rfl
                    rotate_left; · simp only [Act.put, zI, zZ, zS, i64_w, i32_w]; rfl
                    refine take_ (i := 1) (N := some 126) (v := ?_) (a' := ?_) #[true, true, false, false, true, true, false, false, false, true, false, false, true, false, true, false, false, false] rfl rfl (take_ofW HT_.out HW_.out (by kernel_rfl)) (fun _ _ _ h => h) (Or.inl ⟨by rfl, ?_⟩) hHeld ?_ ?_
                    rotate_left; · rintro w' ⟨s0, s1, s2, s3⟩; go_simp; with_reducible rfl
                    rotate_left; · simp only [Act.put, zI, zZ, zS, i64_w, i32_w]; rfl
                    refine pure_ (i := 2) (N := some 127) (v := ?_) (a' := ?_) #[true, true, true, false, true, true, false, false, false, true, false, false, true, false, true, false, false, false] rfl rfl (any_of HT_.out (by kernel_rfl)) (fun _ _ _ h => h) (Or.inl ⟨by rfl, ?_⟩) ?_ ?_
                    rotate_left; · intro w'; go_simp; with_reducible rfl
                    rotate_left; · simp only [Act.put, zI, zZ, zS, i64_w, i32_w]; rfl
                    refine take_ (i := 3) (N := some 128) (v := ?_) (a' := ?_) #[true, true, true, true, true, true, false, false, false, true, false, false, true, false, true, false, false, false] rfl rfl (take_ofW HT_.out HW_.out (by kernel_rfl)) (fun _ _ _ h => h) (Or.inl ⟨by rfl, ?_⟩) hHeld ?_ ?_
                    rotate_left; · rintro w' ⟨s0, s1, s2, s3⟩; go_simp; with_reducible rfl
                    rotate_left; · simp only [Act.put, zI, zZ, zS, i64_w, i32_w]; rfl
                    refine take_ (i := 6) (N := some 131) (v := ?_) (a' := ?_) #[true, true, true, true, true, true, true, false, false, true, false, false, true, false, true, false, false, false] rfl rfl (take_ofW HT_.out HW_.out (by kernel_rfl)) (fun _ _ _ h => h) (Or.inl ⟨by rfl, ?_⟩) hHeld ?_ ?_
                    rotate_left; · rintro w' ⟨s0, s1, s2, s3⟩; go_simp; with_reducible rfl
                    rotate_left; · simp only [Act.put, zI, zZ, zS, i64_w, i32_w]; rfl
                    refine pure_ (i := 7) (N := some 132) (v := ?_) (a' := ?_) #[true, true, true, true, true, true, true, true, false, true, false, false, true, false, true, false, false, false] rfl rfl (any_of HT_.out (by kernel_rfl)) (fun _ _ _ h => h) (Or.inl ⟨by rfl, ?_⟩) ?_ ?_
                    rotate_left; · intro w'; go_simp; with_reducible rfl
                    rotate_left; · simp only [Act.put, zI, zZ, zS, i64_w, i32_w]; rfl
                    refine take_ (i := 8) (N := some 133) (v := ?_) (a' := ?_) #[true, true, true, true, true, true, true, true, true, true, false, false, true, false, true, false, false, false] rfl rfl (take_ofW HT_.out HW_.out (by kernel_rfl)) (fun _ _ _ h => h) (Or.inl ⟨by rfl, ?_⟩) hHeld ?_ ?_
                    rotate_left; · rintro w' ⟨s0, s1, s2, s3⟩; go_simp; with_reducible rfl
                    rotate_left; · simp only [Act.put, zI, zZ, zS, i64_w, i32_w]; rfl
                    refine pure_ (i := 10) (N := some 135) (v := ?_) (a' := ?_) #[true, true, true, true, true, true, true, true, true, true, true, false, true, false, true, false, false, false] rfl rfl (any_of HT_.out (by kernel_rfl)) (fun _ _ _ h => h) (Or.inl ⟨by rfl, ?_⟩) ?_ ?_
                    rotate_left; · intro w'; go_simp; with_reducible rfl
                    rotate_left; · simp only [Act.put, zI, zZ, zS, i64_w, i32_w]; rfl
                    refine take_ (i := 11) (N := some 136) (v := ?_) (a' := ?_) #[true, true, true, true, true, true, true, true, true, true, true, true, true, false, true, false, false, false] rfl rfl (take_ofW HT_.out HW_.out (by kernel_rfl)) (fun _ _ _ h => h) (Or.inl ⟨by rfl, ?_⟩) hHeld ?_ ?_
                    rotate_left; · rintro w' ⟨s0, s1, s2, s3⟩; go_simp; with_reducible rfl
                    rotate_left; · simp only [Act.put, zI, zZ, zS, i64_w, i32_w]; rfl
                    refine pure_ (i := 13) (N := some 138) (v := ?_) (a' := ?_) #[true, true, true, true, true, true, true, true, true, true, true, true, true, true, true, false, false, false] rfl rfl (any_of HT_.out (by kernel_rfl)) (fun _ _ _ h => h) (Or.inl ⟨by rfl, ?_⟩) ?_ ?_
                    rotate_left; · intro w'; go_simp; with_reducible rfl
                    rotate_left; · simp only [Act.put, zI, zZ, zS, i64_w, i32_w]; rfl
                    refine pure_ (i := 15) (N := some 140) (v := ?_) (a' := ?_) #[true, true, true, true, true, true, true, true, true, true, true, true, true, true, true, true, false, false] rfl rfl (any_of HT_.out (by kernel_rfl)) (fun _ _ _ h => h) (Or.inl ⟨by rfl, ?_⟩) ?_ ?_
                    rotate_left; · intro w'; go_simp; with_reducible rfl
                    rotate_left; · simp only [Act.put, zI, zZ, zS, i64_w, i32_w]; rfl
                    refine pure_ (i := 16) (N := some 141) (v := ?_) (a' := ?_) #[true, true, true, true, true, true, true, true, true, true, true, true, true, true, true, true, true, false] rfl rfl (any_of HT_.out (by kernel_rfl)) (fun _ _ _ h => h) (Or.inl ⟨by rfl, ?_⟩) ?_ ?_
                    rotate_left; · intro w'; go_simp; with_reducible rfl
                    rotate_left; · simp only [Act.put, zI, zZ, zS, i64_w, i32_w]; rfl
                    refine last_ (i := 17) (N := none) #[true, true, true, true, true, true, true, true, true, true, true, true, true, true, true, true, true, true] rfl rfl (one_of HT_.out (by kernel_rfl)) (by decide) (fun K hK => ?_)
                    refine skip_ (w1 := ?_) (by rfl) rfl ?_ ?_
                    rotate_left; · go_simp; rfl
                    refine hK.out _ _ ?_
                    clear hK K
                    refine done_ (done_of HT_.out (by kernel_rfl)) ?_
                    try go_wp2
                    (try simp only [← hl8_3])
                    first | go_roundg k3 | (simp only [← hji116]; go_roundg k3) | (simp only [← hji15]; go_roundg k3) | (simp only [← hji32]; go_roundg k3) | (simp only [← hji56]; go_roundg k3) | ((try (have e_ := HGZ11_2.out; injection e_ with e1_ e2_ e3_; subst e1_ e3_)); (try (have e_ := HGZ20_5.out; injection e_ with e1_ e2_ e3_; subst e1_ e3_)); go_roundg k3)
                    case measure => have := HK1.out; have := HK2.out; have := HK3.out; omega
                    case rel => exact ⟨(y140), (wrap64 (x122_3 + 1)), rs, (by first | exact H' | (rw [hji116]; exact H') | (rw [hji15]; exact H') | (rw [hji32]; exact H') | (rw [hji56]; exact H')), ⟨by have := HK1.out; have := HK2.out; have := HK3.out; omega⟩, ⟨by (try simp only [hl32_1]); (try simp only [hl8_3]); (with_reducible repeat (first | apply Kd.S_alloc | apply Kd.S_drewN | apply Kd.S_drew)); exact HQ84.out⟩, ⟨by (try simp only [hl32_1]); (try simp only [hl8_3]); (with_reducible repeat (first | refine blk_drewN ?_ _ | refine blk_drew ?_ | refine blk_alloc ?_ _)); refine blk_far ?_ (by have h_ := Kd.R_ne HL135_0.out BK101.out (by decide); intro e_; exact h_ (by rw [e_]; rfl)) _; (with_reducible repeat (first | refine blk_drewN ?_ _ | refine blk_drew ?_ | refine blk_alloc ?_ _)); exact BK101.out⟩, ⟨by (try simp only [hl32_1]); (try simp only [hl8_3]); (with_reducible repeat (first | refine blk_drewN ?_ _ | refine blk_drew ?_ | refine blk_alloc ?_ _)); refine blk_far ?_ (by have h_ := Kd.R_ne HL135_0.out BK122.out (by decide); intro e_; exact h_ (by rw [e_]; rfl)) _; (with_reducible repeat (first | refine blk_drewN ?_ _ | refine blk_drew ?_ | refine blk_alloc ?_ _)); exact BK122.out⟩, ⟨by repeat (first | (with_reducible first | exact HB.out | apply below_alloc | apply pw_below_drewN | apply below_drew1 | refine below_set ?_ GB82.out | refine below_set ?_ GE101.out | refine below_set ?_ GE122.out) | exact HB.out)⟩⟩
                  rw [if_pos c81] at H
                  exact absurd H (by simp)
            rw [if_pos c47] at H
            have c47b0 : decide (t127 < 0) = true := decide_eq_true c47
            clear c47
            simp only [Option.some.injEq, Prod.mk.injEq] at H
            obtain ⟨rfl, rfl⟩ := H
            go_wp2_with (first | ((with_reducible refine gate_dst (N := 15) rfl ?_); refine box_event ?hg (N := 15) ?hd (cs := #[.int .i64 0]) (t := 3) ?hr ?_; (case hd => rfl); (case hg => rfl); (case hr => first | (go_simp; done) | (go_simp; rfl)); intro gb122 hg w48 hbox hb; have n0_ := Aside0.mk (Kd.S_below (by (with_reducible repeat (first | apply Kd.S_alloc | apply Kd.S_drewN | apply Kd.S_drew)); exact HO_8.out) hb); have n1_ := Aside0.mk (blk_below (g := gb101) (o := .cells #[.int .i64 a0_0, .slice A0_1 l0_1.length c0_1] 28 (0, 0)) bk hb); have n2_ := Aside0.mk (below_step bl hb); have n3_ := Aside0.mk (hbox); have n4_ := Aside0.mk ((by rw [hg]; exact (below_size bl) : w.heap.size ≤ gb122)); have n5_ := Aside0.mk ((by rw [hg]; exact (below_size bl) : w.heap.size ≤ gb122)); have n6_ := Aside0.mk ((by rw [hg]; exact Nat.ne_of_lt (blk_lt (g := gb101) (o := .cells #[.int .i64 a0_0, .slice A0_1 l0_1.length c0_1] 28 (0, 0)) bk) : gb101 ≠ gb122)); have n7_ := Aside0.mk ((by rw [hg]; exact Nat.ne_of_gt (blk_lt (g := gb101) (o := .cells #[.int .i64 a0_0, .slice A0_1 l0_1.length c0_1] 28 (0, 0)) bk) : gb122 ≠ gb101)); clear HO_8; clear BK101; clear HB; have HO_8 := n0_; have BK101 := n1_; have HB := n2_; have BK122 := n3_; have GW122 := n4_; have GE122 := n5_; have NB101_122 := n6_; have NB122_101 := n7_; clear n0_ n1_ n2_ n3_ n4_ n5_ n6_ n7_; clear hb hbox hg; have hnb49 := NB122_101.out; have hnc49 := NB101_122.out; have hcz50_0 : w48.cell? ⟨gb122, 0, none⟩ = some (.int .i64 0) := (blk_cell BK122.out 0).trans rfl; have hfz50_0 := blk_frozen BK122.out 0) | ((with_reducible refine gate_store (t := 3) (p := 15) rfl ?_); refine store_event (t := 3) (p := 15) (v := ?vo_w51) (w1 := (w48.setCell ⟨gb122, 0, none⟩ (.int .i64 x80_2))) ?hg ?ho ?hn ?hr ?_; (case ho => rfl); (case hg => rfl); (case hn => rfl); (case hr => first | (go_simp; done) | (go_simp; rfl)); intro w51 hw; have n0_ : Aside0 (Kd.S (Kd.slice 2 (Kd.int .i64)) 34 w51 w.heap.size (fun _ => True) u8 x8_2) := ⟨(by rw [hw]; exact (by (with_reducible repeat (first | apply Kd.S_alloc | apply Kd.S_drewN | apply Kd.S_drew)); exact Kd.S_mono (Kd.S_far (p := ⟨gb122, 0, none⟩) (Kd.S_types HO_8.out BK122.out (by decide)) (fun _ hk => hk.2) (.int .i64 x80_2)) (fun _ hk => trivial)))⟩; have n1_ : Aside0 (w51.heap[gb101]? = some (.cells #[.int .i64 a0_0, .slice A0_1 l0_1.length c0_1] 28 (0, 0))) := ⟨(by rw [hw]; exact (by (with_reducible repeat (first | refine blk_drewN ?_ _ | refine blk_drew ?_ | refine blk_alloc ?_ _)); refine blk_far ?_ NB101_122.out _; (with_reducible repeat (first | refine blk_drewN ?_ _ | refine blk_drew ?_ | refine blk_alloc ?_ _)); exact BK101.out))⟩; have n2_ : Aside0 (w51.heap[gb122]? = some (.cells #[.int .i64 x80_2] 3 (0, 0))) := ⟨(by rw [hw]; exact (by (with_reducible repeat (first | refine blk_drewN ?_ _ | refine blk_drew ?_ | refine blk_alloc ?_ _)); refine blk_put (cs := #[.int .i64 0]) ?_ 0 _ rfl; (with_reducible repeat (first | refine blk_drewN ?_ _ | refine blk_drew ?_ | refine blk_alloc ?_ _)); exact BK122.out))⟩; have n3_ : Aside0 (Below w.heap.size w w51) := ⟨(by rw [hw]; exact bl)⟩; clear hw; clear HO_8; clear BK101; clear BK122; clear HB; have HO_8 := n0_; have BK101 := n1_; have BK122 := n2_; have HB := n3_; clear n0_ n1_ n2_ n3_; have hcz52_0 : w51.cell? ⟨gb122, 0, none⟩ = some (.int .i64 x80_2) := (blk_cell BK122.out 0).trans rfl; have hfz52_0 := blk_frozen BK122.out 0; obtain ⟨Ao54, co54, eo54⟩ := Kd.S_slice HO_8.out; subst eo54; have q53 : (x80_2 : Int) ≤ ((x8_2.length : Int) : Int) := oD; obtain ⟨i053, hi053, _, hsz53, _⟩ := info_parts info34; have hroom53 : x8_2.length ≤ co54 := (Kd.S_reads' HO_8.out).2.1; have hC53 : Kd.C (Kd.slice 2 (Kd.int .i64)) _ Ao54 x8_2.length x8_2 := (Kd.S_reads' HO_8.out).2.2; have q053 : (0 : Int) ≤ (x80_2 : Int) := oD; have hcut53 := cut_from (P := Try.prog) 22 34 .i64 Try.underlying22 hi053 1 hsz53 Ao54 x8_2.length co54 x80_2 q053 q53; have hr53 := Kd.C_drop (m := (x80_2 : Int).toNat) (c := co54) hC53 (by omega) hroom53; obtain ⟨A53, hA53⟩ : ∃ A1, A1 = (if co54 = (x80_2 : Int).toNat then Ao54 else (Ao54 : Option Addr).map (·.add ((x80_2 : Int).toNat * 1))) := ⟨_, rfl⟩; obtain ⟨c53, hc53⟩ : ∃ c1, c1 = co54 - (x80_2 : Int).toNat := ⟨_, rfl⟩; have hy53 : y123.length = x8_2.length - (x80_2 : Int).toNat := (by rw [Ny123.out, List.length_drop] <;> omega); rw [show (x8_2).drop (x80_2 : Int).toNat = y123 from Ny123.out.symm] at hr53; replace hr53 : Kd.C (Kd.slice 2 (Kd.int .i64)) _ A53 y123.length y123 := (by rw [hA53]; exact hr53); rw [← hy53, ← hA53, ← hc53] at hcut53; have HR126 := Aside0.mk hr53; have HC126 := Aside0.mk (show y123.length ≤ c53 from by rw [hy53, hc53]; exact Nat.sub_le_sub_right hroom53 _); clear hr53 hC53 hroom53 hi053 hsz53 hc53; have KY53 := Aside0.mk hy53; have KA53 := Aside0.mk hA53; clear hy53 hA53; have KL53 := Aside0.mk (show (x80_2 : Int).toNat ≤ x8_2.length from by omega); replace q53 := eq_true q53) | ((with_reducible refine gate_callee (f := 91) rfl ?_); refine goesL_ (some 87) rfl rfl Try.func91 (by kernel_rfl) rfl #[.slice A53 y123.length c53, .func (.func 92) #[] #[.pointer (some ⟨gb122, 0, none⟩)]] rfl gm ?_; (with_reducible refine (impl_Graph_resolvent_1.calls k2 _ _ y123 x80_2 t127 _ ?side1 ?side2 ?side3 A46.out).mono ?_); (case side1 => repeat (first | exact (by repeat (first | (with_reducible exact HR126.out) | (with_reducible refine Kd.C_alloc ?_ _) | (with_reducible refine Kd.C_drewN ?_ _) | (with_reducible refine Kd.C_drew ?_) | exact HR126.out)) | (with_reducible refine Kd.C_alloc ?_ _) | (with_reducible refine Kd.C_drewN ?_ _) | (with_reducible refine Kd.C_drew ?_))); (case side2 => exact HC126.out); (case side3 => exact by (with_reducible repeat (first | refine blk_drewN ?_ _ | refine blk_drew ?_ | refine blk_alloc ?_ _)); exact BK122.out); rintro e w55 ⟨rfl, hb⟩; refine ⟨_, rfl, ?_⟩; have n0_ := Aside0.mk (Kd.S_below (by (with_reducible repeat (first | apply Kd.S_alloc | apply Kd.S_drewN | apply Kd.S_drew)); exact HO_8.out) hb); have n1_ := Aside0.mk (blk_below (g := gb101) (o := .cells #[.int .i64 a0_0, .slice A0_1 l0_1.length c0_1] 28 (0, 0)) bk hb); have n2_ := Aside0.mk (blk_below (g := gb122) (o := .cells #[.int .i64 x80_2] 3 (0, 0)) bk hb); have n3_ := Aside0.mk (Kd.C_below (by repeat (first | (with_reducible exact HR126.out) | (with_reducible refine Kd.C_alloc ?_ _) | (with_reducible refine Kd.C_drewN ?_ _) | (with_reducible refine Kd.C_drew ?_) | exact HR126.out)) hb); have n4_ := Aside0.mk (below_step bl hb); clear HO_8; clear BK101; clear BK122; clear HR126; clear HB; have HO_8 := n0_; have BK101 := n1_; have BK122 := n2_; have HR126 := n3_; have HB := n4_; clear n0_ n1_ n2_ n3_ n4_; (try clear hb); (try clear hb2); (try clear hk); (try clear hi)))
            go_ret2
            exact ⟨_, by first | rfl | (simp [errW_none, errW_some] <;> rfl) | (simp [*, errW_none, errW_some] <;> rfl), by first | exact Kd.S_nil _ _ _ _ _ | exact Kd.N_nil _ _ _ _ _ | exact Kd.V_nil _ _ _ _ _ | exact Kd.Q_nil _ _ _ _ _ | exact Kd.R_nil _ _ _ _ _, bl⟩
      rw [if_pos c12] at H
      have c12b0 : decide (x34_1 < (t105.length : Int)) = true := decide_eq_true c12
      (try simp only [hl32_1] at c12b0)
      clear c12
      by_cases c13 : 0 ≤ x34_1
      case neg => rw [if_neg c13] at H; exact absurd H (by simp)
      rw [if_pos c13] at H
      have c13b0 : decide (0 ≤ x34_1) = true := decide_eq_true c13
      clear c13
      by_cases c14 : x34_1 < (x32_1.length : Int)
      case neg => rw [if_neg c14] at H; exact absurd H (by simp)
      rw [if_pos c14] at H
      have c14b0 : decide (x34_1 < (x32_1.length : Int)) = true := decide_eq_true c14
      (try simp only [hl32_1] at c14b0)
      clear c14
      obtain ⟨ji15, hji15⟩ : ∃ j_ : Int, (wrap64 (2 * (wrap64 (2 * (l0_1.length : Int))))) = j_ := ⟨_, rfl⟩
      replace H : (if 0 ≤ (ji15) then (if (ji15 : Int).toNat ≤ 35184372088832 then (impl_Graph_resolvent.l1 k1 a1 a2 x8_1 (wrap64 (2 * (l0_1.length : Int))) x34_1 (List.replicate (ji15 : Int).toNat 0) x32_1 (t105.length : Int) x34_1 ((rd_L1 x32_1 x34_1).length : Int) 0) else (none)) else (none)) = some (r1, r2) := by first | (rw [hji15] at H; exact H) | (simp only [hji15] at H ⊢; exact H)
      have hji15w : (IntKind.i64.wrap (2 * (wrap64 (2 * (l0_1.length : Int))))) = ji15 := (i64_w _).trans hji15
      by_cases c16 : 0 ≤ (ji15)
      case neg => rw [if_neg c16] at H; exact absurd H (by simp)
      rw [if_pos c16] at H
      have c16b0 := eq_true c16
      have c16b1 : decide (0 ≤ (ji15)) = true := decide_eq_true c16
      clear c16
      by_cases c17 : (ji15 : Int).toNat ≤ 35184372088832
      case neg => rw [if_neg c17] at H; exact absurd H (by simp)
      rw [if_pos c17] at H
      have c17b0 := eq_true c17
      have c17b1 : decide ((ji15 : Int).toNat ≤ 35184372088832) = true := decide_eq_true c17
      clear c17
      obtain ⟨y109, hy109⟩ : ∃ y_ : List Int, y_ = (List.replicate (ji15 : Int).toNat 0) := ⟨_, rfl⟩
      replace H : (impl_Graph_resolvent.l1 k1 a1 a2 x8_1 (wrap64 (2 * (l0_1.length : Int))) x34_1 y109 x32_1 (t105.length : Int) x34_1 ((rd_L1 x32_1 x34_1).length : Int) 0) = some (r1, r2) := by first | (rw [hy109]; with_reducible exact H) | (have H2_ := (Option.bind_some _ _).symm.trans H; rw [hy109]; with_reducible exact H2_) | (have H2_ := (Option.bind_some _ _).symm.trans H; with_reducible exact H2_) | with_reducible exact H | (rw [hy109]; exact H) | exact H
      have Ny109 := Aside0.mk hy109
      clear hy109
      have H' := Aside0.mk H
      clear H
      have p108 : 0 ≤ (x34_1 : Int) := oD
      have q108 : x34_1 < (x32_1.length : Int) := oD
      obtain ⟨ad108, A108_0, c108_0, e108, hx108_0, hl108_0, hi108_0⟩ := at_L1 (Kd.S_reads' HO_32.out).2.2 x34_1 p108 q108
      cases e108
      obtain ⟨ce108, hce108, hMe108, hcc108⟩ := Kd.S_get HO_32.out [] x34_1 p108 (by first | exact q108 | exact oD | (have e_ := (Kd.S_reads' HO_32.out).1; omega))
      obtain ⟨ve108_0, rfl, ge108_0⟩ := hMe108
      have hv108_0 := hcc108 0 _ rfl
      rw [Nat.add_zero, show ((Kd.slice 2 (Kd.int .i64))).sz = 1 from rfl, Nat.mul_one] at hv108_0
      replace hv108_0 := Option.some.inj (hv108_0.symm.trans hx108_0)
      rw [hv108_0] at ge108_0
      have HL108_0 := Aside0.mk (show Kd.R (Kd.int .i64) 2 _ _ _ _ (rd_L1 x32_1 x34_1) from ge108_0)
      clear hv108_0 ge108_0
      have HX108_0 := Aside0.mk hx108_0
      clear hcc108 hce108
      have HR108_0 := Aside0.mk hi108_0
      have HC108_0 := Aside0.mk hl108_0
      clear hi108_0 hl108_0
      replace p108 := eq_true p108
      replace q108 := eq_true q108
      go_wp2_with (first | ((with_reducible refine gate_dst (N := 41) rfl ?_); refine Kd.R_make (Kd.int .i64) _ 2 rfl (N := 41) rfl 34 _ _ rfl ji15 rfl rfl Try.underlying34 (.int .i64 0) 8 info2 rfl (by decide) (by omega) 0 (ok := fun _ => True) (okp := fun _ => True) rfl (fun _ hk => hk) trivial oD (Nat.le_trans (Nat.mul_le_mul_right _ (oD : ji15.toNat ≤ 35184372088832)) (by omega)) (Below.refl _ _) (Nat.le_refl _) ?_; intro v110 w18 ho19 hb hg_ hnew_; clear hg_ hnew_; (first | rw [← Ny109.out] at ho19 | (simp only [Int.reduceToNat] at ho19; rw [← Ny109.out] at ho19)); have n0_ := Aside0.mk (Kd.S_elder' (by (with_reducible repeat (first | apply Kd.S_alloc | apply Kd.S_drewN | apply Kd.S_drew)); exact HO_8.out) (Kd.R_base ho19) hb); have n1_ := Aside0.mk (Kd.S_elder' (by (with_reducible repeat (first | apply Kd.S_alloc | apply Kd.S_drewN | apply Kd.S_drew)); exact HO_32.out) (Kd.R_base ho19) hb); have n2_ := Aside0.mk (Kd.R_elder' (by (with_reducible repeat (first | apply Kd.R_alloc | apply Kd.R_drewN | apply Kd.R_drew)); exact HL108_0.out) (Kd.R_base ho19) hb); have n3_ := Aside0.mk (Kd.R_lower (Kd.R_new' ho19 (Kd.R_lt (by (with_reducible repeat (first | apply Kd.R_alloc | apply Kd.R_drewN | apply Kd.R_drew)); exact HL108_0.out))) (below_size bl)); have n4_ := Aside0.mk (blk_below (g := gb101) (o := .cells #[.int .i64 a0_0, .slice A0_1 l0_1.length c0_1] 28 (0, 0)) bk hb); have n5_ := Aside0.mk (Kd.C_below (by repeat (first | (with_reducible exact HR108_0.out) | (with_reducible refine Kd.C_alloc ?_ _) | (with_reducible refine Kd.C_drewN ?_ _) | (with_reducible refine Kd.C_drew ?_) | exact HR108_0.out)) hb); have n6_ := Aside0.mk (pw_cell_below hb HX108_0.out); have n7_ := Aside0.mk (below_step bl hb); clear HO_8; clear HO_32; clear HL108_0; clear BK101; clear HR108_0; clear HX108_0; clear HB; have HO_8 := n0_; have HO_32 := n1_; have HL108_0 := n2_; have HO111 := n3_; have BK101 := n4_; have HR108_0 := n5_; have HX108_0 := n6_; have HB := n7_; clear n0_ n1_ n2_ n3_ n4_ n5_ n6_ n7_; clear hb ho19))
      generalize hgz11_2 : (.slice A108_0 (rd_L1 x32_1 x34_1).length c108_0 : Value) = vz11_2
      have HGZ11_2 := Aside0.mk hgz11_2
      clear hgz11_2
      go_loopg [44] k1 (fun kq v44 w' => ∃ (x12_2 : List Int) (x44_2 : Int), v44 = .int .i64 x44_2 ∧ Aside0 (impl_Graph_resolvent.l1 kq a1 a2 x8_1 (wrap64 (2 * (l0_1.length : Int))) x34_1 x12_2 x32_1 (t105.length : Int) x34_1 ((rd_L1 x32_1 x34_1).length : Int) x44_2 = some (r1, r2)) ∧ Aside0 (kq ≤ k1) ∧ Aside0 (HdrOf w' (.slice (some ad108) x32_1.length co11) x34_1 vz11_2) ∧ Aside0 (Kd.S (Kd.slice 2 (Kd.int .i64)) 34 w' w.heap.size (fun k_ => some k_ ≠ (v110 : Value).ownBlock ∧ some k_ ≠ ((.slice (some ad108) x32_1.length co11) : Value).ownBlock) u8 x8_1) ∧ Aside0 (Kd.R (Kd.int .i64) 2 w' w.heap.size (fun _ => True) v110 x12_2) ∧ Aside0 (Kd.S (Kd.slice 2 (Kd.int .i64)) 34 w' w.heap.size (fun k_ => some k_ ≠ (u8 : Value).ownBlock ∧ some k_ ≠ (v110 : Value).ownBlock) (.slice (some ad108) x32_1.length co11) x32_1) ∧ Aside0 (w'.heap[gb101]? = some (.cells #[.int .i64 a0_0, (.slice A0_1 l0_1.length c0_1)] 28 (0, 0))) ∧ Aside0 (Below w.heap.size w w'))
      case atStart => exact ⟨(y109), (0), rs, H', ⟨Nat.le_refl _⟩, ⟨by (with_reducible repeat (first | apply HdrOf.alloc | apply HdrOf.drewN | apply HdrOf.drew)); first | exact ⟨_, _, _, rfl, (by first | exact of_eq_true p108 | exact hdr_lo HH_11.out | omega), (by first | exact of_eq_true q108 | exact hdr_hi HH_11.out | (have h_ := of_eq_true q108; omega) | (have h_ := hdr_hi HH_11.out; omega)), HX108_0.out⟩ | (rw [← HGZ11_2.out]; exact ⟨_, _, _, rfl, (by first | exact of_eq_true p108 | exact hdr_lo HH_11.out | omega), (by first | exact of_eq_true q108 | exact hdr_hi HH_11.out | (have h_ := of_eq_true q108; omega) | (have h_ := hdr_hi HH_11.out; omega)), HX108_0.out⟩)⟩, ⟨by (try simp only [hl32_1]); (with_reducible repeat (first | apply Kd.S_alloc | apply Kd.S_drewN | apply Kd.S_drew)); exact Kd.S_mono HO_8.out (fun _ hk => ⟨hk.2, hk.1⟩)⟩, ⟨by (try simp only [hl32_1]); (with_reducible repeat (first | apply Kd.R_alloc | apply Kd.R_drewN | apply Kd.R_drew)); exact Kd.R_mono HO111.out (fun _ hk => trivial)⟩, ⟨by (try simp only [hl32_1]); (with_reducible repeat (first | apply Kd.S_alloc | apply Kd.S_drewN | apply Kd.S_drew)); exact HO_32.out⟩, ⟨by (try simp only [hl32_1]); (with_reducible repeat (first | refine blk_drewN ?_ _ | refine blk_drew ?_ | refine blk_alloc ?_ _)); exact BK101.out⟩, ⟨bl⟩⟩
      case round =>
        clear H'
        (try clear c1); (try clear p1); (try clear q1); (try clear hx1); (try clear p2); (try clear c4); (try clear p6); (try clear c8); (try clear c10); (try clear p10); (try clear q10); (try clear hx10); (try clear c12); (try clear c12b0); (try clear c13); (try clear c13b0); (try clear c14); (try clear c14b0); (try clear c16); (try clear c16b0); (try clear c16b1); (try clear c17); (try clear c17b0); (try clear c17b1); (try clear hcz9_0); (try clear hcz9_1); (try clear hfz9_0); (try clear hfz9_1); (try clear hx108_0); (try clear p108); (try clear p2); (try clear p6); (try clear q108)
        obtain ⟨x12_2, x44_2, rfl, HA, HK2, HH_11, HO_8, HO_12, HO_32, BK101, HB⟩ := hrel
        cases gk with
        | zero => exact absurd HA.out (by simp [impl_Graph_resolvent.l1])
        | succ k2 =>
          have H := HA.out
          clear HA
          simp only [impl_Graph_resolvent.l1] at H
          by_cases c20 : x44_2 < ((rd_L1 x32_1 x34_1).length : Int)
          case neg =>
            rw [if_neg c20] at H
            have c20b0 : decide (x44_2 < ((rd_L1 x32_1 x34_1).length : Int)) = false := decide_eq_false c20
            (try simp only [hl32_1] at c20b0)
            clear c20
            by_cases c28 : 0 ≤ x34_1
            case neg => rw [if_neg c28] at H; exact absurd H (by simp)
            rw [if_pos c28] at H
            have c28b0 : decide (0 ≤ x34_1) = true := decide_eq_true c28
            clear c28
            by_cases c29 : x34_1 < (x12_2.length : Int)
            case neg => rw [if_neg c29] at H; exact absurd H (by simp)
            rw [if_pos c29] at H
            have c29b0 : decide (x34_1 < (x12_2.length : Int)) = true := decide_eq_true c29
            (try simp only [hl32_1] at c29b0)
            clear c29
            by_cases c30 : a1 = 0
            case neg =>
              rw [if_neg c30] at H
              have c30b0 : (a1 == 0) = false := beq_eq_false_iff_ne.mpr c30
              have c30b1 : (a1 != 0) = true := bne_iff_ne.mpr c30
              obtain ⟨y117, hy117⟩ : ∃ y_ : List Int, y_ = (x12_2.set (x34_1 : Int).toNat (Int.tmod (wrap64 ((rd x12_2 x34_1) + 1)) a1)) := ⟨_, rfl⟩
              replace H : (if 0 ≤ (wrap64 ((wrap64 (2 * (l0_1.length : Int))) + x34_1)) then (if (wrap64 ((wrap64 (2 * (l0_1.length : Int))) + x34_1)) < (x12_2.length : Int) then (if x8_1.length < 5864062014805 then (impl_Graph_resolvent.l0 k2 a1 a2 (x8_1 ++ [(y117.set ((wrap64 ((wrap64 (2 * (l0_1.length : Int))) + x34_1)) : Int).toNat 1)]) (wrap64 (2 * (l0_1.length : Int))) x32_1 (t105.length : Int) (wrap64 (x34_1 + 1))) else (none)) else (none)) else (none)) = some (r1, r2) := by first | (rw [hy117]; with_reducible exact H) | (have H2_ := (Option.bind_some _ _).symm.trans H; rw [hy117]; with_reducible exact H2_) | (have H2_ := (Option.bind_some _ _).symm.trans H; with_reducible exact H2_) | with_reducible exact H | (rw [hy117]; exact H) | exact H
              have Ny117 := Aside0.mk hy117
              clear hy117
              obtain ⟨ji32, hji32⟩ : ∃ j_ : Int, (wrap64 ((wrap64 (2 * (l0_1.length : Int))) + x34_1)) = j_ := ⟨_, rfl⟩
              replace H : (if 0 ≤ (ji32) then (if (ji32) < (x12_2.length : Int) then (if x8_1.length < 5864062014805 then (impl_Graph_resolvent.l0 k2 a1 a2 (x8_1 ++ [(y117.set ((ji32) : Int).toNat 1)]) (wrap64 (2 * (l0_1.length : Int))) x32_1 (t105.length : Int) (wrap64 (x34_1 + 1))) else (none)) else (none)) else (none)) = some (r1, r2) := by first | (rw [hji32] at H; exact H) | (simp only [hji32] at H ⊢; exact H)
              have hji32w : (IntKind.i64.wrap ((wrap64 (2 * (l0_1.length : Int))) + x34_1)) = ji32 := (i64_w _).trans hji32
              by_cases c33 : 0 ≤ (ji32)
              case neg => rw [if_neg c33] at H; exact absurd H (by simp)
              rw [if_pos c33] at H
              have c33b0 : decide (0 ≤ (ji32)) = true := decide_eq_true c33
              clear c33
              by_cases c34 : (ji32) < (x12_2.length : Int)
              case neg => rw [if_neg c34] at H; exact absurd H (by simp)
              rw [if_pos c34] at H
              have c34b0 : decide ((ji32) < (x12_2.length : Int)) = true := decide_eq_true c34
              (try simp only [hl32_1] at c34b0)
              clear c34
              obtain ⟨y118, hy118⟩ : ∃ y_ : List Int, y_ = (y117.set ((ji32) : Int).toNat 1) := ⟨_, rfl⟩
              replace H : (if x8_1.length < 5864062014805 then (impl_Graph_resolvent.l0 k2 a1 a2 (x8_1 ++ [y118]) (wrap64 (2 * (l0_1.length : Int))) x32_1 (t105.length : Int) (wrap64 (x34_1 + 1))) else (none)) = some (r1, r2) := by first | (rw [hy118]; with_reducible exact H) | (have H2_ := (Option.bind_some _ _).symm.trans H; rw [hy118]; with_reducible exact H2_) | (have H2_ := (Option.bind_some _ _).symm.trans H; with_reducible exact H2_) | with_reducible exact H | (rw [hy118]; exact H) | exact H
              have Ny118 := Aside0.mk hy118
              clear hy118
              by_cases c36 : x8_1.length < 5864062014805
              case neg => rw [if_neg c36] at H; exact absurd H (by simp)
              rw [if_pos c36] at H
              have LMc36 := Aside0.mk c36
              clear c36
              obtain ⟨y119, hy119⟩ : ∃ y_ : List (List Int), y_ = (x8_1 ++ [y118]) := ⟨_, rfl⟩
              replace H : (impl_Graph_resolvent.l0 k2 a1 a2 y119 (wrap64 (2 * (l0_1.length : Int))) x32_1 (t105.length : Int) (wrap64 (x34_1 + 1))) = some (r1, r2) := by first | (rw [hy119]; with_reducible exact H) | (have H2_ := (Option.bind_some _ _).symm.trans H; rw [hy119]; with_reducible exact H2_) | (have H2_ := (Option.bind_some _ _).symm.trans H; with_reducible exact H2_) | with_reducible exact H | (rw [hy119]; exact H) | exact H
              have Ny119 := Aside0.mk hy119
              clear hy119
              have H' := Aside0.mk H
              clear H
              have hza112 : decide (0 ≤ x34_1) = true := decide_eq_true (hdr_lo HH_11.out)
              have hzb112 : decide (x34_1 < (x32_1.length : Int)) = true := decide_eq_true (by have h_ := hdr_hi HH_11.out; have e_ := (Kd.S_reads' HO_32.out).1; omega)
              have p112 : 0 ≤ (x34_1 : Int) := oD
              have q112 : x34_1 < (x32_1.length : Int) := oD
              obtain ⟨ad112, A112_0, c112_0, e112, hx112_0, hl112_0, hi112_0⟩ := at_L1 (Kd.S_reads' HO_32.out).2.2 x34_1 p112 q112
              obtain rfl : ad108 = ad112 := (by injection e112)
              obtain ⟨ce112, hce112, hMe112, hcc112⟩ := Kd.S_get HO_32.out [] x34_1 p112 (by first | exact q112 | exact oD | (have e_ := (Kd.S_reads' HO_32.out).1; omega))
              obtain ⟨ve112_0, rfl, ge112_0⟩ := hMe112
              have hv112_0 := hcc112 0 _ rfl
              rw [Nat.add_zero, show ((Kd.slice 2 (Kd.int .i64))).sz = 1 from rfl, Nat.mul_one] at hv112_0
              replace hv112_0 := Option.some.inj (hv112_0.symm.trans hx112_0)
              rw [hv112_0] at ge112_0
              have HL112_0 := Aside0.mk (show Kd.R (Kd.int .i64) 2 _ _ _ _ (rd_L1 x32_1 x34_1) from ge112_0)
              clear hv112_0 ge112_0
              have HX112_0 := Aside0.mk hx112_0
              clear hcc112 hce112
              have HR112_0 := Aside0.mk hi112_0
              have HC112_0 := Aside0.mk hl112_0
              clear hi112_0 hl112_0
              replace p112 := eq_true p112
              replace q112 := eq_true q112
              obtain rfl := hdr_eq HH_11.out HX112_0.out
              obtain ⟨Ao37, co37, eo37⟩ := Kd.R_slice HO_12.out
              subst eo37
              have p116 : 0 ≤ (x34_1 : Int) := oD
              have q116 : x34_1 < (x12_2.length : Int) := oD
              obtain ⟨ad116, e116, hx116_0⟩ := Kd.at_int (Kd.R_reads' HO_12.out).2.2 x34_1 p116 q116
              cases e116
              replace p116 := eq_true p116
              replace q116 := eq_true q116
              have p31 : 0 ≤ (x34_1 : Int) := oD
              have q31 : (x34_1 : Int) < ((x12_2.length : Int) : Int) := oD
              obtain ⟨go31, co31, eo31, gb31, gl31, cl31, HG31⟩ := Kd.R_form HO_12.out (by omega)
              (first | cases eo31 | (injection eo31 with ea_ en_ ec_; (first | subst ea_ | (injection ea_ with ea_; subst ea_)); subst ec_; clear en_))
              have GB31 := Aside0.mk gb31
              have GG31 := Aside0.mk HG31
              clear gb31 gl31 HG31
              (first | simp only [add_plain] at hx116_0 | skip)
              obtain ⟨hx31_0, hf31_0⟩ := Kd.R_celln 0 HO_12.out (x34_1 : Int) p31 q31
              replace p31 := eq_true p31
              replace q31 := eq_true q31
              have HP38 := Kd.R_putg HO_12.out (x34_1 : Int) (Int.tmod (wrap64 ((rd x12_2 x34_1) + 1)) a1)
              go_wp2_with (first | ((with_reducible refine gate_store (t := 2) (p := 68) rfl ?_); refine store_event (t := 2) (p := 68) (v := ?vo_w39) (w1 := (wr.setCell ⟨go31, (x34_1 : Int).toNat, none⟩ (.int .i64 (Int.tmod (wrap64 ((rd x12_2 x34_1) + 1)) a1)))) ?hg ?ho ?hn ?hr ?_; (case ho => rfl); (case hg => rfl); (case hn => rfl); (case hr => first | (go_simp; done) | (go_simp; rfl)); intro w39 hw; have hg : wr.grownBy w39 (some go31) := (by rw [hw]; exact HP38.2); have hp_ : Kd.R (Kd.int .i64) 2 w39 w.heap.size (fun _ => True) (.slice (some ⟨go31, 0, none⟩) x12_2.length co37) y117 := (by rw [hw, Ny117.out]; exact HP38.1); clear HP38; have n0_ := Aside0.mk (Kd.S_after (v := (.slice (some ⟨go31, 0, none⟩) x12_2.length co37)) (v1 := (.slice (some ⟨go31, 0, none⟩) x12_2.length co37)) (ok := (fun k_ => some k_ ≠ (.slice (some ad108) x32_1.length co11 : Value).ownBlock)) (by (with_reducible repeat (first | apply Kd.S_alloc | apply Kd.S_drewN | apply Kd.S_drew)); exact Kd.S_mono HO_8.out (fun _ hk => ⟨hk.2, hk.1⟩)) hg (.inl rfl)); have n1_ := Aside0.mk (hp_); have n2_ := Aside0.mk (Kd.S_after (v := (.slice (some ⟨go31, 0, none⟩) x12_2.length co37)) (v1 := (.slice (some ⟨go31, 0, none⟩) x12_2.length co37)) (ok := (fun k_ => some k_ ≠ (u8 : Value).ownBlock)) (by (with_reducible repeat (first | apply Kd.S_alloc | apply Kd.S_drewN | apply Kd.S_drew)); exact HO_32.out) hg (.inl rfl)); have n3_ := Aside0.mk (blk_grown (g := gb101) (o := .cells #[.int .i64 a0_0, .slice A0_1 l0_1.length c0_1] 28 (0, 0)) bk hg (Kd.R_ne HO_12.out BK101.out (by decide))); have n4_ := Aside0.mk (Kd.R_after (v := (.slice (some ⟨go31, 0, none⟩) x12_2.length co37)) (v1 := (.slice (some ⟨go31, 0, none⟩) x12_2.length co37)) (ok := (fun k_ => some k_ ≠ (u8 : Value).ownBlock ∧ some k_ ≠ (.slice (some ad108) x32_1.length co11 : Value).ownBlock)) (by (with_reducible repeat (first | apply Kd.R_alloc | apply Kd.R_drewN | apply Kd.R_drew)); exact Kd.R_mono HL112_0.out (fun _ hk => ⟨⟨hk.1.1, hk.2⟩, hk.1.2⟩)) hg (.inl rfl)); have n5_ := Aside0.mk (cell_grown hg HX112_0.out (cell_ne_ty (v := (.slice (some ⟨go31, 0, none⟩) x12_2.length co37)) (Kd.S_typed HO_32.out) (Kd.R_typed HO_12.out) (by decide))); have n6_ := Aside0.mk ((by rw [hw]; exact below_set (HB.out) GB31.out : Below w.heap.size w w39)); clear HO_8; clear HO_12; clear HO_32; clear BK101; clear HL112_0; clear HX112_0; clear HB; have HO_8 := n0_; have HO_12 := n1_; have HO_32 := n2_; have BK101 := n3_; have HL112_0 := n4_; have HX112_0 := n5_; have HB := n6_; clear n0_ n1_ n2_ n3_ n4_ n5_ n6_; clear hg hw hp_; have p35 : 0 ≤ ((ji32) : Int) := oD; have q35 : ((ji32) : Int) < ((x12_2.length : Int) : Int) := oD; obtain ⟨hx35_0, hf35_0⟩ := Kd.R_celln 0 HO_12.out ((ji32) : Int) p35 q35; replace p35 := eq_true p35; replace q35 := eq_true q35; obtain ⟨hy40_, hz40_⟩ := Kd.R_celln 0 HO_12.out ((ji32) : Int) oD oD; have HP40 := Kd.R_putg HO_12.out ((ji32) : Int) 1) | ((with_reducible refine gate_store (t := 2) (p := 73) rfl ?_); refine store_event (t := 2) (p := 73) (v := ?vo_w41) (w1 := (w39.setCell ⟨go31, ((ji32) : Int).toNat, none⟩ (.int .i64 1))) ?hg ?ho ?hn ?hr ?_; (case ho => rfl); (case hg => rfl); (case hn => rfl); (case hr => first | (go_simp; done) | (go_simp; rfl)); intro w41 hw; have hg : w39.grownBy w41 (some go31) := (by rw [hw]; exact HP40.2); have hp_ : Kd.R (Kd.int .i64) 2 w41 w.heap.size (fun _ => True) (.slice (some ⟨go31, 0, none⟩) x12_2.length co37) y118 := (by rw [hw, Ny118.out]; exact HP40.1); clear HP40; have n0_ := Aside0.mk (Kd.S_after (v := (.slice (some ⟨go31, 0, none⟩) x12_2.length co37)) (v1 := (.slice (some ⟨go31, 0, none⟩) x12_2.length co37)) (ok := (fun k_ => some k_ ≠ (.slice (some ad108) x32_1.length co11 : Value).ownBlock)) (by (with_reducible repeat (first | apply Kd.S_alloc | apply Kd.S_drewN | apply Kd.S_drew)); exact HO_8.out) hg (.inl rfl)); have n1_ := Aside0.mk (hp_); have n2_ := Aside0.mk (Kd.S_after (v := (.slice (some ⟨go31, 0, none⟩) x12_2.length co37)) (v1 := (.slice (some ⟨go31, 0, none⟩) x12_2.length co37)) (ok := (fun k_ => some k_ ≠ (u8 : Value).ownBlock)) (by (with_reducible repeat (first | apply Kd.S_alloc | apply Kd.S_drewN | apply Kd.S_drew)); exact HO_32.out) hg (.inl rfl)); have n3_ := Aside0.mk (blk_grown (g := gb101) (o := .cells #[.int .i64 a0_0, .slice A0_1 l0_1.length c0_1] 28 (0, 0)) bk hg (Kd.R_ne HO_12.out BK101.out (by decide))); have n4_ := Aside0.mk (Kd.R_after (v := (.slice (some ⟨go31, 0, none⟩) x12_2.length co37)) (v1 := (.slice (some ⟨go31, 0, none⟩) x12_2.length co37)) (ok := (fun k_ => some k_ ≠ (u8 : Value).ownBlock ∧ some k_ ≠ (.slice (some ad108) x32_1.length co11 : Value).ownBlock)) (by (with_reducible repeat (first | apply Kd.R_alloc | apply Kd.R_drewN | apply Kd.R_drew)); exact HL112_0.out) hg (.inl rfl)); have n5_ := Aside0.mk (cell_grown hg HX112_0.out (cell_ne_ty (v := (.slice (some ⟨go31, 0, none⟩) x12_2.length co37)) (Kd.S_typed HO_32.out) (Kd.R_typed HO_12.out) (by decide))); have n6_ := Aside0.mk ((by rw [hw]; exact below_set (HB.out) GB31.out : Below w.heap.size w w41)); clear HO_8; clear HO_12; clear HO_32; clear BK101; clear HL112_0; clear HX112_0; clear HB; have HO_8 := n0_; have HO_12 := n1_; have HO_32 := n2_; have BK101 := n3_; have HL112_0 := n4_; have HX112_0 := n5_; have HB := n6_; clear n0_ n1_ n2_ n3_ n4_ n5_ n6_; clear hg hw hp_) | ((with_reducible refine gate_builtin (b := .append) (xs := #[.tmp 74, .tmp 76]) rfl ?_); at_builtin; refine Kd.S_append (Kd.slice 2 (Kd.int .i64)) (w0 := w) w.heap.size rfl (.tmp 74) (.tmp 76) 22 34 (.slice none 0 0) 24 rfl Try.underlying22 info34 rfl (by decide) (by omega) u8 x8_1 y118 [.slice (some ⟨go31, 0, none⟩) x12_2.length co37] (fun k_ => some k_ ≠ (.slice (some ad108) x32_1.length co11 : Value).ownBlock) (fun k_ => some k_ = (.slice (some ⟨go31, 0, none⟩) x12_2.length co37 : Value).ownBlock) rfl rfl ?aP (fun k_ hk_ => ((Kd.R_mono (ok' := fun k_ => ((fun k_ => some k_ ≠ (.slice (some ad108) x32_1.length co11 : Value).ownBlock)) k_ ∧ some k_ ≠ (u8 : Value).ownBlock) (Kd.R_apart' (Kd.R_apart' (HO_12.out) (Kd.S_typed HO_32.out) (by decide)) (Kd.S_typed HO_8.out) (by decide)) (fun k_ hk => ⟨hk.1.2, hk.2⟩))).1 k_ hk_.symm) ?aF ?aO ?aB ?aS ?aL ?_; (case aP => exact Kd.M_row (Kd.R_mono (Kd.R_tight rfl (Kd.R_mono (ok' := fun k_ => ((fun k_ => some k_ ≠ (.slice (some ad108) x32_1.length co11 : Value).ownBlock)) k_ ∧ some k_ ≠ (u8 : Value).ownBlock) (Kd.R_apart' (Kd.R_apart' (HO_12.out) (Kd.S_typed HO_32.out) (by decide)) (Kd.S_typed HO_8.out) (by decide)) (fun k_ hk => ⟨hk.1.2, hk.2⟩))) (fun _ h_ => h_))); (case aB => exact bl); (case aF => exact (fun k_ hk => Kd.fresh' (Kd.S_lt (by (with_reducible repeat (first | apply Kd.S_alloc | apply Kd.S_drewN | apply Kd.S_drew)); exact HO_32.out)) k_ hk)); (case aO => exact (by (with_reducible repeat (first | apply Kd.S_alloc | apply Kd.S_drewN | apply Kd.S_drew)); exact Kd.S_mono HO_8.out (fun k_ hk => ⟨hk.1, fun e_ => hk.2 e_⟩))); (case aS => exact (below_size bl)); (case aL => have := LMc36.out; omega); intro v120 w42 ho hb hg hat; rw [← Ny119.out] at ho; have n0_ := Aside0.mk (Kd.S_after (ok := (fun k_ => some k_ ≠ (.slice (some ⟨go31, 0, none⟩) x12_2.length co37 : Value).ownBlock)) (by (with_reducible repeat (first | apply Kd.S_alloc | apply Kd.S_drewN | apply Kd.S_drew)); exact Kd.S_mono HO_32.out (fun _ hk => ⟨hk.2, hk.1⟩)) hg hat); have n1_ := Aside0.mk (blk_grown (g := gb101) (o := .cells #[.int .i64 a0_0, .slice A0_1 l0_1.length c0_1] 28 (0, 0)) bk hg (Kd.S_ne HO_8.out BK101.out (by decide))); have n2_ := Aside0.mk (Kd.R_after (ok := (fun k_ => some k_ ≠ (.slice (some ⟨go31, 0, none⟩) x12_2.length co37 : Value).ownBlock ∧ some k_ ≠ (.slice (some ad108) x32_1.length co11 : Value).ownBlock)) (by (with_reducible repeat (first | apply Kd.R_alloc | apply Kd.R_drewN | apply Kd.R_drew)); exact Kd.R_mono HL112_0.out (fun _ hk => ⟨⟨hk.2, hk.1.2⟩, hk.1.1⟩)) hg hat); have n3_ := Aside0.mk (hb); have n4_ := Aside0.mk (ho); clear HO_32; clear BK101; clear HL112_0; clear HB; clear HO_8; clear HO_12; have HO_32 := n0_; have BK101 := n1_; have HL112_0 := n2_; have HB := n3_; have HO121 := n4_; clear n0_ n1_ n2_ n3_ n4_; clear ho hb hg hat))
              (try simp only [← hl32_1])
              first | go_roundg k2 | (simp only [← hji116]; go_roundg k2) | (simp only [← hji15]; go_roundg k2) | (simp only [← hji32]; go_roundg k2) | (simp only [← hji56]; go_roundg k2) | ((try (have e_ := HGZ11_2.out; injection e_ with e1_ e2_ e3_; subst e1_ e3_)); (try (have e_ := HGZ20_5.out; injection e_ with e1_ e2_ e3_; subst e1_ e3_)); go_roundg k2)
              case measure => have := HK1.out; have := HK2.out; omega
              case rel => exact ⟨(y119), (x32_1), (wrap64 (x34_1 + 1)), rs, (by first | exact H' | (rw [hji116]; exact H') | (rw [hji15]; exact H') | (rw [hji32]; exact H') | (rw [hji56]; exact H')), ⟨by have := HK1.out; have := HK2.out; omega⟩, ⟨by (try simp only [hl32_1]); (with_reducible repeat (first | apply Kd.S_alloc | apply Kd.S_drewN | apply Kd.S_drew)); exact HO121.out⟩, ⟨by (try simp only [hl32_1]); (with_reducible repeat (first | apply Kd.S_alloc | apply Kd.S_drewN | apply Kd.S_drew)); exact Kd.S_mono HO_32.out (fun _ hk => hk.2)⟩, ⟨by (try simp only [hl32_1]); (with_reducible repeat (first | refine blk_drewN ?_ _ | refine blk_drew ?_ | refine blk_alloc ?_ _)); exact BK101.out⟩, ⟨bl⟩⟩
            rw [if_pos c30] at H
            exact absurd H (by simp)
          rw [if_pos c20] at H
          have c20b0 : decide (x44_2 < ((rd_L1 x32_1 x34_1).length : Int)) = true := decide_eq_true c20
          (try simp only [hl32_1] at c20b0)
          clear c20
          by_cases c21 : 0 ≤ x44_2
          case neg => rw [if_neg c21] at H; exact absurd H (by simp)
          rw [if_pos c21] at H
          have c21b0 : decide (0 ≤ x44_2) = true := decide_eq_true c21
          clear c21
          by_cases c22 : x44_2 < ((rd_L1 x32_1 x34_1).length : Int)
          case neg => rw [if_neg c22] at H; exact absurd H (by simp)
          rw [if_pos c22] at H
          have c22b0 : decide (x44_2 < ((rd_L1 x32_1 x34_1).length : Int)) = true := decide_eq_true c22
          (try simp only [hl32_1] at c22b0)
          clear c22
          replace H := Option.bind_eq_some_iff.mp H
          obtain ⟨t114, A230, H⟩ := H
          replace H : (if x44_2 < (x12_2.length : Int) then (impl_Graph_resolvent.l1 k2 a1 a2 x8_1 (wrap64 (2 * (l0_1.length : Int))) x34_1 (x12_2.set (x44_2 : Int).toNat t114) x32_1 (t105.length : Int) x34_1 ((rd_L1 x32_1 x34_1).length : Int) (wrap64 (x44_2 + 1))) else (none)) = some (r1, r2) := H
          have A23 := Aside0.mk A230
          clear A230
          by_cases c24 : x44_2 < (x12_2.length : Int)
          case neg => rw [if_neg c24] at H; exact absurd H (by simp)
          rw [if_pos c24] at H
          have c24b0 : decide (x44_2 < (x12_2.length : Int)) = true := decide_eq_true c24
          (try simp only [hl32_1] at c24b0)
          clear c24
          obtain ⟨y115, hy115⟩ : ∃ y_ : List Int, y_ = (x12_2.set (x44_2 : Int).toNat t114) := ⟨_, rfl⟩
          replace H : (impl_Graph_resolvent.l1 k2 a1 a2 x8_1 (wrap64 (2 * (l0_1.length : Int))) x34_1 y115 x32_1 (t105.length : Int) x34_1 ((rd_L1 x32_1 x34_1).length : Int) (wrap64 (x44_2 + 1))) = some (r1, r2) := by first | (rw [hy115]; with_reducible exact H) | (have H2_ := (Option.bind_some _ _).symm.trans H; rw [hy115]; with_reducible exact H2_) | (have H2_ := (Option.bind_some _ _).symm.trans H; with_reducible exact H2_) | with_reducible exact H | (rw [hy115]; exact H) | exact H
          have Ny115 := Aside0.mk hy115
          clear hy115
          have H' := Aside0.mk H
          clear H
          have hza112 : decide (0 ≤ x34_1) = true := decide_eq_true (hdr_lo HH_11.out)
          have hzb112 : decide (x34_1 < (x32_1.length : Int)) = true := decide_eq_true (by have h_ := hdr_hi HH_11.out; have e_ := (Kd.S_reads' HO_32.out).1; omega)
          have p112 : 0 ≤ (x34_1 : Int) := oD
          have q112 : x34_1 < (x32_1.length : Int) := oD
          obtain ⟨ad112, A112_0, c112_0, e112, hx112_0, hl112_0, hi112_0⟩ := at_L1 (Kd.S_reads' HO_32.out).2.2 x34_1 p112 q112
          obtain rfl : ad108 = ad112 := (by injection e112)
          obtain ⟨ce112, hce112, hMe112, hcc112⟩ := Kd.S_get HO_32.out [] x34_1 p112 (by first | exact q112 | exact oD | (have e_ := (Kd.S_reads' HO_32.out).1; omega))
          obtain ⟨ve112_0, rfl, ge112_0⟩ := hMe112
          have hv112_0 := hcc112 0 _ rfl
          rw [Nat.add_zero, show ((Kd.slice 2 (Kd.int .i64))).sz = 1 from rfl, Nat.mul_one] at hv112_0
          replace hv112_0 := Option.some.inj (hv112_0.symm.trans hx112_0)
          rw [hv112_0] at ge112_0
          have HL112_0 := Aside0.mk (show Kd.R (Kd.int .i64) 2 _ _ _ _ (rd_L1 x32_1 x34_1) from ge112_0)
          clear hv112_0 ge112_0
          have HX112_0 := Aside0.mk hx112_0
          clear hcc112 hce112
          have HR112_0 := Aside0.mk hi112_0
          have HC112_0 := Aside0.mk hl112_0
          clear hi112_0 hl112_0
          replace p112 := eq_true p112
          replace q112 := eq_true q112
          obtain rfl := hdr_eq HH_11.out HX112_0.out
          have p113 : 0 ≤ (x44_2 : Int) := oD
          have q113 : x44_2 < ((rd_L1 x32_1 x34_1).length : Int) := oD
          obtain ⟨ad113, e113, hx113_0⟩ := Kd.at_int (by repeat (first | (with_reducible exact HR112_0.out) | (with_reducible refine Kd.C_alloc ?_ _) | (with_reducible refine Kd.C_drewN ?_ _) | (with_reducible refine Kd.C_drew ?_) | exact HR112_0.out)) x44_2 p113 q113
          cases e113
          replace p113 := eq_true p113
          replace q113 := eq_true q113
          go_wp2_with (first | ((with_reducible refine gate_callee (f := 90) rfl ?_); refine goesL_ (some 56) rfl rfl Try.func90 (by kernel_rfl) rfl #[.int .i64 (wrap64 ((wrap64 (-a2)) * (rd (rd_L1 x32_1 x34_1) x44_2))), .int .i64 a1] rfl gm ?_; (with_reducible refine (impl_modulo.calls (wrap64 ((wrap64 (-a2)) * (rd (rd_L1 x32_1 x34_1) x44_2))) a1 t114 _ A23.out).mono ?_); rintro e w' ⟨rfl, ⟨nd, rfl⟩⟩; refine ⟨_, rfl, ?_⟩; (try (rw [drewN_self wr]; generalize hq_ : World.drewN wr _ = wr; have n0_ : Aside0 (Kd.R (Kd.int .i64) 2 wr w.heap.size (fun k_ => ((some k_ ≠ (u8 : Value).ownBlock ∧ some k_ ≠ (v110 : Value).ownBlock) ∧ some k_ ≠ (.slice (some ad108) x32_1.length co11 : Value).ownBlock)) (.slice (some ad113) (rd_L1 x32_1 x34_1).length c112_0) (rd_L1 x32_1 x34_1)) := ⟨by rw [← hq_]; exact (by (with_reducible repeat (first | apply Kd.R_alloc | apply Kd.R_drewN | apply Kd.R_drew)); exact HL112_0.out)⟩; have n1_ : Aside0 (Kd.R (Kd.int .i64) 2 wr w.heap.size (fun _ => True) v110 x12_2) := ⟨by rw [← hq_]; exact (by (with_reducible repeat (first | apply Kd.R_alloc | apply Kd.R_drewN | apply Kd.R_drew)); exact HO_12.out)⟩; have n2_ : Aside0 (Kd.S (Kd.slice 2 (Kd.int .i64)) 34 wr w.heap.size (fun k_ => (some k_ ≠ (u8 : Value).ownBlock ∧ some k_ ≠ (v110 : Value).ownBlock)) (.slice (some ad108) x32_1.length co11) x32_1) := ⟨by rw [← hq_]; exact (by (with_reducible repeat (first | apply Kd.S_alloc | apply Kd.S_drewN | apply Kd.S_drew)); exact HO_32.out)⟩; have n3_ : Aside0 (Kd.S (Kd.slice 2 (Kd.int .i64)) 34 wr w.heap.size (fun k_ => (some k_ ≠ (v110 : Value).ownBlock ∧ some k_ ≠ (.slice (some ad108) x32_1.length co11 : Value).ownBlock)) u8 x8_1) := ⟨by rw [← hq_]; exact (by (with_reducible repeat (first | apply Kd.S_alloc | apply Kd.S_drewN | apply Kd.S_drew)); exact HO_8.out)⟩; have n4_ : Aside0 (wr.cell? (ad108.add (x34_1).toNat) = some (.slice (some ad113) (rd_L1 x32_1 x34_1).length c112_0)) := ⟨by rw [← hq_]; exact HX112_0.out⟩; have n5_ : Aside0 (wr.heap[gb101]? = some (.cells #[.int .i64 a0_0, .slice A0_1 l0_1.length c0_1] 28 (0, 0))) := ⟨by rw [← hq_]; exact bk⟩; have n6_ : Aside0 (Below w.heap.size w wr) := ⟨by rw [← hq_]; exact bl⟩; have n7_ : Aside0 (Kd.C (Kd.int .i64) wr (some ad113) (rd_L1 x32_1 x34_1).length (rd_L1 x32_1 x34_1)) := ⟨by rw [← hq_]; exact (by repeat (first | (with_reducible exact HR112_0.out) | (with_reducible refine Kd.C_alloc ?_ _) | (with_reducible refine Kd.C_drewN ?_ _) | (with_reducible refine Kd.C_drew ?_) | exact HR112_0.out))⟩; clear HL112_0 HO_12 HO_32 HO_8 HX112_0 BK101 HB HR112_0 hq_; have HL112_0 := n0_; have HO_12 := n1_; have HO_32 := n2_; have HO_8 := n3_; have HX112_0 := n4_; have BK101 := n5_; have HB := n6_; have HR112_0 := n7_; clear n0_ n1_ n2_ n3_ n4_ n5_ n6_ n7_)); have p25 : 0 ≤ (x44_2 : Int) := oD; have q25 : (x44_2 : Int) < ((x12_2.length : Int) : Int) := oD; obtain ⟨go25, co25, eo25, gb25, gl25, cl25, HG25⟩ := Kd.R_form HO_12.out (by omega); (first | cases eo25 | (injection eo25 with ea_ en_ ec_; (first | subst ea_ | (injection ea_ with ea_; subst ea_)); subst ec_; clear en_)); have GB25 := Aside0.mk gb25; have GG25 := Aside0.mk HG25; clear gb25 gl25 HG25; obtain ⟨hx25_0, hf25_0⟩ := Kd.R_celln 0 HO_12.out (x44_2 : Int) p25 q25; replace p25 := eq_true p25; replace q25 := eq_true q25; obtain ⟨hy26_, hz26_⟩ := Kd.R_celln 0 HO_12.out (x44_2 : Int) oD oD; have HP26 := Kd.R_putg HO_12.out (x44_2 : Int) t114) | ((with_reducible refine gate_store (t := 2) (p := 57) rfl ?_); refine store_event (t := 2) (p := 57) (v := ?vo_w27) (w1 := (wr.setCell ⟨go25, (x44_2 : Int).toNat, none⟩ (.int .i64 t114))) ?hg ?ho ?hn ?hr ?_; (case ho => rfl); (case hg => rfl); (case hn => rfl); (case hr => first | (go_simp; done) | (go_simp; rfl)); intro w27 hw; have hg : wr.grownBy w27 (some go25) := (by rw [hw]; exact HP26.2); have hp_ : Kd.R (Kd.int .i64) 2 w27 w.heap.size (fun _ => True) (.slice (some ⟨go25, 0, none⟩) x12_2.length co25) y115 := (by rw [hw, Ny115.out]; exact HP26.1); clear HP26; have n0_ := Aside0.mk (Kd.S_after (v := (.slice (some ⟨go25, 0, none⟩) x12_2.length co25)) (v1 := (.slice (some ⟨go25, 0, none⟩) x12_2.length co25)) (ok := (fun k_ => some k_ ≠ (.slice (some ad108) x32_1.length co11 : Value).ownBlock)) (by (with_reducible repeat (first | apply Kd.S_alloc | apply Kd.S_drewN | apply Kd.S_drew)); exact Kd.S_mono HO_8.out (fun _ hk => ⟨hk.2, hk.1⟩)) hg (.inl rfl)); have n1_ := Aside0.mk (hp_); have n2_ := Aside0.mk (Kd.S_after (v := (.slice (some ⟨go25, 0, none⟩) x12_2.length co25)) (v1 := (.slice (some ⟨go25, 0, none⟩) x12_2.length co25)) (ok := (fun k_ => some k_ ≠ (u8 : Value).ownBlock)) (by (with_reducible repeat (first | apply Kd.S_alloc | apply Kd.S_drewN | apply Kd.S_drew)); exact HO_32.out) hg (.inl rfl)); have n3_ := Aside0.mk (blk_grown (g := gb101) (o := .cells #[.int .i64 a0_0, .slice A0_1 l0_1.length c0_1] 28 (0, 0)) bk hg (Kd.R_ne HO_12.out BK101.out (by decide))); have n4_ := Aside0.mk (Kd.R_after (v := (.slice (some ⟨go25, 0, none⟩) x12_2.length co25)) (v1 := (.slice (some ⟨go25, 0, none⟩) x12_2.length co25)) (ok := (fun k_ => some k_ ≠ (u8 : Value).ownBlock ∧ some k_ ≠ (.slice (some ad108) x32_1.length co11 : Value).ownBlock)) (by (with_reducible repeat (first | apply Kd.R_alloc | apply Kd.R_drewN | apply Kd.R_drew)); exact Kd.R_mono HL112_0.out (fun _ hk => ⟨⟨hk.1.1, hk.2⟩, hk.1.2⟩)) hg (.inl rfl)); have n5_ := Aside0.mk (cell_grown hg HX112_0.out (cell_ne_ty (v := (.slice (some ⟨go25, 0, none⟩) x12_2.length co25)) (Kd.S_typed HO_32.out) (Kd.R_typed HO_12.out) (by decide))); have n6_ := Aside0.mk ((by rw [hw]; exact below_set (HB.out) GB25.out : Below w.heap.size w w27)); clear HO_8; clear HO_12; clear HO_32; clear BK101; clear HL112_0; clear HX112_0; clear HB; have HO_8 := n0_; have HO_12 := n1_; have HO_32 := n2_; have BK101 := n3_; have HL112_0 := n4_; have HX112_0 := n5_; have HB := n6_; clear n0_ n1_ n2_ n3_ n4_ n5_ n6_; clear hg hw hp_))
          first | go_roundg k2 | (simp only [← hji116]; go_roundg k2) | (simp only [← hji15]; go_roundg k2) | (simp only [← hji32]; go_roundg k2) | (simp only [← hji56]; go_roundg k2) | ((try (have e_ := HGZ11_2.out; injection e_ with e1_ e2_ e3_; subst e1_ e3_)); (try (have e_ := HGZ20_5.out; injection e_ with e1_ e2_ e3_; subst e1_ e3_)); go_roundg k2)
          case measure => have := HK1.out; have := HK2.out; omega
          case rel => exact ⟨(y115), (wrap64 (x44_2 + 1)), rs, (by first | exact H' | (rw [hji116]; exact H') | (rw [hji15]; exact H') | (rw [hji32]; exact H') | (rw [hji56]; exact H')), ⟨by have := HK1.out; have := HK2.out; omega⟩, ⟨by (with_reducible repeat (first | apply HdrOf.alloc | apply HdrOf.drewN | apply HdrOf.drew)); first | exact ⟨_, _, _, rfl, (by first | exact of_eq_true p112 | exact hdr_lo HH_11.out | omega), (by first | exact of_eq_true q112 | exact hdr_hi HH_11.out | (have h_ := of_eq_true q112; omega) | (have h_ := hdr_hi HH_11.out; omega)), HX112_0.out⟩ | (rw [← HGZ11_2.out]; exact ⟨_, _, _, rfl, (by first | exact of_eq_true p112 | exact hdr_lo HH_11.out | omega), (by first | exact of_eq_true q112 | exact hdr_hi HH_11.out | (have h_ := of_eq_true q112; omega) | (have h_ := hdr_hi HH_11.out; omega)), HX112_0.out⟩)⟩, ⟨by (try simp only [hl32_1]); (with_reducible repeat (first | apply Kd.S_alloc | apply Kd.S_drewN | apply Kd.S_drew)); exact Kd.S_mono HO_8.out (fun _ hk => ⟨hk.2, hk.1⟩)⟩, ⟨by (try simp only [hl32_1]); (with_reducible repeat (first | apply Kd.R_alloc | apply Kd.R_drewN | apply Kd.R_drew)); exact HO_12.out⟩, ⟨by (try simp only [hl32_1]); (with_reducible repeat (first | apply Kd.S_alloc | apply Kd.S_drewN | apply Kd.S_drew)); exact HO_32.out⟩, ⟨by (try simp only [hl32_1]); (with_reducible repeat (first | refine blk_drewN ?_ _ | refine blk_drew ?_ | refine blk_alloc ?_ _)); exact BK101.out⟩, ⟨bl⟩⟩
end Go.Proofs.Ytbfmnhgpmpnglaa.B
