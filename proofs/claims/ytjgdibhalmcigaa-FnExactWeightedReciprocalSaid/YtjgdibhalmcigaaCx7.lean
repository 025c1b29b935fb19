/- The functions that one law reaches, each as a Lean function, and that Go's call comes to what it says. Condition of each: that the Lean function answers (is not none). -/
import Derived.Test.YtjgdibhalmcigaaCx0
import Derived.Test.YtjgdibhalmcigaaCx5
import Derived.Test.YtjgdibhalmcigaaCx6
namespace Go.Proofs.Ytjgdibhalmcigaa.C
open Go.RowKit Go.Proofs.YtjgdibhalmcigaaW.PrintWords Go.Proofs.YtjgdibhalmcigaaW.PrintLast Go.Proofs.YtjgdibhalmcigaaW.PrintMore
attribute [local go_sem] max2_int min2_int max_two min_two max_three min_three max_four min_four   -- for this text's walks alone
set_option linter.unusedVariables false
set_option linter.unusedSimpArgs false

/-! ### impl_reduced: function 87 -/
mutual
def impl_reduced.l0 : Nat → Int → List (List Int) → Int → List (List Int) → Int → Int → Option ((List (List Int)))
  | 0, _, _, _, _, _, _ => none
  | k + 1, x1, x5, x6, x23, x24, x25 => if x25 < x24 then (if 0 ≤ x25 then (if x25 < (x23.length : Int) then (impl_reduced.l1 k x1 x5 x6 (([] : List Int)) x23 x24 x25 (rd_L1 x23 x25) ((rd_L1 x23 x25).length : Int) 0) else (none)) else (none)) else (impl_reduced.l2 k x1 x5 x6 1)
def impl_reduced.l1 : Nat → Int → List (List Int) → Int → List Int → List (List Int) → Int → Int → List Int → Int → Int → Option ((List (List Int)))
  | 0, _, _, _, _, _, _, _, _, _, _ => none
  | k + 1, x1, x5, x6, x9, x23, x24, x25, x30, x31, x32 => if x32 < x31 then (if 0 ≤ x32 then (if x32 < (x30.length : Int) then ((impl_modulo.f (rd x30 x32) x1).bind fun t109 => (if x9.length < 17592186044416 then (impl_reduced.l1 k x1 x5 x6 (x9 ++ [t109]) x23 x24 x25 x30 x31 (wrap64 (x32 + 1))) else (none))) else (none)) else (none)) else (if x5.length < 5864062014805 then (impl_reduced.l0 k x1 (x5 ++ [x9]) x6 x23 x24 (wrap64 (x25 + 1))) else (none))
def impl_reduced.l2 : Nat → Int → List (List Int) → Int → Int → Option ((List (List Int)))
  | 0, _, _, _, _ => none
  | k + 1, x1, x5, x6, x12 => if x12 < (wrap64 (x6 - 1)) then (impl_reduced.l3 k x1 x5 x6 x12 x12) else (some x5)
def impl_reduced.j4 : Nat → Int → List (List Int) → Int → Int → Int → Option ((List (List Int)))
  | 0, _, _, _, _, _ => none
  | k + 1, x1, x5, x6, x12, x13 => if x13 = x6 then (impl_reduced.l2 k x1 x5 x6 (wrap64 (x12 + 1))) else (if 0 ≤ x12 then (if x12 < (x5.length : Int) then (if 0 ≤ x13 then (if x13 < (x5.length : Int) then (impl_reduced.l4 k x1 (swp x5 x13 x12) x6 x12 x13 (x5.length : Int) 0) else (none)) else (none)) else (none)) else (none))
def impl_reduced.l4 : Nat → Int → List (List Int) → Int → Int → Int → Int → Int → Option ((List (List Int)))
  | 0, _, _, _, _, _, _, _ => none
  | k + 1, x1, x5, x6, x12, x13, x89, x90 => if x90 < x89 then (if 0 ≤ x90 then (if x90 < (x5.length : Int) then (if 0 ≤ x12 then (if x12 < ((rd_L1 x5 x90).length : Int) then (if 0 ≤ x13 then (if x13 < ((rd_L1 x5 x90).length : Int) then ((some ((rd_L1 x5 x90).set (x13 : Int).toNat (rd (rd_L1 x5 x90) x12) : List Int)).bind fun y127 => (impl_reduced.l4 k x1 ((x5.set (x90 : Int).toNat y127).set (x90 : Int).toNat (y127.set (x12 : Int).toNat (rd (rd_L1 x5 x90) x13))) x6 x12 x13 x89 (wrap64 (x90 + 1)))) else (none)) else (none)) else (none)) else (none)) else (none)) else (none)) else (if 0 ≤ x12 then (if x12 < (x5.length : Int) then (if 0 ≤ (wrap64 (x12 - 1)) then (if (wrap64 (x12 - 1)) < ((rd_L1 x5 x12).length : Int) then ((impl_inverse.f k (rd (rd_L1 x5 x12) (wrap64 (x12 - 1))) x1).bind fun t135 => (impl_reduced.l5 k x1 x5 x6 x12 t135 (wrap64 (x12 + 1)))) else (none)) else (none)) else (none)) else (none))
def impl_reduced.l5 : Nat → Int → List (List Int) → Int → Int → Int → Int → Option ((List (List Int)))
  | 0, _, _, _, _, _, _ => none
  | k + 1, x1, x5, x6, x12, x15, x16 => if x16 < x6 then (if 0 ≤ x16 then (if x16 < (x5.length : Int) then (if 0 ≤ (wrap64 (x12 - 1)) then (if (wrap64 (x12 - 1)) < ((rd_L1 x5 x16).length : Int) then (if x1 = 0 then (none) else (if (Int.tmod (wrap64 ((rd (rd_L1 x5 x16) (wrap64 (x12 - 1))) * x15)) x1) = 0 then (impl_reduced.l5 k x1 x5 x6 x12 x15 (wrap64 (x16 + 1))) else (impl_reduced.l6 k x1 x5 x6 x12 x15 x16 (Int.tmod (wrap64 ((rd (rd_L1 x5 x16) (wrap64 (x12 - 1))) * x15)) x1) x6 0))) else (none)) else (none)) else (none)) else (none)) else (impl_reduced.l2 k x1 x5 x6 (wrap64 (x12 + 1)))
def impl_reduced.l6 : Nat → Int → List (List Int) → Int → Int → Int → Int → Int → Int → Int → Option ((List (List Int)))
  | 0, _, _, _, _, _, _, _, _, _ => none
  | k + 1, x1, x5, x6, x12, x15, x16, x17, x151, x152 => if x152 < x151 then (if 0 ≤ x16 then (if x16 < (x5.length : Int) then (if 0 ≤ x152 then (if x152 < ((rd_L1 x5 x16).length : Int) then (if 0 ≤ x12 then (if x12 < (x5.length : Int) then (if x152 < ((rd_L1 x5 x12).length : Int) then ((impl_modulo.f (wrap64 ((rd (rd_L1 x5 x16) x152) - (wrap64 (x17 * (rd (rd_L1 x5 x12) x152))))) x1).bind fun t143 => (impl_reduced.l6 k x1 (x5.set (x16 : Int).toNat ((rd_L1 x5 x16).set (x152 : Int).toNat t143)) x6 x12 x15 x16 x17 x151 (wrap64 (x152 + 1)))) else (none)) else (none)) else (none)) else (none)) else (none)) else (none)) else (none)) else (impl_reduced.l7 k x1 x5 x6 x12 x15 x16 x17 x6 0)
def impl_reduced.l7 : Nat → Int → List (List Int) → Int → Int → Int → Int → Int → Int → Int → Option ((List (List Int)))
  | 0, _, _, _, _, _, _, _, _, _ => none
  | k + 1, x1, x5, x6, x12, x15, x16, x17, x181, x182 => if x182 < x181 then (if 0 ≤ x182 then (if x182 < (x5.length : Int) then (if 0 ≤ x12 then (if x12 < ((rd_L1 x5 x182).length : Int) then (if 0 ≤ x16 then (if x16 < ((rd_L1 x5 x182).length : Int) then (if x1 = 0 then (none) else (impl_reduced.l7 k x1 (x5.set (x182 : Int).toNat ((rd_L1 x5 x182).set (x12 : Int).toNat (Int.tmod (wrap64 ((rd (rd_L1 x5 x182) x12) + (wrap64 (x17 * (rd (rd_L1 x5 x182) x16))))) x1))) x6 x12 x15 x16 x17 x181 (wrap64 (x182 + 1)))) else (none)) else (none)) else (none)) else (none)) else (none)) else (none)) else (impl_reduced.l5 k x1 x5 x6 x12 x15 (wrap64 (x16 + 1)))
def impl_reduced.l3 : Nat → Int → List (List Int) → Int → Int → Int → Option ((List (List Int)))
  | 0, _, _, _, _, _ => none
  | k + 1, x1, x5, x6, x12, x13 => if x13 < x6 then (if 0 ≤ x13 then (if x13 < (x5.length : Int) then (if 0 ≤ (wrap64 (x12 - 1)) then (if (wrap64 (x12 - 1)) < ((rd_L1 x5 x13).length : Int) then (if (rd (rd_L1 x5 x13) (wrap64 (x12 - 1))) = 0 then (impl_reduced.l3 k x1 x5 x6 x12 (wrap64 (x13 + 1))) else (impl_reduced.j4 k x1 x5 x6 x12 x13)) else (none)) else (none)) else (none)) else (none)) else (impl_reduced.j4 k x1 x5 x6 x12 x13)
end
def impl_reduced.f (k : Nat) (l0 : List (List Int)) (a1 : Int) : Option ((List (List Int))) := impl_reduced.l0 k a1 (([] : List (List Int))) (l0.length : Int) l0 (l0.length : Int) 0
theorem impl_reduced.mono_l : ∀ k, (∀ y0 y1 y2 y3 y4 y5, LeO (impl_reduced.l0 k y0 y1 y2 y3 y4 y5) (impl_reduced.l0 (k + 1) y0 y1 y2 y3 y4 y5)) ∧ (∀ y0 y1 y2 y3 y4 y5 y6 y7 y8 y9, LeO (impl_reduced.l1 k y0 y1 y2 y3 y4 y5 y6 y7 y8 y9) (impl_reduced.l1 (k + 1) y0 y1 y2 y3 y4 y5 y6 y7 y8 y9)) ∧ (∀ y0 y1 y2 y3, LeO (impl_reduced.l2 k y0 y1 y2 y3) (impl_reduced.l2 (k + 1) y0 y1 y2 y3)) ∧ (∀ y0 y1 y2 y3 y4, LeO (impl_reduced.j4 k y0 y1 y2 y3 y4) (impl_reduced.j4 (k + 1) y0 y1 y2 y3 y4)) ∧ (∀ y0 y1 y2 y3 y4 y5 y6, LeO (impl_reduced.l4 k y0 y1 y2 y3 y4 y5 y6) (impl_reduced.l4 (k + 1) y0 y1 y2 y3 y4 y5 y6)) ∧ (∀ y0 y1 y2 y3 y4 y5, LeO (impl_reduced.l5 k y0 y1 y2 y3 y4 y5) (impl_reduced.l5 (k + 1) y0 y1 y2 y3 y4 y5)) ∧ (∀ y0 y1 y2 y3 y4 y5 y6 y7 y8, LeO (impl_reduced.l6 k y0 y1 y2 y3 y4 y5 y6 y7 y8) (impl_reduced.l6 (k + 1) y0 y1 y2 y3 y4 y5 y6 y7 y8)) ∧ (∀ y0 y1 y2 y3 y4 y5 y6 y7 y8, LeO (impl_reduced.l7 k y0 y1 y2 y3 y4 y5 y6 y7 y8) (impl_reduced.l7 (k + 1) y0 y1 y2 y3 y4 y5 y6 y7 y8)) ∧ (∀ y0 y1 y2 y3 y4, LeO (impl_reduced.l3 k y0 y1 y2 y3 y4) (impl_reduced.l3 (k + 1) y0 y1 y2 y3 y4))
  | 0 => ⟨fun _ _ _ _ _ _ r h => by simp [impl_reduced.l0] at h, fun _ _ _ _ _ _ _ _ _ _ r h => by simp [impl_reduced.l1] at h, fun _ _ _ _ r h => by simp [impl_reduced.l2] at h, fun _ _ _ _ _ r h => by simp [impl_reduced.j4] at h, fun _ _ _ _ _ _ _ r h => by simp [impl_reduced.l4] at h, fun _ _ _ _ _ _ r h => by simp [impl_reduced.l5] at h, fun _ _ _ _ _ _ _ _ _ r h => by simp [impl_reduced.l6] at h, fun _ _ _ _ _ _ _ _ _ r h => by simp [impl_reduced.l7] at h, fun _ _ _ _ _ r h => by simp [impl_reduced.l3] at h⟩
  | k + 1 => by
    obtain ⟨ih0, ih1, ih2, ih3, ih4, ih5, ih6, ih7, ih8⟩ := impl_reduced.mono_l k
    refine ⟨?_, ?_, ?_, ?_, ?_, ?_, ?_, ?_, ?_⟩
    · intro y0 y1 y2 y3 y4 y5
      unfold impl_reduced.l0
      repeat' first
      | (with_reducible exact ih0 _ _ _ _ _ _)
      | (with_reducible exact ih1 _ _ _ _ _ _ _ _ _ _)
      | (with_reducible exact ih2 _ _ _ _)
      | (with_reducible exact ih3 _ _ _ _ _)
      | (with_reducible exact ih4 _ _ _ _ _ _ _)
      | (with_reducible exact ih5 _ _ _ _ _ _)
      | (with_reducible exact ih6 _ _ _ _ _ _ _ _ _)
      | (with_reducible exact ih7 _ _ _ _ _ _ _ _ _)
      | (with_reducible exact ih8 _ _ _ _ _)
      | (with_reducible exact impl_inverse.mono _ _ _)
      | (with_reducible exact LeO.refl _)
      | (with_reducible exact LeO.none _)
      | (with_reducible refine LeO.ite ?_ ?_)
      | (with_reducible refine LeO.bind ?_ (fun _ => ?_))
      | exact ih0 _ _ _ _ _ _
      | exact ih1 _ _ _ _ _ _ _ _ _ _
      | exact ih2 _ _ _ _
      | exact ih3 _ _ _ _ _
      | exact ih4 _ _ _ _ _ _ _
      | exact ih5 _ _ _ _ _ _
      | exact ih6 _ _ _ _ _ _ _ _ _
      | exact ih7 _ _ _ _ _ _ _ _ _
      | exact ih8 _ _ _ _ _
      | exact impl_inverse.mono _ _ _
      | exact LeO.none _
      | refine LeO.ite ?_ ?_
      | refine LeO.bind ?_ (fun _ => ?_)
    · intro y0 y1 y2 y3 y4 y5 y6 y7 y8 y9
      unfold impl_reduced.l1
      repeat' first
      | (with_reducible exact ih0 _ _ _ _ _ _)
      | (with_reducible exact ih1 _ _ _ _ _ _ _ _ _ _)
      | (with_reducible exact ih2 _ _ _ _)
      | (with_reducible exact ih3 _ _ _ _ _)
      | (with_reducible exact ih4 _ _ _ _ _ _ _)
      | (with_reducible exact ih5 _ _ _ _ _ _)
      | (with_reducible exact ih6 _ _ _ _ _ _ _ _ _)
      | (with_reducible exact ih7 _ _ _ _ _ _ _ _ _)
      | (with_reducible exact ih8 _ _ _ _ _)
      | (with_reducible exact impl_inverse.mono _ _ _)
      | (with_reducible exact LeO.refl _)
      | (with_reducible exact LeO.none _)
      | (with_reducible refine LeO.ite ?_ ?_)
      | (with_reducible refine LeO.bind ?_ (fun _ => ?_))
      | exact ih0 _ _ _ _ _ _
      | exact ih1 _ _ _ _ _ _ _ _ _ _
      | exact ih2 _ _ _ _
      | exact ih3 _ _ _ _ _
      | exact ih4 _ _ _ _ _ _ _
      | exact ih5 _ _ _ _ _ _
      | exact ih6 _ _ _ _ _ _ _ _ _
      | exact ih7 _ _ _ _ _ _ _ _ _
      | exact ih8 _ _ _ _ _
      | exact impl_inverse.mono _ _ _
      | exact LeO.none _
      | refine LeO.ite ?_ ?_
      | refine LeO.bind ?_ (fun _ => ?_)
    · intro y0 y1 y2 y3
      unfold impl_reduced.l2
      repeat' first
      | (with_reducible exact ih0 _ _ _ _ _ _)
      | (with_reducible exact ih1 _ _ _ _ _ _ _ _ _ _)
      | (with_reducible exact ih2 _ _ _ _)
      | (with_reducible exact ih3 _ _ _ _ _)
      | (with_reducible exact ih4 _ _ _ _ _ _ _)
      | (with_reducible exact ih5 _ _ _ _ _ _)
      | (with_reducible exact ih6 _ _ _ _ _ _ _ _ _)
      | (with_reducible exact ih7 _ _ _ _ _ _ _ _ _)
      | (with_reducible exact ih8 _ _ _ _ _)
      | (with_reducible exact impl_inverse.mono _ _ _)
      | (with_reducible exact LeO.refl _)
      | (with_reducible exact LeO.none _)
      | (with_reducible refine LeO.ite ?_ ?_)
      | (with_reducible refine LeO.bind ?_ (fun _ => ?_))
      | exact ih0 _ _ _ _ _ _
      | exact ih1 _ _ _ _ _ _ _ _ _ _
      | exact ih2 _ _ _ _
      | exact ih3 _ _ _ _ _
      | exact ih4 _ _ _ _ _ _ _
      | exact ih5 _ _ _ _ _ _
      | exact ih6 _ _ _ _ _ _ _ _ _
      | exact ih7 _ _ _ _ _ _ _ _ _
      | exact ih8 _ _ _ _ _
      | exact impl_inverse.mono _ _ _
      | exact LeO.none _
      | refine LeO.ite ?_ ?_
      | refine LeO.bind ?_ (fun _ => ?_)
    · intro y0 y1 y2 y3 y4
      unfold impl_reduced.j4
      repeat' first
      | (with_reducible exact ih0 _ _ _ _ _ _)
      | (with_reducible exact ih1 _ _ _ _ _ _ _ _ _ _)
      | (with_reducible exact ih2 _ _ _ _)
      | (with_reducible exact ih3 _ _ _ _ _)
      | (with_reducible exact ih4 _ _ _ _ _ _ _)
      | (with_reducible exact ih5 _ _ _ _ _ _)
      | (with_reducible exact ih6 _ _ _ _ _ _ _ _ _)
      | (with_reducible exact ih7 _ _ _ _ _ _ _ _ _)
      | (with_reducible exact ih8 _ _ _ _ _)
      | (with_reducible exact impl_inverse.mono _ _ _)
      | (with_reducible exact LeO.refl _)
      | (with_reducible exact LeO.none _)
      | (with_reducible refine LeO.ite ?_ ?_)
      | (with_reducible refine LeO.bind ?_ (fun _ => ?_))
      | exact ih0 _ _ _ _ _ _
      | exact ih1 _ _ _ _ _ _ _ _ _ _
      | exact ih2 _ _ _ _
      | exact ih3 _ _ _ _ _
      | exact ih4 _ _ _ _ _ _ _
      | exact ih5 _ _ _ _ _ _
      | exact ih6 _ _ _ _ _ _ _ _ _
      | exact ih7 _ _ _ _ _ _ _ _ _
      | exact ih8 _ _ _ _ _
      | exact impl_inverse.mono _ _ _
      | exact LeO.none _
      | refine LeO.ite ?_ ?_
      | refine LeO.bind ?_ (fun _ => ?_)
    · intro y0 y1 y2 y3 y4 y5 y6
      unfold impl_reduced.l4
      repeat' first
      | (with_reducible exact ih0 _ _ _ _ _ _)
      | (with_reducible exact ih1 _ _ _ _ _ _ _ _ _ _)
      | (with_reducible exact ih2 _ _ _ _)
      | (with_reducible exact ih3 _ _ _ _ _)
      | (with_reducible exact ih4 _ _ _ _ _ _ _)
      | (with_reducible exact ih5 _ _ _ _ _ _)
      | (with_reducible exact ih6 _ _ _ _ _ _ _ _ _)
      | (with_reducible exact ih7 _ _ _ _ _ _ _ _ _)
      | (with_reducible exact ih8 _ _ _ _ _)
      | (with_reducible exact impl_inverse.mono _ _ _)
      | (with_reducible exact LeO.refl _)
      | (with_reducible exact LeO.none _)
      | (with_reducible refine LeO.ite ?_ ?_)
      | (with_reducible refine LeO.bind ?_ (fun _ => ?_))
      | exact ih0 _ _ _ _ _ _
      | exact ih1 _ _ _ _ _ _ _ _ _ _
      | exact ih2 _ _ _ _
      | exact ih3 _ _ _ _ _
      | exact ih4 _ _ _ _ _ _ _
      | exact ih5 _ _ _ _ _ _
      | exact ih6 _ _ _ _ _ _ _ _ _
      | exact ih7 _ _ _ _ _ _ _ _ _
      | exact ih8 _ _ _ _ _
      | exact impl_inverse.mono _ _ _
      | exact LeO.none _
      | refine LeO.ite ?_ ?_
      | refine LeO.bind ?_ (fun _ => ?_)
    · intro y0 y1 y2 y3 y4 y5
      unfold impl_reduced.l5
      repeat' first
      | (with_reducible exact ih0 _ _ _ _ _ _)
      | (with_reducible exact ih1 _ _ _ _ _ _ _ _ _ _)
      | (with_reducible exact ih2 _ _ _ _)
      | (with_reducible exact ih3 _ _ _ _ _)
      | (with_reducible exact ih4 _ _ _ _ _ _ _)
      | (with_reducible exact ih5 _ _ _ _ _ _)
      | (with_reducible exact ih6 _ _ _ _ _ _ _ _ _)
      | (with_reducible exact ih7 _ _ _ _ _ _ _ _ _)
      | (with_reducible exact ih8 _ _ _ _ _)
      | (with_reducible exact impl_inverse.mono _ _ _)
      | (with_reducible exact LeO.refl _)
      | (with_reducible exact LeO.none _)
      | (with_reducible refine LeO.ite ?_ ?_)
      | (with_reducible refine LeO.bind ?_ (fun _ => ?_))
      | exact ih0 _ _ _ _ _ _
      | exact ih1 _ _ _ _ _ _ _ _ _ _
      | exact ih2 _ _ _ _
      | exact ih3 _ _ _ _ _
      | exact ih4 _ _ _ _ _ _ _
      | exact ih5 _ _ _ _ _ _
      | exact ih6 _ _ _ _ _ _ _ _ _
      | exact ih7 _ _ _ _ _ _ _ _ _
      | exact ih8 _ _ _ _ _
      | exact impl_inverse.mono _ _ _
      | exact LeO.none _
      | refine LeO.ite ?_ ?_
      | refine LeO.bind ?_ (fun _ => ?_)
    · intro y0 y1 y2 y3 y4 y5 y6 y7 y8
      unfold impl_reduced.l6
      repeat' first
      | (with_reducible exact ih0 _ _ _ _ _ _)
      | (with_reducible exact ih1 _ _ _ _ _ _ _ _ _ _)
      | (with_reducible exact ih2 _ _ _ _)
      | (with_reducible exact ih3 _ _ _ _ _)
      | (with_reducible exact ih4 _ _ _ _ _ _ _)
      | (with_reducible exact ih5 _ _ _ _ _ _)
      | (with_reducible exact ih6 _ _ _ _ _ _ _ _ _)
      | (with_reducible exact ih7 _ _ _ _ _ _ _ _ _)
      | (with_reducible exact ih8 _ _ _ _ _)
      | (with_reducible exact impl_inverse.mono _ _ _)
      | (with_reducible exact LeO.refl _)
      | (with_reducible exact LeO.none _)
      | (with_reducible refine LeO.ite ?_ ?_)
      | (with_reducible refine LeO.bind ?_ (fun _ => ?_))
      | exact ih0 _ _ _ _ _ _
      | exact ih1 _ _ _ _ _ _ _ _ _ _
      | exact ih2 _ _ _ _
      | exact ih3 _ _ _ _ _
      | exact ih4 _ _ _ _ _ _ _
      | exact ih5 _ _ _ _ _ _
      | exact ih6 _ _ _ _ _ _ _ _ _
      | exact ih7 _ _ _ _ _ _ _ _ _
      | exact ih8 _ _ _ _ _
      | exact impl_inverse.mono _ _ _
      | exact LeO.none _
      | refine LeO.ite ?_ ?_
      | refine LeO.bind ?_ (fun _ => ?_)
    · intro y0 y1 y2 y3 y4 y5 y6 y7 y8
      unfold impl_reduced.l7
      repeat' first
      | (with_reducible exact ih0 _ _ _ _ _ _)
      | (with_reducible exact ih1 _ _ _ _ _ _ _ _ _ _)
      | (with_reducible exact ih2 _ _ _ _)
      | (with_reducible exact ih3 _ _ _ _ _)
      | (with_reducible exact ih4 _ _ _ _ _ _ _)
      | (with_reducible exact ih5 _ _ _ _ _ _)
      | (with_reducible exact ih6 _ _ _ _ _ _ _ _ _)
      | (with_reducible exact ih7 _ _ _ _ _ _ _ _ _)
      | (with_reducible exact ih8 _ _ _ _ _)
      | (with_reducible exact impl_inverse.mono _ _ _)
      | (with_reducible exact LeO.refl _)
      | (with_reducible exact LeO.none _)
      | (with_reducible refine LeO.ite ?_ ?_)
      | (with_reducible refine LeO.bind ?_ (fun _ => ?_))
      | exact ih0 _ _ _ _ _ _
      | exact ih1 _ _ _ _ _ _ _ _ _ _
      | exact ih2 _ _ _ _
      | exact ih3 _ _ _ _ _
      | exact ih4 _ _ _ _ _ _ _
      | exact ih5 _ _ _ _ _ _
      | exact ih6 _ _ _ _ _ _ _ _ _
      | exact ih7 _ _ _ _ _ _ _ _ _
      | exact ih8 _ _ _ _ _
      | exact impl_inverse.mono _ _ _
      | exact LeO.none _
      | refine LeO.ite ?_ ?_
      | refine LeO.bind ?_ (fun _ => ?_)
    · intro y0 y1 y2 y3 y4
      unfold impl_reduced.l3
      repeat' first
      | (with_reducible exact ih0 _ _ _ _ _ _)
      | (with_reducible exact ih1 _ _ _ _ _ _ _ _ _ _)
      | (with_reducible exact ih2 _ _ _ _)
      | (with_reducible exact ih3 _ _ _ _ _)
      | (with_reducible exact ih4 _ _ _ _ _ _ _)
      | (with_reducible exact ih5 _ _ _ _ _ _)
      | (with_reducible exact ih6 _ _ _ _ _ _ _ _ _)
      | (with_reducible exact ih7 _ _ _ _ _ _ _ _ _)
      | (with_reducible exact ih8 _ _ _ _ _)
      | (with_reducible exact impl_inverse.mono _ _ _)
      | (with_reducible exact LeO.refl _)
      | (with_reducible exact LeO.none _)
      | (with_reducible refine LeO.ite ?_ ?_)
      | (with_reducible refine LeO.bind ?_ (fun _ => ?_))
      | exact ih0 _ _ _ _ _ _
      | exact ih1 _ _ _ _ _ _ _ _ _ _
      | exact ih2 _ _ _ _
      | exact ih3 _ _ _ _ _
      | exact ih4 _ _ _ _ _ _ _
      | exact ih5 _ _ _ _ _ _
      | exact ih6 _ _ _ _ _ _ _ _ _
      | exact ih7 _ _ _ _ _ _ _ _ _
      | exact ih8 _ _ _ _ _
      | exact impl_inverse.mono _ _ _
      | exact LeO.none _
      | refine LeO.ite ?_ ?_
      | refine LeO.bind ?_ (fun _ => ?_)
theorem impl_reduced.mono : ∀ a0 a1 k, LeO (impl_reduced.f k a0 a1) (impl_reduced.f (k + 1) a0 a1) := by
  intro a0 a1 k
  obtain ⟨ih0, ih1, ih2, ih3, ih4, ih5, ih6, ih7, ih8⟩ := impl_reduced.mono_l k
  unfold impl_reduced.f
  repeat' first
      | (with_reducible exact ih0 _ _ _ _ _ _)
      | (with_reducible exact ih1 _ _ _ _ _ _ _ _ _ _)
      | (with_reducible exact ih2 _ _ _ _)
      | (with_reducible exact ih3 _ _ _ _ _)
      | (with_reducible exact ih4 _ _ _ _ _ _ _)
      | (with_reducible exact ih5 _ _ _ _ _ _)
      | (with_reducible exact ih6 _ _ _ _ _ _ _ _ _)
      | (with_reducible exact ih7 _ _ _ _ _ _ _ _ _)
      | (with_reducible exact ih8 _ _ _ _ _)
      | (with_reducible exact impl_inverse.mono _ _ _)
      | (with_reducible exact LeO.refl _)
      | (with_reducible exact LeO.none _)
      | (with_reducible refine LeO.ite ?_ ?_)
      | (with_reducible refine LeO.bind ?_ (fun _ => ?_))
      | exact ih0 _ _ _ _ _ _
      | exact ih1 _ _ _ _ _ _ _ _ _ _
      | exact ih2 _ _ _ _
      | exact ih3 _ _ _ _ _
      | exact ih4 _ _ _ _ _ _ _
      | exact ih5 _ _ _ _ _ _
      | exact ih6 _ _ _ _ _ _ _ _ _
      | exact ih7 _ _ _ _ _ _ _ _ _
      | exact ih8 _ _ _ _ _
      | exact impl_inverse.mono _ _ _
      | exact LeO.none _
      | refine LeO.ite ?_ ?_
      | refine LeO.bind ?_ (fun _ => ?_)
def impl_reduced.T20 : Bool × List (List Nat × List Nat) := (true, [([], []), ([], []), ([], []), ([], []), ([], []), ([], []), ([4, 5], [4, 5]), ([6], [6]), ([], []), ([], []), ([8, 9], [8, 9]), ([10], [10]), ([0, 1, 0, 1, 4, 5, 6, 7, 11], [0, 1]), ([12, 7, 0, 1, 4, 5, 6, 7, 11], [7, 12]), ([2, 3, 0, 1, 2, 3, 4, 5, 6, 7, 8, 9, 10, 11, 12, 13], [2, 3]), ([14, 11, 13, 0, 1, 2, 3, 4, 5, 6, 7, 8, 9, 10, 11, 12, 13], [11, 14])])
def impl_reduced.B20 : List Nat := [0, 0, 0, 0, 0, 0, 48, 112, 0, 0, 768, 1792, 4083, 8179, 16383, 32767]
theorem impl_reduced.tab20 : rtab .any (opsOf Try.f87 20) = impl_reduced.T20 := by kernel_rfl
theorem impl_reduced.bits20 : waitsOk impl_reduced.T20.2 impl_reduced.B20 = true := by kernel_rfl
def impl_reduced.T24 : Bool × List (List Nat × List Nat) := (true, [([], []), ([], []), ([0, 1], [0, 1]), ([2], [2]), ([], []), ([], []), ([], []), ([5, 6], [5, 6]), ([7], [7]), ([], []), ([], []), ([], []), ([10, 11], [10, 11]), ([12], [12]), ([], []), ([13, 14], [13, 14]), ([15], [15]), ([], []), ([], []), ([17, 18], [17, 18]), ([19], [19]), ([], []), ([20, 21], [20, 21]), ([22], [22]), ([3, 4, 0, 1, 2, 3, 4, 8, 10, 11, 12, 13, 14, 15, 16, 20, 23], [3, 4]), ([24, 16, 0, 1, 2, 3, 4, 8, 10, 11, 12, 13, 14, 15, 16, 20, 23], [16, 24]), ([8, 9, 0, 1, 2, 3, 4, 5, 6, 7, 8, 9, 10, 11, 12, 13, 14, 15, 16, 17, 18, 19, 20, 21, 22, 23, 24, 25], [8, 9]), ([26, 23, 25, 0, 1, 2, 3, 4, 5, 6, 7, 8, 9, 10, 11, 12, 13, 14, 15, 16, 17, 18, 19, 20, 21, 22, 23, 24, 25], [23, 26])])
def impl_reduced.B24 : List Nat := [0, 0, 3, 7, 0, 0, 0, 96, 224, 0, 0, 0, 3072, 7168, 0, 31744, 64512, 0, 0, 393216, 917504, 0, 4063232, 8257536, 16776703, 33553919, 67108863, 134217727]
theorem impl_reduced.tab24 : rtab .any (opsOf Try.f87 24) = impl_reduced.T24 := by kernel_rfl
theorem impl_reduced.bits24 : waitsOk impl_reduced.T24.2 impl_reduced.B24 = true := by kernel_rfl
def impl_reduced.T35 : Bool × List (List Nat × List Nat) := (true, [([], []), ([], []), ([0, 1], [0, 1]), ([2], [2]), ([], []), ([], []), ([], []), ([5, 6], [5, 6]), ([7], [7]), ([], []), ([8, 9], [8, 9]), ([10], [10]), ([], []), ([], []), ([], []), ([13, 14], [13, 14]), ([15], [15]), ([], []), ([16, 17], [16, 17]), ([18], [18]), ([12, 19], [12, 19]), ([11, 20], [11, 20]), ([], []), ([21, 22], [21, 22]), ([3, 4, 0, 1, 2, 3, 4, 5, 6, 7, 8, 9, 10, 11, 12, 13, 14, 15, 16, 17, 18, 19, 20, 21, 22, 23], [3, 4]), ([24, 23, 23, 0, 1, 2, 3, 4, 5, 6, 7, 8, 9, 10, 11, 12, 13, 14, 15, 16, 17, 18, 19, 20, 21, 22, 23], [23, 24])])
def impl_reduced.B35 : List Nat := [0, 0, 3, 7, 0, 0, 0, 96, 224, 0, 992, 2016, 0, 0, 0, 24576, 57344, 0, 253952, 516096, 1044480, 2097120, 0, 8388576, 16777215, 33554431]
theorem impl_reduced.tab35 : rtab .any (opsOf Try.f87 35) = impl_reduced.T35 := by kernel_rfl
theorem impl_reduced.bits35 : waitsOk impl_reduced.T35.2 impl_reduced.B35 = true := by kernel_rfl
def impl_reduced.T40 : Bool × List (List Nat × List Nat) := (true, [([], []), ([], []), ([0, 1], [0, 1]), ([2], [2]), ([], []), ([], []), ([], []), ([5, 6], [5, 6]), ([7], [7]), ([], []), ([8, 9], [8, 9]), ([10], [10]), ([], []), ([], []), ([], []), ([13, 14], [13, 14]), ([15], [15]), ([], []), ([16, 17], [16, 17]), ([18], [18]), ([12, 19], [12, 19]), ([11, 20], [11, 20]), ([], []), ([21, 22], [21, 22]), ([3, 4, 0, 1, 2, 3, 4, 5, 6, 7, 8, 9, 10, 11, 12, 13, 14, 15, 16, 17, 18, 19, 20, 21, 22, 23], [3, 4]), ([24, 23, 0, 1, 2, 3, 4, 5, 6, 7, 8, 9, 10, 11, 12, 13, 14, 15, 16, 17, 18, 19, 20, 21, 22, 23], [23, 24])])
def impl_reduced.B40 : List Nat := [0, 0, 3, 7, 0, 0, 0, 96, 224, 0, 992, 2016, 0, 0, 0, 24576, 57344, 0, 253952, 516096, 1044480, 2097120, 0, 8388576, 16777215, 33554431]
theorem impl_reduced.tab40 : rtab .any (opsOf Try.f87 40) = impl_reduced.T40 := by kernel_rfl
theorem impl_reduced.bits40 : waitsOk impl_reduced.T40.2 impl_reduced.B40 = true := by kernel_rfl
set_option maxHeartbeats 8000000 in
set_option maxRecDepth 100000 in
theorem impl_reduced.calls (k : Nat) (A0 : Option Addr) (c0 : Nat) (l0 : List (List Int)) (a1 : Int) (r : List (List Int)) (w : World) (hr0 : Kd.C (Kd.slice 2 (Kd.int .i64)) w A0 l0.length l0) (hc0 : l0.length ≤ c0) (h : impl_reduced.f k l0 a1 = some r) :
    Calls Try.prog 87 #[.slice A0 l0.length c0, .int .i64 a1] w fun e w' => ∃ v0_ : Value, e = .returned (v0_) ∧ Kd.S (Kd.slice 2 (Kd.int .i64)) 32 w' w.heap.size (fun _ => True) v0_ r ∧ Below w.heap.size w w' := by
  have HR0 := Aside0.mk hr0
  have HC0 := Aside0.mk hc0
  clear hr0 hc0
  have HB := Aside0.mk (Below.refl w.heap.size w)
  have H : (impl_reduced.l0 k a1 (([] : List (List Int))) (l0.length : Int) l0 (l0.length : Int) 0) = some r := h
  clear h
  obtain ⟨y101, hy101⟩ : ∃ y_ : List (List Int), y_ = (([] : List (List Int))) := ⟨_, rfl⟩
  replace H : (impl_reduced.l0 k a1 y101 (l0.length : Int) l0 (l0.length : Int) 0) = some r := by first | (rw [hy101]; with_reducible exact H) | (have H2_ := (Option.bind_some _ _).symm.trans H; rw [hy101]; with_reducible exact H2_) | (have H2_ := (Option.bind_some _ _).symm.trans H; with_reducible exact H2_) | with_reducible exact H | (rw [hy101]; exact H) | exact H
  have Ny101 := Aside0.mk hy101
  clear hy101
  have H' := Aside0.mk H
  clear H
  go_enter Try.func87, Try.ntmps87
  go_wp2_with (first | ((with_reducible refine gate_dst (N := 20) rfl ?_); refine Kd.S_lit (Kd.slice 2 (Kd.int .i64)) _ 32 ?hg (N := 20) ?hd (xs := ([] : List (List Int))) (inner := []) (ok := fun _ => True) (okp := fun _ => True) ?hr ?hp (fun _ hk => hk) trivial (Below.refl _ _) (Nat.le_refl _) (by simp) ?_; (case hd => rfl); (case hg => rfl); (case hr => first | (go_simp; done) | (go_simp; rfl)); (case hp => exact (Reps.none _ _)); intro v102 w3 ho4 hb hg_ hnew_; clear hg_ hnew_; (first | rw [← Ny101.out] at ho4 | (simp only [Int.reduceToNat] at ho4; rw [← Ny101.out] at ho4)); have n0_ := Aside0.mk (Kd.S_lower ho4 (below_size bl)); have n1_ := Aside0.mk (below_step bl hb); clear HB; have HO103 := n0_; have HB := n1_; clear n0_ n1_; clear hb ho4))
  go_loopg [5, 25] k (fun kq v5 v25 w' => ∃ (x5_1 : List (List Int)) (x25_1 : Int), v25 = .int .i64 x25_1 ∧ Aside0 (impl_reduced.l0 kq a1 x5_1 (l0.length : Int) l0 (l0.length : Int) x25_1 = some r) ∧ Aside0 (kq ≤ k) ∧ Aside0 (Kd.S (Kd.slice 2 (Kd.int .i64)) 32 w' w.heap.size (fun _ => True) v5 x5_1) ∧ Aside0 (Below w.heap.size w w'))
  case atStart => exact ⟨(y101), (0), rs, H', ⟨Nat.le_refl _⟩, ⟨by (with_reducible repeat (first | apply Kd.S_alloc | apply Kd.S_drewN | apply Kd.S_drew)); exact HO103.out⟩, ⟨bl⟩⟩
  case round =>
    clear H'
    (try clear p2)
    obtain ⟨x5_1, x25_1, rfl, HA, HK1, HO_5, HB⟩ := hrel
    cases gk with
    | zero => exact absurd HA.out (by simp [impl_reduced.l0])
    | succ k1 =>
      have H := HA.out
      clear HA
      simp only [impl_reduced.l0] at H
      by_cases c5 : x25_1 < (l0.length : Int)
      case neg =>
        rw [if_neg c5] at H
        have c5b0 : decide (x25_1 < (l0.length : Int)) = false := decide_eq_false c5
        clear c5
        have H' := Aside0.mk H
        clear H
        go_wp2
        go_loopg [12] k1 (fun kq v12 w' => ∃ (x5_2 : List (List Int)) (x12_2 : Int), v12 = .int .i64 x12_2 ∧ Aside0 (impl_reduced.l2 kq a1 x5_2 (l0.length : Int) x12_2 = some r) ∧ Aside0 (kq ≤ k1) ∧ Aside0 (Kd.S (Kd.slice 2 (Kd.int .i64)) 32 w' w.heap.size (fun _ => True) u5 x5_2) ∧ Aside0 (Below w.heap.size w w'))
        case atStart => exact ⟨(x5_1), (1), rs, H', ⟨Nat.le_refl _⟩, ⟨by (with_reducible repeat (first | apply Kd.S_alloc | apply Kd.S_drewN | apply Kd.S_drew)); exact HO_5.out⟩, ⟨bl⟩⟩
        case round =>
          clear H'
          (try clear c1); (try clear p1); (try clear q1); (try clear hx1); (try clear p2); (try clear c5); (try clear c5b0); (try clear c6); (try clear c6b0); (try clear p6); (try clear c7); (try clear c7b0); (try clear c8); (try clear c10); (try clear c10b0); (try clear p10); (try clear q10); (try clear hx10); (try clear c11); (try clear c11b0); (try clear c12); (try clear c12b0); (try clear c14); (try clear c16); (try clear hx104_0); (try clear hx108_0); (try clear p1); (try clear p104); (try clear p108); (try clear p2); (try clear q1); (try clear q104); (try clear q108)
          obtain ⟨x5_2, x12_2, rfl, HA, HK2, HO_5, HB⟩ := hrel
          cases gk with
          | zero => exact absurd HA.out (by simp [impl_reduced.l2])
          | succ k2 =>
            have H := HA.out
            clear HA
            simp only [impl_reduced.l2] at H
            by_cases c19 : x12_2 < (wrap64 ((l0.length : Int) - 1))
            case neg =>
              rw [if_neg c19] at H
              have c19b0 : decide (x12_2 < (wrap64 ((l0.length : Int) - 1))) = false := decide_eq_false c19
              clear c19
              obtain rfl := Option.some.inj H
              go_wp2
              go_ret
              exact ⟨_, by first | rfl | (simp [errW_none, errW_some] <;> rfl) | (simp [*, errW_none, errW_some] <;> rfl), by (with_reducible repeat (first | apply Kd.S_alloc | apply Kd.S_drewN | apply Kd.S_drew)); exact HO_5.out, bl⟩
            rw [if_pos c19] at H
            have c19b0 : decide (x12_2 < (wrap64 ((l0.length : Int) - 1))) = true := decide_eq_true c19
            clear c19
            have HC20 := Aside0.mk H
            clear H
            go_upto_block 6 with (fail)
            go_cut [13] (fun v13 wc => ∃ (kq : Nat) (x13_19 : Int), v13 = .int .i64 x13_19 ∧ Aside0 (impl_reduced.j4 kq a1 x5_2 (l0.length : Int) x12_2 x13_19 = some r) ∧ Aside0 (kq ≤ k2) ∧ Aside0 (Kd.S (Kd.slice 2 (Kd.int .i64)) 32 wc w.heap.size (fun _ => True) u5 x5_2) ∧ Aside0 (Below w.heap.size w wc))
            case first =>
              have H := HC20.out
              clear HC20
              have H' := Aside0.mk H
              clear H
              go_wp2
              go_loopg [13] k2 (fun kq v13 w' => ∃ (x13_3 : Int), v13 = .int .i64 x13_3 ∧ Aside0 (impl_reduced.l3 kq a1 x5_2 (l0.length : Int) x12_2 x13_3 = some r) ∧ Aside0 (kq ≤ k2) ∧ Aside0 (Kd.S (Kd.slice 2 (Kd.int .i64)) 32 w' w.heap.size (fun _ => True) u5 x5_2) ∧ Aside0 (Below w.heap.size w w'))
              case atStart => exact ⟨(x12_2), rs, H', ⟨Nat.le_refl _⟩, ⟨by (with_reducible repeat (first | apply Kd.S_alloc | apply Kd.S_drewN | apply Kd.S_drew)); exact HO_5.out⟩, ⟨bl⟩⟩
              case round =>
                clear H'
                (try clear c1); (try clear p1); (try clear q1); (try clear hx1); (try clear p2); (try clear c5); (try clear c5b0); (try clear c6); (try clear c6b0); (try clear p6); (try clear c7); (try clear c7b0); (try clear c8); (try clear c10); (try clear c10b0); (try clear p10); (try clear q10); (try clear hx10); (try clear c11); (try clear c11b0); (try clear c12); (try clear c12b0); (try clear c14); (try clear c16); (try clear c19); (try clear c19b0); (try clear hx104_0); (try clear hx108_0); (try clear p1); (try clear p10); (try clear p104); (try clear p108); (try clear p2); (try clear p6); (try clear q1); (try clear q10); (try clear q104); (try clear q108)
                obtain ⟨x13_3, rfl, HA, HK3, HO_5, HB⟩ := hrel
                cases gk with
                | zero => exact absurd HA.out (by simp [impl_reduced.l3])
                | succ k3 =>
                  have H := HA.out
                  clear HA
                  simp only [impl_reduced.l3] at H
                  by_cases c21 : x13_3 < (l0.length : Int)
                  case neg =>
                    rw [if_neg c21] at H
                    have c21b0 : decide (x13_3 < (l0.length : Int)) = false := decide_eq_false c21
                    clear c21
                    (first | rw [c21b0] | (simp only [i64_w, i32_w]; rw [c21b0]) | skip)
                    have H' := Aside0.mk H
                    clear H
                    go_wp2
                    go_meet
                    case rel => exact ⟨_, (x13_3), rs, (by first | exact H' | (rw [hji24]; exact H') | (rw [hji55]; exact H')), ⟨by have := HK1.out; have := HK2.out; have := HK3.out; first | omega | exact Nat.le_refl _⟩, ⟨by (with_reducible repeat (first | apply Kd.S_alloc | apply Kd.S_drewN | apply Kd.S_drew)); exact HO_5.out⟩, ⟨bl⟩⟩
                  rw [if_pos c21] at H
                  have c21b0 : decide (x13_3 < (l0.length : Int)) = true := decide_eq_true c21
                  clear c21
                  (first | rw [c21b0] | (simp only [i64_w, i32_w]; rw [c21b0]) | skip)
                  by_cases c22 : 0 ≤ x13_3
                  case neg => rw [if_neg c22] at H; exact absurd H (by simp)
                  rw [if_pos c22] at H
                  have c22b0 : decide (0 ≤ x13_3) = true := decide_eq_true c22
                  clear c22
                  by_cases c23 : x13_3 < (x5_2.length : Int)
                  case neg => rw [if_neg c23] at H; exact absurd H (by simp)
                  rw [if_pos c23] at H
                  have c23b0 : decide (x13_3 < (x5_2.length : Int)) = true := decide_eq_true c23
                  clear c23
                  obtain ⟨ji24, hji24⟩ : ∃ j_ : Int, (wrap64 (x12_2 - 1)) = j_ := ⟨_, rfl⟩
                  replace H : (if 0 ≤ (ji24) then (if (ji24) < ((rd_L1 x5_2 x13_3).length : Int) then (if (rd (rd_L1 x5_2 x13_3) (ji24)) = 0 then (impl_reduced.l3 k3 a1 x5_2 (l0.length : Int) x12_2 (wrap64 (x13_3 + 1))) else (impl_reduced.j4 k3 a1 x5_2 (l0.length : Int) x12_2 x13_3)) else (none)) else (none)) = some r := by first | (rw [hji24] at H; exact H) | (simp only [hji24] at H ⊢; exact H)
                  have hji24w : (IntKind.i64.wrap (x12_2 - 1)) = ji24 := (i64_w _).trans hji24
                  by_cases c25 : 0 ≤ (ji24)
                  case neg => rw [if_neg c25] at H; exact absurd H (by simp)
                  rw [if_pos c25] at H
                  have c25b0 : decide (0 ≤ (ji24)) = true := decide_eq_true c25
                  clear c25
                  by_cases c26 : (ji24) < ((rd_L1 x5_2 x13_3).length : Int)
                  case neg => rw [if_neg c26] at H; exact absurd H (by simp)
                  rw [if_pos c26] at H
                  have c26b0 : decide ((ji24) < ((rd_L1 x5_2 x13_3).length : Int)) = true := decide_eq_true c26
                  clear c26
                  by_cases c27 : (rd (rd_L1 x5_2 x13_3) (ji24)) = 0
                  case neg =>
                    rw [if_neg c27] at H
                    have c27b0 : ((rd (rd_L1 x5_2 x13_3) (ji24)) == 0) = false := beq_eq_false_iff_ne.mpr c27
                    have c27b1 : ((rd (rd_L1 x5_2 x13_3) (ji24)) != 0) = true := bne_iff_ne.mpr c27
                    have H' := Aside0.mk H
                    clear H
                    obtain ⟨Ao29, co29, eo29⟩ := Kd.S_slice HO_5.out
                    subst eo29
                    have p116 : 0 ≤ (x13_3 : Int) := oD
                    have q116 : x13_3 < (x5_2.length : Int) := oD
                    obtain ⟨ad116, A116_0, c116_0, e116, hx116_0, hl116_0, hi116_0⟩ := at_L1 (Kd.S_reads' HO_5.out).2.2 x13_3 p116 q116
                    cases e116
                    obtain ⟨ce116, hce116, hMe116, hcc116⟩ := Kd.S_get HO_5.out [] x13_3 p116 (by first | exact q116 | exact oD | (have e_ := (Kd.S_reads' HO_5.out).1; omega))
                    obtain ⟨ve116_0, rfl, ge116_0⟩ := hMe116
                    have hv116_0 := hcc116 0 _ rfl
                    rw [Nat.add_zero, show ((Kd.slice 2 (Kd.int .i64))).sz = 1 from rfl, Nat.mul_one] at hv116_0
                    replace hv116_0 := Option.some.inj (hv116_0.symm.trans hx116_0)
                    rw [hv116_0] at ge116_0
                    have HL116_0 := Aside0.mk (show Kd.R (Kd.int .i64) 2 _ _ _ _ (rd_L1 x5_2 x13_3) from ge116_0)
                    clear hv116_0 ge116_0
                    have HX116_0 := Aside0.mk hx116_0
                    clear hcc116 hce116
                    have HR116_0 := Aside0.mk hi116_0
                    have HC116_0 := Aside0.mk hl116_0
                    clear hi116_0 hl116_0
                    replace p116 := eq_true p116
                    replace q116 := eq_true q116
                    have p117 : 0 ≤ ((ji24) : Int) := oD
                    have q117 : (ji24) < ((rd_L1 x5_2 x13_3).length : Int) := oD
                    obtain ⟨ad117, e117, hx117_0⟩ := Kd.at_int (by repeat (first | (with_reducible exact HR116_0.out) | (with_reducible refine Kd.C_alloc ?_ _) | (with_reducible refine Kd.C_drewN ?_ _) | (with_reducible refine Kd.C_drew ?_) | exact HR116_0.out)) (ji24) p117 q117
                    cases e117
                    replace p117 := eq_true p117
                    replace q117 := eq_true q117
                    go_wp2
                    go_meet
                    case rel => exact ⟨_, (x13_3), rs, (by first | exact H' | (rw [hji24]; exact H') | (rw [hji55]; exact H')), ⟨by have := HK1.out; have := HK2.out; have := HK3.out; first | omega | exact Nat.le_refl _⟩, ⟨by (with_reducible repeat (first | apply Kd.S_alloc | apply Kd.S_drewN | apply Kd.S_drew)); exact HO_5.out⟩, ⟨bl⟩⟩
                  rw [if_pos c27] at H
                  have c27b0 : ((rd (rd_L1 x5_2 x13_3) (ji24)) == 0) = true := beq_iff_eq.mpr c27
                  have c27b1 : ((rd (rd_L1 x5_2 x13_3) (ji24)) != 0) = false := bne_eq_false_iff_eq.mpr c27
                  clear c27
                  have H' := Aside0.mk H
                  clear H
                  obtain ⟨Ao28, co28, eo28⟩ := Kd.S_slice HO_5.out
                  subst eo28
                  have p116 : 0 ≤ (x13_3 : Int) := oD
                  have q116 : x13_3 < (x5_2.length : Int) := oD
                  obtain ⟨ad116, A116_0, c116_0, e116, hx116_0, hl116_0, hi116_0⟩ := at_L1 (Kd.S_reads' HO_5.out).2.2 x13_3 p116 q116
                  cases e116
                  obtain ⟨ce116, hce116, hMe116, hcc116⟩ := Kd.S_get HO_5.out [] x13_3 p116 (by first | exact q116 | exact oD | (have e_ := (Kd.S_reads' HO_5.out).1; omega))
                  obtain ⟨ve116_0, rfl, ge116_0⟩ := hMe116
                  have hv116_0 := hcc116 0 _ rfl
                  rw [Nat.add_zero, show ((Kd.slice 2 (Kd.int .i64))).sz = 1 from rfl, Nat.mul_one] at hv116_0
                  replace hv116_0 := Option.some.inj (hv116_0.symm.trans hx116_0)
                  rw [hv116_0] at ge116_0
                  have HL116_0 := Aside0.mk (show Kd.R (Kd.int .i64) 2 _ _ _ _ (rd_L1 x5_2 x13_3) from ge116_0)
                  clear hv116_0 ge116_0
                  have HX116_0 := Aside0.mk hx116_0
                  clear hcc116 hce116
                  have HR116_0 := Aside0.mk hi116_0
                  have HC116_0 := Aside0.mk hl116_0
                  clear hi116_0 hl116_0
                  replace p116 := eq_true p116
                  replace q116 := eq_true q116
                  have p117 : 0 ≤ ((ji24) : Int) := oD
                  have q117 : (ji24) < ((rd_L1 x5_2 x13_3).length : Int) := oD
                  obtain ⟨ad117, e117, hx117_0⟩ := Kd.at_int (by repeat (first | (with_reducible exact HR116_0.out) | (with_reducible refine Kd.C_alloc ?_ _) | (with_reducible refine Kd.C_drewN ?_ _) | (with_reducible refine Kd.C_drew ?_) | exact HR116_0.out)) (ji24) p117 q117
                  cases e117
                  replace p117 := eq_true p117
                  replace q117 := eq_true q117
                  go_wp2
                  first | go_roundg k3 | (simp only [← hji24]; go_roundg k3) | (simp only [← hji55]; go_roundg k3)
                  case measure => have := HK1.out; have := HK2.out; have := HK3.out; omega
                  case rel => exact ⟨(wrap64 (x13_3 + 1)), rs, (by first | exact H' | (rw [hji24]; exact H') | (rw [hji55]; exact H')), ⟨by have := HK1.out; have := HK2.out; have := HK3.out; omega⟩, ⟨by (with_reducible repeat (first | apply Kd.S_alloc | apply Kd.S_drewN | apply Kd.S_drew)); exact HO_5.out⟩, ⟨bl⟩⟩
            case rest =>
              clear HC20
              (try clear c1); (try clear p1); (try clear q1); (try clear hx1); (try clear c2); (try clear p2); (try clear c5); (try clear c5b0); (try clear c6); (try clear c6b0); (try clear p6); (try clear c7); (try clear c7b0); (try clear c8); (try clear c10); (try clear c10b0); (try clear p10); (try clear q10); (try clear hx10); (try clear c11); (try clear c11b0); (try clear p11); (try clear q11); (try clear hx11); (try clear c12); (try clear c12b0); (try clear c14); (try clear c16); (try clear c19); (try clear c19b0); (try clear c21); (try clear c21b0); (try clear c22); (try clear c22b0); (try clear c23); (try clear c23b0); (try clear c25); (try clear c25b0); (try clear c26); (try clear c26b0); (try clear c27); (try clear c27b0); (try clear c27b1); (try clear hx104_0); (try clear hx108_0); (try clear hx116_0); (try clear hx117_0); (try clear p1); (try clear p10); (try clear p104); (try clear p108); (try clear p116); (try clear p117); (try clear p2); (try clear p6); (try clear q1); (try clear q10); (try clear q104); (try clear q108); (try clear q116); (try clear q117)
              obtain ⟨kq, x13_19, rfl, HA, HJ19, HO_5, HB⟩ := hcut
              cases kq with
              | zero => exact absurd HA.out (by simp [impl_reduced.j4])
              | succ kj19 =>
                have H := HA.out
                clear HA
                simp only [impl_reduced.j4] at H
                by_cases c30 : x13_19 = (l0.length : Int)
                case neg =>
                  rw [if_neg c30] at H
                  have c30b0 : (x13_19 == (l0.length : Int)) = false := beq_eq_false_iff_ne.mpr c30
                  have c30b1 : (x13_19 != (l0.length : Int)) = true := bne_iff_ne.mpr c30
                  by_cases c31 : 0 ≤ x12_2
                  case neg => rw [if_neg c31] at H; exact absurd H (by simp)
                  rw [if_pos c31] at H
                  have c31b0 : decide (0 ≤ x12_2) = true := decide_eq_true c31
                  clear c31
                  by_cases c32 : x12_2 < (x5_2.length : Int)
                  case neg => rw [if_neg c32] at H; exact absurd H (by simp)
                  rw [if_pos c32] at H
                  have c32b0 : decide (x12_2 < (x5_2.length : Int)) = true := decide_eq_true c32
                  clear c32
                  by_cases c33 : 0 ≤ x13_19
                  case neg => rw [if_neg c33] at H; exact absurd H (by simp)
                  rw [if_pos c33] at H
                  have c33b0 : decide (0 ≤ x13_19) = true := decide_eq_true c33
                  clear c33
                  by_cases c34 : x13_19 < (x5_2.length : Int)
                  case neg => rw [if_neg c34] at H; exact absurd H (by simp)
                  rw [if_pos c34] at H
                  have c34b0 : decide (x13_19 < (x5_2.length : Int)) = true := decide_eq_true c34
                  clear c34
                  obtain ⟨y120, hy120⟩ : ∃ y_ : List (List Int), y_ = (swp x5_2 x13_19 x12_2) := ⟨_, rfl⟩
                  replace H : (impl_reduced.l4 kj19 a1 y120 (l0.length : Int) x12_2 x13_19 (x5_2.length : Int) 0) = some r := by first | (rw [hy120]; with_reducible exact H) | (have H2_ := (Option.bind_some _ _).symm.trans H; rw [hy120]; with_reducible exact H2_) | (have H2_ := (Option.bind_some _ _).symm.trans H; with_reducible exact H2_) | with_reducible exact H | (rw [hy120]; exact H) | exact H
                  have Ny120 := Aside0.mk hy120
                  clear hy120
                  have H' := Aside0.mk H
                  clear H
                  try go_wp2
                  have n0_ := Aside0.mk (Kd.S_drew HO_5.out)
                  have n1_ := Aside0.mk (below_drew1 HB.out)
                  clear HO_5
                  clear HB
                  have HO_5 := n0_
                  have HB := n1_
                  clear n0_ n1_
                  obtain ⟨Ao37, co37, eo37⟩ := Kd.S_slice HO_5.out
                  (first | subst eo37 | (injection eo37 with f1_ f2_ f3_; have f4_ := f1_.symm; have f5_ := f3_.symm; clear f1_ f2_ f3_; subst f4_; subst f5_))
                  have p118 : 0 ≤ (x12_2 : Int) := oD
                  have q118 : x12_2 < (x5_2.length : Int) := oD
                  obtain ⟨ad118, A118_0, c118_0, e118, hx118_0, hl118_0, hi118_0⟩ := at_L1 (Kd.S_reads' HO_5.out).2.2 x12_2 p118 q118
                  cases e118
                  obtain ⟨ce118, hce118, hMe118, hcc118⟩ := Kd.S_get HO_5.out [] x12_2 p118 (by first | exact q118 | exact oD | (have e_ := (Kd.S_reads' HO_5.out).1; omega))
                  obtain ⟨ve118_0, rfl, ge118_0⟩ := hMe118
                  have hv118_0 := hcc118 0 _ rfl
                  rw [Nat.add_zero, show ((Kd.slice 2 (Kd.int .i64))).sz = 1 from rfl, Nat.mul_one] at hv118_0
                  replace hv118_0 := Option.some.inj (hv118_0.symm.trans hx118_0)
                  rw [hv118_0] at ge118_0
                  have HL118_0 := Aside0.mk (show Kd.R (Kd.int .i64) 2 _ _ _ _ (rd_L1 x5_2 x12_2) from ge118_0)
                  clear hv118_0 ge118_0
                  have HX118_0 := Aside0.mk hx118_0
                  clear hcc118 hce118
                  have HR118_0 := Aside0.mk hi118_0
                  have HC118_0 := Aside0.mk hl118_0
                  clear hi118_0 hl118_0
                  replace p118 := eq_true p118
                  replace q118 := eq_true q118
                  have p119 : 0 ≤ (x13_19 : Int) := oD
                  have q119 : x13_19 < (x5_2.length : Int) := oD
                  obtain ⟨ad119, A119_0, c119_0, e119, hx119_0, hl119_0, hi119_0⟩ := at_L1 (Kd.S_reads' HO_5.out).2.2 x13_19 p119 q119
                  obtain rfl : ad118 = ad119 := (by injection e119)
                  obtain ⟨ce119, hce119, hMe119, hcc119⟩ := Kd.S_get HO_5.out [] x13_19 p119 (by first | exact q119 | exact oD | (have e_ := (Kd.S_reads' HO_5.out).1; omega))
                  obtain ⟨ve119_0, rfl, ge119_0⟩ := hMe119
                  have hv119_0 := hcc119 0 _ rfl
                  rw [Nat.add_zero, show ((Kd.slice 2 (Kd.int .i64))).sz = 1 from rfl, Nat.mul_one] at hv119_0
                  replace hv119_0 := Option.some.inj (hv119_0.symm.trans hx119_0)
                  rw [hv119_0] at ge119_0
                  have HL119_0 := Aside0.mk (show Kd.R (Kd.int .i64) 2 _ _ _ _ (rd_L1 x5_2 x13_19) from ge119_0)
                  clear hv119_0 ge119_0
                  have HX119_0 := Aside0.mk hx119_0
                  clear hcc119 hce119
                  have HR119_0 := Aside0.mk hi119_0
                  have HC119_0 := Aside0.mk hl119_0
                  clear hi119_0 hl119_0
                  replace p119 := eq_true p119
                  replace q119 := eq_true q119
                  have p35 : 0 ≤ (x13_19 : Int) := oD
                  have q35 : (x13_19 : Int) < ((x5_2.length : Int) : Int) := oD
                  obtain ⟨go35, co35, eo35, gb35, gl35, cl35, HG35⟩ := Kd.S_form HO_5.out (by omega)
                  (first | cases eo35 | (injection eo35 with ea_ en_ ec_; (first | subst ea_ | (injection ea_ with ea_; subst ea_)); subst ec_; clear en_))
                  have GB35 := Aside0.mk gb35
                  have GG35 := Aside0.mk HG35
                  clear gb35 gl35 HG35
                  (first | simp only [add_plain] at hx118_0 | skip)
                  (first | simp only [add_plain] at hx119_0 | skip)
                  obtain ⟨_, ce35, hcl35, hM35, hcc35, hfr35, _, _⟩ := Kd.S_elem HO_5.out [] (x13_19 : Int) p35 q35
                  obtain ⟨ve35_0, rfl, ge35_0⟩ := hM35
                  have hx35_0 := hcc35 0 _ rfl
                  have hf35_0 := hfr35 0
                  (try simp only [show ((Kd.slice 2 (Kd.int .i64))).sz = 1 from rfl, Nat.mul_one, Nat.add_zero] at hx35_0)
                  (try simp only [show ((Kd.slice 2 (Kd.int .i64))).sz = 1 from rfl, Nat.mul_one, Nat.add_zero] at hf35_0)
                  (try clear hM35); clear hcl35 hcc35 hfr35 
                  replace p35 := eq_true p35
                  replace q35 := eq_true q35
                  have HP38 := S_swap HO_5.out (x13_19 : Int) (x12_2 : Int) oD (by have h_ : (x13_19 : Int) < ((x5_2.length : Int) : Int) := oD; first | exact h_ | (have e_ := (Kd.S_reads' HO_5.out).1; omega) | simpa using h_) oD (by have h_ : (x12_2 : Int) < ((x5_2.length : Int) : Int) := oD; first | exact h_ | (have e_ := (Kd.S_reads' HO_5.out).1; omega) | simpa using h_) (by first | exact HX119_0.out | simpa only [add_plain, add_at, Nat.mul_one, Nat.zero_add, Nat.add_zero] using HX119_0.out) (by first | exact HX118_0.out | simpa only [add_plain, add_at, Nat.mul_one, Nat.zero_add, Nat.add_zero] using HX118_0.out)
                  obtain ⟨hx38_0, hf38_0⟩ := S_mid HO_5.out (x13_19 : Int) (x12_2 : Int) oD (by have h_ : (x13_19 : Int) < ((x5_2.length : Int) : Int) := oD; first | exact h_ | (have e_ := (Kd.S_reads' HO_5.out).1; omega) | simpa using h_) oD (by have h_ : (x12_2 : Int) < ((x5_2.length : Int) : Int) := oD; first | exact h_ | (have e_ := (Kd.S_reads' HO_5.out).1; omega) | simpa using h_) (by first | exact HX118_0.out | simpa only [add_plain, add_at, Nat.mul_one, Nat.zero_add, Nat.add_zero] using HX118_0.out)
                  have HQ38 := Aside0.mk HP38.1
                  (have h_ := HQ38.out; rw [← Ny120.out] at h_; have HQ_ := Aside0.mk h_; clear h_ HQ38; have HQ38 := HQ_; clear HQ_)
                  clear HP38
                  refine start_ (n := 16) (S := fun w' => w'.cell? ⟨go35, (x12_2).toNat, none⟩ = some (.slice A118_0 (rd_L1 x5_2 x12_2).length c118_0) ∧ w'.cell? ⟨go35, (x13_19).toNat, none⟩ = some (.slice A119_0 (rd_L1 x5_2 x13_19).length c119_0)) (ds := [13, 15]) #[false, false, false, false, false, false, false, false, false, false, false, false, false, false, false, false] (by kernel_rfl) rfl rfl ⟨hx118_0, hx119_0⟩ (fun hHeld => ?_); refine with_tabW impl_reduced.tab20 impl_reduced.bits20 (fun HT_ HW_ => ?_)
                  generalize wc.drew = w36 at HO_5 HB GG35 HL118_0 HL119_0 HQ38 HR118_0 HR119_0 HX118_0 HX119_0 hf35_0 hf38_0 hx118_0 hx119_0 hx35_0 hx38_0 hHeld ⊢
                  refine pure_ (i := 0) (N := some 74) (v := ?_) (a' := ?_) #[true, false, false, false, false, false, false, false, false, false, false, false, false, false, false, false] rfl rfl (any_of HT_.out (by kernel_rfl)) (fun _ _ _ h => h) (Or.inl ⟨by rfl, ?_⟩) ?_ ?_
                  rotate_left; · intro w'; go_simp; with_reducible rfl
                  rotate_left; · simp only [Act.put, zI, zZ, zS, i64_w, i32_w]; rfl
                  refine pure_ (i := 1) (N := some 75) (v := ?_) (a' := ?_) #[true, true, false, false, false, false, false, false, false, false, false, false, false, false, false, false] rfl rfl (any_of HT_.out (by kernel_rfl)) (fun _ _ _ h => h) (Or.inl ⟨by rfl, ?_⟩) ?_ ?_
                  rotate_left; · intro w'; go_simp; with_reducible rfl
                  rotate_left; · simp only [Act.put, zI, zZ, zS, i64_w, i32_w]; rfl
                  refine pure_ (i := 2) (N := some 76) (v := ?_) (a' := ?_) #[true, true, true, false, false, false, false, false, false, false, false, false, false, false, false, false] rfl rfl (any_of HT_.out (by kernel_rfl)) (fun _ _ _ h => h) (Or.inl ⟨by rfl, ?_⟩) ?_ ?_
                  rotate_left; · intro w'; go_simp; with_reducible rfl
                  rotate_left; · simp only [Act.put, zI, zZ, zS, i64_w, i32_w]; rfl
                  refine pure_ (i := 3) (N := some 77) (v := ?_) (a' := ?_) #[true, true, true, true, false, false, false, false, false, false, false, false, false, false, false, false] rfl rfl (any_of HT_.out (by kernel_rfl)) (fun _ _ _ h => h) (Or.inl ⟨by rfl, ?_⟩) ?_ ?_
                  rotate_left; · intro w'; go_simp; with_reducible rfl
                  rotate_left; · simp only [Act.put, zI, zZ, zS, i64_w, i32_w]; rfl
                  refine pure_ (i := 4) (N := some 78) (v := ?_) (a' := ?_) #[true, true, true, true, true, false, false, false, false, false, false, false, false, false, false, false] rfl rfl (any_of HT_.out (by kernel_rfl)) (fun _ _ _ h => h) (Or.inl ⟨by rfl, ?_⟩) ?_ ?_
                  rotate_left; · intro w'; go_simp; with_reducible rfl
                  rotate_left; · simp only [Act.put, zI, zZ, zS, i64_w, i32_w]; rfl
                  refine pure_ (i := 5) (N := some 79) (v := ?_) (a' := ?_) #[true, true, true, true, true, true, false, false, false, false, false, false, false, false, false, false] rfl rfl (any_of HT_.out (by kernel_rfl)) (fun _ _ _ h => h) (Or.inl ⟨by rfl, ?_⟩) ?_ ?_
                  rotate_left; · intro w'; go_simp; with_reducible rfl
                  rotate_left; · simp only [Act.put, zI, zZ, zS, i64_w, i32_w]; rfl
                  refine pure_ (i := 6) (N := some 80) (v := ?_) (a' := ?_) #[true, true, true, true, true, true, true, false, false, false, false, false, false, false, false, false] rfl rfl (any_of HT_.out (by kernel_rfl)) (fun _ _ _ h => h) (Or.inl ⟨by rfl, ?_⟩) ?_ ?_
                  rotate_left; · intro w'; go_simp; with_reducible rfl
                  rotate_left; · simp only [Act.put, zI, zZ, zS, i64_w, i32_w]; rfl
                  refine pure_ (i := 8) (N := some 82) (v := ?_) (a' := ?_) #[true, true, true, true, true, true, true, false, true, false, false, false, false, false, false, false] rfl rfl (any_of HT_.out (by kernel_rfl)) (fun _ _ _ h => h) (Or.inl ⟨by rfl, ?_⟩) ?_ ?_
                  rotate_left; · intro w'; go_simp; with_reducible rfl
                  rotate_left; · simp only [Act.put, zI, zZ, zS, i64_w, i32_w]; rfl
                  refine pure_ (i := 9) (N := some 83) (v := ?_) (a' := ?_) #[true, true, true, true, true, true, true, false, true, true, false, false, false, false, false, false] rfl rfl (any_of HT_.out (by kernel_rfl)) (fun _ _ _ h => h) (Or.inl ⟨by rfl, ?_⟩) ?_ ?_
                  rotate_left; · intro w'; go_simp; with_reducible rfl
                  rotate_left; · simp only [Act.put, zI, zZ, zS, i64_w, i32_w]; rfl
                  refine pure_ (i := 10) (N := some 84) (v := ?_) (a' := ?_) #[true, true, true, true, true, true, true, false, true, true, true, false, false, false, false, false] rfl rfl (any_of HT_.out (by kernel_rfl)) (fun _ _ _ h => h) (Or.inl ⟨by rfl, ?_⟩) ?_ ?_
                  rotate_left; · intro w'; go_simp; with_reducible rfl
                  rotate_left; · simp only [Act.put, zI, zZ, zS, i64_w, i32_w]; rfl
                  refine take_ (i := 7) (N := some 81) (v := ?_) (a' := ?_) #[true, true, true, true, true, true, true, true, true, true, true, false, false, false, false, false] rfl rfl (take_ofW HT_.out HW_.out (by kernel_rfl)) (fun _ _ _ h => h) (Or.inl ⟨by rfl, ?_⟩) hHeld ?_ ?_
                  rotate_left; · rintro w' ⟨s0, s1⟩; go_simp; with_reducible rfl
                  rotate_left; · simp only [Act.put, zI, zZ, zS, i64_w, i32_w]; rfl
                  refine take_ (i := 11) (N := some 85) (v := ?_) (a' := ?_) #[true, true, true, true, true, true, true, true, true, true, true, true, false, false, false, false] rfl rfl (take_ofW HT_.out HW_.out (by kernel_rfl)) (fun _ _ _ h => h) (Or.inl ⟨by rfl, ?_⟩) hHeld ?_ ?_
                  rotate_left; · rintro w' ⟨s0, s1⟩; go_simp; with_reducible rfl
                  rotate_left; · simp only [Act.put, zI, zZ, zS, i64_w, i32_w]; rfl
                  refine pure_ (i := 12) (N := some 86) (v := ?_) (a' := ?_) #[true, true, true, true, true, true, true, true, true, true, true, true, true, false, false, false] rfl rfl (any_of HT_.out (by kernel_rfl)) (fun _ _ _ h => h) (Or.inl ⟨by rfl, ?_⟩) ?_ ?_
                  rotate_left; · intro w'; go_simp; with_reducible rfl
                  rotate_left; · simp only [Act.put, zI, zZ, zS, i64_w, i32_w]; rfl
                  refine last_ (i := 13) (N := none) #[true, true, true, true, true, true, true, true, true, true, true, true, true, true, false, false] rfl rfl (one_of HT_.out (by kernel_rfl)) (by decide) (fun K hK => ?_)
                  refine skip_ (w1 := ?_) (by rfl) rfl ?_ ?_
                  rotate_left; · go_simp; rfl
                  refine hK.out _ _ ?_
                  clear hK K
                  refine pure_ (i := 14) (N := some 87) (v := ?_) (a' := ?_) #[true, true, true, true, true, true, true, true, true, true, true, true, true, true, true, false] rfl rfl (any_of HT_.out (by kernel_rfl)) (fun _ _ _ h => h) (Or.inl ⟨by rfl, ?_⟩) ?_ ?_
                  rotate_left; · intro w'; go_simp; with_reducible rfl
                  rotate_left; · simp only [Act.put, zI, zZ, zS, i64_w, i32_w]; rfl
                  refine last_ (i := 15) (N := none) #[true, true, true, true, true, true, true, true, true, true, true, true, true, true, true, true] rfl rfl (one_of HT_.out (by kernel_rfl)) (by decide) (fun K hK => ?_)
                  refine skip_ (w1 := ?_) (by rfl) rfl ?_ ?_
                  rotate_left; · go_simp; rfl
                  refine hK.out _ _ ?_
                  clear hK K
                  refine done_ (done_of HT_.out (by kernel_rfl)) ?_
                  try go_wp2
                  go_loopg [90] kj19 (fun kq v90 w' => ∃ (x5_4 : List (List Int)) (x90_4 : Int), v90 = .int .i64 x90_4 ∧ Aside0 (impl_reduced.l4 kq a1 x5_4 (l0.length : Int) x12_2 x13_19 (x5_2.length : Int) x90_4 = some r) ∧ Aside0 (kq ≤ kj19) ∧ Aside0 (Kd.S (Kd.slice 2 (Kd.int .i64)) 32 w' w.heap.size (fun _ => True) (.slice (some ⟨go35, 0, none⟩) x5_2.length co37) x5_4) ∧ Aside0 (Below w.heap.size w w'))
                  case atStart => exact ⟨(y120), (0), rs, H', ⟨Nat.le_refl _⟩, ⟨by (with_reducible repeat (first | apply Kd.S_alloc | apply Kd.S_drewN | apply Kd.S_drew)); exact HQ38.out⟩, ⟨by repeat (first | (with_reducible first | exact HB.out | apply below_alloc | apply pw_below_drewN | apply below_drew1 | refine below_set ?_ GB35.out | refine below_set ?_ GB35.out) | exact HB.out)⟩⟩
                  case round =>
                    clear H'
                    (try clear c1); (try clear p1); (try clear q1); (try clear hx1); (try clear c2); (try clear p2); (try clear c3); (try clear p3); (try clear q3); (try clear hx3); (try clear hf3); (try clear c5); (try clear c5b0); (try clear c6); (try clear c6b0); (try clear p6); (try clear c7); (try clear c7b0); (try clear c8); (try clear c10); (try clear c10b0); (try clear p10); (try clear q10); (try clear hx10); (try clear c11); (try clear c11b0); (try clear p11); (try clear q11); (try clear hx11); (try clear c12); (try clear c12b0); (try clear c14); (try clear c16); (try clear c19); (try clear c19b0); (try clear c21); (try clear c21b0); (try clear c22); (try clear c22b0); (try clear c23); (try clear c23b0); (try clear c25); (try clear c25b0); (try clear c26); (try clear c26b0); (try clear c27); (try clear c27b0); (try clear c27b1); (try clear c30); (try clear c30b0); (try clear c30b1); (try clear c31); (try clear c31b0); (try clear c32); (try clear c32b0); (try clear c33); (try clear c33b0); (try clear c34); (try clear c34b0); (try clear c35); (try clear p35); (try clear q35); (try clear hx35); (try clear hf35); (try clear hx38); (try clear hf38); (try clear hx104_0); (try clear hx108_0); (try clear hx116_0); (try clear hx117_0); (try clear hx118_0); (try clear hx119_0); (try clear hx35_0); (try clear hx38_0); (try clear p1); (try clear p10); (try clear p104); (try clear p108); (try clear p11); (try clear p116); (try clear p117); (try clear p118); (try clear p119); (try clear p2); (try clear p35); (try clear p6); (try clear q1); (try clear q10); (try clear q104); (try clear q108); (try clear q11); (try clear q116); (try clear q117); (try clear q118); (try clear q119); (try clear q35)
                    obtain ⟨x5_4, x90_4, rfl, HA, HK4, HO_5, HB⟩ := hrel
                    have hl5_4 := (Kd.S_reads' HO_5.out).1
                    rw [hl5_4] at HO_5
                    (try simp only [hl5_4])
                    cases gk with
                    | zero => exact absurd HA.out (by simp [impl_reduced.l4])
                    | succ k4 =>
                      have H := HA.out
                      clear HA
                      simp only [impl_reduced.l4] at H
                      by_cases c39 : x90_4 < (x5_2.length : Int)
                      case neg =>
                        rw [if_neg c39] at H
                        have c39b0 : decide (x90_4 < (x5_2.length : Int)) = false := decide_eq_false c39
                        (try simp only [hl5_4] at c39b0)
                        clear c39
                        by_cases c53 : 0 ≤ x12_2
                        case neg => rw [if_neg c53] at H; exact absurd H (by simp)
                        rw [if_pos c53] at H
                        have c53b0 : decide (0 ≤ x12_2) = true := decide_eq_true c53
                        clear c53
                        by_cases c54 : x12_2 < (x5_4.length : Int)
                        case neg => rw [if_neg c54] at H; exact absurd H (by simp)
                        rw [if_pos c54] at H
                        have c54b0 : decide (x12_2 < (x5_4.length : Int)) = true := decide_eq_true c54
                        (try simp only [hl5_4] at c54b0)
                        clear c54
                        obtain ⟨ji55, hji55⟩ : ∃ j_ : Int, (wrap64 (x12_2 - 1)) = j_ := ⟨_, rfl⟩
                        replace H : (if 0 ≤ (ji55) then (if (ji55) < ((rd_L1 x5_4 x12_2).length : Int) then ((impl_inverse.f k4 (rd (rd_L1 x5_4 x12_2) (ji55)) a1).bind fun t135 => (impl_reduced.l5 k4 a1 x5_4 (l0.length : Int) x12_2 t135 (wrap64 (x12_2 + 1)))) else (none)) else (none)) = some r := by first | (rw [hji55] at H; exact H) | (simp only [hji55] at H ⊢; exact H)
                        have hji55w : (IntKind.i64.wrap (x12_2 - 1)) = ji55 := (i64_w _).trans hji55
                        by_cases c56 : 0 ≤ (ji55)
                        case neg => rw [if_neg c56] at H; exact absurd H (by simp)
                        rw [if_pos c56] at H
                        have c56b0 : decide (0 ≤ (ji55)) = true := decide_eq_true c56
                        clear c56
                        by_cases c57 : (ji55) < ((rd_L1 x5_4 x12_2).length : Int)
                        case neg => rw [if_neg c57] at H; exact absurd H (by simp)
                        rw [if_pos c57] at H
                        have c57b0 : decide ((ji55) < ((rd_L1 x5_4 x12_2).length : Int)) = true := decide_eq_true c57
                        (try simp only [hl5_4] at c57b0)
                        clear c57
                        replace H := Option.bind_eq_some_iff.mp H
                        obtain ⟨t135, A580, H⟩ := H
                        replace H : (impl_reduced.l5 k4 a1 x5_4 (l0.length : Int) x12_2 t135 (wrap64 (x12_2 + 1))) = some r := H
                        have A58 := Aside0.mk A580
                        clear A580
                        have H' := Aside0.mk H
                        clear H
                        have p133 : 0 ≤ (x12_2 : Int) := oD
                        have q133 : x12_2 < (x5_4.length : Int) := oD
                        obtain ⟨ad133, A133_0, c133_0, e133, hx133_0, hl133_0, hi133_0⟩ := at_L1 (Kd.S_reads' HO_5.out).2.2 x12_2 p133 q133
                        obtain rfl : (⟨go35, 0, none⟩ : Addr) = ad133 := (by injection e133)
                        obtain ⟨ce133, hce133, hMe133, hcc133⟩ := Kd.S_get HO_5.out [] x12_2 p133 (by first | exact q133 | exact oD | (have e_ := (Kd.S_reads' HO_5.out).1; omega))
                        obtain ⟨ve133_0, rfl, ge133_0⟩ := hMe133
                        have hv133_0 := hcc133 0 _ rfl
                        rw [Nat.add_zero, show ((Kd.slice 2 (Kd.int .i64))).sz = 1 from rfl, Nat.mul_one] at hv133_0
                        replace hv133_0 := Option.some.inj (hv133_0.symm.trans hx133_0)
                        rw [hv133_0] at ge133_0
                        have HL133_0 := Aside0.mk (show Kd.R (Kd.int .i64) 2 _ _ _ _ (rd_L1 x5_4 x12_2) from ge133_0)
                        clear hv133_0 ge133_0
                        have HX133_0 := Aside0.mk hx133_0
                        clear hcc133 hce133
                        (first | simp only [add_plain] at hx133_0 | simp only [add_at] at hx133_0 | simp only [Addr.add, Nat.zero_add] at hx133_0 | skip)
                        have HR133_0 := Aside0.mk hi133_0
                        have HC133_0 := Aside0.mk hl133_0
                        clear hi133_0 hl133_0
                        replace p133 := eq_true p133
                        replace q133 := eq_true q133
                        have p134 : 0 ≤ ((ji55) : Int) := oD
                        have q134 : (ji55) < ((rd_L1 x5_4 x12_2).length : Int) := oD
                        obtain ⟨ad134, e134, hx134_0⟩ := Kd.at_int (by repeat (first | (with_reducible exact HR133_0.out) | (with_reducible refine Kd.C_alloc ?_ _) | (with_reducible refine Kd.C_drewN ?_ _) | (with_reducible refine Kd.C_drew ?_) | exact HR133_0.out)) (ji55) p134 q134
                        cases e134
                        replace p134 := eq_true p134
                        replace q134 := eq_true q134
                        go_wp2_with (first | ((with_reducible refine gate_callee (f := 123) rfl ?_); refine goesL_ (some 129) rfl rfl Try.func123 (by kernel_rfl) rfl #[.int .i64 (rd (rd_L1 x5_4 x12_2) (ji55)), .int .i64 a1] rfl (by (try simp only [List.map_toArray, List.map_cons, List.map_nil]); first | done | (simp only [hji55]; rfl) | rfl | (simp only [List.length_drop, List.length_take]; rfl)) ?_; (with_reducible refine (impl_inverse.calls k4 (rd (rd_L1 x5_4 x12_2) (ji55)) a1 t135 _ A58.out).mono ?_); rintro e w' ⟨rfl, ⟨nd, rfl⟩⟩; refine ⟨_, rfl, ?_⟩))
                        go_loopg [16] k4 (fun kq v16 w' => ∃ (x5_5 : List (List Int)) (x16_5 : Int), v16 = .int .i64 x16_5 ∧ Aside0 (impl_reduced.l5 kq a1 x5_5 (l0.length : Int) x12_2 t135 x16_5 = some r) ∧ Aside0 (kq ≤ k4) ∧ Aside0 (Kd.S (Kd.slice 2 (Kd.int .i64)) 32 w' w.heap.size (fun _ => True) (.slice (some ⟨go35, 0, none⟩) x5_4.length co37) x5_5) ∧ Aside0 (Below w.heap.size w w'))
                        case atStart => exact ⟨(x5_4), (wrap64 (x12_2 + 1)), rs, H', ⟨Nat.le_refl _⟩, ⟨by (try simp only [hl5_4]); (with_reducible repeat (first | apply Kd.S_alloc | apply Kd.S_drewN | apply Kd.S_drew)); exact HO_5.out⟩, ⟨bl⟩⟩
                        case round =>
                          clear H'
                          (try clear c1); (try clear p1); (try clear q1); (try clear hx1); (try clear c2); (try clear p2); (try clear c3); (try clear p3); (try clear q3); (try clear hx3); (try clear hf3); (try clear c4); (try clear p4); (try clear q4); (try clear hx4); (try clear hf4); (try clear c5); (try clear p5); (try clear q5); (try clear p6); (try clear p10); (try clear q10); (try clear hx10); (try clear c11); (try clear c11b0); (try clear p11); (try clear q11); (try clear hx11); (try clear c12); (try clear c12b0); (try clear p12); (try clear q12); (try clear hx12); (try clear c13); (try clear p13); (try clear q13); (try clear hx13); (try clear c14); (try clear c16); (try clear c19); (try clear c19b0); (try clear c21); (try clear c21b0); (try clear c22); (try clear c22b0); (try clear c23); (try clear c23b0); (try clear c25); (try clear c25b0); (try clear c26); (try clear c26b0); (try clear c27); (try clear c27b0); (try clear c27b1); (try clear c30); (try clear c30b0); (try clear c30b1); (try clear c31); (try clear c31b0); (try clear c32); (try clear c32b0); (try clear c33); (try clear c33b0); (try clear c34); (try clear c34b0); (try clear c35); (try clear p35); (try clear q35); (try clear hx35); (try clear hf35); (try clear hx38); (try clear hf38); (try clear c39); (try clear c39b0); (try clear c40); (try clear c40b0); (try clear c41); (try clear c41b0); (try clear c42); (try clear c42b0); (try clear c43); (try clear c43b0); (try clear c44); (try clear c44b0); (try clear c45); (try clear c45b0); (try clear p46); (try clear q46); (try clear hx46); (try clear hf46); (try clear p47); (try clear q47); (try clear hx47); (try clear hf47); (try clear c49); (try clear p49); (try clear q49); (try clear c51); (try clear p51); (try clear q51); (try clear c53); (try clear c53b0); (try clear c54); (try clear c54b0); (try clear c56); (try clear c56b0); (try clear c57); (try clear c57b0); (try clear hx104_0); (try clear hx108_0); (try clear hx116_0); (try clear hx117_0); (try clear hx118_0); (try clear hx119_0); (try clear hx121_0); (try clear hx122_0); (try clear hx123_0); (try clear hx124_0); (try clear hx125_0); (try clear hx126_0); (try clear hx133_0); (try clear hx134_0); (try clear hx35_0); (try clear hx38_0); (try clear hx46_0); (try clear hx47_0); (try clear p1); (try clear p10); (try clear p104); (try clear p108); (try clear p11); (try clear p116); (try clear p117); (try clear p118); (try clear p119); (try clear p121); (try clear p122); (try clear p123); (try clear p124); (try clear p125); (try clear p126); (try clear p133); (try clear p134); (try clear p2); (try clear p35); (try clear p46); (try clear p47); (try clear p6); (try clear q1); (try clear q10); (try clear q104); (try clear q108); (try clear q11); (try clear q116); (try clear q117); (try clear q118); (try clear q119); (try clear q121); (try clear q122); (try clear q123); (try clear q124); (try clear q125); (try clear q126); (try clear q133); (try clear q134); (try clear q35); (try clear q46); (try clear q47)
                          obtain ⟨x5_5, x16_5, rfl, HA, HK5, HO_5, HB⟩ := hrel
                          have hl5_5 := (Kd.S_reads' HO_5.out).1
                          rw [hl5_5] at HO_5
                          (try simp only [hl5_5])
                          cases gk with
                          | zero => exact absurd HA.out (by simp [impl_reduced.l5])
                          | succ k5 =>
                            have H := HA.out
                            clear HA
                            simp only [impl_reduced.l5] at H
                            by_cases c59 : x16_5 < (l0.length : Int)
                            case neg =>
                              rw [if_neg c59] at H
                              have c59b0 : decide (x16_5 < (l0.length : Int)) = false := decide_eq_false c59
                              (try simp only [hl5_4, hl5_5] at c59b0)
                              clear c59
                              have H' := Aside0.mk H
                              clear H
                              go_wp2
                              (try simp only [← hl5_4, ← hl5_5])
                              first | go_roundg k5 | (simp only [← hji24]; go_roundg k5) | (simp only [← hji55]; go_roundg k5)
                              case measure => have := HK1.out; have := HK2.out; have := HJ19.out; have := HK4.out; have := HK5.out; omega
                              case rel => exact ⟨(x5_5), (wrap64 (x12_2 + 1)), rs, (by first | exact H' | (rw [hji24]; exact H') | (rw [hji55]; exact H')), ⟨by have := HK1.out; have := HK2.out; have := HJ19.out; have := HK4.out; have := HK5.out; omega⟩, ⟨by (try simp only [hl5_4]); (try simp only [hl5_5]); (with_reducible repeat (first | apply Kd.S_alloc | apply Kd.S_drewN | apply Kd.S_drew)); exact HO_5.out⟩, ⟨bl⟩⟩
                            rw [if_pos c59] at H
                            have c59b0 : decide (x16_5 < (l0.length : Int)) = true := decide_eq_true c59
                            (try simp only [hl5_4, hl5_5] at c59b0)
                            clear c59
                            by_cases c60 : 0 ≤ x16_5
                            case neg => rw [if_neg c60] at H; exact absurd H (by simp)
                            rw [if_pos c60] at H
                            have c60b0 : decide (0 ≤ x16_5) = true := decide_eq_true c60
                            clear c60
                            by_cases c61 : x16_5 < (x5_5.length : Int)
                            case neg => rw [if_neg c61] at H; exact absurd H (by simp)
                            rw [if_pos c61] at H
                            have c61b0 : decide (x16_5 < (x5_5.length : Int)) = true := decide_eq_true c61
                            (try simp only [hl5_4, hl5_5] at c61b0)
                            clear c61
                            replace H : (if 0 ≤ (ji55) then (if (ji55) < ((rd_L1 x5_5 x16_5).length : Int) then (if a1 = 0 then (none) else (if (Int.tmod (wrap64 ((rd (rd_L1 x5_5 x16_5) (ji55)) * t135)) a1) = 0 then (impl_reduced.l5 k5 a1 x5_5 (l0.length : Int) x12_2 t135 (wrap64 (x16_5 + 1))) else (impl_reduced.l6 k5 a1 x5_5 (l0.length : Int) x12_2 t135 x16_5 (Int.tmod (wrap64 ((rd (rd_L1 x5_5 x16_5) (ji55)) * t135)) a1) (l0.length : Int) 0))) else (none)) else (none)) = some r := by first | (rw [hji55] at H; exact H) | (simp only [hji55] at H ⊢; exact H)
                            have hji55w : (IntKind.i64.wrap (x12_2 - 1)) = ji55 := (i64_w _).trans hji55
                            by_cases c63 : 0 ≤ (ji55)
                            case neg => rw [if_neg c63] at H; exact absurd H (by simp)
                            rw [if_pos c63] at H
                            have c63b0 : decide (0 ≤ (ji55)) = true := decide_eq_true c63
                            clear c63
                            by_cases c64 : (ji55) < ((rd_L1 x5_5 x16_5).length : Int)
                            case neg => rw [if_neg c64] at H; exact absurd H (by simp)
                            rw [if_pos c64] at H
                            have c64b0 : decide ((ji55) < ((rd_L1 x5_5 x16_5).length : Int)) = true := decide_eq_true c64
                            (try simp only [hl5_4, hl5_5] at c64b0)
                            clear c64
                            by_cases c65 : a1 = 0
                            case neg =>
                              rw [if_neg c65] at H
                              have c65b0 : (a1 == 0) = false := beq_eq_false_iff_ne.mpr c65
                              have c65b1 : (a1 != 0) = true := bne_iff_ne.mpr c65
                              by_cases c66 : (Int.tmod (wrap64 ((rd (rd_L1 x5_5 x16_5) (ji55)) * t135)) a1) = 0
                              case neg =>
                                rw [if_neg c66] at H
                                have c66b0 : ((Int.tmod (wrap64 ((rd (rd_L1 x5_5 x16_5) (ji55)) * t135)) a1) == 0) = false := beq_eq_false_iff_ne.mpr c66
                                have c66b1 : ((Int.tmod (wrap64 ((rd (rd_L1 x5_5 x16_5) (ji55)) * t135)) a1) != 0) = true := bne_iff_ne.mpr c66
                                have H' := Aside0.mk H
                                clear H
                                have p136 : 0 ≤ (x16_5 : Int) := oD
                                have q136 : x16_5 < (x5_5.length : Int) := oD
                                obtain ⟨ad136, A136_0, c136_0, e136, hx136_0, hl136_0, hi136_0⟩ := at_L1 (Kd.S_reads' HO_5.out).2.2 x16_5 p136 q136
                                obtain rfl : (⟨go35, 0, none⟩ : Addr) = ad136 := (by injection e136)
                                obtain ⟨ce136, hce136, hMe136, hcc136⟩ := Kd.S_get HO_5.out [] x16_5 p136 (by first | exact q136 | exact oD | (have e_ := (Kd.S_reads' HO_5.out).1; omega))
                                obtain ⟨ve136_0, rfl, ge136_0⟩ := hMe136
                                have hv136_0 := hcc136 0 _ rfl
                                rw [Nat.add_zero, show ((Kd.slice 2 (Kd.int .i64))).sz = 1 from rfl, Nat.mul_one] at hv136_0
                                replace hv136_0 := Option.some.inj (hv136_0.symm.trans hx136_0)
                                rw [hv136_0] at ge136_0
                                have HL136_0 := Aside0.mk (show Kd.R (Kd.int .i64) 2 _ _ _ _ (rd_L1 x5_5 x16_5) from ge136_0)
                                clear hv136_0 ge136_0
                                have HX136_0 := Aside0.mk hx136_0
                                clear hcc136 hce136
                                (first | simp only [add_plain] at hx136_0 | simp only [add_at] at hx136_0 | simp only [Addr.add, Nat.zero_add] at hx136_0 | skip)
                                have HR136_0 := Aside0.mk hi136_0
                                have HC136_0 := Aside0.mk hl136_0
                                clear hi136_0 hl136_0
                                replace p136 := eq_true p136
                                replace q136 := eq_true q136
                                have p137 : 0 ≤ ((ji55) : Int) := oD
                                have q137 : (ji55) < ((rd_L1 x5_5 x16_5).length : Int) := oD
                                obtain ⟨ad137, e137, hx137_0⟩ := Kd.at_int (by repeat (first | (with_reducible exact HR136_0.out) | (with_reducible refine Kd.C_alloc ?_ _) | (with_reducible refine Kd.C_drewN ?_ _) | (with_reducible refine Kd.C_drew ?_) | exact HR136_0.out)) (ji55) p137 q137
                                cases e137
                                replace p137 := eq_true p137
                                replace q137 := eq_true q137
                                go_wp2
                                go_loopg [152] k5 (fun kq v152 w' => ∃ (x5_6 : List (List Int)) (x152_6 : Int), v152 = .int .i64 x152_6 ∧ Aside0 (impl_reduced.l6 kq a1 x5_6 (l0.length : Int) x12_2 t135 x16_5 (Int.tmod (wrap64 ((rd (rd_L1 x5_5 x16_5) (ji55)) * t135)) a1) (l0.length : Int) x152_6 = some r) ∧ Aside0 (kq ≤ k5) ∧ Aside0 (Kd.S (Kd.slice 2 (Kd.int .i64)) 32 w' w.heap.size (fun _ => True) (.slice (some ⟨go35, 0, none⟩) x5_5.length co37) x5_6) ∧ Aside0 (Below w.heap.size w w'))
                                case atStart => exact ⟨(x5_5), (0), rs, H', ⟨Nat.le_refl _⟩, ⟨by (try simp only [hl5_4]); (try simp only [hl5_5]); (with_reducible repeat (first | apply Kd.S_alloc | apply Kd.S_drewN | apply Kd.S_drew)); exact HO_5.out⟩, ⟨bl⟩⟩
                                case round =>
                                  clear H'
                                  (try clear c1); (try clear p1); (try clear q1); (try clear hx1); (try clear c2); (try clear p2); (try clear c3); (try clear p3); (try clear q3); (try clear hx3); (try clear hf3); (try clear c4); (try clear p4); (try clear q4); (try clear hx4); (try clear hf4); (try clear c5); (try clear p5); (try clear q5); (try clear c6); (try clear p6); (try clear p10); (try clear q10); (try clear hx10); (try clear c11); (try clear c11b0); (try clear p11); (try clear q11); (try clear hx11); (try clear c12); (try clear c12b0); (try clear p12); (try clear q12); (try clear hx12); (try clear c13); (try clear p13); (try clear q13); (try clear hx13); (try clear c14); (try clear c16); (try clear c19); (try clear c19b0); (try clear c21); (try clear c21b0); (try clear c22); (try clear c22b0); (try clear c23); (try clear c23b0); (try clear c25); (try clear c25b0); (try clear c26); (try clear c26b0); (try clear c27); (try clear c27b0); (try clear c27b1); (try clear c30); (try clear c30b0); (try clear c30b1); (try clear c31); (try clear c31b0); (try clear c32); (try clear c32b0); (try clear c33); (try clear c33b0); (try clear c34); (try clear c34b0); (try clear c35); (try clear p35); (try clear q35); (try clear hx35); (try clear hf35); (try clear hx38); (try clear hf38); (try clear c39); (try clear c39b0); (try clear c40); (try clear c40b0); (try clear c41); (try clear c41b0); (try clear c42); (try clear c42b0); (try clear c43); (try clear c43b0); (try clear c44); (try clear c44b0); (try clear c45); (try clear c45b0); (try clear p46); (try clear q46); (try clear hx46); (try clear hf46); (try clear p47); (try clear q47); (try clear hx47); (try clear hf47); (try clear c49); (try clear p49); (try clear q49); (try clear c51); (try clear p51); (try clear q51); (try clear c53); (try clear c53b0); (try clear c54); (try clear c54b0); (try clear c56); (try clear c56b0); (try clear c57); (try clear c57b0); (try clear c59); (try clear c59b0); (try clear c60); (try clear c60b0); (try clear c61); (try clear c61b0); (try clear c63); (try clear c63b0); (try clear c64); (try clear c64b0); (try clear p64); (try clear c65); (try clear c65b0); (try clear c65b1); (try clear c66); (try clear c66b0); (try clear c66b1); (try clear hx104_0); (try clear hx108_0); (try clear hx116_0); (try clear hx117_0); (try clear hx118_0); (try clear hx119_0); (try clear hx121_0); (try clear hx122_0); (try clear hx123_0); (try clear hx124_0); (try clear hx125_0); (try clear hx126_0); (try clear hx133_0); (try clear hx134_0); (try clear hx136_0); (try clear hx137_0); (try clear hx35_0); (try clear hx38_0); (try clear hx46_0); (try clear hx47_0); (try clear p1); (try clear p10); (try clear p104); (try clear p108); (try clear p11); (try clear p116); (try clear p117); (try clear p118); (try clear p119); (try clear p12); (try clear p121); (try clear p122); (try clear p123); (try clear p124); (try clear p125); (try clear p126); (try clear p13); (try clear p133); (try clear p134); (try clear p136); (try clear p137); (try clear p2); (try clear p3); (try clear p35); (try clear p4); (try clear p46); (try clear p47); (try clear p49); (try clear p5); (try clear p51); (try clear p6); (try clear q1); (try clear q10); (try clear q104); (try clear q108); (try clear q11); (try clear q116); (try clear q117); (try clear q118); (try clear q119); (try clear q12); (try clear q121); (try clear q122); (try clear q123); (try clear q124); (try clear q125); (try clear q126); (try clear q13); (try clear q133); (try clear q134); (try clear q136); (try clear q137); (try clear q3); (try clear q35); (try clear q4); (try clear q46); (try clear q47); (try clear q49); (try clear q5); (try clear q51)
                                  obtain ⟨x5_6, x152_6, rfl, HA, HK6, HO_5, HB⟩ := hrel
                                  have hl5_6 := (Kd.S_reads' HO_5.out).1
                                  rw [hl5_6] at HO_5
                                  (try simp only [hl5_6])
                                  cases gk with
                                  | zero => exact absurd HA.out (by simp [impl_reduced.l6])
                                  | succ k6 =>
                                    have H := HA.out
                                    clear HA
                                    simp only [impl_reduced.l6] at H
                                    by_cases c67 : x152_6 < (l0.length : Int)
                                    case neg =>
                                      rw [if_neg c67] at H
                                      have c67b0 : decide (x152_6 < (l0.length : Int)) = false := decide_eq_false c67
                                      (try simp only [hl5_4, hl5_5, hl5_6] at c67b0)
                                      clear c67
                                      have H' := Aside0.mk H
                                      clear H
                                      go_wp2
                                      go_loopg [182] k6 (fun kq v182 w' => ∃ (x5_7 : List (List Int)) (x182_7 : Int), v182 = .int .i64 x182_7 ∧ Aside0 (impl_reduced.l7 kq a1 x5_7 (l0.length : Int) x12_2 t135 x16_5 (Int.tmod (wrap64 ((rd (rd_L1 x5_5 x16_5) (ji55)) * t135)) a1) (l0.length : Int) x182_7 = some r) ∧ Aside0 (kq ≤ k6) ∧ Aside0 (Kd.S (Kd.slice 2 (Kd.int .i64)) 32 w' w.heap.size (fun _ => True) (.slice (some ⟨go35, 0, none⟩) x5_6.length co37) x5_7) ∧ Aside0 (Below w.heap.size w w'))
                                      case atStart => exact ⟨(x5_6), (0), rs, H', ⟨Nat.le_refl _⟩, ⟨by (try simp only [hl5_4]); (try simp only [hl5_5]); (try simp only [hl5_6]); (with_reducible repeat (first | apply Kd.S_alloc | apply Kd.S_drewN | apply Kd.S_drew)); exact HO_5.out⟩, ⟨bl⟩⟩
                                      case round =>
                                        clear H'
                                        (try clear c1); (try clear p1); (try clear q1); (try clear hx1); (try clear c2); (try clear p2); (try clear c3); (try clear p3); (try clear q3); (try clear hx3); (try clear hf3); (try clear c4); (try clear p4); (try clear q4); (try clear hx4); (try clear hf4); (try clear c5); (try clear p5); (try clear q5); (try clear c6); (try clear p6); (try clear c7); (try clear p7); (try clear q7); (try clear hx7); (try clear hf7); (try clear c8); (try clear p10); (try clear q10); (try clear hx10); (try clear c11); (try clear c11b0); (try clear p11); (try clear q11); (try clear hx11); (try clear c12); (try clear c12b0); (try clear p12); (try clear q12); (try clear hx12); (try clear c13); (try clear p13); (try clear q13); (try clear hx13); (try clear c14); (try clear p14); (try clear q14); (try clear hx14); (try clear c16); (try clear c19); (try clear c19b0); (try clear c21); (try clear c21b0); (try clear c22); (try clear c22b0); (try clear c23); (try clear c23b0); (try clear c25); (try clear c25b0); (try clear c26); (try clear c26b0); (try clear c27); (try clear c27b0); (try clear c27b1); (try clear c30); (try clear c30b0); (try clear c30b1); (try clear c31); (try clear c31b0); (try clear c32); (try clear c32b0); (try clear c33); (try clear c33b0); (try clear c34); (try clear c34b0); (try clear c35); (try clear p35); (try clear q35); (try clear hx35); (try clear hf35); (try clear hx38); (try clear hf38); (try clear c39); (try clear c39b0); (try clear c40); (try clear c40b0); (try clear c41); (try clear c41b0); (try clear c42); (try clear c42b0); (try clear c43); (try clear c43b0); (try clear c44); (try clear c44b0); (try clear c45); (try clear c45b0); (try clear p46); (try clear q46); (try clear hx46); (try clear hf46); (try clear p47); (try clear q47); (try clear hx47); (try clear hf47); (try clear c49); (try clear p49); (try clear q49); (try clear c51); (try clear p51); (try clear q51); (try clear c53); (try clear c53b0); (try clear c54); (try clear c54b0); (try clear c56); (try clear c56b0); (try clear c57); (try clear c57b0); (try clear c59); (try clear c59b0); (try clear c60); (try clear c60b0); (try clear c61); (try clear c61b0); (try clear c63); (try clear c63b0); (try clear c64); (try clear c64b0); (try clear p64); (try clear c65); (try clear c65b0); (try clear c65b1); (try clear c66); (try clear c66b0); (try clear c66b1); (try clear c67); (try clear c67b0); (try clear c68); (try clear c68b0); (try clear c69); (try clear c69b0); (try clear c70); (try clear c70b0); (try clear c71); (try clear c71b0); (try clear c72); (try clear c72b0); (try clear c73); (try clear c73b0); (try clear c74); (try clear c74b0); (try clear p76); (try clear q76); (try clear hx76); (try clear hf76); (try clear c78); (try clear p78); (try clear q78); (try clear hx104_0); (try clear hx108_0); (try clear hx116_0); (try clear hx117_0); (try clear hx118_0); (try clear hx119_0); (try clear hx121_0); (try clear hx122_0); (try clear hx123_0); (try clear hx124_0); (try clear hx125_0); (try clear hx126_0); (try clear hx133_0); (try clear hx134_0); (try clear hx136_0); (try clear hx137_0); (try clear hx138_0); (try clear hx139_0); (try clear hx140_0); (try clear hx141_0); (try clear hx142_0); (try clear hx35_0); (try clear hx38_0); (try clear hx46_0); (try clear hx47_0); (try clear hx76_0); (try clear p1); (try clear p10); (try clear p104); (try clear p108); (try clear p11); (try clear p116); (try clear p117); (try clear p118); (try clear p119); (try clear p12); (try clear p121); (try clear p122); (try clear p123); (try clear p124); (try clear p125); (try clear p126); (try clear p13); (try clear p133); (try clear p134); (try clear p136); (try clear p137); (try clear p138); (try clear p139); (try clear p140); (try clear p141); (try clear p142); (try clear p2); (try clear p3); (try clear p35); (try clear p4); (try clear p46); (try clear p47); (try clear p49); (try clear p5); (try clear p51); (try clear p6); (try clear p64); (try clear p76); (try clear q1); (try clear q10); (try clear q104); (try clear q108); (try clear q11); (try clear q116); (try clear q117); (try clear q118); (try clear q119); (try clear q12); (try clear q121); (try clear q122); (try clear q123); (try clear q124); (try clear q125); (try clear q126); (try clear q13); (try clear q133); (try clear q134); (try clear q136); (try clear q137); (try clear q138); (try clear q139); (try clear q140); (try clear q141); (try clear q142); (try clear q3); (try clear q35); (try clear q4); (try clear q46); (try clear q47); (try clear q49); (try clear q5); (try clear q51); (try clear q76)
                                        obtain ⟨x5_7, x182_7, rfl, HA, HK7, HO_5, HB⟩ := hrel
                                        have hl5_7 := (Kd.S_reads' HO_5.out).1
                                        rw [hl5_7] at HO_5
                                        (try simp only [hl5_7])
                                        cases gk with
                                        | zero => exact absurd HA.out (by simp [impl_reduced.l7])
                                        | succ k7 =>
                                          have H := HA.out
                                          clear HA
                                          simp only [impl_reduced.l7] at H
                                          by_cases c80 : x182_7 < (l0.length : Int)
                                          case neg =>
                                            rw [if_neg c80] at H
                                            have c80b0 : decide (x182_7 < (l0.length : Int)) = false := decide_eq_false c80
                                            (try simp only [hl5_4, hl5_5, hl5_6, hl5_7] at c80b0)
                                            clear c80
                                            have H' := Aside0.mk H
                                            clear H
                                            go_wp2
                                            (try simp only [← hl5_5, ← hl5_6, ← hl5_7])
                                            first | go_roundg k7 | (simp only [← hji24]; go_roundg k7) | (simp only [← hji55]; go_roundg k7)
                                            case measure => have := HK1.out; have := HK2.out; have := HJ19.out; have := HK4.out; have := HK5.out; have := HK6.out; have := HK7.out; omega
                                            case rel => exact ⟨(x5_7), (wrap64 (x16_5 + 1)), rs, (by first | exact H' | (rw [hji24]; exact H') | (rw [hji55]; exact H')), ⟨by have := HK1.out; have := HK2.out; have := HJ19.out; have := HK4.out; have := HK5.out; have := HK6.out; have := HK7.out; omega⟩, ⟨by (try simp only [hl5_4]); (try simp only [hl5_5]); (try simp only [hl5_6]); (try simp only [hl5_7]); (with_reducible repeat (first | apply Kd.S_alloc | apply Kd.S_drewN | apply Kd.S_drew)); exact HO_5.out⟩, ⟨bl⟩⟩
                                          rw [if_pos c80] at H
                                          have c80b0 : decide (x182_7 < (l0.length : Int)) = true := decide_eq_true c80
                                          (try simp only [hl5_4, hl5_5, hl5_6, hl5_7] at c80b0)
                                          clear c80
                                          by_cases c81 : 0 ≤ x182_7
                                          case neg => rw [if_neg c81] at H; exact absurd H (by simp)
                                          rw [if_pos c81] at H
                                          have c81b0 : decide (0 ≤ x182_7) = true := decide_eq_true c81
                                          clear c81
                                          by_cases c82 : x182_7 < (x5_7.length : Int)
                                          case neg => rw [if_neg c82] at H; exact absurd H (by simp)
                                          rw [if_pos c82] at H
                                          have c82b0 : decide (x182_7 < (x5_7.length : Int)) = true := decide_eq_true c82
                                          (try simp only [hl5_4, hl5_5, hl5_6, hl5_7] at c82b0)
                                          clear c82
                                          by_cases c83 : 0 ≤ x12_2
                                          case neg => rw [if_neg c83] at H; exact absurd H (by simp)
                                          rw [if_pos c83] at H
                                          have c83b0 : decide (0 ≤ x12_2) = true := decide_eq_true c83
                                          clear c83
                                          by_cases c84 : x12_2 < ((rd_L1 x5_7 x182_7).length : Int)
                                          case neg => rw [if_neg c84] at H; exact absurd H (by simp)
                                          rw [if_pos c84] at H
                                          have c84b0 : decide (x12_2 < ((rd_L1 x5_7 x182_7).length : Int)) = true := decide_eq_true c84
                                          (try simp only [hl5_4, hl5_5, hl5_6, hl5_7] at c84b0)
                                          clear c84
                                          by_cases c85 : 0 ≤ x16_5
                                          case neg => rw [if_neg c85] at H; exact absurd H (by simp)
                                          rw [if_pos c85] at H
                                          have c85b0 : decide (0 ≤ x16_5) = true := decide_eq_true c85
                                          clear c85
                                          by_cases c86 : x16_5 < ((rd_L1 x5_7 x182_7).length : Int)
                                          case neg => rw [if_neg c86] at H; exact absurd H (by simp)
                                          rw [if_pos c86] at H
                                          have c86b0 : decide (x16_5 < ((rd_L1 x5_7 x182_7).length : Int)) = true := decide_eq_true c86
                                          (try simp only [hl5_4, hl5_5, hl5_6, hl5_7] at c86b0)
                                          clear c86
                                          by_cases c87 : a1 = 0
                                          case neg =>
                                            rw [if_neg c87] at H
                                            have c87b0 : (a1 == 0) = false := beq_eq_false_iff_ne.mpr c87
                                            have c87b1 : (a1 != 0) = true := bne_iff_ne.mpr c87
                                            obtain ⟨y152, hy152⟩ : ∃ y_ : List Int, y_ = ((rd_L1 x5_7 x182_7).set (x12_2 : Int).toNat (Int.tmod (wrap64 ((rd (rd_L1 x5_7 x182_7) x12_2) + (wrap64 ((Int.tmod (wrap64 ((rd (rd_L1 x5_5 x16_5) (ji55)) * t135)) a1) * (rd (rd_L1 x5_7 x182_7) x16_5))))) a1)) := ⟨_, rfl⟩
                                            replace H : (impl_reduced.l7 k7 a1 (x5_7.set (x182_7 : Int).toNat y152) (l0.length : Int) x12_2 t135 x16_5 (Int.tmod (wrap64 ((rd (rd_L1 x5_5 x16_5) (ji55)) * t135)) a1) (l0.length : Int) (wrap64 (x182_7 + 1))) = some r := by first | (rw [hy152]; with_reducible exact H) | (have H2_ := (Option.bind_some _ _).symm.trans H; rw [hy152]; with_reducible exact H2_) | (have H2_ := (Option.bind_some _ _).symm.trans H; with_reducible exact H2_) | with_reducible exact H | (rw [hy152]; exact H) | exact H
                                            have Ny152 := Aside0.mk hy152
                                            clear hy152
                                            obtain ⟨y154, hy154⟩ : ∃ y_ : List (List Int), y_ = (x5_7.set (x182_7 : Int).toNat y152) := ⟨_, rfl⟩
                                            replace H : (impl_reduced.l7 k7 a1 y154 (l0.length : Int) x12_2 t135 x16_5 (Int.tmod (wrap64 ((rd (rd_L1 x5_5 x16_5) (ji55)) * t135)) a1) (l0.length : Int) (wrap64 (x182_7 + 1))) = some r := by first | (rw [hy154]; with_reducible exact H) | (have H2_ := (Option.bind_some _ _).symm.trans H; rw [hy154]; with_reducible exact H2_) | (have H2_ := (Option.bind_some _ _).symm.trans H; with_reducible exact H2_) | with_reducible exact H | (rw [hy154]; exact H) | exact H
                                            have Ny154 := Aside0.mk hy154
                                            clear hy154
                                            have H' := Aside0.mk H
                                            clear H
                                            try go_wp2
                                            have n0_ := Aside0.mk (Kd.S_drew HO_5.out)
                                            have n1_ := Aside0.mk (below_drew1 HB.out)
                                            clear HO_5
                                            clear HB
                                            have HO_5 := n0_
                                            have HB := n1_
                                            clear n0_ n1_
                                            have p147 : 0 ≤ (x182_7 : Int) := oD
                                            have q147 : x182_7 < (x5_7.length : Int) := oD
                                            obtain ⟨ad147, A147_0, c147_0, e147, hx147_0, hl147_0, hi147_0⟩ := at_L1 (Kd.S_reads' HO_5.out).2.2 x182_7 p147 q147
                                            obtain rfl : (⟨go35, 0, none⟩ : Addr) = ad147 := (by injection e147)
                                            obtain ⟨ce147, hce147, hMe147, hcc147⟩ := Kd.S_get HO_5.out [] x182_7 p147 (by first | exact q147 | exact oD | (have e_ := (Kd.S_reads' HO_5.out).1; omega))
                                            obtain ⟨ve147_0, rfl, ge147_0⟩ := hMe147
                                            have hv147_0 := hcc147 0 _ rfl
                                            rw [Nat.add_zero, show ((Kd.slice 2 (Kd.int .i64))).sz = 1 from rfl, Nat.mul_one] at hv147_0
                                            replace hv147_0 := Option.some.inj (hv147_0.symm.trans hx147_0)
                                            rw [hv147_0] at ge147_0
                                            have HL147_0 := Aside0.mk (show Kd.R (Kd.int .i64) 2 _ _ _ _ (rd_L1 x5_7 x182_7) from ge147_0)
                                            clear hv147_0 ge147_0
                                            have HX147_0 := Aside0.mk hx147_0
                                            clear hcc147 hce147
                                            (first | simp only [add_plain] at hx147_0 | simp only [add_at] at hx147_0 | simp only [Addr.add, Nat.zero_add] at hx147_0 | skip)
                                            have HR147_0 := Aside0.mk hi147_0
                                            have HC147_0 := Aside0.mk hl147_0
                                            clear hi147_0 hl147_0
                                            replace p147 := eq_true p147
                                            replace q147 := eq_true q147
                                            have p148 : 0 ≤ (x182_7 : Int) := oD
                                            have q148 : x182_7 < (x5_7.length : Int) := oD
                                            obtain ⟨ad148, A148_0, c148_0, e148, hx148_0, hl148_0, hi148_0⟩ := at_L1 (Kd.S_reads' HO_5.out).2.2 x182_7 p148 q148
                                            obtain rfl : (⟨go35, 0, none⟩ : Addr) = ad148 := (by injection e148)
                                            obtain ⟨ce148, hce148, hMe148, hcc148⟩ := Kd.S_get HO_5.out [] x182_7 p148 (by first | exact q148 | exact oD | (have e_ := (Kd.S_reads' HO_5.out).1; omega))
                                            obtain ⟨ve148_0, rfl, ge148_0⟩ := hMe148
                                            have hv148_0 := hcc148 0 _ rfl
                                            rw [Nat.add_zero, show ((Kd.slice 2 (Kd.int .i64))).sz = 1 from rfl, Nat.mul_one] at hv148_0
                                            replace hv148_0 := Option.some.inj (hv148_0.symm.trans hx148_0)
                                            rw [hv148_0] at ge148_0
                                            have HL148_0 := Aside0.mk (show Kd.R (Kd.int .i64) 2 _ _ _ _ (rd_L1 x5_7 x182_7) from ge148_0)
                                            clear hv148_0 ge148_0
                                            have HX148_0 := Aside0.mk hx148_0
                                            clear hcc148 hce148
                                            (first | simp only [add_plain] at hx148_0 | simp only [add_at] at hx148_0 | simp only [Addr.add, Nat.zero_add] at hx148_0 | skip)
                                            have HR148_0 := Aside0.mk hi148_0
                                            have HC148_0 := Aside0.mk hl148_0
                                            clear hi148_0 hl148_0
                                            replace p148 := eq_true p148
                                            replace q148 := eq_true q148
                                            have ea_ := Option.some.inj (hx147_0.symm.trans hx148_0)
                                            injection ea_ with ea_ en_ ec_
                                            subst ea_
                                            subst ec_
                                            clear en_
                                            have p149 : 0 ≤ (x12_2 : Int) := oD
                                            have q149 : x12_2 < ((rd_L1 x5_7 x182_7).length : Int) := oD
                                            obtain ⟨ad149, e149, hx149_0⟩ := Kd.at_int (by repeat (first | (with_reducible exact HR148_0.out) | (with_reducible refine Kd.C_alloc ?_ _) | (with_reducible refine Kd.C_drewN ?_ _) | (with_reducible refine Kd.C_drew ?_) | exact HR148_0.out)) x12_2 p149 q149
                                            cases e149
                                            replace p149 := eq_true p149
                                            replace q149 := eq_true q149
                                            have p150 : 0 ≤ (x182_7 : Int) := oD
                                            have q150 : x182_7 < (x5_7.length : Int) := oD
                                            obtain ⟨ad150, A150_0, c150_0, e150, hx150_0, hl150_0, hi150_0⟩ := at_L1 (Kd.S_reads' HO_5.out).2.2 x182_7 p150 q150
                                            obtain rfl : (⟨go35, 0, none⟩ : Addr) = ad150 := (by injection e150)
                                            obtain ⟨ce150, hce150, hMe150, hcc150⟩ := Kd.S_get HO_5.out [] x182_7 p150 (by first | exact q150 | exact oD | (have e_ := (Kd.S_reads' HO_5.out).1; omega))
                                            obtain ⟨ve150_0, rfl, ge150_0⟩ := hMe150
                                            have hv150_0 := hcc150 0 _ rfl
                                            rw [Nat.add_zero, show ((Kd.slice 2 (Kd.int .i64))).sz = 1 from rfl, Nat.mul_one] at hv150_0
                                            replace hv150_0 := Option.some.inj (hv150_0.symm.trans hx150_0)
                                            rw [hv150_0] at ge150_0
                                            have HL150_0 := Aside0.mk (show Kd.R (Kd.int .i64) 2 _ _ _ _ (rd_L1 x5_7 x182_7) from ge150_0)
                                            clear hv150_0 ge150_0
                                            have HX150_0 := Aside0.mk hx150_0
                                            clear hcc150 hce150
                                            (first | simp only [add_plain] at hx150_0 | simp only [add_at] at hx150_0 | simp only [Addr.add, Nat.zero_add] at hx150_0 | skip)
                                            have HR150_0 := Aside0.mk hi150_0
                                            have HC150_0 := Aside0.mk hl150_0
                                            clear hi150_0 hl150_0
                                            replace p150 := eq_true p150
                                            replace q150 := eq_true q150
                                            have ea_ := Option.some.inj (hx147_0.symm.trans hx150_0)
                                            injection ea_ with ea_ en_ ec_
                                            subst ea_
                                            subst ec_
                                            clear en_
                                            have p151 : 0 ≤ (x16_5 : Int) := oD
                                            have q151 : x16_5 < ((rd_L1 x5_7 x182_7).length : Int) := oD
                                            obtain ⟨ad151, e151, hx151_0⟩ := Kd.at_int (by repeat (first | (with_reducible exact HR150_0.out) | (with_reducible refine Kd.C_alloc ?_ _) | (with_reducible refine Kd.C_drewN ?_ _) | (with_reducible refine Kd.C_drew ?_) | exact HR150_0.out)) x16_5 p151 q151
                                            obtain rfl : ad149 = ad151 := (by injection e151)
                                            replace p151 := eq_true p151
                                            replace q151 := eq_true q151
                                            have p88 : 0 ≤ (x12_2 : Int) := oD
                                            have q88 : (x12_2 : Int) < (((rd_L1 x5_7 x182_7).length : Int) : Int) := oD
                                            obtain ⟨go88, co88, eo88, gb88, gl88, cl88, HG88⟩ := Kd.R_form HL147_0.out (by omega)
                                            (first | cases eo88 | (injection eo88 with ea_ en_ ec_; (first | subst ea_ | (injection ea_ with ea_; subst ea_)); subst ec_; clear en_))
                                            (first | simp only [add_plain] at hx149_0 | skip)
                                            have GB88 := Aside0.mk gb88
                                            have GG88 := Aside0.mk HG88
                                            clear gb88 gl88 HG88
                                            (first | simp only [add_plain] at hx151_0 | skip)
                                            obtain ⟨hx88_0, hf88_0⟩ := Kd.R_celln 0 HL147_0.out (x12_2 : Int) p88 q88
                                            replace p88 := eq_true p88
                                            replace q88 := eq_true q88
                                            have hq90 : (x182_7 : Int) < (x5_7.length : Int) := (by have h_ : (x182_7 : Int) < ((x5_7.length : Int) : Int) := oD; first | exact h_ | (have e_ := (Kd.S_reads' HO_5.out).1; omega) | simpa only [List.length_set, List.length_set] using h_)
                                            obtain ⟨oki90, ce90, hcl90, hM90, hcc90, hok90, hbk90⟩ := Kd.S_borrow HO_5.out [] (x182_7 : Int) oD (by first | exact hq90 | (have e_ := (Kd.S_reads' HO_5.out).1; omega))
                                            obtain ⟨ve90_0, rfl, ge90_0⟩ := hM90
                                            have hv90 := hcc90 0 _ rfl
                                            rw [Nat.add_zero, show ((Kd.slice 2 (Kd.int .i64))).sz = 1 from rfl, Nat.mul_one] at hv90
                                            replace hv90 := Option.some.inj (hv90.symm.trans HX147_0.out)
                                            subst hv90
                                            clear hcc90 hcl90
                                            replace ge90_0 := (show Kd.R (Kd.int .i64) 2 _ _ _ _ (rd_L1 x5_7 x182_7) from ge90_0)
                                            have HP90 := Kd.R_putg ge90_0 (x12_2 : Int) (Int.tmod (wrap64 ((rd (rd_L1 x5_7 x182_7) x12_2) + (wrap64 ((Int.tmod (wrap64 ((rd (rd_L1 x5_5 x16_5) (ji55)) * t135)) a1) * (rd (rd_L1 x5_7 x182_7) x16_5))))) a1)
                                            have HXp90 := Aside0.mk (cell_grown HP90.2 HX147_0.out (cell_ne (hok90 _ (ge90_0.1 _ rfl)).2))
                                            rw [← Ny152.out] at HP90
                                            have HPr90 := Aside0.mk HP90.1
                                            have HS90 := hbk90 HP90.2 (fun k_ e_ => by injection e_ with e_; subst e_; exact ge90_0.1 _ rfl) (x' := y152) (Kd.M_row HP90.1)
                                            rw [← Ny154.out] at HS90
                                            have HQ90 := Aside0.mk HS90
                                            clear HP90 HS90 hbk90 hok90
                                            refine start_ (n := 26) (S := fun w' => w'.cell? ⟨go35, (x182_7).toNat, none⟩ = some (.slice (some ⟨go88, 0, none⟩) (rd_L1 x5_7 x182_7).length c147_0) ∧ w'.cell? ⟨go35, (x182_7).toNat, none⟩ = some (.slice (some ⟨go88, 0, none⟩) (rd_L1 x5_7 x182_7).length c147_0) ∧ w'.cell? ⟨go88, (x12_2).toNat, none⟩ = some (.int .i64 (rd (rd_L1 x5_7 x182_7) x12_2)) ∧ w'.cell? ⟨go35, (x182_7).toNat, none⟩ = some (.slice (some (⟨go88, 0, none⟩ : Addr)) (rd_L1 x5_7 x182_7).length c147_0) ∧ w'.cell? ⟨go88, (x16_5).toNat, none⟩ = some (.int .i64 (rd (rd_L1 x5_7 x182_7) x16_5))) (ds := [25]) #[false, false, false, false, false, false, false, false, false, false, false, false, false, false, false, false, false, false, false, false, false, false, false, false, false, false] (by kernel_rfl) rfl rfl ⟨hx147_0, hx148_0, hx149_0, hx150_0, hx151_0⟩ (fun hHeld => ?_); refine with_tabW impl_reduced.tab40 impl_reduced.bits40 (fun HT_ HW_ => ?_)
                                            generalize wr.drew = w89 at HO_5 HB GG88 HL147_0 HL148_0 HL150_0 HQ90 HR147_0 HR148_0 HR150_0 HX147_0 HX148_0 HX150_0 HXp90 hf88_0 hx147_0 hx148_0 hx149_0 hx150_0 hx151_0 hx88_0 hHeld ⊢
                                            refine pure_ (i := 0) (N := some 185) (v := ?_) (a' := ?_) #[true, false, false, false, false, false, false, false, false, false, false, false, false, false, false, false, false, false, false, false, false, false, false, false, false, false] rfl rfl (any_of HT_.out (by kernel_rfl)) (fun _ _ _ h => h) (Or.inl ⟨by rfl, ?_⟩) ?_ ?_
                                            rotate_left; · intro w'; go_simp; with_reducible rfl
                                            rotate_left; · simp only [Act.put, zI, zZ, zS, i64_w, i32_w]; rfl
                                            refine pure_ (i := 1) (N := some 186) (v := ?_) (a' := ?_) #[true, true, false, false, false, false, false, false, false, false, false, false, false, false, false, false, false, false, false, false, false, false, false, false, false, false] rfl rfl (any_of HT_.out (by kernel_rfl)) (fun _ _ _ h => h) (Or.inl ⟨by rfl, ?_⟩) ?_ ?_
                                            rotate_left; · intro w'; go_simp; with_reducible rfl
                                            rotate_left; · simp only [Act.put, zI, zZ, zS, i64_w, i32_w]; rfl
                                            refine pure_ (i := 2) (N := some 187) (v := ?_) (a' := ?_) #[true, true, true, false, false, false, false, false, false, false, false, false, false, false, false, false, false, false, false, false, false, false, false, false, false, false] rfl rfl (any_of HT_.out (by kernel_rfl)) (fun _ _ _ h => h) (Or.inl ⟨by rfl, ?_⟩) ?_ ?_
                                            rotate_left; · intro w'; go_simp; with_reducible rfl
                                            rotate_left; · simp only [Act.put, zI, zZ, zS, i64_w, i32_w]; rfl
                                            refine pure_ (i := 4) (N := some 189) (v := ?_) (a' := ?_) #[true, true, true, false, true, false, false, false, false, false, false, false, false, false, false, false, false, false, false, false, false, false, false, false, false, false] rfl rfl (any_of HT_.out (by kernel_rfl)) (fun _ _ _ h => h) (Or.inl ⟨by rfl, ?_⟩) ?_ ?_
                                            rotate_left; · intro w'; go_simp; with_reducible rfl
                                            rotate_left; · simp only [Act.put, zI, zZ, zS, i64_w, i32_w]; rfl
                                            refine pure_ (i := 5) (N := some 190) (v := ?_) (a' := ?_) #[true, true, true, false, true, true, false, false, false, false, false, false, false, false, false, false, false, false, false, false, false, false, false, false, false, false] rfl rfl (any_of HT_.out (by kernel_rfl)) (fun _ _ _ h => h) (Or.inl ⟨by rfl, ?_⟩) ?_ ?_
                                            rotate_left; · intro w'; go_simp; with_reducible rfl
                                            rotate_left; · simp only [Act.put, zI, zZ, zS, i64_w, i32_w]; rfl
                                            refine pure_ (i := 6) (N := some 191) (v := ?_) (a' := ?_) #[true, true, true, false, true, true, true, false, false, false, false, false, false, false, false, false, false, false, false, false, false, false, false, false, false, false] rfl rfl (any_of HT_.out (by kernel_rfl)) (fun _ _ _ h => h) (Or.inl ⟨by rfl, ?_⟩) ?_ ?_
                                            rotate_left; · intro w'; go_simp; with_reducible rfl
                                            rotate_left; · simp only [Act.put, zI, zZ, zS, i64_w, i32_w]; rfl
                                            refine pure_ (i := 7) (N := some 192) (v := ?_) (a' := ?_) #[true, true, true, false, true, true, true, true, false, false, false, false, false, false, false, false, false, false, false, false, false, false, false, false, false, false] rfl rfl (any_of HT_.out (by kernel_rfl)) (fun _ _ _ h => h) (Or.inl ⟨by rfl, ?_⟩) ?_ ?_
                                            rotate_left; · intro w'; go_simp; with_reducible rfl
                                            rotate_left; · simp only [Act.put, zI, zZ, zS, i64_w, i32_w]; rfl
                                            refine pure_ (i := 9) (N := some 194) (v := ?_) (a' := ?_) #[true, true, true, false, true, true, true, true, false, true, false, false, false, false, false, false, false, false, false, false, false, false, false, false, false, false] rfl rfl (any_of HT_.out (by kernel_rfl)) (fun _ _ _ h => h) (Or.inl ⟨by rfl, ?_⟩) ?_ ?_
                                            rotate_left; · intro w'; go_simp; with_reducible rfl
                                            rotate_left; · simp only [Act.put, zI, zZ, zS, i64_w, i32_w]; rfl
                                            refine pure_ (i := 12) (N := some 197) (v := ?_) (a' := ?_) #[true, true, true, false, true, true, true, true, false, true, false, false, true, false, false, false, false, false, false, false, false, false, false, false, false, false] rfl rfl (any_of HT_.out (by kernel_rfl)) (fun _ _ _ h => h) (Or.inl ⟨by rfl, ?_⟩) ?_ ?_
                                            rotate_left; · intro w'; go_simp; with_reducible rfl
                                            rotate_left; · simp only [Act.put, zI, zZ, zS, i64_w, i32_w]; rfl
                                            refine pure_ (i := 13) (N := some 198) (v := ?_) (a' := ?_) #[true, true, true, false, true, true, true, true, false, true, false, false, true, true, false, false, false, false, false, false, false, false, false, false, false, false] rfl rfl (any_of HT_.out (by kernel_rfl)) (fun _ _ _ h => h) (Or.inl ⟨by rfl, ?_⟩) ?_ ?_
                                            rotate_left; · intro w'; go_simp; with_reducible rfl
                                            rotate_left; · simp only [Act.put, zI, zZ, zS, i64_w, i32_w]; rfl
                                            refine pure_ (i := 14) (N := some 199) (v := ?_) (a' := ?_) #[true, true, true, false, true, true, true, true, false, true, false, false, true, true, true, false, false, false, false, false, false, false, false, false, false, false] rfl rfl (any_of HT_.out (by kernel_rfl)) (fun _ _ _ h => h) (Or.inl ⟨by rfl, ?_⟩) ?_ ?_
                                            rotate_left; · intro w'; go_simp; with_reducible rfl
                                            rotate_left; · simp only [Act.put, zI, zZ, zS, i64_w, i32_w]; rfl
                                            refine pure_ (i := 15) (N := some 200) (v := ?_) (a' := ?_) #[true, true, true, false, true, true, true, true, false, true, false, false, true, true, true, true, false, false, false, false, false, false, false, false, false, false] rfl rfl (any_of HT_.out (by kernel_rfl)) (fun _ _ _ h => h) (Or.inl ⟨by rfl, ?_⟩) ?_ ?_
                                            rotate_left; · intro w'; go_simp; with_reducible rfl
                                            rotate_left; · simp only [Act.put, zI, zZ, zS, i64_w, i32_w]; rfl
                                            refine pure_ (i := 17) (N := some 202) (v := ?_) (a' := ?_) #[true, true, true, false, true, true, true, true, false, true, false, false, true, true, true, true, false, true, false, false, false, false, false, false, false, false] rfl rfl (any_of HT_.out (by kernel_rfl)) (fun _ _ _ h => h) (Or.inl ⟨by rfl, ?_⟩) ?_ ?_
                                            rotate_left; · intro w'; go_simp; with_reducible rfl
                                            rotate_left; · simp only [Act.put, zI, zZ, zS, i64_w, i32_w]; rfl
                                            refine pure_ (i := 22) (N := some 207) (v := ?_) (a' := ?_) #[true, true, true, false, true, true, true, true, false, true, false, false, true, true, true, true, false, true, false, false, false, false, true, false, false, false] rfl rfl (any_of HT_.out (by kernel_rfl)) (fun _ _ _ h => h) (Or.inl ⟨by rfl, ?_⟩) ?_ ?_
                                            rotate_left; · intro w'; go_simp; with_reducible rfl
                                            rotate_left; · simp only [Act.put, zI, zZ, zS, i64_w, i32_w]; rfl
                                            refine take_ (i := 3) (N := some 188) (v := ?_) (a' := ?_) #[true, true, true, true, true, true, true, true, false, true, false, false, true, true, true, true, false, true, false, false, false, false, true, false, false, false] rfl rfl (take_ofW HT_.out HW_.out (by kernel_rfl)) (fun _ _ _ h => h) (Or.inl ⟨by rfl, ?_⟩) hHeld ?_ ?_
                                            rotate_left; · rintro w' ⟨s0, s1, s2, s3, s4⟩; go_simp; with_reducible rfl
                                            rotate_left; · simp only [Act.put, zI, zZ, zS, i64_w, i32_w]; rfl
                                            refine take_ (i := 8) (N := some 193) (v := ?_) (a' := ?_) #[true, true, true, true, true, true, true, true, true, true, false, false, true, true, true, true, false, true, false, false, false, false, true, false, false, false] rfl rfl (take_ofW HT_.out HW_.out (by kernel_rfl)) (fun _ _ _ h => h) (Or.inl ⟨by rfl, ?_⟩) hHeld ?_ ?_
                                            rotate_left; · rintro w' ⟨s0, s1, s2, s3, s4⟩; go_simp; with_reducible rfl
                                            rotate_left; · simp only [Act.put, zI, zZ, zS, i64_w, i32_w]; rfl
                                            refine pure_ (i := 10) (N := some 195) (v := ?_) (a' := ?_) #[true, true, true, true, true, true, true, true, true, true, true, false, true, true, true, true, false, true, false, false, false, false, true, false, false, false] rfl rfl (any_of HT_.out (by kernel_rfl)) (fun _ _ _ h => h) (Or.inl ⟨by rfl, ?_⟩) ?_ ?_
                                            rotate_left; · intro w'; go_simp; with_reducible rfl
                                            rotate_left; · simp only [Act.put, zI, zZ, zS, i64_w, i32_w]; rfl
                                            refine take_ (i := 11) (N := some 196) (v := ?_) (a' := ?_) #[true, true, true, true, true, true, true, true, true, true, true, true, true, true, true, true, false, true, false, false, false, false, true, false, false, false] rfl rfl (take_ofW HT_.out HW_.out (by kernel_rfl)) (fun _ _ _ h => h) (Or.inl ⟨by rfl, ?_⟩) hHeld ?_ ?_
                                            rotate_left; · rintro w' ⟨s0, s1, s2, s3, s4⟩; go_simp; with_reducible rfl
                                            rotate_left; · simp only [Act.put, zI, zZ, zS, i64_w, i32_w]; rfl
                                            refine take_ (i := 16) (N := some 201) (v := ?_) (a' := ?_) #[true, true, true, true, true, true, true, true, true, true, true, true, true, true, true, true, true, true, false, false, false, false, true, false, false, false] rfl rfl (take_ofW HT_.out HW_.out (by kernel_rfl)) (fun _ _ _ h => h) (Or.inl ⟨by rfl, ?_⟩) hHeld ?_ ?_
                                            rotate_left; · rintro w' ⟨s0, s1, s2, s3, s4⟩; go_simp; with_reducible rfl
                                            rotate_left; · simp only [Act.put, zI, zZ, zS, i64_w, i32_w]; rfl
                                            refine pure_ (i := 18) (N := some 203) (v := ?_) (a' := ?_) #[true, true, true, true, true, true, true, true, true, true, true, true, true, true, true, true, true, true, true, false, false, false, true, false, false, false] rfl rfl (any_of HT_.out (by kernel_rfl)) (fun _ _ _ h => h) (Or.inl ⟨by rfl, ?_⟩) ?_ ?_
                                            rotate_left; · intro w'; go_simp; with_reducible rfl
                                            rotate_left; · simp only [Act.put, zI, zZ, zS, i64_w, i32_w]; rfl
                                            refine take_ (i := 19) (N := some 204) (v := ?_) (a' := ?_) #[true, true, true, true, true, true, true, true, true, true, true, true, true, true, true, true, true, true, true, true, false, false, true, false, false, false] rfl rfl (take_ofW HT_.out HW_.out (by kernel_rfl)) (fun _ _ _ h => h) (Or.inl ⟨by rfl, ?_⟩) hHeld ?_ ?_
                                            rotate_left; · rintro w' ⟨s0, s1, s2, s3, s4⟩; go_simp; with_reducible rfl
                                            rotate_left; · simp only [Act.put, zI, zZ, zS, i64_w, i32_w]; rfl
                                            refine pure_ (i := 20) (N := some 205) (v := ?_) (a' := ?_) #[true, true, true, true, true, true, true, true, true, true, true, true, true, true, true, true, true, true, true, true, true, false, true, false, false, false] rfl rfl (any_of HT_.out (by kernel_rfl)) (fun _ _ _ h => h) (Or.inl ⟨by rfl, ?_⟩) ?_ ?_
                                            rotate_left; · intro w'; go_simp; with_reducible rfl
                                            rotate_left; · simp only [Act.put, zI, zZ, zS, i64_w, i32_w]; rfl
                                            refine pure_ (i := 21) (N := some 206) (v := ?_) (a' := ?_) #[true, true, true, true, true, true, true, true, true, true, true, true, true, true, true, true, true, true, true, true, true, true, true, false, false, false] rfl rfl (any_of HT_.out (by kernel_rfl)) (fun _ _ _ h => h) (Or.inl ⟨by rfl, ?_⟩) ?_ ?_
                                            rotate_left; · intro w'; go_simp; with_reducible rfl
                                            rotate_left; · simp only [Act.put, zI, zZ, zS, i64_w, i32_w]; rfl
                                            refine pure_ (i := 23) (N := some 208) (v := ?_) (a' := ?_) #[true, true, true, true, true, true, true, true, true, true, true, true, true, true, true, true, true, true, true, true, true, true, true, true, false, false] rfl rfl (any_of HT_.out (by kernel_rfl)) (fun _ _ _ h => h) (Or.inl ⟨by rfl, ?_⟩) ?_ ?_
                                            rotate_left; · intro w'; go_simp; with_reducible rfl
                                            rotate_left; · simp only [Act.put, zI, zZ, zS, i64_w, i32_w]; rfl
                                            refine pure_ (i := 24) (N := some 209) (v := ?_) (a' := ?_) #[true, true, true, true, true, true, true, true, true, true, true, true, true, true, true, true, true, true, true, true, true, true, true, true, true, false] rfl rfl (any_of HT_.out (by kernel_rfl)) (fun _ _ _ h => h) (Or.inl ⟨by rfl, ?_⟩) ?_ ?_
                                            rotate_left; · intro w'; go_simp; with_reducible rfl
                                            rotate_left; · simp only [Act.put, zI, zZ, zS, i64_w, i32_w]; rfl
                                            refine last_ (i := 25) (N := none) #[true, true, true, true, true, true, true, true, true, true, true, true, true, true, true, true, true, true, true, true, true, true, true, true, true, true] rfl rfl (one_of HT_.out (by kernel_rfl)) (by decide) (fun K hK => ?_)
                                            refine skip_ (w1 := ?_) (by rfl) rfl ?_ ?_
                                            rotate_left; · go_simp; rfl
                                            refine hK.out _ _ ?_
                                            clear hK K
                                            refine done_ (done_of HT_.out (by kernel_rfl)) ?_
                                            try go_wp2
                                            (try simp only [← hl5_7])
                                            first | go_roundg k7 | (simp only [← hji24]; go_roundg k7) | (simp only [← hji55]; go_roundg k7)
                                            case measure => have := HK1.out; have := HK2.out; have := HJ19.out; have := HK4.out; have := HK5.out; have := HK6.out; have := HK7.out; omega
                                            case rel => exact ⟨(y154), (wrap64 (x182_7 + 1)), rs, (by first | exact H' | (rw [hji24]; exact H') | (rw [hji55]; exact H')), ⟨by have := HK1.out; have := HK2.out; have := HJ19.out; have := HK4.out; have := HK5.out; have := HK6.out; have := HK7.out; omega⟩, ⟨by (try simp only [hl5_4]); (try simp only [hl5_5]); (try simp only [hl5_6]); (try simp only [hl5_7]); (with_reducible repeat (first | apply Kd.S_alloc | apply Kd.S_drewN | apply Kd.S_drew)); exact HQ90.out⟩, ⟨by repeat (first | (with_reducible first | exact HB.out | apply below_alloc | apply pw_below_drewN | apply below_drew1 | refine below_set ?_ GB88.out) | exact HB.out)⟩⟩
                                          rw [if_pos c87] at H
                                          exact absurd H (by simp)
                                    rw [if_pos c67] at H
                                    have c67b0 : decide (x152_6 < (l0.length : Int)) = true := decide_eq_true c67
                                    (try simp only [hl5_4, hl5_5, hl5_6] at c67b0)
                                    clear c67
                                    by_cases c68 : 0 ≤ x16_5
                                    case neg => rw [if_neg c68] at H; exact absurd H (by simp)
                                    rw [if_pos c68] at H
                                    have c68b0 : decide (0 ≤ x16_5) = true := decide_eq_true c68
                                    clear c68
                                    by_cases c69 : x16_5 < (x5_6.length : Int)
                                    case neg => rw [if_neg c69] at H; exact absurd H (by simp)
                                    rw [if_pos c69] at H
                                    have c69b0 : decide (x16_5 < (x5_6.length : Int)) = true := decide_eq_true c69
                                    (try simp only [hl5_4, hl5_5, hl5_6] at c69b0)
                                    clear c69
                                    by_cases c70 : 0 ≤ x152_6
                                    case neg => rw [if_neg c70] at H; exact absurd H (by simp)
                                    rw [if_pos c70] at H
                                    have c70b0 : decide (0 ≤ x152_6) = true := decide_eq_true c70
                                    clear c70
                                    by_cases c71 : x152_6 < ((rd_L1 x5_6 x16_5).length : Int)
                                    case neg => rw [if_neg c71] at H; exact absurd H (by simp)
                                    rw [if_pos c71] at H
                                    have c71b0 : decide (x152_6 < ((rd_L1 x5_6 x16_5).length : Int)) = true := decide_eq_true c71
                                    (try simp only [hl5_4, hl5_5, hl5_6] at c71b0)
                                    clear c71
                                    by_cases c72 : 0 ≤ x12_2
                                    case neg => rw [if_neg c72] at H; exact absurd H (by simp)
                                    rw [if_pos c72] at H
                                    have c72b0 : decide (0 ≤ x12_2) = true := decide_eq_true c72
                                    clear c72
                                    by_cases c73 : x12_2 < (x5_6.length : Int)
                                    case neg => rw [if_neg c73] at H; exact absurd H (by simp)
                                    rw [if_pos c73] at H
                                    have c73b0 : decide (x12_2 < (x5_6.length : Int)) = true := decide_eq_true c73
                                    (try simp only [hl5_4, hl5_5, hl5_6] at c73b0)
                                    clear c73
                                    by_cases c74 : x152_6 < ((rd_L1 x5_6 x12_2).length : Int)
                                    case neg => rw [if_neg c74] at H; exact absurd H (by simp)
                                    rw [if_pos c74] at H
                                    have c74b0 : decide (x152_6 < ((rd_L1 x5_6 x12_2).length : Int)) = true := decide_eq_true c74
                                    (try simp only [hl5_4, hl5_5, hl5_6] at c74b0)
                                    clear c74
                                    replace H := Option.bind_eq_some_iff.mp H
                                    obtain ⟨t143, A750, H⟩ := H
                                    replace H : (impl_reduced.l6 k6 a1 (x5_6.set (x16_5 : Int).toNat ((rd_L1 x5_6 x16_5).set (x152_6 : Int).toNat t143)) (l0.length : Int) x12_2 t135 x16_5 (Int.tmod (wrap64 ((rd (rd_L1 x5_5 x16_5) (ji55)) * t135)) a1) (l0.length : Int) (wrap64 (x152_6 + 1))) = some r := H
                                    have A75 := Aside0.mk A750
                                    clear A750
                                    obtain ⟨y144, hy144⟩ : ∃ y_ : List Int, y_ = ((rd_L1 x5_6 x16_5).set (x152_6 : Int).toNat t143) := ⟨_, rfl⟩
                                    replace H : (impl_reduced.l6 k6 a1 (x5_6.set (x16_5 : Int).toNat y144) (l0.length : Int) x12_2 t135 x16_5 (Int.tmod (wrap64 ((rd (rd_L1 x5_5 x16_5) (ji55)) * t135)) a1) (l0.length : Int) (wrap64 (x152_6 + 1))) = some r := by first | (rw [hy144]; with_reducible exact H) | (have H2_ := (Option.bind_some _ _).symm.trans H; rw [hy144]; with_reducible exact H2_) | (have H2_ := (Option.bind_some _ _).symm.trans H; with_reducible exact H2_) | with_reducible exact H | (rw [hy144]; exact H) | exact H
                                    have Ny144 := Aside0.mk hy144
                                    clear hy144
                                    obtain ⟨y146, hy146⟩ : ∃ y_ : List (List Int), y_ = (x5_6.set (x16_5 : Int).toNat y144) := ⟨_, rfl⟩
                                    replace H : (impl_reduced.l6 k6 a1 y146 (l0.length : Int) x12_2 t135 x16_5 (Int.tmod (wrap64 ((rd (rd_L1 x5_5 x16_5) (ji55)) * t135)) a1) (l0.length : Int) (wrap64 (x152_6 + 1))) = some r := by first | (rw [hy146]; with_reducible exact H) | (have H2_ := (Option.bind_some _ _).symm.trans H; rw [hy146]; with_reducible exact H2_) | (have H2_ := (Option.bind_some _ _).symm.trans H; with_reducible exact H2_) | with_reducible exact H | (rw [hy146]; exact H) | exact H
                                    have Ny146 := Aside0.mk hy146
                                    clear hy146
                                    have H' := Aside0.mk H
                                    clear H
                                    try go_wp2
                                    have n0_ := Aside0.mk (Kd.S_drew HO_5.out)
                                    have n1_ := Aside0.mk (below_drew1 HB.out)
                                    clear HO_5
                                    clear HB
                                    have HO_5 := n0_
                                    have HB := n1_
                                    clear n0_ n1_
                                    have p138 : 0 ≤ (x16_5 : Int) := oD
                                    have q138 : x16_5 < (x5_6.length : Int) := oD
                                    obtain ⟨ad138, A138_0, c138_0, e138, hx138_0, hl138_0, hi138_0⟩ := at_L1 (Kd.S_reads' HO_5.out).2.2 x16_5 p138 q138
                                    obtain rfl : (⟨go35, 0, none⟩ : Addr) = ad138 := (by injection e138)
                                    obtain ⟨ce138, hce138, hMe138, hcc138⟩ := Kd.S_get HO_5.out [] x16_5 p138 (by first | exact q138 | exact oD | (have e_ := (Kd.S_reads' HO_5.out).1; omega))
                                    obtain ⟨ve138_0, rfl, ge138_0⟩ := hMe138
                                    have hv138_0 := hcc138 0 _ rfl
                                    rw [Nat.add_zero, show ((Kd.slice 2 (Kd.int .i64))).sz = 1 from rfl, Nat.mul_one] at hv138_0
                                    replace hv138_0 := Option.some.inj (hv138_0.symm.trans hx138_0)
                                    rw [hv138_0] at ge138_0
                                    have HL138_0 := Aside0.mk (show Kd.R (Kd.int .i64) 2 _ _ _ _ (rd_L1 x5_6 x16_5) from ge138_0)
                                    clear hv138_0 ge138_0
                                    have HX138_0 := Aside0.mk hx138_0
                                    clear hcc138 hce138
                                    (first | simp only [add_plain] at hx138_0 | simp only [add_at] at hx138_0 | simp only [Addr.add, Nat.zero_add] at hx138_0 | skip)
                                    have HR138_0 := Aside0.mk hi138_0
                                    have HC138_0 := Aside0.mk hl138_0
                                    clear hi138_0 hl138_0
                                    replace p138 := eq_true p138
                                    replace q138 := eq_true q138
                                    have p139 : 0 ≤ (x16_5 : Int) := oD
                                    have q139 : x16_5 < (x5_6.length : Int) := oD
                                    obtain ⟨ad139, A139_0, c139_0, e139, hx139_0, hl139_0, hi139_0⟩ := at_L1 (Kd.S_reads' HO_5.out).2.2 x16_5 p139 q139
                                    obtain rfl : (⟨go35, 0, none⟩ : Addr) = ad139 := (by injection e139)
                                    obtain ⟨ce139, hce139, hMe139, hcc139⟩ := Kd.S_get HO_5.out [] x16_5 p139 (by first | exact q139 | exact oD | (have e_ := (Kd.S_reads' HO_5.out).1; omega))
                                    obtain ⟨ve139_0, rfl, ge139_0⟩ := hMe139
                                    have hv139_0 := hcc139 0 _ rfl
                                    rw [Nat.add_zero, show ((Kd.slice 2 (Kd.int .i64))).sz = 1 from rfl, Nat.mul_one] at hv139_0
                                    replace hv139_0 := Option.some.inj (hv139_0.symm.trans hx139_0)
                                    rw [hv139_0] at ge139_0
                                    have HL139_0 := Aside0.mk (show Kd.R (Kd.int .i64) 2 _ _ _ _ (rd_L1 x5_6 x16_5) from ge139_0)
                                    clear hv139_0 ge139_0
                                    have HX139_0 := Aside0.mk hx139_0
                                    clear hcc139 hce139
                                    (first | simp only [add_plain] at hx139_0 | simp only [add_at] at hx139_0 | simp only [Addr.add, Nat.zero_add] at hx139_0 | skip)
                                    have HR139_0 := Aside0.mk hi139_0
                                    have HC139_0 := Aside0.mk hl139_0
                                    clear hi139_0 hl139_0
                                    replace p139 := eq_true p139
                                    replace q139 := eq_true q139
                                    have ea_ := Option.some.inj (hx138_0.symm.trans hx139_0)
                                    injection ea_ with ea_ en_ ec_
                                    subst ea_
                                    subst ec_
                                    clear en_
                                    have p140 : 0 ≤ (x152_6 : Int) := oD
                                    have q140 : x152_6 < ((rd_L1 x5_6 x16_5).length : Int) := oD
                                    obtain ⟨ad140, e140, hx140_0⟩ := Kd.at_int (by repeat (first | (with_reducible exact HR139_0.out) | (with_reducible refine Kd.C_alloc ?_ _) | (with_reducible refine Kd.C_drewN ?_ _) | (with_reducible refine Kd.C_drew ?_) | exact HR139_0.out)) x152_6 p140 q140
                                    cases e140
                                    replace p140 := eq_true p140
                                    replace q140 := eq_true q140
                                    have p141 : 0 ≤ (x12_2 : Int) := oD
                                    have q141 : x12_2 < (x5_6.length : Int) := oD
                                    obtain ⟨ad141, A141_0, c141_0, e141, hx141_0, hl141_0, hi141_0⟩ := at_L1 (Kd.S_reads' HO_5.out).2.2 x12_2 p141 q141
                                    obtain rfl : (⟨go35, 0, none⟩ : Addr) = ad141 := (by injection e141)
                                    obtain ⟨ce141, hce141, hMe141, hcc141⟩ := Kd.S_get HO_5.out [] x12_2 p141 (by first | exact q141 | exact oD | (have e_ := (Kd.S_reads' HO_5.out).1; omega))
                                    obtain ⟨ve141_0, rfl, ge141_0⟩ := hMe141
                                    have hv141_0 := hcc141 0 _ rfl
                                    rw [Nat.add_zero, show ((Kd.slice 2 (Kd.int .i64))).sz = 1 from rfl, Nat.mul_one] at hv141_0
                                    replace hv141_0 := Option.some.inj (hv141_0.symm.trans hx141_0)
                                    rw [hv141_0] at ge141_0
                                    have HL141_0 := Aside0.mk (show Kd.R (Kd.int .i64) 2 _ _ _ _ (rd_L1 x5_6 x12_2) from ge141_0)
                                    clear hv141_0 ge141_0
                                    have HX141_0 := Aside0.mk hx141_0
                                    clear hcc141 hce141
                                    (first | simp only [add_plain] at hx141_0 | simp only [add_at] at hx141_0 | simp only [Addr.add, Nat.zero_add] at hx141_0 | skip)
                                    have HR141_0 := Aside0.mk hi141_0
                                    have HC141_0 := Aside0.mk hl141_0
                                    clear hi141_0 hl141_0
                                    replace p141 := eq_true p141
                                    replace q141 := eq_true q141
                                    have p142 : 0 ≤ (x152_6 : Int) := oD
                                    have q142 : x152_6 < ((rd_L1 x5_6 x12_2).length : Int) := oD
                                    obtain ⟨ad142, e142, hx142_0⟩ := Kd.at_int (by repeat (first | (with_reducible exact HR141_0.out) | (with_reducible refine Kd.C_alloc ?_ _) | (with_reducible refine Kd.C_drewN ?_ _) | (with_reducible refine Kd.C_drew ?_) | exact HR141_0.out)) x152_6 p142 q142
                                    cases e142
                                    replace p142 := eq_true p142
                                    replace q142 := eq_true q142
                                    refine start_ (n := 26) (S := fun w' => w'.cell? ⟨go35, (x16_5).toNat, none⟩ = some (.slice (some ad140) (rd_L1 x5_6 x16_5).length c138_0) ∧ w'.cell? ⟨go35, (x16_5).toNat, none⟩ = some (.slice (some ad140) (rd_L1 x5_6 x16_5).length c138_0) ∧ w'.cell? (ad140.add (x152_6).toNat) = some (.int .i64 (rd (rd_L1 x5_6 x16_5) x152_6)) ∧ w'.cell? ⟨go35, (x12_2).toNat, none⟩ = some (.slice (some ad142) (rd_L1 x5_6 x12_2).length c141_0) ∧ w'.cell? (ad142.add (x152_6).toNat) = some (.int .i64 (rd (rd_L1 x5_6 x12_2) x152_6))) (ds := [25]) #[false, false, false, false, false, false, false, false, false, false, false, false, false, false, false, false, false, false, false, false, false, false, false, false, false, false] (by kernel_rfl) rfl rfl ⟨hx138_0, hx139_0, hx140_0, hx141_0, hx142_0⟩ (fun hHeld => ?_); refine with_tabW impl_reduced.tab35 impl_reduced.bits35 (fun HT_ HW_ => ?_)
                                    generalize wr.drew = w77 at HO_5 HB HL138_0 HL139_0 HL141_0 HR138_0 HR139_0 HR141_0 HX138_0 HX139_0 HX141_0 hx138_0 hx139_0 hx140_0 hx141_0 hx142_0 hHeld ⊢
                                    refine pure_ (i := 0) (N := some 155) (v := ?_) (a' := ?_) #[true, false, false, false, false, false, false, false, false, false, false, false, false, false, false, false, false, false, false, false, false, false, false, false, false, false] rfl rfl (any_of HT_.out (by kernel_rfl)) (fun _ _ _ h => h) (Or.inl ⟨by rfl, ?_⟩) ?_ ?_
                                    rotate_left; · intro w'; go_simp; with_reducible rfl
                                    rotate_left; · simp only [Act.put, zI, zZ, zS, i64_w, i32_w]; rfl
                                    refine pure_ (i := 1) (N := some 156) (v := ?_) (a' := ?_) #[true, true, false, false, false, false, false, false, false, false, false, false, false, false, false, false, false, false, false, false, false, false, false, false, false, false] rfl rfl (any_of HT_.out (by kernel_rfl)) (fun _ _ _ h => h) (Or.inl ⟨by rfl, ?_⟩) ?_ ?_
                                    rotate_left; · intro w'; go_simp; with_reducible rfl
                                    rotate_left; · simp only [Act.put, zI, zZ, zS, i64_w, i32_w]; rfl
                                    refine pure_ (i := 2) (N := some 157) (v := ?_) (a' := ?_) #[true, true, true, false, false, false, false, false, false, false, false, false, false, false, false, false, false, false, false, false, false, false, false, false, false, false] rfl rfl (any_of HT_.out (by kernel_rfl)) (fun _ _ _ h => h) (Or.inl ⟨by rfl, ?_⟩) ?_ ?_
                                    rotate_left; · intro w'; go_simp; with_reducible rfl
                                    rotate_left; · simp only [Act.put, zI, zZ, zS, i64_w, i32_w]; rfl
                                    refine pure_ (i := 4) (N := some 159) (v := ?_) (a' := ?_) #[true, true, true, false, true, false, false, false, false, false, false, false, false, false, false, false, false, false, false, false, false, false, false, false, false, false] rfl rfl (any_of HT_.out (by kernel_rfl)) (fun _ _ _ h => h) (Or.inl ⟨by rfl, ?_⟩) ?_ ?_
                                    rotate_left; · intro w'; go_simp; with_reducible rfl
                                    rotate_left; · simp only [Act.put, zI, zZ, zS, i64_w, i32_w]; rfl
                                    refine pure_ (i := 5) (N := some 160) (v := ?_) (a' := ?_) #[true, true, true, false, true, true, false, false, false, false, false, false, false, false, false, false, false, false, false, false, false, false, false, false, false, false] rfl rfl (any_of HT_.out (by kernel_rfl)) (fun _ _ _ h => h) (Or.inl ⟨by rfl, ?_⟩) ?_ ?_
                                    rotate_left; · intro w'; go_simp; with_reducible rfl
                                    rotate_left; · simp only [Act.put, zI, zZ, zS, i64_w, i32_w]; rfl
                                    refine pure_ (i := 6) (N := some 161) (v := ?_) (a' := ?_) #[true, true, true, false, true, true, true, false, false, false, false, false, false, false, false, false, false, false, false, false, false, false, false, false, false, false] rfl rfl (any_of HT_.out (by kernel_rfl)) (fun _ _ _ h => h) (Or.inl ⟨by rfl, ?_⟩) ?_ ?_
                                    rotate_left; · intro w'; go_simp; with_reducible rfl
                                    rotate_left; · simp only [Act.put, zI, zZ, zS, i64_w, i32_w]; rfl
                                    refine pure_ (i := 7) (N := some 162) (v := ?_) (a' := ?_) #[true, true, true, false, true, true, true, true, false, false, false, false, false, false, false, false, false, false, false, false, false, false, false, false, false, false] rfl rfl (any_of HT_.out (by kernel_rfl)) (fun _ _ _ h => h) (Or.inl ⟨by rfl, ?_⟩) ?_ ?_
                                    rotate_left; · intro w'; go_simp; with_reducible rfl
                                    rotate_left; · simp only [Act.put, zI, zZ, zS, i64_w, i32_w]; rfl
                                    refine pure_ (i := 9) (N := some 164) (v := ?_) (a' := ?_) #[true, true, true, false, true, true, true, true, false, true, false, false, false, false, false, false, false, false, false, false, false, false, false, false, false, false] rfl rfl (any_of HT_.out (by kernel_rfl)) (fun _ _ _ h => h) (Or.inl ⟨by rfl, ?_⟩) ?_ ?_
                                    rotate_left; · intro w'; go_simp; with_reducible rfl
                                    rotate_left; · simp only [Act.put, zI, zZ, zS, i64_w, i32_w]; rfl
                                    refine pure_ (i := 12) (N := some 167) (v := ?_) (a' := ?_) #[true, true, true, false, true, true, true, true, false, true, false, false, true, false, false, false, false, false, false, false, false, false, false, false, false, false] rfl rfl (any_of HT_.out (by kernel_rfl)) (fun _ _ _ h => h) (Or.inl ⟨by rfl, ?_⟩) ?_ ?_
                                    rotate_left; · intro w'; go_simp; with_reducible rfl
                                    rotate_left; · simp only [Act.put, zI, zZ, zS, i64_w, i32_w]; rfl
                                    refine pure_ (i := 13) (N := some 168) (v := ?_) (a' := ?_) #[true, true, true, false, true, true, true, true, false, true, false, false, true, true, false, false, false, false, false, false, false, false, false, false, false, false] rfl rfl (any_of HT_.out (by kernel_rfl)) (fun _ _ _ h => h) (Or.inl ⟨by rfl, ?_⟩) ?_ ?_
                                    rotate_left; · intro w'; go_simp; with_reducible rfl
                                    rotate_left; · simp only [Act.put, zI, zZ, zS, i64_w, i32_w]; rfl
                                    refine pure_ (i := 14) (N := some 169) (v := ?_) (a' := ?_) #[true, true, true, false, true, true, true, true, false, true, false, false, true, true, true, false, false, false, false, false, false, false, false, false, false, false] rfl rfl (any_of HT_.out (by kernel_rfl)) (fun _ _ _ h => h) (Or.inl ⟨by rfl, ?_⟩) ?_ ?_
                                    rotate_left; · intro w'; go_simp; with_reducible rfl
                                    rotate_left; · simp only [Act.put, zI, zZ, zS, i64_w, i32_w]; rfl
                                    refine pure_ (i := 15) (N := some 170) (v := ?_) (a' := ?_) #[true, true, true, false, true, true, true, true, false, true, false, false, true, true, true, true, false, false, false, false, false, false, false, false, false, false] rfl rfl (any_of HT_.out (by kernel_rfl)) (fun _ _ _ h => h) (Or.inl ⟨by rfl, ?_⟩) ?_ ?_
                                    rotate_left; · intro w'; go_simp; with_reducible rfl
                                    rotate_left; · simp only [Act.put, zI, zZ, zS, i64_w, i32_w]; rfl
                                    refine pure_ (i := 17) (N := some 172) (v := ?_) (a' := ?_) #[true, true, true, false, true, true, true, true, false, true, false, false, true, true, true, true, false, true, false, false, false, false, false, false, false, false] rfl rfl (any_of HT_.out (by kernel_rfl)) (fun _ _ _ h => h) (Or.inl ⟨by rfl, ?_⟩) ?_ ?_
                                    rotate_left; · intro w'; go_simp; with_reducible rfl
                                    rotate_left; · simp only [Act.put, zI, zZ, zS, i64_w, i32_w]; rfl
                                    refine pure_ (i := 22) (N := some 177) (v := ?_) (a' := ?_) #[true, true, true, false, true, true, true, true, false, true, false, false, true, true, true, true, false, true, false, false, false, false, true, false, false, false] rfl rfl (any_of HT_.out (by kernel_rfl)) (fun _ _ _ h => h) (Or.inl ⟨by rfl, ?_⟩) ?_ ?_
                                    rotate_left; · intro w'; go_simp; with_reducible rfl
                                    rotate_left; · simp only [Act.put, zI, zZ, zS, i64_w, i32_w]; rfl
                                    refine take_ (i := 3) (N := some 158) (v := ?_) (a' := ?_) #[true, true, true, true, true, true, true, true, false, true, false, false, true, true, true, true, false, true, false, false, false, false, true, false, false, false] rfl rfl (take_ofW HT_.out HW_.out (by kernel_rfl)) (fun _ _ _ h => h) (Or.inl ⟨by rfl, ?_⟩) hHeld ?_ ?_
                                    rotate_left; · rintro w' ⟨s0, s1, s2, s3, s4⟩; go_simp; with_reducible rfl
                                    rotate_left; · simp only [Act.put, zI, zZ, zS, i64_w, i32_w]; rfl
                                    refine take_ (i := 8) (N := some 163) (v := ?_) (a' := ?_) #[true, true, true, true, true, true, true, true, true, true, false, false, true, true, true, true, false, true, false, false, false, false, true, false, false, false] rfl rfl (take_ofW HT_.out HW_.out (by kernel_rfl)) (fun _ _ _ h => h) (Or.inl ⟨by rfl, ?_⟩) hHeld ?_ ?_
                                    rotate_left; · rintro w' ⟨s0, s1, s2, s3, s4⟩; go_simp; with_reducible rfl
                                    rotate_left; · simp only [Act.put, zI, zZ, zS, i64_w, i32_w]; rfl
                                    refine pure_ (i := 10) (N := some 165) (v := ?_) (a' := ?_) #[true, true, true, true, true, true, true, true, true, true, true, false, true, true, true, true, false, true, false, false, false, false, true, false, false, false] rfl rfl (any_of HT_.out (by kernel_rfl)) (fun _ _ _ h => h) (Or.inl ⟨by rfl, ?_⟩) ?_ ?_
                                    rotate_left; · intro w'; go_simp; with_reducible rfl
                                    rotate_left; · simp only [Act.put, zI, zZ, zS, i64_w, i32_w]; rfl
                                    refine take_ (i := 11) (N := some 166) (v := ?_) (a' := ?_) #[true, true, true, true, true, true, true, true, true, true, true, true, true, true, true, true, false, true, false, false, false, false, true, false, false, false] rfl rfl (take_ofW HT_.out HW_.out (by kernel_rfl)) (fun _ _ _ h => h) (Or.inl ⟨by rfl, ?_⟩) hHeld ?_ ?_
                                    rotate_left; · rintro w' ⟨s0, s1, s2, s3, s4⟩; go_simp; with_reducible rfl
                                    rotate_left; · simp only [Act.put, zI, zZ, zS, i64_w, i32_w]; rfl
                                    refine take_ (i := 16) (N := some 171) (v := ?_) (a' := ?_) #[true, true, true, true, true, true, true, true, true, true, true, true, true, true, true, true, true, true, false, false, false, false, true, false, false, false] rfl rfl (take_ofW HT_.out HW_.out (by kernel_rfl)) (fun _ _ _ h => h) (Or.inl ⟨by rfl, ?_⟩) hHeld ?_ ?_
                                    rotate_left; · rintro w' ⟨s0, s1, s2, s3, s4⟩; go_simp; with_reducible rfl
                                    rotate_left; · simp only [Act.put, zI, zZ, zS, i64_w, i32_w]; rfl
                                    refine pure_ (i := 18) (N := some 173) (v := ?_) (a' := ?_) #[true, true, true, true, true, true, true, true, true, true, true, true, true, true, true, true, true, true, true, false, false, false, true, false, false, false] rfl rfl (any_of HT_.out (by kernel_rfl)) (fun _ _ _ h => h) (Or.inl ⟨by rfl, ?_⟩) ?_ ?_
                                    rotate_left; · intro w'; go_simp; with_reducible rfl
                                    rotate_left; · simp only [Act.put, zI, zZ, zS, i64_w, i32_w]; rfl
                                    refine take_ (i := 19) (N := some 174) (v := ?_) (a' := ?_) #[true, true, true, true, true, true, true, true, true, true, true, true, true, true, true, true, true, true, true, true, false, false, true, false, false, false] rfl rfl (take_ofW HT_.out HW_.out (by kernel_rfl)) (fun _ _ _ h => h) (Or.inl ⟨by rfl, ?_⟩) hHeld ?_ ?_
                                    rotate_left; · rintro w' ⟨s0, s1, s2, s3, s4⟩; go_simp; with_reducible rfl
                                    rotate_left; · simp only [Act.put, zI, zZ, zS, i64_w, i32_w]; rfl
                                    refine pure_ (i := 20) (N := some 175) (v := ?_) (a' := ?_) #[true, true, true, true, true, true, true, true, true, true, true, true, true, true, true, true, true, true, true, true, true, false, true, false, false, false] rfl rfl (any_of HT_.out (by kernel_rfl)) (fun _ _ _ h => h) (Or.inl ⟨by rfl, ?_⟩) ?_ ?_
                                    rotate_left; · intro w'; go_simp; with_reducible rfl
                                    rotate_left; · simp only [Act.put, zI, zZ, zS, i64_w, i32_w]; rfl
                                    refine pure_ (i := 21) (N := some 176) (v := ?_) (a' := ?_) #[true, true, true, true, true, true, true, true, true, true, true, true, true, true, true, true, true, true, true, true, true, true, true, false, false, false] rfl rfl (any_of HT_.out (by kernel_rfl)) (fun _ _ _ h => h) (Or.inl ⟨by rfl, ?_⟩) ?_ ?_
                                    rotate_left; · intro w'; go_simp; with_reducible rfl
                                    rotate_left; · simp only [Act.put, zI, zZ, zS, i64_w, i32_w]; rfl
                                    refine one_ (i := 23) (N := some 178) #[true, true, true, true, true, true, true, true, true, true, true, true, true, true, true, true, true, true, true, true, true, true, true, true, false, false] rfl rfl (one_of HT_.out (by kernel_rfl)) (by decide) (fun K hK => ?_)
                                    refine goes_ Try.func89 (by kernel_rfl) rfl #[.int .i64 (wrap64 ((rd (rd_L1 x5_6 x16_5) x152_6) - (wrap64 ((Int.tmod (wrap64 ((rd (rd_L1 x5_5 x16_5) (ji55)) * t135)) a1) * (rd (rd_L1 x5_6 x12_2) x152_6))))), .int .i64 a1] (by rfl) rfl rfl (by (try simp only [List.map_toArray, List.map_cons, List.map_nil]); first | done | (simp only [hji55]; rfl) | rfl | (simp only [List.length_drop, List.length_take]; rfl)) ?_
                                    with_reducible refine (impl_modulo.calls (wrap64 ((rd (rd_L1 x5_6 x16_5) x152_6) - (wrap64 ((Int.tmod (wrap64 ((rd (rd_L1 x5_5 x16_5) (ji55)) * t135)) a1) * (rd (rd_L1 x5_6 x12_2) x152_6))))) a1 t143 _ A75.out).mono ?_
                                    rintro e w' ⟨rfl, ⟨nd, rfl⟩⟩
                                    refine ⟨_, rfl, ?_⟩
                                    have p76 : 0 ≤ (x152_6 : Int) := oD
                                    have q76 : (x152_6 : Int) < (((rd_L1 x5_6 x16_5).length : Int) : Int) := oD
                                    obtain ⟨go76, co76, eo76, gb76, gl76, cl76, HG76⟩ := Kd.R_form HL138_0.out (by omega)
                                    (first | cases eo76 | (injection eo76 with ea_ en_ ec_; (first | subst ea_ | (injection ea_ with ea_; subst ea_)); subst ec_; clear en_))
                                    (first | simp only [add_plain] at hx140_0 | skip)
                                    have GB76 := Aside0.mk gb76
                                    have GG76 := Aside0.mk HG76
                                    clear gb76 gl76 HG76
                                    (first | simp only [add_plain] at hx140_0 | skip)
                                    obtain ⟨hx76_0, hf76_0⟩ := Kd.R_celln 0 HL138_0.out (x152_6 : Int) p76 q76
                                    replace p76 := eq_true p76
                                    replace q76 := eq_true q76
                                    have hq78 : (x16_5 : Int) < (x5_6.length : Int) := (by have h_ : (x16_5 : Int) < ((x5_6.length : Int) : Int) := oD; first | exact h_ | (have e_ := (Kd.S_reads' HO_5.out).1; omega) | simpa only [List.length_set, List.length_set] using h_)
                                    obtain ⟨oki78, ce78, hcl78, hM78, hcc78, hok78, hbk78⟩ := Kd.S_borrow HO_5.out [] (x16_5 : Int) oD (by first | exact hq78 | (have e_ := (Kd.S_reads' HO_5.out).1; omega))
                                    obtain ⟨ve78_0, rfl, ge78_0⟩ := hM78
                                    have hv78 := hcc78 0 _ rfl
                                    rw [Nat.add_zero, show ((Kd.slice 2 (Kd.int .i64))).sz = 1 from rfl, Nat.mul_one] at hv78
                                    replace hv78 := Option.some.inj (hv78.symm.trans HX138_0.out)
                                    subst hv78
                                    clear hcc78 hcl78
                                    replace ge78_0 := (show Kd.R (Kd.int .i64) 2 _ _ _ _ (rd_L1 x5_6 x16_5) from ge78_0)
                                    have HP78 := Kd.R_putg ge78_0 (x152_6 : Int) t143
                                    have HXp78 := Aside0.mk (cell_grown HP78.2 HX138_0.out (cell_ne (hok78 _ (ge78_0.1 _ rfl)).2))
                                    rw [← Ny144.out] at HP78
                                    have HPr78 := Aside0.mk HP78.1
                                    have HS78 := hbk78 HP78.2 (fun k_ e_ => by injection e_ with e_; subst e_; exact ge78_0.1 _ rfl) (x' := y144) (Kd.M_row HP78.1)
                                    rw [← Ny146.out] at HS78
                                    have HQ78 := Aside0.mk HS78
                                    clear HP78 HS78 hbk78 hok78
                                    refine hK.out _ _ ⟨hHeld.1, hHeld.2.1, hHeld.2.2.1, hHeld.2.2.2.1, hHeld.2.2.2.2⟩ (fun hHeld => ?_)
                                    clear hK K
                                    refine norm_ (a' := ?_) ?_ ?_
                                    rotate_left; · show Act.put _ (some 178) _ = _; simp only [Act.put, zI, zZ, zS, i64_w, i32_w]; rfl
                                    refine pure_ (i := 24) (N := some 179) (v := ?_) (a' := ?_) #[true, true, true, true, true, true, true, true, true, true, true, true, true, true, true, true, true, true, true, true, true, true, true, true, true, false] rfl rfl (any_of HT_.out (by kernel_rfl)) (fun _ _ _ h => h) (Or.inl ⟨by rfl, ?_⟩) ?_ ?_
                                    rotate_left; · intro w'; go_simp; with_reducible rfl
                                    rotate_left; · simp only [Act.put, zI, zZ, zS, i64_w, i32_w]; rfl
                                    refine last_ (i := 25) (N := none) #[true, true, true, true, true, true, true, true, true, true, true, true, true, true, true, true, true, true, true, true, true, true, true, true, true, true] rfl rfl (one_of HT_.out (by kernel_rfl)) (by decide) (fun K hK => ?_)
                                    refine skip_ (w1 := ?_) (by rfl) rfl ?_ ?_
                                    rotate_left; · go_simp; rfl
                                    refine hK.out _ _ ?_
                                    clear hK K
                                    refine done_ (done_of HT_.out (by kernel_rfl)) ?_
                                    try go_wp2
                                    (try simp only [← hl5_6])
                                    first | go_roundg k6 | (simp only [← hji24]; go_roundg k6) | (simp only [← hji55]; go_roundg k6)
                                    case measure => have := HK1.out; have := HK2.out; have := HJ19.out; have := HK4.out; have := HK5.out; have := HK6.out; omega
                                    case rel => exact ⟨(y146), (wrap64 (x152_6 + 1)), rs, (by first | exact H' | (rw [hji24]; exact H') | (rw [hji55]; exact H')), ⟨by have := HK1.out; have := HK2.out; have := HJ19.out; have := HK4.out; have := HK5.out; have := HK6.out; omega⟩, ⟨by (try simp only [hl5_4]); (try simp only [hl5_5]); (try simp only [hl5_6]); (with_reducible repeat (first | apply Kd.S_alloc | apply Kd.S_drewN | apply Kd.S_drew)); exact HQ78.out⟩, ⟨by repeat (first | (with_reducible first | exact HB.out | apply below_alloc | apply pw_below_drewN | apply below_drew1 | refine below_set ?_ GB76.out) | exact HB.out)⟩⟩
                              rw [if_pos c66] at H
                              have c66b0 : ((Int.tmod (wrap64 ((rd (rd_L1 x5_5 x16_5) (ji55)) * t135)) a1) == 0) = true := beq_iff_eq.mpr c66
                              have c66b1 : ((Int.tmod (wrap64 ((rd (rd_L1 x5_5 x16_5) (ji55)) * t135)) a1) != 0) = false := bne_eq_false_iff_eq.mpr c66
                              clear c66
                              have H' := Aside0.mk H
                              clear H
                              have p136 : 0 ≤ (x16_5 : Int) := oD
                              have q136 : x16_5 < (x5_5.length : Int) := oD
                              obtain ⟨ad136, A136_0, c136_0, e136, hx136_0, hl136_0, hi136_0⟩ := at_L1 (Kd.S_reads' HO_5.out).2.2 x16_5 p136 q136
                              obtain rfl : (⟨go35, 0, none⟩ : Addr) = ad136 := (by injection e136)
                              obtain ⟨ce136, hce136, hMe136, hcc136⟩ := Kd.S_get HO_5.out [] x16_5 p136 (by first | exact q136 | exact oD | (have e_ := (Kd.S_reads' HO_5.out).1; omega))
                              obtain ⟨ve136_0, rfl, ge136_0⟩ := hMe136
                              have hv136_0 := hcc136 0 _ rfl
                              rw [Nat.add_zero, show ((Kd.slice 2 (Kd.int .i64))).sz = 1 from rfl, Nat.mul_one] at hv136_0
                              replace hv136_0 := Option.some.inj (hv136_0.symm.trans hx136_0)
                              rw [hv136_0] at ge136_0
                              have HL136_0 := Aside0.mk (show Kd.R (Kd.int .i64) 2 _ _ _ _ (rd_L1 x5_5 x16_5) from ge136_0)
                              clear hv136_0 ge136_0
                              have HX136_0 := Aside0.mk hx136_0
                              clear hcc136 hce136
                              (first | simp only [add_plain] at hx136_0 | simp only [add_at] at hx136_0 | simp only [Addr.add, Nat.zero_add] at hx136_0 | skip)
                              have HR136_0 := Aside0.mk hi136_0
                              have HC136_0 := Aside0.mk hl136_0
                              clear hi136_0 hl136_0
                              replace p136 := eq_true p136
                              replace q136 := eq_true q136
                              have p137 : 0 ≤ ((ji55) : Int) := oD
                              have q137 : (ji55) < ((rd_L1 x5_5 x16_5).length : Int) := oD
                              obtain ⟨ad137, e137, hx137_0⟩ := Kd.at_int (by repeat (first | (with_reducible exact HR136_0.out) | (with_reducible refine Kd.C_alloc ?_ _) | (with_reducible refine Kd.C_drewN ?_ _) | (with_reducible refine Kd.C_drew ?_) | exact HR136_0.out)) (ji55) p137 q137
                              cases e137
                              replace p137 := eq_true p137
                              replace q137 := eq_true q137
                              go_wp2
                              (try simp only [← hl5_5])
                              first | go_roundg k5 | (simp only [← hji24]; go_roundg k5) | (simp only [← hji55]; go_roundg k5)
                              case measure => have := HK1.out; have := HK2.out; have := HJ19.out; have := HK4.out; have := HK5.out; omega
                              case rel => exact ⟨(x5_5), (wrap64 (x16_5 + 1)), rs, (by first | exact H' | (rw [hji24]; exact H') | (rw [hji55]; exact H')), ⟨by have := HK1.out; have := HK2.out; have := HJ19.out; have := HK4.out; have := HK5.out; omega⟩, ⟨by (try simp only [hl5_4]); (try simp only [hl5_5]); (with_reducible repeat (first | apply Kd.S_alloc | apply Kd.S_drewN | apply Kd.S_drew)); exact HO_5.out⟩, ⟨bl⟩⟩
                            rw [if_pos c65] at H
                            exact absurd H (by simp)
                      rw [if_pos c39] at H
                      have c39b0 : decide (x90_4 < (x5_2.length : Int)) = true := decide_eq_true c39
                      (try simp only [hl5_4] at c39b0)
                      clear c39
                      by_cases c40 : 0 ≤ x90_4
                      case neg => rw [if_neg c40] at H; exact absurd H (by simp)
                      rw [if_pos c40] at H
                      have c40b0 : decide (0 ≤ x90_4) = true := decide_eq_true c40
                      clear c40
                      by_cases c41 : x90_4 < (x5_4.length : Int)
                      case neg => rw [if_neg c41] at H; exact absurd H (by simp)
                      rw [if_pos c41] at H
                      have c41b0 : decide (x90_4 < (x5_4.length : Int)) = true := decide_eq_true c41
                      (try simp only [hl5_4] at c41b0)
                      clear c41
                      by_cases c42 : 0 ≤ x12_2
                      case neg => rw [if_neg c42] at H; exact absurd H (by simp)
                      rw [if_pos c42] at H
                      have c42b0 : decide (0 ≤ x12_2) = true := decide_eq_true c42
                      clear c42
                      by_cases c43 : x12_2 < ((rd_L1 x5_4 x90_4).length : Int)
                      case neg => rw [if_neg c43] at H; exact absurd H (by simp)
                      rw [if_pos c43] at H
                      have c43b0 : decide (x12_2 < ((rd_L1 x5_4 x90_4).length : Int)) = true := decide_eq_true c43
                      (try simp only [hl5_4] at c43b0)
                      clear c43
                      by_cases c44 : 0 ≤ x13_19
                      case neg => rw [if_neg c44] at H; exact absurd H (by simp)
                      rw [if_pos c44] at H
                      have c44b0 : decide (0 ≤ x13_19) = true := decide_eq_true c44
                      clear c44
                      by_cases c45 : x13_19 < ((rd_L1 x5_4 x90_4).length : Int)
                      case neg => rw [if_neg c45] at H; exact absurd H (by simp)
                      rw [if_pos c45] at H
                      have c45b0 : decide (x13_19 < ((rd_L1 x5_4 x90_4).length : Int)) = true := decide_eq_true c45
                      (try simp only [hl5_4] at c45b0)
                      clear c45
                      obtain ⟨y127, hy127⟩ : ∃ y_ : List Int, y_ = ((rd_L1 x5_4 x90_4).set (x13_19 : Int).toNat (rd (rd_L1 x5_4 x90_4) x12_2)) := ⟨_, rfl⟩
                      replace H : (impl_reduced.l4 k4 a1 ((x5_4.set (x90_4 : Int).toNat y127).set (x90_4 : Int).toNat (y127.set (x12_2 : Int).toNat (rd (rd_L1 x5_4 x90_4) x13_19))) (l0.length : Int) x12_2 x13_19 (x5_2.length : Int) (wrap64 (x90_4 + 1))) = some r := by first | (rw [hy127]; with_reducible exact H) | (have H2_ := (Option.bind_some _ _).symm.trans H; rw [hy127]; with_reducible exact H2_) | (have H2_ := (Option.bind_some _ _).symm.trans H; with_reducible exact H2_) | with_reducible exact H | (rw [hy127]; exact H) | exact H
                      have Ny127 := Aside0.mk hy127
                      clear hy127
                      obtain ⟨y129, hy129⟩ : ∃ y_ : List (List Int), y_ = (x5_4.set (x90_4 : Int).toNat y127) := ⟨_, rfl⟩
                      replace H : (impl_reduced.l4 k4 a1 (y129.set (x90_4 : Int).toNat (y127.set (x12_2 : Int).toNat (rd (rd_L1 x5_4 x90_4) x13_19))) (l0.length : Int) x12_2 x13_19 (x5_2.length : Int) (wrap64 (x90_4 + 1))) = some r := by first | (rw [hy129]; with_reducible exact H) | (have H2_ := (Option.bind_some _ _).symm.trans H; rw [hy129]; with_reducible exact H2_) | (have H2_ := (Option.bind_some _ _).symm.trans H; with_reducible exact H2_) | with_reducible exact H | (rw [hy129]; exact H) | exact H
                      have Ny129 := Aside0.mk hy129
                      clear hy129
                      obtain ⟨y130, hy130⟩ : ∃ y_ : List Int, y_ = (y127.set (x12_2 : Int).toNat (rd (rd_L1 x5_4 x90_4) x13_19)) := ⟨_, rfl⟩
                      replace H : (impl_reduced.l4 k4 a1 (y129.set (x90_4 : Int).toNat y130) (l0.length : Int) x12_2 x13_19 (x5_2.length : Int) (wrap64 (x90_4 + 1))) = some r := by first | (rw [hy130]; with_reducible exact H) | (have H2_ := (Option.bind_some _ _).symm.trans H; rw [hy130]; with_reducible exact H2_) | (have H2_ := (Option.bind_some _ _).symm.trans H; with_reducible exact H2_) | with_reducible exact H | (rw [hy130]; exact H) | exact H
                      have Ny130 := Aside0.mk hy130
                      clear hy130
                      obtain ⟨y132, hy132⟩ : ∃ y_ : List (List Int), y_ = (y129.set (x90_4 : Int).toNat y130) := ⟨_, rfl⟩
                      replace H : (impl_reduced.l4 k4 a1 y132 (l0.length : Int) x12_2 x13_19 (x5_2.length : Int) (wrap64 (x90_4 + 1))) = some r := by first | (rw [hy132]; with_reducible exact H) | (have H2_ := (Option.bind_some _ _).symm.trans H; rw [hy132]; with_reducible exact H2_) | (have H2_ := (Option.bind_some _ _).symm.trans H; with_reducible exact H2_) | with_reducible exact H | (rw [hy132]; exact H) | exact H
                      have Ny132 := Aside0.mk hy132
                      clear hy132
                      have H' := Aside0.mk H
                      clear H
                      try go_wp2
                      have n0_ := Aside0.mk (Kd.S_drew HO_5.out)
                      have n1_ := Aside0.mk (below_drew1 HB.out)
                      clear HO_5
                      clear HB
                      have HO_5 := n0_
                      have HB := n1_
                      clear n0_ n1_
                      have p121 : 0 ≤ (x90_4 : Int) := oD
                      have q121 : x90_4 < (x5_4.length : Int) := oD
                      obtain ⟨ad121, A121_0, c121_0, e121, hx121_0, hl121_0, hi121_0⟩ := at_L1 (Kd.S_reads' HO_5.out).2.2 x90_4 p121 q121
                      obtain rfl : (⟨go35, 0, none⟩ : Addr) = ad121 := (by injection e121)
                      obtain ⟨ce121, hce121, hMe121, hcc121⟩ := Kd.S_get HO_5.out [] x90_4 p121 (by first | exact q121 | exact oD | (have e_ := (Kd.S_reads' HO_5.out).1; omega))
                      obtain ⟨ve121_0, rfl, ge121_0⟩ := hMe121
                      have hv121_0 := hcc121 0 _ rfl
                      rw [Nat.add_zero, show ((Kd.slice 2 (Kd.int .i64))).sz = 1 from rfl, Nat.mul_one] at hv121_0
                      replace hv121_0 := Option.some.inj (hv121_0.symm.trans hx121_0)
                      rw [hv121_0] at ge121_0
                      have HL121_0 := Aside0.mk (show Kd.R (Kd.int .i64) 2 _ _ _ _ (rd_L1 x5_4 x90_4) from ge121_0)
                      clear hv121_0 ge121_0
                      have HX121_0 := Aside0.mk hx121_0
                      clear hcc121 hce121
                      (first | simp only [add_plain] at hx121_0 | simp only [add_at] at hx121_0 | simp only [Addr.add, Nat.zero_add] at hx121_0 | skip)
                      have HR121_0 := Aside0.mk hi121_0
                      have HC121_0 := Aside0.mk hl121_0
                      clear hi121_0 hl121_0
                      replace p121 := eq_true p121
                      replace q121 := eq_true q121
                      have p122 : 0 ≤ (x90_4 : Int) := oD
                      have q122 : x90_4 < (x5_4.length : Int) := oD
                      obtain ⟨ad122, A122_0, c122_0, e122, hx122_0, hl122_0, hi122_0⟩ := at_L1 (Kd.S_reads' HO_5.out).2.2 x90_4 p122 q122
                      obtain rfl : (⟨go35, 0, none⟩ : Addr) = ad122 := (by injection e122)
                      obtain ⟨ce122, hce122, hMe122, hcc122⟩ := Kd.S_get HO_5.out [] x90_4 p122 (by first | exact q122 | exact oD | (have e_ := (Kd.S_reads' HO_5.out).1; omega))
                      obtain ⟨ve122_0, rfl, ge122_0⟩ := hMe122
                      have hv122_0 := hcc122 0 _ rfl
                      rw [Nat.add_zero, show ((Kd.slice 2 (Kd.int .i64))).sz = 1 from rfl, Nat.mul_one] at hv122_0
                      replace hv122_0 := Option.some.inj (hv122_0.symm.trans hx122_0)
                      rw [hv122_0] at ge122_0
                      have HL122_0 := Aside0.mk (show Kd.R (Kd.int .i64) 2 _ _ _ _ (rd_L1 x5_4 x90_4) from ge122_0)
                      clear hv122_0 ge122_0
                      have HX122_0 := Aside0.mk hx122_0
                      clear hcc122 hce122
                      (first | simp only [add_plain] at hx122_0 | simp only [add_at] at hx122_0 | simp only [Addr.add, Nat.zero_add] at hx122_0 | skip)
                      have HR122_0 := Aside0.mk hi122_0
                      have HC122_0 := Aside0.mk hl122_0
                      clear hi122_0 hl122_0
                      replace p122 := eq_true p122
                      replace q122 := eq_true q122
                      have ea_ := Option.some.inj (hx121_0.symm.trans hx122_0)
                      injection ea_ with ea_ en_ ec_
                      subst ea_
                      subst ec_
                      clear en_
                      have p123 : 0 ≤ (x90_4 : Int) := oD
                      have q123 : x90_4 < (x5_4.length : Int) := oD
                      obtain ⟨ad123, A123_0, c123_0, e123, hx123_0, hl123_0, hi123_0⟩ := at_L1 (Kd.S_reads' HO_5.out).2.2 x90_4 p123 q123
                      obtain rfl : (⟨go35, 0, none⟩ : Addr) = ad123 := (by injection e123)
                      obtain ⟨ce123, hce123, hMe123, hcc123⟩ := Kd.S_get HO_5.out [] x90_4 p123 (by first | exact q123 | exact oD | (have e_ := (Kd.S_reads' HO_5.out).1; omega))
                      obtain ⟨ve123_0, rfl, ge123_0⟩ := hMe123
                      have hv123_0 := hcc123 0 _ rfl
                      rw [Nat.add_zero, show ((Kd.slice 2 (Kd.int .i64))).sz = 1 from rfl, Nat.mul_one] at hv123_0
                      replace hv123_0 := Option.some.inj (hv123_0.symm.trans hx123_0)
                      rw [hv123_0] at ge123_0
                      have HL123_0 := Aside0.mk (show Kd.R (Kd.int .i64) 2 _ _ _ _ (rd_L1 x5_4 x90_4) from ge123_0)
                      clear hv123_0 ge123_0
                      have HX123_0 := Aside0.mk hx123_0
                      clear hcc123 hce123
                      (first | simp only [add_plain] at hx123_0 | simp only [add_at] at hx123_0 | simp only [Addr.add, Nat.zero_add] at hx123_0 | skip)
                      have HR123_0 := Aside0.mk hi123_0
                      have HC123_0 := Aside0.mk hl123_0
                      clear hi123_0 hl123_0
                      replace p123 := eq_true p123
                      replace q123 := eq_true q123
                      have ea_ := Option.some.inj (hx121_0.symm.trans hx123_0)
                      injection ea_ with ea_ en_ ec_
                      subst ea_
                      subst ec_
                      clear en_
                      have p124 : 0 ≤ (x12_2 : Int) := oD
                      have q124 : x12_2 < ((rd_L1 x5_4 x90_4).length : Int) := oD
                      obtain ⟨ad124, e124, hx124_0⟩ := Kd.at_int (by repeat (first | (with_reducible exact HR123_0.out) | (with_reducible refine Kd.C_alloc ?_ _) | (with_reducible refine Kd.C_drewN ?_ _) | (with_reducible refine Kd.C_drew ?_) | exact HR123_0.out)) x12_2 p124 q124
                      cases e124
                      replace p124 := eq_true p124
                      replace q124 := eq_true q124
                      have p125 : 0 ≤ (x90_4 : Int) := oD
                      have q125 : x90_4 < (x5_4.length : Int) := oD
                      obtain ⟨ad125, A125_0, c125_0, e125, hx125_0, hl125_0, hi125_0⟩ := at_L1 (Kd.S_reads' HO_5.out).2.2 x90_4 p125 q125
                      obtain rfl : (⟨go35, 0, none⟩ : Addr) = ad125 := (by injection e125)
                      obtain ⟨ce125, hce125, hMe125, hcc125⟩ := Kd.S_get HO_5.out [] x90_4 p125 (by first | exact q125 | exact oD | (have e_ := (Kd.S_reads' HO_5.out).1; omega))
                      obtain ⟨ve125_0, rfl, ge125_0⟩ := hMe125
                      have hv125_0 := hcc125 0 _ rfl
                      rw [Nat.add_zero, show ((Kd.slice 2 (Kd.int .i64))).sz = 1 from rfl, Nat.mul_one] at hv125_0
                      replace hv125_0 := Option.some.inj (hv125_0.symm.trans hx125_0)
                      rw [hv125_0] at ge125_0
                      have HL125_0 := Aside0.mk (show Kd.R (Kd.int .i64) 2 _ _ _ _ (rd_L1 x5_4 x90_4) from ge125_0)
                      clear hv125_0 ge125_0
                      have HX125_0 := Aside0.mk hx125_0
                      clear hcc125 hce125
                      (first | simp only [add_plain] at hx125_0 | simp only [add_at] at hx125_0 | simp only [Addr.add, Nat.zero_add] at hx125_0 | skip)
                      have HR125_0 := Aside0.mk hi125_0
                      have HC125_0 := Aside0.mk hl125_0
                      clear hi125_0 hl125_0
                      replace p125 := eq_true p125
                      replace q125 := eq_true q125
                      have ea_ := Option.some.inj (hx121_0.symm.trans hx125_0)
                      injection ea_ with ea_ en_ ec_
                      subst ea_
                      subst ec_
                      clear en_
                      have p126 : 0 ≤ (x13_19 : Int) := oD
                      have q126 : x13_19 < ((rd_L1 x5_4 x90_4).length : Int) := oD
                      obtain ⟨ad126, e126, hx126_0⟩ := Kd.at_int (by repeat (first | (with_reducible exact HR125_0.out) | (with_reducible refine Kd.C_alloc ?_ _) | (with_reducible refine Kd.C_drewN ?_ _) | (with_reducible refine Kd.C_drew ?_) | exact HR125_0.out)) x13_19 p126 q126
                      obtain rfl : ad124 = ad126 := (by injection e126)
                      replace p126 := eq_true p126
                      replace q126 := eq_true q126
                      have p46 : 0 ≤ (x13_19 : Int) := oD
                      have q46 : (x13_19 : Int) < (((rd_L1 x5_4 x90_4).length : Int) : Int) := oD
                      obtain ⟨go46, co46, eo46, gb46, gl46, cl46, HG46⟩ := Kd.R_form HL121_0.out (by omega)
                      (first | cases eo46 | (injection eo46 with ea_ en_ ec_; (first | subst ea_ | (injection ea_ with ea_; subst ea_)); subst ec_; clear en_))
                      (first | simp only [add_plain] at hx124_0 | skip)
                      have GB46 := Aside0.mk gb46
                      have GG46 := Aside0.mk HG46
                      clear gb46 gl46 HG46
                      (first | simp only [add_plain] at hx126_0 | skip)
                      obtain ⟨hx46_0, hf46_0⟩ := Kd.R_celln 0 HL121_0.out (x13_19 : Int) p46 q46
                      replace p46 := eq_true p46
                      replace q46 := eq_true q46
                      have hq49 : (x90_4 : Int) < (x5_4.length : Int) := (by have h_ : (x90_4 : Int) < ((x5_4.length : Int) : Int) := oD; first | exact h_ | (have e_ := (Kd.S_reads' HO_5.out).1; omega) | simpa only [List.length_set, List.length_set] using h_)
                      obtain ⟨oki49, ce49, hcl49, hM49, hcc49, hok49, hbk49⟩ := Kd.S_borrow HO_5.out [] (x90_4 : Int) oD (by first | exact hq49 | (have e_ := (Kd.S_reads' HO_5.out).1; omega))
                      obtain ⟨ve49_0, rfl, ge49_0⟩ := hM49
                      have hv49 := hcc49 0 _ rfl
                      rw [Nat.add_zero, show ((Kd.slice 2 (Kd.int .i64))).sz = 1 from rfl, Nat.mul_one] at hv49
                      replace hv49 := Option.some.inj (hv49.symm.trans HX121_0.out)
                      subst hv49
                      clear hcc49 hcl49
                      replace ge49_0 := (show Kd.R (Kd.int .i64) 2 _ _ _ _ (rd_L1 x5_4 x90_4) from ge49_0)
                      have HP49 := Kd.R_putg ge49_0 (x13_19 : Int) (rd (rd_L1 x5_4 x90_4) x12_2)
                      have HXp49 := Aside0.mk (cell_grown HP49.2 HX121_0.out (cell_ne (hok49 _ (ge49_0.1 _ rfl)).2))
                      rw [← Ny127.out] at HP49
                      have HPr49 := Aside0.mk HP49.1
                      have HS49 := hbk49 HP49.2 (fun k_ e_ => by injection e_ with e_; subst e_; exact ge49_0.1 _ rfl) (x' := y127) (Kd.M_row HP49.1)
                      rw [← Ny129.out] at HS49
                      have HQ49 := Aside0.mk HS49
                      clear HP49 HS49 hbk49 hok49
                      have p47 : 0 ≤ (x12_2 : Int) := oD
                      have q47 : (x12_2 : Int) < (((rd_L1 x5_4 x90_4).length : Int) : Int) := oD
                      obtain ⟨hx47_0, hf47_0⟩ := Kd.R_celln 0 HPr49.out (x12_2 : Int) p47 q47
                      obtain ⟨hu47_, hf47_9⟩ := Kd.R_celln 0 HL121_0.out (x12_2 : Int) p47 q47
                      clear hu47_
                      replace p47 := eq_true p47
                      replace q47 := eq_true q47
                      have hq51 : (x90_4 : Int) < (y129.length : Int) := (by have h_ : (x90_4 : Int) < ((x5_4.length : Int) : Int) := oD; first | exact h_ | (have e_ := (Kd.S_reads' HO_5.out).1; omega) | simpa only [Ny129.out, List.length_set] using h_)
                      obtain ⟨oki51, ce51, hcl51, hM51, hcc51, hok51, hbk51⟩ := Kd.S_borrow HQ49.out [] (x90_4 : Int) oD (by first | exact hq51 | (have e_ := (Kd.S_reads' HQ49.out).1; omega))
                      obtain ⟨ve51_0, rfl, ge51_0⟩ := hM51
                      have hv51 := hcc51 0 _ rfl
                      rw [Nat.add_zero, show ((Kd.slice 2 (Kd.int .i64))).sz = 1 from rfl, Nat.mul_one] at hv51
                      replace hv51 := Option.some.inj (hv51.symm.trans HXp49.out)
                      subst hv51
                      clear hcc51 hcl51
                      have hge51 := getD_set_own x5_4 ((x90_4 : Int)).toNat y127 (by have h_ := hq51; rw [Ny129.out, List.length_set] at h_; have h0_ : 0 ≤ ((x90_4 : Int) : Int) := oD; omega)
                      rw [← Ny129.out] at hge51
                      rw [hge51] at ge51_0
                      replace ge51_0 := (show Kd.R (Kd.int .i64) 2 _ _ _ _ y127 from ge51_0)
                      have HP51 := Kd.R_putg ge51_0 (x12_2 : Int) (rd (rd_L1 x5_4 x90_4) x13_19)
                      have HXp51 := Aside0.mk (cell_grown HP51.2 HXp49.out (cell_ne (hok51 _ (ge51_0.1 _ rfl)).2))
                      rw [← Ny130.out] at HP51
                      have HPr51 := Aside0.mk HP51.1
                      have HS51 := hbk51 HP51.2 (fun k_ e_ => by injection e_ with e_; subst e_; exact ge51_0.1 _ rfl) (x' := y130) (Kd.M_row HP51.1)
                      rw [← Ny132.out] at HS51
                      have HQ51 := Aside0.mk HS51
                      clear HP51 HS51 hbk51 hok51
                      refine start_ (n := 28) (S := fun w' => w'.cell? ⟨go35, (x90_4).toNat, none⟩ = some (.slice (some ⟨go46, 0, none⟩) (rd_L1 x5_4 x90_4).length c121_0) ∧ w'.cell? ⟨go35, (x90_4).toNat, none⟩ = some (.slice (some ⟨go46, 0, none⟩) (rd_L1 x5_4 x90_4).length c121_0) ∧ w'.cell? ⟨go35, (x90_4).toNat, none⟩ = some (.slice (some ⟨go46, 0, none⟩) (rd_L1 x5_4 x90_4).length c121_0) ∧ w'.cell? ⟨go46, (x12_2).toNat, none⟩ = some (.int .i64 (rd (rd_L1 x5_4 x90_4) x12_2)) ∧ w'.cell? ⟨go35, (x90_4).toNat, none⟩ = some (.slice (some (⟨go46, 0, none⟩ : Addr)) (rd_L1 x5_4 x90_4).length c121_0) ∧ w'.cell? ⟨go46, (x13_19).toNat, none⟩ = some (.int .i64 (rd (rd_L1 x5_4 x90_4) x13_19))) (ds := [25, 27]) #[false, false, false, false, false, false, false, false, false, false, false, false, false, false, false, false, false, false, false, false, false, false, false, false, false, false, false, false] (by kernel_rfl) rfl rfl ⟨hx121_0, hx122_0, hx123_0, hx124_0, hx125_0, hx126_0⟩ (fun hHeld => ?_); refine with_tabW impl_reduced.tab24 impl_reduced.bits24 (fun HT_ HW_ => ?_)
                      generalize wr.drew = w48 at HO_5 HB GG46 HL121_0 HL122_0 HL123_0 HL125_0 HQ49 HQ51 HR121_0 HR122_0 HR123_0 HR125_0 HX121_0 HX122_0 HX123_0 HX125_0 HXp49 HXp51 hf46_0 hf47_0 hf47_9 hx121_0 hx122_0 hx123_0 hx124_0 hx125_0 hx126_0 hx46_0 hx47_0 hHeld ⊢
                      refine pure_ (i := 0) (N := some 93) (v := ?_) (a' := ?_) #[true, false, false, false, false, false, false, false, false, false, false, false, false, false, false, false, false, false, false, false, false, false, false, false, false, false, false, false] rfl rfl (any_of HT_.out (by kernel_rfl)) (fun _ _ _ h => h) (Or.inl ⟨by rfl, ?_⟩) ?_ ?_
                      rotate_left; · intro w'; go_simp; with_reducible rfl
                      rotate_left; · simp only [Act.put, zI, zZ, zS, i64_w, i32_w]; rfl
                      refine pure_ (i := 1) (N := some 94) (v := ?_) (a' := ?_) #[true, true, false, false, false, false, false, false, false, false, false, false, false, false, false, false, false, false, false, false, false, false, false, false, false, false, false, false] rfl rfl (any_of HT_.out (by kernel_rfl)) (fun _ _ _ h => h) (Or.inl ⟨by rfl, ?_⟩) ?_ ?_
                      rotate_left; · intro w'; go_simp; with_reducible rfl
                      rotate_left; · simp only [Act.put, zI, zZ, zS, i64_w, i32_w]; rfl
                      refine pure_ (i := 2) (N := some 95) (v := ?_) (a' := ?_) #[true, true, true, false, false, false, false, false, false, false, false, false, false, false, false, false, false, false, false, false, false, false, false, false, false, false, false, false] rfl rfl (any_of HT_.out (by kernel_rfl)) (fun _ _ _ h => h) (Or.inl ⟨by rfl, ?_⟩) ?_ ?_
                      rotate_left; · intro w'; go_simp; with_reducible rfl
                      rotate_left; · simp only [Act.put, zI, zZ, zS, i64_w, i32_w]; rfl
                      refine pure_ (i := 4) (N := some 97) (v := ?_) (a' := ?_) #[true, true, true, false, true, false, false, false, false, false, false, false, false, false, false, false, false, false, false, false, false, false, false, false, false, false, false, false] rfl rfl (any_of HT_.out (by kernel_rfl)) (fun _ _ _ h => h) (Or.inl ⟨by rfl, ?_⟩) ?_ ?_
                      rotate_left; · intro w'; go_simp; with_reducible rfl
                      rotate_left; · simp only [Act.put, zI, zZ, zS, i64_w, i32_w]; rfl
                      refine pure_ (i := 5) (N := some 98) (v := ?_) (a' := ?_) #[true, true, true, false, true, true, false, false, false, false, false, false, false, false, false, false, false, false, false, false, false, false, false, false, false, false, false, false] rfl rfl (any_of HT_.out (by kernel_rfl)) (fun _ _ _ h => h) (Or.inl ⟨by rfl, ?_⟩) ?_ ?_
                      rotate_left; · intro w'; go_simp; with_reducible rfl
                      rotate_left; · simp only [Act.put, zI, zZ, zS, i64_w, i32_w]; rfl
                      refine pure_ (i := 6) (N := some 99) (v := ?_) (a' := ?_) #[true, true, true, false, true, true, true, false, false, false, false, false, false, false, false, false, false, false, false, false, false, false, false, false, false, false, false, false] rfl rfl (any_of HT_.out (by kernel_rfl)) (fun _ _ _ h => h) (Or.inl ⟨by rfl, ?_⟩) ?_ ?_
                      rotate_left; · intro w'; go_simp; with_reducible rfl
                      rotate_left; · simp only [Act.put, zI, zZ, zS, i64_w, i32_w]; rfl
                      refine pure_ (i := 7) (N := some 100) (v := ?_) (a' := ?_) #[true, true, true, false, true, true, true, true, false, false, false, false, false, false, false, false, false, false, false, false, false, false, false, false, false, false, false, false] rfl rfl (any_of HT_.out (by kernel_rfl)) (fun _ _ _ h => h) (Or.inl ⟨by rfl, ?_⟩) ?_ ?_
                      rotate_left; · intro w'; go_simp; with_reducible rfl
                      rotate_left; · simp only [Act.put, zI, zZ, zS, i64_w, i32_w]; rfl
                      refine pure_ (i := 9) (N := some 102) (v := ?_) (a' := ?_) #[true, true, true, false, true, true, true, true, false, true, false, false, false, false, false, false, false, false, false, false, false, false, false, false, false, false, false, false] rfl rfl (any_of HT_.out (by kernel_rfl)) (fun _ _ _ h => h) (Or.inl ⟨by rfl, ?_⟩) ?_ ?_
                      rotate_left; · intro w'; go_simp; with_reducible rfl
                      rotate_left; · simp only [Act.put, zI, zZ, zS, i64_w, i32_w]; rfl
                      refine pure_ (i := 10) (N := some 103) (v := ?_) (a' := ?_) #[true, true, true, false, true, true, true, true, false, true, true, false, false, false, false, false, false, false, false, false, false, false, false, false, false, false, false, false] rfl rfl (any_of HT_.out (by kernel_rfl)) (fun _ _ _ h => h) (Or.inl ⟨by rfl, ?_⟩) ?_ ?_
                      rotate_left; · intro w'; go_simp; with_reducible rfl
                      rotate_left; · simp only [Act.put, zI, zZ, zS, i64_w, i32_w]; rfl
                      refine pure_ (i := 11) (N := some 104) (v := ?_) (a' := ?_) #[true, true, true, false, true, true, true, true, false, true, true, true, false, false, false, false, false, false, false, false, false, false, false, false, false, false, false, false] rfl rfl (any_of HT_.out (by kernel_rfl)) (fun _ _ _ h => h) (Or.inl ⟨by rfl, ?_⟩) ?_ ?_
                      rotate_left; · intro w'; go_simp; with_reducible rfl
                      rotate_left; · simp only [Act.put, zI, zZ, zS, i64_w, i32_w]; rfl
                      refine pure_ (i := 12) (N := some 105) (v := ?_) (a' := ?_) #[true, true, true, false, true, true, true, true, false, true, true, true, true, false, false, false, false, false, false, false, false, false, false, false, false, false, false, false] rfl rfl (any_of HT_.out (by kernel_rfl)) (fun _ _ _ h => h) (Or.inl ⟨by rfl, ?_⟩) ?_ ?_
                      rotate_left; · intro w'; go_simp; with_reducible rfl
                      rotate_left; · simp only [Act.put, zI, zZ, zS, i64_w, i32_w]; rfl
                      refine pure_ (i := 14) (N := some 107) (v := ?_) (a' := ?_) #[true, true, true, false, true, true, true, true, false, true, true, true, true, false, true, false, false, false, false, false, false, false, false, false, false, false, false, false] rfl rfl (any_of HT_.out (by kernel_rfl)) (fun _ _ _ h => h) (Or.inl ⟨by rfl, ?_⟩) ?_ ?_
                      rotate_left; · intro w'; go_simp; with_reducible rfl
                      rotate_left; · simp only [Act.put, zI, zZ, zS, i64_w, i32_w]; rfl
                      refine pure_ (i := 17) (N := some 110) (v := ?_) (a' := ?_) #[true, true, true, false, true, true, true, true, false, true, true, true, true, false, true, false, false, true, false, false, false, false, false, false, false, false, false, false] rfl rfl (any_of HT_.out (by kernel_rfl)) (fun _ _ _ h => h) (Or.inl ⟨by rfl, ?_⟩) ?_ ?_
                      rotate_left; · intro w'; go_simp; with_reducible rfl
                      rotate_left; · simp only [Act.put, zI, zZ, zS, i64_w, i32_w]; rfl
                      refine pure_ (i := 18) (N := some 111) (v := ?_) (a' := ?_) #[true, true, true, false, true, true, true, true, false, true, true, true, true, false, true, false, false, true, true, false, false, false, false, false, false, false, false, false] rfl rfl (any_of HT_.out (by kernel_rfl)) (fun _ _ _ h => h) (Or.inl ⟨by rfl, ?_⟩) ?_ ?_
                      rotate_left; · intro w'; go_simp; with_reducible rfl
                      rotate_left; · simp only [Act.put, zI, zZ, zS, i64_w, i32_w]; rfl
                      refine pure_ (i := 19) (N := some 112) (v := ?_) (a' := ?_) #[true, true, true, false, true, true, true, true, false, true, true, true, true, false, true, false, false, true, true, true, false, false, false, false, false, false, false, false] rfl rfl (any_of HT_.out (by kernel_rfl)) (fun _ _ _ h => h) (Or.inl ⟨by rfl, ?_⟩) ?_ ?_
                      rotate_left; · intro w'; go_simp; with_reducible rfl
                      rotate_left; · simp only [Act.put, zI, zZ, zS, i64_w, i32_w]; rfl
                      refine pure_ (i := 21) (N := some 114) (v := ?_) (a' := ?_) #[true, true, true, false, true, true, true, true, false, true, true, true, true, false, true, false, false, true, true, true, false, true, false, false, false, false, false, false] rfl rfl (any_of HT_.out (by kernel_rfl)) (fun _ _ _ h => h) (Or.inl ⟨by rfl, ?_⟩) ?_ ?_
                      rotate_left; · intro w'; go_simp; with_reducible rfl
                      rotate_left; · simp only [Act.put, zI, zZ, zS, i64_w, i32_w]; rfl
                      refine take_ (i := 3) (N := some 96) (v := ?_) (a' := ?_) #[true, true, true, true, true, true, true, true, false, true, true, true, true, false, true, false, false, true, true, true, false, true, false, false, false, false, false, false] rfl rfl (take_ofW HT_.out HW_.out (by kernel_rfl)) (fun _ _ _ h => h) (Or.inl ⟨by rfl, ?_⟩) hHeld ?_ ?_
                      rotate_left; · rintro w' ⟨s0, s1, s2, s3, s4, s5⟩; go_simp; with_reducible rfl
                      rotate_left; · simp only [Act.put, zI, zZ, zS, i64_w, i32_w]; rfl
                      refine take_ (i := 8) (N := some 101) (v := ?_) (a' := ?_) #[true, true, true, true, true, true, true, true, true, true, true, true, true, false, true, false, false, true, true, true, false, true, false, false, false, false, false, false] rfl rfl (take_ofW HT_.out HW_.out (by kernel_rfl)) (fun _ _ _ h => h) (Or.inl ⟨by rfl, ?_⟩) hHeld ?_ ?_
                      rotate_left; · rintro w' ⟨s0, s1, s2, s3, s4, s5⟩; go_simp; with_reducible rfl
                      rotate_left; · simp only [Act.put, zI, zZ, zS, i64_w, i32_w]; rfl
                      refine take_ (i := 13) (N := some 106) (v := ?_) (a' := ?_) #[true, true, true, true, true, true, true, true, true, true, true, true, true, true, true, false, false, true, true, true, false, true, false, false, false, false, false, false] rfl rfl (take_ofW HT_.out HW_.out (by kernel_rfl)) (fun _ _ _ h => h) (Or.inl ⟨by rfl, ?_⟩) hHeld ?_ ?_
                      rotate_left; · rintro w' ⟨s0, s1, s2, s3, s4, s5⟩; go_simp; with_reducible rfl
                      rotate_left; · simp only [Act.put, zI, zZ, zS, i64_w, i32_w]; rfl
                      refine pure_ (i := 15) (N := some 108) (v := ?_) (a' := ?_) #[true, true, true, true, true, true, true, true, true, true, true, true, true, true, true, true, false, true, true, true, false, true, false, false, false, false, false, false] rfl rfl (any_of HT_.out (by kernel_rfl)) (fun _ _ _ h => h) (Or.inl ⟨by rfl, ?_⟩) ?_ ?_
                      rotate_left; · intro w'; go_simp; with_reducible rfl
                      rotate_left; · simp only [Act.put, zI, zZ, zS, i64_w, i32_w]; rfl
                      refine take_ (i := 16) (N := some 109) (v := ?_) (a' := ?_) #[true, true, true, true, true, true, true, true, true, true, true, true, true, true, true, true, true, true, true, true, false, true, false, false, false, false, false, false] rfl rfl (take_ofW HT_.out HW_.out (by kernel_rfl)) (fun _ _ _ h => h) (Or.inl ⟨by rfl, ?_⟩) hHeld ?_ ?_
                      rotate_left; · rintro w' ⟨s0, s1, s2, s3, s4, s5⟩; go_simp; with_reducible rfl
                      rotate_left; · simp only [Act.put, zI, zZ, zS, i64_w, i32_w]; rfl
                      refine take_ (i := 20) (N := some 113) (v := ?_) (a' := ?_) #[true, true, true, true, true, true, true, true, true, true, true, true, true, true, true, true, true, true, true, true, true, true, false, false, false, false, false, false] rfl rfl (take_ofW HT_.out HW_.out (by kernel_rfl)) (fun _ _ _ h => h) (Or.inl ⟨by rfl, ?_⟩) hHeld ?_ ?_
                      rotate_left; · rintro w' ⟨s0, s1, s2, s3, s4, s5⟩; go_simp; with_reducible rfl
                      rotate_left; · simp only [Act.put, zI, zZ, zS, i64_w, i32_w]; rfl
                      refine pure_ (i := 22) (N := some 115) (v := ?_) (a' := ?_) #[true, true, true, true, true, true, true, true, true, true, true, true, true, true, true, true, true, true, true, true, true, true, true, false, false, false, false, false] rfl rfl (any_of HT_.out (by kernel_rfl)) (fun _ _ _ h => h) (Or.inl ⟨by rfl, ?_⟩) ?_ ?_
                      rotate_left; · intro w'; go_simp; with_reducible rfl
                      rotate_left; · simp only [Act.put, zI, zZ, zS, i64_w, i32_w]; rfl
                      refine take_ (i := 23) (N := some 116) (v := ?_) (a' := ?_) #[true, true, true, true, true, true, true, true, true, true, true, true, true, true, true, true, true, true, true, true, true, true, true, true, false, false, false, false] rfl rfl (take_ofW HT_.out HW_.out (by kernel_rfl)) (fun _ _ _ h => h) (Or.inl ⟨by rfl, ?_⟩) hHeld ?_ ?_
                      rotate_left; · rintro w' ⟨s0, s1, s2, s3, s4, s5⟩; go_simp; with_reducible rfl
                      rotate_left; · simp only [Act.put, zI, zZ, zS, i64_w, i32_w]; rfl
                      refine pure_ (i := 24) (N := some 117) (v := ?_) (a' := ?_) #[true, true, true, true, true, true, true, true, true, true, true, true, true, true, true, true, true, true, true, true, true, true, true, true, true, false, false, false] rfl rfl (any_of HT_.out (by kernel_rfl)) (fun _ _ _ h => h) (Or.inl ⟨by rfl, ?_⟩) ?_ ?_
                      rotate_left; · intro w'; go_simp; with_reducible rfl
                      rotate_left; · simp only [Act.put, zI, zZ, zS, i64_w, i32_w]; rfl
                      refine last_ (i := 25) (N := none) #[true, true, true, true, true, true, true, true, true, true, true, true, true, true, true, true, true, true, true, true, true, true, true, true, true, true, false, false] rfl rfl (one_of HT_.out (by kernel_rfl)) (by decide) (fun K hK => ?_)
                      refine skip_ (w1 := ?_) (by rfl) rfl ?_ ?_
                      rotate_left; · go_simp; rfl
                      refine hK.out _ _ ?_
                      clear hK K
                      refine pure_ (i := 26) (N := some 118) (v := ?_) (a' := ?_) #[true, true, true, true, true, true, true, true, true, true, true, true, true, true, true, true, true, true, true, true, true, true, true, true, true, true, true, false] rfl rfl (any_of HT_.out (by kernel_rfl)) (fun _ _ _ h => h) (Or.inl ⟨by rfl, ?_⟩) ?_ ?_
                      rotate_left; · intro w'; go_simp; with_reducible rfl
                      rotate_left; · simp only [Act.put, zI, zZ, zS, i64_w, i32_w]; rfl
                      refine last_ (i := 27) (N := none) #[true, true, true, true, true, true, true, true, true, true, true, true, true, true, true, true, true, true, true, true, true, true, true, true, true, true, true, true] rfl rfl (one_of HT_.out (by kernel_rfl)) (by decide) (fun K hK => ?_)
                      refine skip_ (w1 := ?_) (by rfl) rfl ?_ ?_
                      rotate_left; · go_simp; rfl
                      refine hK.out _ _ ?_
                      clear hK K
                      refine done_ (done_of HT_.out (by kernel_rfl)) ?_
                      try go_wp2
                      (try simp only [← hl5_4])
                      first | go_roundg k4 | (simp only [← hji24]; go_roundg k4) | (simp only [← hji55]; go_roundg k4)
                      case measure => have := HK1.out; have := HK2.out; have := HJ19.out; have := HK4.out; omega
                      case rel => exact ⟨(y132), (wrap64 (x90_4 + 1)), rs, (by first | exact H' | (rw [hji24]; exact H') | (rw [hji55]; exact H')), ⟨by have := HK1.out; have := HK2.out; have := HJ19.out; have := HK4.out; omega⟩, ⟨by (try simp only [hl5_4]); (with_reducible repeat (first | apply Kd.S_alloc | apply Kd.S_drewN | apply Kd.S_drew)); exact HQ51.out⟩, ⟨by repeat (first | (with_reducible first | exact HB.out | apply below_alloc | apply pw_below_drewN | apply below_drew1 | refine below_set ?_ GB46.out | refine below_set ?_ GB46.out) | exact HB.out)⟩⟩
                rw [if_pos c30] at H
                have c30b0 : (x13_19 == (l0.length : Int)) = true := beq_iff_eq.mpr c30
                have c30b1 : (x13_19 != (l0.length : Int)) = false := bne_eq_false_iff_eq.mpr c30
                clear c30
                have H' := Aside0.mk H
                clear H
                go_wp2
                first | go_roundg kj19 | (simp only [← hji24]; go_roundg kj19) | (simp only [← hji55]; go_roundg kj19)
                case measure => have := HK1.out; have := HK2.out; have := HJ19.out; omega
                case rel => exact ⟨(x5_2), (wrap64 (x12_2 + 1)), rs, (by first | exact H' | (rw [hji24]; exact H') | (rw [hji55]; exact H')), ⟨by have := HK1.out; have := HK2.out; have := HJ19.out; omega⟩, ⟨by (with_reducible repeat (first | apply Kd.S_alloc | apply Kd.S_drewN | apply Kd.S_drew)); exact HO_5.out⟩, ⟨bl⟩⟩
      rw [if_pos c5] at H
      have c5b0 : decide (x25_1 < (l0.length : Int)) = true := decide_eq_true c5
      clear c5
      by_cases c6 : 0 ≤ x25_1
      case neg => rw [if_neg c6] at H; exact absurd H (by simp)
      rw [if_pos c6] at H
      have c6b0 : decide (0 ≤ x25_1) = true := decide_eq_true c6
      clear c6
      by_cases c7 : x25_1 < (l0.length : Int)
      case neg => rw [if_neg c7] at H; exact absurd H (by simp)
      rw [if_pos c7] at H
      have c7b0 : decide (x25_1 < (l0.length : Int)) = true := decide_eq_true c7
      clear c7
      obtain ⟨y105, hy105⟩ : ∃ y_ : List Int, y_ = (([] : List Int)) := ⟨_, rfl⟩
      replace H : (impl_reduced.l1 k1 a1 x5_1 (l0.length : Int) y105 l0 (l0.length : Int) x25_1 (rd_L1 l0 x25_1) ((rd_L1 l0 x25_1).length : Int) 0) = some r := by first | (rw [hy105]; with_reducible exact H) | (have H2_ := (Option.bind_some _ _).symm.trans H; rw [hy105]; with_reducible exact H2_) | (have H2_ := (Option.bind_some _ _).symm.trans H; with_reducible exact H2_) | with_reducible exact H | (rw [hy105]; exact H) | exact H
      have Ny105 := Aside0.mk hy105
      clear hy105
      have H' := Aside0.mk H
      clear H
      have p104 : 0 ≤ (x25_1 : Int) := oD
      have q104 : x25_1 < (l0.length : Int) := oD
      obtain ⟨ad104, A104_0, c104_0, e104, hx104_0, hl104_0, hi104_0⟩ := at_L1 HR0.out x25_1 p104 q104
      cases e104
      replace hx104_0 := hbc HB hx104_0
      have HR104_0 := Aside0.mk hi104_0
      have HC104_0 := Aside0.mk hl104_0
      clear hi104_0 hl104_0
      replace p104 := eq_true p104
      replace q104 := eq_true q104
      go_wp2_with (first | ((with_reducible refine gate_dst (N := 29) rfl ?_); refine Kd.R_lit (Kd.int .i64) _ 2 ?hg (N := 29) ?hd (xs := ([] : List Int)) (inner := []) (ok := fun _ => True) (okp := fun _ => True) ?hr ?hp (fun _ hk => hk) trivial (Below.refl _ _) (Nat.le_refl _) (by simp) ?_; (case hd => rfl); (case hg => rfl); (case hr => first | (go_simp; done) | (go_simp; rfl)); (case hp => exact (Reps.none _ _)); intro v106 w8 ho9 hb hg_ hnew_; clear hg_ hnew_; (first | rw [← Ny105.out] at ho9 | (simp only [Int.reduceToNat] at ho9; rw [← Ny105.out] at ho9)); have n0_ := Aside0.mk (Kd.S_elder' (by (with_reducible repeat (first | apply Kd.S_alloc | apply Kd.S_drewN | apply Kd.S_drew)); exact HO_5.out) (Kd.R_base ho9) hb); have n1_ := Aside0.mk (Kd.R_lower ho9 (below_size bl)); have n2_ := Aside0.mk (below_step bl hb); clear HO_5; clear HB; have HO_5 := n0_; have HO107 := n1_; have HB := n2_; clear n0_ n1_ n2_; clear hb ho9))
      go_loopg [9, 32] k1 (fun kq v9 v32 w' => ∃ (x9_2 : List Int) (x32_2 : Int), v32 = .int .i64 x32_2 ∧ Aside0 (impl_reduced.l1 kq a1 x5_1 (l0.length : Int) x9_2 l0 (l0.length : Int) x25_1 (rd_L1 l0 x25_1) ((rd_L1 l0 x25_1).length : Int) x32_2 = some r) ∧ Aside0 (kq ≤ k1) ∧ Aside0 (Kd.S (Kd.slice 2 (Kd.int .i64)) 32 w' w.heap.size (fun k_ => some k_ ≠ (v9 : Value).ownBlock) u5 x5_1) ∧ Aside0 (Kd.R (Kd.int .i64) 2 w' w.heap.size (fun _ => True) v9 x9_2) ∧ Aside0 (Below w.heap.size w w'))
      case atStart => exact ⟨(y105), (0), rs, H', ⟨Nat.le_refl _⟩, ⟨by (with_reducible repeat (first | apply Kd.S_alloc | apply Kd.S_drewN | apply Kd.S_drew)); exact Kd.S_mono HO_5.out (fun _ hk => hk.2)⟩, ⟨by (with_reducible repeat (first | apply Kd.R_alloc | apply Kd.R_drewN | apply Kd.R_drew)); exact HO107.out⟩, ⟨bl⟩⟩
      case round =>
        clear H'
        (try clear c1); (try clear p1); (try clear q1); (try clear hx1); (try clear p2); (try clear c5); (try clear c5b0); (try clear c6); (try clear c6b0); (try clear c7); (try clear c7b0); (try clear c8); (try clear hx104_0); (try clear p104); (try clear p2); (try clear q104)
        obtain ⟨x9_2, x32_2, rfl, HA, HK2, HO_5, HO_9, HB⟩ := hrel
        cases gk with
        | zero => exact absurd HA.out (by simp [impl_reduced.l1])
        | succ k2 =>
          have H := HA.out
          clear HA
          simp only [impl_reduced.l1] at H
          by_cases c10 : x32_2 < ((rd_L1 l0 x25_1).length : Int)
          case neg =>
            rw [if_neg c10] at H
            have c10b0 : decide (x32_2 < ((rd_L1 l0 x25_1).length : Int)) = false := decide_eq_false c10
            clear c10
            by_cases c16 : x5_1.length < 5864062014805
            case neg => rw [if_neg c16] at H; exact absurd H (by simp)
            rw [if_pos c16] at H
            have LMc16 := Aside0.mk c16
            clear c16
            obtain ⟨y113, hy113⟩ : ∃ y_ : List (List Int), y_ = (x5_1 ++ [x9_2]) := ⟨_, rfl⟩
            replace H : (impl_reduced.l0 k2 a1 y113 (l0.length : Int) l0 (l0.length : Int) (wrap64 (x25_1 + 1))) = some r := by first | (rw [hy113]; with_reducible exact H) | (have H2_ := (Option.bind_some _ _).symm.trans H; rw [hy113]; with_reducible exact H2_) | (have H2_ := (Option.bind_some _ _).symm.trans H; with_reducible exact H2_) | with_reducible exact H | (rw [hy113]; exact H) | exact H
            have Ny113 := Aside0.mk hy113
            clear hy113
            have H' := Aside0.mk H
            clear H
            obtain ⟨Ao18, co18, eo18⟩ := Kd.R_slice HO_9.out
            subst eo18
            go_wp2_with (first | ((with_reducible refine gate_builtin (b := .append) (xs := #[.tmp 43, .tmp 45]) rfl ?_); at_builtin; refine Kd.S_append (Kd.slice 2 (Kd.int .i64)) (w0 := w) w.heap.size rfl (.tmp 43) (.tmp 45) 22 32 (.slice none 0 0) 24 rfl Try.underlying22 info32 rfl (by decide) (by omega) u5 x5_1 x9_2 [.slice Ao18 x9_2.length co18] (fun _ => True) (fun k_ => some k_ = (.slice Ao18 x9_2.length co18 : Value).ownBlock) rfl rfl ?aP (fun k_ hk_ => ((Kd.R_mono (ok' := fun k_ => ((fun _ => True)) k_ ∧ some k_ ≠ (u5 : Value).ownBlock) (Kd.R_apart' (HO_9.out) (Kd.S_typed HO_5.out) (by decide)) (fun k_ hk => ⟨trivial, hk.2⟩))).1 k_ hk_.symm) ?aF ?aO ?aB ?aS ?aL ?_; (case aP => exact Kd.M_row (Kd.R_mono (Kd.R_tight rfl (Kd.R_mono (ok' := fun k_ => ((fun _ => True)) k_ ∧ some k_ ≠ (u5 : Value).ownBlock) (Kd.R_apart' (HO_9.out) (Kd.S_typed HO_5.out) (by decide)) (fun k_ hk => ⟨trivial, hk.2⟩))) (fun _ h_ => h_))); (case aB => exact bl); (case aF => exact (fun _ _ => trivial)); (case aO => exact (by (with_reducible repeat (first | apply Kd.S_alloc | apply Kd.S_drewN | apply Kd.S_drew)); exact Kd.S_mono HO_5.out (fun k_ hk => ⟨trivial, fun e_ => hk e_⟩))); (case aS => exact (below_size bl)); (case aL => have := LMc16.out; omega); intro v114 w17 ho hb hg hat; rw [← Ny113.out] at ho; have n0_ := Aside0.mk (hb); have n1_ := Aside0.mk (ho); clear HB; clear HO_5; clear HO_9; have HB := n0_; have HO115 := n1_; clear n0_ n1_; clear ho hb hg hat))
            first | go_roundg k2 | (simp only [← hji24]; go_roundg k2) | (simp only [← hji55]; go_roundg k2)
            case measure => have := HK1.out; have := HK2.out; omega
            case rel => exact ⟨(y113), (wrap64 (x25_1 + 1)), rs, (by first | exact H' | (rw [hji24]; exact H') | (rw [hji55]; exact H')), ⟨by have := HK1.out; have := HK2.out; omega⟩, ⟨by (with_reducible repeat (first | apply Kd.S_alloc | apply Kd.S_drewN | apply Kd.S_drew)); exact HO115.out⟩, ⟨bl⟩⟩
          rw [if_pos c10] at H
          have c10b0 : decide (x32_2 < ((rd_L1 l0 x25_1).length : Int)) = true := decide_eq_true c10
          clear c10
          by_cases c11 : 0 ≤ x32_2
          case neg => rw [if_neg c11] at H; exact absurd H (by simp)
          rw [if_pos c11] at H
          have c11b0 : decide (0 ≤ x32_2) = true := decide_eq_true c11
          clear c11
          by_cases c12 : x32_2 < ((rd_L1 l0 x25_1).length : Int)
          case neg => rw [if_neg c12] at H; exact absurd H (by simp)
          rw [if_pos c12] at H
          have c12b0 : decide (x32_2 < ((rd_L1 l0 x25_1).length : Int)) = true := decide_eq_true c12
          clear c12
          replace H := Option.bind_eq_some_iff.mp H
          obtain ⟨t109, A130, H⟩ := H
          replace H : (if x9_2.length < 17592186044416 then (impl_reduced.l1 k2 a1 x5_1 (l0.length : Int) (x9_2 ++ [t109]) l0 (l0.length : Int) x25_1 (rd_L1 l0 x25_1) ((rd_L1 l0 x25_1).length : Int) (wrap64 (x32_2 + 1))) else (none)) = some r := H
          have A13 := Aside0.mk A130
          clear A130
          by_cases c14 : x9_2.length < 17592186044416
          case neg => rw [if_neg c14] at H; exact absurd H (by simp)
          rw [if_pos c14] at H
          have LMc14 := Aside0.mk c14
          clear c14
          obtain ⟨y110, hy110⟩ : ∃ y_ : List Int, y_ = (x9_2 ++ [t109]) := ⟨_, rfl⟩
          replace H : (impl_reduced.l1 k2 a1 x5_1 (l0.length : Int) y110 l0 (l0.length : Int) x25_1 (rd_L1 l0 x25_1) ((rd_L1 l0 x25_1).length : Int) (wrap64 (x32_2 + 1))) = some r := by first | (rw [hy110]; with_reducible exact H) | (have H2_ := (Option.bind_some _ _).symm.trans H; rw [hy110]; with_reducible exact H2_) | (have H2_ := (Option.bind_some _ _).symm.trans H; with_reducible exact H2_) | with_reducible exact H | (rw [hy110]; exact H) | exact H
          have Ny110 := Aside0.mk hy110
          clear hy110
          have H' := Aside0.mk H
          clear H
          have p108 : 0 ≤ (x32_2 : Int) := oD
          have q108 : x32_2 < ((rd_L1 l0 x25_1).length : Int) := oD
          obtain ⟨ad108, e108, hx108_0⟩ := Kd.at_int HR104_0.out x32_2 p108 q108
          cases e108
          replace hx108_0 := hbc HB hx108_0
          replace p108 := eq_true p108
          replace q108 := eq_true q108
          go_wp2_with (first | ((with_reducible refine gate_callee (f := 89) rfl ?_); refine goesL_ (some 39) rfl rfl Try.func89 (by kernel_rfl) rfl #[.int .i64 (rd (rd_L1 l0 x25_1) x32_2), .int .i64 a1] rfl gm ?_; (with_reducible refine (impl_modulo.calls (rd (rd_L1 l0 x25_1) x32_2) a1 t109 _ A13.out).mono ?_); rintro e w' ⟨rfl, ⟨nd, rfl⟩⟩; refine ⟨_, rfl, ?_⟩) | ((with_reducible refine gate_builtin (b := .append) (xs := #[.tmp 36, .tmp 40]) rfl ?_); at_builtin; refine Kd.R_append (Kd.int .i64) (w0 := w) w.heap.size rfl (.tmp 36) (.tmp 40) 32 2 (.int .i64 0) 8 rfl Try.underlying32 info2 rfl (by decide) (by omega) u9 x9_2 t109 [.int .i64 t109] (fun _ => True) (fun _ => False) rfl rfl ?aP (fun _ hk => hk.elim) ?aF ?aO ?aB ?aS ?aL ?_; (case aP => exact rfl); (case aB => exact bl); (case aF => exact (fun _ _ => trivial)); (case aO => exact (by (with_reducible repeat (first | apply Kd.R_alloc | apply Kd.R_drewN | apply Kd.R_drew)); exact HO_9.out)); (case aS => exact (below_size bl)); (case aL => have := LMc14.out; omega); intro v111 w15 ho hb hg hat; rw [← Ny110.out] at ho; have n0_ := Aside0.mk (Kd.S_after (ok := (fun _ => True)) (by (with_reducible repeat (first | apply Kd.S_alloc | apply Kd.S_drewN | apply Kd.S_drew)); exact Kd.S_mono HO_5.out (fun _ hk => ⟨trivial, hk⟩)) hg hat); have n1_ := Aside0.mk (hb); have n2_ := Aside0.mk (ho); clear HO_5; clear HB; clear HO_9; have HO_5 := n0_; have HB := n1_; have HO112 := n2_; clear n0_ n1_ n2_; clear ho hb hg hat))
          first | go_roundg k2 | (simp only [← hji24]; go_roundg k2) | (simp only [← hji55]; go_roundg k2)
          case measure => have := HK1.out; have := HK2.out; omega
          case rel => exact ⟨(y110), (wrap64 (x32_2 + 1)), rs, (by first | exact H' | (rw [hji24]; exact H') | (rw [hji55]; exact H')), ⟨by have := HK1.out; have := HK2.out; omega⟩, ⟨by (with_reducible repeat (first | apply Kd.S_alloc | apply Kd.S_drewN | apply Kd.S_drew)); exact Kd.S_mono HO_5.out (fun _ hk => hk.2)⟩, ⟨by (with_reducible repeat (first | apply Kd.R_alloc | apply Kd.R_drewN | apply Kd.R_drew)); exact HO112.out⟩, ⟨bl⟩⟩
end Go.Proofs.Ytjgdibhalmcigaa.C
