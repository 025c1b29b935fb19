/- Proves of FnExactWeightedReciprocal: whatever comes in, it answers true, and what came in reads as before. No condition. -/
import Derived.Test.YtjgdibhalmcigaaRows
import Derived.Test.YtjgdibhalmcigaaCWalk
import Derived.Test.YtjgdibhalmcigaaCOpen
import Derived.Test.YtjgdibhalmcigaaPureFnExactWeightedReciprocal
import Derived.WalkKit
import Derived.ProofKit
import Derived.OpenShut
import Derived.ShutString
import Derived.ChangeOld
import Derived.Below
import Derived.SizedLaws
import Derived.Lib.SmallJoins
import Derived.Deep.Matrix
import Derived.Deep.Strs
namespace Go.Proofs.Ytjgdibhalmcigaa.fnExactWeightedReciprocal
open Go.RowKit Go.Proofs.YtjgdibhalmcigaaW.PrintWords Go.Proofs.YtjgdibhalmcigaaW.PrintLast Go.Proofs.YtjgdibhalmcigaaW.PrintMore
open Go.ChangeShapes Go.WideShapes Go.ChangeAt
open Go.ChangeMaps (open_string shut_string)
open Go.Proofs.Ytjgdibhalmcigaa.C
set_option linter.unusedVariables false
set_option linter.unusedSimpArgs false
theorem own : ownKnob Try.prog.godebug = none := by kernel_rfl
theorem laidOut : laidOutB Try.prog = true := by kernel_rfl
theorem cc2 : Try.prog.cellsOf 2 = 1 := by kernel_rfl
theorem cc22 : Try.prog.cellsOf 22 = 1 := by kernel_rfl
theorem cc32 : Try.prog.cellsOf 32 = 1 := by kernel_rfl
set_option maxRecDepth 100000 in
theorem lifted (os : Os) (started : os.Started) (H : Type) (enc : TypeId × Value → H) :
    ReturnsInHanded {} Try.checked os 5 .any (Rows.fnExactWeightedReciprocalSpec.pre6 enc Try.prog Try.f5 Rows.fnExactWeightedReciprocalRow.domain false) (Rows.fnExactWeightedReciprocalSpec.post enc Try.prog Try.f5 false true false false) := by
  refine returnsInHanded_of_change_sized (C := Try.checked) own started (by kernel_rfl) Try.func5
    (ChangeSpec.witness6 (enc := enc) (C := Try.checked) false ⟨#[], #[.int .i64 0, .agg #[.int .i64 0, .slice none 0 0], .slice none 0 0], []⟩ 8 (by kernel_rfl) (by kernel_rfl) (by kernel_rfl) (by kernel_rfl)) ?_
  intro W base args ds gs before hval0 hW hcnd hsz0 _
  have hval : ∀ (j : Nat) t v, Try.f5.params[j]? = some t → args[j]? = some v → Value.okWide Try.prog W .any base t v := hval0
  have hW' := hW
  obtain ⟨p, q, hA0, hV, rfl, hfz, hnd⟩ := hW
  have hA : DataW.TrodAll enc Try.prog W 0 (fun _ => true) true Try.f5.params.toList args.toList ds p := hA0
  rw [Try.params5] at hA hval
  obtain ⟨v0, vs0, d0, ds0, p0, q0, hargs, rfl, rfl, h0, r0⟩ := trodAll_cons hA
  obtain ⟨v1, vs1, d1, ds1, p1, q1, rfl, rfl, rfl, h1, r1⟩ := trodAll_cons r0
  obtain ⟨v2, vs2, d2, ds2, p2, q2, rfl, rfl, rfl, h2, r2⟩ := trodAll_cons r1
  obtain ⟨rfl, rfl, rfl⟩ := trodAll_nil r2
  obtain rfl : args = #[v0, v1, v2] := by cases args; simp_all
  obtain ⟨rfl, rfl⟩ := trodVars_none hV
  obtain ⟨a0, rfl, rfl, rfl, w0⟩ := open_int Try.underlying2 (hval 0 2 v0 rfl rfl) h0
  have k1 := h1
  have lt1 : ∀ x ∈ p1, x.block < W.heap.size := by obtain ⟨m, hm⟩ := k1; exact DataW.trod_lt m _ _ _ hm
  obtain ⟨fuel1, hf1⟩ := h1
  obtain ⟨ca1, rfl, hs1⟩ := okWide_struct Try.underlying24 (hval 1 24 v1 rfl rfl)
  obtain ⟨cc1_0, cc1_1, rfl⟩ := arr2 ca1 (hs1.trans (by kernel_rfl))
  simp only [Value.cells] at hf1
  obtain ⟨yhf1_0, yhf1_1, nhf1, _, _, ghf1_0, ghf1_1⟩ := trod_struct2 Try.underlying24 hf1
  simp only [cc2, cc22, cc32, List.drop_zero, List.take_succ_cons, List.take_zero, List.drop_succ_cons] at ghf1_0 ghf1_1
  obtain ⟨a1_0, e1_0, _, w1_0⟩ := DataW.trod_int Try.underlying2 ghf1_0
  injection e1_0 with e1_0 _
  subst e1_0
  obtain ⟨A1_1, c1_1, l1_1, e1_1, hc1_1, hk1_1, hm1_1, w1_1⟩ := open_rows Try.underlying22 Try.underlying32 Try.underlying2 cc32 cc2 ghf1_1
  subst e1_1
  have k2 := h2
  have lt2 : ∀ x ∈ p2, x.block < W.heap.size := by obtain ⟨m, hm⟩ := k2; exact DataW.trod_lt m _ _ _ hm
  obtain ⟨fuel2, hf2⟩ := h2
  obtain ⟨aa2, len2, cap2, rfl⟩ := okWide_slice Try.underlying32 (hval 2 32 v2 rfl rfl)
  simp only [Value.cells] at hf2
  obtain ⟨A2, c2, l2, e2, hc2, hk2, hm2, w2⟩ := open_nums Try.underlying32 Try.underlying2 cc2 hf2
  injection e2 with e2a e2b e2c
  subst e2a e2b e2c
  clear hA0 hval0 hsz0
  refine (laws_FnExactWeightedReciprocal.calls Pure.FnExactWeightedReciprocal a0 a1_0 _ _ l1_1 _ _ l2 W hk1_1 hc1_1 hk2 hc2 w0 w1_0 hm1_1 w1_1 hm2 w2).mono ?_
  rintro e W' ⟨rfl, bel⟩
  exact ⟨_, rfl, _, _, _, [], _, [], hW', trodAll_mk1 (shut_bool Try.underlying4 _), (trodAll_cons_mk (shut_int Try.underlying2 w0) (trodAll_cons_mk (Below.trod laidOut (by kernel_rfl) (of_decide_eq_true (by kernel_rfl)) k1 bel lt1) (trodAll_cons_mk (Below.trod laidOut (by kernel_rfl) (of_decide_eq_true (by kernel_rfl)) k2 bel lt2) trodAll_mk0))), rfl, bel.frame _, fun h => by cases h⟩
theorem over : Rows.fnExactWeightedReciprocalRow.holds Try.pinned (OpenSpec.ofChange Rows.fnExactWeightedReciprocalSpec) :=
  OpenClaim.holds_of_wide 5 Try.f5 rfl rfl rfl rfl rfl rfl rfl ⟨rfl, rfl, rfl, rfl, rfl⟩ rfl rfl rfl rfl rfl (by kernel_rfl) Try.func5 (by kernel_rfl)
    (of_decide_eq_true (by kernel_rfl)) (by unfold Func.isWrapper; first | (rw [if_pos (by decide +kernel)]; kernel_rfl) | (rw [if_neg (by decide +kernel)]; exact ⟨rfl, rfl⟩))
    (fun os started H enc _ => lifted os started H enc)
theorem proved : Rows.FnExactWeightedReciprocalSaid := over
#print axioms proved
end Go.Proofs.Ytjgdibhalmcigaa.fnExactWeightedReciprocal
namespace Go.Proofs.Ytjgdibhalmcigaa
/-- The row, under a short name, for the claim. -/
theorem fnExactWeightedReciprocal_holds : Rows.FnExactWeightedReciprocalSaid := fnExactWeightedReciprocal.proved
end Go.Proofs.Ytjgdibhalmcigaa
