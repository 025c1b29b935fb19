/- Proves of FnExactIsReducedAt: whatever comes in, it answers true, and what came in reads as before. No condition. -/
import Derived.Test.YtbfmnhgpmpnglaaRows
import Derived.Test.YtbfmnhgpmpnglaaCx12
import Derived.Test.YtbfmnhgpmpnglaaCOpen
import Derived.Test.YtbfmnhgpmpnglaaPureFnExactIsReducedAt
import Derived.WalkKit
import Derived.ProofKit
import Derived.OpenShut
import Derived.ShutString
import Derived.ChangeOld
import Derived.Below
import Derived.SizedLaws
import Derived.Lib.SmallJoins
import Derived.Deep.Matrix
import Derived.Deep.Strs
namespace Go.Proofs.Ytbfmnhgpmpnglaa.fnExactIsReducedAt
open Go.RowKit Go.Proofs.YtbfmnhgpmpnglaaW.PrintWords Go.Proofs.YtbfmnhgpmpnglaaW.PrintLast Go.Proofs.YtbfmnhgpmpnglaaW.PrintMore
open Go.ChangeShapes Go.WideShapes Go.ChangeAt
open Go.ChangeMaps (open_string shut_string)
open Go.Proofs.Ytbfmnhgpmpnglaa.C
set_option linter.unusedVariables false
set_option linter.unusedSimpArgs false
theorem own : ownKnob Try.prog.godebug = none := by kernel_rfl
theorem laidOut : laidOutB Try.prog = true := by kernel_rfl
theorem cc2 : Try.prog.cellsOf 2 = 1 := by kernel_rfl
theorem cc22 : Try.prog.cellsOf 22 = 1 := by kernel_rfl
theorem cc34 : Try.prog.cellsOf 34 = 1 := by kernel_rfl
set_option maxRecDepth 100000 in
theorem lifted (os : Os) (started : os.Started) (H : Type) (enc : TypeId × Value → H) :
    ReturnsInHanded {} Try.checked os 5 .any (Rows.fnExactIsReducedAtSpec.pre6 enc Try.prog Try.f5 Rows.fnExactIsReducedAtRow.domain false) (Rows.fnExactIsReducedAtSpec.post enc Try.prog Try.f5 false true false false) := by
  refine returnsInHanded_of_change_sized (C := Try.checked) own started (by kernel_rfl) Try.func5
    (ChangeSpec.witness6 (enc := enc) (C := Try.checked) false ⟨#[], #[.agg #[.int .i64 0, .slice none 0 0], .slice none 0 0, .int .i64 0], []⟩ 8 (by kernel_rfl) (by kernel_rfl) (by kernel_rfl) (by kernel_rfl)) ?_
  intro W base args ds gs before hval0 hW hcnd hsz0 _
  have hval : ∀ (j : Nat) t v, Try.f5.params[j]? = some t → args[j]? = some v → Value.okWide Try.prog W .any base t v := hval0
  have hW' := hW
  obtain ⟨p, q, hA0, hV, rfl, hfz, hnd⟩ := hW
  have hA : DataW.TrodAll enc Try.prog W 0 (fun _ => true) true Try.f5.params.toList args.toList ds p := hA0
  rw [Try.params5] at hA hval
  obtain ⟨v0, vs0, d0, ds0, p0, q0, hargs, rfl, rfl, h0, r0⟩ := trodAll_cons hA
  obtain ⟨v1, vs1, d1, ds1, p1, q1, rfl, rfl, rfl, h1, r1⟩ := trodAll_cons r0
  obtain ⟨v2, vs2, d2, ds2, p2, q2, rfl, rfl, rfl, h2, r2⟩ := trodAll_cons r1
  obtain ⟨rfl, rfl, rfl⟩ := trodAll_nil r2
  obtain rfl : args = #[v0, v1, v2] := by cases args; simp_all
  obtain ⟨rfl, rfl⟩ := trodVars_none hV
  have k0 := h0
  have lt0 : ∀ x ∈ p0, x.block < W.heap.size := by obtain ⟨m, hm⟩ := k0; exact DataW.trod_lt m _ _ _ hm
  obtain ⟨fuel0, hf0⟩ := h0
  obtain ⟨ca0, rfl, hs0⟩ := okWide_struct Try.underlying24 (hval 0 24 v0 rfl rfl)
  obtain ⟨cc0_0, cc0_1, rfl⟩ := arr2 ca0 (hs0.trans (by kernel_rfl))
  simp only [Value.cells] at hf0
  obtain ⟨yhf0_0, yhf0_1, nhf0, _, _, ghf0_0, ghf0_1⟩ := trod_struct2 Try.underlying24 hf0
  simp only [cc2, cc22, cc34, List.drop_zero, List.take_succ_cons, List.take_zero, List.drop_succ_cons] at ghf0_0 ghf0_1
  obtain ⟨a0_0, e0_0, _, w0_0⟩ := DataW.trod_int Try.underlying2 ghf0_0
  injection e0_0 with e0_0 _
  subst e0_0
  obtain ⟨A0_1, c0_1, l0_1, e0_1, hc0_1, hk0_1, hm0_1, w0_1⟩ := open_rows Try.underlying22 Try.underlying34 Try.underlying2 cc34 cc2 ghf0_1
  subst e0_1
  have k1 := h1
  have lt1 : ∀ x ∈ p1, x.block < W.heap.size := by obtain ⟨m, hm⟩ := k1; exact DataW.trod_lt m _ _ _ hm
  obtain ⟨fuel1, hf1⟩ := h1
  obtain ⟨aa1, len1, cap1, rfl⟩ := okWide_slice Try.underlying34 (hval 1 34 v1 rfl rfl)
  simp only [Value.cells] at hf1
  obtain ⟨A1, c1, l1, e1, hc1, hk1, hm1, w1⟩ := open_nums Try.underlying34 Try.underlying2 cc2 hf1
  injection e1 with e1a e1b e1c
  subst e1a e1b e1c
  obtain ⟨a2, rfl, rfl, rfl, w2⟩ := open_int Try.underlying2 (hval 2 2 v2 rfl rfl) h2
  clear hA0 hval0 hsz0
  obtain ⟨k, h⟩ := Pure.FnExactIsReducedAt a0_0 l0_1 l1 a2 w0_0 hm0_1 w0_1 hm1 w1 w2
  refine (laws_FnExactIsReducedAt.calls k a0_0 _ _ l0_1 _ _ l1 a2 true W hk0_1 hc0_1 hk1 hc1 h).mono ?_
  rintro e W' ⟨rfl, bel⟩
  exact ⟨_, rfl, _, _, _, [], _, [], hW', trodAll_mk1 (shut_bool Try.underlying4 _), (trodAll_cons_mk (Below.trod laidOut (by kernel_rfl) (of_decide_eq_true (by kernel_rfl)) k0 bel lt0) (trodAll_cons_mk (Below.trod laidOut (by kernel_rfl) (of_decide_eq_true (by kernel_rfl)) k1 bel lt1) (trodAll_cons_mk (shut_int Try.underlying2 w2) trodAll_mk0))), rfl, bel.frame _, fun h => by cases h⟩
theorem over : Rows.fnExactIsReducedAtRow.holds Try.pinned (OpenSpec.ofChange Rows.fnExactIsReducedAtSpec) :=
  OpenClaim.holds_of_wide 5 Try.f5 rfl rfl rfl rfl rfl rfl rfl ⟨rfl, rfl, rfl, rfl, rfl⟩ rfl rfl rfl rfl rfl (by kernel_rfl) Try.func5 (by kernel_rfl)
    (of_decide_eq_true (by kernel_rfl)) (by unfold Func.isWrapper; first | (rw [if_pos (by decide +kernel)]; kernel_rfl) | (rw [if_neg (by decide +kernel)]; exact ⟨rfl, rfl⟩))
    (fun os started H enc _ => lifted os started H enc)
theorem proved : Rows.FnExactIsReducedAtSaid := over
#print axioms proved
end Go.Proofs.Ytbfmnhgpmpnglaa.fnExactIsReducedAt
namespace Go.Proofs.Ytbfmnhgpmpnglaa
/-- The row, under a short name, for the claim. -/
theorem fnExactIsReducedAt_holds : Rows.FnExactIsReducedAtSaid := fnExactIsReducedAt.proved
end Go.Proofs.Ytbfmnhgpmpnglaa
