/- Proves of FnExactSignedNumber: whatever comes in, it answers true, and what came in reads as before. No condition. -/
import Derived.Test.YtpckiapngjcijaaRows
import Derived.Test.YtpckiapngjcijaaGx11
import Derived.Test.YtpckiapngjcijaaGOpen
import Derived.Test.YtpckiapngjcijaaPureFnExactSignedNumber
import Derived.WalkKit
import Derived.ProofKit
import Derived.OpenShut
import Derived.ShutString
import Derived.ChangeOld
import Derived.Below
import Derived.SizedLaws
import Derived.Lib.SmallJoins
import Derived.Deep.Matrix
import Derived.Deep.Strs
namespace Go.Proofs.Ytpckiapngjcijaa.fnExactSignedNumber
open Go.RowKit Go.Proofs.YtpckiapngjcijaaW.PrintWords Go.Proofs.YtpckiapngjcijaaW.PrintLast Go.Proofs.YtpckiapngjcijaaW.PrintMore
open Go.ChangeShapes Go.WideShapes Go.ChangeAt
open Go.ChangeMaps (open_string shut_string)
open Go.Proofs.Ytpckiapngjcijaa.G
set_option linter.unusedVariables false
set_option linter.unusedSimpArgs false
theorem own : ownKnob Try.prog.godebug = none := by kernel_rfl
theorem laidOut : laidOutB Try.prog = true := by kernel_rfl
theorem cc2 : Try.prog.cellsOf 2 = 1 := by kernel_rfl
theorem cc22 : Try.prog.cellsOf 22 = 1 := by kernel_rfl
theorem cc43 : Try.prog.cellsOf 43 = 1 := by kernel_rfl
set_option maxRecDepth 100000 in
theorem lifted (os : Os) (started : os.Started) (H : Type) (enc : TypeId × Value → H) :
    ReturnsInHanded {} Try.checked os 14 .any (Rows.fnExactSignedNumberSpec.pre6 enc Try.prog Try.f14 Rows.fnExactSignedNumberRow.domain false) (Rows.fnExactSignedNumberSpec.post enc Try.prog Try.f14 false true false false) := by
  refine returnsInHanded_of_change_sized (C := Try.checked) own started (by kernel_rfl) Try.func14
    (ChangeSpec.witness6 (enc := enc) (C := Try.checked) false ⟨#[], #[.agg #[.int .i64 0, .slice none 0 0], .slice none 0 0], []⟩ 8 (by kernel_rfl) (by kernel_rfl) (by kernel_rfl) (by kernel_rfl)) ?_
  intro W base args ds gs before hval0 hW hcnd hsz0 _
  have hval : ∀ (j : Nat) t v, Try.f14.params[j]? = some t → args[j]? = some v → Value.okWide Try.prog W .any base t v := hval0
  have hW' := hW
  obtain ⟨p, q, hA0, hV, rfl, hfz, hnd⟩ := hW
  have hA : DataW.TrodAll enc Try.prog W 0 (fun _ => true) true Try.f14.params.toList args.toList ds p := hA0
  rw [Try.params14] at hA hval
  obtain ⟨v0, vs0, d0, ds0, p0, q0, hargs, rfl, rfl, h0, r0⟩ := trodAll_cons hA
  obtain ⟨v1, vs1, d1, ds1, p1, q1, rfl, rfl, rfl, h1, r1⟩ := trodAll_cons r0
  obtain ⟨rfl, rfl, rfl⟩ := trodAll_nil r1
  obtain rfl : args = #[v0, v1] := by cases args; simp_all
  obtain ⟨rfl, rfl⟩ := trodVars_none hV
  have k0 := h0
  have lt0 : ∀ x ∈ p0, x.block < W.heap.size := by obtain ⟨m, hm⟩ := k0; exact DataW.trod_lt m _ _ _ hm
  obtain ⟨fuel0, hf0⟩ := h0
  obtain ⟨ca0, rfl, hs0⟩ := okWide_struct Try.underlying24 (hval 0 24 v0 rfl rfl)
  obtain ⟨cc0_0, cc0_1, rfl⟩ := arr2 ca0 (hs0.trans (by kernel_rfl))
  simp only [Value.cells] at hf0
  obtain ⟨yhf0_0, yhf0_1, nhf0, _, _, ghf0_0, ghf0_1⟩ := trod_struct2 Try.underlying24 hf0
  simp only [cc2, cc22, cc43, List.drop_zero, List.take_succ_cons, List.take_zero, List.drop_succ_cons] at ghf0_0 ghf0_1
  obtain ⟨a0_0, e0_0, _, w0_0⟩ := DataW.trod_int Try.underlying2 ghf0_0
  injection e0_0 with e0_0 _
  subst e0_0
  obtain ⟨A0_1, c0_1, l0_1, e0_1, hc0_1, hk0_1, hm0_1, w0_1⟩ := open_rows Try.underlying22 Try.underlying43 Try.underlying2 cc43 cc2 ghf0_1
  subst e0_1
  have k1 := h1
  have lt1 : ∀ x ∈ p1, x.block < W.heap.size := by obtain ⟨m, hm⟩ := k1; exact DataW.trod_lt m _ _ _ hm
  obtain ⟨fuel1, hf1⟩ := h1
  obtain ⟨aa1, len1, cap1, rfl⟩ := okWide_slice Try.underlying43 (hval 1 43 v1 rfl rfl)
  simp only [Value.cells] at hf1
  obtain ⟨A1, c1, l1, e1, hc1, hk1, hm1, w1⟩ := open_nums Try.underlying43 Try.underlying2 cc2 hf1
  injection e1 with e1a e1b e1c
  subst e1a e1b e1c
  clear hA0 hval0 hsz0
  obtain ⟨k, h⟩ := Pure.FnExactSignedNumber a0_0 l0_1 l1 w0_0 hm0_1 w0_1 hm1 w1
  refine (laws_FnExactSignedNumber.calls k a0_0 _ _ l0_1 _ _ l1 true W hk0_1 hc0_1 hk1 hc1 h).mono ?_
  rintro e W' ⟨rfl, bel⟩
  exact ⟨_, rfl, _, _, _, [], _, [], hW', trodAll_mk1 (shut_bool Try.underlying4 _), (trodAll_cons_mk (Below.trod laidOut (by kernel_rfl) (of_decide_eq_true (by kernel_rfl)) k0 bel lt0) (trodAll_cons_mk (Below.trod laidOut (by kernel_rfl) (of_decide_eq_true (by kernel_rfl)) k1 bel lt1) trodAll_mk0)), rfl, bel.frame _, fun h => by cases h⟩
theorem over : Rows.fnExactSignedNumberRow.holds Try.pinned (OpenSpec.ofChange Rows.fnExactSignedNumberSpec) :=
  OpenClaim.holds_of_wide 14 Try.f14 rfl rfl rfl rfl rfl rfl rfl ⟨rfl, rfl, rfl, rfl, rfl⟩ rfl rfl rfl rfl rfl (by kernel_rfl) Try.func14 (by kernel_rfl)
    (of_decide_eq_true (by kernel_rfl)) (by unfold Func.isWrapper; first | (rw [if_pos (by decide +kernel)]; kernel_rfl) | (rw [if_neg (by decide +kernel)]; exact ⟨rfl, rfl⟩))
    (fun os started H enc _ => lifted os started H enc)
theorem proved : Rows.FnExactSignedNumberSaid := over
#print axioms proved
end Go.Proofs.Ytpckiapngjcijaa.fnExactSignedNumber
namespace Go.Proofs.Ytpckiapngjcijaa
/-- The row, under a short name, for the claim. -/
theorem fnExactSignedNumber_holds : Rows.FnExactSignedNumberSaid := fnExactSignedNumber.proved
end Go.Proofs.Ytpckiapngjcijaa
