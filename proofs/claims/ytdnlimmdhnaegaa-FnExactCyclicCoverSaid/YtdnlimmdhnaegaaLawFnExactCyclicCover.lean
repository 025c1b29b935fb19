/- Proves of FnExactCyclicCover: whatever comes in, it answers true, and what came in reads as before. No condition. -/
import Derived.Test.YtdnlimmdhnaegaaRows
import Derived.Test.YtdnlimmdhnaegaaNWalk
import Derived.Test.YtdnlimmdhnaegaaNOpen
import Derived.Test.YtdnlimmdhnaegaaPureFnExactCyclicCover
import Derived.WalkKit
import Derived.ProofKit
import Derived.OpenShut
import Derived.ShutString
import Derived.ChangeOld
import Derived.Below
import Derived.SizedLaws
import Derived.Lib.SmallJoins
import Derived.Deep.Matrix
import Derived.Deep.Strs
namespace Go.Proofs.Ytdnlimmdhnaegaa.fnExactCyclicCover
open Go.RowKit Go.Proofs.YtdnlimmdhnaegaaW.PrintWords Go.Proofs.YtdnlimmdhnaegaaW.PrintLast Go.Proofs.YtdnlimmdhnaegaaW.PrintMore
open Go.ChangeShapes Go.WideShapes Go.ChangeAt
open Go.ChangeMaps (open_string shut_string)
open Go.Proofs.Ytdnlimmdhnaegaa.N
set_option linter.unusedVariables false
set_option linter.unusedSimpArgs false
theorem own : ownKnob Try.prog.godebug = none := by kernel_rfl
theorem laidOut : laidOutB Try.prog = true := by kernel_rfl
theorem cc2 : Try.prog.cellsOf 2 = 1 := by kernel_rfl
theorem cc22 : Try.prog.cellsOf 22 = 1 := by kernel_rfl
theorem cc25 : Try.prog.cellsOf 25 = 1 := by kernel_rfl
set_option maxRecDepth 100000 in
theorem lifted (os : Os) (started : os.Started) (H : Type) (enc : TypeId × Value → H) :
    ReturnsInHanded {} Try.checked os 13 .any (Rows.fnExactCyclicCoverSpec.pre6 enc Try.prog Try.f13 Rows.fnExactCyclicCoverRow.domain false) (Rows.fnExactCyclicCoverSpec.post enc Try.prog Try.f13 false true false false) := by
  refine returnsInHanded_of_change_sized (C := Try.checked) own started (by kernel_rfl) Try.func13
    (ChangeSpec.witness6 (enc := enc) (C := Try.checked) false ⟨#[], #[.agg #[.int .i64 0, .slice none 0 0], .int .i64 0, .slice none 0 0], []⟩ 8 (by kernel_rfl) (by kernel_rfl) (by kernel_rfl) (by kernel_rfl)) ?_
  intro W base args ds gs before hval0 hW hcnd hsz0 _
  have hval : ∀ (j : Nat) t v, Try.f13.params[j]? = some t → args[j]? = some v → Value.okWide Try.prog W .any base t v := hval0
  have hW' := hW
  obtain ⟨p, q, hA0, hV, rfl, hfz, hnd⟩ := hW
  have hA : DataW.TrodAll enc Try.prog W 0 (fun _ => true) true Try.f13.params.toList args.toList ds p := hA0
  rw [Try.params13] at hA hval
  obtain ⟨v0, vs0, d0, ds0, p0, q0, hargs, rfl, rfl, h0, r0⟩ := trodAll_cons hA
  obtain ⟨v1, vs1, d1, ds1, p1, q1, rfl, rfl, rfl, h1, r1⟩ := trodAll_cons r0
  obtain ⟨v2, vs2, d2, ds2, p2, q2, rfl, rfl, rfl, h2, r2⟩ := trodAll_cons r1
  obtain ⟨rfl, rfl, rfl⟩ := trodAll_nil r2
  obtain rfl : args = #[v0, v1, v2] := by cases args; simp_all
  obtain ⟨rfl, rfl⟩ := trodVars_none hV
  have k0 := h0
  have lt0 : ∀ x ∈ p0, x.block < W.heap.size := by obtain ⟨m, hm⟩ := k0; exact DataW.trod_lt m _ _ _ hm
  obtain ⟨fuel0, hf0⟩ := h0
  obtain ⟨ca0, rfl, hs0⟩ := okWide_struct Try.underlying24 (hval 0 24 v0 rfl rfl)
  obtain ⟨cc0_0, cc0_1, rfl⟩ := arr2 ca0 (hs0.trans (by kernel_rfl))
  simp only [Value.cells] at hf0
  obtain ⟨yhf0_0, yhf0_1, nhf0, _, _, ghf0_0, ghf0_1⟩ := trod_struct2 Try.underlying24 hf0
  simp only [cc2, cc22, cc25, List.drop_zero, List.take_succ_cons, List.take_zero, List.drop_succ_cons] at ghf0_0 ghf0_1
  obtain ⟨a0_0, e0_0, _, w0_0⟩ := DataW.trod_int Try.underlying2 ghf0_0
  injection e0_0 with e0_0 _
  subst e0_0
  obtain ⟨A0_1, c0_1, l0_1, e0_1, hc0_1, hk0_1, hm0_1, w0_1⟩ := open_rows Try.underlying22 Try.underlying25 Try.underlying2 cc25 cc2 ghf0_1
  subst e0_1
  obtain ⟨a1, rfl, rfl, rfl, w1⟩ := open_int Try.underlying2 (hval 1 2 v1 rfl rfl) h1
  have k2 := h2
  have lt2 : ∀ x ∈ p2, x.block < W.heap.size := by obtain ⟨m, hm⟩ := k2; exact DataW.trod_lt m _ _ _ hm
  obtain ⟨fuel2, hf2⟩ := h2
  obtain ⟨aa2, len2, cap2, rfl⟩ := okWide_slice Try.underlying25 (hval 2 25 v2 rfl rfl)
  simp only [Value.cells] at hf2
  obtain ⟨A2, c2, l2, e2, hc2, hk2, hm2, w2⟩ := open_nums Try.underlying25 Try.underlying2 cc2 hf2
  injection e2 with e2a e2b e2c
  subst e2a e2b e2c
  clear hA0 hval0 hsz0
  refine (laws_FnExactCyclicCover.calls Pure.FnExactCyclicCover a0_0 _ _ l0_1 a1 _ _ l2 W hk0_1 hc0_1 hk2 hc2 w0_0 hm0_1 w0_1 w1 hm2 w2).mono ?_
  rintro e W' ⟨rfl, bel⟩
  exact ⟨_, rfl, _, _, _, [], _, [], hW', trodAll_mk1 (shut_bool Try.underlying4 _), (trodAll_cons_mk (Below.trod laidOut (by kernel_rfl) (of_decide_eq_true (by kernel_rfl)) k0 bel lt0) (trodAll_cons_mk (shut_int Try.underlying2 w1) (trodAll_cons_mk (Below.trod laidOut (by kernel_rfl) (of_decide_eq_true (by kernel_rfl)) k2 bel lt2) trodAll_mk0))), rfl, bel.frame _, fun h => by cases h⟩
theorem over : Rows.fnExactCyclicCoverRow.holds Try.pinned (OpenSpec.ofChange Rows.fnExactCyclicCoverSpec) :=
  OpenClaim.holds_of_wide 13 Try.f13 rfl rfl rfl rfl rfl rfl rfl ⟨rfl, rfl, rfl, rfl, rfl⟩ rfl rfl rfl rfl rfl (by kernel_rfl) Try.func13 (by kernel_rfl)
    (of_decide_eq_true (by kernel_rfl)) (by unfold Func.isWrapper; first | (rw [if_pos (by decide +kernel)]; kernel_rfl) | (rw [if_neg (by decide +kernel)]; exact ⟨rfl, rfl⟩))
    (fun os started H enc _ => lifted os started H enc)
theorem proved : Rows.FnExactCyclicCoverSaid := over
#print axioms proved
end Go.Proofs.Ytdnlimmdhnaegaa.fnExactCyclicCover
namespace Go.Proofs.Ytdnlimmdhnaegaa
/-- The row, under a short name, for the claim. -/
theorem fnExactCyclicCover_holds : Rows.FnExactCyclicCoverSaid := fnExactCyclicCover.proved
end Go.Proofs.Ytdnlimmdhnaegaa
