/-
  No cell of these rows narrows 'for every input' (looked for: loops, veiled, ifaces, maps, wideKeys, modest, calm, conditions, laid).
  DERIVED. THE GIVEN ROWS OF THIS SEAT. 8 by the template 'for every input the law returns true; each argument reads behind the call as it read before'; 0 by the template 'total and deterministic' (their statements: YtbfmnhgpmpnglaaTotals.lean).
  GIVEN WITH THE SEED: the statements are not yours to turn. If you find one false, say at which input.
  Laid BY PROGRAM, IN A SANDBOX (cutbox-rows.mjs): the forced cells as the released guide's own fill.sh prints them over the translation a3d297e765c60731… (all of the seat's roots in one cut). By AI agents, Wed Nov 11 2026. No macro, syntax, notation, axiom, sorry.
-/
import Derived.Test.YtbfmnhgpmpnglaaChecked
import GoSem.Claim
import GoSem.ClaimJoined
import GoSem.ClaimMapViews
import Derived.JoinedTies
import Derived.KernelRfl
namespace Go.Proofs.Ytbfmnhgpmpnglaa
/- THE CELL 'sum', in the pinned program and in every row, IS THE sha256 OF THE DUMP (.gsa) THAT YtbfmnhgpmpnglaaProg.lean LOADS. Nothing in Lean hashes anything: it is a label: what it is worth is what the hold of that sum in a sandbox is worth. -/
noncomputable def Try.pinned : Pinned := { name := "ytbfmnhgpmpnglaa", sum := "a3d297e765c60731f51ce66fc3e61eb8e21b462579b7e62f8a685f6a56477dfc", checked := Try.checked }
namespace Rows
def none {H : Type} : Left H := { results := [], args := [] }

/-- 'laws.FnExactTraceResolvent': WHATEVER THE INPUT: true; the input reads as it did. -/
def fnExactTraceResolventSpec : ChangeSpec := { name := "fnExactTraceResolvent", fn := fun _ => fun
  | [d1, d2, d3] => { results := [.lit (.bool true)], args := [d1, d2, d3] }
  | _ => none }
def fnExactTraceResolventRow : OpenClaim := { program := "ytbfmnhgpmpnglaa", sum := "a3d297e765c60731f51ce66fc3e61eb8e21b462579b7e62f8a685f6a56477dfc", func := "loop.example/g01298/laws.FnExactTraceResolvent", spec := "fnExactTraceResolvent", unfollowed := true, recurses := true, apart := false }
def FnExactTraceResolventSaid : Prop := fnExactTraceResolventRow.holds Try.pinned (OpenSpec.ofChange fnExactTraceResolventSpec)

/-- ITS FALSE NEIGHBOUR: 'it returns false'. Refute it at one input. -/
def fnExactTraceResolventWrong : ChangeSpec := { name := "fnExactTraceResolvent", fn := fun _ => fun
  | [d1, d2, d3] => { results := [.lit (.bool false)], args := [d1, d2, d3] }
  | _ => none }
def FnExactTraceResolventWrongFalsely : Prop := fnExactTraceResolventRow.holds Try.pinned (OpenSpec.ofChange fnExactTraceResolventWrong)

/-- 'laws.FnExactResolventAt': WHATEVER THE INPUT: true; the input reads as it did. -/
def fnExactResolventAtSpec : ChangeSpec := { name := "fnExactResolventAt", fn := fun _ => fun
  | [d1, d2, d3, d4, d5] => { results := [.lit (.bool true)], args := [d1, d2, d3, d4, d5] }
  | _ => none }
def fnExactResolventAtRow : OpenClaim := { program := "ytbfmnhgpmpnglaa", sum := "a3d297e765c60731f51ce66fc3e61eb8e21b462579b7e62f8a685f6a56477dfc", func := "loop.example/g01298/laws.FnExactResolventAt", spec := "fnExactResolventAt", unfollowed := true, recurses := true, apart := false }
def FnExactResolventAtSaid : Prop := fnExactResolventAtRow.holds Try.pinned (OpenSpec.ofChange fnExactResolventAtSpec)

/-- ITS FALSE NEIGHBOUR: 'it returns false'. Refute it at one input. -/
def fnExactResolventAtWrong : ChangeSpec := { name := "fnExactResolventAt", fn := fun _ => fun
  | [d1, d2, d3, d4, d5] => { results := [.lit (.bool false)], args := [d1, d2, d3, d4, d5] }
  | _ => none }
def FnExactResolventAtWrongFalsely : Prop := fnExactResolventAtRow.holds Try.pinned (OpenSpec.ofChange fnExactResolventAtWrong)

/-- 'laws.FnExactIsReducedAt': WHATEVER THE INPUT: true; the input reads as it did. -/
def fnExactIsReducedAtSpec : ChangeSpec := { name := "fnExactIsReducedAt", fn := fun _ => fun
  | [d1, d2, d3] => { results := [.lit (.bool true)], args := [d1, d2, d3] }
  | _ => none }
def fnExactIsReducedAtRow : OpenClaim := { program := "ytbfmnhgpmpnglaa", sum := "a3d297e765c60731f51ce66fc3e61eb8e21b462579b7e62f8a685f6a56477dfc", func := "loop.example/g01298/laws.FnExactIsReducedAt", spec := "fnExactIsReducedAt", unfollowed := true, recurses := true, apart := false }
def FnExactIsReducedAtSaid : Prop := fnExactIsReducedAtRow.holds Try.pinned (OpenSpec.ofChange fnExactIsReducedAtSpec)

/-- ITS FALSE NEIGHBOUR: 'it returns false'. Refute it at one input. -/
def fnExactIsReducedAtWrong : ChangeSpec := { name := "fnExactIsReducedAt", fn := fun _ => fun
  | [d1, d2, d3] => { results := [.lit (.bool false)], args := [d1, d2, d3] }
  | _ => none }
def FnExactIsReducedAtWrongFalsely : Prop := fnExactIsReducedAtRow.holds Try.pinned (OpenSpec.ofChange fnExactIsReducedAtWrong)

/-- 'laws.FnExactCountClasses': WHATEVER THE INPUT: true; the input reads as it did. -/
def fnExactCountClassesSpec : ChangeSpec := { name := "fnExactCountClasses", fn := fun _ => fun
  | [d] => { results := [.lit (.bool true)], args := [d] }
  | _ => none }
def fnExactCountClassesRow : OpenClaim := { program := "ytbfmnhgpmpnglaa", sum := "a3d297e765c60731f51ce66fc3e61eb8e21b462579b7e62f8a685f6a56477dfc", func := "loop.example/g01298/laws.FnExactCountClasses", spec := "fnExactCountClasses", unfollowed := true, recurses := true, apart := false }
def FnExactCountClassesSaid : Prop := fnExactCountClassesRow.holds Try.pinned (OpenSpec.ofChange fnExactCountClassesSpec)

/-- ITS FALSE NEIGHBOUR: 'it returns false'. Refute it at one input. -/
def fnExactCountClassesWrong : ChangeSpec := { name := "fnExactCountClasses", fn := fun _ => fun
  | [d] => { results := [.lit (.bool false)], args := [d] }
  | _ => none }
def FnExactCountClassesWrongFalsely : Prop := fnExactCountClassesRow.holds Try.pinned (OpenSpec.ofChange fnExactCountClassesWrong)

/-- 'laws.FnExactFactorsOf': WHATEVER THE INPUT: true; the input reads as it did. -/
def fnExactFactorsOfSpec : ChangeSpec := { name := "fnExactFactorsOf", fn := fun _ => fun
  | [d] => { results := [.lit (.bool true)], args := [d] }
  | _ => none }
def fnExactFactorsOfRow : OpenClaim := { program := "ytbfmnhgpmpnglaa", sum := "a3d297e765c60731f51ce66fc3e61eb8e21b462579b7e62f8a685f6a56477dfc", func := "loop.example/g01298/laws.FnExactFactorsOf", spec := "fnExactFactorsOf", apart := false }
def FnExactFactorsOfSaid : Prop := fnExactFactorsOfRow.holds Try.pinned (OpenSpec.ofChange fnExactFactorsOfSpec)

/-- ITS FALSE NEIGHBOUR: 'it returns false'. Refute it at one input. -/
def fnExactFactorsOfWrong : ChangeSpec := { name := "fnExactFactorsOf", fn := fun _ => fun
  | [d] => { results := [.lit (.bool false)], args := [d] }
  | _ => none }
def FnExactFactorsOfWrongFalsely : Prop := fnExactFactorsOfRow.holds Try.pinned (OpenSpec.ofChange fnExactFactorsOfWrong)

/-- 'laws.FnExactCriticalFactors': WHATEVER THE INPUT: true; the input reads as it did. -/
def fnExactCriticalFactorsSpec : ChangeSpec := { name := "fnExactCriticalFactors", fn := fun _ => fun
  | [d] => { results := [.lit (.bool true)], args := [d] }
  | _ => none }
def fnExactCriticalFactorsRow : OpenClaim := { program := "ytbfmnhgpmpnglaa", sum := "a3d297e765c60731f51ce66fc3e61eb8e21b462579b7e62f8a685f6a56477dfc", func := "loop.example/g01298/laws.FnExactCriticalFactors", spec := "fnExactCriticalFactors", unfollowed := true, recurses := true, apart := false }
def FnExactCriticalFactorsSaid : Prop := fnExactCriticalFactorsRow.holds Try.pinned (OpenSpec.ofChange fnExactCriticalFactorsSpec)

/-- ITS FALSE NEIGHBOUR: 'it returns false'. Refute it at one input. -/
def fnExactCriticalFactorsWrong : ChangeSpec := { name := "fnExactCriticalFactors", fn := fun _ => fun
  | [d] => { results := [.lit (.bool false)], args := [d] }
  | _ => none }
def FnExactCriticalFactorsWrongFalsely : Prop := fnExactCriticalFactorsRow.holds Try.pinned (OpenSpec.ofChange fnExactCriticalFactorsWrong)

/-- 'laws.FnExactQuotientOfCover': WHATEVER THE INPUT: true; the input reads as it did. -/
def fnExactQuotientOfCoverSpec : ChangeSpec := { name := "fnExactQuotientOfCover", fn := fun _ => fun
  | [d] => { results := [.lit (.bool true)], args := [d] }
  | _ => none }
def fnExactQuotientOfCoverRow : OpenClaim := { program := "ytbfmnhgpmpnglaa", sum := "a3d297e765c60731f51ce66fc3e61eb8e21b462579b7e62f8a685f6a56477dfc", func := "loop.example/g01298/laws.FnExactQuotientOfCover", spec := "fnExactQuotientOfCover", unfollowed := true, recurses := true, apart := false }
def FnExactQuotientOfCoverSaid : Prop := fnExactQuotientOfCoverRow.holds Try.pinned (OpenSpec.ofChange fnExactQuotientOfCoverSpec)

/-- ITS FALSE NEIGHBOUR: 'it returns false'. Refute it at one input. -/
def fnExactQuotientOfCoverWrong : ChangeSpec := { name := "fnExactQuotientOfCover", fn := fun _ => fun
  | [d] => { results := [.lit (.bool false)], args := [d] }
  | _ => none }
def FnExactQuotientOfCoverWrongFalsely : Prop := fnExactQuotientOfCoverRow.holds Try.pinned (OpenSpec.ofChange fnExactQuotientOfCoverWrong)

/-- 'laws.FnExactOrderOfChips': WHATEVER THE INPUT: true; the input reads as it did. -/
def fnExactOrderOfChipsSpec : ChangeSpec := { name := "fnExactOrderOfChips", fn := fun _ => fun
  | [d1, d2] => { results := [.lit (.bool true)], args := [d1, d2] }
  | _ => none }
def fnExactOrderOfChipsRow : OpenClaim := { program := "ytbfmnhgpmpnglaa", sum := "a3d297e765c60731f51ce66fc3e61eb8e21b462579b7e62f8a685f6a56477dfc", func := "loop.example/g01298/laws.FnExactOrderOfChips", spec := "fnExactOrderOfChips", inPlace := ["slices.overlaps[int64]"], unfollowed := true, recurses := true, apart := false }
def FnExactOrderOfChipsSaid : Prop := fnExactOrderOfChipsRow.holds Try.pinned (OpenSpec.ofChange fnExactOrderOfChipsSpec)

/-- ITS FALSE NEIGHBOUR: 'it returns false'. Refute it at one input. -/
def fnExactOrderOfChipsWrong : ChangeSpec := { name := "fnExactOrderOfChips", fn := fun _ => fun
  | [d1, d2] => { results := [.lit (.bool false)], args := [d1, d2] }
  | _ => none }
def FnExactOrderOfChipsWrongFalsely : Prop := fnExactOrderOfChipsRow.holds Try.pinned (OpenSpec.ofChange fnExactOrderOfChipsWrong)

/- THE SECOND FORM. 'bulk': how many values and letters a reading holds, each counted each time it is reached (what is shared counts as often as it is met; a slice's spare places count too). A statement '..UptoSaid' is the law's where the arguments, and the package variables that the reading takes, are together of bulk at most 1048576: NARROWER than '..Said'. Prove '..Said' where nothing that the law and all that it calls make is longer than what came in: it says more and counts as full. Else prove '..UptoSaid'. A law counts once. -/
mutual
def uptoBulk {H : Type} : DataW H → Nat
  | .lit (.string bytes) => bytes.length + 1
  | .lit _ => 1
  | .nil => 1
  | .ptr d => uptoBulk d + 1
  | .slice elems spare => uptoBulkAll elems + uptoBulkAll spare + 1
  | .agg parts => uptoBulkAll parts + 1
  | .iface _ d => uptoBulk d + 1
  | .map entries => uptoBulkEntries entries + 1
  | .held _ => 1
def uptoBulkAll {H : Type} : List (DataW H) → Nat
  | [] => 0
  | d :: r => uptoBulk d + uptoBulkAll r
def uptoBulkEntries {H : Type} : List (Lit × DataW H) → Nat
  | [] => 0
  | x :: r => uptoBulkEntry x + uptoBulkEntries r
def uptoBulkEntry {H : Type} : Lit × DataW H → Nat
  | (.string bytes, d) => bytes.length + uptoBulk d + 1
  | (_, d) => uptoBulk d + 1
 end
def uptoSmall : (H : Type) → List (DataW H) → Bool := fun _ ds => decide (uptoBulkAll ds ≤ 1048576)
def OpenSpec.upto (s : _root_.Go.ChangeSpec) : _root_.Go.OpenSpec := { _root_.Go.OpenSpec.ofChange s with cond := some uptoSmall }

/-- 'laws.FnExactTraceResolvent', WHERE WHAT IT READS IS OF BULK AT MOST 1048576: true; the input reads as it did. -/
def fnExactTraceResolventUptoRow : OpenClaim := { program := "ytbfmnhgpmpnglaa", sum := "a3d297e765c60731f51ce66fc3e61eb8e21b462579b7e62f8a685f6a56477dfc", func := "loop.example/g01298/laws.FnExactTraceResolvent", spec := "fnExactTraceResolvent", unfollowed := true, recurses := true, apart := false, narrowed := true }
def FnExactTraceResolventUptoSaid : Prop := fnExactTraceResolventUptoRow.holds Try.pinned (OpenSpec.upto fnExactTraceResolventSpec)

/-- 'laws.FnExactResolventAt', WHERE WHAT IT READS IS OF BULK AT MOST 1048576: true; the input reads as it did. -/
def fnExactResolventAtUptoRow : OpenClaim := { program := "ytbfmnhgpmpnglaa", sum := "a3d297e765c60731f51ce66fc3e61eb8e21b462579b7e62f8a685f6a56477dfc", func := "loop.example/g01298/laws.FnExactResolventAt", spec := "fnExactResolventAt", unfollowed := true, recurses := true, apart := false, narrowed := true }
def FnExactResolventAtUptoSaid : Prop := fnExactResolventAtUptoRow.holds Try.pinned (OpenSpec.upto fnExactResolventAtSpec)

/-- 'laws.FnExactIsReducedAt', WHERE WHAT IT READS IS OF BULK AT MOST 1048576: true; the input reads as it did. -/
def fnExactIsReducedAtUptoRow : OpenClaim := { program := "ytbfmnhgpmpnglaa", sum := "a3d297e765c60731f51ce66fc3e61eb8e21b462579b7e62f8a685f6a56477dfc", func := "loop.example/g01298/laws.FnExactIsReducedAt", spec := "fnExactIsReducedAt", unfollowed := true, recurses := true, apart := false, narrowed := true }
def FnExactIsReducedAtUptoSaid : Prop := fnExactIsReducedAtUptoRow.holds Try.pinned (OpenSpec.upto fnExactIsReducedAtSpec)

/-- 'laws.FnExactCountClasses', WHERE WHAT IT READS IS OF BULK AT MOST 1048576: true; the input reads as it did. -/
def fnExactCountClassesUptoRow : OpenClaim := { program := "ytbfmnhgpmpnglaa", sum := "a3d297e765c60731f51ce66fc3e61eb8e21b462579b7e62f8a685f6a56477dfc", func := "loop.example/g01298/laws.FnExactCountClasses", spec := "fnExactCountClasses", unfollowed := true, recurses := true, apart := false, narrowed := true }
def FnExactCountClassesUptoSaid : Prop := fnExactCountClassesUptoRow.holds Try.pinned (OpenSpec.upto fnExactCountClassesSpec)

/-- 'laws.FnExactFactorsOf', WHERE WHAT IT READS IS OF BULK AT MOST 1048576: true; the input reads as it did. -/
def fnExactFactorsOfUptoRow : OpenClaim := { program := "ytbfmnhgpmpnglaa", sum := "a3d297e765c60731f51ce66fc3e61eb8e21b462579b7e62f8a685f6a56477dfc", func := "loop.example/g01298/laws.FnExactFactorsOf", spec := "fnExactFactorsOf", apart := false, narrowed := true }
def FnExactFactorsOfUptoSaid : Prop := fnExactFactorsOfUptoRow.holds Try.pinned (OpenSpec.upto fnExactFactorsOfSpec)

/-- 'laws.FnExactCriticalFactors', WHERE WHAT IT READS IS OF BULK AT MOST 1048576: true; the input reads as it did. -/
def fnExactCriticalFactorsUptoRow : OpenClaim := { program := "ytbfmnhgpmpnglaa", sum := "a3d297e765c60731f51ce66fc3e61eb8e21b462579b7e62f8a685f6a56477dfc", func := "loop.example/g01298/laws.FnExactCriticalFactors", spec := "fnExactCriticalFactors", unfollowed := true, recurses := true, apart := false, narrowed := true }
def FnExactCriticalFactorsUptoSaid : Prop := fnExactCriticalFactorsUptoRow.holds Try.pinned (OpenSpec.upto fnExactCriticalFactorsSpec)

/-- 'laws.FnExactQuotientOfCover', WHERE WHAT IT READS IS OF BULK AT MOST 1048576: true; the input reads as it did. -/
def fnExactQuotientOfCoverUptoRow : OpenClaim := { program := "ytbfmnhgpmpnglaa", sum := "a3d297e765c60731f51ce66fc3e61eb8e21b462579b7e62f8a685f6a56477dfc", func := "loop.example/g01298/laws.FnExactQuotientOfCover", spec := "fnExactQuotientOfCover", unfollowed := true, recurses := true, apart := false, narrowed := true }
def FnExactQuotientOfCoverUptoSaid : Prop := fnExactQuotientOfCoverUptoRow.holds Try.pinned (OpenSpec.upto fnExactQuotientOfCoverSpec)

/-- 'laws.FnExactOrderOfChips', WHERE WHAT IT READS IS OF BULK AT MOST 1048576: true; the input reads as it did. -/
def fnExactOrderOfChipsUptoRow : OpenClaim := { program := "ytbfmnhgpmpnglaa", sum := "a3d297e765c60731f51ce66fc3e61eb8e21b462579b7e62f8a685f6a56477dfc", func := "loop.example/g01298/laws.FnExactOrderOfChips", spec := "fnExactOrderOfChips", inPlace := ["slices.overlaps[int64]"], unfollowed := true, recurses := true, apart := false, narrowed := true }
def FnExactOrderOfChipsUptoSaid : Prop := fnExactOrderOfChipsUptoRow.holds Try.pinned (OpenSpec.upto fnExactOrderOfChipsSpec)

end Rows
end Go.Proofs.Ytbfmnhgpmpnglaa
