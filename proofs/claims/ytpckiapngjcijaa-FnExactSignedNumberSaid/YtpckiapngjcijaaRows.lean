/-
  No cell of these rows narrows 'for every input' (looked for: loops, veiled, ifaces, maps, wideKeys, modest, calm, conditions, laid).
  DERIVED. THE GIVEN ROWS OF THIS SEAT. 12 by the template 'for every input the law returns true; each argument reads behind the call as it read before'; 0 by the template 'total and deterministic' (their statements: YtpckiapngjcijaaTotals.lean).
  GIVEN WITH THE SEED: the statements are not yours to turn. If you find one false, say at which input.
  Laid BY PROGRAM, IN A SANDBOX (cutbox-rows.mjs): the forced cells as the released guide's own fill.sh prints them over the translation 77ccfe444486859f… (all of the seat's roots in one cut). By AI agents, Wed Nov 11 2026. No macro, syntax, notation, axiom, sorry.
-/
import Derived.Test.YtpckiapngjcijaaChecked
import GoSem.Claim
import GoSem.ClaimJoined
import GoSem.ClaimMapViews
import Derived.JoinedTies
import Derived.KernelRfl
namespace Go.Proofs.Ytpckiapngjcijaa
/- THE CELL 'sum', in the pinned program and in every row, IS THE sha256 OF THE DUMP (.gsa) THAT YtpckiapngjcijaaProg.lean LOADS. Nothing in Lean hashes anything: it is a label: what it is worth is what the hold of that sum in a sandbox is worth. -/
noncomputable def Try.pinned : Pinned := { name := "ytpckiapngjcijaa", sum := "77ccfe444486859fb3e95a0c94e05e39e459df737d8cd3d4431e2c01117f39d7", checked := Try.checked }
namespace Rows
def none {H : Type} : Left H := { results := [], args := [] }

/-- 'laws.FnExactPruneGraph': WHATEVER THE INPUT: true; the input reads as it did. -/
def fnExactPruneGraphSpec : ChangeSpec := { name := "fnExactPruneGraph", fn := fun _ => fun
  | [d] => { results := [.lit (.bool true)], args := [d] }
  | _ => none }
def fnExactPruneGraphRow : OpenClaim := { program := "ytpckiapngjcijaa", sum := "77ccfe444486859fb3e95a0c94e05e39e459df737d8cd3d4431e2c01117f39d7", func := "loop.example/g01298/laws.FnExactPruneGraph", spec := "fnExactPruneGraph", unfollowed := true, recurses := true, apart := false }
def FnExactPruneGraphSaid : Prop := fnExactPruneGraphRow.holds Try.pinned (OpenSpec.ofChange fnExactPruneGraphSpec)

/-- ITS FALSE NEIGHBOUR: 'it returns false'. Refute it at one input. -/
def fnExactPruneGraphWrong : ChangeSpec := { name := "fnExactPruneGraph", fn := fun _ => fun
  | [d] => { results := [.lit (.bool false)], args := [d] }
  | _ => none }
def FnExactPruneGraphWrongFalsely : Prop := fnExactPruneGraphRow.holds Try.pinned (OpenSpec.ofChange fnExactPruneGraphWrong)

/-- 'laws.FnExactDerivedGraph': WHATEVER THE INPUT: true; the input reads as it did. -/
def fnExactDerivedGraphSpec : ChangeSpec := { name := "fnExactDerivedGraph", fn := fun _ => fun
  | [d] => { results := [.lit (.bool true)], args := [d] }
  | _ => none }
def fnExactDerivedGraphRow : OpenClaim := { program := "ytpckiapngjcijaa", sum := "77ccfe444486859fb3e95a0c94e05e39e459df737d8cd3d4431e2c01117f39d7", func := "loop.example/g01298/laws.FnExactDerivedGraph", spec := "fnExactDerivedGraph", unfollowed := true, recurses := true, apart := false }
def FnExactDerivedGraphSaid : Prop := fnExactDerivedGraphRow.holds Try.pinned (OpenSpec.ofChange fnExactDerivedGraphSpec)

/-- ITS FALSE NEIGHBOUR: 'it returns false'. Refute it at one input. -/
def fnExactDerivedGraphWrong : ChangeSpec := { name := "fnExactDerivedGraph", fn := fun _ => fun
  | [d] => { results := [.lit (.bool false)], args := [d] }
  | _ => none }
def FnExactDerivedGraphWrongFalsely : Prop := fnExactDerivedGraphRow.holds Try.pinned (OpenSpec.ofChange fnExactDerivedGraphWrong)

/-- 'laws.FnExactFireVertex': WHATEVER THE INPUT: true; the input reads as it did. -/
def fnExactFireVertexSpec : ChangeSpec := { name := "fnExactFireVertex", fn := fun _ => fun
  | [d1, d2, d3] => { results := [.lit (.bool true)], args := [d1, d2, d3] }
  | _ => none }
def fnExactFireVertexRow : OpenClaim := { program := "ytpckiapngjcijaa", sum := "77ccfe444486859fb3e95a0c94e05e39e459df737d8cd3d4431e2c01117f39d7", func := "loop.example/g01298/laws.FnExactFireVertex", spec := "fnExactFireVertex", unfollowed := true, recurses := true, apart := false }
def FnExactFireVertexSaid : Prop := fnExactFireVertexRow.holds Try.pinned (OpenSpec.ofChange fnExactFireVertexSpec)

/-- ITS FALSE NEIGHBOUR: 'it returns false'. Refute it at one input. -/
def fnExactFireVertexWrong : ChangeSpec := { name := "fnExactFireVertex", fn := fun _ => fun
  | [d1, d2, d3] => { results := [.lit (.bool false)], args := [d1, d2, d3] }
  | _ => none }
def FnExactFireVertexWrongFalsely : Prop := fnExactFireVertexRow.holds Try.pinned (OpenSpec.ofChange fnExactFireVertexWrong)

/-- 'laws.FnExactDoubleCover': WHATEVER THE INPUT: true; the input reads as it did. -/
def fnExactDoubleCoverSpec : ChangeSpec := { name := "fnExactDoubleCover", fn := fun _ => fun
  | [d1, d2] => { results := [.lit (.bool true)], args := [d1, d2] }
  | _ => none }
def fnExactDoubleCoverRow : OpenClaim := { program := "ytpckiapngjcijaa", sum := "77ccfe444486859fb3e95a0c94e05e39e459df737d8cd3d4431e2c01117f39d7", func := "loop.example/g01298/laws.FnExactDoubleCover", spec := "fnExactDoubleCover", unfollowed := true, recurses := true, apart := false }
def FnExactDoubleCoverSaid : Prop := fnExactDoubleCoverRow.holds Try.pinned (OpenSpec.ofChange fnExactDoubleCoverSpec)

/-- ITS FALSE NEIGHBOUR: 'it returns false'. Refute it at one input. -/
def fnExactDoubleCoverWrong : ChangeSpec := { name := "fnExactDoubleCover", fn := fun _ => fun
  | [d1, d2] => { results := [.lit (.bool false)], args := [d1, d2] }
  | _ => none }
def FnExactDoubleCoverWrongFalsely : Prop := fnExactDoubleCoverRow.holds Try.pinned (OpenSpec.ofChange fnExactDoubleCoverWrong)

/-- 'laws.FnExactTraceResolvent': WHATEVER THE INPUT: true; the input reads as it did. -/
def fnExactTraceResolventSpec : ChangeSpec := { name := "fnExactTraceResolvent", fn := fun _ => fun
  | [d1, d2, d3] => { results := [.lit (.bool true)], args := [d1, d2, d3] }
  | _ => none }
def fnExactTraceResolventRow : OpenClaim := { program := "ytpckiapngjcijaa", sum := "77ccfe444486859fb3e95a0c94e05e39e459df737d8cd3d4431e2c01117f39d7", func := "loop.example/g01298/laws.FnExactTraceResolvent", spec := "fnExactTraceResolvent", unfollowed := true, recurses := true, apart := false }
def FnExactTraceResolventSaid : Prop := fnExactTraceResolventRow.holds Try.pinned (OpenSpec.ofChange fnExactTraceResolventSpec)

/-- ITS FALSE NEIGHBOUR: 'it returns false'. Refute it at one input. -/
def fnExactTraceResolventWrong : ChangeSpec := { name := "fnExactTraceResolvent", fn := fun _ => fun
  | [d1, d2, d3] => { results := [.lit (.bool false)], args := [d1, d2, d3] }
  | _ => none }
def FnExactTraceResolventWrongFalsely : Prop := fnExactTraceResolventRow.holds Try.pinned (OpenSpec.ofChange fnExactTraceResolventWrong)

/-- 'laws.FnExactResolventAt': WHATEVER THE INPUT: true; the input reads as it did. -/
def fnExactResolventAtSpec : ChangeSpec := { name := "fnExactResolventAt", fn := fun _ => fun
  | [d1, d2, d3, d4, d5] => { results := [.lit (.bool true)], args := [d1, d2, d3, d4, d5] }
  | _ => none }
def fnExactResolventAtRow : OpenClaim := { program := "ytpckiapngjcijaa", sum := "77ccfe444486859fb3e95a0c94e05e39e459df737d8cd3d4431e2c01117f39d7", func := "loop.example/g01298/laws.FnExactResolventAt", spec := "fnExactResolventAt", unfollowed := true, recurses := true, apart := false }
def FnExactResolventAtSaid : Prop := fnExactResolventAtRow.holds Try.pinned (OpenSpec.ofChange fnExactResolventAtSpec)

/-- ITS FALSE NEIGHBOUR: 'it returns false'. Refute it at one input. -/
def fnExactResolventAtWrong : ChangeSpec := { name := "fnExactResolventAt", fn := fun _ => fun
  | [d1, d2, d3, d4, d5] => { results := [.lit (.bool false)], args := [d1, d2, d3, d4, d5] }
  | _ => none }
def FnExactResolventAtWrongFalsely : Prop := fnExactResolventAtRow.holds Try.pinned (OpenSpec.ofChange fnExactResolventAtWrong)

/-- 'laws.FnExactIsReducedAt': WHATEVER THE INPUT: true; the input reads as it did. -/
def fnExactIsReducedAtSpec : ChangeSpec := { name := "fnExactIsReducedAt", fn := fun _ => fun
  | [d1, d2, d3] => { results := [.lit (.bool true)], args := [d1, d2, d3] }
  | _ => none }
def fnExactIsReducedAtRow : OpenClaim := { program := "ytpckiapngjcijaa", sum := "77ccfe444486859fb3e95a0c94e05e39e459df737d8cd3d4431e2c01117f39d7", func := "loop.example/g01298/laws.FnExactIsReducedAt", spec := "fnExactIsReducedAt", unfollowed := true, recurses := true, apart := false }
def FnExactIsReducedAtSaid : Prop := fnExactIsReducedAtRow.holds Try.pinned (OpenSpec.ofChange fnExactIsReducedAtSpec)

/-- ITS FALSE NEIGHBOUR: 'it returns false'. Refute it at one input. -/
def fnExactIsReducedAtWrong : ChangeSpec := { name := "fnExactIsReducedAt", fn := fun _ => fun
  | [d1, d2, d3] => { results := [.lit (.bool false)], args := [d1, d2, d3] }
  | _ => none }
def FnExactIsReducedAtWrongFalsely : Prop := fnExactIsReducedAtRow.holds Try.pinned (OpenSpec.ofChange fnExactIsReducedAtWrong)

/-- 'laws.FnExactRootsModulo': WHATEVER THE INPUT: true; the input reads as it did. -/
def fnExactRootsModuloSpec : ChangeSpec := { name := "fnExactRootsModulo", fn := fun _ => fun
  | [d1, d2] => { results := [.lit (.bool true)], args := [d1, d2] }
  | _ => none }
def fnExactRootsModuloRow : OpenClaim := { program := "ytpckiapngjcijaa", sum := "77ccfe444486859fb3e95a0c94e05e39e459df737d8cd3d4431e2c01117f39d7", func := "loop.example/g01298/laws.FnExactRootsModulo", spec := "fnExactRootsModulo", unfollowed := true, recurses := true, apart := false }
def FnExactRootsModuloSaid : Prop := fnExactRootsModuloRow.holds Try.pinned (OpenSpec.ofChange fnExactRootsModuloSpec)

/-- ITS FALSE NEIGHBOUR: 'it returns false'. Refute it at one input. -/
def fnExactRootsModuloWrong : ChangeSpec := { name := "fnExactRootsModulo", fn := fun _ => fun
  | [d1, d2] => { results := [.lit (.bool false)], args := [d1, d2] }
  | _ => none }
def FnExactRootsModuloWrongFalsely : Prop := fnExactRootsModuloRow.holds Try.pinned (OpenSpec.ofChange fnExactRootsModuloWrong)

/-- 'laws.FnExactEdgeValue': WHATEVER THE INPUT: true; the input reads as it did. -/
def fnExactEdgeValueSpec : ChangeSpec := { name := "fnExactEdgeValue", fn := fun _ => fun
  | [d1, d2, d3] => { results := [.lit (.bool true)], args := [d1, d2, d3] }
  | _ => none }
def fnExactEdgeValueRow : OpenClaim := { program := "ytpckiapngjcijaa", sum := "77ccfe444486859fb3e95a0c94e05e39e459df737d8cd3d4431e2c01117f39d7", func := "loop.example/g01298/laws.FnExactEdgeValue", spec := "fnExactEdgeValue", unfollowed := true, recurses := true, apart := false }
def FnExactEdgeValueSaid : Prop := fnExactEdgeValueRow.holds Try.pinned (OpenSpec.ofChange fnExactEdgeValueSpec)

/-- ITS FALSE NEIGHBOUR: 'it returns false'. Refute it at one input. -/
def fnExactEdgeValueWrong : ChangeSpec := { name := "fnExactEdgeValue", fn := fun _ => fun
  | [d1, d2, d3] => { results := [.lit (.bool false)], args := [d1, d2, d3] }
  | _ => none }
def FnExactEdgeValueWrongFalsely : Prop := fnExactEdgeValueRow.holds Try.pinned (OpenSpec.ofChange fnExactEdgeValueWrong)

/-- 'laws.FnExactCountClasses': WHATEVER THE INPUT: true; the input reads as it did. -/
def fnExactCountClassesSpec : ChangeSpec := { name := "fnExactCountClasses", fn := fun _ => fun
  | [d] => { results := [.lit (.bool true)], args := [d] }
  | _ => none }
def fnExactCountClassesRow : OpenClaim := { program := "ytpckiapngjcijaa", sum := "77ccfe444486859fb3e95a0c94e05e39e459df737d8cd3d4431e2c01117f39d7", func := "loop.example/g01298/laws.FnExactCountClasses", spec := "fnExactCountClasses", unfollowed := true, recurses := true, apart := false }
def FnExactCountClassesSaid : Prop := fnExactCountClassesRow.holds Try.pinned (OpenSpec.ofChange fnExactCountClassesSpec)

/-- ITS FALSE NEIGHBOUR: 'it returns false'. Refute it at one input. -/
def fnExactCountClassesWrong : ChangeSpec := { name := "fnExactCountClasses", fn := fun _ => fun
  | [d] => { results := [.lit (.bool false)], args := [d] }
  | _ => none }
def FnExactCountClassesWrongFalsely : Prop := fnExactCountClassesRow.holds Try.pinned (OpenSpec.ofChange fnExactCountClassesWrong)

/-- 'laws.FnExactFactorsOf': WHATEVER THE INPUT: true; the input reads as it did. -/
def fnExactFactorsOfSpec : ChangeSpec := { name := "fnExactFactorsOf", fn := fun _ => fun
  | [d] => { results := [.lit (.bool true)], args := [d] }
  | _ => none }
def fnExactFactorsOfRow : OpenClaim := { program := "ytpckiapngjcijaa", sum := "77ccfe444486859fb3e95a0c94e05e39e459df737d8cd3d4431e2c01117f39d7", func := "loop.example/g01298/laws.FnExactFactorsOf", spec := "fnExactFactorsOf", apart := false }
def FnExactFactorsOfSaid : Prop := fnExactFactorsOfRow.holds Try.pinned (OpenSpec.ofChange fnExactFactorsOfSpec)

/-- ITS FALSE NEIGHBOUR: 'it returns false'. Refute it at one input. -/
def fnExactFactorsOfWrong : ChangeSpec := { name := "fnExactFactorsOf", fn := fun _ => fun
  | [d] => { results := [.lit (.bool false)], args := [d] }
  | _ => none }
def FnExactFactorsOfWrongFalsely : Prop := fnExactFactorsOfRow.holds Try.pinned (OpenSpec.ofChange fnExactFactorsOfWrong)

/-- 'laws.FnExactSignedNumber': WHATEVER THE INPUT: true; the input reads as it did. -/
def fnExactSignedNumberSpec : ChangeSpec := { name := "fnExactSignedNumber", fn := fun _ => fun
  | [d1, d2] => { results := [.lit (.bool true)], args := [d1, d2] }
  | _ => none }
def fnExactSignedNumberRow : OpenClaim := { program := "ytpckiapngjcijaa", sum := "77ccfe444486859fb3e95a0c94e05e39e459df737d8cd3d4431e2c01117f39d7", func := "loop.example/g01298/laws.FnExactSignedNumber", spec := "fnExactSignedNumber", unfollowed := true, recurses := true, apart := false }
def FnExactSignedNumberSaid : Prop := fnExactSignedNumberRow.holds Try.pinned (OpenSpec.ofChange fnExactSignedNumberSpec)

/-- ITS FALSE NEIGHBOUR: 'it returns false'. Refute it at one input. -/
def fnExactSignedNumberWrong : ChangeSpec := { name := "fnExactSignedNumber", fn := fun _ => fun
  | [d1, d2] => { results := [.lit (.bool false)], args := [d1, d2] }
  | _ => none }
def FnExactSignedNumberWrongFalsely : Prop := fnExactSignedNumberRow.holds Try.pinned (OpenSpec.ofChange fnExactSignedNumberWrong)

/- THE SECOND FORM. 'bulk': how many values and letters a reading holds, each counted each time it is reached (what is shared counts as often as it is met; a slice's spare places count too). A statement '..UptoSaid' is the law's where the arguments, and the package variables that the reading takes, are together of bulk at most 1048576: NARROWER than '..Said'. Prove '..Said' where nothing that the law and all that it calls make is longer than what came in: it says more and counts as full. Else prove '..UptoSaid'. A law counts once. -/
mutual
def uptoBulk {H : Type} : DataW H → Nat
  | .lit (.string bytes) => bytes.length + 1
  | .lit _ => 1
  | .nil => 1
  | .ptr d => uptoBulk d + 1
  | .slice elems spare => uptoBulkAll elems + uptoBulkAll spare + 1
  | .agg parts => uptoBulkAll parts + 1
  | .iface _ d => uptoBulk d + 1
  | .map entries => uptoBulkEntries entries + 1
  | .held _ => 1
def uptoBulkAll {H : Type} : List (DataW H) → Nat
  | [] => 0
  | d :: r => uptoBulk d + uptoBulkAll r
def uptoBulkEntries {H : Type} : List (Lit × DataW H) → Nat
  | [] => 0
  | x :: r => uptoBulkEntry x + uptoBulkEntries r
def uptoBulkEntry {H : Type} : Lit × DataW H → Nat
  | (.string bytes, d) => bytes.length + uptoBulk d + 1
  | (_, d) => uptoBulk d + 1
 end
def uptoSmall : (H : Type) → List (DataW H) → Bool := fun _ ds => decide (uptoBulkAll ds ≤ 1048576)
def OpenSpec.upto (s : _root_.Go.ChangeSpec) : _root_.Go.OpenSpec := { _root_.Go.OpenSpec.ofChange s with cond := some uptoSmall }

/-- 'laws.FnExactPruneGraph', WHERE WHAT IT READS IS OF BULK AT MOST 1048576: true; the input reads as it did. -/
def fnExactPruneGraphUptoRow : OpenClaim := { program := "ytpckiapngjcijaa", sum := "77ccfe444486859fb3e95a0c94e05e39e459df737d8cd3d4431e2c01117f39d7", func := "loop.example/g01298/laws.FnExactPruneGraph", spec := "fnExactPruneGraph", unfollowed := true, recurses := true, apart := false, narrowed := true }
def FnExactPruneGraphUptoSaid : Prop := fnExactPruneGraphUptoRow.holds Try.pinned (OpenSpec.upto fnExactPruneGraphSpec)

/-- 'laws.FnExactDerivedGraph', WHERE WHAT IT READS IS OF BULK AT MOST 1048576: true; the input reads as it did. -/
def fnExactDerivedGraphUptoRow : OpenClaim := { program := "ytpckiapngjcijaa", sum := "77ccfe444486859fb3e95a0c94e05e39e459df737d8cd3d4431e2c01117f39d7", func := "loop.example/g01298/laws.FnExactDerivedGraph", spec := "fnExactDerivedGraph", unfollowed := true, recurses := true, apart := false, narrowed := true }
def FnExactDerivedGraphUptoSaid : Prop := fnExactDerivedGraphUptoRow.holds Try.pinned (OpenSpec.upto fnExactDerivedGraphSpec)

/-- 'laws.FnExactFireVertex', WHERE WHAT IT READS IS OF BULK AT MOST 1048576: true; the input reads as it did. -/
def fnExactFireVertexUptoRow : OpenClaim := { program := "ytpckiapngjcijaa", sum := "77ccfe444486859fb3e95a0c94e05e39e459df737d8cd3d4431e2c01117f39d7", func := "loop.example/g01298/laws.FnExactFireVertex", spec := "fnExactFireVertex", unfollowed := true, recurses := true, apart := false, narrowed := true }
def FnExactFireVertexUptoSaid : Prop := fnExactFireVertexUptoRow.holds Try.pinned (OpenSpec.upto fnExactFireVertexSpec)

/-- 'laws.FnExactDoubleCover', WHERE WHAT IT READS IS OF BULK AT MOST 1048576: true; the input reads as it did. -/
def fnExactDoubleCoverUptoRow : OpenClaim := { program := "ytpckiapngjcijaa", sum := "77ccfe444486859fb3e95a0c94e05e39e459df737d8cd3d4431e2c01117f39d7", func := "loop.example/g01298/laws.FnExactDoubleCover", spec := "fnExactDoubleCover", unfollowed := true, recurses := true, apart := false, narrowed := true }
def FnExactDoubleCoverUptoSaid : Prop := fnExactDoubleCoverUptoRow.holds Try.pinned (OpenSpec.upto fnExactDoubleCoverSpec)

/-- 'laws.FnExactTraceResolvent', WHERE WHAT IT READS IS OF BULK AT MOST 1048576: true; the input reads as it did. -/
def fnExactTraceResolventUptoRow : OpenClaim := { program := "ytpckiapngjcijaa", sum := "77ccfe444486859fb3e95a0c94e05e39e459df737d8cd3d4431e2c01117f39d7", func := "loop.example/g01298/laws.FnExactTraceResolvent", spec := "fnExactTraceResolvent", unfollowed := true, recurses := true, apart := false, narrowed := true }
def FnExactTraceResolventUptoSaid : Prop := fnExactTraceResolventUptoRow.holds Try.pinned (OpenSpec.upto fnExactTraceResolventSpec)

/-- 'laws.FnExactResolventAt', WHERE WHAT IT READS IS OF BULK AT MOST 1048576: true; the input reads as it did. -/
def fnExactResolventAtUptoRow : OpenClaim := { program := "ytpckiapngjcijaa", sum := "77ccfe444486859fb3e95a0c94e05e39e459df737d8cd3d4431e2c01117f39d7", func := "loop.example/g01298/laws.FnExactResolventAt", spec := "fnExactResolventAt", unfollowed := true, recurses := true, apart := false, narrowed := true }
def FnExactResolventAtUptoSaid : Prop := fnExactResolventAtUptoRow.holds Try.pinned (OpenSpec.upto fnExactResolventAtSpec)

/-- 'laws.FnExactIsReducedAt', WHERE WHAT IT READS IS OF BULK AT MOST 1048576: true; the input reads as it did. -/
def fnExactIsReducedAtUptoRow : OpenClaim := { program := "ytpckiapngjcijaa", sum := "77ccfe444486859fb3e95a0c94e05e39e459df737d8cd3d4431e2c01117f39d7", func := "loop.example/g01298/laws.FnExactIsReducedAt", spec := "fnExactIsReducedAt", unfollowed := true, recurses := true, apart := false, narrowed := true }
def FnExactIsReducedAtUptoSaid : Prop := fnExactIsReducedAtUptoRow.holds Try.pinned (OpenSpec.upto fnExactIsReducedAtSpec)

/-- 'laws.FnExactRootsModulo', WHERE WHAT IT READS IS OF BULK AT MOST 1048576: true; the input reads as it did. -/
def fnExactRootsModuloUptoRow : OpenClaim := { program := "ytpckiapngjcijaa", sum := "77ccfe444486859fb3e95a0c94e05e39e459df737d8cd3d4431e2c01117f39d7", func := "loop.example/g01298/laws.FnExactRootsModulo", spec := "fnExactRootsModulo", unfollowed := true, recurses := true, apart := false, narrowed := true }
def FnExactRootsModuloUptoSaid : Prop := fnExactRootsModuloUptoRow.holds Try.pinned (OpenSpec.upto fnExactRootsModuloSpec)

/-- 'laws.FnExactEdgeValue', WHERE WHAT IT READS IS OF BULK AT MOST 1048576: true; the input reads as it did. -/
def fnExactEdgeValueUptoRow : OpenClaim := { program := "ytpckiapngjcijaa", sum := "77ccfe444486859fb3e95a0c94e05e39e459df737d8cd3d4431e2c01117f39d7", func := "loop.example/g01298/laws.FnExactEdgeValue", spec := "fnExactEdgeValue", unfollowed := true, recurses := true, apart := false, narrowed := true }
def FnExactEdgeValueUptoSaid : Prop := fnExactEdgeValueUptoRow.holds Try.pinned (OpenSpec.upto fnExactEdgeValueSpec)

/-- 'laws.FnExactCountClasses', WHERE WHAT IT READS IS OF BULK AT MOST 1048576: true; the input reads as it did. -/
def fnExactCountClassesUptoRow : OpenClaim := { program := "ytpckiapngjcijaa", sum := "77ccfe444486859fb3e95a0c94e05e39e459df737d8cd3d4431e2c01117f39d7", func := "loop.example/g01298/laws.FnExactCountClasses", spec := "fnExactCountClasses", unfollowed := true, recurses := true, apart := false, narrowed := true }
def FnExactCountClassesUptoSaid : Prop := fnExactCountClassesUptoRow.holds Try.pinned (OpenSpec.upto fnExactCountClassesSpec)

/-- 'laws.FnExactFactorsOf', WHERE WHAT IT READS IS OF BULK AT MOST 1048576: true; the input reads as it did. -/
def fnExactFactorsOfUptoRow : OpenClaim := { program := "ytpckiapngjcijaa", sum := "77ccfe444486859fb3e95a0c94e05e39e459df737d8cd3d4431e2c01117f39d7", func := "loop.example/g01298/laws.FnExactFactorsOf", spec := "fnExactFactorsOf", apart := false, narrowed := true }
def FnExactFactorsOfUptoSaid : Prop := fnExactFactorsOfUptoRow.holds Try.pinned (OpenSpec.upto fnExactFactorsOfSpec)

/-- 'laws.FnExactSignedNumber', WHERE WHAT IT READS IS OF BULK AT MOST 1048576: true; the input reads as it did. -/
def fnExactSignedNumberUptoRow : OpenClaim := { program := "ytpckiapngjcijaa", sum := "77ccfe444486859fb3e95a0c94e05e39e459df737d8cd3d4431e2c01117f39d7", func := "loop.example/g01298/laws.FnExactSignedNumber", spec := "fnExactSignedNumber", unfollowed := true, recurses := true, apart := false, narrowed := true }
def FnExactSignedNumberUptoSaid : Prop := fnExactSignedNumberUptoRow.holds Try.pinned (OpenSpec.upto fnExactSignedNumberSpec)

end Rows
end Go.Proofs.Ytpckiapngjcijaa
